import PyProof.Rows.All
import HandS.ForMost
import HandS.Exc
import HandS.ExcOwn
import HandS.WordsExc
import HandS.Lambda
import HandS.Wide
import PyProof.StrBlock2
import PyProof.NeKinds
import HandS.Style
import HandS.More
import HandS.Iter
import HandS.Zip
import HandS.Text
import HandS.ExcInit
import KE.KExcSuper
import HandS.TryMany
import HandS.ExcField
import HandS.EndTab
import HandS.IsInst
import PyProof.ReprRoads
import KE.KNestM
import HandS.EndOwn
import HandS.FStr
import HandS.RaiseMore
import PyProof.ReprLen
import KE.IntTextLaws
import PySem.Challenge.RW_mostwebs_k10_plain_values_as_texts
set_option Elab.async false
set_option linter.all false
set_option maxRecDepth 100000
/-! MP1: values, stores, outcomes of the interpreter; what it means that they stand for the abstract heap's. -/
namespace MP
open PySem

/-- a value: what never changes is told whole, what may change stands in the store at an index -/
inductive D where
  | non | bl (b : Bool) | int (i : Int) | str (s : List Nat)
  | tup (ds : List D) | lst (ds : List D) | ref (i : Nat)
  /-- a list that stands still somewhere: the script -/
  | lsk (ds : List D)
  /-- a caught exception at a, its dict at d: the names of its fields, the fields -/
  | xo (a d : Addr) (ns : List Str) (ds : List D)
  /-- a def or a class of the text, by its number and where it stands -/
  | fv (k : Nat) (a : Addr)
  /-- an empty dict that stands still -/
  | emp

/-- what may change -/
inductive O where
  | lst (ds : List D)
  /-- an instance of the class with number c at C, its fields' names, its fields -/
  | ins (c : Nat) (C : Addr) (ns : List Str) (ds : List D)

structure St where
  objs : List O
  /-- for each running def how many objects stood at its entry, and whether one of these may have come to hold a later one -/
  fls : List (Nat × Bool)

inductive Out (α : Type) where
  | ok (a : α) (st : St) | exc (c : Nat) (fs : List D) (st : St) | bad

def Out.bind {α β : Type} (x : Out α) (f : α → St → Out β) : Out β :=
  match x with
  | .ok a st => f a st
  | .exc c fs st => .exc c fs st
  | .bad => .bad
@[simp] theorem Out.bind_ok {α β : Type} (a : α) (st : St) (f : α → St → Out β) : (Out.ok a st).bind f = f a st := rfl
@[simp] theorem Out.bind_exc {α β : Type} (c : Nat) (fs : List D) (st : St) (f : α → St → Out β) : (Out.exc c fs st).bind f = .exc c fs st := rfl
@[simp] theorem Out.bind_bad {α β : Type} (f : α → St → Out β) : (Out.bad : Out α).bind f = .bad := rfl

abbrev Env := List (Option D)

/-! ### what stands for what -/
open L2
section
variable (K : PySem.W.Frag) (m : List Addr) (H : Hp)
mutual
inductive R : V → D → Prop
  | non : R .non .non
  | bl (b : Bool) : R (.bl b) (.bl b)
  | int (i : Int) : R (.int i) (.int i)
  | str (x : List Nat) : R (.str ⟨x.toArray⟩) (.str x)
  | tup {a : Addr} {xs : List V} {ds : List D} : SqT K H a xs → Rs xs ds → R (.ref a) (.tup ds)
  | lst {a : Addr} {xs : List V} {ds : List D} : H a = some (.lst xs) → Rs xs ds → R (.ref a) (.lst ds)
  | lsk {a : Addr} {xs : List V} {ds : List D} : SqL K H a xs → Rs xs ds → R (.ref a) (.lsk ds)
  | ref {i : Nat} {a : Addr} : m[i]? = some a → R (.ref a) (.ref i)
  | xo {a d : Addr} {fs : List (Str × V)} {ns : List Str} {vs : List V} {ds : List D} : H d = some (.xd fs) → (∀ (j : Nat) (f : Str) (v : V), ns[j]? = some f → vs[j]? = some v → fs.lookup f = some v) → Rs vs ds → R (.ref a) (.xo a d ns ds)
  | fv (k : Nat) (a : Addr) : R (.ref a) (.fv k a)
  | emp {a : Addr} : H a = some (.dK []) → R (.ref a) .emp
inductive Rs : List V → List D → Prop
  | nil : Rs [] []
  | cons {v : V} {vs : List V} {d : D} {ds : List D} : R v d → Rs vs ds → Rs (v :: vs) (d :: ds)
end
end

/-- the later frozen heap has all that the earlier had; the later indexes go on from the earlier -/
structure Mono (m : List Addr) (F : Hp) (m' : List Addr) (F' : Hp) : Prop where
  fr : Same F F'
  ix : ∀ (i : Nat) (a : Addr), m[i]? = some a → m'[i]? = some a
theorem Mono.refl (m : List Addr) (F : Hp) : Mono m F m F := ⟨Same.refl F, fun _ _ h => h⟩
theorem Mono.trans {m m1 m2 : List Addr} {F F1 F2 : Hp} (a : Mono m F m1 F1) (b : Mono m1 F1 m2 F2) : Mono m F m2 F2 := ⟨a.fr.trans b.fr, fun i x h => b.ix i x (a.ix i x h)⟩
theorem _root_.L2.Same.sqt {K : PySem.W.Frag} {H H' : Hp} {a : Addr} {xs : List V} (e : Same H H') (h : SqT K H a xs) : SqT K H' a xs := by
  rcases h with (h | ⟨o, h⟩) | h
  · exact .inl (.inl (e _ _ h))
  · exact .inl (.inr ⟨o, e _ _ h⟩)
  · exact .inr h
section
variable {K : PySem.W.Frag} {m m' : List Addr} {F F' : Hp}
mutual
theorem R.mono (M : Mono m F m' F') : ∀ {v : V} {d : D}, R K m F v d → R K m' F' v d
  | _, _, .non => .non
  | _, _, .bl b => .bl b
  | _, _, .int i => .int i
  | _, _, .str x => .str x
  | _, _, .tup h r => .tup (M.fr.sqt h) (Rs.mono M r)
  | _, _, .lst h r => .lst (M.fr _ _ h) (Rs.mono M r)
  | _, _, .lsk h r => .lsk (M.fr.seq h) (Rs.mono M r)
  | _, _, .ref h => .ref (M.ix _ _ h)
  | _, _, .xo h l r => .xo (M.fr _ _ h) l (Rs.mono M r)
  | _, _, .fv k a => .fv k a
  | _, _, .emp h => .emp (M.fr _ _ h)
theorem Rs.mono (M : Mono m F m' F') : ∀ {vs : List V} {ds : List D}, Rs K m F vs ds → Rs K m' F' vs ds
  | _, _, .nil => .nil
  | _, _, .cons r t => .cons (R.mono M r) (Rs.mono M t)
end
theorem Rs.length : ∀ {vs : List V} {ds : List D}, Rs K m F vs ds → vs.length = ds.length
  | _, _, .nil => rfl
  | _, _, .cons _ t => congrArg Nat.succ (Rs.length t)
theorem Rs.get : ∀ {vs : List V} {ds : List D} {i : Nat} {d : D}, Rs K m F vs ds → ds[i]? = some d → ∃ v, vs[i]? = some v ∧ R K m F v d
  | _, _, _, _, .nil, e => by simp at e
  | _, _, 0, _, .cons r _, e => by simp at e; subst e; exact ⟨_, rfl, r⟩
  | _, _, i + 1, _, .cons _ t, e => by
    obtain ⟨v, h1, h2⟩ := Rs.get (i := i) t (by simpa using e)
    exact ⟨v, by simpa using h1, h2⟩
theorem Rs.getV : ∀ {vs : List V} {ds : List D} {i : Nat} {v : V}, Rs K m F vs ds → vs[i]? = some v → ∃ d, ds[i]? = some d ∧ R K m F v d
  | _, _, _, _, .nil, e => by simp at e
  | _, _, 0, _, .cons r _, e => by simp at e; subst e; exact ⟨_, rfl, r⟩
  | _, _, i + 1, _, .cons _ t, e => by
    obtain ⟨v, h1, h2⟩ := Rs.getV (i := i) t (by simpa using e)
    exact ⟨v, by simpa using h1, h2⟩
theorem Rs.append : ∀ {vs ws : List V} {ds es : List D}, Rs K m F vs ds → Rs K m F ws es → Rs K m F (vs ++ ws) (ds ++ es)
  | _, _, _, _, .nil, s => s
  | _, _, _, _, .cons r t, s => .cons r (Rs.append t s)
theorem Rs.drop : ∀ (n : Nat) {vs : List V} {ds : List D}, Rs K m F vs ds → Rs K m F (vs.drop n) (ds.drop n)
  | 0, _, _, r => r
  | _ + 1, _, _, .nil => .nil
  | n + 1, _, _, .cons _ t => Rs.drop n t
theorem Rs.take : ∀ (n : Nat) {vs : List V} {ds : List D}, Rs K m F vs ds → Rs K m F (vs.take n) (ds.take n)
  | 0, _, _, _ => .nil
  | _ + 1, _, _, .nil => .nil
  | n + 1, _, _, .cons r t => .cons r (Rs.take n t)
theorem Rs.set {x : V} {d : D} (r : R K m F x d) : ∀ {xs : List V} {us : List D} (i : Nat), Rs K m F xs us → Rs K m F (xs.set i x) (us.set i d)
  | _, _, _, .nil => .nil
  | _, _, 0, .cons _ t => .cons r t
  | _, _, i + 1, .cons q t => .cons q (Rs.set r i t)
end

/-- an object of the store stands in the heap -/
inductive OR (K : PySem.W.Frag) (m : List Addr) (F : Hp) : O → Option HO → Prop
  | lst {xs : List V} {ds : List D} : Rs K m F xs ds → OR K m F (.lst ds) (some (.lst xs))
  | ins {c : Nat} {C dx : Addr} {gs : List (Str × V)} {ds : List D} : (gs.map (·.1)).Nodup → Rs K m F (gs.map (·.2)) ds → OR K m F (.ins c C (gs.map (·.1)) ds) (some (.ins C dx gs))
theorem OR.mono {K : PySem.W.Frag} {m m' : List Addr} {F F' : Hp} (M : Mono m F m' F') {o : O} {h : Option HO} (r : OR K m F o h) : OR K m' F' o h := by
  cases r with
  | lst r => exact .lst (r.mono M)
  | ins e r => exact .ins e (r.mono M)

mutual
/-- all indexes of the store in a value lie below n -/
def D.lo (n : Nat) : D → Bool
  | .ref i => decide (i < n)
  | .tup ds => D.los n ds
  | .lst ds => D.los n ds
  | .lsk ds => D.los n ds
  | .xo _ _ _ ds => D.los n ds
  | _ => true
def D.los (n : Nat) : List D → Bool
  | [] => true
  | d :: ds => D.lo n d && D.los n ds
end
def O.lo (n : Nat) : O → Bool
  | .lst ds => D.los n ds
  | .ins _ _ _ ds => D.los n ds

abbrev NTabs := List (Addr × Str)
def notbl (o : HO) : Prop := ∀ ps, o ≠ .tbl ps
/-- at b nothing stands but a table perhaps -/
def Free (H : Hp) (b : Addr) : Prop := ∀ o, H b = some o → ¬ notbl o
theorem Free.of {H : Hp} {b : Addr} (h : H b = none) : Free H b := fun o e => by rw [h] at e; cases e
/-- the store stands in the heap: m the addresses, F the part that never changes -/
structure Rel (K : PySem.W.Frag) (T : NTabs) (m : List Addr) (F : Hp) (st : St) (H : Hp) : Prop where
  sub : Same F H
  ntb : ∀ b o, F b = some o → notbl o
  len : m.length = st.objs.length
  nd : m.Nodup
  sep : ∀ a ∈ m, F a = none
  obj : ∀ (i : Nat) (o : O) (a : Addr), st.objs[i]? = some o → m[i]? = some a → OR K m F o (H a)
  low : ∀ p ∈ st.fls, p.2 = false → ∀ (i : Nat) (o : O), i < p.1 → st.objs[i]? = some o → o.lo p.1 = true
  tabs : LamX.Tabs T H
theorem OR.there {K : PySem.W.Frag} {m : List Addr} {F : Hp} {o : O} {h : Option HO} (r : OR K m F o h) : ∃ u, h = some u ∧ notbl u := by
  cases r with
  | lst r => exact ⟨_, rfl, fun ps z => by cases z⟩
  | ins e r => exact ⟨_, rfl, fun ps z => by cases z⟩
theorem Rel.there {K : PySem.W.Frag} {T : NTabs} {m : List Addr} {F : Hp} {st : St} {H : Hp} (r : Rel K T m F st H) {a : Addr} (h : a ∈ m) : ∃ u, H a = some u ∧ notbl u := by
  obtain ⟨i, hi, e⟩ := List.getElem_of_mem h
  have hi' : i < st.objs.length := by rw [← r.len]; exact hi
  exact (r.obj i st.objs[i] a (List.getElem?_eq_getElem hi') (by rw [List.getElem?_eq_getElem hi, e])).there

/-- objects that may stand in the store -/
inductive Chg : HO → Prop
  | lst (xs : List V) : Chg (.lst xs)
  | ins (C dx : Addr) (fs : List (Str × V)) : Chg (.ins C dx fs)
theorem Chg.ntb {o : HO} (c : Chg o) : notbl o := fun ps z => by cases c <;> cases z
theorem OR.chg {K : PySem.W.Frag} {m : List Addr} {F : Hp} {o : O} {h : Option HO} (r : OR K m F o h) : ∃ u, h = some u ∧ Chg u := by
  cases r with
  | lst r => exact ⟨_, rfl, .lst _⟩
  | ins e r => exact ⟨_, rfl, .ins _ _ _⟩
theorem Rel.chg {K : PySem.W.Frag} {T : NTabs} {m : List Addr} {F : Hp} {st : St} {H : Hp} (r : Rel K T m F st H) {a : Addr} (h : a ∈ m) : ∃ u, H a = some u ∧ Chg u := by
  obtain ⟨i, hi, e⟩ := List.getElem_of_mem h
  have hi' : i < st.objs.length := by rw [← r.len]; exact hi
  exact (r.obj i st.objs[i] a (List.getElem?_eq_getElem hi') (by rw [List.getElem?_eq_getElem hi, e])).chg
/-- what a piece of code may do to the heap: only the store's objects change, new ones stand where nothing stood -/
structure Step (m : List Addr) (F H : Hp) (m' : List Addr) (F' H' : Hp) : Prop where
  mono : Mono m F m' F'
  pres : ∀ b o, H b = some o → b ∉ m → notbl o → H' b = some o
  new : ∀ a ∈ m', a ∈ m ∨ Free H a
  newF : ∀ b o, F' b = some o → F b = some o ∨ Free H b ∨ (H b = some o ∧ ¬ Chg o)
theorem Step.refl (m : List Addr) (F H : Hp) : Step m F H m F H := ⟨Mono.refl m F, fun _ _ h _ _ => h, fun _ h => .inl h, fun _ _ h => .inl h⟩
theorem Mono.mem {m m' : List Addr} {F F' : Hp} (M : Mono m F m' F') {a : Addr} (h : a ∈ m) : a ∈ m' := by
  obtain ⟨i, hi, e⟩ := List.getElem_of_mem h
  exact List.mem_of_getElem? (M.ix i a (by rw [List.getElem?_eq_getElem hi, e]))
theorem Step.free {K : PySem.W.Frag} {T : NTabs} {m m1 : List Addr} {F H F1 H1 : Hp} {st1 : St} (s : Step m F H m1 F1 H1) (r : Rel K T m1 F1 st1 H1) {b : Addr} (f : Free H1 b) : Free H b := fun o e n => by
  by_cases hb : b ∈ m
  · obtain ⟨u, e1, n1⟩ := r.there (s.mono.mem hb)
    exact f u e1 n1
  · exact f o (s.pres b o e hb n) n
theorem Step.trans {K : PySem.W.Frag} {T : NTabs} {m m1 m2 : List Addr} {F H F1 H1 F2 H2 : Hp} {st1 : St} (s : Step m F H m1 F1 H1) (r : Rel K T m1 F1 st1 H1) (t : Step m1 F1 H1 m2 F2 H2) : Step m F H m2 F2 H2 := by
  refine ⟨s.mono.trans t.mono, fun b o e hb n => t.pres b o (s.pres b o e hb n) (fun h1 => ?_) n, fun a h => ?_, fun b o e => ?_⟩
  · rcases s.new b h1 with z | z
    · exact hb z
    · exact z o e n
  · rcases t.new a h with z | z
    · exact s.new a z
    · exact .inr (s.free r z)
  · rcases t.newF b o e with z | z | ⟨z, nl⟩
    · exact s.newF b o z
    · exact .inr (.inl (s.free r z))
    · by_cases hf : Free H b
      · exact .inr (.inl hf)
      · refine .inr (.inr ⟨?_, nl⟩)
        cases q : H b with
        | none => exact absurd (Free.of q) hf
        | some u =>
          have hn : notbl u := fun ps z => hf fun o e n => by rw [q] at e; cases e; exact n ps z
          have hb : b ∉ m := fun hm => by
            obtain ⟨u, e1, cu⟩ := r.chg (s.mono.mem hm)
            rw [z] at e1; cases e1; exact nl cu
          have := s.pres b u q hb hn
          rw [z] at this; exact this.symm
end MP

set_option maxRecDepth 100000
/-! MP2: readings by the interpreter's outcomes, and the rules for expressions. -/
namespace MP
open PySem PySem.Spec PyProof.Rows L2

/-- what is known of the text's classes of exceptions: where class c stands, the names of its fields -/
structure XG where
  at_ : Nat → Addr
  fs : Nat → List Str

/-- the exception of class c with such fields, as it flies -/
def XR (g : XG) (K : PySem.W.Frag) (m : List Addr) (F : Hp) (c : Nat) (ds : List D) (cls : Value) (dx : Option Addr) (H : Hp) : Prop :=
  cls = .ref (g.at_ c) ∧ ((g.fs c = [] ∧ ds = []) ∨ ∃ (d : Addr) (fs : List (Str × V)), dx = some d ∧ H d = some (.xd fs) ∧ d ∉ m ∧ F d = none ∧ (g.fs c).length = ds.length ∧
    ∃ vs : List V, Rs K m F vs ds ∧ ∀ (i : Nat) (f : Str) (v : V), (g.fs c)[i]? = some f → vs[i]? = some v → fs.lookup f = some v)

structure EnvR (K : PySem.W.Frag) (m : List Addr) (F : Hp) (σ : L2.St) (ρ : Env) : Prop where
  len : σ.length = ρ.length
  get : ∀ (i : Nat) (d : D), ρ[i]? = some (some d) → ∃ v, σ[i]? = some (some v) ∧ R K m F v d
theorem EnvR.mono {K : PySem.W.Frag} {m m' : List Addr} {F F' : Hp} {σ : L2.St} {ρ : Env} (e : EnvR K m F σ ρ) (M : Mono m F m' F') : EnvR K m' F' σ ρ :=
  ⟨e.len, fun i d h => let ⟨v, h1, h2⟩ := e.get i d h; ⟨v, h1, h2.mono M⟩⟩

section
variable (K : PySem.W.Frag) (T : NTabs)
/-- what is wanted behind an outcome -/
def Post {α : Type} (m : List Addr) (F H : Hp) (P : α → List Addr → Hp → Hp → Prop) (X : Nat → List D → List Addr → Hp → Hp → Prop) : Out α → Prop
  | .ok a st' => ∀ m' F' H', Step m F H m' F' H' → Rel K T m' F' st' H' → P a m' F' H'
  | .exc c fs st' => ∀ m' F' H', Step m F H m' F' H' → Rel K T m' F' st' H' → X c fs m' F' H'
  | .bad => False
end
abbrev XW (g : XG) (K : PySem.W.Frag) (W : WX) (σ : L2.St) : Nat → List D → List Addr → Hp → Hp → Prop :=
  fun c fs m F H => ∀ cls dx, XR g K m F c fs cls dx H → W cls dx σ H
/-- the setting of a piece of code -/
structure Se where
  g : XG
  T : NTabs
section
variable (S : Se) (X : Cx) (W : WX)
/-- an expression's reading by its outcome -/
def TEof (f : Env → St → Out D) : TE := fun σ H Q => ∃ ρ m F st, EnvR X.K m F σ ρ ∧ Rel X.K S.T m F st H ∧
  Post X.K S.T m F H (fun d m' F' H' => ∀ v, R X.K m' F' v d → Q v H') (XW S.g X.K W σ) (f ρ st)
def TTof (f : Env → St → Out Bool) : TT := fun σ H Q => ∃ ρ m F st, EnvR X.K m F σ ρ ∧ Rel X.K S.T m F st H ∧
  Post X.K S.T m F H (fun b m' F' H' => Q b H') (XW S.g X.K W σ) (f ρ st)
def TAof (f : Env → St → Out (List D)) : TA := fun σ H Q => ∃ ρ m F st, EnvR X.K m F σ ρ ∧ Rel X.K S.T m F st H ∧
  Post X.K S.T m F H (fun ds m' F' H' => ∀ vs, Rs X.K m' F' vs ds → Q vs H') (XW S.g X.K W σ) (f ρ st)
end

/-- a weaker reading -/
theorem _root_.L2.PE.weak {X : Cx} {e : Expr} {t t' : TE} (h : PE X e t) (w : ∀ σ H Q, t' σ H Q → t σ H Q) : PE X e t' := ⟨fun pins s σ H Q I q => h.run pins s σ H Q I (w σ H Q q)⟩
theorem _root_.L2.PT.weak {X : Cx} {e : Expr} {t t' : TT} (h : PT X e t) (w : ∀ σ H Q, t' σ H Q → t σ H Q) : PT X e t' := ⟨fun pins s σ H Q I q => h.run pins s σ H Q I (w σ H Q q)⟩
theorem _root_.L2.PA.weak {X : Cx} {e : List Expr} {t t' : TA} (h : PA X e t) (w : ∀ σ H Q, t' σ H Q → t σ H Q) : PA X e t' := ⟨fun ps pins s σ H Q I q => h.run ps pins s σ H Q I (w σ H Q q)⟩

section
variable {S : Se} {X : Cx} {W : WX}
/-- going on behind an outcome -/
theorem Post.bind {α β : Type} {K : PySem.W.Frag} {T : NTabs} {m : List Addr} {F H : Hp} {P : β → List Addr → Hp → Hp → Prop} {Y : Nat → List D → List Addr → Hp → Hp → Prop} {x : Out α} {f : α → St → Out β}
    (h : Post K T m F H P Y (x.bind f)) : Post K T m F H (fun a m' F' H' => ∃ st', Rel K T m' F' st' H' ∧ Post K T m' F' H' P Y (f a st')) Y x := by
  cases x with
  | ok a st =>
    intro m' F' H' s r
    refine ⟨st, r, ?_⟩
    have h : Post K T m F H P Y (f a st) := h
    cases e : f a st with
    | ok b st2 =>
      rw [e] at h
      exact fun m2 F2 H2 s2 r2 => h m2 F2 H2 (s.trans r s2) r2
    | exc c fs st2 =>
      rw [e] at h
      exact fun m2 F2 H2 s2 r2 => h m2 F2 H2 (s.trans r s2) r2
    | bad => rw [e] at h; exact h
  | exc c fs st => exact h
  | bad => exact h
theorem Post.imp {α : Type} {K : PySem.W.Frag} {T : NTabs} {m : List Addr} {F H : Hp} {P P' : α → List Addr → Hp → Hp → Prop} {Y Y' : Nat → List D → List Addr → Hp → Hp → Prop} {x : Out α}
    (h : Post K T m F H P Y x) (hp : ∀ a m' F' H', Step m F H m' F' H' → P a m' F' H' → P' a m' F' H') (hy : ∀ c fs m' F' H', Y c fs m' F' H' → Y' c fs m' F' H') : Post K T m F H P' Y' x := by
  cases x with
  | ok a st => exact fun m' F' H' s r => hp _ _ _ _ s (h m' F' H' s r)
  | exc c fs st => exact fun m' F' H' s r => hy _ _ _ _ _ (h m' F' H' s r)
  | bad => exact h
/-- nothing done -/
theorem Post.now {α : Type} {K : PySem.W.Frag} {T : NTabs} {m : List Addr} {F H : Hp} {P : α → List Addr → Hp → Hp → Prop} {Y : Nat → List D → List Addr → Hp → Hp → Prop} {a : α} {st : St}
    (h : Post K T m F H P Y (.ok a st)) (r : Rel K T m F st H) : P a m F H := h m F H (Step.refl m F H) r

/-! ### names, constants -/
def fVar (i : Nat) : Env → St → Out D := fun ρ st => match ρ[i]? with
  | some (some d) => .ok d st
  | _ => .bad
theorem s_var {i : Nat} {x : Str} {pos : Pos} (hN : X.N[i]? = some x) (hv : Vis X.env.scope x) (hd : (x == ("__debug__" : Str)) = false) (hcd : (x == ("__classdict__" : Str)) = false) : PE X (.Name x pos) (TEof S X W (fVar i)) := by
  refine (pe_var hN hv hd hcd).weak fun σ H Q ⟨ρ, m, F, st, E, r, h⟩ => ?_
  unfold fVar at h
  split at h
  · rename_i d e
    obtain ⟨v, h1, h2⟩ := E.get i d e
    exact ⟨v, h1, h.now r v h2⟩
  · exact h.elim
def fC (d : D) : Env → St → Out D := fun _ st => .ok d st
theorem s_c {e : Expr} {v : V} {d : D} (h : PE X e (tC v)) (hr : ∀ m F, R X.K m F v d) : PE X e (TEof S X W (fC d)) :=
  h.weak fun σ H Q ⟨ρ, m, F, st, E, r, q⟩ => Post.now (P := fun d m' F' H' => ∀ v, R X.K m' F' v d → Q v H') q r v (hr m F)
theorem s_int {i : Int} {j pos} : PE X (.Constant (.int i) j pos) (TEof S X W (fC (.int i))) := s_c pe_int fun _ _ => .int i
theorem s_bl {b : Bool} {j pos} : PE X (.Constant (.bool b) j pos) (TEof S X W (fC (.bl b))) := s_c pe_bl fun _ _ => .bl b
theorem s_non {j pos} : PE X (.Constant .none j pos) (TEof S X W (fC .non)) := s_c pe_non fun _ _ => .non
theorem s_str {x : Str} {j pos} : PE X (.Constant (.str x) j pos) (TEof S X W (fC (.str x.cps.toList))) := s_c pe_str fun _ _ => .str x.cps.toList

/-! ### argument lists -/
def fNil : Env → St → Out (List D) := fun _ st => .ok [] st
def fCons (f : Env → St → Out D) (g : Env → St → Out (List D)) : Env → St → Out (List D) := fun ρ st => (f ρ st).bind fun d st1 => (g ρ st1).bind fun ds st2 => .ok (d :: ds) st2
theorem s_nil : PA X [] (TAof S X W fNil) := pa_nil.weak fun σ H Q ⟨ρ, m, F, st, E, r, h⟩ => Post.now (P := fun ds m' F' H' => ∀ vs, Rs X.K m' F' vs ds → Q vs H') h r [] .nil
theorem s_cons {e : Expr} {es : List Expr} {f : Env → St → Out D} {g : Env → St → Out (List D)} (h1 : PE X e (TEof S X W f)) (h2 : PA X es (TAof S X W g)) (hs : starEach (e :: es) X.env = (false, eval e X.env) :: starEach es X.env) :
    PA X (e :: es) (TAof S X W (fCons f g)) := by
  refine (pa_cons h1 h2 hs).weak fun σ H Q ⟨ρ, m, F, st, E, r, h⟩ => ?_
  refine ⟨ρ, m, F, st, E, r, (Post.bind h).imp (fun d m1 F1 H1 s1 q v rv => ?_) fun _ _ _ _ _ y => y⟩
  obtain ⟨st1, r1, q⟩ := q
  refine ⟨ρ, m1, F1, st1, E.mono s1.mono, r1, (Post.bind q).imp (fun ds m2 F2 H2 s2 q2 vs rvs => ?_) fun _ _ _ _ _ y => y⟩
  obtain ⟨st2, r2, q2⟩ := q2
  exact Post.now (P := fun ds m' F' H' => ∀ vs, Rs X.K m' F' vs ds → Q vs H') q2 r2 (v :: vs) (.cons (rv.mono s2.mono) rvs)

/-! ### two operands -/
def f2 (op : D → D → St → Out D) (f g : Env → St → Out D) : Env → St → Out D := fun ρ st => (f ρ st).bind fun x st1 => (g ρ st1).bind fun y st2 => op x y st2
abbrev PD (S : Se) (X : Cx) (W : WX) (σ : L2.St) (m : List Addr) (F H : Hp) (Q : VK) (o : Out D) : Prop := Post X.K S.T m F H (fun d m' F' H' => ∀ v, R X.K m' F' v d → Q v H') (XW S.g X.K W σ) o
/-- an operation of two values does what o says -/
def Op2 (S : Se) (X : Cx) (W : WX) (sem : Value → Value → Sem Value) (o : D → D → St → Out D) : Prop :=
  ∃ r2 : R2, OpR X sem r2 ∧ ∀ σ m F st H Q v w x y, Rel X.K S.T m F st H → R X.K m F v x → R X.K m F w y → PD S X W σ m F H Q (o x y st) → r2 v w H Q
theorem i_2 {r2 : R2} {f g : Env → St → Out D} {op : D → D → St → Out D}
    (ho : ∀ σ m F st H Q v w x y, Rel X.K S.T m F st H → R X.K m F v x → R X.K m F w y → PD S X W σ m F H Q (op x y st) → r2 v w H Q) :
    ∀ σ H Q, TEof S X W (f2 op f g) σ H Q → tOp r2 (TEof S X W f) (TEof S X W g) σ H Q := by
  intro σ H Q ⟨ρ, m, F, st, E, r, h⟩
  refine ⟨ρ, m, F, st, E, r, (Post.bind h).imp (fun x m1 F1 H1 s1 q v rv => ?_) fun _ _ _ _ _ y => y⟩
  obtain ⟨st1, r1, q⟩ := q
  refine ⟨ρ, m1, F1, st1, E.mono s1.mono, r1, (Post.bind q).imp (fun y m2 F2 H2 s2 q2 w rw => ?_) fun _ _ _ _ _ y => y⟩
  obtain ⟨st2, r2', q2⟩ := q2
  exact ho σ m2 F2 st2 H2 Q v w x y r2' (rv.mono s2.mono) rw q2
theorem s_bin {a b : Expr} {op : Operator} {pos : Pos} {f g : Env → St → Out D} {o : D → D → St → Out D} (h : Op2 S X W (binaryOp op) o) (ha : PE X a (TEof S X W f)) (hb : PE X b (TEof S X W g)) : PE X (.BinOp a op b pos) (TEof S X W (f2 o f g)) := by
  obtain ⟨r2, h1, h2⟩ := h
  exact (pe_op h1 ha hb).weak (i_2 h2)
/-- a test by a bool -/
def fB (f : Env → St → Out D) : Env → St → Out Bool := fun ρ st => (f ρ st).bind fun d st1 => match d with
  | .bl b => .ok b st1
  | _ => .bad
theorem tt_te {f : Env → St → Out D} {σ : L2.St} {H : Hp} {Q : Bool → Hp → Prop} (h : TTof S X W (fB f) σ H Q) : TEof S X W f σ H fun x H' => ∃ k, x = .bl k ∧ Q k H' := by
  obtain ⟨ρ, m, F, st, E, r, h⟩ := h
  refine ⟨ρ, m, F, st, E, r, (Post.bind h).imp (fun d m1 F1 H1 s1 q v rv => ?_) fun _ _ _ _ _ y => y⟩
  obtain ⟨st1, r1, q⟩ := q
  cases rv with
  | bl b => exact ⟨b, rfl, q.now r1⟩
  | _ => exact q.elim
theorem s_cmp {a b : Expr} {op : CmpOp} {pos : Pos} {f g : Env → St → Out D} {o : D → D → St → Out D} (h : Op2 S X W (compareOp op) o) (hm : behindInMarks op b = false) (ha : PE X a (TEof S X W f)) (hb : PE X b (TEof S X W g)) :
    PE X (.Compare a [op] [b] pos) (TEof S X W (f2 o f g)) := by
  obtain ⟨r2, h1, h2⟩ := h
  exact (pe_cmpR h1 ha hb hm).weak (i_2 h2)
theorem s_cmpT {a b : Expr} {op : CmpOp} {pos : Pos} {f g : Env → St → Out D} {o : D → D → St → Out D} (h : Op2 S X W (compareOp op) o) (hm : behindInMarks op b = false) (ha : PE X a (TEof S X W f)) (hb : PE X b (TEof S X W g)) :
    PT X (.Compare a [op] [b] pos) (TTof S X W (fB (f2 o f g))) := by
  obtain ⟨r2, h1, h2⟩ := h
  exact (pt_cmpR h1 ha hb hm).weak fun σ H Q q => i_2 h2 σ H _ (tt_te q)
/-- a < b < c -/
def fChain (o o' : D → D → St → Out D) (f g k : Env → St → Out D) : Env → St → Out D := fun ρ st => (f ρ st).bind fun x st1 => (g ρ st1).bind fun y st2 => (o x y st2).bind fun z st3 => match z with
  | .bl true => (k ρ st3).bind fun w st4 => o' y w st4
  | .bl false => .ok (.bl false) st3
  | _ => .bad
theorem i_chain {r r' : R2} {f g k : Env → St → Out D} {o o' : D → D → St → Out D}
    (ho : ∀ σ m F st H Q v w x y, Rel X.K S.T m F st H → R X.K m F v x → R X.K m F w y → PD S X W σ m F H Q (o x y st) → r v w H Q)
    (ho' : ∀ σ m F st H Q v w x y, Rel X.K S.T m F st H → R X.K m F v x → R X.K m F w y → PD S X W σ m F H Q (o' x y st) → r' v w H Q) :
    ∀ σ H Q, TEof S X W (fChain o o' f g k) σ H Q → tChain r r' (TEof S X W f) (TEof S X W g) (TEof S X W k) σ H Q := by
  intro σ H Q ⟨ρ, m, F, st, E, rl, h⟩
  refine ⟨ρ, m, F, st, E, rl, (Post.bind h).imp (fun x m1 F1 H1 s1 q v rv => ?_) fun _ _ _ _ _ y => y⟩
  obtain ⟨st1, r1, q⟩ := q
  refine ⟨ρ, m1, F1, st1, E.mono s1.mono, r1, (Post.bind q).imp (fun y m2 F2 H2 s2 q2 w rw => ?_) fun _ _ _ _ _ y => y⟩
  obtain ⟨st2, r2', q2⟩ := q2
  refine ho σ m2 F2 st2 H2 _ v w x y r2' (rv.mono s2.mono) rw ((Post.bind q2).imp (fun z m3 F3 H3 s3 q3 u ru => ?_) fun _ _ _ _ _ y => y)
  obtain ⟨st3, r3, q3⟩ := q3
  cases ru with
  | bl b =>
    refine ⟨b, rfl, ?_⟩
    cases b with
    | true =>
      refine iteT ⟨ρ, m3, F3, st3, (E.mono s1.mono).mono (s2.mono.trans s3.mono), r3, (Post.bind q3).imp (fun t m4 F4 H4 s4 q4 w' rw' => ?_) fun _ _ _ _ _ y => y⟩
      obtain ⟨st4, r4, q4⟩ := q4
      exact ho' σ m4 F4 st4 H4 Q w w' y t r4 ((rw.mono s3.mono).mono s4.mono) rw' q4
    | false => exact iteF (Post.now (P := fun d m' F' H' => ∀ v, R X.K m' F' v d → Q v H') q3 r3 _ (.bl false))
  | _ => exact q3.elim
theorem s_chain {a b c : Expr} {op op' : CmpOp} {pos : Pos} {f g k : Env → St → Out D} {o o' : D → D → St → Out D} (h : Op2 S X W (compareOp op) o) (h' : Op2 S X W (compareOp op') o') (hm : lastMarks [op, op'] [b, c] = false)
    (ha : PE X a (TEof S X W f)) (hb : PE X b (TEof S X W g)) (hc : PE X c (TEof S X W k)) : PE X (.Compare a [op, op'] [b, c] pos) (TEof S X W (fChain o o' f g k)) := by
  obtain ⟨r2, h1, h2⟩ := h
  obtain ⟨r2', h1', h2'⟩ := h'
  exact (pe_chain h1 h1' ha hb hc hm).weak (i_chain h2 h2')
theorem s_chainT {a b c : Expr} {op op' : CmpOp} {pos : Pos} {f g k : Env → St → Out D} {o o' : D → D → St → Out D} (h : Op2 S X W (compareOp op) o) (h' : Op2 S X W (compareOp op') o') (hm : lastMarks [op, op'] [b, c] = false)
    (ha : PE X a (TEof S X W f)) (hb : PE X b (TEof S X W g)) (hc : PE X c (TEof S X W k)) : PT X (.Compare a [op, op'] [b, c] pos) (TTof S X W (fB (fChain o o' f g k))) := by
  obtain ⟨r2, h1, h2⟩ := h
  obtain ⟨r2', h1', h2'⟩ := h'
  exact (pt_chain h1 h1' ha hb hc hm).weak fun σ H Q q => i_chain h2 h2' σ H _ (tt_te q)

/-! ### tests -/
/-- any expression whose value is a bool, as a test -/
theorem s_val {a : Expr} {f : Env → St → Out D} (ha : PE X a (TEof S X W f)) (he : ∀ whole, isTrue a X.env whole = (do let v ← whole; standAt a.pos; holding [v] (truthy v))) : PT X a (TTof S X W (fB f)) :=
  (pt_val ha he).weak fun σ H Q q => tt_te q
def fNotT (f : Env → St → Out Bool) : Env → St → Out Bool := fun ρ st => (f ρ st).bind fun b st1 => .ok (!b) st1
theorem s_notT {a : Expr} {pos : Pos} {f : Env → St → Out Bool} (ha : PT X a (TTof S X W f)) : PT X (.UnaryOp .Not a pos) (TTof S X W (fNotT f)) := by
  refine (pt_not ha).weak fun σ H Q ⟨ρ, m, F, st, E, r, h⟩ => ⟨ρ, m, F, st, E, r, (Post.bind h).imp (fun b m1 F1 H1 s1 q => ?_) fun _ _ _ _ _ y => y⟩
  obtain ⟨st1, r1, q⟩ := q
  exact Post.now (P := fun b m' F' H' => Q b H') q r1
def fAndT (f g : Env → St → Out Bool) : Env → St → Out Bool := fun ρ st => (f ρ st).bind fun b st1 => if b = true then g ρ st1 else .ok false st1
def fOrT (f g : Env → St → Out Bool) : Env → St → Out Bool := fun ρ st => (f ρ st).bind fun b st1 => if b = true then .ok true st1 else g ρ st1
theorem _root_.L2.PW.weak {X : Cx} {e : Expr} {t t' : TT} (h : PW X e t) (w : ∀ σ H Q, t' σ H Q → t σ H Q) : PW X e t' := ⟨fun wh pins s σ H Q I q => h.run wh pins s σ H Q I (w σ H Q q)⟩
theorem s_andT {a b : Expr} {rest : List Expr} {pos : Pos} {f g : Env → St → Out Bool} (ha : PT X a (TTof S X W f)) (hb : PW X (.BoolOp .And (b :: rest) pos) (TTof S X W g)) : PW X (.BoolOp .And (a :: b :: rest) pos) (TTof S X W (fAndT f g)) := by
  refine (pw_and ha hb).weak fun σ H Q ⟨ρ, m, F, st, E, r, h⟩ => ⟨ρ, m, F, st, E, r, (Post.bind h).imp (fun b m1 F1 H1 s1 q => ?_) fun _ _ _ _ _ y => y⟩
  obtain ⟨st1, r1, q⟩ := q
  cases b with
  | true => exact iteT ⟨ρ, m1, F1, st1, E.mono s1.mono, r1, q⟩
  | false => exact iteF (Post.now (P := fun b m' F' H' => Q b H') q r1)
theorem s_orT {a b : Expr} {rest : List Expr} {pos : Pos} {f g : Env → St → Out Bool} (ha : PT X a (TTof S X W f)) (hb : PW X (.BoolOp .Or (b :: rest) pos) (TTof S X W g)) : PW X (.BoolOp .Or (a :: b :: rest) pos) (TTof S X W (fOrT f g)) := by
  refine (pw_or ha hb).weak fun σ H Q ⟨ρ, m, F, st, E, r, h⟩ => ⟨ρ, m, F, st, E, r, (Post.bind h).imp (fun b m1 F1 H1 s1 q => ?_) fun _ _ _ _ _ y => y⟩
  obtain ⟨st1, r1, q⟩ := q
  cases b with
  | true => exact iteT (Post.now (P := fun b m' F' H' => Q b H') q r1)
  | false => exact iteF ⟨ρ, m1, F1, st1, E.mono s1.mono, r1, q⟩
/-- and, or, not, .. if .. else .. as values -/
def fAnd (f g : Env → St → Out D) : Env → St → Out D := fun ρ st => (f ρ st).bind fun d st1 => match d with
  | .bl true => g ρ st1
  | .bl false => .ok (.bl false) st1
  | _ => .bad
def fOr (f g : Env → St → Out D) : Env → St → Out D := fun ρ st => (f ρ st).bind fun d st1 => match d with
  | .bl true => .ok (.bl true) st1
  | .bl false => g ρ st1
  | _ => .bad
def fNot (f : Env → St → Out D) : Env → St → Out D := fun ρ st => (f ρ st).bind fun d st1 => match d with
  | .bl b => .ok (.bl !b) st1
  | _ => .bad
theorem s_and {a b : Expr} {rest : List Expr} {pos : Pos} {f g : Env → St → Out D} (ha : PE X a (TEof S X W f)) (hb : PE X (.BoolOp .And (b :: rest) pos) (TEof S X W g)) : PE X (.BoolOp .And (a :: b :: rest) pos) (TEof S X W (fAnd f g)) := by
  refine (pe_and ha hb).weak fun σ H Q ⟨ρ, m, F, st, E, r, h⟩ => ⟨ρ, m, F, st, E, r, (Post.bind h).imp (fun d m1 F1 H1 s1 q v rv => ?_) fun _ _ _ _ _ y => y⟩
  obtain ⟨st1, r1, q⟩ := q
  cases rv with
  | bl b =>
    refine ⟨b, rfl, ?_⟩
    cases b with
    | true => exact iteT ⟨ρ, m1, F1, st1, E.mono s1.mono, r1, q⟩
    | false => exact iteF (Post.now (P := fun d m' F' H' => ∀ v, R X.K m' F' v d → Q v H') q r1 _ (.bl false))
  | _ => exact q.elim
theorem s_or {a b : Expr} {rest : List Expr} {pos : Pos} {f g : Env → St → Out D} (ha : PE X a (TEof S X W f)) (hb : PE X (.BoolOp .Or (b :: rest) pos) (TEof S X W g)) : PE X (.BoolOp .Or (a :: b :: rest) pos) (TEof S X W (fOr f g)) := by
  refine (pe_or ha hb).weak fun σ H Q ⟨ρ, m, F, st, E, r, h⟩ => ⟨ρ, m, F, st, E, r, (Post.bind h).imp (fun d m1 F1 H1 s1 q v rv => ?_) fun _ _ _ _ _ y => y⟩
  obtain ⟨st1, r1, q⟩ := q
  cases rv with
  | bl b =>
    refine ⟨b, rfl, ?_⟩
    cases b with
    | false => exact iteF ⟨ρ, m1, F1, st1, E.mono s1.mono, r1, q⟩
    | true => exact iteT (Post.now (P := fun d m' F' H' => ∀ v, R X.K m' F' v d → Q v H') q r1 _ (.bl true))
  | _ => exact q.elim
theorem s_not {a : Expr} {pos : Pos} {f : Env → St → Out D} (ha : PE X a (TEof S X W f)) : PE X (.UnaryOp .Not a pos) (TEof S X W (fNot f)) := by
  refine (pe_not ha).weak fun σ H Q ⟨ρ, m, F, st, E, r, h⟩ => ⟨ρ, m, F, st, E, r, (Post.bind h).imp (fun d m1 F1 H1 s1 q v rv => ?_) fun _ _ _ _ _ y => y⟩
  obtain ⟨st1, r1, q⟩ := q
  cases rv with
  | bl b => exact ⟨b, rfl, Post.now (P := fun d m' F' H' => ∀ v, R X.K m' F' v d → Q v H') q r1 _ (.bl _)⟩
  | _ => exact q.elim
def fIf (c : Env → St → Out Bool) (f g : Env → St → Out D) : Env → St → Out D := fun ρ st => (c ρ st).bind fun b st1 => if b = true then f ρ st1 else g ρ st1
theorem s_if {c a b : Expr} {pos : Pos} {fc : Env → St → Out Bool} {f g : Env → St → Out D} (hc : PT X c (TTof S X W fc)) (ha : PE X a (TEof S X W f)) (hb : PE X b (TEof S X W g)) : PE X (.IfExp c a b pos) (TEof S X W (fIf fc f g)) := by
  refine (pe_ifExp hc ha hb).weak fun σ H Q ⟨ρ, m, F, st, E, r, h⟩ => ⟨ρ, m, F, st, E, r, (Post.bind h).imp (fun b m1 F1 H1 s1 q => ?_) fun _ _ _ _ _ y => y⟩
  obtain ⟨st1, r1, q⟩ := q
  cases b with
  | true => exact iteT ⟨ρ, m1, F1, st1, E.mono s1.mono, r1, q⟩
  | false => exact iteF ⟨ρ, m1, F1, st1, E.mono s1.mono, r1, q⟩
end
end MP

set_option maxRecDepth 100000
set_option maxHeartbeats 1000000
/-! MP3: displays, arithmetic, comparisons. -/
namespace MP
open PySem PySem.Spec PyProof.Rows L2


theorem lim_le {n : Nat} (h : n ≤ 16777216) : n ≤ sizeLine := by rw [sizeLine_eq]; exact h

/-! ### new things that never change -/
section
variable {K : PySem.W.Frag} {T : NTabs} {m : List Addr} {F H : Hp} {st : St}
theorem Rel.noF (r : Rel K T m F st H) {p : Addr} (hp : H p = none) : F p = none := by
  cases e : F p with
  | none => rfl
  | some o => rw [r.sub p o e] at hp; cases hp
theorem Rel.notin (r : Rel K T m F st H) {p : Addr} (hp : H p = none) : p ∉ m := fun h => by
  obtain ⟨u, e, _⟩ := r.there h
  rw [e] at hp; cases hp
theorem same_upd {H : Hp} {p : Addr} (hp : H p = none) (o : HO) : Same H (upd H p o) := fun b u q => by rw [upd_ne (ne_of_none q hp)]; exact q
theorem Rel.frz (r : Rel K T m F st H) {p : Addr} {o : HO} (hp : H p = none) (hn : notbl o) : Step m F H m (upd F p o) (upd H p o) ∧ Rel K T m (upd F p o) st (upd H p o) := by
  have hF := r.noF hp
  have M : Mono m F m (upd F p o) := ⟨same_upd hF o, fun _ _ h => h⟩
  refine ⟨⟨M, fun b u e _ _ => same_upd hp o b u e, fun _ h => .inl h, fun b u e => ?_⟩, ?_⟩
  · by_cases hb : b = p
    · subst hb; exact .inr (.inl (.of hp))
    · rw [upd_ne hb] at e; exact .inl e
  · refine ⟨fun b u e => ?_, fun b u e => ?_, r.len, r.nd, fun a ha => ?_, fun i u a h1 h2 => ?_, r.low, r.tabs.ext (same_upd hp o)⟩
    · by_cases hb : b = p
      · subst hb; rw [upd_same] at e ⊢; exact e
      · rw [upd_ne hb] at e ⊢; exact r.sub b u e
    · by_cases hb : b = p
      · subst hb; rw [upd_same] at e; cases e; exact hn
      · rw [upd_ne hb] at e; exact r.ntb b u e
    · have : a ≠ p := fun z => r.notin hp (z ▸ ha)
      rw [upd_ne this]; exact r.sep a ha
    · have : a ≠ p := fun z => r.notin hp (z ▸ List.mem_of_getElem? h2)
      rw [upd_ne this]; exact (r.obj i u a h1 h2).mono M
end
theorem ntb_lst (xs : List V) : notbl (.lst xs) := fun _ z => by cases z
theorem ntb_tup (xs : List V) : notbl (.tup xs) := fun _ z => by cases z

section
variable {S : Se} {X : Cx} {W : WX} {m : List Addr} {F H : Hp} {st : St} {σ : L2.St}
/-- a new tuple, a new list of what is known -/
theorem new_tup {Q : VK} {xs : List V} {ds : List D} {Y} (r : Rel X.K S.T m F st H) (rs : Rs X.K m F xs ds) (h : Post X.K S.T m F H (fun d m' F' H' => ∀ v, R X.K m' F' v d → Q v H') Y (.ok (.tup ds) st)) :
    ∀ p, H p = none → Q (.ref p) (upd H p (.tup xs)) := fun p hp => by
  obtain ⟨s, r'⟩ := r.frz hp (ntb_tup xs)
  exact h _ _ _ s r' _ (.tup (SqT.of upd_same) (rs.mono s.mono))
theorem new_lst {Q : VK} {xs : List V} {ds : List D} {Y} (r : Rel X.K S.T m F st H) (rs : Rs X.K m F xs ds) (h : Post X.K S.T m F H (fun d m' F' H' => ∀ v, R X.K m' F' v d → Q v H') Y (.ok (.lst ds) st)) :
    ∀ p, H p = none → Q (.ref p) (upd H p (.lst xs)) := fun p hp => by
  obtain ⟨s, r'⟩ := r.frz hp (ntb_lst xs)
  exact h _ _ _ s r' _ (.lst upd_same (rs.mono s.mono))

def fTup (g : Env → St → Out (List D)) : Env → St → Out D := fun ρ st => (g ρ st).bind fun ds st1 => if ds.length ≤ 16777216 then .ok (.tup ds) st1 else .bad
def fLst (g : Env → St → Out (List D)) : Env → St → Out D := fun ρ st => (g ρ st).bind fun ds st1 => if ds.length ≤ 16777216 then .ok (.lst ds) st1 else .bad
theorem s_tup {es : List Expr} {k : Nat} {pos : Pos} {g : Env → St → Out (List D)} (h : PA X es (TAof S X W g)) : PE X (.Tuple es k pos) (TEof S X W (fTup g)) := by
  refine (pe_tup h).weak fun σ H Q ⟨ρ, m, F, st, E, r, q⟩ => ⟨ρ, m, F, st, E, r, (Post.bind q).imp (fun ds m1 F1 H1 s1 q vs rv => ?_) fun _ _ _ _ _ y => y⟩
  obtain ⟨st1, r1, q⟩ := q
  split at q
  · rename_i hl
    exact ⟨by rw [rv.length]; exact lim_le hl, new_tup r1 rv q⟩
  · exact q.elim
theorem s_lst {es : List Expr} {pos : Pos} {g : Env → St → Out (List D)} (h : PA X es (TAof S X W g)) : PE X (.List es pos) (TEof S X W (fLst g)) := by
  refine (pe_lst h).weak fun σ H Q ⟨ρ, m, F, st, E, r, q⟩ => ⟨ρ, m, F, st, E, r, (Post.bind q).imp (fun ds m1 F1 H1 s1 q vs rv => ?_) fun _ _ _ _ _ y => y⟩
  obtain ⟨st1, r1, q⟩ := q
  split at q
  · rename_i hl
    exact ⟨by rw [rv.length]; exact lim_le hl, new_lst r1 rv q⟩
  · exact q.elim

/-! ### what stands behind a list's value -/
def lstOf (st : St) : D → Option (List D)
  | .lst ds => some ds
  | .ref i => match st.objs[i]? with
    | some (.lst ds) => some ds
    | _ => none
  | _ => none
theorem lst_of {K : PySem.W.Frag} {T : NTabs} {d : D} {ds : List D} {v : V} (r : Rel K T m F st H) (rv : R K m F v d) (h : lstOf st d = some ds) : ∃ a xs, v = .ref a ∧ H a = some (.lst xs) ∧ Rs K m F xs ds := by
  cases rv with
  | lst e rs => exact ⟨_, _, rfl, r.sub _ _ e, by cases h; exact rs⟩
  | ref e =>
    rename_i i a
    cases q : st.objs[i]? with
    | none => simp [lstOf, q] at h
    | some o =>
      have z := r.obj i o a q e
      generalize hh : H a = ha at z
      cases z with
      | lst rs =>
        simp only [lstOf, q, Option.some.injEq] at h
        subst h
        exact ⟨a, _, rfl, hh, rs⟩
      | ins _ _ => simp [lstOf, q] at h
  | _ => simp [lstOf] at h
/-- the items of a tuple or a list, wherever it stands -/
def seqOf (st : St) : D → Option (List D)
  | .tup ds => some ds
  | .lsk ds => some ds
  | d => lstOf st d
theorem seq_of {K : PySem.W.Frag} {T : NTabs} {d : D} {ds : List D} {v : V} (r : Rel K T m F st H) (rv : R K m F v d) (h : seqOf st d = some ds) : ∃ a xs, v = .ref a ∧ (SqL K H a xs ∨ SqT K H a xs) ∧ Rs K m F xs ds := by
  have go : lstOf st d = some ds → ∃ a xs, v = .ref a ∧ (SqL K H a xs ∨ SqT K H a xs) ∧ Rs K m F xs ds := fun h => by
    obtain ⟨a, xs, e, h1, h2⟩ := lst_of r rv h
    exact ⟨a, xs, e, .inl (SqL.of h1), h2⟩
  cases rv with
  | tup e rs => exact ⟨_, _, rfl, .inr (r.sub.sqt e), by cases h; exact rs⟩
  | lsk e rs => exact ⟨_, _, rfl, .inl (r.sub.seq e), by cases h; exact rs⟩
  | _ => exact go h

/-! ### arithmetic -/
def mk (s : List Nat) : Str := ⟨s.toArray⟩
theorem mk_len (s : List Nat) : (mk s).length = s.length := by simp [mk, Str.length]
theorem mk_app (a b : List Nat) : mk a ++ mk b = mk (a ++ b) := by
  show Str.append (mk a) (mk b) = mk (a ++ b)
  simp [mk, Str.append]
def opAdd : D → D → St → Out D := fun x y st => match x, y with
  | .int i, .int j => .ok (.int (i + j)) st
  | .str a, .str b => if a.length + b.length ≤ 16777216 then .ok (.str (a ++ b)) st else .bad
  | .tup a, .tup b => if a.isEmpty = false ∧ a.length + b.length ≤ 16777216 then .ok (.tup (a ++ b)) st else .bad
  | x, y => match lstOf st x, lstOf st y with
    | some a, some b => if a.length + b.length ≤ 16777216 then .ok (.lst (a ++ b)) st else .bad
    | _, _ => .bad
theorem o_add : Op2 S X W (binaryOp .Add) opAdd := by
  refine ⟨_, op_add.or (op_add_str.or (op_catT.or op_cat)), fun σ m F st H Q v w x y r rx ry h => ?_⟩
  unfold opAdd at h
  split at h
  · cases rx; cases ry
    exact .inl ⟨_, _, rfl, rfl, h.now r _ (.int _)⟩
  · split at h
    · rename_i hl
      cases rx; cases ry
      refine .inr (.inl ⟨_, _, rfl, rfl, ?_, ?_⟩)
      · show (mk _).length + (mk _).length ≤ _
        rw [mk_len, mk_len]; exact lim_le hl
      · show Q (.str (mk _ ++ mk _)) H
        rw [mk_app]; exact h.now r _ (.str _)
    · exact h.elim
  · split at h
    · rename_i hl
      cases rx with | tup e1 r1 =>
      cases ry with | tup e2 r2 =>
      rename_i a xs b ys
      refine .inr (.inr (.inl ⟨_, _, _, _, rfl, rfl, r.sub.sqt e1, r.sub.sqt e2, fun z => ?_, ?_, fun z => ?_, fun _ => ?_⟩))
      · subst z; cases r1; simp at hl
      · rw [r1.length, r2.length]; exact lim_le hl.2
      · subst z; cases r2
        have := h.now r (.ref _) (.tup e1 (by rw [List.append_nil]; exact r1))
        exact this
      · exact new_tup r (r1.append r2) h
    · exact h.elim
  · split at h
    · rename_i h1 h2
      split at h
      · rename_i hl
        obtain ⟨a, xs, rfl, e1, r1⟩ := lst_of r rx h1
        obtain ⟨b, ys, rfl, e2, r2⟩ := lst_of r ry h2
        refine .inr (.inr (.inr ⟨_, _, _, _, rfl, rfl, e1, e2, ?_, ?_⟩))
        · rw [r1.length, r2.length]; exact lim_le hl
        · exact new_lst r (r1.append r2) h
      · exact h.elim
    · exact h.elim
/-- an operator of two ints -/
def opI (c : Int → Int → Bool) (f : Int → Int → Int) : D → D → St → Out D := fun x y st => match x, y with
  | .int i, .int j => if c i j = true then .ok (.int (f i j)) st else .bad
  | _, _ => .bad
theorem o_opI {sem : Value → Value → Sem Value} {c : Int → Int → Bool} {p : Int → Int → Int} {C : Int → Int → Prop} (ho : OpR X sem (rI C fun i j => .int (p i j))) (hc : ∀ i j, c i j = true → C i j) : Op2 S X W sem (opI c p) := by
  refine ⟨_, ho, fun σ m F st H Q v w x y r rx ry h => ?_⟩
  unfold opI at h
  split at h
  · split at h
    · rename_i i j hcc
      cases rx; cases ry
      exact ⟨i, j, rfl, rfl, hc i j hcc, h.now r _ (.int _)⟩
    · exact h.elim
  · exact h.elim
theorem rI_of {p : Int → Int → Int} {f : Value → Value → Sem Value} (h : OpR X f (rI0 fun i j => .int (p i j))) : OpR X f (rI (fun _ _ => True) fun i j => .int (p i j)) := fun pins s σ H x y v u Q I rx ry ⟨i, j, e1, e2, _, q⟩ => h pins s σ H x y v u Q I rx ry ⟨i, j, e1, e2, q⟩
def cMul (i j : Int) : Bool := decide (i.natAbs.log2 + j.natAbs.log2 < 1000000)
def cDiv (_ j : Int) : Bool := decide (0 < j) && decide (j.natAbs.log2 < 9000)
def cMod (_ j : Int) : Bool := decide (0 < j)
def cPow (i j : Int) : Bool := decide (0 ≤ j) && decide (j ≤ 1000000) && decide (i.natAbs < 2 ^ 64)
abbrev opSub := opI (fun _ _ => true) fun i j => i - j
abbrev opMulI := opI cMul fun i j => i * j
abbrev opDiv := opI cDiv fun i j => i / j
abbrev opMod := opI cMod fun i j => i % j
abbrev opPow := opI cPow fun i j => i ^ j.toNat
theorem o_sub : Op2 S X W (binaryOp .Sub) opSub := o_opI (rI_of op_sub) (fun _ _ _ => trivial)
theorem o_div : Op2 S X W (binaryOp .FloorDiv) opDiv := o_opI op_fdivW (fun i j h => by simpa [cDiv, CDivW] using h)
theorem o_mod : Op2 S X W (binaryOp .Mod) opMod := o_opI op_mod (fun i j h => by simpa [cMod] using h)
theorem o_pow : Op2 S X W (binaryOp .Pow) opPow := o_opI op_pow (fun i j h => by simpa [cPow, CPow, and_assoc] using h)
end
end MP

set_option maxRecDepth 100000
set_option maxHeartbeats 1000000
/-! MP4: products, comparisons, items, slices. -/
namespace MP
open PySem PySem.Spec PyProof.Rows L2
section
variable {S : Se} {X : Cx} {W : WX} {σ : L2.St} {m : List Addr} {F H : Hp} {st : St}

/-! ### products -/
theorem txt_mul (x : List Nat) (n : Int) : Txt.mul (mk x) n = mk (List.replicate n.toNat x).flatten := by
  have fold : ∀ (k : Nat) (acc : Array Nat), (List.replicate k (mk x).cps).foldl (· ++ ·) acc = acc ++ ((List.replicate k x).flatten).toArray := fun k => by
    induction k with
    | zero => intro acc; simp
    | succ k ih => intro acc; rw [List.replicate_succ, List.replicate_succ, List.foldl_cons, ih]; simp [mk]
  unfold Txt.mul
  by_cases h1 : n < 1
  · rw [if_pos h1, show n.toNat = 0 by omega]; rfl
  · rw [if_neg h1]
    by_cases h2 : (n == 1 || (mk x).length == 0) = true
    · rw [if_pos h2]
      simp only [Bool.or_eq_true, beq_iff_eq, mk_len, List.length_eq_zero_iff] at h2
      rcases h2 with h2 | h2
      · subst h2; simp
      · subst h2; simp
    · rw [if_neg h2, fold]; simp [mk]
theorem op_mul_str : OpR X (binaryOp .Mult) (fun x y H Q => ∃ i j, x = .str i ∧ y = .int j ∧ MulOk i j ∧ Q (.str (Txt.mul i j)) H) := by
  intro pins s σ H x y v u Q I rx ry h
  obtain ⟨i, j, rfl, rfl, ok, q⟩ := h
  obtain ⟨t, rfl⟩ := rx
  obtain ⟨t', rfl⟩ := ry
  exact SB.mul ok fun t2 k => ⟨.str _, H, I.tok _, ⟨_, rfl⟩, q⟩
def opMul : D → D → St → Out D := fun x y st => match x, y with
  | .int i, .int j => if cMul i j = true then .ok (.int (i * j)) st else .bad
  | .str a, .int n => if 0 ≤ n ∧ n ≤ 16777216 ∧ a.length ≤ 63 ∧ a.length * n.toNat ≤ 16777216 then .ok (.str (List.replicate n.toNat a).flatten) st else .bad
  | x, .int n => match lstOf st x with
    | some ds => if 0 ≤ n ∧ n ≤ 16777216 ∧ ds.length * n.toNat ≤ 16777216 then .ok (.lst (List.replicate n.toNat ds).flatten) st else .bad
    | none => .bad
  | _, _ => .bad
theorem Rs.rep {K : PySem.W.Frag} {xs : List V} {ds : List D} (r : Rs K m F xs ds) : ∀ k : Nat, Rs K m F (List.replicate k xs).flatten (List.replicate k ds).flatten
  | 0 => .nil
  | k + 1 => by rw [List.replicate_succ, List.replicate_succ, List.flatten_cons, List.flatten_cons]; exact r.append (Rs.rep r k)
theorem o_mul : Op2 S X W (binaryOp .Mult) opMul := by
  refine ⟨_, op_mulW.or (op_mul_str.or op_rep), fun σ m F st H Q v w x y r rx ry h => ?_⟩
  unfold opMul at h
  split at h
  · split at h
    · rename_i hc
      cases rx; cases ry
      exact .inl ⟨_, _, rfl, rfl, by simpa [cMul, CMulW] using hc, h.now r _ (.int _)⟩
    · exact h.elim
  · split at h
    · rename_i a n hc
      cases rx; cases ry
      obtain ⟨h0, h1, h2, h3⟩ := hc
      refine .inr (.inl ⟨_, _, rfl, rfl, ⟨?_, fun hn hk => ?_, fun hn hk => ?_⟩, ?_⟩)
      · simp only [Bool.or_eq_false_iff, decide_eq_false_iff_not]; omega
      · show ¬ (((mk a).length : Nat) : Int) > (2 ^ 63 - 1) / n
        rw [mk_len]
        have : (64 : Int) ≤ (2 ^ 63 - 1) / n := by
          rw [Int.le_ediv_iff_mul_le (by omega)]
          omega
        omega
      · show Builtin.Str.tooLong ((mk a).length * n.toNat) = false
        rw [mk_len]
        simp only [Builtin.Str.tooLong, decide_eq_false_iff_not, sizeLine_eq]
        omega
      · show Q (.str (Txt.mul (mk a) n)) H
        rw [txt_mul]; exact h.now r _ (.str _)
    · exact h.elim
  · split at h
    · rename_i e
      split at h
      · rename_i hc
        obtain ⟨l, xs, rfl, e1, r1⟩ := lst_of r rx e
        cases ry
        refine .inr (.inr ⟨_, _, _, rfl, rfl, e1, by omega, by omega, ?_, ?_⟩)
        · rw [r1.length]; exact lim_le hc.2.2
        · exact new_lst r (r1.rep _) h
      · exact h.elim
    · exact h.elim
  · exact h.elim
end
end MP

set_option maxRecDepth 100000
set_option maxHeartbeats 1000000
/-! MP5: comparisons. -/
namespace MP
open PySem PySem.Spec PyProof.Rows L2
section
variable {S : Se} {X : Cx} {W : WX} {σ : L2.St} {m : List Addr} {F H : Hp} {st : St}

/-! ### order -/
/-- order of ints, of texts -/
def opOrd (ci : Int → Int → Bool) (cs : List Nat → List Nat → Bool) : D → D → St → Out D := fun x y st => match x, y with
  | .int i, .int j => .ok (.bl (ci i j)) st
  | .str a, .str b => .ok (.bl (cs a b)) st
  | _, _ => .bad
abbrev opLt := opOrd (fun i j => decide (i < j)) (fun a b => decide (a < b))
abbrev opLe := opOrd (fun i j => decide (i ≤ j)) (fun a b => !decide (b < a))
abbrev opGt := opOrd (fun i j => decide (j < i)) (fun a b => decide (b < a))
abbrev opGe := opOrd (fun i j => decide (j ≤ i)) (fun a b => !decide (a < b))
theorem o_ord {op : CmpOp} {ci : Int → Int → Bool} {cs : List Nat → List Nat → Bool} (h1 : OpR X (compareOp op) (rI0 fun i j => .bl (ci i j)))
    (h2 : OpR X (compareOp op) (fun x y H Q => ∃ i j, x = .str i ∧ y = .str j ∧ Q (.bl (cs i.cps.toList j.cps.toList)) H)) : Op2 S X W (compareOp op) (opOrd ci cs) := by
  refine ⟨_, h1.or h2, fun σ m F st H Q v w x y r rx ry h => ?_⟩
  unfold opOrd at h
  split at h
  · cases rx; cases ry
    exact .inl ⟨_, _, rfl, rfl, h.now r _ (.bl _)⟩
  · cases rx; cases ry
    exact .inr ⟨_, _, rfl, rfl, h.now r _ (.bl _)⟩
  · exact h.elim
theorem o_lt : Op2 S X W (compareOp .Lt) opLt := o_ord op_lt op_lt_str
theorem o_le : Op2 S X W (compareOp .LtE) opLe := o_ord op_le op_le_str
theorem o_gt : Op2 S X W (compareOp .Gt) opGt := o_ord op_gt op_gt_str
theorem o_ge : Op2 S X W (compareOp .GtE) opGe := o_ord op_ge op_ge_str

/-! ### sameness -/
mutual
def D.py : D → PyData
  | .non => .none
  | .bl b => .bool b
  | .int i => .int i
  | .str s => .str ⟨s.toArray⟩
  | .tup ds => .tuple (D.pys ds)
  | .lst ds => .list (D.pys ds)
  | .lsk ds => .list (D.pys ds)
  | .ref _ => .none
  | .xo _ _ _ _ => .none
  | .fv _ _ => .none
  | .emp => .none
def D.pys : List D → List PyData
  | [] => []
  | d :: ds => d.py :: D.pys ds
/-- nothing of the store in it -/
def D.noref : D → Bool
  | .tup ds => D.norefs ds
  | .lst ds => D.norefs ds
  | .lsk ds => D.norefs ds
  | .ref _ => false
  | .xo _ _ _ _ => false
  | .fv _ _ => false
  | .emp => false
  | _ => true
def D.norefs : List D → Bool
  | [] => true
  | d :: ds => d.noref && D.norefs ds
end
mutual
theorem dp_of {K : PySem.W.Frag} {m : List Addr} {F H : Hp} (sub : Same F H) : ∀ {v : V} {d : D}, R K m F v d → d.noref = true → Dp K H v d.py
  | _, _, .non, _ => .non
  | _, _, .bl b, _ => .bl b
  | _, _, .int i, _ => .int i
  | _, _, .str x, _ => .str _
  | _, _, .tup h r, n => .tup (sub.sqt h) (dps_of sub r (by simpa [D.noref] using n))
  | _, _, .lst h r, n => .lst (SqL.of (sub _ _ h)) (dps_of sub r (by simpa [D.noref] using n))
  | _, _, .lsk h r, n => .lst (sub.seq h) (dps_of sub r (by simpa [D.noref] using n))
  | _, _, .ref _, n => by simp [D.noref] at n
  | _, _, .xo _ _ _, n => by simp [D.noref] at n
  | _, _, .fv _ _, n => by simp [D.noref] at n
  | _, _, .emp _, n => by simp [D.noref] at n
theorem dps_of {K : PySem.W.Frag} {m : List Addr} {F H : Hp} (sub : Same F H) : ∀ {vs : List V} {ds : List D}, Rs K m F vs ds → D.norefs ds = true → DpAll K H vs (D.pys ds)
  | _, _, .nil, _ => .nil
  | _, _, .cons r t, n => by
    simp only [D.norefs, Bool.and_eq_true] at n
    exact .cons (dp_of sub r n.1) (dps_of sub t n.2)
end
/-- a list of the store by what it holds -/
def top (st : St) (d : D) : D := match d with
  | .ref i => match st.objs[i]? with
    | some (.lst ds) => .lst ds
    | _ => d
  | d => d
theorem dp_top {K : PySem.W.Frag} {T : NTabs} {d : D} {v : V} (r : Rel K T m F st H) (rv : R K m F v d) (n : (top st d).noref = true) : Dp K H v (top st d).py := by
  cases d with
  | ref i =>
    cases q : st.objs[i]? with
    | none => simp [top, q, D.noref] at n
    | some o =>
      cases o with
      | lst ds =>
        have hl : lstOf st (.ref i) = some ds := by simp [lstOf, q]
        obtain ⟨a, xs, rfl, h1, h2⟩ := lst_of r rv hl
        have e : top st (.ref i) = .lst ds := by simp [top, q]
        rw [e] at n ⊢
        exact .lst (SqL.of h1) (dps_of r.sub h2 (by simpa [D.noref] using n))
      | ins _ _ _ _ => simp [top, q, D.noref] at n
  | _ => exact dp_of r.sub rv n
def shp (d : D) : Bool := d.noref && SeqAt.shaped d.py
/-- == of what is no list and no tuple -/
def eqS : D → D → Option Bool
  | .non, .non => some true
  | .int i, .int j => some (decide (i = j))
  | .bl a, .bl b => some (decide (a = b))
  | .str a, .str b => some (decide (a = b))
  | .non, .int _ => some false | .int _, .non => some false | .non, .bl _ => some false | .bl _, .non => some false | .non, .str _ => some false | .str _, .non => some false
  | .int _, .str _ => some false | .str _, .int _ => some false | .bl _, .str _ => some false | .str _, .bl _ => some false
  | _, _ => none
/-- two lists of unlike lengths -/
def lenNe (st : St) (x y : D) : Bool := match lstOf st x, lstOf st y with
  | some a, some b => !decide (a.length = b.length)
  | _, _ => false
def rLen (b : Bool) : R2 := fun x y H Q => ∃ a c xs ys, x = .ref a ∧ y = .ref c ∧ H a = some (.lst xs) ∧ H c = some (.lst ys) ∧ xs.length ≠ ys.length ∧ Q (.bl b) H
theorem op_eqLen (hu : X.A.units + 64 < cLine) : OpR X (compareOp .Eq) (rLen false) := by
  intro pins s σ H x y v u Q I rx ry h
  obtain ⟨a, c, xs, ys, rfl, rfl, h1, h2, h3, q⟩ := h
  obtain rfl : v = Value.ref a := rx
  obtain rfl : u = Value.ref c := ry
  obtain ⟨i1, r1, p1, _⟩ := I.list (SqL.of h1)
  obtain ⟨i2, r2, p2, _⟩ := I.list (SqL.of h2)
  have e1 := r1.length
  have e2 := r2.length
  exact SeqAt.eq_list_lengthsAt p1.isList p2.isList (by simp only [List.size_toArray, bne_iff_ne]; omega) (by omega) ⟨.bl false, H, I, rfl, q⟩
theorem op_neLen (hu : X.A.units + 64 < cLine) : OpR X (compareOp .NotEq) (rLen true) := by
  intro pins s σ H x y v u Q I rx ry h
  obtain ⟨a, c, xs, ys, rfl, rfl, h1, h2, h3, q⟩ := h
  obtain rfl : v = Value.ref a := rx
  obtain rfl : u = Value.ref c := ry
  obtain ⟨i1, r1, p1, _⟩ := I.list (SqL.of h1)
  obtain ⟨i2, r2, p2, _⟩ := I.list (SqL.of h2)
  have e1 := r1.length
  have e2 := r2.length
  exact SeqAt.RcNeAt.lists_lengths p1.isList p2.isList (by simp only [List.size_toArray, bne_iff_ne]; omega) (by omega) X.prog X.w X.xe _ ⟨.bl true, H, I, rfl, q⟩
theorem len_ne {K : PySem.W.Frag} {T : NTabs} {x y : D} {v w : V} (r : Rel K T m F st H) (rx : R K m F v x) (ry : R K m F w y) (h : lenNe st x y = true) : ∃ a c xs ys, v = .ref a ∧ w = .ref c ∧ H a = some (.lst xs) ∧ H c = some (.lst ys) ∧ xs.length ≠ ys.length := by
  unfold lenNe at h
  split at h
  · rename_i a b e1 e2
    obtain ⟨p, xs, rfl, h1, h2⟩ := lst_of r rx e1
    obtain ⟨q, ys, rfl, h3, h4⟩ := lst_of r ry e2
    refine ⟨p, q, xs, ys, rfl, rfl, h1, h3, ?_⟩
    rw [h2.length, h4.length]
    simpa using h
  · cases h
def eqD (st : St) (x y : D) : Option Bool := match eqS x y with
  | some b => some b
  | none => if shp (top st x) = true ∧ shp (top st y) = true then some (PyData.eqv (top st x).py (top st y).py) else if lenNe st x y = true then some false else none
def opEq : D → D → St → Out D := fun x y st => match eqD st x y with
  | some b => .ok (.bl b) st
  | none => .bad
def opNe : D → D → St → Out D := fun x y st => match eqD st x y with
  | some b => .ok (.bl !b) st
  | none => .bad
theorem mk_inj {a b : List Nat} : (⟨a.toArray⟩ : Str) = ⟨b.toArray⟩ ↔ a = b := by simp
theorem eqS_of {K : PySem.W.Frag} {x y : D} {v w : V} {b : Bool} (rx : R K m F v x) (ry : R K m F w y) (h : eqS x y = some b) : scal v w = true ∧ decide (v = w) = b := by
  cases rx <;> cases ry <;> simp_all [eqS, scal]
theorem o_eq (hu : X.A.units + 64 < cLine) : Op2 S X W (compareOp .Eq) opEq := by
  refine ⟨_, op_eq.or ((op_eqD hu).or (op_eqLen hu)), fun σ m F st H Q v w x y r rx ry h => ?_⟩
  unfold opEq eqD at h
  split at h
  · rename_i b e
    split at e
    · rename_i b' e'
      cases e
      obtain ⟨h1, h2⟩ := eqS_of rx ry e'
      exact .inl ⟨h1, by rw [h2]; exact h.now r _ (.bl _)⟩
    · split at e
      · rename_i hs
        cases e
        simp only [shp, Bool.and_eq_true] at hs
        exact .inr (.inl ⟨_, _, dp_top r rx hs.1.1, dp_top r ry hs.2.1, hs.1.2, hs.2.2, h.now r _ (.bl _)⟩)
      · split at e
        · rename_i hl
          cases e
          obtain ⟨a, c, xs, ys, e1, e2, e3, e4, e5⟩ := len_ne r rx ry hl
          exact .inr (.inr ⟨a, c, xs, ys, e1, e2, e3, e4, e5, h.now r _ (.bl _)⟩)
        · cases e
  · exact h.elim
theorem o_ne (hu : X.A.units + 64 < cLine) : Op2 S X W (compareOp .NotEq) opNe := by
  refine ⟨_, op_ne.or ((op_neD hu).or (op_neLen hu)), fun σ m F st H Q v w x y r rx ry h => ?_⟩
  unfold opNe eqD at h
  split at h
  · rename_i b e
    split at e
    · rename_i b' e'
      cases e
      obtain ⟨h1, h2⟩ := eqS_of rx ry e'
      exact .inl ⟨h1, by rw [h2]; exact h.now r _ (.bl _)⟩
    · split at e
      · rename_i hs
        cases e
        simp only [shp, Bool.and_eq_true] at hs
        exact .inr (.inl ⟨_, _, dp_top r rx hs.1.1, dp_top r ry hs.2.1, hs.1.2, hs.2.2, h.now r _ (.bl _)⟩)
      · split at e
        · rename_i hl
          cases e
          obtain ⟨a, c, xs, ys, e1, e2, e3, e4, e5⟩ := len_ne r rx ry hl
          exact .inr (.inr ⟨a, c, xs, ys, e1, e2, e3, e4, e5, h.now r _ (.bl _)⟩)
        · cases e
  · exact h.elim

/-! ### in, is None -/
def flat : D → Bool
  | .non => true | .bl _ => true | .int _ => true | .str _ => true | _ => false
def eqF : D → D → Bool
  | .non, .non => true
  | .bl a, .bl b => a == b
  | .bl a, .int b => (if a then 1 else 0) == b
  | .int a, .bl b => a == (if b then 1 else 0)
  | .int a, .int b => a == b
  | .str a, .str b => a == b
  | _, _ => false
theorem flat_of {K : PySem.W.Frag} {x : D} {v : V} (rx : R K m F v x) (h : flat x = true) : flatV v = true := by
  cases rx <;> first | rfl | (simp [flat] at h)
theorem eqF_of {K : PySem.W.Frag} {x y : D} {v w : V} (rx : R K m F v x) (ry : R K m F w y) (hx : flat x = true) (hy : flat y = true) : eqV v w = eqF x y := by
  have es : ∀ a b : List Nat, ((⟨a.toArray⟩ : Str) == ⟨b.toArray⟩) = (a == b) := fun a b => by
    by_cases h : a = b
    · subst h; simp
    · rw [beq_eq_false_iff_ne.mpr h]; exact beq_eq_false_iff_ne.mpr (fun z => h (mk_inj.mp z))
  cases rx <;> cases ry <;> simp_all [flat, eqF, eqV]
theorem any_eqF {K : PySem.W.Frag} {x : D} {v : V} (rx : R K m F v x) (hx : flat x = true) : ∀ {ws : List V} {ys : List D}, Rs K m F ws ys → ys.all flat = true → ws.all flatV = true ∧ inV v ws = ys.any fun y => eqF y x
  | _, _, .nil, _ => ⟨rfl, rfl⟩
  | _, _, .cons r t, h => by
    rw [List.all_cons, Bool.and_eq_true] at h
    obtain ⟨a, b⟩ := any_eqF rx hx t h.2
    refine ⟨by rw [List.all_cons, flat_of r h.1, a]; rfl, ?_⟩
    unfold inV at b ⊢
    rw [List.any_cons, List.any_cons, eqF_of r rx h.1 hx, b]
def inD (st : St) (x y : D) : Option Bool := match x, y with
  | .str [c], .str z => some (decide (c ∈ z))
  | x, y => match seqOf st y with
    | some ds => if flat x = true ∧ ds.all flat = true then some (ds.any fun y => eqF y x) else none
    | none => none
def opIn : D → D → St → Out D := fun x y st => match inD st x y with
  | some b => .ok (.bl b) st
  | none => .bad
def opNotIn : D → D → St → Out D := fun x y st => match inD st x y with
  | some b => .ok (.bl !b) st
  | none => .bad
theorem o_in : Op2 S X W (compareOp .In) opIn := by
  refine ⟨_, op_in_sign.or op_in_seq, fun σ m F st H Q v w x y r rx ry h => ?_⟩
  unfold opIn inD at h
  split at h
  · rename_i b e
    split at e
    · cases rx; cases ry; cases e
      exact .inl ⟨_, _, rfl, rfl, h.now r _ (.bl _)⟩
    · split at e
      · rename_i e2
        split at e
        · rename_i hf
          cases e
          obtain ⟨a, xs, rfl, h1, h2⟩ := seq_of r ry e2
          obtain ⟨q1, q2⟩ := any_eqF rx hf.1 h2 hf.2
          refine .inr ⟨_, _, rfl, h1, flat_of rx hf.1, q1, ?_⟩
          rw [q2]; exact h.now r _ (.bl _)
        · cases e
      · cases e
  · exact h.elim
theorem o_notIn : Op2 S X W (compareOp .NotIn) opNotIn := by
  refine ⟨_, op_notIn_sign.or op_notIn_seq, fun σ m F st H Q v w x y r rx ry h => ?_⟩
  unfold opNotIn inD at h
  split at h
  · rename_i b e
    split at e
    · cases rx; cases ry; cases e
      exact .inl ⟨_, _, rfl, rfl, h.now r _ (.bl _)⟩
    · split at e
      · rename_i e2
        split at e
        · rename_i hf
          cases e
          obtain ⟨a, xs, rfl, h1, h2⟩ := seq_of r ry e2
          obtain ⟨q1, q2⟩ := any_eqF rx hf.1 h2 hf.2
          refine .inr ⟨_, _, rfl, h1, flat_of rx hf.1, q1, ?_⟩
          rw [q2]; exact h.now r _ (.bl _)
        · cases e
      · cases e
  · exact h.elim
def isNon : D → Bool
  | .non => true
  | _ => false
def opIs : D → D → St → Out D := fun x y st => match y with
  | .non => .ok (.bl (isNon x)) st
  | _ => .bad
def opIsNot : D → D → St → Out D := fun x y st => match y with
  | .non => .ok (.bl !(isNon x)) st
  | _ => .bad
theorem isNon_of {K : PySem.W.Frag} {x : D} {v : V} (rx : R K m F v x) : decide (v = .non) = isNon x := by
  cases rx <;> rfl
theorem o_is : Op2 S X W (compareOp .Is) opIs := by
  refine ⟨_, op_isN, fun σ m F st H Q v w x y r rx ry h => ?_⟩
  unfold opIs at h
  split at h
  · cases ry
    exact ⟨rfl, by rw [isNon_of rx]; exact h.now r _ (.bl _)⟩
  · exact h.elim
theorem o_isNot : Op2 S X W (compareOp .IsNot) opIsNot := by
  refine ⟨_, op_notN, fun σ m F st H Q v w x y r rx ry h => ?_⟩
  unfold opIsNot at h
  split at h
  · cases ry
    exact ⟨rfl, by rw [isNon_of rx]; exact h.now r _ (.bl _)⟩
  · exact h.elim
end
end MP

set_option maxRecDepth 100000
set_option maxHeartbeats 1000000
/-! MP6: items, slices, signs, calls of what is built in. -/
namespace MP
open PySem PySem.Spec PyProof.Rows L2
section
variable {S : Se} {X : Cx} {W : WX} {σ : L2.St} {m : List Addr} {F H : Hp} {st : St}

/-! ### items -/
theorem Rs.one {K : PySem.W.Frag} {vs : List V} {d : D} (r : Rs K m F vs [d]) : ∃ v, vs = [v] ∧ R K m F v d := by
  cases r with
  | cons r t => cases t; exact ⟨_, rfl, r⟩
theorem Rs.two {K : PySem.W.Frag} {vs : List V} {d e : D} (r : Rs K m F vs [d, e]) : ∃ v w, vs = [v, w] ∧ R K m F v d ∧ R K m F w e := by
  cases r with
  | cons r t =>
    obtain ⟨w, rfl, r2⟩ := Rs.one t
    exact ⟨_, w, rfl, r, r2⟩
def opIdx : D → D → St → Out D := fun x y st => match x, y with
  | .str s, .int i => if s.length ≤ 16777216 then (match atI s i with | some c => .ok (.str [c]) st | none => .bad) else .bad
  | x, .int i => match seqOf st x with
    | some ds => (match atI ds i with | some d => .ok d st | none => .bad)
    | none => .bad
  | _, _ => .bad
theorem Rs.at {K : PySem.W.Frag} {xs : List V} {ds : List D} {i : Int} {d : D} (r : Rs K m F xs ds) (h : atI ds i = some d) : ∃ v, atI xs i = some v ∧ R K m F v d := by
  unfold atI at h ⊢
  rw [r.length]
  cases e : ixN ds.length i with
  | none => rw [e] at h; cases h
  | some j =>
    rw [e] at h
    obtain ⟨v, h1, h2⟩ := r.get (i := j) h
    exact ⟨v, h1, h2⟩
theorem s_idx {a b : Expr} {pos : Pos} {f g : Env → St → Out D} (hs : PlainIx b) (ha : PE X a (TEof S X W f)) (hb : PE X b (TEof S X W g)) : PE X (.Subscript a b pos) (TEof S X W (f2 opIdx f g)) := by
  refine (pe_ix ix_seq ha hb hs).weak (i_2 fun σ m F st H Q v w x y r rx ry h => ?_)
  unfold opIdx at h
  split at h
  · rename_i s i
    split at h
    · rename_i hl
      split at h
      · rename_i c e
        cases rx; cases ry
        refine .inr (.inr ⟨_, _, c, rfl, rfl, ?_, e, h.now r _ (.str [c])⟩)
        show (mk s).length ≤ sizeLine
        rw [mk_len]; exact lim_le hl
      · exact h.elim
    · exact h.elim
  · split at h
    · rename_i ds e
      split at h
      · rename_i d e2
        cases ry
        obtain ⟨a, xs, rfl, h1, h2⟩ := seq_of r rx e
        obtain ⟨v, h3, h4⟩ := h2.at e2
        rcases h1 with h1 | h1
        · exact .inl ⟨a, xs, _, v, rfl, rfl, h1, h3, h.now r _ h4⟩
        · exact .inr (.inl ⟨a, xs, _, v, rfl, rfl, h1, h3, h.now r _ h4⟩)
      · exact h.elim
    · exact h.elim
  · exact h.elim

/-! ### slices -/
/-- a list's items, wherever it stands -/
def lqOf (st : St) : D → Option (List D)
  | .lsk ds => some ds
  | d => lstOf st d
theorem lq_of {K : PySem.W.Frag} {T : NTabs} {d : D} {ds : List D} {v : V} (r : Rel K T m F st H) (rv : R K m F v d) (h : lqOf st d = some ds) : ∃ a xs, v = .ref a ∧ SqL K H a xs ∧ Rs K m F xs ds := by
  have go : lstOf st d = some ds → ∃ a xs, v = .ref a ∧ SqL K H a xs ∧ Rs K m F xs ds := fun h => by
    obtain ⟨a, xs, e, h1, h2⟩ := lst_of r rv h
    exact ⟨a, xs, e, SqL.of h1, h2⟩
  cases rv with
  | lsk e rs => exact ⟨_, _, rfl, r.sub.seq e, by cases h; exact rs⟩
  | _ => exact go h
def cut {α : Type} (ds : List α) (lo hi : Option Int) : List α := (ds.drop (HT.sIx ds.length 0 lo)).take (HT.sIx ds.length ds.length hi - HT.sIx ds.length 0 lo)
abbrev TOof (S : Se) (X : Cx) (W : WX) (f : Env → St → Out (Option Int)) : TO := fun σ H Q => ∃ ρ m F st, EnvR X.K m F σ ρ ∧ Rel X.K S.T m F st H ∧
  Post X.K S.T m F H (fun o m' F' H' => Q o H') (XW S.g X.K W σ) (f ρ st)
theorem _root_.L2.PO.weak {X : Cx} {e : Option Expr} {t t' : TO} (h : PO X e t) (w : ∀ σ H Q, t' σ H Q → t σ H Q) : PO X e t' := ⟨fun pins s σ H Q I q => h.run pins s σ H Q I (w σ H Q q)⟩
def fNoP : Env → St → Out (Option Int) := fun _ st => .ok none st
def fPart (f : Env → St → Out D) : Env → St → Out (Option Int) := fun ρ st => (f ρ st).bind fun d st1 => match d with
  | .int i => .ok (some i) st1
  | _ => .bad
theorem s_noP : PO X none (TOof S X W fNoP) := po_none.weak fun σ H Q ⟨ρ, m, F, st, E, r, h⟩ => Post.now (P := fun o m' F' H' => Q o H') h r
theorem s_part {e : Expr} {f : Env → St → Out D} (h : PE X e (TEof S X W f)) : PO X (some e) (TOof S X W (fPart f)) := by
  refine (po_some h).weak fun σ H Q ⟨ρ, m, F, st, E, r, h⟩ => ⟨ρ, m, F, st, E, r, (Post.bind h).imp (fun d m1 F1 H1 s1 q v rv => ?_) fun _ _ _ _ _ y => y⟩
  obtain ⟨st1, r1, q⟩ := q
  cases rv with
  | int i => exact ⟨i, rfl, Post.now (P := fun o m' F' H' => Q o H') q r1⟩
  | _ => exact q.elim
def opSlc (x : D) (lo hi : Option Int) (st : St) : Out D := match x with
  | .str s => if s.length ≤ 16777216 then .ok (.str (cut s lo hi)) st else .bad
  | .tup ds => if HT.sIx ds.length 0 lo = 0 ∧ HT.sIx ds.length ds.length hi = ds.length then .bad else .ok (.tup (cut ds lo hi)) st
  | x => match lqOf st x with
    | some ds => .ok (.lst (cut ds lo hi)) st
    | none => .bad
def fSlc (f : Env → St → Out D) (l u : Env → St → Out (Option Int)) : Env → St → Out D := fun ρ st => (f ρ st).bind fun x st1 => (l ρ st1).bind fun lo st2 => (u ρ st2).bind fun hi st3 => opSlc x lo hi st3
theorem Rs.cut {K : PySem.W.Frag} {xs : List V} {ds : List D} (r : Rs K m F xs ds) (lo hi : Option Int) : Rs K m F (cutV xs lo hi) (cut ds lo hi) := by
  unfold cutV MP.cut
  rw [r.length]
  exact (r.drop _).take _
theorem slc_ok {Q : VK} {x : D} {v : V} {lo hi : Option Int} (r : Rel X.K S.T m F st H) (rx : R X.K m F v x) (h : PD S X W σ m F H Q (opSlc x lo hi st)) : rSlS v lo hi H Q ∨ rSlT X.K v lo hi H Q ∨ rSlL X.K v lo hi H Q := by
  unfold opSlc at h
  split at h
  · split at h
    · rename_i z hl
      have e : cutS (mk z) lo hi = mk (MP.cut z lo hi) := by
        unfold cutS MP.cut; rw [mk_len]; rfl
      have q : Q (.str (cutS (mk z) lo hi)) H := by
        rw [e]; exact h.now r _ (.str _)
      cases rx
      refine .inl ⟨_, rfl, ?_, q⟩
      show (mk z).length ≤ sizeLine
      rw [mk_len]; exact lim_le hl
    · exact h.elim
  · split at h
    · exact h.elim
    · rename_i ds hc
      cases rx with
      | tup e rs => exact .inr (.inl ⟨_, _, rfl, r.sub.sqt e, by rw [rs.length]; exact hc, new_tup r (rs.cut lo hi) h⟩)
  · split at h
    · rename_i ds e
      obtain ⟨a, xs, rfl, h1, h2⟩ := lq_of r rx e
      exact .inr (.inr ⟨a, xs, rfl, h1, new_lst r (h2.cut lo hi) h⟩)
    · exact h.elim
theorem s_slc {a : Expr} {lo hi : Option Expr} {pos p2 : Pos} {f : Env → St → Out D} {l u : Env → St → Out (Option Int)} (ha : PE X a (TEof S X W f)) (hl : PO X lo (TOof S X W l)) (hu : PO X hi (TOof S X W u)) :
    PE X (.Subscript a (.Slice lo hi none p2) pos) (TEof S X W (fSlc f l u)) := by
  refine (pe_slice (sl_str.or (sl_tup.or sl_list)) ha hl hu).weak fun σ H Q ⟨ρ, m, F, st, E, r, h⟩ => ⟨ρ, m, F, st, E, r, (Post.bind h).imp (fun x m1 F1 H1 s1 qa v rv => ?_) fun _ _ _ _ _ y => y⟩
  obtain ⟨st1, r1, qa⟩ := qa
  refine ⟨ρ, m1, F1, st1, E.mono s1.mono, r1, (Post.bind qa).imp (fun lo m2 F2 H2 s2 qb => ?_) fun _ _ _ _ _ y => y⟩
  obtain ⟨st2, r2, qb⟩ := qb
  refine ⟨ρ, m2, F2, st2, E.mono (s1.mono.trans s2.mono), r2, (Post.bind qb).imp (fun hi m3 F3 H3 s3 q => ?_) fun _ _ _ _ _ y => y⟩
  obtain ⟨st3, r3, q⟩ := q
  exact slc_ok r3 ((rv.mono s2.mono).mono s3.mono) q
/-! ### signs -/
def f1 (op : D → St → Out D) (f : Env → St → Out D) : Env → St → Out D := fun ρ st => (f ρ st).bind fun x st1 => op x st1
def opNeg : D → St → Out D := fun x st => match x with
  | .int i => .ok (.int (-i)) st
  | _ => .bad
theorem i_1 {r1 : V → Hp → VK → Prop} {f : Env → St → Out D} {op : D → St → Out D}
    (ho : ∀ σ m F st H Q v x, Rel X.K S.T m F st H → R X.K m F v x → PD S X W σ m F H Q (op x st) → r1 v H Q) :
    ∀ σ H Q, TEof S X W (f1 op f) σ H Q → tUn r1 (TEof S X W f) σ H Q := by
  intro σ H Q ⟨ρ, m, F, st, E, r, h⟩
  refine ⟨ρ, m, F, st, E, r, (Post.bind h).imp (fun x m1 F1 H1 s1 q v rv => ?_) fun _ _ _ _ _ y => y⟩
  obtain ⟨st1, r1, q⟩ := q
  exact ho σ m1 F1 st1 H1 Q v x r1 rv q
theorem s_neg {a : Expr} {pos : Pos} {f : Env → St → Out D} (ha : PE X a (TEof S X W f)) : PE X (.UnaryOp .USub a pos) (TEof S X W (f1 opNeg f)) := by
  refine (pe_un un_neg ha).weak (i_1 fun σ m F st H Q v x r rx h => ?_)
  unfold opNeg at h
  split at h
  · cases rx
    exact ⟨_, rfl, h.now r _ (.int _)⟩
  · exact h.elim

/-! ### calls of what is built in -/
/-- a call by its arguments does what o says -/
def OpC (S : Se) (X : Cx) (W : WX) (f : Value) (o : List D → St → Out D) : Prop :=
  ∃ r : List V → Hp → VK → Prop, CallR X f r ∧ ∀ σ m F st H Q vs ds, Rel X.K S.T m F st H → Rs X.K m F vs ds → PD S X W σ m F H Q (o ds st) → r vs H Q
def fCall (o : List D → St → Out D) (g : Env → St → Out (List D)) : Env → St → Out D := fun ρ st => (g ρ st).bind fun ds st1 => o ds st1
theorem i_call {r : List V → Hp → VK → Prop} {g : Env → St → Out (List D)} {o : List D → St → Out D}
    (ho : ∀ σ m F st H Q vs ds, Rel X.K S.T m F st H → Rs X.K m F vs ds → PD S X W σ m F H Q (o ds st) → r vs H Q) :
    ∀ σ H Q, TEof S X W (fCall o g) σ H Q → tCB r (TAof S X W g) σ H Q := by
  intro σ H Q ⟨ρ, m, F, st, E, rl, h⟩
  refine ⟨ρ, m, F, st, E, rl, (Post.bind h).imp (fun ds m1 F1 H1 s1 q vs rv => ?_) fun _ _ _ _ _ y => y⟩
  obtain ⟨st1, r1, q⟩ := q
  exact ho σ m1 F1 st1 H1 Q vs ds r1 rv q
theorem s_callB {x : Str} {id : String} {e : Expr} {es : List Expr} {p pos : Pos} {g : Env → St → Out (List D)} {o : List D → St → Out D} (h : OpC S X W (.builtin id) o) (hg : Gl X x) (hm : X.mg x = none) (hv : bootBuiltins x = some (.builtin id))
    (ha : PA X (e :: es) (TAof S X W g)) (hn : x ≠ "__name__") (hdb : (x == ("__debug__" : Str)) = false) (he : starEach (e :: es) X.env = (false, eval e X.env) :: starEach es X.env) (hpl : (backTo pos (starEach es X.env)).any (·.1) = false) :
    PE X (.Call (.Name x p) (e :: es) [] pos) (TEof S X W (fCall o g)) := by
  obtain ⟨r, h1, h2⟩ := h
  exact (pe_callB h1 hg hm hv ha hn hdb he hpl).weak (i_call h2)
theorem s_callTy {x : Str} {T : String} {e : Expr} {es : List Expr} {p pos : Pos} {g : Env → St → Out (List D)} {o : List D → St → Out D} (h : OpC S X W (.type T) o) (hg : Gl X x) (hm : X.mg x = none) (hv : bootBuiltins x = some (.type T))
    (ha : PA X (e :: es) (TAof S X W g)) (hn : x ≠ "__name__") (hdb : (x == ("__debug__" : Str)) = false) (he : starEach (e :: es) X.env = (false, eval e X.env) :: starEach es X.env) (hpl : (backTo pos (starEach es X.env)).any (·.1) = false) :
    PE X (.Call (.Name x p) (e :: es) [] pos) (TEof S X W (fCall o g)) := by
  obtain ⟨r, h1, h2⟩ := h
  exact (pe_callTy h1 hg hm hv ha hn hdb he hpl).weak (i_call h2)
def cLen : List D → St → Out D := fun ds st => match ds with
  | [.str s] => if s.length ≤ 16777216 then .ok (.int s.length) st else .bad
  | [x] => match seqOf st x with
    | some ds => .ok (.int ds.length) st
    | none => .bad
  | _ => .bad
theorem o_len : OpC S X W (.builtin "len") cLen := by
  refine ⟨_, call_len_str.or call_len_seq, fun σ m F st H Q vs ds r rs h => ?_⟩
  unfold cLen at h
  split at h
  · split at h
    · rename_i s hl
      obtain ⟨v, rfl, rv⟩ := rs.one
      cases rv
      refine .inl ⟨_, rfl, ?_, ?_⟩
      · show (mk s).length ≤ sizeLine
        rw [mk_len]; exact lim_le hl
      · show Q (.int (mk s).length) H
        rw [mk_len]; exact h.now r _ (.int _)
    · exact h.elim
  · split at h
    · rename_i e
      obtain ⟨v, rfl, rv⟩ := rs.one
      obtain ⟨a, xs, rfl, h1, h2⟩ := seq_of r rv e
      refine .inr ⟨a, xs, rfl, h1, ?_⟩
      rw [h2.length]; exact h.now r _ (.int _)
    · exact h.elim
  · exact h.elim
def cAbs : List D → St → Out D := fun ds st => match ds with
  | [.int i] => .ok (.int i.natAbs) st
  | _ => .bad
theorem o_abs : OpC S X W (.builtin "abs") cAbs := by
  refine ⟨_, call_abs, fun σ m F st H Q vs ds r rs h => ?_⟩
  unfold cAbs at h
  split at h
  · obtain ⟨v, rfl, rv⟩ := rs.one
    cases rv
    refine ⟨_, rfl, ?_⟩
    rename_i i
    have e : (if i < 0 then -i else i) = (i.natAbs : Int) := by split <;> omega
    rw [e]; exact h.now r _ (.int _)
  · exact h.elim
def intOf (s : List Nat) : Option Int := PySem.intText? ⟨s.toArray⟩
def cInt : List D → St → Out D := fun ds st => match ds with
  | [.int i] => .ok (.int i) st
  | [.bl b] => .ok (.int (if b then 1 else 0)) st
  | [.str s] => match intOf s with
    | some n => if s.length ≤ 640 then .ok (.int n) st else .bad
    | none => .bad
  | _ => .bad
theorem o_int : OpC S X W (.type "int") cInt := by
  refine ⟨_, call_int1.or call_int_str, fun σ m F st H Q vs ds r rs h => ?_⟩
  unfold cInt at h
  split at h
  · obtain ⟨v, rfl, rv⟩ := rs.one
    cases rv
    exact .inl (.inl ⟨_, rfl, h.now r _ (.int _)⟩)
  · obtain ⟨v, rfl, rv⟩ := rs.one
    cases rv
    exact .inl (.inr ⟨_, rfl, h.now r _ (.int _)⟩)
  · split at h
    · split at h
      · rename_i e hl
        obtain ⟨v, rfl, rv⟩ := rs.one
        cases rv
        refine .inr ⟨_, _, rfl, e, ?_, h.now r _ (.int _)⟩
        show (mk _).length ≤ 640
        rw [mk_len]; exact hl
      · exact h.elim
    · exact h.elim
  · exact h.elim
def cTup : List D → St → Out D := fun ds st => match ds with
  | [.tup ds] => .ok (.tup ds) st
  | [x] => match lqOf st x with
    | some ds => .ok (.tup ds) st
    | none => .bad
  | _ => .bad
theorem o_tup : OpC S X W (.type "tuple") cTup := by
  refine ⟨_, call_tuple_of, fun σ m F st H Q vs ds r rs h => ?_⟩
  unfold cTup at h
  split at h
  · obtain ⟨v, rfl, rv⟩ := rs.one
    cases rv with | tup e r2 => exact ⟨_, _, rfl, .inr ⟨r.sub.sqt e, h.now r _ (.tup e r2)⟩⟩
  · split at h
    · rename_i e
      obtain ⟨v, rfl, rv⟩ := rs.one
      obtain ⟨a, xs, rfl, h1, h2⟩ := lq_of r rv e
      exact ⟨a, xs, rfl, .inl ⟨h1, new_tup r h2 h⟩⟩
    · exact h.elim
  · exact h.elim
def cLst : List D → St → Out D := fun ds st => match ds with
  | [x] => match seqOf st x with
    | some ds => .ok (.lst ds) st
    | none => .bad
  | _ => .bad
theorem o_lst : OpC S X W (.type "list") cLst := by
  refine ⟨_, call_list_of, fun σ m F st H Q vs ds r rs h => ?_⟩
  unfold cLst at h
  split at h
  · split at h
    · rename_i e
      obtain ⟨v, rfl, rv⟩ := rs.one
      obtain ⟨a, xs, rfl, h1, h2⟩ := seq_of r rv e
      exact ⟨a, xs, rfl, h1, new_lst r h2 h⟩
    · exact h.elim
  · exact h.elim
end
end MP

set_option maxRecDepth 100000
set_option maxHeartbeats 1000000
/-! MP7: statements. -/
namespace MP
open PySem PySem.Spec PyProof.Rows L2

inductive SO where
  | nx (ρ : Env) (st : St) | ret (d : D) (st : St) | brk (ρ : Env) (st : St) | cont (ρ : Env) (st : St) | exc (c : Nat) (fs : List D) (st : St) | bad
def SO.seq (x : SO) (f : Env → St → SO) : SO := match x with
  | .nx ρ st => f ρ st
  | x => x
@[simp] theorem SO.seq_nx (ρ : Env) (st : St) (f : Env → St → SO) : (SO.nx ρ st).seq f = f ρ st := rfl
@[simp] theorem SO.seq_ret (d : D) (st : St) (f : Env → St → SO) : (SO.ret d st).seq f = .ret d st := rfl
@[simp] theorem SO.seq_brk (ρ : Env) (st : St) (f : Env → St → SO) : (SO.brk ρ st).seq f = .brk ρ st := rfl
@[simp] theorem SO.seq_cont (ρ : Env) (st : St) (f : Env → St → SO) : (SO.cont ρ st).seq f = .cont ρ st := rfl
@[simp] theorem SO.seq_exc (c : Nat) (fs : List D) (st : St) (f : Env → St → SO) : (SO.exc c fs st).seq f = .exc c fs st := rfl
@[simp] theorem SO.seq_bad (f : Env → St → SO) : SO.bad.seq f = .bad := rfl
def Out.toS {α : Type} (x : Out α) (f : α → St → SO) : SO := match x with
  | .ok a st => f a st
  | .exc c fs st => .exc c fs st
  | .bad => .bad
@[simp] theorem Out.toS_ok {α : Type} (a : α) (st : St) (f : α → St → SO) : (Out.ok a st).toS f = f a st := rfl
@[simp] theorem Out.toS_exc {α : Type} (c : Nat) (fs : List D) (st : St) (f : α → St → SO) : (Out.exc c fs st : Out α).toS f = .exc c fs st := rfl
@[simp] theorem Out.toS_bad {α : Type} (f : α → St → SO) : (Out.bad : Out α).toS f = .bad := rfl

section
variable (S : Se) (X : Cx) (W : WX)
def SPost (n : Nat) (D : Ends) (m : List Addr) (F H : Hp) : SO → Prop
  | .nx ρ' st' => ∀ σ' m' F' H', σ'.length = n → Step m F H m' F' H' → Rel X.K S.T m' F' st' H' → EnvR X.K m' F' σ' ρ' → D.nx σ' H'
  | .ret d st' => ∀ v m' F' H', Step m F H m' F' H' → Rel X.K S.T m' F' st' H' → R X.K m' F' v d → D.rt v H'
  | .brk ρ' st' => ∀ σ' m' F' H', σ'.length = n → Step m F H m' F' H' → Rel X.K S.T m' F' st' H' → EnvR X.K m' F' σ' ρ' → D.bk σ' H'
  | .cont ρ' st' => ∀ σ' m' F' H', σ'.length = n → Step m F H m' F' H' → Rel X.K S.T m' F' st' H' → EnvR X.K m' F' σ' ρ' → D.ct σ' H'
  | .exc c fs st' => ∀ σ' m' F' H', Step m F H m' F' H' → Rel X.K S.T m' F' st' H' → σ'.length = n → XW S.g X.K W σ' c fs m' F' H'
  | .bad => False
def TSof (f : Env → St → SO) : TS := fun D σ H => ∃ ρ m F st, EnvR X.K m F σ ρ ∧ Rel X.K S.T m F st H ∧ SPost S X W σ.length D m F H (f ρ st)
end
theorem _root_.L2.PS.weak {X : Cx} {e : Stmt} {t t' : TS} (h : PS X e t) (w : ∀ D σ H, t' D σ H → t D σ H) : PS X e t' := ⟨fun pins s σ H D I q => h.run pins s σ H D I (w D σ H q)⟩
theorem _root_.L2.PSs.weak {X : Cx} {e : List Stmt} {t t' : TS} (h : PSs X e t) (w : ∀ D σ H, t' D σ H → t D σ H) : PSs X e t' := ⟨fun pins s σ H D I q => h.run pins s σ H D I (w D σ H q)⟩
section
variable {S : Se} {X : Cx} {W : WX} {σ : L2.St} {m : List Addr} {F H : Hp} {st : St} {D : Ends}

theorem SPost.later {K : PySem.W.Frag} {n : Nat} {m1 : List Addr} {F1 H1 : Hp} {st1 : St} {x : SO} (s : Step m F H m1 F1 H1) (r : Rel X.K S.T m1 F1 st1 H1) (h : SPost S X W n D m F H x) : SPost S X W n D m1 F1 H1 x := by
  cases x with
  | nx ρ st => exact fun σ' m' F' H' hn s' => h σ' m' F' H' hn (s.trans r s')
  | ret d st => exact fun v m' F' H' s' => h v m' F' H' (s.trans r s')
  | brk ρ st => exact fun σ' m' F' H' hn s' => h σ' m' F' H' hn (s.trans r s')
  | cont ρ st => exact fun σ' m' F' H' hn s' => h σ' m' F' H' hn (s.trans r s')
  | exc c fs st => exact fun σ' m' F' H' s' => h σ' m' F' H' (s.trans r s')
  | bad => exact h
/-- behind an expression -/
theorem SPost.bind {α : Type} {n : Nat} {x : Out α} {f : α → St → SO} (hn : σ.length = n) (h : SPost S X W n D m F H (x.toS f)) :
    Post X.K S.T m F H (fun a m' F' H' => ∃ st', Rel X.K S.T m' F' st' H' ∧ SPost S X W n D m' F' H' (f a st')) (XW S.g X.K W σ) x := by
  cases x with
  | ok a st => exact fun m' F' H' s r => ⟨st, r, SPost.later (K := X.K) s r h⟩
  | exc c fs st => exact fun m' F' H' s r => h σ m' F' H' s r hn
  | bad => exact h
theorem SPost.now {n : Nat} {ρ : Env} (h : SPost S X W n D m F H (.nx ρ st)) (hn : σ.length = n) (r : Rel X.K S.T m F st H) (E : EnvR X.K m F σ ρ) : D.nx σ H := h σ m F H hn (Step.refl m F H) r E

/-! ### one after the other -/
def gNx : Env → St → SO := fun ρ st => .nx ρ st
def gSeq (f g : Env → St → SO) : Env → St → SO := fun ρ st => (f ρ st).seq g
theorem s_pass {pos : Pos} : PS X (.Pass pos) (TSof S X W gNx) := ps_pass.weak fun D σ H ⟨ρ, m, F, st, E, r, h⟩ => SPost.now h rfl r E
theorem ss_nil : PSs X [] (TSof S X W gNx) := pss_nil.weak fun D σ H ⟨ρ, m, F, st, E, r, h⟩ => SPost.now h rfl r E
theorem i_seq {f g : Env → St → SO} : ∀ D σ H, TSof S X W (gSeq f g) D σ H → tSeq (TSof S X W f) (TSof S X W g) D σ H := by
  intro D σ H ⟨ρ, m, F, st, E, r, h⟩
  refine ⟨ρ, m, F, st, E, r, ?_⟩
  unfold gSeq at h
  cases e : f ρ st with
  | nx ρ' st' =>
    rw [e] at h
    intro σ' m' F' H' hn s r' E'
    refine ⟨ρ', m', F', st', E', r', ?_⟩
    rw [hn]
    exact SPost.later (K := X.K) s r' h
  | _ => rw [e] at h; exact h
theorem ss_cons {s : Stmt} {rest : List Stmt} {f g : Env → St → SO} (h1 : PS X s (TSof S X W f)) (h2 : PSs X rest (TSof S X W g)) : PSs X (s :: rest) (TSof S X W (gSeq f g)) := (pss_cons h1 h2).weak i_seq
def gBrk : Env → St → SO := fun ρ st => .brk ρ st
def gCont : Env → St → SO := fun ρ st => .cont ρ st
theorem s_brk {pos : Pos} : PS X (.Break pos) (TSof S X W gBrk) := ps_break.weak fun D σ H ⟨ρ, m, F, st, E, r, h⟩ => h σ m F H rfl (Step.refl m F H) r E
theorem s_cont {pos : Pos} : PS X (.Continue pos) (TSof S X W gCont) := ps_continue.weak fun D σ H ⟨ρ, m, F, st, E, r, h⟩ => h σ m F H rfl (Step.refl m F H) r E

/-! ### expressions, returns, assignments to names -/
def gExpr (f : Env → St → Out MP.D) : Env → St → SO := fun ρ st => (f ρ st).toS fun _ st1 => .nx ρ st1
theorem s_expr {e : Expr} {pos : Pos} {f : Env → St → Out MP.D} (he : PE X e (TEof S X W f)) (hs : swapsWith e none pos.line X.env = pure false) : PS X (.Expr e pos) (TSof S X W (gExpr f)) := by
  refine (ps_expr he hs).weak fun D σ H ⟨ρ, m, F, st, E, r, h⟩ => ⟨ρ, m, F, st, E, r, (SPost.bind rfl h).imp (fun d m1 F1 H1 s1 q v rv => ?_) fun _ _ _ _ _ y => y⟩
  obtain ⟨st1, r1, q⟩ := q
  exact SPost.now q rfl r1 (E.mono s1.mono)
def gRet (f : Env → St → Out MP.D) : Env → St → SO := fun ρ st => (f ρ st).toS fun d st1 => .ret d st1
theorem s_ret {e : Expr} {pos : Pos} {f : Env → St → Out MP.D} (he : PE X e (TEof S X W f)) : PS X (.Return (some e) pos) (TSof S X W (gRet f)) := by
  refine (ps_ret he).weak fun D σ H ⟨ρ, m, F, st, E, r, h⟩ => ⟨ρ, m, F, st, E, r, (SPost.bind rfl h).imp (fun d m1 F1 H1 s1 q v rv => ?_) fun _ _ _ _ _ y => y⟩
  obtain ⟨st1, r1, q⟩ := q
  exact q v m1 F1 H1 (Step.refl _ _ _) r1 rv
def gRetN : Env → St → SO := fun _ st => .ret .non st
theorem s_retN {pos : Pos} : PS X (.Return none pos) (TSof S X W gRetN) := ps_retN.weak fun D σ H ⟨ρ, m, F, st, E, r, h⟩ => h .non m F H (Step.refl _ _ _) r .non
theorem EnvR.set {K : PySem.W.Frag} {ρ : Env} {v : V} {d : MP.D} (E : EnvR K m F σ ρ) (rv : R K m F v d) (i : Nat) : EnvR K m F (σ.set i (some v)) (ρ.set i (some d)) := by
  refine ⟨by rw [List.length_set, List.length_set]; exact E.len, fun j e h => ?_⟩
  by_cases hij : i = j
  · subst hij
    by_cases hl : i < ρ.length
    · rw [List.getElem?_set_self hl] at h
      cases h
      exact ⟨v, List.getElem?_set_self (by rw [E.len]; exact hl), rv⟩
    · rw [List.getElem?_eq_none (by rw [List.length_set]; omega)] at h
      cases h
  · rw [List.getElem?_set_ne hij] at h ⊢
    exact E.get j e h
def gSet (i : Nat) (f : Env → St → Out MP.D) : Env → St → SO := fun ρ st => (f ρ st).toS fun d st1 => .nx (ρ.set i (some d)) st1
theorem i_set {i : Nat} {f : Env → St → Out MP.D} : ∀ D σ H, TSof S X W (gSet i f) D σ H → tAsg (TEof S X W f) (gName i) D σ H := by
  intro D σ H ⟨ρ, m, F, st, E, r, h⟩
  refine ⟨ρ, m, F, st, E, r, (SPost.bind rfl h).imp (fun d m1 F1 H1 s1 q v rv => ?_) fun _ _ _ _ _ y => y⟩
  obtain ⟨st1, r1, q⟩ := q
  exact SPost.now q (List.length_set ..) r1 ((E.mono s1.mono).set rv i)
theorem s_set {i : Nat} {x : Str} {e : Expr} {pos pos' : Pos} {f : Env → St → Out MP.D} (hN : X.N.Nodup) (hi : X.N[i]? = some x) (hx : Loc X.env.scope x) (he : PE X e (TEof S X W f)) (hs : swapsWith e (some (.Name x pos')) pos.line X.env = pure false)
    (hf : X.fn x = true ∨ X.env.scope.names.lookup x = some .local) : PS X (.Assign [.Name x pos'] e pos) (TSof S X W (gSet i f)) := (ps_set hN hi hx he hs hf).weak i_set

/-! ### if -/
def gIf (c : Env → St → Out Bool) (f g : Env → St → SO) : Env → St → SO := fun ρ st => (c ρ st).toS fun b st1 => if b = true then f ρ st1 else g ρ st1
theorem s_iff {c : Expr} {a b : List Stmt} {pos : Pos} {fc : Env → St → Out Bool} {f g : Env → St → SO} (hc : PT X c (TTof S X W fc)) (ha : PSs X a (TSof S X W f)) (hb : PSs X b (TSof S X W g)) : PS X (.If c a b pos) (TSof S X W (gIf fc f g)) := by
  refine (ps_if hc ha hb).weak fun D σ H ⟨ρ, m, F, st, E, r, h⟩ => ⟨ρ, m, F, st, E, r, (SPost.bind rfl h).imp (fun b m1 F1 H1 s1 q => ?_) fun _ _ _ _ _ y => y⟩
  obtain ⟨st1, r1, q⟩ := q
  cases b with
  | true => exact iteT ⟨ρ, m1, F1, st1, E.mono s1.mono, r1, q⟩
  | false => exact iteF ⟨ρ, m1, F1, st1, E.mono s1.mono, r1, q⟩

/-! ### while -/
/-- at most n turns -/
def gWh (c : Env → St → Out Bool) (f : Env → St → SO) : Nat → Env → St → SO
  | 0, _, _ => .bad
  | n + 1, ρ, st => (c ρ st).toS fun b st1 => if b = true then (match f ρ st1 with
      | .nx ρ' st' => gWh c f n ρ' st'
      | .cont ρ' st' => gWh c f n ρ' st'
      | .brk ρ' st' => .nx ρ' st'
      | x => x) else .nx ρ st1
def gWhile (fuel : Env → St → Nat) (c : Env → St → Out Bool) (f : Env → St → SO) : Env → St → SO := fun ρ st => gWh c f (fuel ρ st) ρ st
theorem s_while {c : Expr} {body : List Stmt} {pos : Pos} {fuel : Env → St → Nat} {fc : Env → St → Out Bool} {f : Env → St → SO} (hp : PassesOwn (model X.prog X.w) X.A X.env X.xe) (hc : PT X c (TTof S X W fc)) (hb : PSs X body (TSof S X W f)) :
    PS X (.While c body [] pos) (TSof S X W (gWhile fuel fc f)) := by
  refine (ps_while hp hc hb).weak fun D σ H ⟨ρ, m, F, st, E, r, h⟩ => ?_
  let Wv : Nat → L2.St → Hp → Prop := fun n σ' H' => σ'.length = σ.length ∧ ∃ ρ' m' F' st', EnvR X.K m' F' σ' ρ' ∧ Rel X.K S.T m' F' st' H' ∧ SPost S X W σ.length D m' F' H' (gWh fc f n ρ' st')
  refine ⟨Wv, ⟨fuel ρ st, rfl, ρ, m, F, st, E, r, h⟩, ?_⟩
  rintro n σ1 H1 ⟨hl, ρ1, m1, F1, st1, E1, r1, h1⟩
  cases n with
  | zero => exact h1.elim
  | succ n =>
    refine ⟨ρ1, m1, F1, st1, E1, r1, (SPost.bind hl h1).imp (fun b m2 F2 H2 s2 q => ?_) fun _ _ _ _ _ y => y⟩
    obtain ⟨st2, r2, q⟩ := q
    cases b with
    | true =>
      refine iteT ⟨fun σ' H' => Wv n σ' H', fun σ' H' w => ⟨n, Nat.lt_succ_self n, w⟩, ρ1, m2, F2, st2, E1.mono s2.mono, r2, ?_⟩
      rw [if_pos rfl] at q
      rw [hl]
      cases e : f ρ1 st2 with
      | nx ρ' st' =>
        rw [e] at q
        exact fun σ' m' F' H' hn s' r' E' => ⟨hn, ρ', m', F', st', E', r', SPost.later (K := X.K) s' r' q⟩
      | cont ρ' st' =>
        rw [e] at q
        exact fun σ' m' F' H' hn s' r' E' => ⟨hn, ρ', m', F', st', E', r', SPost.later (K := X.K) s' r' q⟩
      | brk ρ' st' => rw [e] at q; exact q
      | ret d st' => rw [e] at q; exact q
      | exc c fs st' => rw [e] at q; exact q
      | bad => rw [e] at q; exact q
    | false => exact iteF (SPost.now q hl r2 (E1.mono s2.mono))
end
end MP

set_option maxRecDepth 100000
set_option maxHeartbeats 1000000
/-! MP8: loops, comprehensions, assignments to several names. -/
namespace MP
open PySem PySem.Spec PyProof.Rows L2

/-! ### what is walked -/
/-- a list, a tuple, a text: by what comes -/
theorem pi_any {X : Cx} {tg l : Expr} {tl : TE} (hl : PE X l tl) :
    PI X tg l (fun σ H R => tl σ H fun x H1 => (∃ a, x = .ref a ∧ (∃ xs, SqL X.K H1 a xs) ∧ R (Itl X.K a) H1) ∨ (∃ a, x = .ref a ∧ (∃ xs, SqT X.K H1 a xs) ∧ R (Itt X.K a) H1) ∨ ∃ z, x = .str z ∧ R (Its z) H1) := by
  refine ⟨fun pins s σ H R I h => ?_⟩
  refine thn (hl.run pins s σ H _ I h) fun v s1 ⟨x, H1, I1, r1, q1⟩ => ?_
  have fr : ∀ b ∈ [s1.heap.objs.size], FpOk X pins H1 b := fun b hb => by
    have e : b = s1.heap.objs.size := by simpa using hb
    subst e
    exact I1.fpOk (Nat.le_refl _) (I1.hok.fresh (Nat.le_refl _))
  rcases q1 with ⟨a, e, ⟨xs, hq⟩, q⟩ | ⟨a, e, ⟨xs, hq⟩, q⟩ | ⟨z, e, q⟩
  · subst e
    cases r1
    obtain ⟨its, rv, p, hz⟩ := I1.list hq
    exact wpAny_pyIter_list p.isList ⟨s1.heap.objs.size, [s1.heap.objs.size], _, _, H1, rfl, I1.kept (t' := s1.toks) fun b o e => Heap.get?_push_of_some _ e, turn_list a _, ⟨_, Heap.get?_push_size _ rfl, rfl, rfl⟩, fr, q⟩
  · subst e
    cases r1
    obtain ⟨its, rv, p, hz⟩ := I1.tuple hq
    exact wpAny_pyIter_tuple (show s1.heap.IsTuple a its.toArray from p) ⟨s1.heap.objs.size, [s1.heap.objs.size], _, _, H1, rfl, I1.kept (t' := s1.toks) fun b o e => Heap.get?_push_of_some _ e, turn_tuple a _, ⟨_, Heap.get?_push_size _ rfl, rfl, rfl⟩, fr, q⟩
  · subst e
    obtain ⟨t, rfl⟩ := r1
    cases ha : z.cps.all (· < 128)
    · exact wpAny_pyIter_wide ha (pi_one (tk := s1.toks) I1 _ (turn_str _ z t "str_iterator" (.inr rfl)) ⟨_, Heap.get?_push_size _ rfl, rfl, rfl⟩ q)
    · exact wpAny_pyIter_ascii ha (pi_one (tk := s1.toks) I1 _ (turn_str _ z t "str_ascii_iterator" (.inl rfl)) ⟨_, Heap.get?_push_size _ rfl, rfl, rfl⟩ q)

section
variable {S : Se} {X : Cx} {W : WX} {σ : L2.St} {m : List Addr} {F H : Hp} {st : St}
/-- the walk J gives the items ds, whatever happens to the store meanwhile -/
def ItOk (S : Se) (K : PySem.W.Frag) (m : List Addr) (F : Hp) (J : It) (ds : List D) : Prop :=
  ∀ m' F' st' H', Mono m F m' F' → Rel K S.T m' F' st' H' → J.stop ds.length H' ∧
    ∀ k d, ds[k]? = some d → J.go k H' ∧ ∀ x H2, J.yld k H' x H2 → ∃ F2, Step m' F' H' m' F2 H2 ∧ Rel K S.T m' F2 st' H2 ∧ R K m' F2 x d
abbrev TIof (S : Se) (X : Cx) (W : WX) (f : Env → St → Out (List D)) : TI := fun σ H Q => ∃ ρ m F st, EnvR X.K m F σ ρ ∧ Rel X.K S.T m F st H ∧
  Post X.K S.T m F H (fun ds m' F' H' => ∀ J, ItOk S X.K m' F' J ds → Q J H') (XW S.g X.K W σ) (f ρ st)
theorem _root_.L2.PI.weak {X : Cx} {tg e : Expr} {t t' : TI} (h : PI X tg e t) (w : ∀ σ H Q, t' σ H Q → t σ H Q) : PI X tg e t' := ⟨fun pins s σ H Q I q => h.run pins s σ H Q I (w σ H Q q)⟩
/-- the items of a value that never changes -/
def itemsOf : D → Option (List D)
  | .tup ds => some ds
  | .lst ds => some ds
  | .lsk ds => some ds
  | .str s => some (s.map fun c => .str [c])
  | _ => none
def fIt (f : Env → St → Out D) : Env → St → Out (List D) := fun ρ st => (f ρ st).bind fun d st1 => match itemsOf d with
  | some ds => .ok ds st1
  | none => .bad
theorem itl_ok {a : Addr} {xs : List V} {ds : List D} (h : SqL X.K F a xs) (rs : Rs X.K m F xs ds) : ItOk S X.K m F (Itl X.K a) ds := fun m' F' st' H' M r => by
  have hq : SqL X.K H' a xs := r.sub.seq (M.fr.seq h)
  refine ⟨⟨xs, hq, by rw [rs.length]; exact Nat.le_refl _⟩, fun k d e => ?_⟩
  obtain ⟨v, h1, h2⟩ := rs.get e
  refine ⟨⟨xs, v, hq, h1⟩, fun x H2 ⟨e1, e2⟩ => ?_⟩
  subst e1
  have := (e2 xs hq).symm.trans h1
  cases this
  exact ⟨F', Step.refl _ _ _, r, h2.mono M⟩
theorem itt_ok {a : Addr} {xs : List V} {ds : List D} (h : SqT X.K F a xs) (rs : Rs X.K m F xs ds) : ItOk S X.K m F (Itt X.K a) ds := fun m' F' st' H' M r => by
  have hq : SqT X.K H' a xs := r.sub.sqt (M.fr.sqt h)
  refine ⟨⟨xs, hq, by rw [rs.length]; exact Nat.le_refl _⟩, fun k d e => ?_⟩
  obtain ⟨v, h1, h2⟩ := rs.get e
  refine ⟨⟨xs, v, hq, h1⟩, fun x H2 ⟨e1, e2⟩ => ?_⟩
  subst e1
  have := (e2 xs hq).symm.trans h1
  cases this
  exact ⟨F', Step.refl _ _ _, r, h2.mono M⟩
theorem its_ok {z : List Nat} : ItOk S X.K m F (Its (mk z)) (z.map fun c => .str [c]) := fun m' F' st' H' M r => by
  refine ⟨by simp [Its, mk], fun k d e => ?_⟩
  rw [List.getElem?_map] at e
  cases hz : z[k]? with
  | none => rw [hz] at e; cases e
  | some c =>
    rw [hz] at e
    cases e
    have hk : k < z.length := (List.getElem?_eq_some_iff.mp hz).1
    refine ⟨by simpa [Its, mk] using hk, fun x H2 ⟨e1, c', e2, e3⟩ => ?_⟩
    subst e1
    have : c' = c := by
      have : (mk z).cps[k]? = some c := by simpa [mk] using hz
      rw [this] at e2; exact (Option.some.inj e2).symm
    subst this
    subst e3
    exact ⟨F', Step.refl _ _ _, r, .str [c']⟩
theorem s_it {tg e : Expr} {f : Env → St → Out D} (he : PE X e (TEof S X W f)) : PI X tg e (TIof S X W (fIt f)) := by
  refine (pi_any he).weak fun σ H Q ⟨ρ, m, F, st, E, r, h⟩ => ⟨ρ, m, F, st, E, r, (Post.bind h).imp (fun d m1 F1 H1 s1 q v rv => ?_) fun _ _ _ _ _ y => y⟩
  obtain ⟨st1, r1, q⟩ := q
  cases rv with
  | tup e rs => exact .inr (.inl ⟨_, rfl, ⟨_, r1.sub.sqt e⟩, Post.now (P := fun ds m' F' H' => ∀ J, ItOk S X.K m' F' J ds → Q J H') q r1 _ (itt_ok e rs)⟩)
  | lst e rs => exact .inl ⟨_, rfl, ⟨_, SqL.of (r1.sub _ _ e)⟩, Post.now (P := fun ds m' F' H' => ∀ J, ItOk S X.K m' F' J ds → Q J H') q r1 _ (itl_ok (SqL.of e) rs)⟩
  | lsk e rs => exact .inl ⟨_, rfl, ⟨_, r1.sub.seq e⟩, Post.now (P := fun ds m' F' H' => ∀ J, ItOk S X.K m' F' J ds → Q J H') q r1 _ (itl_ok e rs)⟩
  | str z => exact .inr (.inr ⟨_, rfl, Post.now (P := fun ds m' F' H' => ∀ J, ItOk S X.K m' F' J ds → Q J H') q r1 _ its_ok⟩)
  | _ => exact q.elim
/-- range -/
def rg (lo : Int) (n : Nat) : List D := (List.range n).map fun i => .int (lo + (i : Nat))
theorem itr_ok {lo : Int} {n : Nat} : ItOk S X.K m F (Itr lo n) (rg lo n) := fun m' F' st' H' M r => by
  refine ⟨by simp [Itr, rg], fun k d e => ?_⟩
  unfold rg at e
  rw [List.getElem?_map] at e
  by_cases hk : k < n
  · rw [List.getElem?_range hk] at e
    cases e
    refine ⟨hk, fun x H2 ⟨e1, e2⟩ => ?_⟩
    subst e1 e2
    exact ⟨F', Step.refl _ _ _, r, .int _⟩
  · rw [List.getElem?_eq_none (by simpa using hk)] at e
    cases e
def fRg1 (f : Env → St → Out (List D)) : Env → St → Out (List D) := fun ρ st => (f ρ st).bind fun ds st1 => match ds with
  | [.int j] => if -4611686018427387904 ≤ j ∧ j < 4611686018427387904 then .ok (rg 0 j.toNat) st1 else .bad
  | _ => .bad
def fRg2 (f : Env → St → Out (List D)) : Env → St → Out (List D) := fun ρ st => (f ρ st).bind fun ds st1 => match ds with
  | [.int i, .int j] => if (-4611686018427387904 ≤ i ∧ i < 4611686018427387904) ∧ -4611686018427387904 ≤ j ∧ j < 4611686018427387904 then .ok (rg i (j - i).toNat) st1 else .bad
  | _ => .bad
theorem s_rg1 {tg a : Expr} {p pos : Pos} {f : Env → St → Out (List D)} (hg : Gl X "range") (hm : X.mg "range" = none) (ha : PA X [a] (TAof S X W f)) (hs : starEach [a] X.env = [(false, eval a X.env)]) :
    PI X tg (.Call (.Name "range" p) [a] [] pos) (TIof S X W (fRg1 f)) := by
  refine (pi_range1 hg hm ha hs).weak fun σ H Q ⟨ρ, m, F, st, E, r, h⟩ => ⟨ρ, m, F, st, E, r, (Post.bind h).imp (fun ds m1 F1 H1 s1 q vs rv => ?_) fun _ _ _ _ _ y => y⟩
  obtain ⟨st1, r1, q⟩ := q
  split at q
  · split at q
    · rename_i j hb
      obtain ⟨v, rfl, rv'⟩ := Rs.one rv
      cases rv'
      exact ⟨_, rfl, hb.1, hb.2, Post.now (P := fun ds m' F' H' => ∀ J, ItOk S X.K m' F' J ds → Q J H') q r1 _ itr_ok⟩
    · exact q.elim
  · exact q.elim
theorem s_rg2 {tg a b : Expr} {p pos : Pos} {f : Env → St → Out (List D)} (hg : Gl X "range") (hm : X.mg "range" = none) (ha : PA X [a, b] (TAof S X W f)) (hs : starEach [a, b] X.env = [(false, eval a X.env), (false, eval b X.env)]) (hs2 : starEach [b] X.env = [(false, eval b X.env)]) :
    PI X tg (.Call (.Name "range" p) [a, b] [] pos) (TIof S X W (fRg2 f)) := by
  refine (pi_range2 hg hm ha hs hs2).weak fun σ H Q ⟨ρ, m, F, st, E, r, h⟩ => ⟨ρ, m, F, st, E, r, (Post.bind h).imp (fun ds m1 F1 H1 s1 q vs rv => ?_) fun _ _ _ _ _ y => y⟩
  obtain ⟨st1, r1, q⟩ := q
  split at q
  · split at q
    · rename_i i j hb
      obtain ⟨v, w, rfl, rv, rw⟩ := Rs.two rv
      cases rv
      cases rw
      exact ⟨_, _, rfl, ⟨hb.1.1, hb.1.2, hb.2.1, hb.2.2⟩, Post.now (P := fun ds m' F' H' => ∀ J, ItOk S X.K m' F' J ds → Q J H') q r1 _ itr_ok⟩
    · exact q.elim
  · exact q.elim

/-! ### targets -/
abbrev Tgt := D → Env → Option Env
def TGof (S : Se) (X : Cx) (tg : Tgt) (sl : List Nat) : TG := fun v σ H Q => ∃ ρ m F st d, EnvR X.K m F σ ρ ∧ Rel X.K S.T m F st H ∧ R X.K m F v d ∧ match tg d ρ with
  | some ρ' => ∀ σ', σ'.length = σ.length → (∀ j, j ∉ sl → σ'[j]? = σ[j]?) → EnvR X.K m F σ' ρ' → Q σ' H
  | none => False
abbrev Tgts := List D → Env → Option Env
def TGsof (S : Se) (X : Cx) (tg : Tgts) (sl : List Nat) : TGs := fun vs σ H Q => ∃ ρ m F st ds, EnvR X.K m F σ ρ ∧ Rel X.K S.T m F st H ∧ Rs X.K m F vs ds ∧ match tg ds ρ with
  | some ρ' => ∀ σ', σ'.length = σ.length → (∀ j, j ∉ sl → σ'[j]? = σ[j]?) → EnvR X.K m F σ' ρ' → Q σ' H
  | none => False
theorem _root_.L2.PG.weak {X : Cx} {tg : Expr} {t t' : TG} (h : PG X tg t) (w : ∀ v σ H Q, t' v σ H Q → t v σ H Q) : PG X tg t' := ⟨fun pins s σ H v u Q I r q => h.run pins s σ H v u Q I r (w v σ H Q q)⟩
theorem _root_.L2.PGs.weak {X : Cx} {tg : List Expr} {t t' : TGs} (h : PGs X tg t) (w : ∀ v σ H Q, t' v σ H Q → t v σ H Q) : PGs X tg t' := ⟨fun pins s σ H v u Q I r q => h.run pins s σ H v u Q I r (w v σ H Q q)⟩
def tgName (i : Nat) : Tgt := fun d ρ => some (ρ.set i (some d))
theorem t_name {i : Nat} {x : Str} {pos : Pos} (hN : X.N.Nodup) (hi : X.N[i]? = some x) (hx : Loc X.env.scope x) (hf : X.fn x = true ∨ X.env.scope.names.lookup x = some .local) : PG X (.Name x pos) (TGof S X (tgName i) [i]) :=
  (pg_name hN hi hx hf).weak fun v σ H Q ⟨ρ, m, F, st, d, E, r, rv, h⟩ => h _ (List.length_set ..) (fun j hj => List.getElem?_set_ne (fun z => hj (by rw [z]; exact List.mem_singleton.mpr rfl))) (E.set rv i)
def tgNil : Tgts := fun ds ρ => match ds with
  | [] => some ρ
  | _ => none
def tgCons (t : Tgt) (u : Tgts) : Tgts := fun ds ρ => match ds with
  | d :: ds => match t d ρ with
    | some ρ1 => u ds ρ1
    | none => none
  | [] => none
theorem t_nil : PGs X [] (TGsof S X tgNil []) := pgs_nil.weak fun vs σ H Q ⟨ρ, m, F, st, ds, E, r, rs, h⟩ => by
  cases rs with
  | nil => exact ⟨rfl, h σ rfl (fun _ _ => rfl) E⟩
  | cons _ _ => exact h.elim
theorem t_cons {e : Expr} {es : List Expr} {t : Tgt} {u : Tgts} {s1 s2 : List Nat} (h1 : PG X e (TGof S X t s1)) (h2 : PGs X es (TGsof S X u s2)) (hs : (assignEach (e :: es) X.env).map (·.2) = assign e X.env :: (assignEach es X.env).map (·.2)) : PGs X (e :: es) (TGsof S X (tgCons t u) (s1 ++ s2)) := by
  refine (pgs_cons h1 h2 hs).weak fun vs σ H Q ⟨ρ, m, F, st, ds, E, r, rs, h⟩ => ?_
  cases rs with
  | nil => exact h.elim
  | cons rv rs =>
    refine ⟨_, _, rfl, ρ, m, F, st, _, E, r, rv, ?_⟩
    rename_i v vs d ds _
    unfold tgCons at h
    cases e1 : t d ρ with
    | none => simp only [e1] at h
    | some ρ1 =>
      simp only [e1] at h
      intro σ1 hl hs1 E1
      refine ⟨ρ1, m, F, st, ds, E1, r, rs, ?_⟩
      cases e2 : u ds ρ1 with
      | none => rw [e2] at h; exact h
      | some ρ2 =>
        rw [e2] at h
        exact fun σ2 hl2 hs2 E2 => h σ2 (hl2.trans hl) (fun j hj => (hs2 j (fun z => hj (List.mem_append_right _ z))).trans (hs1 j (fun z => hj (List.mem_append_left _ z)))) E2
def tgTup (n : Nat) (u : Tgts) : Tgt := fun d ρ => match d with
  | .tup ds => if ds.length = n then u ds ρ else none
  | _ => none
theorem t_tup {es : List Expr} {k n : Nat} {pos : Pos} {u : Tgts} {sl : List Nat} (hc : X.calm = true) (h : PGs X es (TGsof S X u sl)) (hn : (assignEach es X.env).length = n) (hst : (assignEach es X.env).findIdx? (·.1) = none) : PG X (.Tuple es k pos) (TGof S X (tgTup n u) sl) := by
  refine (pg_tup hc h hn hst).weak fun v σ H Q ⟨ρ, m, F, st, d, E, r, rv, h⟩ => ?_
  cases rv with
  | tup e rs =>
    unfold tgTup at h
    simp only at h
    split at h
    · rename_i ρ' e1
      split at e1
      · rename_i hl
        refine ⟨_, _, rfl, r.sub.sqt e, by rw [rs.length]; exact hl, ρ, m, F, st, _, E, r, rs, ?_⟩
        rw [e1]; exact h
      · cases e1
    · exact h.elim
  | _ => exact h.elim
/-- target = value -/
def gAsg (f : Env → St → Out D) (tg : Tgt) : Env → St → SO := fun ρ st => (f ρ st).toS fun d st1 => match tg d ρ with
  | some ρ' => .nx ρ' st1
  | none => .bad
theorem s_asg {t e : Expr} {pos : Pos} {f : Env → St → Out D} {tg : Tgt} {sl : List Nat} (he : PE X e (TEof S X W f)) (hg : PG X t (TGof S X tg sl)) (hs : swapsWithSole [t] e pos.line X.env = pure false) (hw : swappedStores [t] e X.env = pure none)
    (h1 : (assignEach [t] X.env).map (·.2) = [assign t X.env]) : PS X (.Assign [t] e pos) (TSof S X W (gAsg f tg)) := by
  refine (ps_asg he hg hs hw h1).weak fun D σ H ⟨ρ, m, F, st, E, r, h⟩ => ⟨ρ, m, F, st, E, r, (SPost.bind rfl h).imp (fun d m1 F1 H1 s1 q v rv => ?_) fun _ _ _ _ _ y => y⟩
  obtain ⟨st1, r1, q⟩ := q
  refine ⟨ρ, m1, F1, st1, d, E.mono s1.mono, r1, rv, ?_⟩
  cases e1 : tg d ρ with
  | none => simp only [e1] at q; exact q.elim
  | some ρ' =>
    simp only [e1] at q
    exact fun σ' hl _ E' => SPost.now q hl r1 E'

/-! ### for -/
def gLoop (tg : Tgt) (body : Env → St → SO) : List D → Env → St → SO
  | [], ρ, st => .nx ρ st
  | d :: ds, ρ, st => match tg d ρ with
    | none => .bad
    | some ρ1 => match body ρ1 st with
      | .nx ρ' st' => gLoop tg body ds ρ' st'
      | .cont ρ' st' => gLoop tg body ds ρ' st'
      | .brk ρ' st' => .nx ρ' st'
      | x => x
def gFor (f : Env → St → Out (List D)) (tg : Tgt) (body : Env → St → SO) : Env → St → SO := fun ρ st => (f ρ st).toS fun ds st1 => gLoop tg body ds ρ st1
theorem s_for {tgt iter : Expr} {body : List Stmt} {pos : Pos} {f : Env → St → Out (List D)} {tg : Tgt} {sl : List Nat} {b : Env → St → SO} (hp : PassesOwn (model X.prog X.w) X.A X.env X.xe) (hc : X.calm = true) (hi : PI X tgt iter (TIof S X W f)) (hg : PG X tgt (TGof S X tg sl)) (hb : PSs X body (TSof S X W b))
    (hs : ∀ x, foldedSetIterable iter X.env x = pure x) : PS X (.For tgt iter body [] pos) (TSof S X W (gFor f tg b)) := by
  refine (ps_for hp hc hi hg hb hs).weak fun D σ H ⟨ρ, m, F, st, E, r, h⟩ => ⟨ρ, m, F, st, E, r, (SPost.bind rfl h).imp (fun ds m1 F1 H1 s1 q J hJ => ?_) fun _ _ _ _ _ y => y⟩
  obtain ⟨st1, r1, q⟩ := q
  let Wv : Nat → Nat → L2.St → Hp → Prop := fun i n σ' H' => n = ds.length - i ∧ i ≤ ds.length ∧ σ'.length = σ.length ∧ ∃ ρ' m' F' st', EnvR X.K m' F' σ' ρ' ∧ Rel X.K S.T m' F' st' H' ∧ Mono m1 F1 m' F' ∧ SPost S X W σ.length D m' F' H' (gLoop tg b (ds.drop i) ρ' st')
  refine ⟨Wv, ⟨ds.length, by simp, Nat.zero_le _, rfl, ρ, m1, F1, st1, E.mono s1.mono, r1, Mono.refl _ _, q⟩, ?_⟩
  rintro i n σ2 H2 ⟨rfl, hi, hl, ρ2, m2, F2, st2, E2, r2, M2, h2⟩
  obtain ⟨j1, j2⟩ := hJ m2 F2 st2 H2 M2 r2
  by_cases hlt : i < ds.length
  · obtain ⟨g1, g2⟩ := j2 i ds[i] (List.getElem?_eq_getElem hlt)
    rw [List.drop_eq_getElem_cons hlt] at h2
    refine .inr ⟨g1, fun σ' H' => Wv (i + 1) (ds.length - (i + 1)) σ' H', fun σ' H' w => ⟨_, by omega, w⟩, fun x H3 y => ?_⟩
    obtain ⟨F3, s3, r3, rx⟩ := g2 x H3 y
    refine ⟨ρ2, m2, F3, st2, ds[i], E2.mono s3.mono, r3, rx, ?_⟩
    unfold gLoop at h2
    cases e : tg ds[i] ρ2 with
    | none => simp only [e] at h2; exact h2.elim
    | some ρ3 =>
      simp only [e] at h2
      intro σ3 hl3 _ E3
      have hl3' : σ3.length = σ.length := hl3.trans hl
      refine ⟨ρ3, m2, F3, st2, E3, r3, ?_⟩
      rw [hl3']
      have h3 := SPost.later (K := X.K) s3 r3 h2
      cases eb : b ρ3 st2 with
      | nx ρ' st' =>
        simp only [eb] at h3
        exact fun σ' m' F' H' hn s' r' E' => ⟨rfl, hlt, hn, ρ', m', F', st', E', r', M2.trans (s3.mono.trans s'.mono), SPost.later (K := X.K) s' r' h3⟩
      | cont ρ' st' =>
        simp only [eb] at h3
        exact fun σ' m' F' H' hn s' r' E' => ⟨rfl, hlt, hn, ρ', m', F', st', E', r', M2.trans (s3.mono.trans s'.mono), SPost.later (K := X.K) s' r' h3⟩
      | brk ρ' st' => simp only [eb] at h3; exact h3
      | ret d st' => simp only [eb] at h3; exact h3
      | exc c fs st' => simp only [eb] at h3; exact h3
      | bad => simp only [eb] at h3; exact h3
  · have e : i = ds.length := by omega
    subst e
    rw [List.drop_length] at h2
    exact .inl ⟨j1, SPost.now h2 hl r2 E2⟩
end
end MP

set_option maxRecDepth 100000
set_option maxHeartbeats 1000000
/-! MP9: list comprehensions. -/
namespace MP
open PySem PySem.Spec PyProof.Rows L2

/-- nothing leaves a comprehension -/
abbrev WF : WX := fun _ _ _ _ => False
def Out.calm {α : Type} (x : Out α) : Out α := match x with
  | .ok a st => .ok a st
  | _ => .bad
@[simp] theorem Out.calm_ok {α : Type} (a : α) (st : St) : (Out.ok a st).calm = .ok a st := rfl
@[simp] theorem Out.calm_exc {α : Type} (c : Nat) (fs : List D) (st : St) : (Out.exc c fs st : Out α).calm = .bad := rfl
@[simp] theorem Out.calm_bad {α : Type} : (Out.bad : Out α).calm = .bad := rfl
/-- the turns of a comprehension -/
def lcLoop (tg : Tgt) (cd : Env → St → Out Bool) (el : Env → St → Out D) (ρ : Env) : List D → List D → St → Out (List D)
  | [], acc, st => .ok acc st
  | d :: ds, acc, st => match tg d ρ with
    | none => .bad
    | some ρ1 => (cd ρ1 st).calm.bind fun b st1 => if b = true then (el ρ1 st1).calm.bind fun y st2 => if acc.length < 16777216 then lcLoop tg cd el ρ ds (acc ++ [y]) st2 else .bad else lcLoop tg cd el ρ ds acc st1
def wipeE (ρ : Env) : List Nat → Env
  | [] => ρ
  | v :: vs => (wipeE ρ vs).set v none
def fLc (f : Env → St → Out (List D)) (tg : Tgt) (cd : Env → St → Out Bool) (el : Env → St → Out D) (own : List Nat) : Env → St → Out (List D) := fun ρ st => (f ρ st).bind fun ds st1 => lcLoop tg cd el (wipeE ρ own) ds [] st1
def fLcL (g : Env → St → Out (List D)) : Env → St → Out D := fun ρ st => (g ρ st).bind fun ds st1 => .ok (.lst ds) st1
section
variable {S : Se} {X : Cx} {W : WX} {σ : L2.St} {m : List Addr} {F H : Hp} {st : St}
theorem EnvR.wipe {K : PySem.W.Frag} {ρ : Env} (E : EnvR K m F σ ρ) : ∀ own : List Nat, EnvR K m F (L2.wipe σ own) (wipeE ρ own)
  | [] => E
  | v :: vs => by
    have h := EnvR.wipe E vs
    unfold L2.wipe wipeE
    refine ⟨by rw [List.length_set, List.length_set]; exact h.len, fun j d e => ?_⟩
    by_cases hij : v = j
    · subst hij
      by_cases hl : v < (wipeE ρ vs).length
      · rw [List.getElem?_set_self hl] at e; cases e
      · rw [List.getElem?_eq_none (by rw [List.length_set]; omega)] at e; cases e
    · rw [List.getElem?_set_ne hij] at e ⊢
      exact h.get j d e
/-- a test of a comprehension -/
theorem s_yes : PTs X [] (TTof S X W (fun _ st => .ok true st)) := by
  refine ⟨fun pins s σ H Q I ⟨ρ, m, F, st, E, r, h⟩ => ?_⟩
  exact pts_nil.run pins s σ H Q I (Post.now (P := fun b m' F' H' => Q b H') h r)
theorem s_ifs {c : Expr} {f : Env → St → Out Bool} (h : PT X c (TTof S X W f)) : PTs X [c] (TTof S X W f) := pts_one h
theorem Rel.side {K : PySem.W.Frag} {T : NTabs} (r : Rel K T m F st H) {a : Addr} {o : HO} (ha : a ∉ m) (hF : F a = none) (ht : ∀ u, H a = some u → ∃ xs, u = .lst xs) : Rel K T m F st (upd H a o) := by
  refine ⟨fun b u e => ?_, r.ntb, r.len, r.nd, r.sep, fun i u b h1 h2 => ?_, r.low, fun p hp => ?_⟩
  · have : b ≠ a := fun z => by rw [z, hF] at e; cases e
    rw [upd_ne this]; exact r.sub b u e
  · have : b ≠ a := fun z => ha (z ▸ List.mem_of_getElem? h2)
    rw [upd_ne this]; exact r.obj i u b h1 h2
  · obtain ⟨ps, h1, h2, h3⟩ := r.tabs p hp
    have : p.1 ≠ a := fun z => by
      rw [z] at h1
      obtain ⟨xs, e⟩ := ht _ h1
      cases e
    refine ⟨ps, by rw [upd_ne this]; exact h1, h2, fun pos cv e => ?_⟩
    obtain ⟨c, e1, e2⟩ := h3 pos cv e
    have hc : c ≠ a := fun z => by
      rw [z] at e2
      obtain ⟨xs, e⟩ := ht _ e2
      cases e
    exact ⟨c, e1, by rw [upd_ne hc]; exact e2⟩
/-- a list that stood beside the store is told among what never changes -/
theorem Rel.tell {K : PySem.W.Frag} {T : NTabs} (r : Rel K T m F st H) {a : Addr} {xs : List V} (ha : a ∉ m) (hF : F a = none) (hH : H a = some (.lst xs)) : Mono m F m (upd F a (.lst xs)) ∧ Rel K T m (upd F a (.lst xs)) st H := by
  have M : Mono m F m (upd F a (.lst xs)) := ⟨same_upd hF _, fun _ _ h => h⟩
  refine ⟨M, fun b u e => ?_, fun b u e => ?_, r.len, r.nd, fun b hb => ?_, fun i u b h1 h2 => (r.obj i u b h1 h2).mono M, r.low, r.tabs⟩
  · by_cases hb : b = a
    · subst hb; rw [upd_same] at e; cases e; exact hH
    · rw [upd_ne hb] at e; exact r.sub b u e
  · by_cases hb : b = a
    · subst hb; rw [upd_same] at e; cases e; exact ntb_lst xs
    · rw [upd_ne hb] at e; exact r.ntb b u e
  · have : b ≠ a := fun z => ha (z ▸ hb)
    rw [upd_ne this]; exact r.sep b hb

theorem wipe_get {σ : L2.St} {i : Nat} : ∀ {vs : List Nat}, i < σ.length → (L2.wipe σ vs)[i]? = if i ∈ vs then some none else σ[i]?
  | [], h => by simp [L2.wipe]
  | v :: vs, h => by
    unfold L2.wipe
    by_cases hi : v = i
    · subst hi
      rw [List.getElem?_set_self (by rw [L2.wipe_length]; exact h), if_pos (List.mem_cons_self ..)]
    · rw [List.getElem?_set_ne hi, wipe_get h]
      have : i ≠ v := fun z => hi z.symm
      by_cases hm : i ∈ vs
      · rw [if_pos hm, if_pos (List.mem_cons_of_mem _ hm)]
      · rw [if_neg hm, if_neg (by simp [this, hm])]
theorem wipe_same {σ τ : L2.St} {vs sl : List Nat} (hl : τ.length = σ.length) (hs : ∀ j, j ∉ sl → τ[j]? = (L2.wipe σ vs)[j]?) (hsub : ∀ j ∈ sl, j ∈ vs) : L2.wipe τ vs = L2.wipe σ vs := by
  refine List.ext_getElem? fun i => ?_
  by_cases hi : i < σ.length
  · rw [wipe_get (by omega), wipe_get hi]
    by_cases hm : i ∈ vs
    · rw [if_pos hm, if_pos hm]
    · rw [if_neg hm, if_neg hm, hs i (fun z => hm (hsub i z)), wipe_get hi, if_neg hm]
  · rw [List.getElem?_eq_none (by rw [L2.wipe_length]; omega), List.getElem?_eq_none (by rw [L2.wipe_length]; omega)]

/-- a list comprehension: what is known of the new list -/
theorem i_lc {f : Env → St → Out (List D)} {tg : Tgt} {sl : List Nat} {cd : Env → St → Out Bool} {el : Env → St → Out D} {own : List Nat} {g : TG} {tt : TT} {te : TE} (Xb : Cx) (hK : Xb.K = X.K) (hsl : ∀ j ∈ sl, j ∈ own)
    (hg : g = TGof S Xb tg sl) (ht : tt = TTof S Xb WF cd) (he : te = TEof S Xb WF el) :
    ∀ σ H Q, TEof S X W (fLcL (fLc f tg cd el own)) σ H Q → tLc (TIof S X W f) g tt te own σ H Q := by
  subst hg ht he
  intro σ H Q ⟨ρ, m, F, st, E, r, h⟩
  have h : PD S X W σ m F H Q ((f ρ st).bind fun ds st1 => (lcLoop tg cd el (wipeE ρ own) ds [] st1).bind fun ds st2 => .ok (.lst ds) st2) := by
    unfold fLcL fLc at h
    cases e : f ρ st with
    | ok a st1 => rw [e] at h; exact h
    | exc c fs st1 => rw [e] at h; exact h
    | bad => rw [e] at h; exact h
  refine ⟨ρ, m, F, st, E, r, (Post.bind h).imp (fun ds m1 F1 H1 s1 q J hJ L hL => ?_) fun _ _ _ _ _ y => y⟩
  obtain ⟨st1, r1, q⟩ := q
  have E1 := (E.mono s1.mono).wipe own
  let Wv : Nat → Nat → Hp → Prop := fun i n H' => n = ds.length - i ∧ i ≤ ds.length ∧ ∃ m' F' st' acc accd, Step m1 F1 H1 m' F' H' ∧ Rel X.K S.T m' F' st' H' ∧ H' L = some (.lst acc) ∧ L ∉ m' ∧ F' L = none ∧ Rs X.K m' F' acc accd ∧
    PD S X W σ m1 F1 H1 Q ((lcLoop tg cd el (wipeE ρ own) (ds.drop i) accd st').bind fun ds st2 => .ok (.lst ds) st2)
  have hL1 : L ∉ m1 := r1.notin hL
  have hL2 : F1 L = none := r1.noF hL
  refine ⟨Wv, ⟨ds.length, by simp, Nat.zero_le _, m1, F1, st1, [], [], ⟨Mono.refl _ _, fun b o e _ _ => by rw [upd_ne (ne_of_none e hL)]; exact e, fun _ h => .inl h, fun _ _ h => .inl h⟩, r1.side hL1 hL2 (fun u e => by rw [hL] at e; cases e), upd_same, hL1, hL2, .nil, q⟩, ?_⟩
  rintro i n H2 ⟨rfl, hi, m2, F2, st2, acc, accd, s2, r2, a1, a2, a3, ra, h2⟩
  obtain ⟨j1, j2⟩ := hJ m2 F2 st2 H2 s2.mono r2
  by_cases hlt : i < ds.length
  · obtain ⟨g1, g2⟩ := j2 i ds[i] (List.getElem?_eq_getElem hlt)
    rw [List.drop_eq_getElem_cons hlt] at h2
    refine .inr ⟨g1, fun H' => Wv (i + 1) (ds.length - (i + 1)) H', fun H' w => ⟨_, by omega, w⟩, fun x H3 y => ?_⟩
    obtain ⟨F3, s3, r3, rx⟩ := g2 x H3 y
    have b1 : H3 L = some (.lst acc) := s3.pres L _ a1 a2 (ntb_lst acc)
    have b3 : F3 L = none := by
      cases e : F3 L with
      | none => rfl
      | some o =>
        rcases s3.newF L o e with z | z | ⟨z, nl⟩
        · rw [a3] at z; cases z
        · exact absurd (ntb_lst acc) (z _ a1)
        · rw [a1] at z; cases z; exact absurd (.lst _) nl
    have s23 := s2.trans r2 s3
    have ra3 := ra.mono s3.mono
    refine ⟨wipeE ρ own, m2, F3, st2, ds[i], by rw [hK]; exact E1.mono s23.mono, by rw [hK]; exact r3, by rw [hK]; exact rx, ?_⟩
    unfold lcLoop at h2
    cases e : tg ds[i] (wipeE ρ own) with
    | none => simp only [e, Out.bind_bad] at h2; exact h2.elim
    | some ρ3 =>
      simp only [e] at h2
      intro σ3 hl3 hs3 E3
      have hl3' : σ3.length = σ.length := hl3.trans (L2.wipe_length ..)
      refine ⟨wipe_same hl3' hs3 hsl, ρ3, m2, F3, st2, E3, by rw [hK]; exact r3, ?_⟩
      cases ec : cd ρ3 st2 with
      | bad => simp only [ec, Out.calm_bad, Out.bind_bad] at h2; exact h2.elim
      | exc c fs st4 => simp only [ec, Out.calm_exc, Out.bind_bad] at h2; exact h2.elim
      | ok b st4 =>
        simp only [ec, Out.calm_ok, Out.bind_ok] at h2
        intro m4 F4 H4 s4 r4
        rw [hK] at r4
        have c1 : H4 L = some (.lst acc) := s4.pres L _ b1 a2 (ntb_lst acc)
        have c2 : L ∉ m4 := fun z => by
          rcases s4.new L z with z | z
          · exact a2 z
          · exact z _ b1 (ntb_lst acc)
        have c3 : F4 L = none := by
          cases e : F4 L with
          | none => rfl
          | some o =>
            rcases s4.newF L o e with z | z | ⟨z, nl⟩
            · rw [b3] at z; cases z
            · exact absurd (ntb_lst acc) (z _ b1)
            · rw [b1] at z; cases z; exact absurd (.lst _) nl
        have s24 := s23.trans r3 s4
        cases b with
        | false =>
          rw [if_neg (by simp)] at h2
          exact iteF ⟨rfl, hlt, m4, F4, st4, acc, accd, s24, r4, c1, c2, c3, ra3.mono s4.mono, h2⟩
        | true =>
          rw [if_pos rfl] at h2
          refine iteT ⟨ρ3, m4, F4, st4, E3.mono s4.mono, by rw [hK]; exact r4, ?_⟩
          cases ee : el ρ3 st4 with
          | bad => simp only [ee, Out.calm_bad, Out.bind_bad] at h2; exact h2.elim
          | exc c fs st5 => simp only [ee, Out.calm_exc, Out.bind_bad] at h2; exact h2.elim
          | ok y st5 =>
            simp only [ee, Out.calm_ok, Out.bind_ok] at h2
            intro m5 F5 H5 s5 r5 v rv
            rw [hK] at r5 rv
            have d1 : H5 L = some (.lst acc) := s5.pres L _ c1 c2 (ntb_lst acc)
            have d2 : L ∉ m5 := fun z => by
              rcases s5.new L z with z | z
              · exact c2 z
              · exact z _ c1 (ntb_lst acc)
            have d3 : F5 L = none := by
              cases e : F5 L with
              | none => rfl
              | some o =>
                rcases s5.newF L o e with z | z | ⟨z, nl⟩
                · rw [c3] at z; cases z
                · exact absurd (ntb_lst acc) (z _ c1)
                · rw [c1] at z; cases z; exact absurd (.lst _) nl
            have s25 := s24.trans r4 s5
            have ra5 := (ra3.mono s4.mono).mono s5.mono
            split at h2
            · rename_i hsz
              refine ⟨acc, d1, by rw [ra5.length, sizeLine_eq]; exact hsz, rfl, hlt, m5, F5, st5, acc ++ [v], accd ++ [y], ⟨s25.mono, fun b o eb nb nt => ?_, s25.new, s25.newF⟩, r5.side d2 d3 (fun u e => ⟨acc, by rw [d1] at e; exact (Option.some.inj e).symm⟩), upd_same, d2, d3, ra5.append (.cons rv .nil), h2⟩
              have : b ≠ L := fun z => by rw [z, hL] at eb; cases eb
              rw [upd_ne this]; exact s25.pres b o eb nb nt
            · exact h2.elim
  · have e : i = ds.length := by omega
    subst e
    rw [List.drop_length] at h2
    obtain ⟨M, r3⟩ := r2.tell a2 a3 a1
    refine .inl ⟨j1, h2 m2 (upd F2 L (.lst acc)) H2 ⟨s2.mono.trans M, s2.pres, s2.new, fun b o e => ?_⟩ r3 _ (.lst upd_same (ra.mono M))⟩
    by_cases hb : b = L
    · rw [hb]; exact .inr (.inl (.of hL))
    · rw [upd_ne hb] at e; exact s2.newF b o e
/-- in a block -/
theorem s_lc {elt tgE iter : Expr} {ifs : List Expr} {scope : Scope} {own : List (Str × Nat)} {pos : Pos} {f : Env → St → Out (List D)} {tg : Tgt} {sl : List Nat} {cd : Env → St → Out Bool} {el : Env → St → Out D}
    (hc : X.calm = true) (hN : X.N.Nodup) (hi : PI X tgE iter (TIof S X W f)) (ok : BlkOk X.N X.env.scope scope own) (hsl : ∀ j ∈ sl, j ∈ own.map (·.2))
    (hg : ∀ (s : Shared) (H : Hp) (C : Addr) (cl : List (Str × Addr)) (fp : List Addr), PG (X.blk s H scope (compEnvC scope cl C X.env) fp) tgE (TGof S X tg sl))
    (ht : ∀ (s : Shared) (H : Hp) (C : Addr) (cl : List (Str × Addr)) (fp : List Addr), PTs (X.blk s H scope (compEnvC scope cl C X.env) fp) ifs (TTof S X WF cd))
    (he : ∀ (s : Shared) (H : Hp) (C : Addr) (cl : List (Str × Addr)) (fp : List Addr), PE (X.blk s H scope (compEnvC scope cl C X.env) fp) elt (TEof S X WF el)) (hs : ∀ x, foldedSetIterable iter X.env x = pure x) :
    PE X (.ListComp elt [⟨tgE, iter, ifs, 0⟩] scope pos) (TEof S X W (fLcL (fLc f tg cd el (own.map (·.2))))) :=
  (pe_lc hc hN hi ok hg ht he hs).weak (i_lc (W := W) X rfl hsl rfl rfl rfl)
theorem s_setLc {i : Nat} {y : Str} {py : Pos} {elt tgE iter : Expr} {ifs : List Expr} {scope : Scope} {own : List (Str × Nat)} {pos spos : Pos} {f : Env → St → Out (List D)} {tg : Tgt} {sl : List Nat} {cd : Env → St → Out Bool} {el : Env → St → Out D}
    (hc : X.calm = true) (hN : X.N.Nodup) (hy : X.N[i]? = some y) (hyl : X.env.scope.names.lookup y = some .local) (hsw : swapsWith (.ListComp elt [⟨tgE, iter, ifs, 0⟩] scope pos) (some (.Name y py)) spos.line X.env = pure true)
    (hi : PI X tgE iter (TIof S X W f)) (ok : BlkOk X.N X.env.scope scope own) (hsl : ∀ j ∈ sl, j ∈ own.map (·.2))
    (hg : ∀ (s : Shared) (H : Hp) (C : Addr) (cl : List (Str × Addr)) (fp : List Addr), PG (X.blk s H scope (compEnvC scope cl C X.env) fp) tgE (TGof S X tg sl))
    (ht : ∀ (s : Shared) (H : Hp) (C : Addr) (cl : List (Str × Addr)) (fp : List Addr), PTs (X.blk s H scope (compEnvC scope cl C X.env) fp) ifs (TTof S X WF cd))
    (he : ∀ (s : Shared) (H : Hp) (C : Addr) (cl : List (Str × Addr)) (fp : List Addr), PE (X.blk s H scope (compEnvC scope cl C X.env) fp) elt (TEof S X WF el)) (hs : ∀ x, foldedSetIterable iter X.env x = pure x) :
    PS X (.Assign [.Name y py] (.ListComp elt [⟨tgE, iter, ifs, 0⟩] scope pos) spos) (TSof S X W (gSet i (fLcL (fLc f tg cd el (own.map (·.2)))))) := by
  refine (ps_setLc hc hN hy hyl hsw hi ok hg ht he hs).weak fun D σ H h => ?_
  have h2 : tAsg (TEof S X W (fLcL (fLc f tg cd el (own.map (·.2))))) (gName i) D σ H := i_set D σ H h
  exact i_lc (W := W) X rfl hsl rfl rfl rfl σ H _ h2
end
end MP

set_option maxRecDepth 100000
set_option maxHeartbeats 1000000
/-! MP10: what changes: lists of the store, their methods. -/
namespace MP
open PySem PySem.Spec PyProof.Rows L2

/-! ### the store -/
mutual
theorem lo_mono {a b : Nat} (h : a ≤ b) : ∀ d : D, d.lo a = true → d.lo b = true
  | .non, _ => rfl
  | .bl _, _ => rfl
  | .int _, _ => rfl
  | .str _, _ => rfl
  | .ref i, e => by simp only [D.lo, decide_eq_true_eq] at e ⊢; omega
  | .tup ds, e => los_mono h ds e
  | .lst ds, e => los_mono h ds e
  | .lsk ds, e => los_mono h ds e
  | .xo _ _ _ ds, e => los_mono h ds e
  | .fv _ _, _ => rfl
  | .emp, _ => rfl
theorem los_mono {a b : Nat} (h : a ≤ b) : ∀ ds : List D, D.los a ds = true → D.los b ds = true
  | [], _ => rfl
  | d :: ds, e => by
    simp only [D.los, Bool.and_eq_true] at e ⊢
    exact ⟨lo_mono h d e.1, los_mono h ds e.2⟩
end
mutual
theorem lo_R {K : PySem.W.Frag} {m : List Addr} {F : Hp} : ∀ {v : V} {d : D}, R K m F v d → d.lo m.length = true
  | _, _, .non => rfl
  | _, _, .bl _ => rfl
  | _, _, .int _ => rfl
  | _, _, .str _ => rfl
  | _, _, .tup _ r => lo_Rs r
  | _, _, .lst _ r => lo_Rs r
  | _, _, .lsk _ r => lo_Rs r
  | _, _, .xo _ _ r => lo_Rs r
  | _, _, .fv _ _ => rfl
  | _, _, .emp _ => rfl
  | _, _, .ref h => by
    simp only [D.lo, decide_eq_true_eq]
    exact (List.getElem?_eq_some_iff.mp h).1
theorem lo_Rs {K : PySem.W.Frag} {m : List Addr} {F : Hp} : ∀ {vs : List V} {ds : List D}, Rs K m F vs ds → D.los m.length ds = true
  | _, _, .nil => rfl
  | _, _, .cons r t => by
    simp only [D.los, Bool.and_eq_true]
    exact ⟨lo_R r, lo_Rs t⟩
end
/-- a new object of the store -/
def St.push (st : St) (o : O) : St := { st with objs := st.objs ++ [o] }
/-- an object of the store becomes another -/
def St.put (st : St) (i : Nat) (o : O) : St := { objs := st.objs.set i o, fls := st.fls.map fun p => (p.1, p.2 || (decide (i < p.1) && !(o.lo p.1))) }
section
variable {K : PySem.W.Frag} {T : NTabs} {m : List Addr} {F H : Hp} {st : St}
theorem O.lo_mono {a b : Nat} (h : a ≤ b) (o : O) (e : o.lo a = true) : o.lo b = true := by
  cases o with
  | lst ds => exact los_mono h ds e
  | ins c C ns ds => exact los_mono h _ e
theorem lo_OR {K : PySem.W.Frag} {m : List Addr} {F : Hp} {o : O} {u : Option HO} (r : OR K m F o u) : o.lo m.length = true := by
  cases r with
  | lst rs => exact lo_Rs rs
  | ins _ rs => exact lo_Rs rs
theorem Rel.boxO (r : Rel K T m F st H) {p : Addr} {o : O} {u : HO} (hp : H p = none) (rs : OR K m F o (some u)) :
    Step m F H (m ++ [p]) F (upd H p u) ∧ Rel K T (m ++ [p]) F (st.push o) (upd H p u) ∧ (m ++ [p])[st.objs.length]? = some p := by
  have hm : p ∉ m := r.notin hp
  have M : Mono m F (m ++ [p]) F := ⟨Same.refl F, fun i a h => by
    rw [List.getElem?_append_left (List.getElem?_eq_some_iff.mp h).1]; exact h⟩
  have hl : (m ++ [p])[st.objs.length]? = some p := by
    rw [← r.len, List.getElem?_append_right (Nat.le_refl _)]; simp
  refine ⟨⟨M, fun b u e _ _ => same_upd hp _ b u e, fun a h => ?_, fun _ _ h => .inl h⟩, ⟨fun b u e => ?_, r.ntb, ?_, ?_, fun a h => ?_, fun i o a h1 h2 => ?_, fun q hq hb i o hi h1 => ?_, r.tabs.ext (same_upd hp _)⟩, hl⟩
  · rcases List.mem_append.mp h with h | h
    · exact .inl h
    · rw [List.mem_singleton.mp h]; exact .inr (.of hp)
  · exact same_upd hp _ b u (r.sub b u e)
  · simp [St.push, r.len]
  · exact List.nodup_append.mpr ⟨r.nd, by simp, fun a h b h' => by rw [List.mem_singleton.mp h']; exact fun z => hm (z ▸ h)⟩
  · rcases List.mem_append.mp h with h | h
    · exact r.sep a h
    · rw [List.mem_singleton.mp h]; exact r.noF hp
  · by_cases hi : i < m.length
    · rw [List.getElem?_append_left hi] at h2
      have h1 : st.objs[i]? = some o := by
        rw [St.push, List.getElem?_append_left (by rw [← r.len]; exact hi)] at h1; exact h1
      have : a ≠ p := fun z => hm (z ▸ List.mem_of_getElem? h2)
      rw [upd_ne this]; exact (r.obj i o a h1 h2).mono M
    · have : i = m.length := by
        have := (List.getElem?_eq_some_iff.mp h2).1
        rw [List.length_append, List.length_singleton] at this
        omega
      subst this
      rw [List.getElem?_append_right (Nat.le_refl _)] at h2
      simp only [Nat.sub_self, List.getElem?_cons_zero, Option.some.injEq] at h2
      subst h2
      rw [St.push, List.getElem?_append_right (by rw [r.len]; exact Nat.le_refl _), r.len] at h1
      simp only [Nat.sub_self, List.getElem?_cons_zero, Option.some.injEq] at h1
      subst h1
      rw [upd_same]
      exact rs.mono M
  · by_cases hj : i < st.objs.length
    · rw [St.push, List.getElem?_append_left hj] at h1
      exact r.low q hq hb i o hi h1
    · have : i = st.objs.length := by
        have := (List.getElem?_eq_some_iff.mp h1).1
        rw [St.push, List.length_append, List.length_singleton] at this
        omega
      subst this
      rw [St.push, List.getElem?_append_right (Nat.le_refl _)] at h1
      simp only [Nat.sub_self, List.getElem?_cons_zero, Option.some.injEq] at h1
      subst h1
      exact O.lo_mono (by rw [r.len]; omega) _ (lo_OR rs)
theorem Rel.box (r : Rel K T m F st H) {p : Addr} {xs : List V} {ds : List D} (hp : H p = none) (rs : Rs K m F xs ds) :
    Step m F H (m ++ [p]) F (upd H p (.lst xs)) ∧ Rel K T (m ++ [p]) F (st.push (.lst ds)) (upd H p (.lst xs)) ∧ (m ++ [p])[st.objs.length]? = some p := r.boxO hp (.lst rs)
theorem Rel.put (r : Rel K T m F st H) {i : Nat} {a : Addr} {o : O} {u : HO} (h1 : m[i]? = some a) (ro : OR K m F o (some u)) (ht : ∃ u, H a = some u ∧ Chg u) :
    Step m F H m F (upd H a u) ∧ Rel K T m F (st.put i o) (upd H a u) := by
  have hm : a ∈ m := List.mem_of_getElem? h1
  have hF := r.sep a hm
  refine ⟨⟨Mono.refl m F, fun b v e hb _ => ?_, fun _ h => .inl h, fun _ _ h => .inl h⟩, ⟨fun b v e => ?_, r.ntb, ?_, r.nd, r.sep, fun j o' b h2 h3 => ?_, fun q hq hb j o' hj h2 => ?_, fun p hp => ?_⟩⟩
  · have : b ≠ a := fun z => hb (z ▸ hm)
    rw [upd_ne this]; exact e
  · have : b ≠ a := fun z => by rw [z, hF] at e; cases e
    rw [upd_ne this]; exact r.sub b v e
  · rw [St.put, List.length_set]; exact r.len
  · by_cases hj : i = j
    · subst hj
      rw [h1] at h3; cases h3
      have hl : i < st.objs.length := by rw [← r.len]; exact (List.getElem?_eq_some_iff.mp h1).1
      rw [St.put, List.getElem?_set_self hl] at h2
      cases h2
      rw [upd_same]; exact ro
    · rw [St.put, List.getElem?_set_ne hj] at h2
      have : b ≠ a := fun z => by
        subst z
        have q1 := List.getElem?_eq_some_iff.mp h1
        have q2 := List.getElem?_eq_some_iff.mp h3
        exact hj ((List.getElem_inj r.nd).mp (q1.2.trans q2.2.symm))
      rw [upd_ne this]; exact r.obj j o' b h2 h3
  · simp only [St.put, List.mem_map] at hq
    obtain ⟨q0, hq0, rfl⟩ := hq
    simp only [Bool.or_eq_false_iff, Bool.and_eq_false_iff, decide_eq_false_iff_not, Bool.not_eq_false'] at hb
    by_cases hij : i = j
    · subst hij
      have hl : i < st.objs.length := by rw [← r.len]; exact (List.getElem?_eq_some_iff.mp h1).1
      rw [St.put, List.getElem?_set_self hl] at h2
      cases h2
      rcases hb.2 with z | z
      · exact absurd hj z
      · exact z
    · rw [St.put, List.getElem?_set_ne hij] at h2
      exact r.low q0 hq0 hb.1 j o' hj h2
  · obtain ⟨u0, hx, hc⟩ := ht
    obtain ⟨ps, e1, e2, e3⟩ := r.tabs p hp
    have : p.1 ≠ a := fun z => by rw [z, hx] at e1; cases e1; cases hc
    refine ⟨ps, by rw [upd_ne this]; exact e1, e2, fun pos cv e => ?_⟩
    obtain ⟨c, f1, f2⟩ := e3 pos cv e
    have : c ≠ a := fun z => by rw [z, hx] at f2; cases f2; cases hc
    exact ⟨c, f1, by rw [upd_ne this]; exact f2⟩
/-- a list of the store, to be changed -/
theorem ref_of {v : V} {i : Nat} {ds : List D} (r : Rel K T m F st H) (rv : R K m F v (.ref i)) (h : st.objs[i]? = some (.lst ds)) : ∃ a xs, v = .ref a ∧ m[i]? = some a ∧ H a = some (.lst xs) ∧ Rs K m F xs ds := by
  cases rv with
  | ref e =>
    rename_i a
    have z := r.obj i _ a h e
    generalize hh : H a = ha at z
    cases z with
    | lst rs => exact ⟨a, _, rfl, e, hh, rs⟩
end
end MP

set_option maxRecDepth 100000
set_option maxHeartbeats 1000000
/-! MP11: methods of lists and texts, stores to items, several names at once. -/
namespace MP
open PySem PySem.Spec PyProof.Rows L2
section
variable {S : Se} {X : Cx} {W : WX} {σ : L2.St} {m : List Addr} {F H : Hp} {st : St}

/-! ### methods -/
/-- a method of a built-in type, by values, does what o says -/
def OpM (S : Se) (X : Cx) (W : WX) (id : String) (o : D → List D → St → Out D) : Prop :=
  ∃ r : V → List V → Hp → VK → Prop, MtR X id r ∧ ∀ σ m F st H Q v vs d ds, Rel X.K S.T m F st H → R X.K m F v d → Rs X.K m F vs ds → PD S X W σ m F H Q (o d ds st) → r v vs H Q
def isL (st : St) (d : D) : Bool := (lqOf st d).isSome
def isS : D → Bool
  | .str _ => true
  | _ => false
def fMtL (o : D → List D → St → Out D) (f : Env → St → Out D) (g : Env → St → Out (List D)) : Env → St → Out D := fun ρ st => (f ρ st).bind fun d st1 => if isL st1 d = true then (g ρ st1).bind fun ds st2 => o d ds st2 else .bad
def fMtS (o : D → List D → St → Out D) (f : Env → St → Out D) (g : Env → St → Out (List D)) : Env → St → Out D := fun ρ st => (f ρ st).bind fun d st1 => if isS d = true then (g ρ st1).bind fun ds st2 => o d ds st2 else .bad
theorem s_mtL {ob e : Expr} {es : List Expr} {name : Str} {apos cpos : Pos} {id : String} {f : Env → St → Out D} {g : Env → St → Out (List D)} {o : D → List D → St → Out D} (slot : Slot "list" name id) (hty : typeOf (.builtin id) = pure (.type "method_descriptor"))
    (h : OpM S X W id o) (ho : PE X ob (TEof S X W f)) (ha : PA X (e :: es) (TAof S X W g)) (hbase : attributeBase ob name X.env (eval ob X.env) = eval ob X.env)
    (hfew : ((backTo cpos (starEach (e :: es) X.env)).all (fun x => !x.1) && (backToKw cpos (keywordEach [] X.env)).all (fun x => x.1.isSome) && decide ((e :: es).length + ([] : List Keyword).length + (if ([] : List Keyword).isEmpty then 0 else 1) < 30)) = true)
    (hline : (apos.endLine == cpos.line) = true) (hs : starEach (e :: es) X.env = (false, eval e X.env) :: starEach es X.env) (hplain : (backTo cpos (starEach es X.env)).any (·.1) = false) :
    PE X (.Call (.Attribute ob name apos) (e :: es) [] cpos) (TEof S X W (fMtL o f g)) := by
  obtain ⟨r, h1, h2⟩ := h
  refine (pe_bm PySem.F.plainAttrs_list slot hty h1 ho ha hbase hfew hline hs hplain).weak fun σ H Q ⟨ρ, m, F, st, E, rl, h⟩ => ⟨ρ, m, F, st, E, rl, (Post.bind h).imp (fun d m1 F1 H1 s1 q v rv => ?_) fun _ _ _ _ _ y => y⟩
  obtain ⟨st1, r1, q⟩ := q
  split at q
  · rename_i hl
    refine ⟨?_, ρ, m1, F1, st1, E.mono s1.mono, r1, (Post.bind q).imp (fun ds m2 F2 H2 s2 q vs rvs => ?_) fun _ _ _ _ _ y => y⟩
    · cases e : lqOf st1 d with
      | none => simp [isL, e] at hl
      | some ds =>
        obtain ⟨a, xs, rfl, e1, _⟩ := lq_of r1 rv e
        exact .inl ⟨rfl, xs, e1⟩
    · obtain ⟨st2, r2, q⟩ := q
      exact h2 σ m2 F2 st2 H2 Q v vs d ds r2 (rv.mono s2.mono) rvs q
  · exact q.elim
theorem s_mtS {ob e : Expr} {es : List Expr} {name : Str} {apos cpos : Pos} {id : String} {f : Env → St → Out D} {g : Env → St → Out (List D)} {o : D → List D → St → Out D} (slot : Slot "str" name id) (hty : typeOf (.builtin id) = pure (.type "method_descriptor"))
    (h : OpM S X W id o) (ho : PE X ob (TEof S X W f)) (ha : PA X (e :: es) (TAof S X W g)) (hbase : attributeBase ob name X.env (eval ob X.env) = eval ob X.env)
    (hfew : ((backTo cpos (starEach (e :: es) X.env)).all (fun x => !x.1) && (backToKw cpos (keywordEach [] X.env)).all (fun x => x.1.isSome) && decide ((e :: es).length + ([] : List Keyword).length + (if ([] : List Keyword).isEmpty then 0 else 1) < 30)) = true)
    (hline : (apos.endLine == cpos.line) = true) (hs : starEach (e :: es) X.env = (false, eval e X.env) :: starEach es X.env) (hplain : (backTo cpos (starEach es X.env)).any (·.1) = false) :
    PE X (.Call (.Attribute ob name apos) (e :: es) [] cpos) (TEof S X W (fMtS o f g)) := by
  obtain ⟨r, h1, h2⟩ := h
  refine (pe_bm PySem.F.plainAttrs_str slot hty h1 ho ha hbase hfew hline hs hplain).weak fun σ H Q ⟨ρ, m, F, st, E, rl, h⟩ => ⟨ρ, m, F, st, E, rl, (Post.bind h).imp (fun d m1 F1 H1 s1 q v rv => ?_) fun _ _ _ _ _ y => y⟩
  obtain ⟨st1, r1, q⟩ := q
  split at q
  · rename_i hl
    refine ⟨?_, ρ, m1, F1, st1, E.mono s1.mono, r1, (Post.bind q).imp (fun ds m2 F2 H2 s2 q vs rvs => ?_) fun _ _ _ _ _ y => y⟩
    · cases rv <;> first | rfl | (simp [isS] at hl)
    · obtain ⟨st2, r2, q⟩ := q
      exact h2 σ m2 F2 st2 H2 Q v vs d ds r2 (rv.mono s2.mono) rvs q
  · exact q.elim
theorem s_mtL0 {ob : Expr} {name : Str} {apos cpos : Pos} {id : String} {f : Env → St → Out D} {o : D → List D → St → Out D} (slot : Slot "list" name id) (hty : typeOf (.builtin id) = pure (.type "method_descriptor"))
    (h : OpM S X W id o) (ho : PE X ob (TEof S X W f)) (hbase : attributeBase ob name X.env (eval ob X.env) = eval ob X.env) (hline : (apos.endLine == cpos.line) = true) :
    PE X (.Call (.Attribute ob name apos) [] [] cpos) (TEof S X W (fMtL o f fNil)) := by
  obtain ⟨r, h1, h2⟩ := h
  refine (pe_bm0 PySem.F.plainAttrs_list slot hty h1 ho hbase hline).weak fun σ H Q ⟨ρ, m, F, st, E, rl, h⟩ => ⟨ρ, m, F, st, E, rl, (Post.bind h).imp (fun d m1 F1 H1 s1 q v rv => ?_) fun _ _ _ _ _ y => y⟩
  obtain ⟨st1, r1, q⟩ := q
  split at q
  · rename_i hl
    refine ⟨?_, h2 σ m1 F1 st1 H1 Q v [] d [] r1 rv .nil q⟩
    cases e : lqOf st1 d with
    | none => simp [isL, e] at hl
    | some ds =>
      obtain ⟨a, xs, rfl, e1, _⟩ := lq_of r1 rv e
      exact .inl ⟨rfl, xs, e1⟩
  · exact q.elim
/-- the list of the store that a value tells -/
def refOf (st : St) (d : D) : Option (Nat × List D) := match d with
  | .ref i => match st.objs[i]? with
    | some (.lst ds) => some (i, ds)
    | _ => none
  | _ => none
theorem ref_at {d : D} {v : V} {i : Nat} {ds : List D} (r : Rel X.K S.T m F st H) (rv : R X.K m F v d) (h : refOf st d = some (i, ds)) : ∃ a xs, v = .ref a ∧ m[i]? = some a ∧ H a = some (.lst xs) ∧ Rs X.K m F xs ds := by
  cases rv with
  | ref e =>
    rename_i j a
    unfold refOf at h
    simp only at h
    split at h
    · rename_i ds' e2
      cases h
      exact ref_of r (.ref e) e2
    · cases h
  | _ => simp [refOf] at h
def mAppend : D → List D → St → Out D := fun d ds st => match refOf st d, ds with
  | some (i, xs), [y] => if xs.length < 16777216 then .ok .non (st.put i (.lst (xs ++ [y]))) else .bad
  | _, _ => .bad
theorem o_append : OpM S X W "list.append" mAppend := by
  refine ⟨_, mt_append, fun σ m F st H Q v vs d ds r rv rs h => ?_⟩
  unfold mAppend at h
  split at h
  · rename_i i xs y e
    split at h
    · rename_i hl
      obtain ⟨a, ws, rfl, h1, h2, h3⟩ := ref_at r rv e
      obtain ⟨w, rfl, rw⟩ := rs.one
      obtain ⟨s, r'⟩ := r.put h1 (.lst (h3.append (.cons rw .nil))) ⟨_, h2, .lst _⟩
      exact ⟨a, ws, w, rfl, rfl, h2, by rw [h3.length, sizeLine_eq]; exact hl, h _ _ _ s r' _ .non⟩
    · exact h.elim
  · exact h.elim
def mInsert : D → List D → St → Out D := fun d ds st => match refOf st d, ds with
  | some (i, xs), [.int k, y] => if xs.length < 16777216 ∧ 0 ≤ k ∧ k < 9223372036854775808 then .ok .non (st.put i (.lst (xs.take k.toNat ++ [y] ++ xs.drop k.toNat))) else .bad
  | _, _ => .bad
theorem o_insert : OpM S X W "list.insert" mInsert := by
  refine ⟨_, mt_insert, fun σ m F st H Q v vs d ds r rv rs h => ?_⟩
  unfold mInsert at h
  split at h
  · rename_i i xs k y e
    split at h
    · rename_i hl
      obtain ⟨a, ws, rfl, h1, h2, h3⟩ := ref_at r rv e
      obtain ⟨u, w, rfl, ru, rw⟩ := rs.two
      cases ru
      obtain ⟨s, r'⟩ := r.put h1 (.lst (((h3.take k.toNat).append (.cons rw .nil)).append (h3.drop k.toNat))) ⟨_, h2, .lst _⟩
      exact ⟨a, ws, k, w, rfl, rfl, h2, by rw [h3.length, sizeLine_eq]; exact hl.1, hl.2.1, hl.2.2, h _ _ _ s r' _ .non⟩
    · exact h.elim
  · exact h.elim
def mPop : D → List D → St → Out D := fun d ds st => match refOf st d, ds with
  | some (i, xs), [] => match xs[xs.length - 1]? with
    | some y => .ok y (st.put i (.lst xs.dropLast))
    | none => .bad
  | _, _ => .bad
theorem Rs.dropLast {K : PySem.W.Frag} {vs : List V} {ds : List D} (r : Rs K m F vs ds) : Rs K m F vs.dropLast ds.dropLast := by
  rw [List.dropLast_eq_take, List.dropLast_eq_take, r.length]; exact r.take _
theorem o_pop : OpM S X W "list.pop" mPop := by
  refine ⟨_, mt_pop, fun σ m F st H Q v vs d ds r rv rs h => ?_⟩
  unfold mPop at h
  split at h
  · rename_i i xs e
    split at h
    · rename_i y ey
      obtain ⟨a, ws, rfl, h1, h2, h3⟩ := ref_at r rv e
      obtain ⟨w, e1, rw⟩ := h3.get ey
      cases rs
      obtain ⟨s, r'⟩ := r.put h1 (.lst h3.dropLast) ⟨_, h2, .lst _⟩
      exact ⟨a, ws, w, rfl, rfl, h2, by rw [h3.length]; exact e1, h _ _ _ s r' _ rw⟩
    · exact h.elim
  · exact h.elim
def mExtend : D → List D → St → Out D := fun d ds st => match refOf st d, ds with
  | some (i, xs), [y] => match lstOf st y with
    | some zs => if xs.length + zs.length ≤ 16777216 then .ok .non (st.put i (.lst (xs ++ zs))) else .bad
    | none => .bad
  | _, _ => .bad
theorem o_extend : OpM S X W "list.extend" mExtend := by
  refine ⟨_, mt_extend, fun σ m F st H Q v vs d ds r rv rs h => ?_⟩
  unfold mExtend at h
  split at h
  · rename_i i xs y e
    split at h
    · rename_i zs ez
      split at h
      · rename_i hl
        obtain ⟨a, ws, rfl, h1, h2, h3⟩ := ref_at r rv e
        obtain ⟨w, rfl, rw⟩ := rs.one
        obtain ⟨b, us, rfl, g1, g2⟩ := lst_of r rw ez
        obtain ⟨s, r'⟩ := r.put h1 (.lst (h3.append g2)) ⟨_, h2, .lst _⟩
        exact ⟨a, b, ws, us, rfl, rfl, h2, g1, by rw [h3.length, g2.length]; exact lim_le hl, h _ _ _ s r' _ .non⟩
      · exact h.elim
    · exact h.elim
  · exact h.elim
/-- the texts of a list -/
def strsOf : List D → Option (List (List Nat))
  | [] => some []
  | .str s :: ds => match strsOf ds with
    | some ss => some (s :: ss)
    | none => none
  | _ => none
theorem strs_of {K : PySem.W.Frag} : ∀ {vs : List V} {ds : List D} {ss : List (List Nat)}, Rs K m F vs ds → strsOf ds = some ss → vs = (ss.map mk).map V.str
  | _, _, _, .nil, h => by cases h; rfl
  | _, _, _, .cons r t, h => by
    cases r <;> simp only [strsOf] at h <;> try cases h
    rename_i ds x
    cases e : strsOf ds with
    | none => rw [e] at h; cases h
    | some ss =>
      rw [e] at h; cases h
      rw [strs_of t e]; rfl
def mJoin : D → List D → St → Out D := fun d ds st => match d, ds with
  | .str a, [y] => match (seqOf st y).bind strsOf with
    | some ss => if (ss.map (·.length)).sum + ss.length * a.length ≤ 16777216 then .ok (.str (TL.joinL a ss)) st else .bad
    | none => .bad
  | _, _ => .bad
theorem join_mk (a : List Nat) (ss : List (List Nat)) : Txt.join (mk a) (ss.map mk) = mk (TL.joinL a ss) := by
  rw [TL.join_eq]
  refine TL.ext_tl ?_
  rw [TL.tl_join, List.map_map]
  have : (TL.tl ∘ mk) = id := by funext x; rfl
  rw [this, List.map_id]; rfl
theorem o_join : OpM S X W "str.join" mJoin := by
  refine ⟨_, mt_join, fun σ m F st H Q v vs d ds r rv rs h => ?_⟩
  unfold mJoin at h
  split at h
  · rename_i a y
    split at h
    · rename_i ss e
      split at h
      · rename_i hl
        obtain ⟨w, rfl, rw⟩ := rs.one
        cases rv
        cases e1 : seqOf st y with
        | none => rw [e1] at e; cases e
        | some ys =>
          rw [e1] at e
          obtain ⟨b, us, rfl, g1, g2⟩ := seq_of r rw e1
          have e2 := strs_of g2 e
          subst e2
          refine ⟨mk a, b, ss.map mk, rfl, rfl, g1, ?_, ?_⟩
          · rw [List.map_map, List.length_map]
            have : ((fun x => Str.length x) ∘ mk) = (·.length) := by funext x; exact mk_len x
            rw [show ((·.length) ∘ mk : List Nat → Nat) = (·.length) from this, mk_len]
            exact hl
          · rw [join_mk]; exact h.now r _ (.str _)
      · exact h.elim
    · exact h.elim
  · exact h.elim
def mSplit : D → List D → St → Out D := fun d ds st => match d, ds with
  | .str a, [.str b] => if b.isEmpty = false ∧ b.all (· < 256) = true ∧ a.length + 2 ≤ 16777216 then .ok (.lst ((TL.spl b 0 [] a).map .str)) st else .bad
  | _, _ => .bad
theorem o_split : OpM S X W "str.split" mSplit := by
  refine ⟨_, mt_split, fun σ m F st H Q v vs d ds r rv rs h => ?_⟩
  unfold mSplit at h
  split at h
  · rename_i a b
    split at h
    · rename_i hl
      obtain ⟨w, rfl, rw⟩ := rs.one
      cases rv; cases rw
      have hb : b ≠ [] := by
        intro z; rw [z] at hl; simp at hl
      refine ⟨mk a, mk b, rfl, rfl, ?_, ?_, fun p hp => ?_⟩
      · rw [mk_len]
        cases b with
        | nil => exact absurd rfl hb
        | cons _ _ => rfl
      · rw [mk_len]; exact lim_le hl.2.2
      · have e : (Txt.split (mk a) (mk b)).map TL.tl = TL.spl b 0 [] a := by
          refine (TL.split_spl (mk a) (mk b) hb (TL.kind_ok ?_))
          simpa [mk] using hl.2.1
        have rs2 : ∀ ys : List Str, Rs X.K m F (ys.map V.str) ((ys.map TL.tl).map D.str) := fun ys => by
          induction ys with
          | nil => exact .nil
          | cons y ys ih => exact .cons (.str (TL.tl y)) ih
        have := rs2 (Txt.split (mk a) (mk b))
        rw [e] at this
        exact new_lst r this h p hp
    · exact h.elim
  · exact h.elim
end
end MP

set_option maxRecDepth 100000
set_option maxHeartbeats 1000000
/-! MP12: stores. -/
namespace MP
open PySem PySem.Spec PyProof.Rows L2
section
variable {S : Se} {X : Cx} {W : WX} {σ : L2.St} {m : List Addr} {F H : Hp} {st : St}

/-! ### a new list of the store -/
def gBox (i : Nat) (g : Env → St → Out (List D)) : Env → St → SO := fun ρ st => (g ρ st).toS fun ds st1 => if ds.length ≤ 16777216 then .nx (ρ.set i (some (.ref st1.objs.length))) (st1.push (.lst ds)) else .bad
theorem s_box {i : Nat} {x : Str} {es : List Expr} {p pos pos' : Pos} {g : Env → St → Out (List D)} (hN : X.N.Nodup) (hi : X.N[i]? = some x) (hx : Loc X.env.scope x) (he : PA X es (TAof S X W g)) (hs : swapsWith (.List es p) (some (.Name x pos')) pos.line X.env = pure false)
    (hf : X.fn x = true ∨ X.env.scope.names.lookup x = some .local) : PS X (.Assign [.Name x pos'] (.List es p) pos) (TSof S X W (gBox i g)) := by
  refine (ps_set hN hi hx (pe_lst he) hs hf).weak fun D σ H ⟨ρ, m, F, st, E, r, h⟩ => ⟨ρ, m, F, st, E, r, (SPost.bind rfl h).imp (fun ds m1 F1 H1 s1 q vs rs => ?_) fun _ _ _ _ _ y => y⟩
  obtain ⟨st1, r1, q⟩ := q
  split at q
  · rename_i hl
    refine ⟨by rw [rs.length]; exact lim_le hl, fun p hp => ?_⟩
    obtain ⟨s, r2, hix⟩ := r1.box hp rs
    exact q _ _ _ _ (List.length_set ..) s r2 (((E.mono s1.mono).mono s.mono).set (.ref hix) i)
  · exact q.elim

/-! ### o[i] = e, o[i] op= e -/
def putAt (o i v : D) (st : St) : Option St := match refOf st o, i with
  | some (n, xs), .int k => match ixN xs.length k with
    | some j => some (st.put n (.lst (xs.set j v)))
    | none => none
  | _, _ => none
theorem put_at {o i v : D} {ov iv vv : V} {st' : St} {Q : Hp → Prop} (r : Rel X.K S.T m F st H) (ro : R X.K m F ov o) (ri : R X.K m F iv i) (rv : R X.K m F vv v) (h : putAt o i v st = some st')
    (q : ∀ H', Step m F H m F H' → Rel X.K S.T m F st' H' → Q H') : rSetL ov iv vv H Q := by
  unfold putAt at h
  split at h
  · rename_i n xs k e
    split at h
    · rename_i j ej
      cases h
      obtain ⟨a, ws, rfl, h1, h2, h3⟩ := ref_at r ro e
      cases ri
      obtain ⟨s, r'⟩ := r.put h1 (.lst (h3.set rv j)) ⟨_, h2, .lst _⟩
      exact ⟨a, ws, k, j, rfl, rfl, h2, by rw [h3.length]; exact ej, q _ s r'⟩
    · cases h
  · cases h
def gPut (fe fo fi : Env → St → Out D) : Env → St → SO := fun ρ st => (fe ρ st).toS fun v st1 => (fo ρ st1).toS fun o st2 => (fi ρ st2).toS fun i st3 => match putAt o i v st3 with
  | some st4 => .nx ρ st4
  | none => .bad
theorem s_put {o i e : Expr} {tp pos : Pos} {fe fo fi : Env → St → Out D} (he : PE X e (TEof S X W fe)) (ho : PE X o (TEof S X W fo)) (hi : PE X i (TEof S X W fi))
    (hs : swapsWithSole [.Subscript o i tp] e pos.line X.env = pure false) (hw : swappedStores [.Subscript o i tp] e X.env = pure none) (h1 : (assignEach [.Subscript o i tp] X.env).map (·.2) = [assign (.Subscript o i tp) X.env])
    (ha : ∀ v, assign (.Subscript o i tp) X.env v = (do
      let ov ← holding [v] (eval o X.env)
      let iv ← holding [v, ov] (eval i X.env)
      standAt tp
      holding [v, ov, iv] (setItem ov iv v)
      release [v, ov, iv] [])) : PS X (.Assign [.Subscript o i tp] e pos) (TSof S X W (gPut fe fo fi)) := by
  refine (ps_asg he (pg_sub ho hi set_list ha) hs hw h1).weak fun D σ H ⟨ρ, m, F, st, E, r, h⟩ => ⟨ρ, m, F, st, E, r, (SPost.bind rfl h).imp (fun v m1 F1 H1 s1 q vv rv => ?_) fun _ _ _ _ _ y => y⟩
  obtain ⟨st1, r1, q⟩ := q
  refine ⟨ρ, m1, F1, st1, E.mono s1.mono, r1, (SPost.bind rfl q).imp (fun od m2 F2 H2 s2 q ov ro => ?_) fun _ _ _ _ _ y => y⟩
  obtain ⟨st2, r2, q⟩ := q
  refine ⟨ρ, m2, F2, st2, E.mono (s1.mono.trans s2.mono), r2, (SPost.bind rfl q).imp (fun id m3 F3 H3 s3 q iv ri => ?_) fun _ _ _ _ _ y => y⟩
  obtain ⟨st3, r3, q⟩ := q
  cases ep : putAt od id v st3 with
  | none => simp only [ep] at q; exact q.elim
  | some st4 =>
    simp only [ep] at q
    exact put_at r3 (ro.mono s3.mono) ri ((rv.mono s2.mono).mono s3.mono) ep fun H' s r' => q σ _ _ _ rfl s r' (E.mono (s1.mono.trans (s2.mono.trans s3.mono)))
theorem getL : PGet X (fun o i H Q => ∃ p xs k v, o = .ref p ∧ i = .int k ∧ SqL X.K H p xs ∧ atI xs k = some v ∧ Q v H) := by
  intro pins s σ H o i ov iv Q I ro ri h
  obtain ⟨p, xs, k, z, rfl, rfl, hq, he, q⟩ := h
  cases ro
  obtain ⟨t, rfl⟩ := ri
  obtain ⟨its, r, pl, hz⟩ := I.list hq
  obtain ⟨j, h1, h2, h3, h4, h5⟩ := atI_get he
  obtain ⟨w, ew, rw'⟩ := r.get h2
  have hl := r.length
  have hn := line63
  have fin : EP X pins σ Q w s := ⟨z, H, I, rw', q⟩
  by_cases h0 : 0 ≤ k
  · have hj : k.toNat = j := by
      rw [seqIndex_of h0 h5] at h1
      exact Option.some.inj h1
    exact wpAny_getItem_list pl.isList h0 (by omega) (by rw [hj]; simpa using ew) fin
  · have hj : (k + (its.toArray.size : Int)).toNat = j := by
      rw [seqIndex_neg (by omega) h4] at h1
      rw [List.size_toArray, ← hl]
      exact Option.some.inj h1
    exact wpAny_getItem_list_neg pl.isList (by omega) (by rw [List.size_toArray] <;> omega) (by omega) (by rw [hj]; simpa using ew) fin
def gAugPut (f : Int → Int → Int) (fo fi fe : Env → St → Out D) : Env → St → SO := fun ρ st => (fo ρ st).toS fun o st1 => (fi ρ st1).toS fun i st2 => match refOf st2 o, i with
  | some (_, xs), .int k => match atI xs k with
    | some (.int x) => (fe ρ st2).toS fun y st3 => match y with
      | .int y => match putAt o i (.int (f x y)) st3 with
        | some st4 => .nx ρ st4
        | none => .bad
      | _ => .bad
    | _ => .bad
  | _, _ => .bad
theorem s_augPut {o i e : Expr} {op : Operator} {tp pos : Pos} {f : Int → Int → Int} {fe fo fi : Env → St → Out D} (hp : PIp X op (ipI f)) (ho : PE X o (TEof S X W fo)) (hi : PE X i (TEof S X W fi)) (he : PE X e (TEof S X W fe))
    (ha : ∀ ov iv new, augStore i ov iv new = (do holding [new, ov, iv] (setItem ov iv new); release [new, ov, iv] []; pure .next)) : PS X (.AugAssign (.Subscript o i tp) op e pos) (TSof S X W (gAugPut f fo fi fe)) := by
  refine (ps_augS ho hi getL he hp set_list ha).weak fun D σ H ⟨ρ, m, F, st, E, r, h⟩ => ⟨ρ, m, F, st, E, r, (SPost.bind rfl h).imp (fun od m1 F1 H1 s1 q ov ro => ?_) fun _ _ _ _ _ y => y⟩
  obtain ⟨st1, r1, q⟩ := q
  refine ⟨ρ, m1, F1, st1, E.mono s1.mono, r1, (SPost.bind rfl q).imp (fun id m2 F2 H2 s2 q iv ri => ?_) fun _ _ _ _ _ y => y⟩
  obtain ⟨st2, r2, q⟩ := q
  have ro2 := ro.mono s2.mono
  split at q
  · rename_i n xs k e1
    split at q
    · rename_i x ex
      obtain ⟨a, ws, rfl, g1, g2, g3⟩ := ref_at r2 ro2 e1
      obtain ⟨xv, ev, rx⟩ := g3.at ex
      cases rx
      cases ri
      refine ⟨a, ws, k, _, rfl, rfl, SqL.of g2, ev, ρ, m2, F2, st2, E.mono (s1.mono.trans s2.mono), r2, (SPost.bind rfl q).imp (fun yd m3 F3 H3 s3 q yv ry => ?_) fun _ _ _ _ _ y => y⟩
      obtain ⟨st3, r3, q⟩ := q
      cases ry with
      | int y =>
        simp only at q
        refine ⟨x, y, rfl, rfl, ?_⟩
        cases ep : putAt od (.int k) (.int (f x y)) st3 with
        | none => simp only [ep] at q; exact q.elim
        | some st4 =>
          simp only [ep] at q
          exact put_at r3 (ro2.mono s3.mono) (.int k) (.int _) ep fun H' s r' => q σ _ _ _ rfl s r' (E.mono (s1.mono.trans (s2.mono.trans s3.mono)))
      | _ => exact q.elim
    · exact q.elim
  · exact q.elim
/-- x op= e, whole numbers -/
def gAug (i : Nat) (f : Int → Int → Int) (fe : Env → St → Out D) : Env → St → SO := fun ρ st => match ρ[i]? with
  | some (some (.int x)) => (fe ρ st).toS fun y st1 => match y with
    | .int y => .nx (ρ.set i (some (.int (f x y)))) st1
    | _ => .bad
  | _ => .bad
theorem s_aug {i : Nat} {x : Str} {e : Expr} {op : Operator} {pos pos' : Pos} {f : Int → Int → Int} {fe : Env → St → Out D} (hp : PIp X op (ipI f)) (hN : X.N.Nodup) (hi : X.N[i]? = some x) (hx : Loc X.env.scope x) (he : PE X e (TEof S X W fe))
    (hf : X.fn x = true ∨ X.env.scope.names.lookup x = some .local) : PS X (.AugAssign (.Name x pos') op e pos) (TSof S X W (gAug i f fe)) := by
  refine (ps_aug hN hi hx he hp hf).weak fun D σ H ⟨ρ, m, F, st, E, r, h⟩ => ?_
  unfold gAug at h
  split at h
  · rename_i x e1
    obtain ⟨v, e2, rv⟩ := E.get i _ e1
    cases rv
    refine ⟨_, e2, ρ, m, F, st, E, r, (SPost.bind rfl h).imp (fun y m1 F1 H1 s1 q yv ry => ?_) fun _ _ _ _ _ y => y⟩
    obtain ⟨st1, r1, q⟩ := q
    cases ry with
    | int y => exact ⟨x, y, rfl, rfl, SPost.now q (List.length_set ..) r1 ((E.mono s1.mono).set (.int _) i)⟩
    | _ => exact q.elim
  · exact h.elim

/-! ### a, b = e, f -/
def gPar (i j : Nat) (g : Env → St → Out (List D)) : Env → St → SO := fun ρ st => (g ρ st).toS fun ds st1 => match ds with
  | [x, y] => .nx ((ρ.set i (some x)).set j (some y)) st1
  | _ => .bad
theorem s_par {i j : Nat} {x y : Str} {a b : Expr} {px py pt : Pos} {kt k2 pt2} {pos : Pos} {g : Env → St → Out (List D)} (hc : X.calm = true) (hN : X.N.Nodup) (hi : X.N[i]? = some x) (hj : X.N[j]? = some y) (hij : i ≠ j)
    (hx : X.env.scope.names.lookup x = some .local) (hy : X.env.scope.names.lookup y = some .local) (ha : PA X [a, b] (TAof S X W g))
    (hw : swappedStores [.Tuple [.Name x px, .Name y py] kt pt] (.Tuple [a, b] k2 pt2) X.env = pure (some [x, y]))
    (hs : swapsWithSole [.Tuple [.Name x px, .Name y py] kt pt] (.Tuple [a, b] k2 pt2) pos.line X.env = pure false) :
    PS X (.Assign [.Tuple [.Name x px, .Name y py] kt pt] (.Tuple [a, b] k2 pt2) pos) (TSof S X W (gPar i j g)) := by
  refine (ps_par hc hN hi hj hij hx hy ha hw hs).weak fun D σ H ⟨ρ, m, F, st, E, r, h⟩ => ⟨ρ, m, F, st, E, r, (SPost.bind rfl h).imp (fun ds m1 F1 H1 s1 q vs rs => ?_) fun _ _ _ _ _ y => y⟩
  obtain ⟨st1, r1, q⟩ := q
  split at q
  · obtain ⟨v, w, rfl, rv, rw⟩ := rs.two
    exact ⟨v, w, rfl, SPost.now q (by rw [List.length_set, List.length_set]) r1 (((E.mono s1.mono).set rv i).set rw j)⟩
  · exact q.elim
def gPar3 (i j l : Nat) (g : Env → St → Out (List D)) : Env → St → SO := fun ρ st => (g ρ st).toS fun ds st1 => match ds with
  | [x, y, z] => .nx (((ρ.set i (some x)).set j (some y)).set l (some z)) st1
  | _ => .bad
theorem s_par3 {i j l : Nat} {x y z : Str} {a b c : Expr} {px py pz pt : Pos} {kt k2 pt2} {pos : Pos} {g : Env → St → Out (List D)} (hc : X.calm = true) (hN : X.N.Nodup) (hi : X.N[i]? = some x) (hj : X.N[j]? = some y) (hl : X.N[l]? = some z) (hij : i ≠ j) (hil : i ≠ l) (hjl : j ≠ l)
    (hx : X.env.scope.names.lookup x = some .local) (hy : X.env.scope.names.lookup y = some .local) (hz : X.env.scope.names.lookup z = some .local) (ha : PA X [a, b, c] (TAof S X W g))
    (hw : swappedStores [.Tuple [.Name x px, .Name y py, .Name z pz] kt pt] (.Tuple [a, b, c] k2 pt2) X.env = pure (some [x, y, z]))
    (hs : swapsWithSole [.Tuple [.Name x px, .Name y py, .Name z pz] kt pt] (.Tuple [a, b, c] k2 pt2) pos.line X.env = pure false) :
    PS X (.Assign [.Tuple [.Name x px, .Name y py, .Name z pz] kt pt] (.Tuple [a, b, c] k2 pt2) pos) (TSof S X W (gPar3 i j l g)) := by
  refine (ps_par3 hc hN hi hj hl hij hil hjl hx hy hz ha hw hs).weak fun D σ H ⟨ρ, m, F, st, E, r, h⟩ => ⟨ρ, m, F, st, E, r, (SPost.bind rfl h).imp (fun ds m1 F1 H1 s1 q vs rs => ?_) fun _ _ _ _ _ y => y⟩
  obtain ⟨st1, r1, q⟩ := q
  split at q
  · cases rs with
    | cons ru rs =>
      obtain ⟨v, w, rfl, rv, rw⟩ := Rs.two rs
      exact ⟨_, v, w, rfl, SPost.now q (by rw [List.length_set, List.length_set, List.length_set]) r1 ((((E.mono s1.mono).set ru i).set rv j).set rw l)⟩
  · exact q.elim
end
end MP

set_option maxRecDepth 100000
set_option maxHeartbeats 1000000
/-! MP13: defs and their calls. -/
namespace MP
open PySem PySem.Spec PyProof.Rows L2

/-- what a def promises; gd: where no guard is on the stack -/
structure FnG (P : Program) (w : World) (K : PySem.W.Frag) (mg : Str → Option Value) (base : Heap) (gd : Bool) (lv : Nat) (fa : Addr) (fd : FuncData) (par : List Str) (sp : Sp) : Prop where
  len : ∀ vs H Q E, sp vs H Q E → vs.length = par.length
  go : ∀ (A : Around) (fr : List PySem.Env) (s : Shared) (H : Hp) (ar : Args) (us : List Value) (vs : List V) (Q : VK) (E : XK), (gd = true → A.guards = some []) → Room lv A → Env0 P w K mg base A fr s H → BindsTo s fd ar (par.zip us) → Vals vs us →
    sp vs H Q E → codeAny (model P w) A (.call (.ref fa) ar) (CR (L2.CX P w) fr P w H s Q E) s
theorem FnG.up {P : Program} {w : World} {K : PySem.W.Frag} {mg : Str → Option Value} {base : Heap} {gd : Bool} {i j : Nat} {fa : Addr} {fd : FuncData} {par : List Str} {sp : Sp} (F : FnG P w K mg base gd i fa fd par sp) (h : i ≤ j) : FnG P w K mg base gd j fa fd par sp :=
  ⟨F.len, fun A fr s H ar us vs Q E hg hr => F.go A fr s H ar us vs Q E hg (hr.mono h)⟩

/-! ### the end of a def -/
mutual
def D.nr : D → Bool
  | .ref _ => false
  | .tup ds => D.nrs ds
  | .lst ds => D.nrs ds
  | .lsk ds => D.nrs ds
  | .xo _ _ _ ds => D.nrs ds
  | _ => true
def D.nrs : List D → Bool
  | [] => true
  | d :: ds => d.nr && D.nrs ds
end
/-- what is handed back, told by what never changes: none if that cannot be -/
def thaw (n : Nat) (st : St) (d : D) : Option D := if d.lo n = true then some d else match d with
  | .ref i => match st.objs[i]? with
    | some (.lst ds) => if D.los n ds = true then some (.lst ds) else none
    | _ => none
  | _ => none
/-- a def's own objects are forgotten where nothing that stays tells of them -/
def leave (kp : Bool) (st0 : St) (d : D) (st : St) : Out D := match st.fls with
  | (n, b) :: rest => match thaw n st d with
    | some d' => if n = st0.objs.length ∧ b = false ∧ kp = false then .ok d' { objs := st.objs.take n, fls := rest } else .ok d { st with fls := rest }
    | none => .ok d { st with fls := rest }
  | [] => .bad
def leaveX (st0 : St) (c : Nat) (fs : List D) (st : St) : Out D := match st.fls with
  | (n, b) :: rest => if n = st0.objs.length ∧ b = false ∧ D.los n fs = true then .exc c fs { objs := st.objs.take n, fls := rest } else .exc c fs { st with fls := rest }
  | [] => .bad
def enter (st : St) : St := { st with fls := (st.objs.length, false) :: st.fls }
def ended (kp : Bool) (st0 : St) : SO → Out D
  | .nx _ st => leave kp st0 .non st
  | .ret d st => leave kp st0 d st
  | .exc c fs st => leaveX st0 c fs st
  | _ => .bad
/-- a def of n names by its body -/
def runF (kp : Bool) (n : Nat) (body : Env → St → SO) : List D → St → Out D := fun ds st => ended kp st (body (ds.map some ++ List.replicate (n - ds.length) none) (enter st))
/-- the promise -/
def spD (S : Se) (K : PySem.W.Frag) (k : Nat) (f : List D → St → Out D) : Sp := fun vs H Q E => ∃ ds m F st, ds.length = k ∧ Rs K m F vs ds ∧ Rel K S.T m F st H ∧
  Post K S.T m F H (fun d m' F' H' => ∀ v, R K m' F' v d → Q v H') (fun c fs m' F' H' => ∀ cls dx, XR S.g K m' F' c fs cls dx H' → E cls dx H') (f ds st)
theorem Rel.enter {K : PySem.W.Frag} {T : NTabs} {m : List Addr} {F H : Hp} {st : St} (r : Rel K T m F st H) : Rel K T m F (MP.enter st) H := by
  refine ⟨r.sub, r.ntb, r.len, r.nd, r.sep, r.obj, fun p hp hb i o hi h1 => ?_, r.tabs⟩
  rcases List.mem_cons.mp hp with rfl | hp
  · obtain ⟨a, ha⟩ : ∃ a, m[i]? = some a := ⟨_, List.getElem?_eq_getElem (by rw [r.len]; exact hi)⟩
    have z := r.obj i o a h1 ha
    have hm := r.len
    generalize H a = ha at z
    cases z with
    | lst rs => exact hm ▸ lo_Rs rs
    | ins _ rs => exact hm ▸ lo_Rs rs
  · exact r.low p hp hb i o hi h1
theorem Rel.pop {K : PySem.W.Frag} {T : NTabs} {m : List Addr} {F H : Hp} {st : St} {p : Nat × Bool} {rest : List (Nat × Bool)} (r : Rel K T m F st H) (h : st.fls = p :: rest) : Rel K T m F { st with fls := rest } H :=
  ⟨r.sub, r.ntb, r.len, r.nd, r.sep, r.obj, fun q hq hb i o hi h1 => r.low q (by rw [h]; exact List.mem_cons_of_mem _ hq) hb i o hi h1, r.tabs⟩
section
variable {K : PySem.W.Frag} {m m' : List Addr} {F : Hp}
mutual
/-- what tells of the first n objects alone does so by the first n addresses -/
theorem R.less (n : Nat) : ∀ {v : V} {d : D}, R K m F v d → d.lo n = true → R K (m.take n) F v d
  | _, _, .non, _ => .non
  | _, _, .bl b, _ => .bl b
  | _, _, .int i, _ => .int i
  | _, _, .str x, _ => .str x
  | _, _, .tup h r, e => .tup h (Rs.less n r e)
  | _, _, .lst h r, e => .lst h (Rs.less n r e)
  | _, _, .lsk h r, e => .lsk h (Rs.less n r e)
  | _, _, .xo h l r, e => .xo h l (Rs.less n r e)
  | _, _, .fv k a, _ => .fv k a
  | _, _, .emp h, _ => .emp h
  | _, _, .ref h, e => .ref (by
    simp only [D.lo, decide_eq_true_eq] at e
    rw [List.getElem?_take_of_lt e]; exact h)
theorem Rs.less (n : Nat) : ∀ {vs : List V} {ds : List D}, Rs K m F vs ds → D.los n ds = true → Rs K (m.take n) F vs ds
  | _, _, .nil, _ => .nil
  | _, _, .cons r t, e => by
    simp only [D.los, Bool.and_eq_true] at e
    exact .cons (R.less n r e.1) (Rs.less n t e.2)
end
end
theorem nodup_take {m : List Addr} (h : m.Nodup) (n : Nat) : (m.take n).Nodup := List.Sublist.nodup (List.take_sublist n m) h
/-- the store cut to its first n objects; u told beside -/
theorem Rel.cut {K : PySem.W.Frag} {T : NTabs} {m : List Addr} {F H : Hp} {st : St} {n : Nat} {rest : List (Nat × Bool)} (r : Rel K T m F st H) (h : st.fls = (n, false) :: rest) :
    Rel K T (m.take n) F { objs := st.objs.take n, fls := rest } H := by
  refine ⟨r.sub, r.ntb, by rw [List.length_take, List.length_take, r.len], nodup_take r.nd n, fun a ha => r.sep a (List.mem_of_mem_take ha), fun i o a h1 h2 => ?_, fun q hq hb i o hi h1 => ?_, r.tabs⟩
  · have hi : i < n := by
      have := (List.getElem?_eq_some_iff.mp h2).1
      rw [List.length_take] at this; omega
    rw [List.getElem?_take_of_lt hi] at h1 h2
    have lo := r.low (n, false) (by rw [h]; exact List.mem_cons_self ..) rfl i o hi h1
    have z := r.obj i o a h1 h2
    generalize H a = ha at z
    cases z with
    | lst rs => exact .lst (rs.less n lo)
    | ins e rs => exact .ins e (rs.less n lo)
  · have hi' : i < n := by
      have := (List.getElem?_eq_some_iff.mp h1).1
      rw [List.length_take] at this; omega
    rw [List.getElem?_take_of_lt hi'] at h1
    exact r.low q (by rw [h]; exact List.mem_cons_of_mem _ hq) hb i o hi h1
theorem take_eq {K : PySem.W.Frag} {T : NTabs} {m m' : List Addr} {F F' H : Hp} {st : St} (r : Rel K T m F st H) (M : Mono m F m' F') : m'.take st.objs.length = m := by
  rw [← r.len]
  refine List.ext_getElem? fun i => ?_
  by_cases hi : i < m.length
  · rw [List.getElem?_take_of_lt hi, List.getElem?_eq_getElem hi]
    exact M.ix i _ (List.getElem?_eq_getElem hi)
  · rw [List.getElem?_eq_none (by rw [List.length_take]; omega), List.getElem?_eq_none (by omega)]
/-- a def hands back -/
theorem leave_ok {kp : Bool} {K : PySem.W.Frag} {S : Se} {m m' : List Addr} {F F' H H' : Hp} {st0 st : St} {d : D} {v : V} {Q : VK} {Y} (r0 : Rel K S.T m F st0 H) (s : Step m F H m' F' H') (r : Rel K S.T m' F' st H') (rv : R K m' F' v d)
    (h : Post K S.T m F H (fun d m' F' H' => ∀ v, R K m' F' v d → Q v H') Y (leave kp st0 d st)) : Q v H' := by
  unfold leave at h
  split at h
  · rename_i n b rest e
    split at h
    · rename_i d' et
      split at h
      · rename_i hc
        obtain ⟨hn, rfl, _⟩ := hc
        have rc := r.cut e
        have hm : m'.take n = m := by rw [hn]; exact take_eq r0 s.mono
        rw [hm] at rc
        unfold thaw at et
        split at et
        · rename_i hl
          cases et
          have rv' := rv.less n hl
          rw [hm] at rv'
          exact h m F' H' ⟨⟨s.mono.fr, fun _ _ h => h⟩, s.pres, fun _ h => .inl h, s.newF⟩ rc v rv'
        · rename_i hnl
          split at et
          · rename_i i
            split at et
            · rename_i ds eo
              split at et
              · rename_i hds
                cases et
                obtain ⟨a, xs, rfl, g1, g2, g3⟩ := ref_of r rv eo
                have hin : ¬ i < n := fun z => hnl (by simp [D.lo, z])
                have ham : a ∉ m := fun z => by
                  rw [← hm] at z
                  obtain ⟨j, hj, ej⟩ := List.getElem_of_mem z
                  have hj' : j < n := by rw [List.length_take] at hj; omega
                  have e2 : m'[j]? = some a := by
                    rw [List.getElem_take] at ej
                    rw [← ej]
                    exact List.getElem?_eq_getElem (by rw [List.length_take] at hj; omega)
                  have q1 := List.getElem?_eq_some_iff.mp g1
                  have q2 := List.getElem?_eq_some_iff.mp e2
                  have := (List.getElem_inj r.nd).mp (q1.2.trans q2.2.symm)
                  omega
                have hF := r.sep a (List.mem_of_getElem? g1)
                obtain ⟨M, r2⟩ := rc.tell ham hF g2
                have rs := g3.less n hds
                rw [hm] at rs
                refine h m (upd F' a (.lst xs)) H' ⟨⟨s.mono.fr.trans M.fr, fun _ _ h => h⟩, s.pres, fun _ h => .inl h, fun b o eb => ?_⟩ r2 _ (.lst upd_same (rs.mono M))
                by_cases hb : b = a
                · subst hb
                  rcases s.new b (List.mem_of_getElem? g1) with z | z
                  · exact absurd z ham
                  · exact .inr (.inl z)
                · rw [upd_ne hb] at eb; exact s.newF b o eb
              · cases et
            · cases et
          · cases et
      · exact h m' F' H' s (r.pop e) v rv
    · exact h m' F' H' s (r.pop e) v rv
  · exact h.elim
theorem XR.less {g : XG} {K : PySem.W.Frag} {m : List Addr} {F H : Hp} {c : Nat} {fs : List D} {cls : Value} {dx : Option Addr} {n : Nat} (h : XR g K m F c fs cls dx H) (hl : D.los n fs = true) : XR g K (m.take n) F c fs cls dx H := by
  obtain ⟨h1, h2⟩ := h
  refine ⟨h1, ?_⟩
  rcases h2 with h2 | ⟨d, vs, e1, e2, e3, e4, e5, us, e6, e7⟩
  · exact .inl h2
  · exact .inr ⟨d, vs, e1, e2, fun z => e3 (List.mem_of_mem_take z), e4, e5, us, e6.less n hl, e7⟩
/-- a def's exception -/
theorem leaveX_ok {K : PySem.W.Frag} {S : Se} {m m' : List Addr} {F F' H H' : Hp} {st0 st : St} {c : Nat} {fs : List D} {cls : Value} {dx : Option Addr} {P} {E : XK} (r0 : Rel K S.T m F st0 H) (s : Step m F H m' F' H') (r : Rel K S.T m' F' st H') (x : XR S.g K m' F' c fs cls dx H')
    (h : Post K S.T m F H P (fun c fs m' F' H' => ∀ cls dx, XR S.g K m' F' c fs cls dx H' → E cls dx H') (leaveX st0 c fs st)) : E cls dx H' := by
  unfold leaveX at h
  split at h
  · rename_i n b rest e
    split at h
    · rename_i hc
      obtain ⟨hn, rfl, hl⟩ := hc
      have rc := r.cut e
      have hm : m'.take n = m := by rw [hn]; exact take_eq r0 s.mono
      rw [hm] at rc
      have x' := x.less hl
      rw [hm] at x'
      exact h m F' H' ⟨⟨s.mono.fr, fun _ _ h => h⟩, s.pres, fun _ h => .inl h, s.newF⟩ rc cls dx x'
    · exact h m' F' H' s (r.pop e) cls dx x
  · exact h.elim
end MP

set_option maxRecDepth 100000
set_option maxHeartbeats 1000000
/-! MP14: the rule for a def, and its calls. -/
namespace MP
open PySem PySem.Spec PyProof.Rows L2

/-- what a def's body wants of exceptions -/
abbrev WE0 (E : XK) : WX := fun cls d _ H => E cls d H
theorem envR_start {K : PySem.W.Frag} {m : List Addr} {F : Hp} {N : List Str} {vs : List V} {ds : List D} (r : Rs K m F vs ds) : EnvR K m F (L2.start N vs) (ds.map some ++ List.replicate (N.length - ds.length) none) := by
  unfold L2.start
  refine ⟨?_, fun i d h => ?_⟩
  · rw [List.length_append, List.length_append, List.length_map, List.length_map, r.length, List.length_replicate, List.length_replicate]
  · by_cases hi : i < ds.length
    · rw [List.getElem?_append_left (by simpa using hi), List.getElem?_map] at h
      cases e : ds[i]? with
      | none => rw [e] at h; cases h
      | some x =>
        rw [e] at h; cases h
        obtain ⟨v, h1, h2⟩ := r.get e
        refine ⟨v, ?_, h2⟩
        rw [List.getElem?_append_left (by rw [List.length_map, r.length]; exact hi), List.getElem?_map, h1]; rfl
    · rw [List.getElem?_append_right (by simpa using hi), List.getElem?_replicate] at h
      split at h <;> cases h
/-- what a body does, as the call tells it -/
theorem ended_post {kp : Bool} {S : Se} {X : Cx} {n : Nat} {m : List Addr} {F H : Hp} {st : St} {o : SO} {Q : VK} {E : XK} (r : Rel X.K S.T m F st H)
    (h : Post X.K S.T m F H (fun d m' F' H' => ∀ v, R X.K m' F' v d → Q v H') (fun c fs m' F' H' => ∀ cls dx, XR S.g X.K m' F' c fs cls dx H' → E cls dx H') (ended kp st o)) :
    SPost S X (WE0 E) n { nx := fun _ H' => Q .non H', rt := Q } m F H o := by
  cases o with
  | nx ρ st' => exact fun σ' m' F' H' _ s r' _ => leave_ok r s r' .non h
  | ret d st' => exact fun v m' F' H' s r' rv => leave_ok r s r' rv h
  | exc c fs st' => exact fun σ' m' F' H' s r' _ cls dx x => leaveX_ok r s r' x h
  | brk ρ st' => exact h.elim
  | cont ρ st' => exact h.elim
  | bad => exact h.elim
section
variable {P : Program} {w : World} {K : PySem.W.Frag} {mg : Str → Option Value} {base : Heap}
/-- THE RULE for a def: its body by rules -/
theorem fnG_of {kp : Bool} {S : Se} {gd : Bool} {k : Nat} {f : Addr} {name qual : Str} {params : Arguments} {body : List Stmt} {scope : Scope} {dV kV doc pm cdv ct oc : Value} {an od : Option Addr} {osl : Array (Option Value)} {N ps : List Str} {b : Env → St → SO}
    (lk : K.lookup f = some ⟨oc, od, .func (PySem.W.fnOf name qual params body scope dV kV doc pm an cdv ct), osl⟩) (hcd : PySem.W.codeIn K cdv qual = true) (Sc : FnScope N ps scope)
    (hbody : ∀ (A : Around) (fr : List PySem.Env) (s : Shared) (H : Hp) (E : XK), (gd = true → A.guards = some []) → Room k (A.deeper (envOfC qual scope s.heap.objs.size f cdv)) →
      PSs (cxOf (L2.CX P w) P w K mg base N qual scope f cdv A fr s H E) body (TSof S (cxOf (L2.CX P w) P w K mg base N qual scope f cdv A fr s H E) (WE0 E) b)) :
    FnG P w K mg base gd (k + 1) f (PySem.W.fnOf name qual params body scope dV kV doc pm an cdv ct) ps (spD S K ps.length (runF kp N.length b)) := by
  refine ⟨fun vs H Q E ⟨ds, m, F, st, hl, rs, _⟩ => by rw [rs.length, hl], fun A outer s H args us vs Q E hg hr e0 hb r hsp => ?_⟩
  obtain ⟨ds, m, F, st, hdl, rs, rl, hp⟩ := hsp
  have hl : vs.length = ps.length := by rw [rs.length, hdl]
  have KX : K.In s.heap := e0.mod.kin.keeps fun b o e => (e0.bs b o e).1
  have lim : s.heap.NoLimit := e0.mod.nolimit.keeps fun b o e => (e0.bs b o e).1
  have hkind : ∀ y ∈ ps.zip us, scope.names.lookup y.1 = some .local ∨ (scope.names.lookup y.1 = some .cell ∧ ((cellsFrom (s.heap.objs.size + 1) scope.names []).lookup y.1).isSome = true) := fun ⟨n, v⟩ hy => by
    rcases Sc.par n (List.of_mem_zip hy).1 with q | q
    · exact .inl q
    · exact .inr ⟨q, PySem.W.cellsFrom_some _ _ _ (.inl q)⟩
  refine codeAny_call_function hr.depth (KX _ _ lk) rfl Sc.co Sc.gen rfl (PySem.W.codeRec_of KX hcd) (hb _ _ _ _ ?_)
  refine wpAny_newFunctionEnv_cells Sc.kind hkind fun env he s1 x => ?_
  subst he
  refine ⟨lim.keeps x.toInCall.keep, codeAny_func ?_⟩
  have ht := hbody A outer s H E hg (hr.deeper _)
  have I : Inv (cxOf (L2.CX P w) P w K mg base N qual scope f cdv A outer s H E) [] (L2.start N vs) H s1 := inv_start Sc hr.hd e0 hl r x
  have hq : TSof S (cxOf (L2.CX P w) P w K mg base N qual scope f cdv A outer s H E) (WE0 E) b { nx := fun _ H' => Q .non H', rt := Q } (L2.start N vs) H :=
    ⟨_, m, F, enter st, envR_start rs, rl.enter, ended_post rl hp⟩
  refine wpAny_mono (ht.run [] s1 (L2.start N vs) H _ I hq) (fun fl s' hs => ?_) fun e s' hs => hs
  have fin : ∀ {σ' : L2.St} {H' : Hp} {v : V} {u : Value}, Inv (cxOf (L2.CX P w) P w K mg base N qual scope f cdv A outer s H E) [] σ' H' s' → RelV v u → Q v H' → CE outer P w H s Q u s' :=
    fun {σ' H' v u} J rv q => ⟨v, H', J.os, J.bare, J.base, J.hok, rv, q⟩
  cases fl with
  | ret u =>
    obtain ⟨v, σ', H', J, rv, q⟩ := hs
    exact fin J rv q
  | next =>
    obtain ⟨σ', H', J, q⟩ := hs
    exact fin (v := V.non) (u := Value.none) J rfl q
  | brk =>
    obtain ⟨_, _, _, q⟩ := hs
    exact False.elim q
  | cont =>
    obtain ⟨_, _, _, q⟩ := hs
    exact False.elim q
/-- .. as the head hands it out -/
theorem funG {kp : Bool} {S : Se} {gd : Bool} {x qual : Str} {st : Stmt} {f : Addr} {fd : FuncData} {N ps : List Str} {k : Nat} {b : Env → St → SO} (F : L2.Fun K x qual st f fd) (Sc : FnScope N ps (defScope st))
    (hbody : ∀ (cdv : Value) (A : Around) (fr : List PySem.Env) (s : Shared) (H : Hp) (E : XK), (gd = true → A.guards = some []) → Room k (A.deeper (envOfC qual (defScope st) s.heap.objs.size f cdv)) →
      PSs (cxOf (L2.CX P w) P w K mg base N qual (defScope st) f cdv A fr s H E) (defBody st) (TSof S (cxOf (L2.CX P w) P w K mg base N qual (defScope st) f cdv A fr s H E) (WE0 E) b)) :
    FnG P w K mg base gd (k + 1) f fd ps (spD S K ps.length (runF kp N.length b)) := by
  obtain ⟨oc, od, kV, doc, pm, an, cdv, ct, osl, rfl, lk, hcd⟩ := F.ex
  exact fnG_of lk hcd Sc (hbody cdv)
end

/-! ### calls -/
def fDef (n : Nat) (h : List D → St → Out D) (f : Env → St → Out (List D)) : Env → St → Out D := fun ρ st => (f ρ st).bind fun ds st1 => if ds.length = n then h ds st1 else .bad
section
variable {S : Se} {X : Cx} {W : WX} {gd : Bool} {k : Nat} {f : Addr} {fd : FuncData} {ps : List Str} {h : List D → St → Out D} {x : Str} {p pos : Pos} {e : Expr} {es : List Expr} {fa : Env → St → Out (List D)}
theorem run_fnG {pins : List (Addr × Obj)} {σ : L2.St} {H : Hp} {s : Shared} {Q : VK} {us : List Value} {vs : List V} {sp : Sp} {E : L2.St → XK} (F : FnG X.prog X.w X.K X.mg X.base gd k f fd ps sp) (hG : gd = true → X.A.guards = some []) (hr : Room k X.A) (hb : Binds X.K fd ps []) (hx : PassesAt (L2.CX X.prog X.w) X σ (E σ))
    (I : Inv X pins σ H s) (r : Vals vs us) (h : sp vs H Q (E σ)) : wpAny (model X.prog X.w) X.A (call (.ref f) us) (EP X pins σ Q) X.xe s := by
  have hl : us.length = ps.length := by rw [← r.length]; exact F.len _ _ _ _ h
  have b := hb s us I.kIn (by rw [List.append_nil]; exact hl)
  rw [List.append_nil] at b
  refine wpAny_call (codeAny_mono (F.go X.A X.stack s H ⟨us, []⟩ us vs Q (E σ) hG hr I.env0 b r h) fun r s' hq => ?_)
  cases r with
  | error e => exact hx pins H s e s' I hq
  | ok fl =>
    cases fl with
    | ret u => exact I.after hq
    | next => exact False.elim hq
    | brk => exact False.elim hq
    | cont => exact False.elim hq
theorem i_def {n : Nat} : ∀ σ H Q, TEof S X W (fDef n h fa) σ H Q → tCallS (spD S X.K n h) (WE W) (TAof S X W fa) σ H Q := by
  intro σ H Q ⟨ρ, m, F, st, E, r, q⟩
  refine ⟨ρ, m, F, st, E, r, (Post.bind q).imp (fun ds m1 F1 H1 s1 q vs rvs => ?_) fun _ _ _ _ _ y => y⟩
  obtain ⟨st1, r1, q⟩ := q
  split at q
  · rename_i hn
    exact ⟨ds, m1, F1, st1, hn, rvs, r1, q⟩
  · exact q.elim
theorem s_call (F : FnG X.prog X.w X.K X.mg X.base gd k f fd ps (spD S X.K ps.length h)) (hG : gd = true → X.A.guards = some []) (hr : Room k X.A) (hg : Gl X x) (hm : X.mg x = some (.ref f)) (hk : PySem.W.keepIn X.K (.ref f) = true) (hb : Binds X.K fd ps []) (tk : Takes X W)
    (ha : PA X (e :: es) (TAof S X W fa)) (hdb : (x == ("__debug__" : Str)) = false := by decide) (he : starEach (e :: es) X.env = (false, eval e X.env) :: starEach es X.env := by rfl) (hpl : (backTo pos (starEach es X.env)).any (·.1) = false := by rfl) :
    PE X (.Call (.Name x p) (e :: es) [] pos) (TEof S X W (fDef ps.length h fa)) := by
  have z : PE X (.Call (.Name x p) (e :: es) [] pos) (tCallS (spD S X.K ps.length h) (WE W) (TAof S X W fa)) := by
    refine ⟨fun pins s σ H Q I h => ?_⟩
    refine wpAny_Call_Name_kw (ld_glob I hg hm ?_ hdb)
    refine PySem.W.callWith_K (h₀ := X.base) I.ok.mod.kin hk (thn (ha.run pos pins s σ H _ I h) fun us s1 ⟨vs, H1, I1, r, q⟩ => ⟨I1.kIn, ?_⟩) he hpl
    exact run_fnG F hG hr hb (passAt tk σ) I1 r q
  exact z.weak i_def
theorem s_call0 (F : FnG X.prog X.w X.K X.mg X.base gd k f fd [] (spD S X.K 0 h)) (hG : gd = true → X.A.guards = some []) (hr : Room k X.A) (hg : Gl X x) (hm : X.mg x = some (.ref f)) (hk : PySem.W.keepIn X.K (.ref f) = true) (hb : Binds X.K fd [] []) (tk : Takes X W)
    (hdb : (x == ("__debug__" : Str)) = false := by decide) : PE X (.Call (.Name x p) [] [] pos) (TEof S X W (fDef 0 h fNil)) := by
  have z : PE X (.Call (.Name x p) [] [] pos) (tCallS (spD S X.K 0 h) (WE W) tNil) := by
    refine ⟨fun pins s σ H Q I h => ?_⟩
    refine wpAny_Call_Name_kw (ld_glob I hg hm ?_ hdb)
    exact PySem.W.callWith_K0 I.kIn hk (run_fnG (us := []) F hG hr hb (passAt tk σ) I .nil h)
  refine z.weak fun σ H Q ⟨ρ, m, F, st, E, r, q⟩ => ⟨[], m, F, st, rfl, .nil, r, q⟩
end
end MP

set_option maxRecDepth 100000
set_option maxHeartbeats 4000000
/-! MX1: an own exception's __init__ that begins with super().__init__(..), its class standing over others of the text's and ValueError. -/
namespace MP
open PySem PySem.Spec PyProof.Rows L2 PySem.W

theorem lookup_nodup {α : Type} {x : Str} {u : α} : ∀ {l : List (Str × α)}, (l.map (·.1)).Nodup → (x, u) ∈ l → l.lookup x = some u
  | [], _, h => by cases h
  | (y, w) :: l, nd, h => by
    have nd2 := List.nodup_cons.mp nd
    rcases List.mem_cons.mp h with e | hm
    · cases e
      simp [List.lookup]
    · have ne : (x == y) = false := by
        cases q : x == y with
        | false => rfl
        | true =>
          have e : x = y := by simpa using q
          subst e
          exact absurd (List.mem_map.mpr ⟨(x, u), hm, rfl⟩ : x ∈ l.map (·.1)) nd2.1
      rw [List.lookup, ne]
      exact lookup_nodup nd2.2 hm
theorem rev_zip_get {α : Type} {ps : List Str} {us : List α} {i : Nat} {x : Str} {u : α} (nd : ps.Nodup) (hl : ps.length = us.length) (h1 : ps[i]? = some x) (h2 : us[i]? = some u) : (ps.zip us).reverse.lookup x = some u := by
  refine lookup_nodup ?_ (List.mem_reverse.mpr ?_)
  · rw [List.map_reverse, (List.reverse_perm _).nodup_iff, List.map_fst_zip (Nat.le_of_eq hl)]
    exact nd
  · exact List.mem_of_getElem? (i := i) (by rw [List.getElem?_zip_eq_some]; exact ⟨h1, h2⟩)

/-- what is asked of the __init__'s scope: nothing but parameters, globals and the class -/
structure SupS (ps : List Str) (sc : Scope) : Prop where
  kind : sc.kind = .function
  co : sc.isCoroutine = false
  gen : sc.isGenerator = false
  nd : ps.Nodup
  par : ∀ x ∈ ps, sc.names.lookup x = some .local
  nocell : ∀ y ∈ sc.names, y.2 ≠ .cell
  free : ∀ y ∈ sc.names, y.2 = .free → y.1 = "__class__"
  sup : sc.names.lookup ("super" : Str) = some .globalImplicit
  cls : sc.names.lookup ("__class__" : Str) = some .free

def supCx (CX : CXT) (P : Program) (w : World) (K : Frag) (mg : Str → Option Value) (base : Heap) (N : List Str) (qual : Str) (scope : Scope) (f : Addr) (cd : Value) (cc : Addr) (A : Around) (outer : List PySem.Env) (s : Shared) (H : Hp) (E : XK) : Cx where
  prog := P
  w := w
  K := K
  mg := mg
  base := base
  A := A.deeper (ksEnv qual scope s.heap.objs.size f cd cc)
  N := N
  s_0 := s
  H_0 := H
  env := ksEnv qual scope s.heap.objs.size f cd cc
  outer := outer
  stack := ksEnv qual scope s.heap.objs.size f cd cc :: outer
  ex := []
  fn := fun _ => false
  calm := true
  pn := []
  xe := fun e s' => wpAny (model P w) (A.deeper (ksEnv qual scope s.heap.objs.size f cd cc)) (leaving (ksEnv qual scope s.heap.objs.size f cd cc) e) (fun _ s'' => CX outer H s E e s'') (fun e' s'' => CX outer H s E e' s'') s'

section
variable {CX : CXT} {P : Program} {w : World} {K : Frag} {mg : Str → Option Value} {base : Heap} {ps : List Str} {qual : Str} {scope : Scope} {f cc D : Addr} {cd : Value} {A : Around} {outer : List PySem.Env} {s : Shared} {H : Hp} {E : XK} {us : List Value} {vs : List V}
theorem sup_start {cl : Value} {cld : Option Addr} {csl : Array (Option Value)} (S : SupS ps scope) (hcell : K.lookup cc = some ⟨cl, cld, .cell (some (.ref D)), csl⟩) (hd : A.handled = none) (e0 : Env0 P w K mg base A outer s H) (hl : vs.length = ps.length) (r : Vals vs us)
    {h₁ : Heap} {tk : Nat} (hns : h₁.Ns s.heap.objs.size fun y => (ps.zip us).reverse.lookup y) (kp : ∀ b o, s.heap.get? b = some o → h₁.get? b = some o) :
    Inv (supCx CX P w K mg base ps qual scope f cd cc A outer s H E) [] (vs.map some) H { s with heap := h₁, toks := tk } := by
  have hcb := e0.mod.kin _ _ hcell
  obtain ⟨hcs, hcn⟩ := e0.bs _ _ hcb
  have one : ∀ {y : Str} {c : Addr}, ([(("__class__" : Str), cc)] : List (Str × Addr)).lookup y = some c → y = "__class__" ∧ c = cc := fun {y c} e => by
    rw [List.lookup] at e
    split at e
    · rename_i q
      cases e
      exact ⟨by simpa using q, rfl⟩
    · cases e
  have noA : ∀ b : Addr, b ∉ (supCx CX P w K mg base ps qual scope f cd cc A outer s H E).ex := fun b z => absurd (show b ∈ ([] : List Addr) from z) (by simp)
  have ho0 : base.objs.size ≤ s.heap.objs.size := e0.bsz
  refine ⟨⟨e0.mod, S.kind, rfl, rfl, Nat.le_refl _, fun x y c e1 e2 => (one e1).1.trans (one e2).1.symm, fun x hx => ?_, fun x c z _ => (Bool.noConfusion (show false = true from z)), fun _ => hd, Around.frames_deeper e0.frames, .inr ⟨rfl, rfl⟩, fun b z => absurd z (noA b), e0.bs, e0.bsz, fun b _ _ => noA b,
      fun b z => absurd z (noA b), e0.funs, e0.frf⟩,
    rfl, e0.bare, Un.kept kp, ⟨_, hns, fun i x v e1 e2 e3 => ?_⟩, fun x c e => ?_, e0.hok.fresh (Nat.le_refl _), fun x c e => ?_, fun q hq => absurd (show q ∈ ([] : List (Addr × Obj)) ++ [] from hq) (by simp), e0.hok.kept kp, by rw [List.length_map, hl]; rfl⟩
  · have hx : scope.names.lookup x = some .cell ∨ scope.names.lookup x = some .free := hx
    rcases hx with hx | hx
    · exact absurd rfl (S.nocell _ (PySem.mem_of_lookup hx))
    · have ex : x = "__class__" := S.free _ (PySem.mem_of_lookup hx) rfl
      rw [ex]
      exact ⟨cc, by show List.lookup ("__class__" : Str) [(("__class__" : Str), cc)] = some cc; simp [List.lookup]⟩
  · have e1 : ps[i]? = some x := e1
    rw [List.getElem?_map] at e2
    cases q : vs[i]? with
    | none => rw [q] at e2; cases e2
    | some v' =>
      rw [q] at e2; cases e2
      obtain ⟨u, hu, rv⟩ := r.get q
      exact ⟨u, rv, .inl ⟨S.par x (List.mem_of_getElem? e1), rev_zip_get S.nd (hl.symm.trans r.length) e1 hu⟩⟩
  · rw [(one e).2]
    exact ⟨_, _, kp _ _ hcs, rfl⟩
  · rw [(one e).2]
    exact hcn

/-- THE RULE: the first statement is super().__init__(..) of what does not change the heap, the rest goes by rules -/
theorem fn_super {k : Nat} {dV kV doc pm ct oc cl ccl : Value} {an od cld cdd : Option Addr} {osl csl ccs : Array (Option Value)} {params : Arguments} {cda : Addr} {vc : Array Value} {file : Str} {tf : Tok} {cdD : ClassData} {ar : Arg} {e : Expr} {es : List Expr} {rest : List Stmt}
    {p0 p1 p2 p3 p4 : Pos} {sp : Sp} {ta : TA} {t : TS} {pl : Addr → Sem Bool}
    (lk : K.lookup f = some ⟨oc, od, .func (ksFn "__init__" qual params (.Expr (.Call (.Attribute (.Call (.Name "super" p0) [] [] p1) "__init__" p2) (e :: es) [] p3) p4 :: rest) scope dV kV doc pm an (.ref cda) ct cc), osl⟩)
    (hcd : codeIn K (.ref cda) qual = true) (S : SupS ps scope) (hcell : K.lookup cc = some ⟨cl, cld, .cell (some (.ref D)), csl⟩) (hD : clsIn K D = some cdD) (hcode : K.lookup cda = some ⟨ccl, cdd, .fields vc, ccs⟩) (hvc : vc[2]? = some (.str file tf))
    (hfile : ((P.main.file : Str) == file) = true) (htop : (P.main.scope.names.lookup ("super" : Str)).isSome = false) (hsup : mg "super" = none) (hoq : nsIn K cStatics "thirdparty.any" = some none) (hpar : (params.posonlyargs ++ params.args).head? = some ar) (har : ps[0]? = some ar.arg)
    (len : ∀ vs H Q E, sp vs H Q E → vs.length = ps.length)
    (hsp : ∀ vs H Q E, sp vs H Q E → ∃ (a C : Addr) (ws : List V), vs = .ref a :: ws ∧ OexC K C ∧ mroIn K C (.ref D) = some true ∧ ks_superIn K C D "__init__" = some (some (.builtin "ValueError.__init__")) ∧ subIn K (.ref C) (.type "ValueError") = some true ∧ H a = some (exo a C none) ∧
      ta (vs.map some) H (fun us H' => H' = H ∧ us.length ≤ 1000) ∧ t { nx := fun _ H' => Q .non H', rt := Q } (vs.map some) H)
    (hargs : ∀ (A : Around) (outer : List PySem.Env) (s : Shared) (H : Hp) (E : XK), PA (supCx CX P w K mg base ps qual scope f (.ref cda) cc A outer s H E) (e :: es) ta)
    (hrest : ∀ (A : Around) (outer : List PySem.Env) (s : Shared) (H : Hp) (E : XK), PSs (supCx CX P w K mg base ps qual scope f (.ref cda) cc A outer s H E) rest t)
    (hst : ∀ env : PySem.Env, starEach (e :: es) env = (false, eval e env) :: starEach es env) (hpl : ∀ env : PySem.Env, (backTo p3 (starEach es env)).any (·.1) = false)
    (hev : ∀ (L : Addr), eval (.Call (.Attribute (.Call (.Name "super" p0) [] [] p1) "__init__" p2) (e :: es) [] p3) (ksEnv qual scope L f (.ref cda) cc) = (do
      let ov ← attributeBase (.Call (.Name "super" p0) [] [] p1) "__init__" (ksEnv qual scope L f (.ref cda) cc) (eval (.Call (.Name "super" p0) [] [] p1) (ksEnv qual scope L f (.ref cda) cc))
      standAt p2.atName
      let (g, first) ← holding [ov] (getMethod ov "__init__" (pl L))
      callWith p3 g first (backTo p3 (starEach (e :: es) (ksEnv qual scope L f (.ref cda) cc))) []))
    (hsw : ∀ (L : Addr), swapsWith (.Call (.Attribute (.Call (.Name "super" p0) [] [] p1) "__init__" p2) (e :: es) [] p3) none p4.line (ksEnv qual scope L f (.ref cda) cc) = pure false)
    (hin : ∀ (L : Addr), interactive (ksEnv qual scope L f (.ref cda) cc) = false) :
    FnOk P w K mg base CX k f (ksFn "__init__" qual params (.Expr (.Call (.Attribute (.Call (.Name "super" p0) [] [] p1) "__init__" p2) (e :: es) [] p3) p4 :: rest) scope dV kV doc pm an (.ref cda) ct cc) ps sp := by
  refine ⟨len, fun A outer s H args us vs Q E hr e0 hb r hs => ?_⟩
  obtain ⟨hp, g0, dr, tk, os⟩ := s
  have hl := len _ _ _ _ hs
  obtain ⟨a, C, ws, rfl, T, hmro, hsi, hsub, hea, hta, hti⟩ := hsp _ _ _ _ hs
  have KX : K.In hp := e0.mod.kin.keeps fun b o e => (e0.bs b o e).1
  have lim : hp.NoLimit := e0.mod.nolimit.keeps fun b o e => (e0.bs b o e).1
  refine ks_codeAny_call_defAt hr.depth (KX _ _ lk) rfl lim (codeRec_of KX hcd) rfl (hb) S.nocell (fun x hx => S.par _ (List.of_mem_zip hx).1) (fun h₁ hns hk₁ => ?_) S.co S.gen S.kind
  have I : Inv (supCx CX P w K mg base ps qual scope f (.ref cda) cc A outer ⟨hp, g0, dr, tk, os⟩ H E) [] ((V.ref a :: ws).map some) H ⟨h₁, g0, dr, tk + (ps.zip us).length, os⟩ := sup_start S hcell hr.hd e0 hl r hns hk₁
  obtain ⟨oD, hD1, hD2⟩ : ∃ oD, h₁.get? D = some oD ∧ oD.data = .cls cdD := by
    unfold clsIn at hD
    split at hD
    · rename_i c d cd' sl ho
      cases hD
      exact ⟨_, I.kIn _ _ ho, rfl⟩
    · cases hD
  obtain ⟨cdC, hcC⟩ : ∃ cdC, clsIn K C = some cdC := by
    cases hc : clsIn K C with
    | none => unfold ks_superIn at hsi; rw [hc] at hsi; cases hsi
    | some cd => exact ⟨cd, rfl⟩
  have hsi' := hsi
  unfold ks_superIn at hsi'
  rw [hcC] at hsi'
  obtain ⟨t1, ho⟩ := exo_at I.hok hea
  have u0 : us[0]? = some (Value.ref a) := by
    cases r with
    | cons ra rt => exact congrArg some ra
  refine ks_wpAt_execs_cons (ks_wpAt_Expr_any (ks_wpAt_MethodCall (pl := pl hp.objs.size) ?_ (hev _)) (hin _) (hsw _))
  refine ks_wpAt_super_base (env := ksEnv qual scope hp.objs.size f (.ref cda) cc) S.sup S.cls rfl rfl (I.kIn _ _ lk) rfl hpar rfl (I.kIn _ _ hcode) rfl hvc hfile htop ?_
  obtain ⟨mb, hb1, hb2⟩ := e0.mod.blt
  refine ks_loadName_global S.kind S.sup (PySem.Calls.loadGlobal_builtin (mg := mg) (mb := mb) (e0.mod.glob.keeps I.bk) hsup (hb1.keeps I.bk) ((hb2 _ (by decide +kernel)).trans (by kernel_rfl)) ⟨rfl, ?_⟩)
  refine wpAny_loadName_free S.kind S.cls rfl ⟨_, I.kIn _ _ hcell, rfl⟩ ?_
  refine wpAny_loadName_local S.kind (S.par _ (List.mem_of_getElem? har)) hns (rev_zip_get S.nd (hl.symm.trans r.length) har u0) ?_
  refine ks_wpAny_isType_cls hD1 hD2 ⟨rfl, ?_⟩
  refine ks_wpAny_call_super hD1 hD2 ho rfl (fun c e => by cases e) (looks_mroIn I.kIn hmro) (fun h2 e2 k2 => ?_)
  have I2 : Inv (supCx CX P w K mg base ps qual scope f (.ref cda) cc A outer ⟨hp, g0, dr, tk, os⟩ H E) [] ((V.ref a :: ws).map some) H ⟨h2, g0, dr, tk + (ps.zip us).length, os⟩ := I.kept k2
  have ia : InstAt h2 a ({ cls := .ref C, dict := none, data := .fields #[.ref t1, .none, .none, .none, .bool false, .none] } : Obj) C none := ⟨k2 _ _ ho, rfl, rfl, trivial⟩
  refine kxs_getMethod kxs_ValueError e2 (looks_opaque I2.kIn hoq) (l₀ := cdC.mro) (fun A Q E s k q => wpAny_bind ((looks_clsIn I2.kIn hcC) A _ E s k (wpAny_pure q))) rfl I2.kIn hsi' (ia.type.andThen (looks_subIn I2.kIn hsub)) (ks_ne I2.kIn ia hcC) (by decide) ?_
  have kp : ∀ b o, h2.get? b = some o → (h2.push (kxs_mw "ValueError.__init__" a)).get? b = some o := fun b o e => Heap.get?_push_of_some _ e
  have hu : (h2.push (kxs_mw "ValueError.__init__" a)).get? h2.objs.size = some (kxs_mw "ValueError.__init__" a) := Heap.get?_push_size _ rfl
  have I3 : Inv (supCx CX P w K mg base ps qual scope f (.ref cda) cc A outer ⟨hp, g0, dr, tk, os⟩ H E) [(h2.objs.size, kxs_mw "ValueError.__init__" a)] ((V.ref a :: ws).map some) H ⟨h2.push (kxs_mw "ValueError.__init__" a), g0, dr, tk + (ps.zip us).length + 1, os⟩ := by
    refine (I2.kept (t' := tk + (ps.zip us).length + 1) kp).pins_of fun p hpm => ?_
    rw [List.mem_singleton.mp hpm]
    exact ⟨hu, I2.hok.fresh (Nat.le_refl _), Nat.ne_of_gt I2.lt, I2.nofs (Nat.le_refl _), fun v z => by cases z⟩
  have ha := (hargs A outer ⟨hp, g0, dr, tk, os⟩ H E).run p3 _ _ _ H _ I3 hta
  show wpAny _ _ (callWith p3 (.ref h2.objs.size) [] (backTo p3 (starEach (e :: es) (ksEnv qual scope hp.objs.size f (.ref cda) cc))) []) _ _ _
  have ha : wpAny (model P w) (A.deeper (ksEnv qual scope hp.objs.size f (.ref cda) cc)) (spliced (backTo p3 (starEach (e :: es) (ksEnv qual scope hp.objs.size f (.ref cda) cc)))) _ _ _ := ha
  rw [hst] at ha ⊢
  refine kxs_callWith (i := "ValueError.__init__") (x := a) (by show (false || (backTo p3 (starEach es _)).any (·.1)) = false; rw [hpl]; rfl) (PySem.Calls.evalArgs_plain (thn ha fun us2 s3 hh => ?_))
  obtain ⟨vs2, H2, I4, r2, eH, hz⟩ := hh
  subst eH
  obtain ⟨hu4, _⟩ := I4.pin _ (List.mem_append_right _ (List.mem_singleton.mpr rfl))
  refine ⟨hu4, ?_⟩
  obtain ⟨nm, q, N, bs, bm, sn, sub, ab, col, dd, k0, k1, k2, k3, k5, hC, hbm⟩ := T.cls
  have hC' := I4.kIn _ _ hC
  obtain ⟨t4, ho4⟩ := exo_at I4.hok hea
  obtain ⟨h4, g4, dr4, tk4, os4⟩ := s3
  have hz2 : us2.length ≤ sizeLine := by
    rw [← Paired.length r2, sizeLine_eq]; omega
  refine wpAny_call (codeAny_of_tree ?_)
  show wpAny _ (A.deeper _).in1 (callAny (.ref h2.objs.size) ⟨[] ++ us2, []⟩) _ _ _
  simp only [callAny, List.nil_append]
  refine wpAny_bind (wpAny_load hu4 ?_)
  simp only [kxs_mw, show (Value.type "method-wrapper" == Value.type "method" || Value.type "method-wrapper" == Value.type "builtin_function_or_method" || Value.type "method-wrapper" == Value.type "method-wrapper") = true by decide, if_true]
  refine KFB.if_so (by decide) ?_
  refine wpAny_bind (check_bound_init F.excBase_ValueError.toExcCallFacts hC' ho4 rfl ?_)
  refine wpAny_bind (wpAny_pure (wpAny_pure ?_))
  refine ⟨plainId_quiet F.excBase_ValueError.init.plain _, codeAny_builtin F.excBase_ValueError.initEntry ?_⟩
  refine exc_init_tree (cls := .ref C) (t0 := t4) (dv := none) (c2 := .none) (c3 := .none) (b4 := .bool false) ho4 hz2 fun h' kk e' t' => ?_
  have J := I4.write (t' := tk4) (x := a) (e := a) (o := exo a C none) (by rw [hea]; exact True.intro) (.inl rfl) kk ⟨_, e'⟩ (exo_ok e')
  have eu : upd H2 a (exo a C none) = H2 := by
    funext b
    by_cases hb : b = a
    · rw [hb, upd_same, hea]
    · rw [upd_ne hb]
  rw [eu] at J
  refine wpAt_of_wpAny ?_
  refine wpAny_mono ((hrest A outer ⟨hp, g0, dr, tk, os⟩ H2 E).run _ _ _ H2 _ J hti) (fun fl s' hs => ?_) fun e s' hs => hs
  have fin : ∀ {σ' : L2.St} {H' : Hp} {v : V} {u : Value}, Inv (supCx CX P w K mg base ps qual scope f (.ref cda) cc A outer ⟨hp, g0, dr, tk, os⟩ H2 E) [(h2.objs.size, kxs_mw "ValueError.__init__" a)] σ' H' s' → RelV v u → Q v H' → CE outer P w H2 ⟨hp, g0, dr, tk, os⟩ Q u s' :=
    fun {σ' H' v u} J rv q => ⟨v, H', J.os, J.bare, J.base, J.hok, rv, q⟩
  cases fl with
  | ret u =>
    obtain ⟨v, σ', H', J, rv, q⟩ := hs
    exact fin J rv q
  | next =>
    obtain ⟨σ', H', J, q⟩ := hs
    exact fin (v := V.non) (u := Value.none) J rfl q
  | brk =>
    obtain ⟨_, _, _, q⟩ := hs
    exact False.elim q
  | cont =>
    obtain ⟨_, _, _, q⟩ := hs
    exact False.elim q
end
end MP

set_option maxRecDepth 100000
set_option maxHeartbeats 1000000
/-! MX2: own exceptions made and raised. -/
namespace MP
open PySem PySem.Spec PyProof.Rows L2 PySem.W

/-! ### a class without __init__ of its own, made of nothing -/
theorem pmk_own0 {X : Cx} {C : Addr} {bmB : List Value} {B newId initId : String} {x : Str} {p pos : Pos} (F : ExcBaseFacts B newId initId bmB) (q : excIn X.K C bmB newId = true) (gC : X.mg x = some (.ref C)) (kC : keepIn X.K (.ref C) = true) (r : Raises X (.ref C)) (hg : Gl X x)
    (hdb : (x == ("__debug__" : Str)) = false := by decide) : PMk X (.Call (.Name x p) [] [] pos) (fun _ H Q => Q (.ref C) none H) := by
  intro pins s σ H Q I h
  refine wpAny_Call_Name_kw (ld_glob I hg gC ?_ hdb)
  refine callWith_K0 I.kIn kC ?_
  obtain ⟨bm, N, nm, qn, bs, hdct, sn, sub, ab, col, dd, k0, k1, k2, k3, k5, mN, hC, hN, hni, T⟩ := exc_obj I.kIn q
  refine wpAny_call_exc_subT F T hC hN hni (fun h' e hm => ?_) (by show 0 ≤ sizeLine; exact Nat.zero_le _)
  exact mk_of I hm r h (I.hok.gone hm.new)

/-! ### a class with an __init__ that stores what it is handed -/
structure InitC (K : Frag) (C D : Addr) (fs : List Str) : Prop where
  oex : OexC K C
  mro : mroIn K C (.ref D) = some true
  sup : ks_superIn K C D "__init__" = some (some (.builtin "ValueError.__init__"))
  sub : subIn K (.ref C) (.type "ValueError") = some true
  nf : ∀ f ∈ fs, findIn K (.ref C) f = some none
/-- what the __init__ leaves: the exception's dict -/
def sp1 (K : Frag) (D : Addr) (f1 : Str) : Sp := fun vs H Q _ => ∃ (a C : Addr) (y1 : V), vs = [.ref a, y1] ∧ InitC K C D [f1] ∧ H a = some (exo a C none) ∧ ∀ dx, H dx = none → dx ≠ a → Q .non (upd (upd H dx (exd dx [(f1, y1)])) a (exo a C (some dx)))
def sp2 (K : Frag) (D : Addr) (f1 f2 : Str) : Sp := fun vs H Q _ => ∃ (a C : Addr) (y1 y2 : V), vs = [.ref a, y1, y2] ∧ InitC K C D [f1, f2] ∧ H a = some (exo a C none) ∧
  ∀ dx, H dx = none → dx ≠ a → Q .non (upd (upd (upd H dx (exd dx [(f1, y1)])) a (exo a C (some dx))) dx (exd dx [(f2, y2), (f1, y1)]))
/-- what is known of the def that an own exception's __init__ is -/
structure SupK (P : Program) (K : Frag) (mg : Str → Option Value) (ps : List Str) (qual : Str) (scope : Scope) (params : Arguments) (D cda cc : Addr) : Prop where
  hcd : codeIn K (.ref cda) qual = true
  S : SupS ps scope
  cell : ∃ (cl : Value) (cld : Option Addr) (csl : Array (Option Value)), K.lookup cc = some ⟨cl, cld, .cell (some (.ref D)), csl⟩
  cls : ∃ cdD, clsIn K D = some cdD
  code : ∃ (ccl : Value) (cdd : Option Addr) (vc : Array Value) (ccs : Array (Option Value)) (file : Str) (tf : Tok), K.lookup cda = some ⟨ccl, cdd, .fields vc, ccs⟩ ∧ vc[2]? = some (.str file tf) ∧ ((P.main.file : Str) == file) = true
  top : (P.main.scope.names.lookup ("super" : Str)).isSome = false
  sup : mg "super" = none
  opq : nsIn K cStatics "thirdparty.any" = some none
  par : ∃ ar : Arg, (params.posonlyargs ++ params.args).head? = some ar ∧ ps[0]? = some ar.arg
section
variable {CX : CXT} {P : Program} {w : World} {K : Frag} {mg : Str → Option Value} {base : Heap} {qual : Str} {scope : Scope} {f cc D cda : Addr} {k : Nat} {dV kV doc pm ct oc : Value} {an od : Option Addr} {osl : Array (Option Value)} {params : Arguments} {p0 p1 p2 p3 p4 : Pos}
theorem pv_sup {A : Around} {outer : List PySem.Env} {s : Shared} {H : Hp} {E : XK} {ps : List Str} {i : Nat} {x : Str} {pos : Pos} (S : SupS ps scope) (hi : ps[i]? = some x) (hd : (x == ("__debug__" : Str)) = false) (hcd : (x == ("__classdict__" : Str)) = false) :
    PE (supCx CX P w K mg base ps qual scope f (.ref cda) cc A outer s H E) (.Name x pos) (tVar i) := pe_var hi (.inl (S.par x (List.mem_of_getElem? hi))) hd hcd
theorem no_inter {ps : List Str} {L : Addr} {cd : Value} (S : SupS ps scope) : interactive (ksEnv qual scope L f cd cc) = false := by
  unfold interactive
  rw [show (ksEnv qual scope L f cd cc).scope.kind = ScopeKind.function from S.kind]
  rfl
theorem fn_init1 {pl : Addr → Sem Bool} {sf x1 f1 : Str} {q1 q2 q3 q4 q5 : Pos} (G : SupK P K mg [sf, x1] qual scope params D cda cc)
    (lk : K.lookup f = some ⟨oc, od, .func (ksFn "__init__" qual params [.Expr (.Call (.Attribute (.Call (.Name "super" p0) [] [] p1) "__init__" p2) [.Name x1 q1] [] p3) p4, .Assign [.Attribute (.Name sf q2) f1 q3] (.Name x1 q4) q5] scope dV kV doc pm an (.ref cda) ct cc), osl⟩)
    (hev : ∀ (L : Addr), eval (.Call (.Attribute (.Call (.Name "super" p0) [] [] p1) "__init__" p2) [.Name x1 q1] [] p3) (ksEnv qual scope L f (.ref cda) cc) = (do
      let ov ← attributeBase (.Call (.Name "super" p0) [] [] p1) "__init__" (ksEnv qual scope L f (.ref cda) cc) (eval (.Call (.Name "super" p0) [] [] p1) (ksEnv qual scope L f (.ref cda) cc))
      standAt p2.atName
      let (g, first) ← holding [ov] (getMethod ov "__init__" (pl L))
      callWith p3 g first (backTo p3 (starEach [.Name x1 q1] (ksEnv qual scope L f (.ref cda) cc))) []))
    (d1 : (x1 == ("__debug__" : Str)) = false) (d2 : (x1 == ("__classdict__" : Str)) = false) (d3 : (sf == ("__debug__" : Str)) = false) (d4 : (sf == ("__classdict__" : Str)) = false) :
    FnOk P w K mg base CX k f (ksFn "__init__" qual params [.Expr (.Call (.Attribute (.Call (.Name "super" p0) [] [] p1) "__init__" p2) [.Name x1 q1] [] p3) p4, .Assign [.Attribute (.Name sf q2) f1 q3] (.Name x1 q4) q5] scope dV kV doc pm an (.ref cda) ct cc) [sf, x1] (sp1 K D f1) := by
  obtain ⟨cl, cld, csl, hcell⟩ := G.cell
  obtain ⟨cdD, hD⟩ := G.cls
  obtain ⟨ccl, cdd, vc, ccs, file, tf, c1, c2, c3⟩ := G.code
  obtain ⟨ar, a1, a2⟩ := G.par
  refine fn_super (t := tOst K f1 (tVar 0) (tVar 1)) lk G.hcd G.S hcell hD c1 c2 c3 G.top G.sup G.opq a1 a2 (fun vs H Q E ⟨a, C, y1, e, _⟩ => by rw [e]; rfl) (fun vs H Q E h => ?_)
    (fun A outer s H E => pa_cons (pv_sup (i := 1) G.S rfl d1 d2) pa_nil) (fun A outer s H E => pss_one (ps_ost (pv_sup (i := 0) G.S rfl d3 d4) (pv_sup (i := 1) G.S rfl d1 d2)))
    (fun env => rfl) (fun env => rfl) hev (fun L => rfl) (fun L => no_inter G.S)
  obtain ⟨a, C, y1, rfl, T, ha, hq⟩ := h
  exact ⟨a, C, [y1], rfl, T.oex, T.mro, T.sup, T.sub, ha, ⟨y1, rfl, rfl, (by show 1 ≤ 1000; decide)⟩, y1, rfl, .ref a, rfl, a, C, rfl, T.oex, T.nf _ (by simp), .inl ⟨ha, fun dx n ne => hq dx n ne⟩⟩
theorem fn_init2 {pl : Addr → Sem Bool} {sf x1 f1 x2 f2 : Str} {q1 q2 q3 q4 q5 q6 r1 r2 r3 r4 : Pos} (G : SupK P K mg [sf, x1, x2] qual scope params D cda cc)
    (lk : K.lookup f = some ⟨oc, od, .func (ksFn "__init__" qual params [.Expr (.Call (.Attribute (.Call (.Name "super" p0) [] [] p1) "__init__" p2) [.Name x1 q1, .Name x2 q6] [] p3) p4, .Assign [.Attribute (.Name sf q2) f1 q3] (.Name x1 q4) q5,
      .Assign [.Attribute (.Name sf r1) f2 r2] (.Name x2 r3) r4] scope dV kV doc pm an (.ref cda) ct cc), osl⟩)
    (hev : ∀ (L : Addr), eval (.Call (.Attribute (.Call (.Name "super" p0) [] [] p1) "__init__" p2) [.Name x1 q1, .Name x2 q6] [] p3) (ksEnv qual scope L f (.ref cda) cc) = (do
      let ov ← attributeBase (.Call (.Name "super" p0) [] [] p1) "__init__" (ksEnv qual scope L f (.ref cda) cc) (eval (.Call (.Name "super" p0) [] [] p1) (ksEnv qual scope L f (.ref cda) cc))
      standAt p2.atName
      let (g, first) ← holding [ov] (getMethod ov "__init__" (pl L))
      callWith p3 g first (backTo p3 (starEach [.Name x1 q1, .Name x2 q6] (ksEnv qual scope L f (.ref cda) cc))) []))
    (d1 : (x1 == ("__debug__" : Str)) = false) (d2 : (x1 == ("__classdict__" : Str)) = false) (d3 : (sf == ("__debug__" : Str)) = false) (d4 : (sf == ("__classdict__" : Str)) = false) (d5 : (x2 == ("__debug__" : Str)) = false) (d6 : (x2 == ("__classdict__" : Str)) = false) :
    FnOk P w K mg base CX k f (ksFn "__init__" qual params [.Expr (.Call (.Attribute (.Call (.Name "super" p0) [] [] p1) "__init__" p2) [.Name x1 q1, .Name x2 q6] [] p3) p4, .Assign [.Attribute (.Name sf q2) f1 q3] (.Name x1 q4) q5,
      .Assign [.Attribute (.Name sf r1) f2 r2] (.Name x2 r3) r4] scope dV kV doc pm an (.ref cda) ct cc) [sf, x1, x2] (sp2 K D f1 f2) := by
  obtain ⟨cl, cld, csl, hcell⟩ := G.cell
  obtain ⟨cdD, hD⟩ := G.cls
  obtain ⟨ccl, cdd, vc, ccs, file, tf, c1, c2, c3⟩ := G.code
  obtain ⟨ar, a1, a2⟩ := G.par
  refine fn_super (t := tSeq (tOst K f1 (tVar 0) (tVar 1)) (tOst K f2 (tVar 0) (tVar 2))) lk G.hcd G.S hcell hD c1 c2 c3 G.top G.sup G.opq a1 a2 (fun vs H Q E ⟨a, C, y1, y2, e, _⟩ => by rw [e]; rfl) (fun vs H Q E h => ?_)
    (fun A outer s H E => pa_cons (pv_sup (i := 1) G.S rfl d1 d2) (pa_cons (pv_sup (i := 2) G.S rfl d5 d6) pa_nil))
    (fun A outer s H E => pss_cons (ps_ost (pv_sup (i := 0) G.S rfl d3 d4) (pv_sup (i := 1) G.S rfl d1 d2)) (pss_one (ps_ost (pv_sup (i := 0) G.S rfl d3 d4) (pv_sup (i := 2) G.S rfl d5 d6))))
    (fun env => rfl) (fun env => rfl) hev (fun L => rfl) (fun L => no_inter G.S)
  obtain ⟨a, C, y1, y2, rfl, T, ha, hq⟩ := h
  refine ⟨a, C, [y1, y2], rfl, T.oex, T.mro, T.sup, T.sub, ha, ⟨y1, rfl, y2, rfl, rfl, (by show 2 ≤ 1000; decide)⟩, y1, rfl, .ref a, rfl, a, C, rfl, T.oex, T.nf _ (by simp), .inl ⟨ha, fun dx n ne => ?_⟩⟩
  exact ⟨y2, rfl, .ref a, rfl, a, C, rfl, T.oex, T.nf _ (by simp), .inr ⟨dx, _, upd_same, by rw [upd_ne ne]; exact upd_same, (by show 1 ≤ 900; decide), hq dx n ne⟩⟩
end
/-- C(e, ..) by such an __init__: the exception's dict is new, nothing else has changed -/
def tMk (C : Addr) (fs : List Str) (ta : TA) : L2.St → Hp → XK → Prop := fun σ H Q => ta σ H fun vs H1 => vs.length = fs.length ∧ ∀ dx, H1 dx = none → Q (.ref C) (some dx) (upd H1 dx (.xd (fs.zip vs).reverse))
theorem mk_heap {H1 : Hp} {a dx : Addr} {C : Addr} {fs fs' : List (Str × V)} (na : H1 a = none) (ne : dx ≠ a) : upd (del (upd (upd (upd H1 a (exo a C none)) dx (exd dx fs)) a (exo a C (some dx))) a) dx (.xd fs') = upd H1 dx (.xd fs') := by
  funext b
  by_cases h1 : b = dx
  · rw [h1, upd_same, upd_same]
  · rw [upd_ne h1, upd_ne h1]
    by_cases h2 : b = a
    · rw [h2, del_same, na]
    · rw [del_ne h2, upd_ne h2, upd_ne h1, upd_ne h2]
theorem mk_heap2 {H1 : Hp} {a dx : Addr} {C : Addr} {fs fs2 fs' : List (Str × V)} (na : H1 a = none) (ne : dx ≠ a) : upd (del (upd (upd (upd (upd H1 a (exo a C none)) dx (exd dx fs)) a (exo a C (some dx))) dx (exd dx fs2)) a) dx (.xd fs') = upd H1 dx (.xd fs') := by
  funext b
  by_cases h1 : b = dx
  · rw [h1, upd_same, upd_same]
  · rw [upd_ne h1, upd_ne h1]
    by_cases h2 : b = a
    · rw [h2, del_same, na]
    · rw [del_ne h2, upd_ne h1, upd_ne h2, upd_ne h1, upd_ne h2]
theorem none_upd {H1 : Hp} {a dx : Addr} {o : HO} (n : upd H1 a o dx = none) : dx ≠ a ∧ H1 dx = none := by
  by_cases h : dx = a
  · rw [h, upd_same] at n; cases n
  · rw [upd_ne h] at n; exact ⟨h, n⟩
theorem mk1_imp {K : Frag} {C D : Addr} {f1 : Str} (T : InitC K C D [f1]) {ta : TA} (hm : ∀ σ H Q Q', ta σ H Q → (∀ vs H', Q vs H' → Q' vs H') → ta σ H Q') {σ : L2.St} {H : Hp} {Q : XK} (h : tMk C [f1] ta σ H Q) : tMkO C (sp1 K D f1) [] ta σ H Q := by
  refine hm σ H _ _ h fun vs H1 ⟨hl, q⟩ => ?_
  match vs, hl with
  | [y1], _ =>
    refine ⟨by show 1 ≤ 1000; decide, fun a na => ⟨a, C, y1, rfl, T, upd_same, fun dx n ne => ⟨rfl, dx, [(f1, y1)], upd_same, by rw [upd_ne ne]; exact upd_same, (none_upd n).2, ?_⟩⟩⟩
    rw [mk_heap na ne]
    exact q dx (none_upd n).2
theorem mk2_imp {K : Frag} {C D : Addr} {f1 f2 : Str} (T : InitC K C D [f1, f2]) {ta : TA} (hm : ∀ σ H Q Q', ta σ H Q → (∀ vs H', Q vs H' → Q' vs H') → ta σ H Q') {σ : L2.St} {H : Hp} {Q : XK} (h : tMk C [f1, f2] ta σ H Q) : tMkO C (sp2 K D f1 f2) [] ta σ H Q := by
  refine hm σ H _ _ h fun vs H1 ⟨hl, q⟩ => ?_
  match vs, hl with
  | [y1, y2], _ =>
    refine ⟨by show 2 ≤ 1000; decide, fun a na => ⟨a, C, y1, y2, rfl, T, upd_same, fun dx n ne => ⟨rfl, dx, [(f2, y2), (f1, y1)], ?_, upd_same, (none_upd n).2, ?_⟩⟩⟩
    · rw [upd_ne (Ne.symm ne)]; exact upd_same
    · rw [mk_heap2 na ne]
      exact q dx (none_upd n).2
end MP

set_option maxRecDepth 100000
set_option maxHeartbeats 1000000
/-! MX3: raise, by the interpreter's outcomes. -/
namespace MP
open PySem PySem.Spec PyProof.Rows L2 PySem.W

theorem PMk.weak {X : Cx} {e : Expr} {t t' : L2.St → Hp → XK → Prop} (h : PMk X e t) (w : ∀ σ H Q, t' σ H Q → t σ H Q) : PMk X e t' := fun pins s σ H Q I q => h pins s σ H Q I (w σ H Q q)
section
variable {S : Se} {X : Cx} {W : WX}
theorem TAof.mono {fa : Env → St → Out (List D)} : ∀ σ H Q Q', TAof S X W fa σ H Q → (∀ vs H', Q vs H' → Q' vs H') → TAof S X W fa σ H Q' := by
  intro σ H Q Q' ⟨ρ, m, F, st, E, r, h⟩ hq
  exact ⟨ρ, m, F, st, E, r, h.imp (fun ds m1 F1 H1 s1 q vs rvs => hq _ _ (q vs rvs)) fun _ _ _ _ _ y => y⟩
def gRaise (c n : Nat) (f : Env → St → Out (List D)) : Env → St → SO := fun ρ st => (f ρ st).toS fun ds st1 => if ds.length = n then .exc c ds st1 else .bad
theorem s_raise {c : Nat} {C : Addr} {fs : List Str} {e : Expr} {pos : Pos} {fa : Env → St → Out (List D)} (hc : X.calm = true) (tk : Takes X W) (he : PMk X e (tMk C fs (TAof S X W fa))) (ga : S.g.at_ c = C) (gf : S.g.fs c = fs) (nd : fs.Nodup) :
    PS X (.Raise (some e) none pos) (TSof S X W (gRaise c fs.length fa)) := by
  refine (ps_raise hc tk he).weak fun D σ H ⟨ρ, m, F, st, E, r, h⟩ => ⟨ρ, m, F, st, E, r, (SPost.bind rfl h).imp (fun ds m1 F1 H1 s1 q vs rvs => ?_) fun _ _ _ _ _ y => y⟩
  obtain ⟨st1, r1, q⟩ := q
  split at q
  · rename_i hl
    refine ⟨rvs.length.trans hl, fun dx hn => ?_⟩
    have r2 : Rel X.K S.T m1 F1 st1 (upd H1 dx (.xd (fs.zip vs).reverse)) := r1.side (r1.notin hn) (r1.noF hn) fun u e => by rw [hn] at e; cases e
    have st2 : Step m1 F1 H1 m1 F1 (upd H1 dx (.xd (fs.zip vs).reverse)) := ⟨Mono.refl _ _, fun b u e _ _ => same_upd hn _ b u e, fun _ h => .inl h, fun _ _ h => .inl h⟩
    refine q σ m1 F1 _ st2 r2 rfl (.ref C) (some dx) ⟨by rw [ga], .inr ⟨dx, _, rfl, upd_same, r1.notin hn, r1.noF hn, by rw [gf, hl], vs, rvs, fun i f v e1 e2 => ?_⟩⟩
    rw [gf] at e1
    exact rev_zip_get nd (hl.symm.trans rvs.length.symm) e1 e2
  · exact q.elim
/-- raise C() of a class that stores nothing -/
def gRaise0 (c : Nat) : Env → St → SO := fun _ st => .exc c [] st
theorem s_raise0 {c : Nat} {C : Addr} {e : Expr} {pos : Pos} (hc : X.calm = true) (tk : Takes X W) (he : PMk X e (fun _ H Q => Q (.ref C) none H)) (ga : S.g.at_ c = C) (gf : S.g.fs c = []) : PS X (.Raise (some e) none pos) (TSof S X W (gRaise0 c)) := by
  refine (ps_raise hc tk he).weak fun D σ H ⟨ρ, m, F, st, E, r, h⟩ => ?_
  exact h σ m F H (Step.refl _ _ _) r rfl (.ref C) none ⟨by rw [ga], .inl ⟨gf, rfl⟩⟩
/-- the three ways -/
theorem s_raiseN {c : Nat} {C : Addr} {bmB : List Value} {B newId initId : String} {x : Str} {p pos pos' : Pos} (hc : X.calm = true) (tk : Takes X W) (F : ExcBaseFacts B newId initId bmB) (q : excIn X.K C bmB newId = true) (gC : X.mg x = some (.ref C)) (kC : keepIn X.K (.ref C) = true) (r : Raises X (.ref C)) (hg : Gl X x)
    (ga : S.g.at_ c = C) (gf : S.g.fs c = []) (hdb : (x == ("__debug__" : Str)) = false := by decide) : PS X (.Raise (some (.Call (.Name x p) [] [] pos)) none pos') (TSof S X W (gRaise0 c)) := s_raise0 hc tk (pmk_own0 F q gC kC r hg hdb) ga gf
section
variable {x f1 f2 : Str} {C Dc fI : Addr} {k c : Nat} {fd : FuncData} {ps : List Str} {e : Expr} {es : List Expr} {fa : Env → St → Out (List D)} {p pos pos' : Pos}
theorem s_raise1 (hc : X.calm = true) (tk : Takes X W) (T : InitC X.K C Dc [f1]) (iC : findIn X.K (.ref C) "__init__" = some (some (.ref fI))) (tI : typeIn X.K (.ref fI) = some (.type "function")) (F1 : FnOk X.prog X.w X.K X.mg X.base (L2.CX X.prog X.w) k fI fd ps (sp1 X.K Dc f1)) (hr : Room (k + 1) X.A)
    (hb : Binds X.K fd ps []) (hg : Gl X x) (hm : X.mg x = some (.ref C)) (ha : PA X (e :: es) (TAof S X W fa)) (ga : S.g.at_ c = C) (gf : S.g.fs c = [f1])
    (hdb : (x == ("__debug__" : Str)) = false := by decide) (he : starEach (e :: es) X.env = (false, eval e X.env) :: starEach es X.env := by rfl) (hpl : (backTo pos (starEach es X.env)).any (·.1) = false := by rfl) :
    PS X (.Raise (some (.Call (.Name x p) (e :: es) [] pos)) none pos') (TSof S X W (gRaise c 1 fa)) :=
  s_raise hc tk (PMk.weak (pmk_oex T.oex iC tI F1 hr hb .nil passL hg hm ha hdb he hpl) fun σ H Q h => mk1_imp T TAof.mono h) ga gf (by simp)
theorem s_raise2 (hc : X.calm = true) (tk : Takes X W) (T : InitC X.K C Dc [f1, f2]) (iC : findIn X.K (.ref C) "__init__" = some (some (.ref fI))) (tI : typeIn X.K (.ref fI) = some (.type "function")) (F1 : FnOk X.prog X.w X.K X.mg X.base (L2.CX X.prog X.w) k fI fd ps (sp2 X.K Dc f1 f2)) (hr : Room (k + 1) X.A)
    (hb : Binds X.K fd ps []) (hg : Gl X x) (hm : X.mg x = some (.ref C)) (ha : PA X (e :: es) (TAof S X W fa)) (ga : S.g.at_ c = C) (gf : S.g.fs c = [f1, f2]) (nd : [f1, f2].Nodup)
    (hdb : (x == ("__debug__" : Str)) = false := by decide) (he : starEach (e :: es) X.env = (false, eval e X.env) :: starEach es X.env := by rfl) (hpl : (backTo pos (starEach es X.env)).any (·.1) = false := by rfl) :
    PS X (.Raise (some (.Call (.Name x p) (e :: es) [] pos)) none pos') (TSof S X W (gRaise c 2 fa)) :=
  s_raise hc tk (PMk.weak (pmk_oex T.oex iC tI F1 hr hb .nil passL hg hm ha hdb he hpl) fun σ H Q h => mk2_imp T TAof.mono h) ga gf nd
end
end
end MP

set_option maxRecDepth 100000
set_option maxHeartbeats 2000000
/-! MX4: try with several clauses, some of them with a name. -/
namespace MP
open PySem PySem.Spec PyProof.Rows L2

def noName (D : Ends) (i : Nat) : Ends := { nx := fun σ H => D.nx (σ.set i none) H, rt := D.rt, bk := fun σ H => D.bk (σ.set i none) H, ct := fun σ H => D.ct (σ.set i none) H }
structure Cl where
  c : Value
  i : Option Nat
  ts : Addr → Value → Option Addr → TS
/-- what the clauses wish -/
def wCl (K : PySem.W.Frag) (Wout : WX) (D : Ends) : List Cl → WX
  | [] => Wout
  | l :: r => fun cls d σ H => ∃ b, PySem.W.exmOne K cls l.c = some b ∧ (b = true → ∀ a, H a = none → match l.i with
      | none => l.ts a cls d D σ H
      | some i => l.ts a cls d (noName D i) (σ.set i (some (.ref a))) H) ∧ (b = false → wCl K Wout D r cls d σ H)
/-- a suite, whatever exception it is that was caught -/
def Suite (X : Cx) (body : List Stmt) (ts : Addr → Value → Option Addr → TS) : Prop := ∀ (a : Addr) (oe : Obj) (cls : Value) (d : Option Addr) (pn : List (Addr × Obj)), Zc cls d oe → (∃ vs, oe.data = .fields vs) → PSs (X.suite a ((a, oe) :: pn)) body (ts a cls d)
inductive HCl (X : Cx) : List ExceptHandler → List Cl → Prop
  | nil : HCl X [] []
  | plain {x : Str} {c : Value} {ts : Addr → Value → Option Addr → TS} {b₀ : Stmt} {bs : List Stmt} {q1 q2 : Pos} {hs : List ExceptHandler} {l : List Cl} (hn : Names X x c) (hb : Suite X (b₀ :: bs) ts) (r : HCl X hs l) :
      HCl X (.ExceptHandler (some (.Name x q1)) none (b₀ :: bs) q2 :: hs) (⟨c, none, ts⟩ :: l)
  | named {x n : Str} {c : Value} {i : Nat} {ts : Addr → Value → Option Addr → TS} {b₀ : Stmt} {bs : List Stmt} {q1 q2 : Pos} {hs : List ExceptHandler} {l : List Cl} (hn : Names X x c) (hN : X.N.Nodup) (hi : X.N[i]? = some n) (hl : X.env.kindOf n = some .local) (hb : Suite X (b₀ :: bs) ts) (r : HCl X hs l) :
      HCl X (.ExceptHandler (some (.Name x q1)) (some n) (b₀ :: bs) q2 :: hs) (⟨c, some i, ts⟩ :: l)
section
variable {X : Cx} {body : List Stmt} {h₀ : ExceptHandler} {hds : List ExceptHandler} {l : List Cl} {pos : Pos} {tb : WX → TS} {Wout : WX}
theorem ps_try_cl (hs : X.stack = X.env :: X.outer) (hf : X.env.frame = some X.env.locals) (tk : Takes X Wout)
    (hb : ∀ (W : WX) (pn : List (Addr × Obj)) (xe : Value → Shared → Prop), Takes (X.tr pn xe) W → PassesOwn (model X.prog X.w) X.A X.env xe → PSs (X.tr pn xe) body (tb W)) (hh : HCl X (h₀ :: hds) l) :
    PS X (.Try body (h₀ :: hds) [] [] pos) (fun D σ H => tb (wCl X.K Wout D l) D σ H) := by
  refine ⟨fun pins s σ H D I h => wpAny_Try_except ?_⟩
  have okX := I.ok
  have frX : X.A.frames = some (X.env :: X.outer) := okX.frames.trans (congrArg some hs)
  let caught : Value → Shared → Prop := fun e s₁ => wpAny (model X.prog X.w) X.A (noteFrame e X.env) (fun _ s₂ => wpAny (model X.prog X.w) X.A (setFlight e none) (fun _ s₃ => wpAny (model X.prog X.w) X.A (handleBy e X.env (h₀ :: hds)) (SP X pins D) X.xe s₃) X.xe s₂) X.xe s₁
  have takesC : Takes (X.tr (X.pn ++ pins) caught) (wCl X.K Wout D l) := by
    rintro u s' ⟨a, B, sI, pins', σ', H', cls, d, rfl, J', nb, up, sky, na, os, ag, wish⟩
    have J : Inv X pins σ' H' sI := J'.ofTry okX
    have skyX : Sky B (X.env :: X.outer) a (Zc cls d) X.env.locals s'.heap := hs ▸ sky
    show wpAny (model X.prog X.w) X.A (noteFrame (.ref a) X.env) (fun _ s₂ => wpAny (model X.prog X.w) X.A (setFlight (.ref a) none) (fun _ s₃ => wpAny (model X.prog X.w) X.A (handleBy (.ref a) X.env (h₀ :: hds)) (SP X pins D) X.xe s₃) X.xe s₂) X.xe s'
    refine Sky.land Zc.steady frX hf skyX fun g fl ug => ?_
    have Jg : Inv X pins σ' H' { s' with heap := g } := J.landed nb fl.1 (up.trans ug) os ag
    obtain ⟨oe, vs, heo, hz, hdt⟩ := fl.there
    have offF : a ∉ frs (X.env :: X.outer) := fun hm => by
      obtain ⟨_, o', e', hnf⟩ := fl.2.2.1.mem hm
      rw [heo] at e'; cases e'
      exact hnf _ hdt
    have offL : a ≠ X.env.locals := fun z => offF (List.mem_filterMap.mpr ⟨X.env, List.mem_cons_self, hf.trans (congrArg some z.symm)⟩)
    have offO : a ∉ X.fs := fun hm => by
      obtain ⟨e, he, q⟩ := List.mem_filterMap.mp hm
      exact offF (List.mem_filterMap.mpr ⟨e, List.mem_cons_of_mem _ he, q⟩)
    have Sg := Jg.suite heo hdt na offL offO
    have run : ∀ {hs' : List ExceptHandler} {l' : List Cl}, HCl X hs' l' → wCl X.K Wout D l' cls d σ' H' → wpAny (model X.prog X.w) X.A (handleBy (.ref a) X.env hs') (SP X pins D) X.xe { s' with heap := g } := by
      intro hs' l' hk
      induction hk with
      | nil =>
        intro wl
        refine wpAny_handleBy_nil ?_
        obtain ⟨k1, k2, k3, o1, v1, T, oT, t1, e1, z1, d1, f1, rest⟩ := id fl
        unfold PySem.passOn
        refine wpAny_bind (wpAny_field e1 d1 f1 ?_)
        rw [if_neg (show ¬ ((Value.ref T == Value.none) = true) from by simp)]
        have on : wpAny (model X.prog X.w) X.A (setFlight (.ref a) X.env.frame) (fun _ s4 => wpAny (model X.prog X.w) X.A (throw (.ref a) : Sem Flow) (SP X pins D) X.xe s4) X.xe { s' with heap := g } := by
          rw [hf]
          exact HandSPX.setFlight_upZ fl fun g4 hh4 u4 => wpAny_throw (tk _ _ ⟨a, B, sI, pins, σ', H', cls, d, rfl, J, nb, (up.trans ug).trans u4, .inr (.inr (hs ▸ hh4)), na, os, ag, wl⟩)
        first
          | exact wpAny_bind (wpAny_pure (wpAny_bind on))
          | exact wpAny_bind on
      | @plain x c ts b₀ bs q1 q2 hs2 l2 hn hsu r ih =>
        rintro ⟨b, hb1, hyes, hno⟩
        refine wpAny_handleBy_cons (codeAny_handlers_test ?_) (by intro q; cases q)
        have LT : PySem.W.Looks (model X.prog X.w) g (typeOf (.ref a)) cls := fun A Q E s k q => wpAny_typeOf_ref (k _ _ heo) (hz.1 ▸ q)
        have LM := PySem.W.exm_one (M := model X.prog X.w) Jg.kIn LT hb1
        have nameIs : ∀ {Q : Value → Shared → Prop} {E : Value → Shared → Prop}, Q c { s' with heap := g } → wpAny (model X.prog X.w) (X.A.mark (some (.ref a))) (eval (.Name x q1) X.env) Q E { s' with heap := g } := fun {Q E} q => by
          obtain ⟨hg, hdb, hm | ⟨hm, hv, hnn⟩⟩ := hn
          · exact ld_glob (X := X.suite a ((a, oe) :: (X.pn ++ pins))) Sg hg hm q hdb
          · exact ld_blt (X := X.suite a ((a, oe) :: (X.pn ++ pins))) Sg hg hm hv q hnn hdb
        refine nameIs (LM.here ?_)
        cases b with
        | false => exact (show wpAny _ X.A (handleBy (.ref a) X.env hs2) _ _ _ from ih (hno rfl))
        | true =>
          refine codeAny_handlers_suite (HandSPX.lands_againZ fl fun g4 fl4 u4 => ?_)
          have J4 : Inv X pins σ' H' { s' with heap := g4 } := J.landed nb fl4.1 ((up.trans ug).trans u4) os ag
          obtain ⟨o4, v4, e4, z4, d4⟩ := fl4.there
          refine wpAny_mono ((hsu a o4 cls d (X.pn ++ pins) z4 ⟨_, d4⟩).run [] _ _ H' _ (J4.suite e4 d4 na offL offO) (hyes rfl a na)) (fun f s6 hsp => ?_) fun _ _ z => False.elim z
          cases f with
          | next => obtain ⟨σ6, H6, S6, q6⟩ := hsp; exact ⟨_, _, S6.unsuite okX, q6⟩
          | brk => obtain ⟨σ6, H6, S6, q6⟩ := hsp; exact ⟨_, _, S6.unsuite okX, q6⟩
          | cont => obtain ⟨σ6, H6, S6, q6⟩ := hsp; exact ⟨_, _, S6.unsuite okX, q6⟩
          | ret u => obtain ⟨v6, σ6, H6, S6, r6, q6⟩ := hsp; exact ⟨_, _, _, S6.unsuite okX, r6, q6⟩
      | @named x n c i ts b₀ bs q1 q2 hs2 l2 hn hN hi hln hsu r ih =>
        rintro ⟨b, hb1, hyes, hno⟩
        refine wpAny_handleBy_cons (codeAny_handlers_test ?_) (by intro q; cases q)
        have LT : PySem.W.Looks (model X.prog X.w) g (typeOf (.ref a)) cls := fun A Q E s k q => wpAny_typeOf_ref (k _ _ heo) (hz.1 ▸ q)
        have LM := PySem.W.exm_one (M := model X.prog X.w) Jg.kIn LT hb1
        have nameIs : ∀ {Q : Value → Shared → Prop} {E : Value → Shared → Prop}, Q c { s' with heap := g } → wpAny (model X.prog X.w) (X.A.mark (some (.ref a))) (eval (.Name x q1) X.env) Q E { s' with heap := g } := fun {Q E} q => by
          obtain ⟨hg, hdb, hm | ⟨hm, hv, hnn⟩⟩ := hn
          · exact ld_glob (X := X.suite a ((a, oe) :: (X.pn ++ pins))) Sg hg hm q hdb
          · exact ld_blt (X := X.suite a ((a, oe) :: (X.pn ++ pins))) Sg hg hm hv q hnn hdb
        refine nameIs (LM.here ?_)
        cases b with
        | false => exact (show wpAny _ X.A (handleBy (.ref a) X.env hs2) _ _ _ from ih (hno rfl))
        | true =>
          refine codeAny_handlers_suite_as (HandSPX.lands_againZ fl fun g4 fl4 u4 => ?_)
          have J4 : Inv X pins σ' H' { s' with heap := g4 } := J.landed nb fl4.1 ((up.trans ug).trans u4) os ag
          obtain ⟨o4, v4, e4, z4, d4⟩ := fl4.there
          refine store_ok (X := X.suite a ((a, o4) :: (X.pn ++ pins))) (v := .ref a) (J4.suite e4 d4 na offL offO) hN hi (.inl hln) rfl (fun s5 S5 => ?_) (.inr hln)
          refine wpAny_mono ((hsu a o4 cls d (X.pn ++ pins) z4 ⟨_, d4⟩).run [] s5 _ H' _ S5 (hyes rfl a na)) (fun f s6 hsp => ?_) fun _ _ z => False.elim z
          have goes : ∀ {σ6 : L2.St} {H6 : Hp} {Q : Shared → Prop}, Inv (X.suite a ((a, o4) :: (X.pn ++ pins))) [] σ6 H6 s6 → (∀ s7, Inv X pins (σ6.set i none) H6 s7 → Q s7) →
              wpAny (model X.prog X.w) X.A (do bindName X.env n .none; unbindBehindTheSuite X.env n q2) (fun _ s7 => Q s7) X.xe s6 := fun {σ6 H6 Q} S6 hq => gone_ok (S6.unsuite okX) hN hi hln hq
          cases f with
          | next => obtain ⟨σ6, H6, S6, q6⟩ := hsp; exact goes S6 fun s7 J7 => ⟨_, _, J7, q6⟩
          | brk => obtain ⟨σ6, H6, S6, q6⟩ := hsp; exact goes S6 fun s7 J7 => ⟨_, _, J7, q6⟩
          | cont => obtain ⟨σ6, H6, S6, q6⟩ := hsp; exact goes S6 fun s7 J7 => ⟨_, _, J7, q6⟩
          | ret u => obtain ⟨v6, σ6, H6, S6, r6, q6⟩ := hsp; exact goes S6 fun s7 J7 => ⟨_, _, _, J7, r6, q6⟩
    exact run hh wish
  refine wpAny_mono ((hb (wCl X.K Wout D l) (X.pn ++ pins) caught takesC PassesOwn.looking).run [] s σ H D (I.toTry _) h) (fun f s1 hsp => ?_) fun e s1 he => he
  cases f with
  | next => obtain ⟨σ', H', J', q⟩ := hsp; exact wpAny_execs_nil ⟨σ', H', J'.ofTry okX, q⟩
  | brk => obtain ⟨σ', H', J', q⟩ := hsp; exact ⟨σ', H', J'.ofTry okX, q⟩
  | cont => obtain ⟨σ', H', J', q⟩ := hsp; exact ⟨σ', H', J'.ofTry okX, q⟩
  | ret u => obtain ⟨v, σ', H', J', r, q⟩ := hsp; exact ⟨v, σ', H', J'.ofTry okX, r, q⟩
end
end MP

set_option maxRecDepth 100000
set_option maxHeartbeats 1000000
/-! MX5: try, by the interpreter's outcomes. -/
namespace MP
open PySem PySem.Spec PyProof.Rows L2

/-- a clause: which classes it takes; what its suite does -/
inductive HD where
  /-- its suite does not look at the exception -/
  | any (cs : Nat → Bool) (s : Env → St → SO)
  /-- its suite looks at the fields of the class c0; the name's slot -/
  | fld (cs : Nat → Bool) (c0 i : Nat) (f : List D → St → SO)
  /-- nothing is told of its suite -/
  | no (cs : Nat → Bool)
def SO.unname (i : Nat) : SO → SO
  | .nx ρ st => .nx (ρ.set i none) st
  | .brk ρ st => .brk (ρ.set i none) st
  | .cont ρ st => .cont (ρ.set i none) st
  | .exc _ _ _ => .bad
  | x => x
def SO.noX : SO → SO
  | .exc _ _ _ => .bad
  | x => x
def pick (n c : Nat) (ds : List D) (st : St) : List HD → SO
  | [] => .exc c ds st
  | .any cs s :: r => if cs c = true then (s (List.replicate n none) st).noX else pick n c ds st r
  | .fld cs c0 i f :: r => if cs c = true then (if c = c0 then (f ds st).unname i else .bad) else pick n c ds st r
  | .no cs :: r => if cs c = true then .bad else pick n c ds st r
def gTry (n nc : Nat) (body : Env → St → SO) (hs : List HD) : Env → St → SO := fun ρ st => match body ρ st with
  | .exc c ds st1 => if c < nc then pick n c ds st1 hs else .bad
  | x => x

theorem PSs.bad {X : Cx} {b : List Stmt} : PSs X b (fun _ _ _ => False) := ⟨fun _ _ _ _ _ _ h => h.elim⟩
theorem PSs.pre {X : Cx} {b : List Stmt} {t : TS} {p : Prop} (h : p → PSs X b t) : PSs X b (fun D σ H => p ∧ t D σ H) := ⟨fun pins s σ H D I q => (h q.1).run pins s σ H D I q.2⟩

section
variable {S : Se} {X : Cx}
/-- the exception of the class c0 stands at a, its dict at d -/
def envX (n i a d : Nat) (ns : List Str) (ds : List D) : Env := (List.replicate n none).set i (some (.xo a d ns ds))
/-- the clauses of the text, as told -/
inductive HdR (S : Se) (X : Cx) (nc : Nat) : List ExceptHandler → List HD → Prop
  | nil : HdR S X nc [] []
  | any {x : Str} {cv : Value} {cs : Nat → Bool} {s : Env → St → SO} {b₀ : Stmt} {bs : List Stmt} {q1 q2 : Pos} {hs : List ExceptHandler} {l : List HD} (hn : Names X x cv) (hc : ∀ c, c < nc → PySem.W.exmOne X.K (.ref (S.g.at_ c)) cv = some (cs c))
      (hb : ∀ (a : Addr) (oe : Obj) (pn : List (Addr × Obj)), PSs (X.suite a ((a, oe) :: pn)) (b₀ :: bs) (TSof S (X.suite a ((a, oe) :: pn)) (fun _ _ _ _ => False) s)) (r : HdR S X nc hs l) : HdR S X nc (.ExceptHandler (some (.Name x q1)) none (b₀ :: bs) q2 :: hs) (.any cs s :: l)
  | fld {x n : Str} {cv : Value} {cs : Nat → Bool} {c0 i : Nat} {f : List D → St → SO} {s : Addr → Addr → Env → St → SO} {b₀ : Stmt} {bs : List Stmt} {q1 q2 : Pos} {hs : List ExceptHandler} {l : List HD} (hn : Names X x cv) (hc : ∀ c, c < nc → PySem.W.exmOne X.K (.ref (S.g.at_ c)) cv = some (cs c))
      (hN : X.N.Nodup) (hi : X.N[i]? = some n) (hl : X.env.kindOf n = some .local) (hf : S.g.fs c0 ≠ [])
      (hb : ∀ (a d : Addr) (oe : Obj) (pn : List (Addr × Obj)), Zc (.ref (S.g.at_ c0)) (some d) oe → (∃ vs, oe.data = .fields vs) → PSs (X.suite a ((a, oe) :: pn)) (b₀ :: bs) (TSof S (X.suite a ((a, oe) :: pn)) (fun _ _ _ _ => False) (s a d)))
      (he : ∀ (a d : Addr) (ds : List D) (st : St), ds.length = (S.g.fs c0).length → s a d (envX X.N.length i a d (S.g.fs c0) ds) st = f ds st) (r : HdR S X nc hs l) : HdR S X nc (.ExceptHandler (some (.Name x q1)) (some n) (b₀ :: bs) q2 :: hs) (.fld cs c0 i f :: l)
  | noA {x n : Str} {cv : Value} {cs : Nat → Bool} {i : Nat} {b₀ : Stmt} {bs : List Stmt} {q1 q2 : Pos} {hs : List ExceptHandler} {l : List HD} (hn : Names X x cv) (hc : ∀ c, c < nc → PySem.W.exmOne X.K (.ref (S.g.at_ c)) cv = some (cs c))
      (hN : X.N.Nodup) (hi : X.N[i]? = some n) (hl : X.env.kindOf n = some .local) (r : HdR S X nc hs l) : HdR S X nc (.ExceptHandler (some (.Name x q1)) (some n) (b₀ :: bs) q2 :: hs) (.no cs :: l)
/-- an exception's dict is known from now on -/
theorem Rel.tellX {K : PySem.W.Frag} {T : NTabs} {m : List Addr} {F H : Hp} {st : St} (r : Rel K T m F st H) {a : Addr} {fs : List (Str × V)} (ha : a ∉ m) (hF : F a = none) (hH : H a = some (.xd fs)) :
    Mono m F m (upd F a (.xd fs)) ∧ Rel K T m (upd F a (.xd fs)) st H ∧ Step m F H m (upd F a (.xd fs)) H := by
  have M : Mono m F m (upd F a (.xd fs)) := ⟨same_upd hF _, fun _ _ h => h⟩
  refine ⟨M, ⟨fun b u e => ?_, fun b u e => ?_, r.len, r.nd, fun b hb => ?_, fun i u b h1 h2 => (r.obj i u b h1 h2).mono M, r.low, r.tabs⟩, ⟨M, fun _ _ h _ _ => h, fun _ h => .inl h, fun b o e => ?_⟩⟩
  · by_cases hb : b = a
    · subst hb; rw [upd_same] at e; cases e; exact hH
    · rw [upd_ne hb] at e; exact r.sub b u e
  · by_cases hb : b = a
    · subst hb; rw [upd_same] at e; cases e; exact fun ps z => by cases z
    · rw [upd_ne hb] at e; exact r.ntb b u e
  · have : b ≠ a := fun z => ha (z ▸ hb)
    rw [upd_ne this]; exact r.sep b hb
  · by_cases hb : b = a
    · subst hb; rw [upd_same] at e; cases e; exact .inr (.inr ⟨hH, fun z => by cases z⟩)
    · rw [upd_ne hb] at e; exact .inl e
theorem EnvR.none {K : PySem.W.Frag} {m : List Addr} {F : Hp} {σ : L2.St} : EnvR K m F σ (List.replicate σ.length Option.none) := by
  refine ⟨by rw [List.length_replicate], fun i d h => ?_⟩
  rw [List.getElem?_replicate] at h
  split at h <;> cases h
theorem EnvR.unset {K : PySem.W.Frag} {m : List Addr} {F : Hp} {σ : L2.St} {ρ : Env} (E : EnvR K m F σ ρ) (i : Nat) : EnvR K m F (σ.set i Option.none) (ρ.set i Option.none) := by
  refine ⟨by rw [List.length_set, List.length_set]; exact E.len, fun j e h => ?_⟩
  by_cases hij : i = j
  · subst hij
    by_cases hl : i < ρ.length
    · rw [List.getElem?_set_self hl] at h; cases h
    · rw [List.getElem?_eq_none (by rw [List.length_set]; omega)] at h; cases h
  · rw [List.getElem?_set_ne hij] at h ⊢
    exact E.get j e h
theorem spost_noX {W W' : WX} {n : Nat} {D : Ends} {m : List Addr} {F H : Hp} {o : SO} (h : SPost S X W n D m F H o.noX) : SPost S X W' n D m F H o := by
  cases o with
  | exc c fs st => exact h.elim
  | nx ρ st => exact h
  | ret d st => exact h
  | brk ρ st => exact h
  | cont ρ st => exact h
  | bad => exact h
theorem spost_unname {W W' : WX} {n i : Nat} {D : Ends} {m : List Addr} {F H : Hp} {o : SO} (h : SPost S X W n D m F H (o.unname i)) : SPost S X W' n (noName D i) m F H o := by
  cases o with
  | exc c fs st => exact h.elim
  | nx ρ st => exact fun σ' m' F' H' hn s r E => h (σ'.set i Option.none) m' F' H' (by rw [List.length_set]; exact hn) s r (E.unset i)
  | ret d st => exact h
  | brk ρ st => exact fun σ' m' F' H' hn s r E => h (σ'.set i Option.none) m' F' H' (by rw [List.length_set]; exact hn) s r (E.unset i)
  | cont ρ st => exact fun σ' m' F' H' hn s r E => h (σ'.set i Option.none) m' F' H' (by rw [List.length_set]; exact hn) s r (E.unset i)
  | bad => exact h
/-- the clauses' readings -/
theorem hd_cl {nc : Nat} {hs : List ExceptHandler} {l : List HD} (h : HdR S X nc hs l) : ∃ cl : List Cl, HCl X hs cl ∧ ∀ (W : WX) (D : Ends) (c : Nat) (ds : List MP.D) (m : List Addr) (F H : Hp) (st : St) (σ : L2.St) (cls : Value) (dx : Option Addr), c < nc → σ.length = X.N.length → Rel X.K S.T m F st H → XR S.g X.K m F c ds cls dx H →
    SPost S X W σ.length D m F H (pick X.N.length c ds st l) → wCl X.K W D cl cls dx σ H := by
  induction h with
  | nil => exact ⟨[], .nil, fun W D c ds m F H st σ cls dx hc hl r x h => h σ m F H (Step.refl _ _ _) r rfl cls dx x⟩
  | @any x cv cs s b₀ bs q1 q2 hs l hn hcs hb hr ih =>
    obtain ⟨cl, h1, h2⟩ := ih
    refine ⟨⟨cv, none, fun a cls d => TSof S X (fun _ _ _ _ => False) s⟩ :: cl, .plain hn (fun a oe cls d pn _ _ => hb a oe pn) h1, fun W D c ds m F H st σ cls dx hc hl r xr h => ?_⟩
    refine ⟨cs c, by rw [xr.1]; exact hcs c hc, fun e a na => ?_, fun e => ?_⟩
    · unfold pick at h
      rw [if_pos e] at h
      exact ⟨_, m, F, st, EnvR.none, r, spost_noX (by rw [hl] at h ⊢; exact h)⟩
    · unfold pick at h
      rw [if_neg (by rw [e]; simp)] at h
      exact h2 W D c ds m F H st σ cls dx hc hl r xr h
  | @fld x n cv cs c0 i f s b₀ bs q1 q2 hs l hn hcs hN hi hln hf hb he hr ih =>
    obtain ⟨cl, h1, h2⟩ := ih
    refine ⟨⟨cv, some i, fun a cls d D σ H => ∃ dd, (cls = .ref (S.g.at_ c0) ∧ d = some dd) ∧ TSof S X (fun _ _ _ _ => False) (s a dd) D σ H⟩ :: cl, .named hn hN hi hln (fun a oe cls d pn hz hv => ?_) h1, fun W D c ds m F H st σ cls dx hc hl r xr h => ?_⟩
    · refine ⟨fun pins s' σ H D I ⟨dd, ⟨e1, e2⟩, q⟩ => ?_⟩
      subst e1; subst e2
      exact (hb a dd oe pn hz hv).run pins s' σ H D I q
    · refine ⟨cs c, by rw [xr.1]; exact hcs c hc, fun e a na => ?_, fun e => ?_⟩
      · unfold pick at h
        rw [if_pos e] at h
        split at h
        · rename_i ec
          subst ec
          obtain ⟨x1, x2⟩ := xr
          rcases x2 with ⟨z, _⟩ | ⟨dd, fs, d1, d2, d3, d4, d5, vs, d6, d7⟩
          · exact absurd z hf
          · obtain ⟨M, r2, s2⟩ := r.tellX d3 d4 d2
            refine ⟨dd, ⟨x1, d1⟩, envX X.N.length i a dd (S.g.fs c) ds, m, _, st, ?_, r2, ?_⟩
            · unfold envX
              rw [← hl]
              exact EnvR.none.set (.xo upd_same d7 (d6.mono M)) i
            · rw [he a dd ds st d5.symm]
              have h3 := SPost.later (K := X.K) s2 r2 h
              rw [List.length_set]
              exact spost_unname h3
        · exact h.elim
      · unfold pick at h
        rw [if_neg (by rw [e]; simp)] at h
        exact h2 W D c ds m F H st σ cls dx hc hl r xr h
  | @noA x n cv cs i b₀ bs q1 q2 hs l hn hcs hN hi hln hr ih =>
    obtain ⟨cl, h1, h2⟩ := ih
    refine ⟨⟨cv, some i, fun _ _ _ _ _ _ => False⟩ :: cl, .named hn hN hi hln (fun a oe cls d pn hz hv => PSs.bad) h1, fun W D c ds m F H st σ cls dx hc hl r xr h => ?_⟩
    refine ⟨cs c, by rw [xr.1]; exact hcs c hc, fun e a na => ?_, fun e => ?_⟩
    · unfold pick at h
      rw [if_pos e] at h
      exact h
    · unfold pick at h
      rw [if_neg (by rw [e]; simp)] at h
      exact h2 W D c ds m F H st σ cls dx hc hl r xr h
end
section
variable {S : Se} {X : Cx} {W : WX}
theorem s_try {nc : Nat} {body : List Stmt} {h₀ : ExceptHandler} {hds : List ExceptHandler} {l : List HD} {pos : Pos} {f : Env → St → SO} (hs : X.stack = X.env :: X.outer) (hf : X.env.frame = some X.env.locals) (tk : Takes X W)
    (hb : ∀ (W' : WX) (pn : List (Addr × Obj)) (xe : Value → Shared → Prop), Takes (X.tr pn xe) W' → PassesOwn (model X.prog X.w) X.A X.env xe → PSs (X.tr pn xe) body (TSof S (X.tr pn xe) W' f)) (hh : HdR S X nc (h₀ :: hds) l) :
    PS X (.Try body (h₀ :: hds) [] [] pos) (TSof S X W (gTry X.N.length nc f l)) := by
  obtain ⟨cl, h1, h2⟩ := hd_cl hh
  refine ⟨fun pins s σ H D I q => ?_⟩
  have hlen := I.len
  refine (ps_try_cl (pos := pos) (tb := fun W' => TSof S X W' f) hs hf tk hb h1).run pins s σ H D I ?_
  obtain ⟨ρ, m, F, st, E, r, h⟩ := q
  refine ⟨ρ, m, F, st, E, r, ?_⟩
  unfold gTry at h
  cases e : f ρ st with
  | exc c ds st1 =>
    rw [e] at h
    have h : SPost S X W σ.length D m F H (if c < nc then pick X.N.length c ds st1 l else .bad) := h
    split at h
    · rename_i hc
      intro σ' m' F' H' s' r' hl' cls dx xr
      refine h2 W D c ds m' F' H' st1 σ' cls dx hc (hl'.trans hlen) r' xr ?_
      rw [hl']
      exact SPost.later (K := X.K) s' r' h
    · exact h.elim
  | nx ρ' st' => rw [e] at h; exact h
  | ret d st' => rw [e] at h; exact h
  | brk ρ' st' => rw [e] at h; exact h
  | cont ρ' st' => rw [e] at h; exact h
  | bad => rw [e] at h; exact h

/-! ### err.f in a suite -/
def fXf (i : Nat) (a d : Addr) (f : Str) : Env → St → Out D := fun ρ st => match ρ[i]? with
  | some (some (.xo a' d' ns ds)) => if a' = a ∧ d' = d then (match ns.idxOf? f with
      | some j => (match ds[j]? with
        | some x => .ok x st
        | none => .bad)
      | none => .bad) else .bad
  | _ => .bad
theorem idxOf_get {α : Type} [BEq α] [LawfulBEq α] {x : α} : ∀ {l : List α} {j : Nat}, l.idxOf? x = some j → l[j]? = some x
  | [], j, h => by cases h
  | y :: l, j, h => by
    rw [List.idxOf?_cons] at h
    split at h
    · rename_i e
      cases h
      rw [beq_iff_eq.mp e]; rfl
    · cases q : l.idxOf? x with
      | none => rw [q] at h; cases h
      | some k =>
        rw [q] at h; cases h
        show l[k]? = some x
        exact idxOf_get q
theorem s_xf {i : Nat} {a d C : Addr} {oe : Obj} {pn : List (Addr × Obj)} {x f : Str} {pos p : Pos} (T : XfC X.K C) (hno : PySem.W.findIn X.K (.ref C) f = some none) (hz : Zc (.ref C) (some d) oe) (hf : ∃ vs, oe.data = .fields vs)
    (hN : X.N[i]? = some x) (hv : Vis X.env.scope x) (hd : (x == ("__debug__" : Str)) = false) (hcd : (x == ("__classdict__" : Str)) = false) (hb : attributeBase (.Name x p) f X.env (eval (.Name x p) X.env) = eval (.Name x p) X.env) :
    PE (X.suite a ((a, oe) :: pn)) (.Attribute (.Name x p) f pos) (TEof S (X.suite a ((a, oe) :: pn)) W (fXf i a d f)) := by
  refine (pe_xf (te := tVar i) T hno hz hf (pe_var hN hv hd hcd) hb).weak fun σ H Q ⟨ρ, m, F, st, E, r, h⟩ => ?_
  unfold fXf at h
  split at h
  · rename_i a' d' ns ds e
    obtain ⟨v, hs, rv⟩ := E.get i _ e
    split at h
    · rename_i ead
      obtain ⟨rfl, rfl⟩ := ead
      split at h
      · rename_i j ej
        split at h
        · rename_i y ey
          cases rv with
          | xo hF hl rs =>
            obtain ⟨w, hw, rw'⟩ := rs.get ey
            exact ⟨_, hs, rfl, rfl, _, _, w, rfl, r.sub _ _ hF, hl j f w (idxOf_get ej) hw, h.now r w rw'⟩
        · exact h.elim
      · exact h.elim
    · exact h.elim
  · exact h.elim
end
end MP

set_option maxRecDepth 100000
set_option maxHeartbeats 1000000
/-! MX6: f(lambda: ..), f the def that hears what comes of it. -/
namespace MP
open PySem PySem.Spec PyProof.Rows L2 LamX

theorem Rel.extN {K : PySem.W.Frag} {T : NTabs} {m : List Addr} {F H H1 : Hp} {st : St} (r : Rel K T m F st H) (e : ExtN H H1) (t : Tabs T H1) : Rel K T m F st H1 := by
  refine ⟨fun b o h => e b o (r.sub b o h) (r.ntb b o h), r.ntb, r.len, r.nd, r.sep, fun i o a h1 h2 => ?_, r.low, t⟩
  have z := r.obj i o a h1 h2
  generalize hh : H a = ha at z
  cases z with
  | lst rs =>
    rw [e a _ hh fun ps z => by cases z]
    exact .lst rs
  | ins e2 rs =>
    rw [e a _ hh fun ps z => by cases z]
    exact .ins e2 rs
theorem Step.extN {m : List Addr} {F H H1 : Hp} (e : ExtN H H1) : Step m F H m F H1 := ⟨Mono.refl m F, fun b o h _ n => e b o h n, fun _ h => .inl h, fun _ _ h => .inl h⟩

def heardB (n nc : Nat) (told : List Nat) (l : List HD) (o : Out D) : Out D := match o with
  | .ok d st => .ok (.tup [.str told, d]) st
  | .exc c ds st => if c < nc then (match pick n c ds st l with
    | .ret d st2 => .ok d st2
    | .nx _ st2 => .ok .non st2
    | _ => .bad) else .bad
  | .bad => .bad
def fHeard (n nc : Nat) (told : List Nat) (l : List HD) (fb : Env → St → Out D) : Env → St → Out D := fun ρ st => heardB n nc told l (fb ρ st)
section
variable {S : Se} {X : Cx} {W : WX}
/-- what is wished of an exception of the lambda -/
def EH (S : Se) (X : Cx) (n nc : Nat) (l : List HD) (Q : VK) : XK := fun cls d H' => ∃ (c : Nat) (ds : List D) (m : List Addr) (F : Hp) (st : St), c < nc ∧ Rel X.K S.T m F st H' ∧ XR S.g X.K m F c ds cls d H' ∧
  SPost S X (fun _ _ _ _ => False) n { nx := fun _ H' => Q .non H', rt := Q } m F H' (pick n c ds st l)
def QH (told : Str) (Q : VK) : VK := fun v H1 => [V.str told, v].length ≤ sizeLine ∧ ∀ p, H1 p = none → Q (.ref p) (upd H1 p (.tup [.str told, v]))
def TTH (S : Se) (X : Cx) (n nc : Nat) (told : Str) (l : List HD) : (XK → Hp → VK → Prop) → Hp → VK → Prop := fun tl H Q => tl (EH S X n nc l Q) H (QH told Q)
theorem heard_gives {Ng : List Str} {x a q told : Str} {sg : Scope} {g : Addr} {cdg : Value} {j nc : Nat} {p1 p2 p3 p4 p5 p6 : Pos} {x1 : Nat} {h₀ : ExceptHandler} {hds : List ExceptHandler} {l : List HD} (h0 : ∀ f : Addr, (L2.start Ng [V.ref f])[0]? = some (some (V.ref f)))
    (hh : ∀ (s : Shared) (H : Hp), HdR S (cxOf C8.CX0 X.prog X.w X.K X.mg X.base Ng x sg g cdg X.A X.stack s H C8.E0).nox nc (h₀ :: hds) l) :
    GivesTo X Ng x sg g cdg [.Try [.Return (some (.Tuple [.Constant (.str told) j p1, .Call (.Name a p2) [] [] p3] x1 p4)) p5] (h₀ :: hds) [] [] p6] a q (TTH S X Ng.length nc told l) := by
  intro f c' s H Q tl act hc h
  obtain ⟨cl, h1, h2⟩ := hd_cl (hh s H)
  refine ⟨_, pss_one (ps_try_cl (X := (cxOf C8.CX0 X.prog X.w X.K X.mg X.base Ng x sg g cdg X.A X.stack s H C8.E0).nox)
    (tb := fun W D σ H => ∃ Ech : XK, (∀ cls d σ' H', σ'.length = Ng.length → Ech cls d H' → W cls d σ' H') ∧ σ[0]? = some (some (.ref f)) ∧ H c' = some (CodeO c' q) ∧ tl Ech H (QH told D.rt)) rfl rfl LamX.takes0 (fun W pn xe tk _ => ?_) h1), ?_⟩
  · refine ⟨fun pins s' σ H' D I h' => ?_⟩
    obtain ⟨Ech, hW, e1, e2, e3⟩ := h'
    have tk' : Takes ((cxOf C8.CX0 X.prog X.w X.K X.mg X.base Ng x sg g cdg X.A X.stack s H C8.E0).nox.tr pn xe) (fun cls d σ H => σ.length = Ng.length → W cls d σ H) := fun u s' ⟨a, B, sI, pins, σ, H, cls, d, e, I, nb, up, sky, na, os, ag, w⟩ =>
      tk u s' ⟨a, B, sI, pins, σ, H, cls, d, e, I, nb, up, sky, na, os, ag, w I.len⟩
    have hp := act (fun cls d σ H => σ.length = Ng.length → W cls d σ H) pn xe Ech p2 p3 tk' fun cls d σ' H' z hl => hW _ _ _ _ hl z
    have hq := pss_one (ps_ret (pos := p5) (pe_tup (pos := p4) (x1 := x1) (pa_cons (pe_str (x := told) (j := j) (pos := p1)) (pa_cons hp pa_nil))))
    exact hq.run pins s' σ H' D I ⟨e1, e2, e3⟩
  · exact ⟨EH S X Ng.length nc l Q, fun cls d σ' H' hl ⟨c, ds, m, F, st, hc, r, xr, hp⟩ => h2 _ _ c ds m F H' st σ' cls d hc hl r xr (by rw [hl]; exact hp), h0 f, hc, h⟩
theorem heard_in {n nc : Nat} {told : Str} {l : List HD} {fb : Env → St → Out D} {σ : L2.St} {H : Hp} {Q : VK} (h : TEof S X W (fHeard n nc told.cps.toList l fb) σ H Q) (hs : sizeLine ≥ 2) : tLam S.T (TTH S X n nc told l) (fun E => TEof S X (WE0 E) fb) σ H Q := by
  obtain ⟨ρ, m, F, st, E, r, h⟩ := h
  refine ⟨r.tabs, fun H1 eN t1 => ⟨ρ, m, F, st, E, r.extN eN t1, ?_⟩⟩
  have s1 : Step m F H m F H1 := Step.extN eN
  unfold fHeard at h
  cases e : fb ρ st with
  | ok d st1 =>
    rw [e] at h
    intro m' F' H' s' r' v rv
    refine ⟨hs, fun p hp => ?_⟩
    obtain ⟨s2, r2⟩ := r'.frz (o := .tup [.str told, v]) hp fun ps z => by cases z
    refine h m' _ _ ((s1.trans (r.extN eN t1) s').trans r' s2) r2 (.ref p) (.tup (.inl (.inl upd_same)) (.cons ?_ (.cons (rv.mono s2.mono) .nil)))
    exact .str told.cps.toList
  | exc c ds st1 =>
    rw [e] at h
    intro m' F' H' s' r' cls dx xr
    have h : Post X.K S.T m F H _ _ (if c < nc then (match pick n c ds st1 l with
      | .ret d st2 => .ok d st2
      | .nx _ st2 => .ok .non st2
      | _ => .bad) else .bad) := h
    split at h
    · rename_i hc
      refine ⟨c, ds, m', F', st1, hc, r', xr, ?_⟩
      have s2 := s1.trans (r.extN eN t1) s'
      cases e2 : pick n c ds st1 l with
      | ret d st2 => rw [e2] at h; exact fun v m2 F2 H2 s3 r3 rv => h m2 F2 H2 (s2.trans r' s3) r3 v rv
      | nx ρ2 st2 => rw [e2] at h; exact fun σ2 m2 F2 H2 _ s3 r3 _ => h m2 F2 H2 (s2.trans r' s3) r3 .non .non
      | exc c2 ds2 st2 => rw [e2] at h; exact h.elim
      | brk ρ2 st2 => rw [e2] at h; exact h.elim
      | cont ρ2 st2 => rw [e2] at h; exact h.elim
      | bad => rw [e2] at h; exact h.elim
    · exact h.elim
  | bad => rw [e] at h; exact h.elim
theorem s_heard {tl : List Nat} {x a told : Str} (htl : told.cps.toList = tl) {g c P : Addr} {k nc : Nat} {pg : Arguments} {h₀ : ExceptHandler} {hds : List ExceptHandler} {l : List HD} {sg : Scope} {dV kV doc pm cdv ct oc : Value} {an od : Option Addr} {osl : Array (Option Value)} {Ng : List Str} {j x1 : Nat} {q1 q2 q3 q4 q5 q6 : Pos}
    {params : Arguments} {body : Expr} {scope : Scope} {fb : Env → St → Out D} {p lpos pos : Pos} (hg : Gl X x) (hm : X.mg x = some (.ref g)) (hk : PySem.W.keepIn X.K (.ref g) = true)
    (lk : X.K.lookup g = some ⟨oc, od, .func (PySem.W.fnOf x x pg [.Try [.Return (some (.Tuple [.Constant (.str told) j q1, .Call (.Name a q2) [] [] q3] x1 q4)) q5] (h₀ :: hds) [] [] q6] sg dV kV doc pm an cdv ct), osl⟩) (hcg : PySem.W.codeIn X.K cdv x = true)
    (hb : L2.Binds X.K (PySem.W.fnOf x x pg [.Try [.Return (some (.Tuple [.Constant (.str told) j q1, .Call (.Name a q2) [] [] q3] x1 q4)) q5] (h₀ :: hds) [] [] q6] sg dV kV doc pm an cdv ct) [a] []) (Sg : FnScope Ng [a] sg) (hNg : Ng[0]? = some a) (hva : Vis sg a)
    (h0 : ∀ f : Addr, (L2.start Ng [V.ref f])[0]? = some (some (V.ref f))) (hh : ∀ (s : Shared) (H : Hp), HdR S (cxOf C8.CX0 X.prog X.w X.K X.mg X.base Ng x sg g cdv X.A X.stack s H C8.E0).nox nc (h₀ :: hds) l)
    (TB : TabB X.base X.mg c P) (hcode : X.env.code = .ref c) (hmT : (P, X.env.qual ++ "<lambda>") ∈ S.T) (hu : ∀ p ∈ S.T, p.1 = P → p.2 = X.env.qual ++ "<lambda>") (hr : Room (k + 2) X.A) (L : LamS X.env.scope scope) (hdef : defaultsOf params X.env = ([], []))
    (hbind : ∀ (q : Str) (cl : List (Str × Addr)) (pm cv ctv : Value), bindArgs (PySem.W.kla_fn "<lambda>" q params body scope cl pm cv ctv) ⟨[], []⟩ = pure [])
    (hbody : ∀ (A : Around) (outer : List PySem.Env) (s : Shared) (H : Hp) (E : XK) (f c' : Addr), Room k (A.deeper (lamEnv X scope s.heap.objs.size f c')) → PE (lamCx X A outer s H E scope f c') body (TEof S (lamCx X A outer s H E scope f c') (WE0 E) fb))
    (hdb : (x == ("__debug__" : Str)) = false := by decide) (hd : (a == ("__debug__" : Str)) = false := by decide) (hcd : (a == ("__classdict__" : Str)) = false := by decide) :
    PE X (.Call (.Name x p) [.Lambda params body scope lpos] [] pos) (TEof S X W (fHeard Ng.length nc tl l fb)) := by
  subst htl
  have z := pe_lamcall (p := p) (lpos := lpos) (pos := pos) (T := S.T) (t := fun E => TEof S X (WE0 E) fb) hg hm hk lk hcg hb Sg hNg hva (heard_gives h0 hh) TB hcode hmT hu hr L hdef hbind hbody hdb hd hcd
  exact z.weak fun σ H Q h => heard_in h (by rw [sizeLine_eq]; decide)
end
end MP

set_option maxRecDepth 100000
set_option maxHeartbeats 1000000
/-! MX7: the end of a law: its def, told by the interpreter, answers yes at every script. -/
namespace MP
open PySem PySem.Spec PyProof.Rows L2 LamX

/-- the first store: nothing in it -/
def st0 : St := ⟨[], []⟩
theorem rs_ints {K : PySem.W.Frag} {m : List Addr} {F : Hp} : ∀ ns : List Int, Rs K m F (ns.map V.int) (ns.map D.int)
  | [] => .nil
  | n :: ns => .cons (.int n) (rs_ints ns)
section
variable {P : Program} {w : World} {K : PySem.W.Frag} {mg mb : Str → Option Value} {S : Se} {k : Nat} {fa a : Addr} {cs : List (Addr × Addr)} {fd : FuncData} {x : Str} {h : List D → St → Out D} {s₁ : Shared} {vs : List Value} {ns : List Int}
/-- the script's object, as the abstract heap may tell it -/
abbrev scr (vs : List Value) : Obj := { cls := .type "list", data := .seq vs.toArray }
abbrev hp0 (K : PySem.W.Frag) (a : Addr) (cs : List (Addr × Addr)) (vs : List Value) (ns : List Int) : Hp := fun b => if b ∈ cs.map (·.2) then some (.tbl #[]) else if b = a ∧ K.lookup a = none then some (.frz (scr vs) (.lst (ns.map V.int))) else none
theorem lawG_call (KX : K.In s₁.heap) (hns : s₁.heap.Ns mainGlobals mg) (hb : s₁.heap.Ns builtinsNs mb) (hbb : ∀ x : Str, x ≠ "__name__" → mb x = bootBuiltins x) (hlim : s₁.heap.NoLimit) (hg : s₁.gens = #[])
    (hT : ∀ p ∈ cs, s₁.heap.get? p.2 = some { cls := .none, data := .fields #[] }) (nT : ∀ p ∈ cs, K.lookup p.2 = none) (C : ∀ p ∈ cs, PySem.W.CodeHd s₁.heap p.1 p.2)
    (hbm : ∃ (bm : Addr) (ob : Obj), mg "__builtins__" = some (.ref bm) ∧ bm ≠ builtinsNs ∧ s₁.heap.get? bm = some ob ∧ ob.cls = .type "module" ∧ ob.dict = some builtinsNs ∧ ob.data = .plain)
    (ha : s₁.heap.get? a = some (scr vs)) (hi : IntsAre vs ns) (hl : ns.length ≤ sizeLine) (hr : Room k callerA)
    (F : ∀ base : Heap, K.In base → base.Ns mainGlobals mg → (∀ p ∈ cs, TabB base mg p.1 p.2) → FnG P w K mg base true k fa fd [x] (spD S K 1 h)) (hbind : ∀ (s : Shared) (u : Value), BindsTo s fd ⟨[u], []⟩ [(x, u)])
    (hST : ∀ p ∈ S.T, ∃ q ∈ cs, q.2 = p.1) (hans : ∃ st, h [.lsk (ns.map D.int)] st0 = .ok (.bl true) st) :
    codeAny (model P w) callerA (.call (.ref fa) ⟨[.ref a], []⟩) (fun r s' => r = .ok (.ret (.bool true)) ∧ OldK s₁.heap s'.heap ∧ s'.os = s₁.os ∧ AllBare s'.gens) s₁ := by
  have rv := vals_ints hi
  have tabAt : ∀ {b : Addr}, b ∈ cs.map (·.2) → s₁.heap.get? b = some { cls := .none, data := .fields #[] } := fun {b} hb => by
    obtain ⟨p, hp, rfl⟩ := List.mem_map.mp hb
    exact hT p hp
  have inT : ∀ p ∈ cs, p.2 ∈ cs.map (·.2) := fun p hp => List.mem_map_of_mem hp
  have aT : a ∉ cs.map (·.2) := fun z => by
    have q := (tabAt z).symm.trans ha
    cases q
  obtain ⟨H, eH⟩ : ∃ H, H = hp0 K a cs vs ns := ⟨_, rfl⟩
  have Htab : ∀ {b : Addr}, b ∈ cs.map (·.2) → H b = some (.tbl #[]) := fun {b} hb => by rw [eH]; exact if_pos hb
  have Hother : ∀ {b : Addr}, b ∉ cs.map (·.2) → H b = none ∨ (b = a ∧ K.lookup a = none ∧ H b = some (.frz (scr vs) (.lst (ns.map V.int)))) := fun {b} hb => by
    rw [eH]
    by_cases hq : b = a ∧ K.lookup a = none
    · exact .inr ⟨hq.1, hq.2, (if_neg hb).trans (if_pos hq)⟩
    · exact .inl ((if_neg hb).trans (if_neg hq))
  have lenV : vs.length = ns.length := hi.length
  have hS : SqL K H a (ns.map V.int) := by
    cases hk : K.lookup a with
    | none => exact .inl (.inr ⟨scr vs, by rw [eH]; exact (if_neg aT).trans (if_pos ⟨rfl, hk⟩)⟩)
    | some o =>
      have e := (KX a o hk).symm.trans ha
      cases e
      exact .inr ⟨_, vs.toArray, _, hk, rfl, rfl, rfl, by rw [List.size_toArray, lenV]; exact hl, by simpa using rv⟩
  have hok : HOk P w H s₁.heap := fun b u z => by
    by_cases hb : b ∈ cs.map (·.2)
    · rw [Htab hb] at z; cases z
      exact tabAt hb
    · rcases Hother hb with q | ⟨rfl, _, q⟩
      · rw [q] at z; cases z
      · rw [q] at z; cases z
        exact ⟨ha, by rw [List.length_map]; exact hl, vs, _, rv, ha⟩
  -- what is no list and no empty table is not tracked
  have free : ∀ {b : Addr} {o : Obj}, s₁.heap.get? b = some o → (∀ v n, o.data ≠ .seq v n) → o.data ≠ .fields #[] → H b = none := fun {b o} e h1 h2 => by
    by_cases hb : b ∈ cs.map (·.2)
    · rw [tabAt hb] at e; cases e
      exact absurd rfl h2
    · rcases Hother hb with q | ⟨rfl, _, _⟩
      · exact q
      · rw [ha] at e; cases e
        exact absurd rfl (h1 _ _)
  have keepNs : ∀ {b : Addr} {m : Str → Option Value}, s₁.heap.Ns b m → (hidT s₁.heap H).Ns b m := fun {b m} ⟨o, es, ep, e, d, r⟩ =>
    ⟨o, es, ep, hidT_get e (free e (fun v n z => by rw [d] at z; cases z) fun z => by rw [d] at z; cases z), d, r⟩
  have KB : K.In (hidT s₁.heap H) := fun b o e => hidT_get (KX b o e) (by
    by_cases hb : b ∈ cs.map (·.2)
    · obtain ⟨p, hp, rfl⟩ := List.mem_map.mp hb
      rw [nT p hp] at e; cases e
    · rcases Hother hb with q | ⟨rfl, hk, _⟩
      · exact q
      · rw [hk] at e; cases e)
  have TB : ∀ p ∈ cs, TabB (hidT s₁.heap H) mg p.1 p.2 := fun p hp => by
    refine ⟨?_, ?_, fun z => ?_⟩
    · obtain ⟨o, us, file, tf, flags, tg, inF, text, tt, e1, r1, r2, r3, rest⟩ := C p hp
      exact ⟨o, us, file, tf, flags, tg, inF, text, tt, hidT_get e1 (free e1 (fun v n z => by rw [r2] at z; cases z) fun z => by rw [r2] at z; cases z; simp at r3), r1, r2, r3, rest⟩
    · obtain ⟨bm, ob, b1, b2, b3, b4, b5, b6⟩ := hbm
      refine ⟨bm, ob, b1, b2, fun q => ?_, fun q => ?_, hidT_get b3 (free b3 (fun v n z => by rw [b6] at z; cases z) fun z => by rw [b6] at z; cases z), b4, b5, b6⟩
      · obtain ⟨o, es, ep, e, hd, _⟩ := hns
        rw [q, e] at b3; cases b3
        rw [hd] at b6; cases b6
      · rw [q, hT p hp] at b3; cases b3
        cases b6
    · obtain ⟨o, es, ep, e, hd, _⟩ := hns
      rw [z, hT p hp] at e; cases e
      cases hd
  have e0 : Env0 P w K mg (hidT s₁.heap H) callerA [] s₁ H := ⟨rfl, ⟨KB, keepNs hns, ⟨mb, keepNs hb, hbb⟩, let ⟨mc, h1, h2⟩ := hlim; ⟨mc, keepNs h1, h2⟩⟩, fun b o e => of_hidT e, Nat.le_of_eq (hidT_size _ _), trivial, fun b hb => (List.not_mem_nil hb).elim, hok, .of_eq hg⟩
  -- the interpreter's store: nothing yet; of the heap the script is known
  obtain ⟨F0, eF⟩ : ∃ F0 : Hp, F0 = fun b => if b ∈ cs.map (·.2) then none else H b := ⟨_, rfl⟩
  have F0o : ∀ b o, F0 b = some o → H b = some o ∧ b ∉ cs.map (·.2) := fun b o e => by
    rw [eF] at e
    have e : (if b ∈ cs.map (·.2) then none else H b) = some o := e
    by_cases hb : b ∈ cs.map (·.2)
    · rw [if_pos hb] at e; cases e
    · rw [if_neg hb] at e; exact ⟨e, hb⟩
  have rel : Rel K S.T [] F0 st0 H := by
    refine ⟨fun b o e => (F0o b o e).1, fun b o e ps z => ?_, rfl, List.nodup_nil, fun _ h => (List.not_mem_nil h).elim, fun i o a h => by simp [st0] at h, fun p h => (List.not_mem_nil h).elim, fun p hp => ?_⟩
    · obtain ⟨e1, e2⟩ := F0o b o e
      rcases Hother e2 with q | ⟨_, _, q⟩
      · rw [q] at e1; cases e1
      · rw [q] at e1; cases e1; cases z
    · obtain ⟨q, hq, eq⟩ := hST p hp
      rw [← eq]
      exact TabS.nil (by rw [eq]; exact Htab (eq ▸ inT q hq))
  have hSF : SqL K F0 a (ns.map V.int) := by
    rcases hS with (z | ⟨o, z⟩) | z
    · exact .inl (.inl (by rw [eF]; exact (if_neg aT).trans z))
    · exact .inl (.inr ⟨o, by rw [eF]; exact (if_neg aT).trans z⟩)
    · exact .inr z
  obtain ⟨st, hst⟩ := hans
  have hsp : spD S K 1 h [.ref a] H (fun v _ => v = .bl true) fun _ _ _ => False :=
    ⟨[.lsk (ns.map D.int)], [], F0, st0, rfl, .cons (.lsk hSF (rs_ints ns)) .nil, rel, by rw [hst]; exact fun m' F' H' _ _ v rv => by cases rv; rfl⟩
  refine codeAny_mono ((F _ KB (keepNs hns) TB).go callerA [] s₁ H ⟨[.ref a], []⟩ [.ref a] [.ref a] _ _ (fun _ => rfl) hr e0 (hbind s₁ (.ref a)) (.cons rfl .nil) hsp) fun r s' z => ?_
  cases r with
  | error e =>
    obtain ⟨_, _, _, _, _, _, _, _, _, _, _, _, q⟩ := z
    exact q.elim
  | ok fl =>
    cases fl with
    | next => exact z.elim
    | brk => exact z.elim
    | cont => exact z.elim
    | ret u =>
      obtain ⟨v, H', os, bare, un, hok', r', q⟩ := z
      have q' : v = .bl true := q
      subst q'
      obtain rfl : u = Value.bool true := r'
      have same : ∀ b o, b ∉ cs.map (·.2) → s₁.heap.get? b = some o → s'.heap.get? b = some o := fun b o nb e => by
        rcases Hother nb with q | ⟨rfl, _, q⟩
        · exact un.keep b o e q (fun z => (List.not_mem_nil z).elim) (by simp)
        · obtain ⟨e2, _⟩ := hok' _ _ (un.frzs _ _ _ q)
          rw [ha] at e; cases e
          exact e2
      have more : ∀ p ∈ cs, ∃ ps : Array Value, s'.heap.get? p.2 = some { cls := .none, data := .fields ps } := fun p hp => by
        obtain ⟨ps, z⟩ := un.tbls p.2 #[] (Htab (inT p hp))
        exact ⟨_, hok' p.2 _ z⟩
      refine ⟨rfl, ⟨fun b o e => ?_, fun b o e => ?_⟩, os, bare⟩
      · by_cases nb : b ∈ cs.map (·.2)
        · obtain ⟨p, hp, rfl⟩ := List.mem_map.mp nb
          obtain ⟨ps, hps⟩ := more p hp
          rw [hT p hp] at e; cases e
          exact .inr (.inl ⟨((C p hp).tab (hT p hp)).isCodeTable, rfl, #[], ps, rfl, by rw [Array.empty_append]; exact hps⟩)
        · exact .inl (same b o nb e)
      · by_cases nb : b ∈ cs.map (·.2)
        · obtain ⟨p, hp, rfl⟩ := List.mem_map.mp nb
          obtain ⟨ps, hps⟩ := more p hp
          exact ⟨_, hps⟩
        · exact ⟨o, same b o nb e⟩
end
/-- what is known of the law's def at the head's heap -/
def LawG (l : PySem.W.OpenLaw) (w : World) (K : PySem.W.Frag) (k n : Nat) (x : Str) (mg : Str → Option Value) (fa : Addr) (hp : Heap) : Prop :=
  ∃ (fd : FuncData) (cs : List (Addr × Addr)) (S : Se) (h : List D → St → Out D), (∀ p ∈ cs, hp.get? p.2 = some { cls := .none, data := .fields #[] }) ∧ (∀ p ∈ cs, K.lookup p.2 = none) ∧ (∀ p ∈ cs, PySem.W.CodeHd hp p.1 p.2) ∧ (∀ (s : Shared) (u : Value), BindsTo s fd ⟨[u], []⟩ [(x, u)]) ∧
    (∀ p ∈ S.T, ∃ q ∈ cs, q.2 = p.1) ∧ (∀ ns : List Int, ns.length ≤ n → (∀ z ∈ ns, Builtin.Int.intBits z ≤ 1048576) → ∃ st, h [.lsk (ns.map D.int)] st0 = .ok (.bl true) st) ∧
    ∀ base : Heap, K.In base → base.Ns mainGlobals mg → (∀ p ∈ cs, TabB base mg p.1 p.2) → FnG l.prog w K mg base true k fa fd [x] (spD S K 1 h)
theorem walk_mp {l : PySem.W.OpenLaw} {n k : Nat} {q : Program} {loose : List Str} {XP : (Str → Option Value) → Heap → Prop} {YP : World → Heap → Prop} {d : DefRec} {K : Params → PySem.W.Frag} {x : Str}
    (hn : l.most = some n) (hn2 : n ≤ sizeLine) (hdf : d.params.defaults = []) (hr : Room k callerA) (hY : ∀ (w : World) (h : Heap), YP w h → (K w.params).In h)
    (F : ∀ (w : World) (mg : Str → Option Value) (fa : Addr) (h : Heap), YP w h → (K w.params).In h → h.Ns mainGlobals mg → mg d.name = some (.ref fa) → LawG l w (K w.params) k n x mg fa h) :
    PySem.W.WalkO q loose XP YP l.row.toRowW d [] (fun f vs => PySem.call f vs) := by
  refine Att.attach_callB hn hdf fun w s₀ s₁ mg mb fa o pm cd doc a vs ns G Y ho hd hcd hmg hobj hints hlen hbits hg => ?_
  have KX := hY w _ Y
  obtain ⟨fd, cs, S, h, c1, c2, c3, c4, c5, c6, c7⟩ := F w mg fa _ Y KX G.T.g hmg
  exact lawG_call KX G.T.g G.T.b G.T.builtins G.T.nolimit hg c1 c2 c3 G.T.bmain hobj hints (Nat.le_trans hlen hn2) hr c7 c4 c5 (c6 ns hlen hbits)
end MP

set_option maxRecDepth 100000
set_option maxHeartbeats 1000000
/-! MX8: constants of the text, isinstance, repr, all, any, sum. -/
namespace MP
open PySem PySem.Spec PyProof.Rows L2

/-! ### constants of the text -/
def atomD : Value → Option D
  | .none => some .non
  | .bool b => some (.bl b)
  | .int i _ => some (.int i)
  | .str x _ => some (.str x.cps.toList)
  | _ => none
def atomsD : List Value → Option (List D)
  | [] => some []
  | u :: us => match atomD u, atomsD us with
    | some d, some ds => some (d :: ds)
    | _, _ => none
theorem atom_of {K : PySem.W.Frag} {u : Value} {d : D} (h : atomD u = some d) : ∃ v, RelV v u ∧ ∀ m F, R K m F v d := by
  cases u with
  | none => cases h; exact ⟨.non, rfl, fun _ _ => .non⟩
  | bool b => cases h; exact ⟨.bl b, rfl, fun _ _ => .bl b⟩
  | int i t => cases h; exact ⟨.int i, ⟨t, rfl⟩, fun _ _ => .int i⟩
  | str x t => cases h; exact ⟨.str x, ⟨t, rfl⟩, fun _ _ => .str x.cps.toList⟩
  | _ => cases h
theorem atoms_of {K : PySem.W.Frag} : ∀ {us : List Value} {ds : List D}, atomsD us = some ds → ∃ vs, Vals vs us ∧ ∀ m F, Rs K m F vs ds
  | [], _, h => by cases h; exact ⟨[], .nil, fun _ _ => .nil⟩
  | u :: us, ds, h => by
    unfold atomsD at h
    split at h
    · rename_i d ds' e1 e2
      cases h
      obtain ⟨v, r1, r2⟩ := atom_of (K := K) e1
      obtain ⟨vs, s1, s2⟩ := atoms_of (K := K) e2
      exact ⟨v :: vs, .cons r1 s1, fun m F => .cons (r2 m F) (s2 m F)⟩
    · cases h
section
variable {S : Se} {X : Cx} {W : WX} {σ : L2.St} {m : List Addr} {F H : Hp} {st : St} {Q : VK} {x : Str} {pos : Pos}
theorem s_gatom {u : Value} {d : D} (hg : Gl X x) (hm : X.mg x = some u) (hd : atomD u = some d) (hdb : (x == ("__debug__" : Str)) = false := by decide) : PE X (.Name x pos) (TEof S X W (fC d)) := by
  obtain ⟨v, r1, r2⟩ := atom_of (K := X.K) hd
  exact s_c (pe_glob hg hm r1 hdb) r2
theorem s_gtup {a : Addr} {dd : Option Addr} {us : List Value} {n : Nat} {sl : Array (Option Value)} {ds : List D} (hg : Gl X x) (hm : X.mg x = some (.ref a)) (hk : X.K.lookup a = some ⟨.type "tuple", dd, .seq us.toArray n, sl⟩) (hd : atomsD us = some ds) (hl : us.length ≤ 16777216)
    (hdb : (x == ("__debug__" : Str)) = false := by decide) : PE X (.Name x pos) (TEof S X W (fC (.tup ds))) := by
  obtain ⟨vs, r1, r2⟩ := atoms_of (K := X.K) hd
  refine s_c (pe_glob (v := .ref a) hg hm rfl hdb) fun m F => .tup (.inr ⟨_, us.toArray, n, hk, rfl, rfl, ?_, by simpa using r1⟩) (r2 m F)
  rw [List.size_toArray]; exact lim_le hl

/-! ### isinstance -/
def tyN : D → Option String
  | .non => some "NoneType"
  | .bl _ => some "bool"
  | .int _ => some "int"
  | .str _ => some "str"
  | .tup _ => some "tuple"
  | .lst _ => some "list"
  | .lsk _ => some "list"
  | .emp => some "dict"
  | _ => none
theorem tyX_of {v : V} {d : D} {t : String} (sub : Same F H) (rv : R X.K m F v d) (h : tyN d = some t) : TyX X.K H v (.type t) := by
  cases rv with
  | non => cases h; exact .base .non
  | bl b => cases h; exact .base (.bl b)
  | int i => cases h; exact .base (.int i)
  | str x => cases h; exact .base (.str _)
  | tup e _ =>
    cases h
    rcases sub.sqt e with (e | ⟨o, e⟩) | ⟨o, its, n, e1, e2, _⟩
    · exact .base (.tup e)
    · exact .fTuple e
    · exact .kTuple e1 e2
  | lst e _ => cases h; exact .base (.lst (sub _ _ e))
  | lsk e _ =>
    cases h
    rcases sub.seq e with (e | ⟨o, e⟩) | ⟨o, its, n, e1, e2, _⟩
    · exact .base (.lst e)
    · exact .base (.frz e)
    · exact .kList e1 e2
  | ref e => cases h
  | xo _ _ _ => cases h
  | fv _ _ => cases h
  | emp e => cases h; exact .base (.dK (sub _ _ e))
/-- of a list of the store too -/
def isI (tab : String → Option Bool) (st : St) : D → Option Bool
  | .ref i => match st.objs[i]? with
    | some (.lst _) => tab "list"
    | _ => none
  | d => (tyN d).bind tab
def fIsi (tab : String → Option Bool) (f : Env → St → Out D) : Env → St → Out D := fun ρ st => (f ρ st).bind fun d st1 => match isI tab st1 d with
  | some b => .ok (.bl b) st1
  | none => .bad
theorem s_isi {T tx : String} {tab : String → Option Bool} {e : Expr} {f : Env → St → Out D} {p p2 : Pos} (hg : Gl X "isinstance") (hm : X.mg "isinstance" = none) (hgT : Gl X (PySem.Str.ofString tx)) (hmT : X.mg (PySem.Str.ofString tx) = none) (hvT : bootBuiltins (PySem.Str.ofString tx) = some (.type T)) (hnT : PySem.Str.ofString tx ≠ "__name__") (hdT : (PySem.Str.ofString tx == ("__debug__" : Str)) = false)
    (htab : ∀ t b, tab t = some b → PySem.W.kitOne X.K (.type t) (.type T) = some b) (he : PE X e (TEof S X W f))
    (h1 : starEach [e, .Name (PySem.Str.ofString tx) p2] X.env = (false, eval e X.env) :: starEach [.Name (PySem.Str.ofString tx) p2] X.env) (h2 : (backTo pos (starEach [.Name (PySem.Str.ofString tx) p2] X.env)).any (·.1) = false) :
    PE X (.Call (.Name "isinstance" p) [e, .Name (PySem.Str.ofString tx) p2] [] pos) (TEof S X W (fIsi tab f)) := by
  have z := pe_callB (p := p) (pos := pos) call_isi hg hm (by kernel_rfl) (pa_cons he (pa_cons (pe_bltn (v := .ty T) (pos := p2) hgT hmT hvT rfl hnT hdT) pa_nil) h1) (by decide) (by decide) h1 h2
  refine z.weak fun σ H Q ⟨ρ, m, F, st, E, r, h⟩ => ⟨ρ, m, F, st, E, r, (Post.bind h).imp (fun d m1 F1 H1 s1 q v rv => ?_) fun _ _ _ _ _ y => y⟩
  obtain ⟨st1, r1, q⟩ := q
  split at q
  · rename_i b eb
    obtain ⟨t, h1, h2⟩ : ∃ t : String, TyX X.K H1 v (.type t) ∧ tab t = some b := by
      unfold isI at eb
      split at eb
      · rename_i i
        split at eb
        · rename_i ds eo
          obtain ⟨a, xs, rfl, g1, g2, g3⟩ := ref_of r1 rv eo
          exact ⟨"list", .base (.lst g2), eb⟩
        · cases eb
      · cases et : tyN d with
        | none => rw [et] at eb; cases eb
        | some t => rw [et] at eb; exact ⟨t, tyX_of r1.sub rv et, eb⟩
    exact ⟨v, .ty T, _, _, b, rfl, .ty T, h1, htab t b h2, q.now r1 _ (.bl b)⟩
  · exact q.elim
end

/-! ### repr -/
mutual
theorem py_nodict : ∀ d : D, d.py.hasDict = false
  | .non => rfl
  | .bl _ => rfl
  | .int _ => rfl
  | .str _ => rfl
  | .tup ds => by simp only [D.py, PyData.hasDict]; exact pys_nodict ds
  | .lst ds => by simp only [D.py, PyData.hasDict]; exact pys_nodict ds
  | .lsk ds => by simp only [D.py, PyData.hasDict]; exact pys_nodict ds
  | .ref _ => rfl
  | .xo _ _ _ _ => rfl
  | .fv _ _ => rfl
  | .emp => rfl
theorem pys_nodict : ∀ ds : List D, PyData.hasDictAll (D.pys ds) = false
  | [] => rfl
  | d :: ds => by simp only [D.pys, PyData.hasDictAll, py_nodict d, pys_nodict ds, Bool.or_self]
end
def reprOk (d : D) : Bool := d.noref && d.py.showable && decide (d.py.shown.length ≤ 16777216) && decide (d.py.depth ≤ 90)
def cRepr : List D → St → Out D := fun ds st => match ds with
  | [d] => if reprOk d = true then .ok (.str d.py.shown.cps.toList) st else .bad
  | _ => .bad
section
variable {S : Se} {X : Cx} {W : WX}
theorem call_reprD (hG : X.A.guards = some []) (hU : X.A.units + 100 < cLine) : CallR X (.builtin "repr") (fun vs H Q => ∃ v d, vs = [v] ∧ Dp X.K H v d ∧ d.showable = true ∧ d.hasDict = false ∧ d.shown.length ≤ sizeLine ∧ d.depth ≤ 90 ∧ Q (.str d.shown) H) := by
  intro pins s σ H vs us Q I r h
  obtain ⟨v, d, rfl, dp, hs, hn, hz, hd, q⟩ := h
  obtain ⟨u, rfl, rv⟩ : ∃ u, us = [u] ∧ RelV v u := by
    cases r with
    | cons a b => cases b; exact ⟨_, rfl, a⟩
  obtain ⟨as, rd⟩ := Dp.reads I d v u dp rv
  have fin : ∀ (h' : Heap) (tk tk' : Nat), (∀ b o, s.heap.get? b = some o → h'.get? b = some o) → EP X pins σ Q (.str d.shown tk') { s with heap := h', toks := tk } := fun h' tk tk' k => ⟨.str d.shown, H, I.kept k, ⟨_, rfl⟩, q⟩
  cases rd with
  | none => exact PySem.P.repr_of_none (by simpa only [PyData.shown] using fin s.heap (s.toks + 1) s.toks fun _ _ e => e)
  | bool b => exact PySem.P.repr_of_bool (by simpa only [PyData.shown] using fin s.heap (s.toks + 1) s.toks fun _ _ e => e)
  | int i t => exact PySem.P.repr_of_int (by simpa [PyData.showable] using hs) (by simpa only [PyData.shown] using fin s.heap (s.toks + 1) s.toks fun _ _ e => e)
  | str x t => exact PySem.P.repr_of_str (by simpa only [PyData.shown] using fin s.heap (s.toks + 1) s.toks fun _ _ e => e) (by simpa only [PyData.shown] using hz)
  | list h1 h2 h3 h4 => exact repr_of_reads' (.list h1 h2 h3 h4) hs (PyData.noDict_hsm hn) hG (by omega) (fun _ _ e => e) (fun h' u tk k => fin h' tk u k) hz
  | tuple h1 h2 h3 h4 => exact repr_of_reads' (.tuple h1 h2 h3 h4) hs (PyData.noDict_hsm hn) hG (by omega) (fun _ _ e => e) (fun h' u tk k => fin h' tk u k) hz
  | dict h1 h2 h3 h4 h5 => simp [PyData.hasDict] at hn
theorem o_repr (hG : X.A.guards = some []) (hU : X.A.units + 100 < cLine) : OpC S X W (.builtin "repr") cRepr := by
  refine ⟨_, call_reprD hG hU, fun σ m F st H Q vs ds r rs h => ?_⟩
  unfold cRepr at h
  split at h
  · split at h
    · rename_i d e
      obtain ⟨v, rfl, rv⟩ := rs.one
      unfold reprOk at e
      simp only [Bool.and_eq_true, decide_eq_true_eq] at e
      obtain ⟨⟨⟨e1, e2⟩, e3⟩, e4⟩ := e
      exact ⟨v, d.py, rfl, dp_of r.sub rv e1, e2, py_nodict d, lim_le e3, e4, h.now r _ (.str _)⟩
    · exact h.elim
  · exact h.elim

/-! ### all, any, sum -/
def bls : List D → Option (List Bool)
  | [] => some []
  | .bl b :: ds => (bls ds).map (b :: ·)
  | _ :: _ => none
theorem rs_bls {K : PySem.W.Frag} {m : List Addr} {F : Hp} : ∀ {vs : List V} {ds : List D} {bs : List Bool}, Rs K m F vs ds → bls ds = some bs → vs = bs.map V.bl
  | _, _, _, .nil, h => by cases h; rfl
  | _, _, _, .cons r t, h => by
    cases r with
    | bl b =>
      unfold bls at h
      obtain ⟨cs, e, rfl⟩ := Option.map_eq_some_iff.mp h
      rw [rs_bls t e]; rfl
    | _ => cases h
def insD : List D → Option (List Int)
  | [] => some []
  | .int b :: ds => (insD ds).map (b :: ·)
  | _ :: _ => none
theorem rs_ins {K : PySem.W.Frag} {m : List Addr} {F : Hp} : ∀ {vs : List V} {ds : List D} {bs : List Int}, Rs K m F vs ds → insD ds = some bs → vs = bs.map V.int
  | _, _, _, .nil, h => by cases h; rfl
  | _, _, _, .cons r t, h => by
    cases r with
    | int b =>
      unfold insD at h
      obtain ⟨cs, e, rfl⟩ := Option.map_eq_some_iff.mp h
      rw [rs_ins t e]; rfl
    | _ => cases h
def cBls (f : List Bool → Bool) : List D → St → Out D := fun ds st => match ds with
  | [x] => match (lqOf st x).bind bls with
    | some bs => .ok (.bl (f bs)) st
    | none => .bad
  | _ => .bad
theorem o_all (hc : X.calm = true) : OpC S X W (.builtin "all") (cBls fun bs => bs.all id) := by
  refine ⟨_, cr_all hc, fun σ m F st H Q vs ds r rs h => ?_⟩
  unfold cBls at h
  split at h
  · split at h
    · rename_i e
      obtain ⟨ds, e1, e2⟩ := Option.bind_eq_some_iff.mp e
      obtain ⟨v, rfl, rv⟩ := rs.one
      obtain ⟨a, xs, rfl, g1, g2⟩ := lq_of r rv e1
      rw [rs_bls g2 e2] at g1
      exact ⟨a, _, rfl, g1, h.now r _ (.bl _)⟩
    · exact h.elim
  · exact h.elim
theorem o_any (hc : X.calm = true) : OpC S X W (.builtin "any") (cBls fun bs => bs.any id) := by
  refine ⟨_, cr_any hc, fun σ m F st H Q vs ds r rs h => ?_⟩
  unfold cBls at h
  split at h
  · split at h
    · rename_i e
      obtain ⟨ds, e1, e2⟩ := Option.bind_eq_some_iff.mp e
      obtain ⟨v, rfl, rv⟩ := rs.one
      obtain ⟨a, xs, rfl, g1, g2⟩ := lq_of r rv e1
      rw [rs_bls g2 e2] at g1
      exact ⟨a, _, rfl, g1, h.now r _ (.bl _)⟩
    · exact h.elim
  · exact h.elim
end
end MP

set_option maxRecDepth 100000
set_option maxHeartbeats 1000000
/-! MX9: what the printed proofs lean on. -/
theorem L2.Room.u100 {k : Nat} {A : PySem.Around} (r : L2.Room k A) : A.units + 100 < PySem.cLine := by have := r.un; omega
namespace MP
open PySem PySem.Spec PyProof.Rows L2 LamX
section
variable {S : Se} {X : Cx} {W : WX}
theorem s_strL {x : Str} {l : List Nat} {j pos} (h : x.cps.toList = l) : PE X (.Constant (.str x) j pos) (TEof S X W (fC (.str l))) := h ▸ s_str
/-- a list that will change -/
def fBox (g : Env → St → Out (List D)) : Env → St → Out D := fun ρ st => (g ρ st).bind fun ds st1 => if ds.length ≤ 16777216 then .ok (.ref st1.objs.length) (st1.push (.lst ds)) else .bad
theorem s_boxE {es : List Expr} {pos : Pos} {g : Env → St → Out (List D)} (h : PA X es (TAof S X W g)) : PE X (.List es pos) (TEof S X W (fBox g)) := by
  refine (pe_lst h).weak fun σ H Q ⟨ρ, m, F, st, E, r, h⟩ => ⟨ρ, m, F, st, E, r, (Post.bind h).imp (fun ds m1 F1 H1 s1 q vs rs => ?_) fun _ _ _ _ _ y => y⟩
  obtain ⟨st1, r1, q⟩ := q
  split at q
  · rename_i hl
    refine ⟨by rw [rs.length]; exact lim_le hl, fun p hp => ?_⟩
    obtain ⟨s2, r2, h2⟩ := r1.box hp rs
    exact q _ _ _ s2 r2 (.ref p) (.ref h2)
  · exact q.elim
/-- .. what a comprehension gives -/
def fUp (f : Env → St → Out D) : Env → St → Out D := f
end
/-- a field of the caught exception -/
def fDs (ds : List D) (j : Nat) : Env → St → Out D := fun _ st => match ds[j]? with
  | some x => .ok x st
  | none => .bad
theorem fXf_env {n i a d j : Nat} {ns : List Str} {ds : List D} {f : Str} {ρ : Env} {st : St} (hi : i < n) (hj : ns.idxOf? f = some j) : fXf i a d f (envX n i a d ns ds) st = fDs ds j ρ st := by
  unfold fXf envX fDs
  rw [List.getElem?_set_self (by rw [List.length_replicate]; exact hi)]
  simp only [and_self, if_true, hj]
  try (cases ds[j]? <;> rfl)
/-! isinstance of a built-in type: the answers -/
def tyL : List String := ["NoneType", "bool", "int", "str", "tuple", "list", "dict"]
def tabT (T : String) : String → Option Bool := fun t => if t ∈ tyL then some (t == T || (t == "bool" && T == "int")) else none
theorem kit_all {K : PySem.W.Frag} {T : String} (h : (tyL.all fun t => decide (PySem.W.kitOne K (.type t) (.type T) = some (t == T || (t == "bool" && T == "int")))) = true) : ∀ t b, tabT T t = some b → PySem.W.kitOne K (.type t) (.type T) = some b := fun t b e => by
  unfold tabT at e
  split at e
  · rename_i ht
    have z := of_decide_eq_true (List.all_eq_true.mp h t ht)
    rw [z]; exact e
  · cases e
theorem kit_str (K : PySem.W.Frag) : ∀ t b, tabT "str" t = some b → PySem.W.kitOne K (.type t) (.type "str") = some b := kit_all (by kernel_rfl)
theorem kit_int (K : PySem.W.Frag) : ∀ t b, tabT "int" t = some b → PySem.W.kitOne K (.type t) (.type "int") = some b := kit_all (by kernel_rfl)
theorem kit_tuple (K : PySem.W.Frag) : ∀ t b, tabT "tuple" t = some b → PySem.W.kitOne K (.type t) (.type "tuple") = some b := kit_all (by kernel_rfl)
theorem kit_list (K : PySem.W.Frag) : ∀ t b, tabT "list" t = some b → PySem.W.kitOne K (.type t) (.type "list") = some b := kit_all (by kernel_rfl)
theorem kit_bool (K : PySem.W.Frag) : ∀ t b, tabT "bool" t = some b → PySem.W.kitOne K (.type t) (.type "bool") = some b := kit_all (by kernel_rfl)
/-- the tables of the defs of the top are empty -/
def OwnTabs (q : Program) (mg : Str → Option Value) (K : PySem.W.Frag) (h : Heap) : Prop := ∀ (x : Str) (fa : Addr), ((recsOf q).any fun e => e.name == x) = true → mg x = some (.ref fa) → OwnTab K fa h
theorem walk_mpT {l : PySem.W.OpenLaw} {n k : Nat} {q : Program} {loose : List Str} {XP : (Str → Option Value) → Heap → Prop} {YP : World → Heap → Prop} {d : DefRec} {K : Params → PySem.W.Frag} {x : Str}
    (hn : l.most = some n) (hn2 : n ≤ sizeLine) (hdf : d.params.defaults = []) (hr : Room k callerA) (hY : ∀ (w : World) (h : Heap), YP w h → (K w.params).In h)
    (F : ∀ (w : World) (mg : Str → Option Value) (fa : Addr) (h : Heap), YP w h → (K w.params).In h → h.Ns mainGlobals mg → mg d.name = some (.ref fa) → OwnTabs q mg (K w.params) h → LawG l w (K w.params) k n x mg fa h) :
    PySem.W.WalkO q loose XP YP l.row.toRowW d [] (fun f vs => PySem.call f vs) := by
  refine Att.attach_callB hn hdf fun w s₀ s₁ mg mb fa o pm cd doc a vs ns G Y ho hd hcd hmg hobj hints hlen hbits hg => ?_
  have KX := hY w _ Y
  have own : OwnTabs q mg (K w.params) s₁.heap := fun x fa' hx hm c P o1 fd1 e dd vs1 sl k1 k2 k3 k4 k5 => by
    obtain ⟨dL, m1, m2⟩ := List.any_eq_true.mp hx
    have m3 : dL.name = x := beq_iff_eq.mp m2
    obtain ⟨a', o', fd', c', P', h1, h2, h3, h4, h5, h6⟩ := G.T.tab dL m1
    rw [m3, hm] at h1; cases h1
    rw [KX _ _ k1] at h2; cases h2
    rw [k2] at h3; cases h3
    rw [k3] at h4; cases h4
    obtain ⟨⟨oc, vc, e1, _, e3, e4⟩, hP⟩ := h6
    rw [KX _ _ k4] at e1; cases e1
    cases e3
    rw [k5] at e4; cases e4
    exact hP
  obtain ⟨fd, cs, S, h, c1, c2, c3, c4, c5, c6, c7⟩ := F w mg fa _ Y KX G.T.g hmg own
  exact lawG_call KX G.T.g G.T.b G.T.builtins G.T.nolimit hg c1 c2 c3 G.T.bmain hobj hints (Nat.le_trans hlen hn2) hr c7 c4 c5 (c6 ns hlen hbits)
end MP

set_option maxRecDepth 100000
set_option maxHeartbeats 1000000
/-! MY1: instances of own classes: fields read and stored, methods called, made. -/
namespace MP
open PySem PySem.Spec PyProof.Rows L2
section
variable {S : Se} {X : Cx} {W : WX} {σ : L2.St} {m : List Addr} {F H : Hp} {st : St}
/-- which classes are meant: by number, where they stand -/
abbrev Ok := Nat → Addr → Bool
theorem ins_at {K : PySem.W.Frag} {T : NTabs} {d : D} {v : V} {i c : Nat} {C : Addr} {ns : List Str} {ds : List D} (r : Rel K T m F st H) (rv : R K m F v (.ref i)) (h : st.objs[i]? = some (.ins c C ns ds)) :
    ∃ a dx gs, v = .ref a ∧ m[i]? = some a ∧ H a = some (.ins C dx gs) ∧ gs.map (·.1) = ns ∧ ns.Nodup ∧ Rs K m F (gs.map (·.2)) ds := by
  cases rv with
  | ref e =>
    rename_i a
    have z := r.obj i _ a h e
    generalize hh : H a = ha at z
    cases z with
    | ins nd rs => exact ⟨a, _, _, rfl, e, hh, rfl, nd, rs⟩
theorem lookup_at {f : Str} : ∀ {gs : List (Str × V)} {k : Nat} {v : V}, (gs.map (·.1)).Nodup → (gs.map (·.1))[k]? = some f → (gs.map (·.2))[k]? = some v → gs.lookup f = some v
  | [], _, _, _, h, _ => by simp at h
  | (g, x) :: gs, 0, v, nd, h, h2 => by
    simp at h h2; subst h; subst h2; simp [List.lookup]
  | (g, x) :: gs, k + 1, v, nd, h, h2 => by
    simp only [List.map_cons, List.nodup_cons] at nd
    simp only [List.map_cons, List.getElem?_cons_succ] at h h2
    have : f ≠ g := fun z => nd.1 (z ▸ List.mem_of_getElem? h)
    have e : (f == g) = false := by simp [this]
    simp only [List.lookup, e]
    exact lookup_at nd.2 h h2
theorem lookup_not {f : Str} : ∀ {gs : List (Str × V)}, f ∉ gs.map (·.1) → gs.lookup f = none
  | [], _ => rfl
  | (g, x) :: gs, h => by
    simp only [List.map_cons, List.mem_cons, not_or] at h
    have e : (f == g) = false := by simp [h.1]
    simp only [List.lookup, e]
    exact lookup_not h.2
theorem putF_at {f : Str} {y : V} : ∀ {gs : List (Str × V)} {k : Nat}, (gs.map (·.1)).Nodup → (gs.map (·.1))[k]? = some f → (putF f y gs).map (·.1) = gs.map (·.1) ∧ (putF f y gs).map (·.2) = (gs.map (·.2)).set k y
  | [], _, _, h => by simp at h
  | (g, x) :: gs, 0, nd, h => by
    simp at h; subst h; simp [putF]
  | (g, x) :: gs, k + 1, nd, h => by
    simp only [List.map_cons, List.nodup_cons] at nd
    simp only [List.map_cons, List.getElem?_cons_succ] at h
    have : g ≠ f := fun z => nd.1 (z ▸ List.mem_of_getElem? h)
    obtain ⟨h1, h2⟩ := putF_at (y := y) nd.2 h
    simp [putF, this, h1, h2]
theorem putF_new {f : Str} {y : V} : ∀ {gs : List (Str × V)}, f ∉ gs.map (·.1) → (putF f y gs).map (·.1) = gs.map (·.1) ++ [f] ∧ (putF f y gs).map (·.2) = gs.map (·.2) ++ [y]
  | [], _ => by simp [putF]
  | (g, x) :: gs, h => by
    simp only [List.map_cons, List.mem_cons, not_or] at h
    have : g ≠ f := fun z => h.1 z.symm
    obtain ⟨h1, h2⟩ := putF_new (y := y) h.2
    simp [putF, this, h1, h2]

/-! ### fields read -/
def fldOf (ok : Ok) (f : Str) (k : Nat) (st : St) (d : D) : Option D := match d with
  | .ref i => match st.objs[i]? with
    | some (.ins c C ns ds) => if ok c C = true ∧ ns[k]? = some f then ds[k]? else none
    | _ => none
  | _ => none
def fFld (ok : Ok) (f : Str) (k : Nat) (fe : Env → St → Out D) : Env → St → Out D := fun ρ st => (fe ρ st).bind fun d st1 => match fldOf ok f k st1 d with
  | some x => .ok x st1
  | none => .bad
theorem fld_of {ok : Ok} {f : Str} {k : Nat} {d x : D} {v : V} {K : PySem.W.Frag} {T : NTabs} (hok : ∀ c C, ok c C = true → Cls K C ∧ NoAttr K C f) (r : Rel K T m F st H) (rv : R K m F v d) (h : fldOf ok f k st d = some x) :
    ∃ a C dx gs w, v = .ref a ∧ H a = some (.ins C dx gs) ∧ Cls K C ∧ NoAttr K C f ∧ gs.lookup f = some w ∧ R K m F w x := by
  unfold fldOf at h
  split at h
  · rename_i i
    split at h
    · rename_i c C ns ds eo
      split at h
      · rename_i hc
        obtain ⟨a, dx, gs, rfl, h1, h2, h3, h4, h5⟩ := ins_at (d := .ref i) r rv eo
        subst h3
        obtain ⟨w, e1, e2⟩ := h5.get h
        obtain ⟨hC, hN⟩ := hok c C hc.1
        exact ⟨a, C, dx, gs, w, rfl, h2, hC, hN, lookup_at h4 hc.2 e1, e2⟩
      · cases h
    · cases h
  · cases h
theorem s_fld {ok : Ok} {f : Str} {k : Nat} {e : Expr} {pos : Pos} {fe : Env → St → Out D} (hok : ∀ c C, ok c C = true → Cls X.K C ∧ NoAttr X.K C f) (he : PE X e (TEof S X W fe)) (hb : attributeBase e f X.env (eval e X.env) = eval e X.env) :
    PE X (.Attribute e f pos) (TEof S X W (fFld ok f k fe)) := by
  refine (pe_fld he hb).weak fun σ H Q ⟨ρ, m, F, st, E, r, h⟩ => ⟨ρ, m, F, st, E, r, (Post.bind h).imp (fun d m1 F1 H1 s1 q v rv => ?_) fun _ _ _ _ _ y => y⟩
  obtain ⟨st1, r1, q⟩ := q
  cases e1 : fldOf ok f k st1 d with
  | none => simp only [e1] at q; exact q.elim
  | some x =>
    simp only [e1] at q
    obtain ⟨a, C, dx, gs, w, rfl, g1, g2, g3, g4, g5⟩ := fld_of hok r1 rv e1
    exact ⟨a, C, dx, gs, w, rfl, g1, g2, g3, g4, Post.now (P := fun d m' F' H' => ∀ v, R X.K m' F' v d → Q v H') q r1 w g5⟩

/-! ### fields stored -/
def fldPut (ok : Ok) (f : Str) (k : Nat) (d y : D) (st : St) : Option St := match d with
  | .ref i => match st.objs[i]? with
    | some (.ins c C ns ds) => if ok c C = true ∧ ds.length < 1000 then (if ns[k]? = some f then some (st.put i (.ins c C ns (ds.set k y))) else if ns.contains f = false ∧ ns.length = k then some (st.put i (.ins c C (ns ++ [f]) (ds ++ [y]))) else none) else none
    | _ => none
  | _ => none
def gFldSet (ok : Ok) (f : Str) (k : Nat) (fe fo : Env → St → Out D) : Env → St → SO := fun ρ st => (fe ρ st).toS fun y st1 => (fo ρ st1).toS fun d st2 => match fldPut ok f k d y st2 with
  | some st3 => .nx ρ st3
  | none => .bad
theorem fld_put {ok : Ok} {f : Str} {k : Nat} {d y : D} {v w : V} {K : PySem.W.Frag} {T : NTabs} {st' : St} (hok : ∀ c C, ok c C = true → Cls K C ∧ NoAttr K C f) (r : Rel K T m F st H) (rv : R K m F v d) (rw' : R K m F w y) (h : fldPut ok f k d y st = some st') :
    ∃ a C dx gs, v = .ref a ∧ H a = some (.ins C dx gs) ∧ Cls K C ∧ NoAttr K C f ∧ gs.length < 1000 ∧ Step m F H m F (upd H a (.ins C dx (putF f w gs))) ∧ Rel K T m F st' (upd H a (.ins C dx (putF f w gs))) := by
  unfold fldPut at h
  split at h
  · rename_i i
    split at h
    · rename_i c C ns ds eo
      split at h
      · rename_i hc
        obtain ⟨a, dx, gs, rfl, h1, h2, h3, h4, h5⟩ := ins_at (d := .ref i) r rv eo
        subst h3
        obtain ⟨hC, hN⟩ := hok c C hc.1
        have hl : gs.length < 1000 := by have := h5.length; rw [List.length_map] at this; omega
        split at h
        · rename_i hk
          cases h
          obtain ⟨p1, p2⟩ := putF_at (y := w) h4 hk
          have o : OR K m F (.ins c C (gs.map (·.1)) (ds.set k y)) (some (.ins C dx (putF f w gs))) := by
            rw [← p1]; exact .ins (by rw [p1]; exact h4) (by rw [p2]; exact h5.set rw' k)
          obtain ⟨s, r'⟩ := r.put h1 o ⟨_, h2, .ins _ _ _⟩
          exact ⟨a, C, dx, gs, rfl, h2, hC, hN, hl, s, r'⟩
        · split at h
          · rename_i hk
            cases h
            have hn : f ∉ gs.map (·.1) := fun z => by
              have := hk.1
              rw [List.contains_iff_mem.mpr z] at this; cases this
            obtain ⟨p1, p2⟩ := putF_new (y := w) hn
            have o : OR K m F (.ins c C (gs.map (·.1) ++ [f]) (ds ++ [y])) (some (.ins C dx (putF f w gs))) := by
              rw [← p1]
              refine .ins ?_ (by rw [p2]; exact h5.append (.cons rw' .nil))
              rw [p1]
              exact List.nodup_append.mpr ⟨h4, by simp, fun x hx z hz => by rw [List.mem_singleton.mp hz]; exact fun q => hn (q ▸ hx)⟩
            obtain ⟨s, r'⟩ := r.put h1 o ⟨_, h2, .ins _ _ _⟩
            exact ⟨a, C, dx, gs, rfl, h2, hC, hN, hl, s, r'⟩
          · cases h
      · cases h
    · cases h
  · cases h
theorem s_fldSet {ok : Ok} {f : Str} {k : Nat} {o e : Expr} {pos pos' : Pos} {fe fo : Env → St → Out D} (hok : ∀ c C, ok c C = true → Cls X.K C ∧ NoAttr X.K C f) (he : PE X e (TEof S X W fe)) (ho : PE X o (TEof S X W fo))
    (hs : swapsWith e (some (.Attribute o f pos')) pos.line X.env = pure false) : PS X (.Assign [.Attribute o f pos'] e pos) (TSof S X W (gFldSet ok f k fe fo)) := by
  refine (ps_fld ho he hs).weak fun D σ H ⟨ρ, m, F, st, E, r, h⟩ => ⟨ρ, m, F, st, E, r, (SPost.bind rfl h).imp (fun y m1 F1 H1 s1 q w rw' => ?_) fun _ _ _ _ _ y => y⟩
  obtain ⟨st1, r1, q⟩ := q
  refine ⟨ρ, m1, F1, st1, E.mono s1.mono, r1, (SPost.bind rfl q).imp (fun d m2 F2 H2 s2 q v rv => ?_) fun _ _ _ _ _ y => y⟩
  obtain ⟨st2, r2, q⟩ := q
  cases e1 : fldPut ok f k d y st2 with
  | none => simp only [e1] at q; exact q.elim
  | some st3 =>
    simp only [e1] at q
    obtain ⟨a, C, dx, gs, rfl, g1, g2, g3, g4, g5, g6⟩ := fld_put hok r2 rv (rw'.mono s2.mono) e1
    exact ⟨a, C, dx, gs, rfl, g1, g2, g3, g4, q σ _ _ _ rfl g5 g6 (E.mono (s1.mono.trans s2.mono))⟩

/-! ### methods called -/
def insOk (ok : Ok) (nm : Str) (st : St) (d : D) : Bool := match d with
  | .ref i => match st.objs[i]? with
    | some (.ins c C ns _) => ok c C && !(ns.contains nm)
    | _ => false
  | _ => false
def fMeth (ok : Ok) (nm : Str) (n : Nat) (h : List D → St → Out D) (fo : Env → St → Out D) (fa : Env → St → Out (List D)) : Env → St → Out D := fun ρ st => (fo ρ st).bind fun d st1 => if insOk ok nm st1 d = true then (fa ρ st1).bind fun ds st2 => (if ds.length + 1 = n then h (d :: ds) st2 else .bad) else .bad
theorem ins_ok {ok : Ok} {nm : Str} {d : D} {v : V} {C0 : Addr} {K : PySem.W.Frag} {T : NTabs} (hok : ∀ c C, ok c C = true → C = C0) (r : Rel K T m F st H) (rv : R K m F v d) (h : insOk ok nm st d = true) :
    ∃ a dx gs, v = .ref a ∧ H a = some (.ins C0 dx gs) ∧ gs.lookup nm = none := by
  unfold insOk at h
  split at h
  · rename_i i
    split at h
    · rename_i c C ns ds eo
      simp only [Bool.and_eq_true, Bool.not_eq_true'] at h
      obtain ⟨a, dx, gs, rfl, h1, h2, h3, h4, h5⟩ := ins_at (d := .ref i) r rv eo
      subst h3
      rw [hok c C h.1] at h2
      refine ⟨a, dx, gs, rfl, h2, lookup_not fun z => ?_⟩
      have := h.2
      rw [List.contains_iff_mem.mpr z] at this; cases this
    · cases h
  · cases h
section
variable {gd : Bool} {k : Nat} {f C : Addr} {fd : FuncData} {ps : List Str} {h : List D → St → Out D} {nm : Str} {pos apos : Pos} {o e : Expr} {es : List Expr} {fo : Env → St → Out D} {fa : Env → St → Out (List D)} {ok : Ok}
/-- o.m(..), as the caller's slots wish of exceptions -/
abbrev tMethS (C : Addr) (nm : Str) (sp : Sp) (E : L2.St → XK) (ta : TE) (t : TA) : TE := fun σ H Q => ta σ H fun x H1 => ∃ a dx fs, x = .ref a ∧ H1 a = some (.ins C dx fs) ∧ fs.lookup nm = none ∧ t σ H1 fun vs H2 => sp (x :: vs) H2 Q (E σ)
theorem i_meth {n : Nat} (hok : ∀ c C', ok c C' = true → C' = C) : ∀ σ H Q, TEof S X W (fMeth ok nm n h fo fa) σ H Q → tMethS C nm (spD S X.K n h) (WE W) (TEof S X W fo) (TAof S X W fa) σ H Q := by
  intro σ H Q ⟨ρ, m, F, st, E, r, q⟩
  refine ⟨ρ, m, F, st, E, r, (Post.bind q).imp (fun d m1 F1 H1 s1 q v rv => ?_) fun _ _ _ _ _ y => y⟩
  obtain ⟨st1, r1, q⟩ := q
  split at q
  · rename_i hi
    obtain ⟨a, dx, gs, rfl, g1, g2⟩ := ins_ok hok r1 rv hi
    refine ⟨a, dx, gs, rfl, g1, g2, ρ, m1, F1, st1, E.mono s1.mono, r1, (Post.bind q).imp (fun ds m2 F2 H2 s2 q vs rvs => ?_) fun _ _ _ _ _ y => y⟩
    obtain ⟨st2, r2, q⟩ := q
    split at q
    · rename_i hn
      exact ⟨d :: ds, m2, F2, st2, by simpa using hn, .cons (rv.mono s2.mono) rvs, r2, q⟩
    · exact q.elim
  · exact q.elim
theorem s_meth {pl : Sem Bool} (hok : ∀ c C', ok c C' = true → C' = C) (cl : Cls X.K C) (hm : Meth X.K C nm f) (G : FnG X.prog X.w X.K X.mg X.base gd k f fd ps (spD S X.K ps.length h)) (hG : gd = true → X.A.guards = some []) (hr : Room k X.A) (hb : Binds X.K fd ps []) (tk : Takes X W)
    (ho : PE X o (TEof S X W fo)) (ha : PA X (e :: es) (TAof S X W fa)) (hst : starEach (e :: es) X.env = (false, eval e X.env) :: starEach es X.env := by rfl) (hpl : (backTo pos (starEach es X.env)).any (·.1) = false := by rfl)
    (ht : eval (.Call (.Attribute o nm apos) (e :: es) [] pos) X.env = (do
      let ov ← eval o X.env
      standAt apos.atName
      let (f, first) ← holding [ov] (getMethod ov nm pl)
      callWith pos f first (backTo pos (starEach (e :: es) X.env)) (backToKw pos (keywordEach [] X.env))) := by rfl) :
    PE X (.Call (.Attribute o nm apos) (e :: es) [] pos) (TEof S X W (fMeth ok nm ps.length h fo fa)) := by
  have z : PE X (.Call (.Attribute o nm apos) (e :: es) [] pos) (tMethS C nm (spD S X.K ps.length h) (WE W) (TEof S X W fo) (TAof S X W fa)) := by
    refine ⟨fun pins s σ H Q I q => ?_⟩
    refine PySem.W.methodCall_KW (pl := pl) (thn (ho.run pins s σ H _ I q) fun u s1 ⟨x, H1, I1, rx, a, dx, fs, ex, ea, l, q⟩ => ?_) ht
    subst ex
    obtain rfl : u = Value.ref a := rx
    refine getmeth_ok I1 ea cl hm l ?_
    refine PySem.W.callWith_K (first := [.ref a]) (h₀ := X.base) I.ok.mod.kin hm.kp (thn (ha.run pos pins s1 σ H1 _ I1 q) fun us s2 ⟨vs, H2, I2, r, q2⟩ => ⟨I2.kIn, ?_⟩) hst hpl
    exact run_fnG (us := .ref a :: us) (vs := .ref a :: vs) G hG hr hb (passAt tk σ) I2 (.cons rfl r) q2
  exact z.weak (i_meth hok)
theorem s_meth0 {pl : Sem Bool} (hok : ∀ c C', ok c C' = true → C' = C) (cl : Cls X.K C) (hm : Meth X.K C nm f) (G : FnG X.prog X.w X.K X.mg X.base gd k f fd ps (spD S X.K ps.length h)) (hG : gd = true → X.A.guards = some []) (hr : Room k X.A) (hb : Binds X.K fd ps []) (tk : Takes X W)
    (ho : PE X o (TEof S X W fo))
    (ht : eval (.Call (.Attribute o nm apos) [] [] pos) X.env = (do
      let ov ← eval o X.env
      standAt apos.atName
      let (f, first) ← holding [ov] (getMethod ov nm pl)
      callWith pos f first (backTo pos (starEach [] X.env)) (backToKw pos (keywordEach [] X.env))) := by rfl) :
    PE X (.Call (.Attribute o nm apos) [] [] pos) (TEof S X W (fMeth ok nm ps.length h fo fNil)) := by
  have z : PE X (.Call (.Attribute o nm apos) [] [] pos) (tMethS C nm (spD S X.K ps.length h) (WE W) (TEof S X W fo) tNil) := by
    refine ⟨fun pins s σ H Q I q => ?_⟩
    refine PySem.W.methodCall_KW (pl := pl) (thn (ho.run pins s σ H _ I q) fun u s1 ⟨x, H1, I1, rx, a, dx, fs, ex, ea, l, q⟩ => ?_) ht
    subst ex
    obtain rfl : u = Value.ref a := rx
    refine getmeth_ok I1 ea cl hm l ?_
    exact PySem.W.callWith_K0 (first := [.ref a]) I1.kIn hm.kp (run_fnG (us := [.ref a]) (vs := [.ref a]) G hG hr hb (passAt tk σ) I1 (.cons rfl .nil) q)
  refine z.weak fun σ H Q q => ?_
  obtain ⟨ρ, m, F, st, E, r, q⟩ := q
  refine ⟨ρ, m, F, st, E, r, (Post.bind q).imp (fun d m1 F1 H1 s1 q v rv => ?_) fun _ _ _ _ _ y => y⟩
  obtain ⟨st1, r1, q⟩ := q
  split at q
  · rename_i hi
    obtain ⟨a, dx, gs, rfl, g1, g2⟩ := ins_ok hok r1 rv hi
    refine ⟨a, dx, gs, rfl, g1, g2, ?_⟩
    simp only [fNil, Out.bind_ok, List.length_nil] at q
    split at q
    · rename_i hn
      exact ⟨[d], m1, F1, st1, by simpa using hn, .cons rv .nil, r1, q⟩
    · exact q.elim
  · exact q.elim

/-! ### made -/
def fMake (c : Nat) (C : Addr) (n : Nat) (h : List D → St → Out D) (fa : Env → St → Out (List D)) : Env → St → Out D := fun ρ st => (fa ρ st).bind fun ds st1 => if ds.length + 1 = n then ((h (.ref st1.objs.length :: ds) (st1.push (.ins c C [] []))).bind fun d st2 => match d with
  | .non => .ok (.ref st1.objs.length) st2
  | _ => .bad) else .bad
abbrev tMakeS (C : Addr) (sp : Sp) (E : L2.St → XK) (t : TA) : TE := fun σ H Q => t σ H fun vs H1 => ∀ x dx, H1 x = none → H1 dx = none → dx ≠ x →
  sp (.ref x :: vs) (upd (upd H1 dx (.own x)) x (.ins C dx [])) (fun v H2 => v = .non ∧ Q (.ref x) H2) (E σ)
theorem Post.later {α : Type} {K : PySem.W.Frag} {T : NTabs} {m m1 : List Addr} {F H F1 H1 : Hp} {st1 : St} {P : α → List Addr → Hp → Hp → Prop} {Y : Nat → List D → List Addr → Hp → Hp → Prop} {x : Out α} (s : Step m F H m1 F1 H1) (r : Rel K T m1 F1 st1 H1) (h : Post K T m F H P Y x) : Post K T m1 F1 H1 P Y x := by
  cases x with
  | ok a st => exact fun m' F' H' s' => h m' F' H' (s.trans r s')
  | exc c fs st => exact fun m' F' H' s' => h m' F' H' (s.trans r s')
  | bad => exact h
theorem Rel.beside {K : PySem.W.Frag} {T : NTabs} (r : Rel K T m F st H) {p : Addr} (hp : H p = none) (o : HO) (hn : notbl o) : Rel K T m F st (upd H p o) ∧ Step m F H m F (upd H p o) := by
  have sm := same_upd hp o
  refine ⟨⟨fun b u e => sm b u (r.sub b u e), r.ntb, r.len, r.nd, r.sep, fun i u a h1 h2 => ?_, r.low, r.tabs.ext sm⟩, ⟨Mono.refl m F, fun b u e _ _ => sm b u e, fun _ h => .inl h, fun _ _ h => .inl h⟩⟩
  have : a ≠ p := fun z => r.notin hp (z ▸ List.mem_of_getElem? h2)
  rw [upd_ne this]; exact r.obj i u a h1 h2
theorem i_make {c n : Nat} : ∀ σ H Q, TEof S X W (fMake c C n h fa) σ H Q → tMakeS C (spD S X.K n h) (WE W) (TAof S X W fa) σ H Q := by
  intro σ H Q ⟨ρ, m, F, st, E, r, q⟩
  refine ⟨ρ, m, F, st, E, r, (Post.bind q).imp (fun ds m1 F1 H1 s1 q vs rvs => ?_) fun _ _ _ _ _ y => y⟩
  obtain ⟨st1, r1, q⟩ := q
  intro x dx hx hd hne
  split at q
  · rename_i hn
    obtain ⟨r2, s2⟩ := r1.beside hd (.own x) (fun ps z => by cases z)
    have hx2 : upd H1 dx (.own x) x = none := by rw [upd_ne hne.symm]; exact hx
    obtain ⟨s3, r3, e3⟩ := r2.boxO (o := .ins c C [] []) (u := .ins C dx []) hx2 (by exact .ins (gs := []) (by simp) .nil)
    have s23 := s2.trans r2 s3
    refine ⟨.ref st1.objs.length :: ds, _, _, _, by simpa using hn, .cons (.ref e3) (rvs.mono s23.mono), r3, ?_⟩
    have q' : Post X.K S.T m1 F1 H1 (fun d m' F' H' => ∀ v, R X.K m' F' v d → Q v H') (XW S.g X.K W σ) _ := q
    refine (Post.bind (Post.later (K := X.K) s23 r3 q')).imp (fun d m4 F4 H4 s4 q v rv => ?_) fun _ _ _ _ _ y => y
    obtain ⟨st4, r4, q⟩ := q
    cases rv with
    | non => exact ⟨rfl, Post.now (P := fun d m' F' H' => ∀ v, R X.K m' F' v d → Q v H') q r4 _ (.ref (s4.mono.ix _ _ e3))⟩
    | _ => exact q.elim
  · exact q.elim
theorem run_makeG {pins : List (Addr × Obj)} {σ : L2.St} {H : Hp} {s : Shared} {Q : VK} {us : List Value} {vs : List V} {sp : Sp} {E : L2.St → XK} (M : Mk X.K C f) (G : FnG X.prog X.w X.K X.mg X.base gd k f fd ps sp) (hG : gd = true → X.A.guards = some []) (hr : Room (k + 1) X.A) (hb : Binds X.K fd ps [])
    (hx : PassesAt (L2.CX X.prog X.w) X σ (E σ)) (I : Inv X pins σ H s) (r : Vals vs us)
    (q : ∀ x dx, H x = none → H dx = none → dx ≠ x → sp (.ref x :: vs) (upd (upd H dx (.own x)) x (.ins C dx [])) (fun v H2 => v = .non ∧ Q (.ref x) H2) (E σ)) :
    wpAny (model X.prog X.w) X.A (call (.ref C) us) (EP X pins σ Q) X.xe s := by
  have hq := q (s.heap.objs.size + 1) s.heap.objs.size (I.hok.fresh (Nat.le_succ _)) (I.hok.fresh (Nat.le_refl _)) (Nat.ne_of_lt (Nat.lt_succ_self _))
  have I2 := Inv.made (C := C) I
  have r2 : Vals (V.ref (s.heap.objs.size + 1) :: vs) (Value.ref (s.heap.objs.size + 1) :: us) := .cons rfl r
  have hl : (Value.ref (s.heap.objs.size + 1) :: us).length = ps.length := by
    have e := r2.length
    rw [G.len _ _ _ _ hq] at e
    exact e.symm
  have b := hb { s with heap := (s.heap.push PySem.W.emptyDict).push (PySem.W.instObj C s.heap.objs.size) } (Value.ref (s.heap.objs.size + 1) :: us) I2.kIn (by rw [List.append_nil]; exact hl)
  rw [List.append_nil] at b
  refine wpAny_call (make_map (f := f) I.kIn M.makes M.init (beq_iff_eq.mp M.fn) (codeAny_mono (G.go _ X.stack _ _ ⟨Value.ref (s.heap.objs.size + 1) :: us, []⟩ (Value.ref (s.heap.objs.size + 1) :: us) _ _ (E σ) (by first | exact hG | (intro z; simpa [Around.under] using hG z)) (hr.make C us [])
    (I2.env0.make C us []) b r2 hq) fun r s' hq' => ?_))
  cases r with
  | error e => exact hx pins _ _ e s' I2 hq'
  | ok fl =>
    cases fl with
    | ret u =>
      obtain ⟨v, H', I3, rv, ev, q3⟩ := I2.after hq'
      subst ev
      exact ⟨rv, ⟨V.ref (s.heap.objs.size + 1), H', I3, rfl, q3⟩⟩
    | next => exact False.elim hq'
    | brk => exact False.elim hq'
    | cont => exact False.elim hq'
theorem s_make {c : Nat} {x : Str} {p : Pos} (M : Mk X.K C f) (G : FnG X.prog X.w X.K X.mg X.base gd k f fd ps (spD S X.K ps.length h)) (hG : gd = true → X.A.guards = some []) (hr : Room (k + 1) X.A) (hb : Binds X.K fd ps []) (tk : Takes X W) (hg : Gl X x) (hm : X.mg x = some (.ref C))
    (ha : PA X (e :: es) (TAof S X W fa)) (hdb : (x == ("__debug__" : Str)) = false := by decide) (he : starEach (e :: es) X.env = (false, eval e X.env) :: starEach es X.env := by rfl) (hpl : (backTo pos (starEach es X.env)).any (·.1) = false := by rfl) :
    PE X (.Call (.Name x p) (e :: es) [] pos) (TEof S X W (fMake c C ps.length h fa)) := by
  have z : PE X (.Call (.Name x p) (e :: es) [] pos) (tMakeS C (spD S X.K ps.length h) (WE W) (TAof S X W fa)) := by
    refine ⟨fun pins s σ H Q I q => ?_⟩
    refine wpAny_Call_Name_kw (ld_glob I hg hm ?_ hdb)
    refine PySem.W.callWith_K (h₀ := X.base) I.ok.mod.kin M.kp (thn (ha.run pos pins s σ H _ I q) fun us s1 ⟨vs, H1, I1, r, q⟩ => ⟨I1.kIn, ?_⟩) he hpl
    exact run_makeG M G hG hr hb (passAt tk σ) I1 r q
  exact z.weak i_make
end
end
end MP

set_option maxRecDepth 100000
set_option maxHeartbeats 1000000
/-! MY2: f-strings, str(..), an empty dict, defs that call themselves. -/
namespace MP
open PySem PySem.Spec PyProof.Rows L2
section
variable {S : Se} {X : Cx} {W : WX} {σ : L2.St} {m : List Addr} {F H : Hp} {st : St}
/-- an int as it is shown -/
def intS (i : Int) : List Nat := (toString i : Str).cps.toList
theorem r_intS {K : PySem.W.Frag} (i : Int) : R K m F (.str (toString i : Str)) (.str (intS i)) := .str _
def fmtD : D → Option D
  | .str s => if s.length ≤ 16777216 then some (.str s) else none
  | .int i => if i.natAbs.log2 < 1920 then some (.str (intS i)) else none
  | _ => none
def fFmt (fe : Env → St → Out D) : Env → St → Out D := fun ρ st => (fe ρ st).bind fun d st1 => match fmtD d with
  | some x => .ok x st1
  | none => .bad
theorem s_fmt {e : Expr} {pos : Pos} {fe : Env → St → Out D} (he : PE X e (TEof S X W fe)) : PE X (.FormattedValue e (-1) none pos) (TEof S X W (fFmt fe)) := by
  refine (pe_fmt he).weak fun σ H Q ⟨ρ, m, F, st, E, r, h⟩ => ⟨ρ, m, F, st, E, r, (Post.bind h).imp (fun d m1 F1 H1 s1 q v rv => ?_) fun _ _ _ _ _ y => y⟩
  obtain ⟨st1, r1, q⟩ := q
  cases rv with
  | str x =>
    simp only [fmtD] at q
    split at q
    · rename_i z e
      split at e
      · rename_i hl
        cases e
        exact .inl ⟨⟨x.toArray⟩, rfl, by rw [show (⟨x.toArray⟩ : Str).length = x.length from mk_len x]; exact lim_le hl, q.now r1 _ (.str x)⟩
      · cases e
    · exact q.elim
  | int i =>
    simp only [fmtD] at q
    split at q
    · rename_i z e
      split at e
      · rename_i hl
        cases e
        exact .inr ⟨i, rfl, hl, q.now r1 _ (r_intS i)⟩
      · cases e
    · exact q.elim
  | _ => exact q.elim
theorem s_fs1 {e : Expr} {pos : Pos} {fe : Env → St → Out D} (he : PE X e (TEof S X W fe)) : PE X (.JoinedStr [e] pos) (TEof S X W fe) := pe_joined1 he
/-- the parts' judgements -/
inductive PJs (S : Se) (X : Cx) (W : WX) : List Expr → List (Env → St → Out D) → Prop
  | nil : PJs S X W [] []
  | cons {e : Expr} {f : Env → St → Out D} {es : List Expr} {fs : List (Env → St → Out D)} : PE X e (TEof S X W f) → PJs S X W es fs → PJs S X W (e :: es) (f :: fs)
def fJs : List (Env → St → Out D) → List Nat → Env → St → Out D
  | [], acc, _, st => .ok (.str acc) st
  | f :: fs, acc, ρ, st => (f ρ st).bind fun d st1 => match d with
    | .str y => if acc.length + y.length ≤ 16777216 then fJs fs (acc ++ y) ρ st1 else .bad
    | _ => .bad
theorem pj_of {es : List Expr} {fs : List (Env → St → Out D)} (h : PJs S X W es fs) : PJ X es (fs.map (TEof S X W)) := by
  induction h with
  | nil => exact .nil
  | cons h _ ih => exact .cons h ih
theorem js_in {σ : L2.St} {Q : VK} : ∀ (fs : List (Env → St → Out D)) (acc : List Nat) (H : Hp), TEof S X W (fJs fs acc) σ H Q → tJs (fs.map (TEof S X W)) (mk acc) σ H fun out H1 => Q (.str out) H1
  | [], acc, H, ⟨ρ, m, F, st, E, r, h⟩ => by
    have z := h.now r (.str ⟨acc.toArray⟩) (.str acc)
    exact z
  | f :: fs, acc, H, ⟨ρ, m, F, st, E, r, h⟩ => by
    refine ⟨ρ, m, F, st, E, r, (Post.bind h).imp (fun d m1 F1 H1 s1 q v rv => ?_) fun _ _ _ _ _ y => y⟩
    obtain ⟨st1, r1, q⟩ := q
    cases rv with
    | str y =>
      have q : Post X.K S.T m1 F1 H1 _ _ (if acc.length + y.length ≤ 16777216 then fJs fs (acc ++ y) ρ st1 else .bad) := q
      split at q
      · rename_i hl
        refine ⟨⟨y.toArray⟩, rfl, ?_, ?_⟩
        · rw [show (mk acc ++ (⟨y.toArray⟩ : Str)) = mk (acc ++ y) from mk_app acc y, mk_len, List.length_append]; exact lim_le hl
        · rw [show (mk acc ++ (⟨y.toArray⟩ : Str)) = mk (acc ++ y) from mk_app acc y]
          exact js_in fs (acc ++ y) H1 ⟨ρ, m1, F1, st1, E.mono s1.mono, r1, q⟩
      · exact q.elim
    | _ => exact q.elim
theorem s_js {v1 v2 : Expr} {rest : List Expr} {fs : List (Env → St → Out D)} {pos : Pos} (h : PJs S X W (v1 :: v2 :: rest) fs) : PE X (.JoinedStr (v1 :: v2 :: rest) pos) (TEof S X W (fJs fs [])) :=
  (pe_joined (pj_of h)).weak fun σ H Q q => js_in fs [] H q
def cStr : List D → St → Out D := fun ds st => match ds with
  | [.int i] => if i.natAbs.log2 < 1920 then .ok (.str (intS i)) st else .bad
  | [.str s] => .ok (.str s) st
  | _ => .bad
theorem o_str : OpC S X W (.type "str") cStr := by
  refine ⟨_, call_str_int.or SkE.call_str_str, fun σ m F st H Q vs ds r rs h => ?_⟩
  unfold cStr at h
  split at h
  · split at h
    · rename_i i hl
      obtain ⟨v, rfl, rv⟩ := rs.one
      cases rv
      exact .inl ⟨i, rfl, hl, h.now r _ (r_intS i)⟩
    · exact h.elim
  · rename_i s
    obtain ⟨v, rfl, rv⟩ := rs.one
    cases rv
    exact .inr ⟨_, rfl, h.now r _ (.str s)⟩
  · exact h.elim
/-- {} that stands still -/
def fEmp : Env → St → Out D := fun _ st => .ok .emp st
theorem s_emp {pos : Pos} : PE X (.Dict [] [] pos) (TEof S X W fEmp) := by
  refine pe_dnewK.weak fun σ H Q ⟨ρ, m, F, st, E, r, h⟩ => fun d hd => ?_
  obtain ⟨s, r'⟩ := r.frz (o := .dK []) hd fun ps z => by cases z
  exact h m _ _ s r' _ (.emp upd_same)
end
/-- a def of which nothing is known -/
def hBad : List D → St → Out D := fun _ _ => .bad
theorem fnG_bad {P : Program} {w : World} {K : PySem.W.Frag} {mg : Str → Option Value} {base : Heap} {gd : Bool} {lv : Nat} {fa : Addr} {fd : FuncData} {par : List Str} {S : Se} : FnG P w K mg base gd lv fa fd par (spD S K par.length hBad) :=
  ⟨fun vs H Q E ⟨ds, m, F, st, hl, rs, _, _⟩ => by rw [rs.length]; exact hl, fun A fr s H ar us vs Q E _ _ _ _ _ ⟨ds, m, F, st, _, _, _, h⟩ => h.elim⟩
end MP

set_option maxRecDepth 100000
set_option maxHeartbeats 1000000
/-! MY3: small words of the printed proofs. -/
namespace MP
open PySem PySem.Spec PyProof.Rows L2
/-- the class with number i at C -/
def okC (i : Nat) (C : Addr) : Ok := fun c C' => decide (c = i) && decide (C' = C)
theorem okC_eq {i : Nat} {C : Addr} {c : Nat} {C' : Addr} (h : okC i C c C' = true) : C' = C := by
  simp only [okC, Bool.and_eq_true, decide_eq_true_eq] at h
  exact h.2
theorem okC_all {i : Nat} {C : Addr} {P : Addr → Prop} (h : P C) : ∀ c C', okC i C c C' = true → P C' := fun c C' e => by
  rw [okC_eq e]; exact h
@[simp] theorem okC_self (i : Nat) (C : Addr) : okC i C i C = true := by simp [okC]
/-- == of what is no list and no tuple, wherever -/
def opEqI : D → D → St → Out D := fun x y st => match eqS x y with
  | some b => .ok (.bl b) st
  | none => .bad
theorem o_eqI {S : Se} {X : Cx} {W : WX} : Op2 S X W (compareOp .Eq) opEqI := by
  refine ⟨_, op_eq, fun σ m F st H Q v w x y r rx ry h => ?_⟩
  unfold opEqI at h
  split at h
  · rename_i b' e'
    obtain ⟨h1, h2⟩ := eqS_of rx ry e'
    exact ⟨h1, by rw [h2]; exact h.now r _ (.bl _)⟩
  · exact h.elim
end MP

set_option maxRecDepth 100000
set_option maxHeartbeats 1000000
/-! MR1: reckoning with the interpreter: defs that leave the store as it was. -/
namespace MP
open PySem

/-- each running def began with no more objects than stand now -/
def Fine (st : St) : Prop := ∀ p ∈ st.fls, p.1 ≤ st.objs.length
theorem run_pure {n : Nat} {b : Env → St → SO} {ds : List D} {st : St} {d : D} (h : b (ds.map some ++ List.replicate (n - ds.length) none) (enter st) = .ret d (enter st)) (hd : d.lo st.objs.length = true) : runF false n b ds st = .ok d st := by
  unfold runF
  rw [h]
  show leave false st d (enter st) = _
  unfold leave enter thaw
  simp [hd]
/-- .. that made objects of its own -/
theorem run_own {n : Nat} {b : Env → St → SO} {ds : List D} {st : St} {d : D} {more : List O} (h : b (ds.map some ++ List.replicate (n - ds.length) none) (enter st) = .ret d { objs := st.objs ++ more, fls := (st.objs.length, false) :: st.fls }) (hd : d.lo st.objs.length = true) :
    runF false n b ds st = .ok d st := by
  unfold runF
  rw [h]
  unfold ended leave thaw
  simp [hd]
end MP

set_option maxRecDepth 100000
set_option maxHeartbeats 1000000
/-! MR2: values that show and that are themselves. -/
namespace MP
open PySem

mutual
/-- nothing of the store, signs that are signs, ints of at most twelve figures -/
def D.pl : D → Bool
  | .int i => decide (i.natAbs < 10 ^ 12)
  | .str s => s.all fun c => decide (c < 1114112)
  | .tup ds => D.pls ds
  | .lst ds => D.pls ds
  | .lsk ds => D.pls ds
  | .ref _ => false
  | .xo _ _ _ _ => false
  | .fv _ _ => false
  | .emp => false
  | _ => true
def D.pls : List D → Bool
  | [] => true
  | d :: ds => d.pl && D.pls ds
end
mutual
def D.wt : D → Nat
  | .int _ => 64
  | .str s => s.length
  | .tup ds => D.wts ds
  | .lst ds => D.wts ds
  | .lsk ds => D.wts ds
  | _ => 0
def D.wts : List D → Nat
  | [] => 0
  | d :: ds => d.wt + 1 + D.wts ds
end
mutual
def D.dp : D → Nat
  | .tup ds => D.dps ds + 1
  | .lst ds => D.dps ds + 1
  | .lsk ds => D.dps ds + 1
  | _ => 0
def D.dps : List D → Nat
  | [] => 0
  | d :: ds => max d.dp (D.dps ds)
end
theorem log_lt {n : Nat} (h : n < 10 ^ 12) : n.log2 < 40 := by
  by_cases z : n = 0
  · subst z; decide
  · exact (Nat.log2_lt z).mpr (Nat.lt_trans h (by decide))
mutual
theorem pl_facts : ∀ d : D, d.pl = true → d.noref = true ∧ d.py.canLay0 = true ∧ d.py.intsShort 13 = true ∧ d.py.showable = true ∧ d.py.depth = d.dp ∧ d.py.weight ≤ d.wt
  | .non, _ => ⟨rfl, rfl, rfl, rfl, rfl, Nat.le_refl _⟩
  | .bl _, _ => ⟨rfl, rfl, rfl, rfl, rfl, Nat.le_refl _⟩
  | .int i, h => by
    simp only [D.pl, decide_eq_true_eq] at h
    have hl := log_lt h
    refine ⟨rfl, rfl, ?_, ?_, rfl, ?_⟩
    · simp only [D.py, PyData.intsShort, decide_eq_true_eq]; exact PyData.shown_int_le h
    · simp only [D.py, PyData.showable, decide_eq_true_eq]; omega
    · simp only [D.py, PyData.weight, D.wt]; split <;> omega
  | .str s, h => by
    simp only [D.pl, List.all_eq_true, decide_eq_true_eq] at h
    refine ⟨rfl, ?_, rfl, rfl, rfl, ?_⟩
    · simp only [D.py, PyData.canLay0, PyData.strOk]
      simpa using h
    · simp [D.py, PyData.weight, D.wt]
  | .tup ds, h => by
    obtain ⟨h1, h2, h3, h4, h5, h6⟩ := pls_facts ds (by simpa [D.pl] using h)
    exact ⟨by simpa [D.noref] using h1, by simpa [D.py, PyData.canLay0] using h2, by simpa [D.py, PyData.intsShort] using h3, by simpa [D.py, PyData.showable] using h4, by simpa [D.py, PyData.depth, D.dp] using h5, by simpa [D.py, PyData.weight, D.wt] using h6⟩
  | .lst ds, h => by
    obtain ⟨h1, h2, h3, h4, h5, h6⟩ := pls_facts ds (by simpa [D.pl] using h)
    exact ⟨by simpa [D.noref] using h1, by simpa [D.py, PyData.canLay0] using h2, by simpa [D.py, PyData.intsShort] using h3, by simpa [D.py, PyData.showable] using h4, by simpa [D.py, PyData.depth, D.dp] using h5, by simpa [D.py, PyData.weight, D.wt] using h6⟩
  | .lsk ds, h => by
    obtain ⟨h1, h2, h3, h4, h5, h6⟩ := pls_facts ds (by simpa [D.pl] using h)
    exact ⟨by simpa [D.noref] using h1, by simpa [D.py, PyData.canLay0] using h2, by simpa [D.py, PyData.intsShort] using h3, by simpa [D.py, PyData.showable] using h4, by simpa [D.py, PyData.depth, D.dp] using h5, by simpa [D.py, PyData.weight, D.wt] using h6⟩
  | .ref _, h => by simp [D.pl] at h
  | .xo _ _ _ _, h => by simp [D.pl] at h
  | .fv _ _, h => by simp [D.pl] at h
  | .emp, h => by simp [D.pl] at h
theorem pls_facts : ∀ ds : List D, D.pls ds = true → D.norefs ds = true ∧ PyData.canLayAll0 (D.pys ds) = true ∧ PyData.intsShortAll 13 (D.pys ds) = true ∧ PyData.showableAll (D.pys ds) = true ∧ PyData.depthAll (D.pys ds) = D.dps ds ∧ PyData.weightAll (D.pys ds) ≤ D.wts ds
  | [], _ => ⟨rfl, rfl, rfl, rfl, rfl, Nat.le_refl _⟩
  | d :: ds, h => by
    simp only [D.pls, Bool.and_eq_true] at h
    obtain ⟨h1, h2, h3, h4, h5, h6⟩ := pl_facts d h.1
    obtain ⟨k1, k2, k3, k4, k5, k6⟩ := pls_facts ds h.2
    refine ⟨by simp [D.norefs, h1, k1], by simp [D.pys, PyData.canLayAll0, h2, k2], by simp [D.pys, PyData.intsShortAll, h3, k3], by simp [D.pys, PyData.showableAll, h4, k4], by simp [D.pys, PyData.depthAll, D.dps, h5, k5], ?_⟩
    simp only [D.pys, PyData.weightAll, D.wts]; omega
end
theorem reprOk_of {d : D} (h : d.pl = true) (hw : d.wt ≤ 1048576) (hd : d.dp ≤ 64) : reprOk d = true := by
  obtain ⟨h1, h2, h3, h4, h5, h6⟩ := pl_facts d h
  have hl : d.py.layable0 = true := by
    simp only [PyData.layable0, h2, h5, Bool.true_and, Bool.and_eq_true, decide_eq_true_eq]
    exact ⟨hd, Nat.le_trans h6 (Nat.le_trans hw (by decide))⟩
  have := PyData.shown_le_of_layable0 hl h3
  simp only [reprOk, h1, h4, Bool.and_eq_true, decide_eq_true_eq, h5]
  exact ⟨⟨⟨trivial, trivial⟩, by omega⟩, by omega⟩
theorem shp_of {d : D} (h : d.pl = true) (hd : d.dp ≤ 64) : shp d = true := by
  obtain ⟨h1, h2, h3, h4, h5, h6⟩ := pl_facts d h
  simp [shp, SeqAt.shaped, h1, h2, h5, hd]
theorem top_pl {d : D} {st : St} (h : d.pl = true) : top st d = d := by
  cases d <;> first | rfl | simp [D.pl] at h
theorem eqS_self : ∀ d : D, d.pl = true → eqS d d = some true ∨ eqS d d = none := by
  intro d h
  cases d <;> simp [eqS]
theorem eqD_self {d : D} {st : St} (h : d.pl = true) (hd : d.dp ≤ 64) : eqD st d d = some true := by
  unfold eqD
  rcases eqS_self d h with e | e
  · rw [e]
  · rw [e]
    simp only [top_pl h, shp_of h hd, and_self, if_true]
    rw [SeqAt.eqv_refl _ (pl_facts d h).2.1]
theorem opEq_self {d : D} {st : St} (h : d.pl = true) (hd : d.dp ≤ 64) : opEq d d st = .ok (.bl true) st := by
  unfold opEq; rw [eqD_self h hd]
theorem opNe_self {d : D} {st : St} (h : d.pl = true) (hd : d.dp ≤ 64) : opNe d d st = .ok (.bl false) st := by
  unfold opNe; rw [eqD_self h hd]; rfl
theorem cRepr_of {d : D} {st : St} (h : d.pl = true) (hw : d.wt ≤ 1048576) (hd : d.dp ≤ 64) : cRepr [d] st = .ok (.str d.py.shown.cps.toList) st := by
  simp only [cRepr, reprOk_of h hw hd, if_true]
/-- repr(x) == repr(x) and x == x -/
theorem alike_self {d : D} {st : St} (h : d.pl = true) (hw : d.wt ≤ 1048576) (hd : d.dp ≤ 64) :
    (fAnd (f2 opEq (fCall cRepr (fCons (fVar 0) (fNil))) (fCall cRepr (fCons (fVar 1) (fNil)))) (f2 opEq (fVar 0) (fVar 1))) [some d, some d] st = .ok (.bl true) st := by
  simp [fAnd, f2, fCall, fCons, fVar, fNil, cRepr_of h hw hd, opEq_self h hd]
  simp [opEq, eqD, eqS]
theorem pls_append {a b : List D} : D.pls (a ++ b) = (D.pls a && D.pls b) := by
  induction a with
  | nil => simp [D.pls]
  | cons x xs ih => simp [D.pls, ih, Bool.and_assoc]
theorem wts_append {a b : List D} : D.wts (a ++ b) = D.wts a + D.wts b := by
  induction a with
  | nil => simp [D.wts]
  | cons x xs ih => simp [D.wts, ih]; omega
theorem pls_iff {ds : List D} : D.pls ds = true ↔ ∀ d ∈ ds, d.pl = true := by
  induction ds with
  | nil => simp [D.pls]
  | cons x xs ih => simp [D.pls, ih]
theorem wts_le {n : Nat} {ds : List D} (h : ∀ d ∈ ds, d.wt ≤ n) : D.wts ds ≤ ds.length * (n + 1) := by
  induction ds with
  | nil => simp [D.wts]
  | cons x xs ih =>
    have h1 := h x List.mem_cons_self
    have h2 := ih fun d hd => h d (List.mem_cons_of_mem _ hd)
    simp only [D.wts, List.length_cons, Nat.succ_mul]; omega
theorem dps_le {n : Nat} {ds : List D} (h : ∀ d ∈ ds, d.dp ≤ n) : D.dps ds ≤ n := by
  induction ds with
  | nil => simp [D.dps]
  | cons x xs ih =>
    have h1 := h x List.mem_cons_self
    have h2 := ih fun d hd => h d (List.mem_cons_of_mem _ hd)
    simp only [D.dps]; omega
/-- what holds nothing of the store lies below everything -/
theorem los_iff {n : Nat} {ds : List D} : D.los n ds = true ↔ ∀ d ∈ ds, d.lo n = true := by
  induction ds with
  | nil => simp [D.los]
  | cons x xs ih => simp [D.los, ih]
mutual
theorem lo_pl (n : Nat) : ∀ d : D, d.pl = true → d.lo n = true
  | .non, _ => rfl
  | .bl _, _ => rfl
  | .int _, _ => rfl
  | .str _, _ => rfl
  | .tup ds, h => los_pl n ds (by simpa [D.pl] using h)
  | .lst ds, h => los_pl n ds (by simpa [D.pl] using h)
  | .lsk ds, h => los_pl n ds (by simpa [D.pl] using h)
  | .ref _, h => by simp [D.pl] at h
  | .xo _ _ _ _, h => by simp [D.pl] at h
  | .fv _ _, h => by simp [D.pl] at h
  | .emp, h => by simp [D.pl] at h
theorem los_pl (n : Nat) : ∀ ds : List D, D.pls ds = true → D.los n ds = true
  | [], _ => rfl
  | d :: ds, h => by
    simp only [D.pls, Bool.and_eq_true] at h
    simp [D.los, lo_pl n d h.1, los_pl n ds h.2]
end
end MP

set_option maxRecDepth 100000
set_option maxHeartbeats 4000000
/-! MR3: what the combinators reckon, for simp; what is drawn from the bag. -/
namespace MP
open PySem L2

theorem run_end {n : Nat} {b : Env → St → SO} {ds : List D} {st : St} {d : D} {objs : List O} (h : b (ds.map some ++ List.replicate (n - ds.length) none) (enter st) = .ret d { objs := objs, fls := (st.objs.length, false) :: st.fls }) (hd : d.lo st.objs.length = true) :
    runF false n b ds st = .ok d { objs := objs.take st.objs.length, fls := st.fls } := by
  unfold runF
  rw [h]
  unfold ended leave thaw
  simp [hd]
theorem put_pls {st : St} {i : Nat} {ds : List D} (h : D.pls ds = true) : st.put i (.lst ds) = { objs := st.objs.set i (.lst ds), fls := st.fls } := by
  unfold St.put
  congr 1
  conv => rhs; rw [← List.map_id st.fls]
  refine List.map_congr_left fun p hp => ?_
  simp [O.lo, los_pl p.1 ds h]

/-! ### the bag from which laws draw -/
def bagO (b0 b1 b2 : Int) (cs : List Int) : List D := [.int b0, .int b1, .int b2, .lst (cs.map .int)]
structure Bag (objs : List O) (i n : Nat) : Prop where
  ex : ∃ (b0 b1 b2 : Int) (cs : List Int), objs[i]? = some (.lst (bagO b0 b1 b2 cs)) ∧ 0 ≤ b0 ∧ 0 ≤ b1 ∧ b1 < 2147483647 ∧ 0 ≤ b2 ∧ b2 ≤ (n : Int) ∧ (∀ c ∈ cs, 0 ≤ c) ∧ cs.length ≤ 1000
def b_take : Env → St → SO := gSeq (gIf (fB (f2 opEq (f2 opIdx (fVar 0) (fC (.int 0))) (fC (.int 0)))) (gSeq (gSet 2 (f2 opIdx (f2 opAdd (fSlc (f2 opIdx (fVar 0) (fC (.int 3))) (fPart (f2 opIdx (fVar 0) (fC (.int 2)))) (fNoP)) (fLst (fCons (fC (.int 0)) (fNil)))) (fC (.int 0)))) (gSeq (gAugPut (fun x y => x + y) (fVar 0) (fC (.int 2)) (fC (.int 1))) (gSeq (gIf (fB (f2 opGe (fVar 2) (f2 opPow (fC (.int 10)) (fC (.int 18))))) (gSeq (gPut (fVar 2) (fVar 0) (fC (.int 0))) (gNx)) (gNx)) (gSeq (gSet 3 (f2 opAdd (f2 opAdd (f2 opMul (f2 opIdx (fVar 0) (fC (.int 1))) (fC (.int 48271))) (f2 opMod (fCall cInt (fCons (fVar 2) (fNil))) (fC (.int 2147483647)))) (f2 opMul (fC (.int 7919)) (f2 opIdx (fVar 0) (fC (.int 2)))))) (gSeq (gPut (f2 opMod (fCall cInt (fCons (fVar 3) (fNil))) (fC (.int 2147483647))) (fVar 0) (fC (.int 1))) (gNx)))))) (gNx)) (gSeq (gIf (fB (f2 opGt (f2 opIdx (fVar 0) (fC (.int 0))) (fC (.int 0)))) (gSeq (gSet 4 (f2 opMod (fCall cInt (fCons (f2 opIdx (fVar 0) (fC (.int 0))) (fNil))) (fVar 1))) (gSeq (gPut (f2 opDiv (fCall cInt (fCons (f2 opIdx (fVar 0) (fC (.int 0))) (fNil))) (fVar 1)) (fVar 0) (fC (.int 0))) (gSeq (gRet (fVar 4)) (gNx)))) (gNx)) (gSeq (gSet 5 (f2 opMod (fCall cInt (fCons (f2 opMul (f2 opAdd (f2 opIdx (fVar 0) (fC (.int 1))) (fC (.int 1))) (fC (.int 39373))) (fNil))) (fC (.int 1000000007)))) (gSeq (gSet 6 (f2 opMod (fCall cInt (fCons (f2 opMul (f2 opMod (fCall cInt (fCons (f2 opMul (fVar 5) (fVar 5)) (fNil))) (fC (.int 998244353))) (fC (.int 30011))) (fNil))) (fC (.int 998244353)))) (gSeq (gRet (f2 opMod (fCall cInt (fCons (f2 opDiv (fVar 6) (fC (.int 7))) (fNil))) (fVar 1))) (gNx)))))
theorem cMul_of {a b : Int} (ha : 0 ≤ a) (ha' : a < 2 ^ 250) (hb : 0 ≤ b) (hb' : b < 2 ^ 250) : cMul a b = true := by
  have f : ∀ z : Int, 0 ≤ z → z < 2 ^ 250 → z.natAbs.log2 < 251 := fun z h0 h1 => by
    by_cases hz : z.natAbs = 0
    · rw [hz]; decide
    · refine (Nat.log2_lt hz).mpr ?_
      have : ((z.natAbs : Nat) : Int) = z := Int.natAbs_of_nonneg h0
      have h2 : ((z.natAbs : Nat) : Int) < ((2 ^ 250 : Nat) : Int) := by rw [this]; exact_mod_cast h1
      have h3 : z.natAbs < 2 ^ 250 := by exact_mod_cast h2
      exact Nat.lt_trans h3 (by decide)
  have h1 := f a ha ha'
  have h2 := f b hb hb'
  simp only [cMul, decide_eq_true_eq]; omega
theorem cDiv_of {a b : Int} (hb : 0 < b) (hb' : b < 2 ^ 250) : cDiv a b = true := by
  have hz : b.natAbs ≠ 0 := by omega
  have : b.natAbs.log2 < 251 := by
    refine (Nat.log2_lt hz).mpr ?_
    have e : ((b.natAbs : Nat) : Int) = b := Int.natAbs_of_nonneg (by omega)
    have h2 : ((b.natAbs : Nat) : Int) < ((2 ^ 250 : Nat) : Int) := by rw [e]; exact_mod_cast hb'
    have h3 : b.natAbs < 2 ^ 250 := by exact_mod_cast h2
    exact Nat.lt_trans h3 (by decide)
  simp only [cDiv, hb, decide_true, Bool.true_and, decide_eq_true_eq]; omega
theorem two64 : (2 : Int) ^ 64 = 18446744073709551616 := by decide
theorem lt1000 {z : Int} (h : z < 2 ^ 200) : z < 2 ^ 250 := Int.lt_trans h (by decide)
theorem bag_pls {b0 b1 b2 : Int} {cs : List Int} {n : Nat} : D.los n (bagO b0 b1 b2 cs) = true := by
  have : D.los n (cs.map D.int) = true := los_iff.mpr fun d hd => by
    obtain ⟨c, _, rfl⟩ := List.mem_map.mp hd
    rfl
  simp [bagO, D.los, D.lo, this]
theorem put_bag {st : St} {i : Nat} {b0 b1 b2 : Int} {cs : List Int} : st.put i (.lst (bagO b0 b1 b2 cs)) = { objs := st.objs.set i (.lst (bagO b0 b1 b2 cs)), fls := st.fls } := by
  unfold St.put
  congr 1
  conv => rhs; rw [← List.map_id st.fls]
  refine List.map_congr_left fun p hp => ?_
  simp [O.lo, bag_pls]
theorem cut_ints {cs : List Int} {lo hi : Option Int} : cut (cs.map D.int) lo hi = (cut cs lo hi).map D.int := by
  simp [cut, List.map_drop, List.map_take]
theorem first_cell {cs : List Int} (h : ∀ c ∈ cs, 0 ≤ c) : ∃ c : Int, 0 ≤ c ∧ atI (cs.map D.int ++ [D.int 0]) 0 = some (.int c) := by
  cases cs with
  | nil => exact ⟨0, Int.le_refl _, rfl⟩
  | cons c cs => exact ⟨c, h c List.mem_cons_self, by simp [atI, ixN]; rw [if_pos (by omega)]; rfl⟩
theorem opIdx_bag {st : St} {i : Nat} {b0 b1 b2 : Int} {cs : List Int} (e : st.objs[i]? = some (.lst (bagO b0 b1 b2 cs))) :
    opIdx (.ref i) (.int 0) st = .ok (.int b0) st ∧ opIdx (.ref i) (.int 1) st = .ok (.int b1) st ∧ opIdx (.ref i) (.int 2) st = .ok (.int b2) st ∧ opIdx (.ref i) (.int 3) st = .ok (.lst (cs.map .int)) st := by
  refine ⟨?_, ?_, ?_, ?_⟩ <;> simp [opIdx, seqOf, lstOf, e, bagO, atI, ixN]
theorem put_at_bag {st : St} {i : Nat} {b0 b1 b2 : Int} {cs : List Int} (e : st.objs[i]? = some (.lst (bagO b0 b1 b2 cs))) (z : Int) :
    putAt (.ref i) (.int 0) (.int z) st = some { objs := st.objs.set i (.lst (bagO z b1 b2 cs)), fls := st.fls } ∧ putAt (.ref i) (.int 1) (.int z) st = some { objs := st.objs.set i (.lst (bagO b0 z b2 cs)), fls := st.fls } ∧ putAt (.ref i) (.int 2) (.int z) st = some { objs := st.objs.set i (.lst (bagO b0 b1 z cs)), fls := st.fls } := by
  refine ⟨?_, ?_, ?_⟩
  · rw [← put_bag]; simp [putAt, refOf, e, bagO, ixN]
  · rw [← put_bag]; simp [putAt, refOf, e, bagO, ixN]
  · rw [← put_bag]; simp [putAt, refOf, e, bagO, ixN]
/-- behind the first part of the draw -/
def b_take2 : Env → St → SO := gSeq (gIf (fB (f2 opGt (f2 opIdx (fVar 0) (fC (.int 0))) (fC (.int 0)))) (gSeq (gSet 4 (f2 opMod (fCall cInt (fCons (f2 opIdx (fVar 0) (fC (.int 0))) (fNil))) (fVar 1))) (gSeq (gPut (f2 opDiv (fCall cInt (fCons (f2 opIdx (fVar 0) (fC (.int 0))) (fNil))) (fVar 1)) (fVar 0) (fC (.int 0))) (gSeq (gRet (fVar 4)) (gNx)))) (gNx)) (gSeq (gSet 5 (f2 opMod (fCall cInt (fCons (f2 opMul (f2 opAdd (f2 opIdx (fVar 0) (fC (.int 1))) (fC (.int 1))) (fC (.int 39373))) (fNil))) (fC (.int 1000000007)))) (gSeq (gSet 6 (f2 opMod (fCall cInt (fCons (f2 opMul (f2 opMod (fCall cInt (fCons (f2 opMul (fVar 5) (fVar 5)) (fNil))) (fC (.int 998244353))) (fC (.int 30011))) (fNil))) (fC (.int 998244353)))) (gSeq (gRet (f2 opMod (fCall cInt (fCons (f2 opDiv (fVar 6) (fC (.int 7))) (fNil))) (fVar 1))) (gNx))))
theorem take2_ok {st : St} {i n : Nat} {many : Int} {y z : Option D} (B : Bag st.objs i n) (h0 : 0 < many) (h1 : many < 2 ^ 200) :
    ∃ (d : Int) (o : O), b_take2 [some (.ref i), some (.int many), y, z, none, none, none] st = .ret (.int d) { objs := st.objs.set i o, fls := st.fls } ∧ 0 ≤ d ∧ d < many ∧ Bag (st.objs.set i o) i n := by
  obtain ⟨b0, b1, b2, cs, e, p0, p1, p2, p3, p4, p5, p6⟩ := B.ex
  have hi : i < st.objs.length := by
    rcases Nat.lt_or_ge i st.objs.length with h | h
    · exact h
    · rw [List.getElem?_eq_none h] at e; cases e
  obtain ⟨i0, i1, i2, i3⟩ := opIdx_bag e
  have hm : cMod b0 many = true := by simp [cMod, h0]
  have hd : cDiv b0 many = true := cDiv_of h0 (lt1000 h1)
  by_cases hb : 0 < b0
  · refine ⟨b0 % many, .lst (bagO (b0 / many) b1 b2 cs), ?_, Int.emod_nonneg _ (by omega), Int.emod_lt_of_pos _ h0, ⟨b0 / many, b1, b2, cs, by simp [hi], Int.ediv_nonneg p0 (by omega), p1, p2, p3, p4, p5, p6⟩⟩
    obtain ⟨w0, w1, w2⟩ := put_at_bag e (b0 / many)
    simp [b_take2, gSeq, gIf, fB, f2, fVar, fC, i0, i1, i2, i3, opOrd, hb, gSet, fCall, fCons, fNil, cInt, opI, hm, gPut, hd, w0, gRet]
  · have hb0 : b0 = 0 := by omega
    subst hb0
    have g1 : cMul (b1 + 1) 39373 = true := cMul_of (by omega) (lt1000 (by omega)) (by decide) (by decide)
    generalize hB : (b1 + 1) * 39373 % 1000000007 = bg
    have B0 : 0 ≤ bg := by omega
    have B1 : bg < 1000000007 := by omega
    have g2 : cMul bg bg = true := cMul_of B0 (lt1000 (by omega)) B0 (lt1000 (by omega))
    generalize hC : bg * bg % 998244353 = bh
    have C0 : 0 ≤ bh := by omega
    have C1 : bh < 998244353 := by omega
    have g3 : cMul bh 30011 = true := cMul_of C0 (lt1000 (by omega)) (by decide) (by decide)
    generalize hD : bh * 30011 % 998244353 = sc
    have m1 : ∀ x : Int, cMod x 1000000007 = true := fun x => by simp [cMod]
    have m2 : ∀ x : Int, cMod x 998244353 = true := fun x => by simp [cMod]
    have m3 : ∀ x : Int, cMod x many = true := fun x => by simp [cMod, h0]
    have m4 : ∀ x : Int, cDiv x 7 = true := fun x => cDiv_of (by decide) (by decide)
    refine ⟨sc / 7 % many, .lst (bagO 0 b1 b2 cs), ?_, Int.emod_nonneg _ (by omega), Int.emod_lt_of_pos _ h0, ⟨0, b1, b2, cs, by simp [hi], Int.le_refl _, p1, p2, p3, p4, p5, p6⟩⟩
    have same : st.objs.set i (.lst (bagO 0 b1 b2 cs)) = st.objs := by
      have := List.getElem?_eq_some_iff.mp e
      obtain ⟨_, e'⟩ := this
      rw [← e', List.set_getElem_self]
    rw [same]
    simp [b_take2, gSeq, gIf, fB, f2, fVar, fC, i0, i1, i2, i3, opOrd, gSet, fCall, fCons, fNil, cInt, opI, opMul, opAdd, gRet, gNx, g1, hB, m1, g2, hC, m2, g3, hD, m3, m4]
theorem take_ok {st : St} {i n : Nat} {many : Int} (B : Bag st.objs i n) (hn : n < 2 ^ 64) (h0 : 0 < many) (h1 : many < 2 ^ 200) :
    ∃ (d : Int) (o : O), runF false 7 b_take [.ref i, .int many] st = .ok (.int d) { objs := st.objs.set i o, fls := st.fls } ∧ 0 ≤ d ∧ d < many ∧ Bag (st.objs.set i o) i (n + 1) := by
  have key : ∃ (d : Int) (o : O), b_take [some (.ref i), some (.int many), none, none, none, none, none] (enter st) = .ret (.int d) { objs := st.objs.set i o, fls := (st.objs.length, false) :: st.fls } ∧ 0 ≤ d ∧ d < many ∧ Bag (st.objs.set i o) i (n + 1) := by
    obtain ⟨b0, b1, b2, cs, e, p0, p1, p2, p3, p4, p5, p6⟩ := B.ex
    have hi : i < st.objs.length := by
      rcases Nat.lt_or_ge i st.objs.length with h | h
      · exact h
      · rw [List.getElem?_eq_none h] at e; cases e
    obtain ⟨st1, es1⟩ : ∃ s, s = enter st := ⟨_, rfl⟩
    have eo : st1.objs = st.objs := by rw [es1]; rfl
    have ef : st1.fls = (st.objs.length, false) :: st.fls := by rw [es1]; rfl
    rw [← es1]
    have e1 : st1.objs[i]? = some (.lst (bagO b0 b1 b2 cs)) := by rw [eo]; exact e
    obtain ⟨i0, i1, i2, i3⟩ := opIdx_bag e1
    by_cases hb : b0 = 0
    · subst hb
      have hcs := cut_ints (cs := cs) (lo := some b2) (hi := none)
      have hpos : ∀ c ∈ cut cs (some b2) none, 0 ≤ c := fun c hc => p5 c (List.mem_of_mem_drop (List.mem_of_mem_take hc))
      have hlen : (cut cs (some b2) none).length ≤ 1000 := by
        simp only [cut, List.length_take, List.length_drop]; omega
      obtain ⟨c, c0, ec⟩ := first_cell hpos
      obtain ⟨_, _, w2⟩ := put_at_bag e1 (b2 + 1)
      obtain ⟨st2, es2⟩ : ∃ s : St, s = { objs := st1.objs.set i (.lst (bagO 0 b1 (b2 + 1) cs)), fls := st1.fls } := ⟨_, rfl⟩
      have e2 : st2.objs[i]? = some (.lst (bagO 0 b1 (b2 + 1) cs)) := by rw [es2]; simp [eo, hi]
      -- the great cell
      obtain ⟨c', st3, c1, es3, e3⟩ : ∃ (c' : Int) (st3 : St), 0 ≤ c' ∧ st3 = { objs := st.objs.set i (.lst (bagO c' b1 (b2 + 1) cs)), fls := (st.objs.length, false) :: st.fls } ∧
          (gIf (fB (f2 opGe (fVar 2) (f2 opPow (fC (.int 10)) (fC (.int 18))))) (gSeq (gPut (fVar 2) (fVar 0) (fC (.int 0))) (gNx)) (gNx)) [some (.ref i), some (.int many), some (.int c), none, none, none, none] st2 = .nx [some (.ref i), some (.int many), some (.int c), none, none, none, none] st3 := by
        have hp : cPow 10 18 = true := by decide
        obtain ⟨w0, _, _⟩ := put_at_bag e2 c
        by_cases hc : (1000000000000000000 : Int) ≤ c
        · refine ⟨c, _, c0, rfl, ?_⟩
          simp [gIf, fB, f2, fVar, fC, opI, hp, opOrd, gSeq, gPut, gNx, w0]
          simp [es2, eo, ef]
          intro hh; omega
        · refine ⟨0, _, Int.le_refl _, rfl, ?_⟩
          simp [gIf, fB, f2, fVar, fC, opI, hp, opOrd, gSeq, gPut, gNx, w0]
          simp [es2, eo, ef]
          intro hh; omega
      have e4 : st3.objs[i]? = some (.lst (bagO c' b1 (b2 + 1) cs)) := by rw [es3]; simp [hi]
      obtain ⟨j0, j1, j2, j3⟩ := opIdx_bag e4
      have g1 : cMul b1 48271 = true := cMul_of p1 (lt1000 (by omega)) (by decide) (by decide)
      have g2 : cMul 7919 (b2 + 1) = true := cMul_of (by decide) (by decide) (by omega) (lt1000 (by
        have : ((n : Nat) : Int) < ((2 ^ 64 : Nat) : Int) := by exact_mod_cast hn
        have t : ((2 ^ 64 : Nat) : Int) + 1 < 2 ^ 200 := by decide
        omega))
      have m1 : ∀ x : Int, cMod x 2147483647 = true := fun x => by simp [cMod]
      obtain ⟨s', hs'⟩ : ∃ s' : Int, s' = b1 * 48271 + c % 2147483647 + 7919 * (b2 + 1) := ⟨_, rfl⟩
      obtain ⟨_, w1, _⟩ := put_at_bag e4 (s' % 2147483647)
      have B' : Bag (st3.objs.set i (.lst (bagO c' (s' % 2147483647) (b2 + 1) cs))) i (n + 1) := ⟨c', s' % 2147483647, b2 + 1, cs, by rw [es3]; simp [hi], c1, by omega, by omega, by omega, by push_cast; omega, p5, p6⟩
      obtain ⟨d, o, r1, r2, r3, r4⟩ := take2_ok (st := { objs := st3.objs.set i (.lst (bagO c' (s' % 2147483647) (b2 + 1) cs)), fls := st3.fls }) (many := many) (y := some (.int c)) (z := some (.int s')) B' h0 h1
      refine ⟨d, o, ?_, r2, r3, by simpa [es3] using r4⟩
      have first : b_take = gSeq (gIf (fB (f2 opEq (f2 opIdx (fVar 0) (fC (.int 0))) (fC (.int 0)))) (gSeq (gSet 2 (f2 opIdx (f2 opAdd (fSlc (f2 opIdx (fVar 0) (fC (.int 3))) (fPart (f2 opIdx (fVar 0) (fC (.int 2)))) (fNoP)) (fLst (fCons (fC (.int 0)) (fNil)))) (fC (.int 0)))) (gSeq (gAugPut (fun x y => x + y) (fVar 0) (fC (.int 2)) (fC (.int 1))) (gSeq (gIf (fB (f2 opGe (fVar 2) (f2 opPow (fC (.int 10)) (fC (.int 18))))) (gSeq (gPut (fVar 2) (fVar 0) (fC (.int 0))) (gNx)) (gNx)) (gSeq (gSet 3 (f2 opAdd (f2 opAdd (f2 opMul (f2 opIdx (fVar 0) (fC (.int 1))) (fC (.int 48271))) (f2 opMod (fCall cInt (fCons (fVar 2) (fNil))) (fC (.int 2147483647)))) (f2 opMul (fC (.int 7919)) (f2 opIdx (fVar 0) (fC (.int 2)))))) (gSeq (gPut (f2 opMod (fCall cInt (fCons (fVar 3) (fNil))) (fC (.int 2147483647))) (fVar 0) (fC (.int 1))) (gNx)))))) (gNx)) b_take2 := rfl
      generalize hg : (gIf (fB (f2 opGe (fVar 2) (f2 opPow (fC (.int 10)) (fC (.int 18))))) (gSeq (gPut (fVar 2) (fVar 0) (fC (.int 0))) (gNx)) (gNx)) = gg at e3 first
      rw [first]
      have eqz : ∀ st : St, opEq (.int 0) (.int 0) st = .ok (.bl true) st := fun st => by simp [opEq, eqD, eqS]
      have rf : refOf st1 (.ref i) = some (i, bagO 0 b1 b2 cs) := by simp [refOf, e1]
      have a2 : atI (bagO 0 b1 b2 cs) 2 = some (.int b2) := by simp [bagO, atI, ixN]
      have hl2 : (cut cs (some b2) none).length + 1 ≤ 16777216 := by omega
      subst es2
      have ix : ∀ st : St, opIdx (.lst ((cut cs (some b2) none).map D.int ++ [D.int 0])) (.int 0) st = .ok (.int c) st := fun st => by simp [opIdx, seqOf, lstOf, ec]
      have sl : opSlc (.lst (cs.map .int)) (some b2) none st1 = .ok (.lst ((cut cs (some b2) none).map .int)) st1 := by simp [opSlc, lqOf, lstOf, hcs]
      have m2 : ∀ x : Int, cMod x many = true := fun x => by simp [cMod, h0]
      simp [gSeq, gIf, fB, f2, fVar, fC, i0, i1, i2, i3, eqz, gSet, fSlc, fPart, fNoP, fLst, fCons, fNil, sl, lstOf, opAdd, hl2, ix, gAugPut, rf, a2, w2, e3, j0, j1, j2, j3, opMul, g1, g2, opI, m1, fCall, cInt, gPut, ← hs', w1, gNx, r1]
      simp [es3]
    · have eqz : ∀ st : St, opEq (.int b0) (.int 0) st = .ok (.bl false) st := fun st => by simp [opEq, eqD, eqS, hb]
      obtain ⟨d, o, r1, r2, r3, r4⟩ := take2_ok (st := st1) (many := many) (y := none) (z := none) (by rw [eo]; exact B) h0 h1
      refine ⟨d, o, ?_, r2, r3, by
        obtain ⟨b0, b1, b2, cs, e, p0, p1, p2, p3, p4, p5, p6⟩ := r4.ex
        exact ⟨b0, b1, b2, cs, by rw [← eo]; exact e, p0, p1, p2, p3, by push_cast; omega, p5, p6⟩⟩
      have first : b_take = gSeq (gIf (fB (f2 opEq (f2 opIdx (fVar 0) (fC (.int 0))) (fC (.int 0)))) (gSeq (gSet 2 (f2 opIdx (f2 opAdd (fSlc (f2 opIdx (fVar 0) (fC (.int 3))) (fPart (f2 opIdx (fVar 0) (fC (.int 2)))) (fNoP)) (fLst (fCons (fC (.int 0)) (fNil)))) (fC (.int 0)))) (gSeq (gAugPut (fun x y => x + y) (fVar 0) (fC (.int 2)) (fC (.int 1))) (gSeq (gIf (fB (f2 opGe (fVar 2) (f2 opPow (fC (.int 10)) (fC (.int 18))))) (gSeq (gPut (fVar 2) (fVar 0) (fC (.int 0))) (gNx)) (gNx)) (gSeq (gSet 3 (f2 opAdd (f2 opAdd (f2 opMul (f2 opIdx (fVar 0) (fC (.int 1))) (fC (.int 48271))) (f2 opMod (fCall cInt (fCons (fVar 2) (fNil))) (fC (.int 2147483647)))) (f2 opMul (fC (.int 7919)) (f2 opIdx (fVar 0) (fC (.int 2)))))) (gSeq (gPut (f2 opMod (fCall cInt (fCons (fVar 3) (fNil))) (fC (.int 2147483647))) (fVar 0) (fC (.int 1))) (gNx)))))) (gNx)) b_take2 := rfl
      rw [first]
      unfold gSeq gIf
      simp [fB, f2, fVar, fC, i0, eqz, gNx, r1, eo, ef]
  obtain ⟨d, o, r1, r2, r3, r4⟩ := key
  refine ⟨d, o, ?_, r2, r3, r4⟩
  have z := run_end (n := 7) (b := b_take) (ds := [.ref i, .int many]) (st := st) r1 rfl
  rw [z]
  simp [List.take_of_length_le]
end MP

set_option maxRecDepth 100000
set_option maxHeartbeats 1000000
/-! MR4: texts, comprehensions, lists of the store. -/
namespace MP
open PySem L2

theorem atI_nat {α : Type} {t : List α} {e : Nat} (h : e < t.length) : atI t (e : Int) = t[e]? := by
  unfold atI ixN
  simp [h]
theorem atI_zero {α : Type} {x : α} {t : List α} : atI (x :: t) 0 = some x := by
  rw [show (0 : Int) = ((0 : Nat) : Int) from rfl, atI_nat (by simp)]; rfl
theorem atI_last {α : Type} {x : α} {t : List α} : atI (t ++ [x]) (-1) = some x := by
  simp [atI, ixN]
  rw [show ((-1 : Int) + ((t.length : Int) + 1)).toNat = t.length from by omega, if_pos (by omega)]
  exact List.getElem?_concat_length
theorem sIx_none (n d : Nat) : HT.sIx n d none = d := rfl
theorem sIx_some {n d : Nat} {k : Nat} : HT.sIx n d (some (k : Int)) = min k n := HT.sIx_nat n d k
theorem cut_nat {α : Type} {t : List α} {i j : Nat} (h1 : i ≤ j) (h2 : j ≤ t.length) : cut t (some (i : Int)) (some (j : Int)) = (t.drop i).take (j - i) := by
  unfold cut
  rw [sIx_some, sIx_some, Nat.min_eq_left h2, Nat.min_eq_left (by omega)]
theorem cut_init {α : Type} {t : List α} {x : α} : cut (t ++ [x]) none (some (-1)) = t := by
  unfold cut
  simp [HT.sIx]
  rw [show ((-1 : Int) + ((t.length : Int) + 1)).toNat = t.length from by omega]
  simp
/-- a sign of a text -/
theorem opIdx_str {t : List Nat} {e : Nat} {st : St} (ht : t.length ≤ 16777216) (h : e < t.length) : opIdx (.str t) (.int (e : Int)) st = .ok (.str [t[e]]) st := by
  simp [opIdx, ht, atI_nat h, h]
theorem opIdx_str0 {c : Nat} {t : List Nat} {st : St} (ht : (c :: t).length ≤ 16777216) : opIdx (.str (c :: t)) (.int 0) st = .ok (.str [c]) st := by
  unfold opIdx
  simp only [ht, if_true, atI_zero]
theorem cLen_str {t : List Nat} {st : St} (ht : t.length ≤ 16777216) : cLen [.str t] st = .ok (.int t.length) st := by
  simp [cLen, ht]
/-- == of texts, of ints -/
theorem opEq_str {a b : List Nat} {st : St} : opEq (.str a) (.str b) st = .ok (.bl (decide (a = b))) st := by simp [opEq, eqD, eqS]
theorem opNe_str {a b : List Nat} {st : St} : opNe (.str a) (.str b) st = .ok (.bl !(decide (a = b))) st := by simp [opNe, eqD, eqS]
theorem opEq_int {a b : Int} {st : St} : opEq (.int a) (.int b) st = .ok (.bl (decide (a = b))) st := by simp [opEq, eqD, eqS]
theorem opNe_int {a b : Int} {st : St} : opNe (.int a) (.int b) st = .ok (.bl !(decide (a = b))) st := by simp [opNe, eqD, eqS]
/-- in: a text among texts -/
theorem inD_strs {r : List Nat} {L : List (List Nat)} {st : St} {y : D} (h : seqOf st y = some (L.map .str)) (hy : ∀ z, y ≠ .str z) : inD st (.str r) y = some (L.contains r) := by
  have h1 : (L.map D.str).all flat = true := by simp [List.all_eq_true, flat]
  have h2 : ((L.map D.str).any fun y => eqF y (.str r)) = L.contains r := by
    rw [List.any_map, List.contains_eq_any_beq]
    congr 1
    funext x
    show (x == r) = (r == x)
    exact BEq.comm
  unfold inD
  split
  · exact absurd rfl (hy _)
  · rw [h]
    simp only [flat, h1, and_self, if_true, h2]
theorem opIn_tup {r : List Nat} {L : List (List Nat)} {st : St} : opIn (.str r) (.tup (L.map .str)) st = .ok (.bl (L.contains r)) st := by
  unfold opIn; rw [inD_strs (L := L) rfl (fun z => by simp)]
theorem opNotIn_tup {r : List Nat} {L : List (List Nat)} {st : St} : opNotIn (.str r) (.tup (L.map .str)) st = .ok (.bl !(L.contains r)) st := by
  unfold opNotIn; rw [inD_strs (L := L) rfl (fun z => by simp)]
theorem opIn_lst {r : List Nat} {L : List (List Nat)} {st : St} : opIn (.str r) (.lst (L.map .str)) st = .ok (.bl (L.contains r)) st := by
  unfold opIn; rw [inD_strs (L := L) rfl (fun z => by simp)]
theorem opIn_sign {c : Nat} {z : List Nat} {st : St} : opIn (.str [c]) (.str z) st = .ok (.bl (decide (c ∈ z))) st := rfl
theorem opNotIn_sign {c : Nat} {z : List Nat} {st : St} : opNotIn (.str [c]) (.str z) st = .ok (.bl !(decide (c ∈ z))) st := rfl
/-- a comprehension that draws nothing and changes nothing -/
theorem lc_pure {tg : Tgt} {cd : Env → St → Out Bool} {el : Env → St → Out D} {ρ : Env} {st : St} {p : D → Bool} {f : D → D} : ∀ (ds acc : List D), (∀ d ∈ ds, ∃ ρ1, tg d ρ = some ρ1 ∧ cd ρ1 st = .ok (p d) st ∧ (p d = true → el ρ1 st = .ok (f d) st)) → acc.length + ds.length ≤ 16777216 →
    lcLoop tg cd el ρ ds acc st = .ok (acc ++ (ds.filter p).map f) st
  | [], acc, _, _ => by simp [lcLoop]
  | d :: ds, acc, h, hl => by
    obtain ⟨ρ1, e1, e2, e3⟩ := h d List.mem_cons_self
    have r := fun acc hl => lc_pure (tg := tg) (cd := cd) (el := el) (ρ := ρ) (st := st) (p := p) (f := f) ds acc (fun d hd => h d (List.mem_cons_of_mem _ hd)) hl
    simp only [List.length_cons] at hl
    unfold lcLoop
    simp only [e1, e2, Out.calm, Out.bind_ok]
    cases hp : p d with
    | true =>
      rw [if_pos rfl, e3 hp]
      simp only [Out.calm, Out.bind_ok]
      rw [if_pos (by omega), r _ (by simp; omega)]
      simp [hp]
    | false =>
      rw [if_neg (by decide), r _ (by omega)]
      simp [hp]
/-- over the signs of a text, one name, no store -/
theorem lc_signs {s : List Nat} {k : Nat} {cd : Env → St → Out Bool} {el : Env → St → Out D} {ρ : Env} {st : St} {fi : Env → St → Out (List D)} (p : Nat → Bool) (f : Nat → D) (hi : fi ρ st = .ok (s.map fun c => .str [c]) st)
    (hc : ∀ c ∈ s, cd ((wipeE ρ [k]).set k (some (.str [c]))) st = .ok (p c) st) (he : ∀ c ∈ s, p c = true → el ((wipeE ρ [k]).set k (some (.str [c]))) st = .ok (f c) st) (hl : s.length ≤ 16777216) :
    fLcL (fLc fi (tgName k) cd el [k]) ρ st = .ok (.lst ((s.filter p).map f)) st := by
  unfold fLcL fLc
  rw [hi]
  simp only [Out.bind_ok]
  have un : ∀ c : Nat, ∃ x : Nat, (D.str [c]) = .str [x] ∧ x = c := fun c => ⟨c, rfl, rfl⟩
  have z := lc_pure (tg := tgName k) (cd := cd) (el := el) (ρ := wipeE ρ [k]) (st := st) (p := fun d => match d with | .str [c] => p c | _ => false) (f := fun d => match d with | .str [c] => f c | _ => .non) (s.map fun c => .str [c]) [] (fun d hd => by
    obtain ⟨c, hc', rfl⟩ := List.mem_map.mp hd
    exact ⟨_, rfl, hc c hc', he c hc'⟩) (by simpa using hl)
  rw [z]
  simp only [Out.bind_ok, List.nil_append]
  congr 2
  clear z hc he hi hl un
  induction s with
  | nil => rfl
  | cons c s ih =>
    simp only [List.map_cons, List.filter_cons]
    by_cases hp : p c = true
    · rw [if_pos hp, if_pos hp, List.map_cons, List.map_cons, ih]
    · rw [if_neg hp, if_neg hp, ih]
mutual
theorem nr_lo (n : Nat) : ∀ d : D, d.nr = true → d.lo n = true
  | .non, _ => rfl
  | .bl _, _ => rfl
  | .int _, _ => rfl
  | .str _, _ => rfl
  | .tup ds, h => nrs_los n ds (by simpa [D.nr] using h)
  | .lst ds, h => nrs_los n ds (by simpa [D.nr] using h)
  | .lsk ds, h => nrs_los n ds (by simpa [D.nr] using h)
  | .ref _, h => by simp [D.nr] at h
  | .xo _ _ _ ds, h => nrs_los n ds (by simpa [D.nr] using h)
  | .fv _ _, _ => rfl
  | .emp, _ => rfl
theorem nrs_los (n : Nat) : ∀ ds : List D, D.nrs ds = true → D.los n ds = true
  | [], _ => rfl
  | d :: ds, h => by
    simp only [D.nrs, Bool.and_eq_true] at h
    simp [D.los, nr_lo n d h.1, nrs_los n ds h.2]
end
theorem nrs_append {a b : List D} : D.nrs (a ++ b) = (D.nrs a && D.nrs b) := by
  induction a with
  | nil => simp [D.nrs]
  | cons x xs ih => simp [D.nrs, ih, Bool.and_assoc]
theorem put_nrs {st : St} {i : Nat} {ds : List D} (h : D.nrs ds = true) : st.put i (.lst ds) = { objs := st.objs.set i (.lst ds), fls := st.fls } := by
  unfold St.put
  congr 1
  conv => rhs; rw [← List.map_id st.fls]
  refine List.map_congr_left fun p hp => ?_
  simp [O.lo, nrs_los p.1 ds h]
/-- append at the last object -/
theorem append_last {os : List O} {fl : List (Nat × Bool)} {acc : List D} {y : D} (h : D.nrs (acc ++ [y]) = true) (hl : acc.length < 16777216) :
    mAppend (.ref os.length) [y] ⟨os ++ [.lst acc], fl⟩ = .ok .non ⟨os ++ [.lst (acc ++ [y])], fl⟩ := by
  simp only [mAppend, refOf, List.getElem?_concat_length, hl, if_true, put_nrs h]
  simp
end MP

set_option maxRecDepth 100000
set_option maxHeartbeats 1000000
/-! MR5: the bag, what is drawn from a list. -/
namespace MP
open PySem L2

def b_bag : Env → St → SO := gSeq (gRet (fBox (fCons (fC (.int 0)) (fCons (fC (.int 1234567891)) (fCons (fC (.int 0)) (fCons (fLcL (fLc (fIt (fSlc (fVar 0) (fNoP) (fPart (fC (.int 63))))) (tgName 1) (fun _ st => .ok true st) (fCall cAbs (fCons (fVar 1) (fNil))) [1])) (fNil))))))) (gNx)
theorem sIx_le {n d : Nat} {o : Option Int} (h : d ≤ n) : HT.sIx n d o ≤ n ∨ True := .inr trivial
theorem bag_ok {ns : List Int} (h : ns.length ≤ 63) (st : St) : ∃ o, runF true 2 b_bag [.lsk (ns.map D.int)] st = .ok (.ref st.objs.length) { objs := st.objs ++ [o], fls := st.fls } ∧ Bag (st.objs ++ [o]) st.objs.length 0 := by
  obtain ⟨cs, hcs⟩ : ∃ cs, cs = cut ns none (some 63) := ⟨_, rfl⟩
  have hlen : cs.length ≤ 63 := by rw [hcs]; simp only [cut, List.length_take, List.length_drop]; omega
  refine ⟨.lst (bagO 0 1234567891 0 (cs.map fun c => (c.natAbs : Int))), ?_, ⟨0, 1234567891, 0, cs.map fun c => (c.natAbs : Int), by simp, by decide, by decide, by decide, by decide, by decide, fun c hc => ?_, by rw [List.length_map]; omega⟩⟩
  · have hit : (fIt (fSlc (fVar 0) (fNoP) (fPart (fC (.int 63))))) [some (.lsk (ns.map D.int)), none] (enter st) = .ok (cs.map .int) (enter st) := by
      simp [fIt, fSlc, fVar, fNoP, fPart, fC, opSlc, lqOf, itemsOf, cut_ints, hcs]
    have z := lc_pure (tg := tgName 1) (cd := fun _ st => .ok true st) (el := fCall cAbs (fCons (fVar 1) (fNil))) (ρ := wipeE [some (.lsk (ns.map D.int)), none] [1]) (st := enter st) (p := fun _ => true) (f := fun d => match d with | .int c => .int c.natAbs | _ => .non) (cs.map .int) [] (fun d hd => by
      obtain ⟨c, _, rfl⟩ := List.mem_map.mp hd
      exact ⟨_, rfl, rfl, fun _ => by simp [wipeE, fCall, fCons, fVar, fNil, cAbs]⟩) (by simp; omega)
    have lc : (fLcL (fLc (fIt (fSlc (fVar 0) (fNoP) (fPart (fC (.int 63))))) (tgName 1) (fun _ st => .ok true st) (fCall cAbs (fCons (fVar 1) (fNil))) [1])) [some (.lsk (ns.map D.int)), none] (enter st) = .ok (.lst ((cs.map fun c => (c.natAbs : Int)).map .int)) (enter st) := by
      unfold fLcL fLc
      rw [hit, Out.bind_ok, z]
      simp [List.filter_eq_self.mpr, Function.comp_def]
    have hb : D.nrs (bagO 0 1234567891 0 (cs.map fun c => (c.natAbs : Int))) = true := by
      have : D.nrs ((cs.map fun c => (c.natAbs : Int)).map D.int) = true := by
        generalize cs.map (fun c => (c.natAbs : Int)) = l
        induction l with
        | nil => rfl
        | cons x l ih => simpa [D.nrs, D.nr] using ih
      simp only [bagO, D.nrs, D.nr, this, Bool.and_true]
    unfold runF b_bag
    have e0 : List.map some [D.lsk (ns.map D.int)] ++ List.replicate (2 - [D.lsk (ns.map D.int)].length) none = [some (.lsk (ns.map D.int)), none] := rfl
    rw [e0]
    simp only [gSeq, gRet, fBox, fCons, fC, Out.bind_ok, lc, fNil]
    simp only [List.length_cons, List.length_nil, show 0 + 1 + 1 + 1 + 1 ≤ 16777216 by decide, if_true, Out.toS_ok, SO.seq_ret]
    unfold ended leave thaw
    simp [enter, St.push, bagO, D.lo]
    split <;> rfl
  · obtain ⟨x, _, rfl⟩ := List.mem_map.mp hc
    exact Int.natCast_nonneg _
def b_some : Env → St → SO := gSeq (gRet (f2 opIdx (fVar 1) (fDef 2 (runF false 7 b_take) (fCons (fVar 0) (fCons (fCall cLen (fCons (fVar 1) (fNil))) (fNil)))))) (gNx)
theorem some_ok {st : St} {i n : Nat} {ds : List D} {x : D} (hx : x = .lst ds ∨ x = .tup ds) (B : Bag st.objs i n) (hn : n < 2 ^ 64) (h0 : ds ≠ []) (hl : ds.length ≤ 16777216) (hr : D.nrs ds = true) :
    ∃ (d : D) (o : O), d ∈ ds ∧ runF false 2 b_some [.ref i, x] st = .ok d { objs := st.objs.set i o, fls := st.fls } ∧ Bag (st.objs.set i o) i (n + 1) := by
  have hp : 0 < ds.length := List.length_pos_iff.mpr h0
  obtain ⟨k, o, e, k0, k1, B'⟩ := take_ok (st := enter st) (i := i) (n := n) (many := (ds.length : Int)) B hn (by omega) (Int.lt_of_le_of_lt (show (ds.length : Int) ≤ 16777216 by omega) (by decide))
  obtain ⟨j, rfl⟩ : ∃ j : Nat, k = (j : Int) := ⟨k.toNat, by omega⟩
  have hj : j < ds.length := by omega
  have nr : ∀ d ∈ ds, d.nr = true := by
    intro d hd
    clear e B' k1 k0 hj hp h0 hl hx
    induction ds with
    | nil => cases hd
    | cons y ys ih =>
      simp only [D.nrs, Bool.and_eq_true] at hr
      rcases List.mem_cons.mp hd with rfl | hd
      · exact hr.1
      · exact ih hr.2 hd
  have ix : ∀ st : St, opIdx x (.int (j : Int)) st = .ok ds[j] st := fun st => by
    rcases hx with rfl | rfl
    · simp [opIdx, seqOf, lstOf, atI_nat hj, hj]
    · simp [opIdx, seqOf, atI_nat hj, hj]
  have ln : ∀ st : St, cLen [x] st = .ok (.int (ds.length : Int)) st := fun st => by
    rcases hx with rfl | rfl <;> rfl
  refine ⟨ds[j], o, List.getElem_mem hj, ?_, B'⟩
  have z := run_end (n := 2) (b := b_some) (ds := [.ref i, x]) (st := st) (d := ds[j]) (objs := st.objs.set i o) (by
    simp [b_some, gSeq, gRet, f2, fVar, fDef, fCons, fNil, fCall, ln, e, ix]
    exact ⟨rfl, rfl⟩) (nr_lo _ _ (nr _ (List.getElem_mem hj)))
  rw [z]
  simp [List.take_of_length_le]
end MP

set_option maxRecDepth 100000
set_option maxHeartbeats 1000000
/-! MR6: values that show and that are themselves, with greater ints. -/
namespace MP
open PySem

mutual
/-- nothing of the store, signs that are signs, ints of at most twelve figures -/
def D.pm : D → Bool
  | .int i => decide (i.natAbs < 10 ^ 45)
  | .str s => s.all fun c => decide (c < 1114112)
  | .tup ds => D.pms ds
  | .lst ds => D.pms ds
  | .lsk ds => D.pms ds
  | .ref _ => false
  | .xo _ _ _ _ => false
  | .fv _ _ => false
  | .emp => false
  | _ => true
def D.pms : List D → Bool
  | [] => true
  | d :: ds => d.pm && D.pms ds
end
mutual
def D.wm : D → Nat
  | .int i => i.natAbs.log2 + 1
  | .str s => s.length
  | .tup ds => D.wms ds
  | .lst ds => D.wms ds
  | .lsk ds => D.wms ds
  | _ => 0
def D.wms : List D → Nat
  | [] => 0
  | d :: ds => d.wm + 1 + D.wms ds
end
mutual
theorem pm_facts : ∀ d : D, d.pm = true → d.noref = true ∧ d.py.canLay0 = true ∧ d.py.leavesShort 47 = true ∧ d.py.showable = true ∧ d.py.depth = d.dp ∧ d.py.weight ≤ d.wm
  | .non, _ => ⟨rfl, rfl, rfl, rfl, rfl, Nat.le_refl _⟩
  | .bl _, _ => ⟨rfl, rfl, rfl, rfl, rfl, Nat.le_refl _⟩
  | .int i, h => by
    simp only [D.pm, decide_eq_true_eq] at h
    have hl : i.natAbs.log2 < 200 := by
      by_cases z : i.natAbs = 0
      · rw [z]; decide
      · exact (Nat.log2_lt z).mpr (Nat.lt_trans h (by decide))
    refine ⟨rfl, rfl, ?_, ?_, rfl, ?_⟩
    · simp only [D.py, PyData.leavesShort, decide_eq_true_eq]
      have := int_text_length_le10 (a := i) (k := 45) (by decide) h
      have e : (PyData.shown (.int i)).length = (toString i).length := by
        show (Str.ofString (toString i)).length = _
        exact ofString_length _
      omega
    · simp only [D.py, PyData.showable, decide_eq_true_eq]; omega
    · simp only [D.py, PyData.weight, D.wm]; split <;> omega
  | .str s, h => by
    simp only [D.pm, List.all_eq_true, decide_eq_true_eq] at h
    refine ⟨rfl, ?_, ?_, rfl, rfl, ?_⟩
    · simp only [D.py, PyData.canLay0, PyData.strOk]
      simpa using h
    · simp only [D.py, PyData.leavesShort, List.all_eq_true, decide_eq_true_eq]
      intro c hc
      have := h c (by simpa using hc)
      exact Nat.lt_trans this (by decide)
    · simp [D.py, PyData.weight, D.wm]
  | .tup ds, h => by
    obtain ⟨h1, h2, h3, h4, h5, h6⟩ := pms_facts ds (by simpa [D.pm] using h)
    exact ⟨by simpa [D.noref] using h1, by simpa [D.py, PyData.canLay0] using h2, by simpa [D.py, PyData.leavesShort] using h3, by simpa [D.py, PyData.showable] using h4, by simpa [D.py, PyData.depth, D.dp] using h5, by simpa [D.py, PyData.weight, D.wm] using h6⟩
  | .lst ds, h => by
    obtain ⟨h1, h2, h3, h4, h5, h6⟩ := pms_facts ds (by simpa [D.pm] using h)
    exact ⟨by simpa [D.noref] using h1, by simpa [D.py, PyData.canLay0] using h2, by simpa [D.py, PyData.leavesShort] using h3, by simpa [D.py, PyData.showable] using h4, by simpa [D.py, PyData.depth, D.dp] using h5, by simpa [D.py, PyData.weight, D.wm] using h6⟩
  | .lsk ds, h => by
    obtain ⟨h1, h2, h3, h4, h5, h6⟩ := pms_facts ds (by simpa [D.pm] using h)
    exact ⟨by simpa [D.noref] using h1, by simpa [D.py, PyData.canLay0] using h2, by simpa [D.py, PyData.leavesShort] using h3, by simpa [D.py, PyData.showable] using h4, by simpa [D.py, PyData.depth, D.dp] using h5, by simpa [D.py, PyData.weight, D.wm] using h6⟩
  | .ref _, h => by simp [D.pm] at h
  | .xo _ _ _ _, h => by simp [D.pm] at h
  | .fv _ _, h => by simp [D.pm] at h
  | .emp, h => by simp [D.pm] at h
theorem pms_facts : ∀ ds : List D, D.pms ds = true → D.norefs ds = true ∧ PyData.canLayAll0 (D.pys ds) = true ∧ PyData.leavesShortAll 47 (D.pys ds) = true ∧ PyData.showableAll (D.pys ds) = true ∧ PyData.depthAll (D.pys ds) = D.dps ds ∧ PyData.weightAll (D.pys ds) ≤ D.wms ds
  | [], _ => ⟨rfl, rfl, rfl, rfl, rfl, Nat.le_refl _⟩
  | d :: ds, h => by
    simp only [D.pms, Bool.and_eq_true] at h
    obtain ⟨h1, h2, h3, h4, h5, h6⟩ := pm_facts d h.1
    obtain ⟨k1, k2, k3, k4, k5, k6⟩ := pms_facts ds h.2
    refine ⟨by simp [D.norefs, h1, k1], by simp [D.pys, PyData.canLayAll0, h2, k2], by simp [D.pys, PyData.leavesShortAll, h3, k3], by simp [D.pys, PyData.showableAll, h4, k4], by simp [D.pys, PyData.depthAll, D.dps, h5, k5], ?_⟩
    simp only [D.pys, PyData.weightAll, D.wms]; omega
end
theorem reprOk_of_m {d : D} (h : d.pm = true) (hw : d.wm ≤ 300000) (hd : d.dp ≤ 64) : reprOk d = true := by
  obtain ⟨h1, h2, h3, h4, h5, h6⟩ := pm_facts d h
  have := PyData.shown_le 47 (by decide) d.py h3
  simp only [reprOk, h1, h4, Bool.and_eq_true, decide_eq_true_eq, h5]
  exact ⟨⟨⟨trivial, trivial⟩, by omega⟩, by omega⟩
theorem shp_of_m {d : D} (h : d.pm = true) (hd : d.dp ≤ 64) : shp d = true := by
  obtain ⟨h1, h2, h3, h4, h5, h6⟩ := pm_facts d h
  simp [shp, SeqAt.shaped, h1, h2, h5, hd]
theorem top_pm {d : D} {st : St} (h : d.pm = true) : top st d = d := by
  cases d <;> first | rfl | simp [D.pm] at h
theorem eqS_self_m : ∀ d : D, d.pm = true → eqS d d = some true ∨ eqS d d = none := by
  intro d h
  cases d <;> simp [eqS]
theorem eqD_self_m {d : D} {st : St} (h : d.pm = true) (hd : d.dp ≤ 64) : eqD st d d = some true := by
  unfold eqD
  rcases eqS_self_m d h with e | e
  · rw [e]
  · rw [e]
    simp only [top_pm h, shp_of_m h hd, and_self, if_true]
    rw [SeqAt.eqv_refl _ (pm_facts d h).2.1]
theorem opEq_self_m {d : D} {st : St} (h : d.pm = true) (hd : d.dp ≤ 64) : opEq d d st = .ok (.bl true) st := by
  unfold opEq; rw [eqD_self_m h hd]
theorem opNe_self_m {d : D} {st : St} (h : d.pm = true) (hd : d.dp ≤ 64) : opNe d d st = .ok (.bl false) st := by
  unfold opNe; rw [eqD_self_m h hd]; rfl
theorem cRepr_of_m {d : D} {st : St} (h : d.pm = true) (hw : d.wm ≤ 300000) (hd : d.dp ≤ 64) : cRepr [d] st = .ok (.str d.py.shown.cps.toList) st := by
  simp only [cRepr, reprOk_of_m h hw hd, if_true]
/-- repr(x) == repr(x) and x == x -/
theorem alike_self_m {d : D} {st : St} (h : d.pm = true) (hw : d.wm ≤ 300000) (hd : d.dp ≤ 64) :
    (fAnd (f2 opEq (fCall cRepr (fCons (fVar 0) (fNil))) (fCall cRepr (fCons (fVar 1) (fNil)))) (f2 opEq (fVar 0) (fVar 1))) [some d, some d] st = .ok (.bl true) st := by
  simp [fAnd, f2, fCall, fCons, fVar, fNil, cRepr_of_m h hw hd, opEq_self_m h hd]
  simp [opEq, eqD, eqS]
theorem pms_append {a b : List D} : D.pms (a ++ b) = (D.pms a && D.pms b) := by
  induction a with
  | nil => simp [D.pms]
  | cons x xs ih => simp [D.pms, ih, Bool.and_assoc]
theorem wms_append {a b : List D} : D.wms (a ++ b) = D.wms a + D.wms b := by
  induction a with
  | nil => simp [D.wms]
  | cons x xs ih => simp [D.wms, ih]; omega
theorem pms_iff {ds : List D} : D.pms ds = true ↔ ∀ d ∈ ds, d.pm = true := by
  induction ds with
  | nil => simp [D.pms]
  | cons x xs ih => simp [D.pms, ih]
theorem wms_le {n : Nat} {ds : List D} (h : ∀ d ∈ ds, d.wm ≤ n) : D.wms ds ≤ ds.length * (n + 1) := by
  induction ds with
  | nil => simp [D.wms]
  | cons x xs ih =>
    have h1 := h x List.mem_cons_self
    have h2 := ih fun d hd => h d (List.mem_cons_of_mem _ hd)
    simp only [D.wms, List.length_cons, Nat.succ_mul]; omega
mutual
theorem lo_pm (n : Nat) : ∀ d : D, d.pm = true → d.lo n = true
  | .non, _ => rfl
  | .bl _, _ => rfl
  | .int _, _ => rfl
  | .str _, _ => rfl
  | .tup ds, h => los_pm n ds (by simpa [D.pm] using h)
  | .lst ds, h => los_pm n ds (by simpa [D.pm] using h)
  | .lsk ds, h => los_pm n ds (by simpa [D.pm] using h)
  | .ref _, h => by simp [D.pm] at h
  | .xo _ _ _ _, h => by simp [D.pm] at h
  | .fv _ _, h => by simp [D.pm] at h
  | .emp, h => by simp [D.pm] at h
theorem los_pm (n : Nat) : ∀ ds : List D, D.pms ds = true → D.los n ds = true
  | [], _ => rfl
  | d :: ds, h => by
    simp only [D.pms, Bool.and_eq_true] at h
    simp [D.los, lo_pm n d h.1, los_pm n ds h.2]
end
end MP

set_option maxRecDepth 100000
set_option maxHeartbeats 1000000
/-! MR7: isinstance, by what a value is. -/
namespace MP
open PySem L2
/-- told whole at the top -/
def D.s1 : D → Bool
  | .non => true | .bl _ => true | .int _ => true | .str _ => true | .tup _ => true | .lst _ => true | .emp => true | _ => false
mutual
/-- told whole -/
def D.sv : D → Bool
  | .non => true | .bl _ => true | .int _ => true | .str _ => true
  | .tup ds => D.svs ds
  | .lst ds => D.svs ds
  | .emp => true
  | _ => false
def D.svs : List D → Bool
  | [] => true
  | d :: ds => d.sv && D.svs ds
end
theorem sv_s1 {d : D} (h : d.sv = true) : d.s1 = true := by
  cases d <;> first | rfl | simp [D.sv] at h
theorem svs_iff {ds : List D} : D.svs ds = true ↔ ∀ d ∈ ds, d.sv = true := by
  induction ds with
  | nil => simp [D.svs]
  | cons x xs ih => simp [D.svs, ih]
mutual
theorem sv_nr : ∀ d : D, d.sv = true → d.nr = true
  | .non, _ => rfl
  | .bl _, _ => rfl
  | .int _, _ => rfl
  | .str _, _ => rfl
  | .emp, _ => rfl
  | .tup ds, h => svs_nrs ds (by simpa [D.sv] using h)
  | .lst ds, h => svs_nrs ds (by simpa [D.sv] using h)
  | .lsk _, h => by simp [D.sv] at h
  | .ref _, h => by simp [D.sv] at h
  | .xo _ _ _ _, h => by simp [D.sv] at h
  | .fv _ _, h => by simp [D.sv] at h
theorem svs_nrs : ∀ ds : List D, D.svs ds = true → D.nrs ds = true
  | [], _ => rfl
  | d :: ds, h => by
    simp only [D.svs, Bool.and_eq_true] at h
    simp [D.nrs, sv_nr d h.1, svs_nrs ds h.2]
end
def D.isS : D → Bool | .str _ => true | _ => false
def D.isT : D → Bool | .tup _ => true | _ => false
def D.isB : D → Bool | .bl _ => true | _ => false
def D.isI : D → Bool | .int _ => true | .bl _ => true | _ => false
def D.isLi : D → Bool | .lst _ => true | _ => false
theorem tab_str : tabT "str" "NoneType" = some false ∧ tabT "str" "bool" = some false ∧ tabT "str" "int" = some false ∧ tabT "str" "str" = some true ∧ tabT "str" "tuple" = some false ∧ tabT "str" "list" = some false ∧ tabT "str" "dict" = some false := by decide +kernel
theorem tab_int : tabT "int" "NoneType" = some false ∧ tabT "int" "bool" = some true ∧ tabT "int" "int" = some true ∧ tabT "int" "str" = some false ∧ tabT "int" "tuple" = some false ∧ tabT "int" "list" = some false ∧ tabT "int" "dict" = some false := by decide +kernel
theorem tab_bool : tabT "bool" "NoneType" = some false ∧ tabT "bool" "bool" = some true ∧ tabT "bool" "int" = some false ∧ tabT "bool" "str" = some false ∧ tabT "bool" "tuple" = some false ∧ tabT "bool" "list" = some false ∧ tabT "bool" "dict" = some false := by decide +kernel
theorem tab_tuple : tabT "tuple" "NoneType" = some false ∧ tabT "tuple" "bool" = some false ∧ tabT "tuple" "int" = some false ∧ tabT "tuple" "str" = some false ∧ tabT "tuple" "tuple" = some true ∧ tabT "tuple" "list" = some false ∧ tabT "tuple" "dict" = some false := by decide +kernel
theorem tab_list : tabT "list" "NoneType" = some false ∧ tabT "list" "bool" = some false ∧ tabT "list" "int" = some false ∧ tabT "list" "str" = some false ∧ tabT "list" "tuple" = some false ∧ tabT "list" "list" = some true ∧ tabT "list" "dict" = some false := by decide +kernel
theorem isi_str {d : D} {st : St} (h : d.s1 = true) : isI (tabT "str") st d = some d.isS := by
  obtain ⟨a, b, c, e, f, g, i⟩ := tab_str
  cases d <;> first | (simp [D.s1] at h; done) | (simp [MP.isI, tyN, D.isS, a, b, c, e, f, g, i])
theorem isi_int {d : D} {st : St} (h : d.s1 = true) : isI (tabT "int") st d = some d.isI := by
  obtain ⟨a, b, c, e, f, g, i⟩ := tab_int
  cases d <;> first | (simp [D.s1] at h; done) | (simp [MP.isI, tyN, D.isI, a, b, c, e, f, g, i])
theorem isi_bool {d : D} {st : St} (h : d.s1 = true) : isI (tabT "bool") st d = some d.isB := by
  obtain ⟨a, b, c, e, f, g, i⟩ := tab_bool
  cases d <;> first | (simp [D.s1] at h; done) | (simp [MP.isI, tyN, D.isB, a, b, c, e, f, g, i])
theorem isi_tuple {d : D} {st : St} (h : d.s1 = true) : isI (tabT "tuple") st d = some d.isT := by
  obtain ⟨a, b, c, e, f, g, i⟩ := tab_tuple
  cases d <;> first | (simp [D.s1] at h; done) | (simp [MP.isI, tyN, D.isT, a, b, c, e, f, g, i])
theorem isi_list {d : D} {st : St} (h : d.s1 = true) : isI (tabT "list") st d = some d.isLi := by
  obtain ⟨a, b, c, e, f, g, i⟩ := tab_list
  cases d <;> first | (simp [D.s1] at h; done) | (simp [MP.isI, tyN, D.isLi, a, b, c, e, f, g, i])
/-! ### letters, figures -/
def cL (c : Nat) : Bool := decide (97 ≤ c) && decide (c ≤ 122)
def cG (c : Nat) : Bool := decide (48 ≤ c) && decide (c ≤ 57)
def cLG (c : Nat) : Bool := cL c || cG c
def txL : List Nat := [97, 98, 99, 100, 101, 102, 103, 104, 105, 106, 107, 108, 109, 110, 111, 112, 113, 114, 115, 116, 117, 118, 119, 120, 121, 122]
def txG : List Nat := [48, 49, 50, 51, 52, 53, 54, 55, 56, 57]
def txLG : List Nat := [97, 98, 99, 100, 101, 102, 103, 104, 105, 106, 107, 108, 109, 110, 111, 112, 113, 114, 115, 116, 117, 118, 119, 120, 121, 122, 48, 49, 50, 51, 52, 53, 54, 55, 56, 57]
theorem memL (c : Nat) : decide (c ∈ txL) = cL c := by
  unfold cL txL
  rw [Bool.eq_iff_iff]
  simp
  omega
theorem memG (c : Nat) : decide (c ∈ txG) = cG c := by
  unfold cG txG
  rw [Bool.eq_iff_iff]
  simp
  omega
theorem memLG (c : Nat) : decide (c ∈ txLG) = cLG c := by
  unfold cLG cL cG txLG
  rw [Bool.eq_iff_iff]
  simp
  omega
theorem inL (c : Nat) (st : St) : opIn (.str [c]) (.str txL) st = .ok (.bl (cL c)) st := by rw [← memL]; rfl
theorem notInL (c : Nat) (st : St) : opNotIn (.str [c]) (.str txL) st = .ok (.bl !(cL c)) st := by rw [← memL]; rfl
theorem inG (c : Nat) (st : St) : opIn (.str [c]) (.str txG) st = .ok (.bl (cG c)) st := by rw [← memG]; rfl
theorem inLG (c : Nat) (st : St) : opIn (.str [c]) (.str txLG) st = .ok (.bl (cLG c)) st := by rw [← memLG]; rfl
theorem addLG (st : St) : opAdd (.str txL) (.str txG) st = .ok (.str txLG) st := rfl
theorem le_sign (a c : Nat) (st : St) : opLe (.str [a]) (.str [c]) st = .ok (.bl (decide (a ≤ c))) st := by
  simp only [opOrd]
  have : ([c] : List Nat) < [a] ↔ c < a := by
    constructor
    · intro h
      cases h with
      | rel h => exact h
      | cons h => cases h
    · exact fun h => .rel h
  congr 2
  rw [Bool.eq_iff_iff]
  simp [this]
theorem bls_map {α : Type} (L : List α) (f : α → Bool) : bls (L.map fun c => .bl (f c)) = some (L.map f) := by
  induction L with
  | nil => rfl
  | cons c L ih => simp [bls, ih]
theorem all_of (L : List Bool) (st : St) {x : D} {l : List D} (h1 : lqOf st x = some l) (h2 : bls l = some L) : (cBls fun bs => bs.all id) [x] st = .ok (.bl (L.all id)) st := by
  simp [cBls, h1, h2]
/-- all([p(sign) for sign in text]) -/
theorem all_signs (s : List Nat) (p : Nat → Bool) (st : St) : (cBls fun bs => bs.all id) [.lst (s.map fun x => .bl (p x))] st = .ok (.bl (s.all p)) st := by
  rw [all_of _ st rfl (bls_map s p), List.all_map]; rfl
/-- [sign for sign in text if not p(sign)] == [] -/
theorem none_signs (s : List Nat) (p : Nat → Bool) (st : St) (hs : ∀ c ∈ s, c < 1114112) : opEq (.lst ((s.filter fun x => !p x).map fun x => .str [x])) (.lst []) st = .ok (.bl (s.all p)) st := by
  have hall : s.all p = (s.filter fun x => !p x).isEmpty := by
    induction s with
    | nil => rfl
    | cons x q ih =>
      have ih := ih fun c hc => hs c (List.mem_cons_of_mem _ hc)
      by_cases hx : p x = true
      · simp [hx, ih]
      · simp [hx]
  rw [hall]
  have hb : D.pm (.lst ((s.filter fun x => !p x).map fun x => .str [x])) = true := by
    simp only [D.pm, pms_iff]
    intro d hd
    obtain ⟨x, hx, rfl⟩ := List.mem_map.mp hd
    have := hs x (List.mem_filter.mp hx).1
    simp [D.pm]; omega
  have a1 := top_pm (st := st) hb
  have a2 : (D.lst ((s.filter fun x => !p x).map fun x => .str [x])).dp ≤ 64 := by
    simp only [D.dp]
    have := dps_le (n := 0) (ds := (s.filter fun x => !p x).map fun x => D.str [x]) (fun d hd => by
      obtain ⟨x, hx, rfl⟩ := List.mem_map.mp hd
      exact Nat.le_refl _)
    omega
  have a3 := shp_of_m hb a2
  generalize (s.filter fun x => !p x) = L at *
  unfold opEq eqD
  simp only [eqS, a1, a3]
  cases L with
  | nil => rfl
  | cons x L =>
    have b1 : shp (MP.top st (D.lst [])) = true := rfl
    simp only [b1, and_self, if_true]
    rfl
end MP

set_option maxRecDepth 100000
set_option maxHeartbeats 1000000
/-! MR8: comprehensions over items; texts joined; lists compared with []. -/
namespace MP
open PySem L2
theorem lc_all {ds : List D} {k : Nat} {el : Env → St → Out D} {ρ : Env} {st : St} {fi : Env → St → Out (List D)} (f : D → D) (hi : fi ρ st = .ok ds st) (he : ∀ d ∈ ds, el ((wipeE ρ [k]).set k (some d)) st = .ok (f d) st) (hl : ds.length ≤ 16777216) :
    fLcL (fLc fi (tgName k) (fun _ st => .ok true st) el [k]) ρ st = .ok (.lst (ds.map f)) st := by
  unfold fLcL fLc
  rw [hi]
  simp only [Out.bind_ok]
  rw [lc_pure (tg := tgName k) (cd := fun _ st => .ok true st) (el := el) (ρ := wipeE ρ [k]) (st := st) (p := fun _ => true) (f := f) ds [] (fun d hd => ⟨_, rfl, rfl, fun _ => he d hd⟩) (by simpa using hl)]
  rw [List.filter_eq_self.mpr (fun _ _ => rfl)]
  rfl
theorem lc_filter {ds : List D} {k : Nat} {cd : Env → St → Out Bool} {el : Env → St → Out D} {ρ : Env} {st : St} {fi : Env → St → Out (List D)} (p : D → Bool) (f : D → D) (hi : fi ρ st = .ok ds st) (hc : ∀ d ∈ ds, cd ((wipeE ρ [k]).set k (some d)) st = .ok (p d) st) (he : ∀ d ∈ ds, p d = true → el ((wipeE ρ [k]).set k (some d)) st = .ok (f d) st) (hl : ds.length ≤ 16777216) :
    fLcL (fLc fi (tgName k) cd el [k]) ρ st = .ok (.lst ((ds.filter p).map f)) st := by
  unfold fLcL fLc
  rw [hi]
  simp only [Out.bind_ok]
  rw [lc_pure (tg := tgName k) (cd := cd) (el := el) (ρ := wipeE ρ [k]) (st := st) (p := p) (f := f) ds [] (fun d hd => ⟨_, rfl, hc d hd, he d hd⟩) (by simpa using hl)]
  rfl
theorem all_items (ds : List D) (p : D → Bool) (st : St) : (cBls fun bs => bs.all id) [.lst (ds.map fun x => .bl (p x))] st = .ok (.bl (ds.all p)) st := by
  rw [all_of _ st rfl (bls_map ds p), List.all_map]; rfl
theorem strsOf_map (L : List (List Nat)) : strsOf (L.map .str) = some L := by
  induction L with
  | nil => rfl
  | cons w L ih => simp [strsOf, ih]
theorem joinL_len (s : Nat) : ∀ L : List (List Nat), L ≠ [] → (TL.joinL [s] L).length + 1 = (L.map (·.length)).sum + L.length
  | [], h => absurd rfl h
  | [w], _ => by simp [TL.joinL]
  | w :: x :: L, _ => by
    have ih := joinL_len s (x :: L) (List.cons_ne_nil _ _)
    simp only [TL.joinL, List.length_append, List.map_cons, List.sum_cons, List.length_cons, List.length_nil] at ih ⊢
    omega
theorem mJoin_ok {a : List Nat} {L : List (List Nat)} {st : St} (h : (L.map (·.length)).sum + L.length * a.length ≤ 16777216) : mJoin (.str a) [.lst (L.map .str)] st = .ok (.str (TL.joinL a L)) st := by
  simp only [mJoin, seqOf, lstOf, Option.bind_some, strsOf_map, h, if_true]
theorem nrs_of {ds : List D} (h : ∀ d ∈ ds, d.nr = true) : D.nrs ds = true := by
  induction ds with
  | nil => rfl
  | cons x xs ih => simp [D.nrs, h x List.mem_cons_self, ih fun d hd => h d (List.mem_cons_of_mem _ hd)]
theorem nrs_mem {ds : List D} (h : D.nrs ds = true) : ∀ d ∈ ds, d.nr = true := by
  induction ds with
  | nil => intro d hd; cases hd
  | cons x xs ih =>
    simp only [D.nrs, Bool.and_eq_true] at h
    intro d hd
    rcases List.mem_cons.mp hd with rfl | hd
    · exact h.1
    · exact ih h.2 d hd
/-- a list of the store, compared with [] -/
theorem eq_nil {st : St} {x : D} {ds : List D} (h : lstOf st x = some ds) (hx : MP.top st x = .lst ds) (hs : eqS x (.lst []) = none) : eqD st x (.lst []) = some (decide (ds = [])) := by
  unfold eqD
  rw [hs]
  have b1 : shp (MP.top st (D.lst [])) = true := rfl
  simp only [hx, b1, and_true]
  cases ds with
  | nil => rfl
  | cons y ys =>
    by_cases hz : shp (D.lst (y :: ys)) = true
    · rw [if_pos hz]; rfl
    · rw [if_neg hz, if_pos (by unfold lenNe; rw [h]; rfl)]; simp
theorem opNe_nil_ref {st : St} {i : Nat} {ds : List D} (h : st.objs[i]? = some (.lst ds)) : opNe (.ref i) (.lst []) st = .ok (.bl !(decide (ds = []))) st := by
  unfold opNe
  rw [eq_nil (ds := ds) (by simp [lstOf, h]) (by simp [MP.top, h]) rfl]
theorem opEq_nil_ref {st : St} {i : Nat} {ds : List D} (h : st.objs[i]? = some (.lst ds)) : opEq (.ref i) (.lst []) st = .ok (.bl (decide (ds = []))) st := by
  unfold opEq
  rw [eq_nil (ds := ds) (by simp [lstOf, h]) (by simp [MP.top, h]) rfl]
theorem opEq_nil_lst {st : St} {ds : List D} : opEq (.lst ds) (.lst []) st = .ok (.bl (decide (ds = []))) st := by
  unfold opEq
  rw [eq_nil (ds := ds) rfl rfl rfl]
theorem opNe_nil_lst {st : St} {ds : List D} : opNe (.lst ds) (.lst []) st = .ok (.bl !(decide (ds = []))) st := by
  unfold opNe
  rw [eq_nil (ds := ds) rfl rfl rfl]
end MP

set_option pp.maxSteps 600
set_option pp.deepTerms false
set_option maxRecDepth 100000
set_option maxHeartbeats 4000000
namespace K10
open PySem PySem.Spec PyProof.Rows L2 MP
abbrev D := MP.D
abbrev St := MP.St
abbrev Env := MP.Env
def top (i : Nat) : Stmt := PySem.Challenge.pw_mostwebs_k10_plain_values_as_texts.main.body.getD i (.Pass ⟨0, 0, 0, 0⟩)
abbrev d_DIGITS : D := .str [48, 49, 50, 51, 52, 53, 54, 55, 56, 57]
abbrev d_LETTERS : D := .str [97, 98, 99, 100, 101, 102, 103, 104, 105, 106, 107, 108, 109, 110, 111, 112, 113, 114, 115, 116, 117, 118, 119, 120, 121, 122]
abbrev d_MOST_FIGURES : D := .int 40
abbrev d_MOST_LEVELS : D := .int 60
structure Vv where
  f_is_number : Addr
  f_is_word : Addr
  f_is_plain : Addr
  f_is_plain_value : Addr
  f_shown : Addr
  f_value_text : Addr
  f_figures_value : Addr
  f_run_value : Addr
  f_Values___init__ : Addr
  f_Values_fail : Addr
  f_Values_is_next : Addr
  f_Values_run : Addr
  f_Values_value : Addr
  f_read_value : Addr
  f__law_bag : Addr
  f__law_take : Addr
  f__law_some : Addr
  f__law_alike : Addr
  f__law_is_int : Addr
  f__law_value_text : Addr
  f__law_is_word : Addr
  f__law_run_value : Addr
  f__law_read_value : Addr
  f__law_value : Addr
  f__law_is_plain : Addr
  f__law_nested : Addr
  f__law_heard : Addr
  f_law : Addr
  u_DIGITS : Value
  u_LETTERS : Value
  u_MOST_FIGURES : Value
  u_MOST_LEVELS : Value
  c_Values : Addr
  c_BadText : Addr
  c_Nothing : Addr
  i_BadText : Addr
  D_BadText : Addr
structure TX (K : PySem.W.Frag) (mg : Str → Option Value) (v : Vv) (S : Se) : Prop where
  g_is_number : mg "is_number" = some (.ref v.f_is_number)
  kf_is_number : PySem.W.keepIn K (.ref v.f_is_number) = true
  g_is_word : mg "is_word" = some (.ref v.f_is_word)
  kf_is_word : PySem.W.keepIn K (.ref v.f_is_word) = true
  g_is_plain : mg "is_plain" = some (.ref v.f_is_plain)
  kf_is_plain : PySem.W.keepIn K (.ref v.f_is_plain) = true
  g_is_plain_value : mg "is_plain_value" = some (.ref v.f_is_plain_value)
  kf_is_plain_value : PySem.W.keepIn K (.ref v.f_is_plain_value) = true
  g_shown : mg "shown" = some (.ref v.f_shown)
  kf_shown : PySem.W.keepIn K (.ref v.f_shown) = true
  g_value_text : mg "value_text" = some (.ref v.f_value_text)
  kf_value_text : PySem.W.keepIn K (.ref v.f_value_text) = true
  g_figures_value : mg "figures_value" = some (.ref v.f_figures_value)
  kf_figures_value : PySem.W.keepIn K (.ref v.f_figures_value) = true
  g_run_value : mg "run_value" = some (.ref v.f_run_value)
  kf_run_value : PySem.W.keepIn K (.ref v.f_run_value) = true
  m_Values___init__ : Meth K v.c_Values "__init__" v.f_Values___init__
  m_Values_fail : Meth K v.c_Values "fail" v.f_Values_fail
  m_Values_is_next : Meth K v.c_Values "is_next" v.f_Values_is_next
  m_Values_run : Meth K v.c_Values "run" v.f_Values_run
  m_Values_value : Meth K v.c_Values "value" v.f_Values_value
  g_read_value : mg "read_value" = some (.ref v.f_read_value)
  kf_read_value : PySem.W.keepIn K (.ref v.f_read_value) = true
  g__law_bag : mg "_law_bag" = some (.ref v.f__law_bag)
  kf__law_bag : PySem.W.keepIn K (.ref v.f__law_bag) = true
  g__law_take : mg "_law_take" = some (.ref v.f__law_take)
  kf__law_take : PySem.W.keepIn K (.ref v.f__law_take) = true
  g__law_some : mg "_law_some" = some (.ref v.f__law_some)
  kf__law_some : PySem.W.keepIn K (.ref v.f__law_some) = true
  g__law_alike : mg "_law_alike" = some (.ref v.f__law_alike)
  kf__law_alike : PySem.W.keepIn K (.ref v.f__law_alike) = true
  g__law_is_int : mg "_law_is_int" = some (.ref v.f__law_is_int)
  kf__law_is_int : PySem.W.keepIn K (.ref v.f__law_is_int) = true
  g__law_value_text : mg "_law_value_text" = some (.ref v.f__law_value_text)
  kf__law_value_text : PySem.W.keepIn K (.ref v.f__law_value_text) = true
  g__law_is_word : mg "_law_is_word" = some (.ref v.f__law_is_word)
  kf__law_is_word : PySem.W.keepIn K (.ref v.f__law_is_word) = true
  g__law_run_value : mg "_law_run_value" = some (.ref v.f__law_run_value)
  kf__law_run_value : PySem.W.keepIn K (.ref v.f__law_run_value) = true
  g__law_read_value : mg "_law_read_value" = some (.ref v.f__law_read_value)
  kf__law_read_value : PySem.W.keepIn K (.ref v.f__law_read_value) = true
  g__law_value : mg "_law_value" = some (.ref v.f__law_value)
  kf__law_value : PySem.W.keepIn K (.ref v.f__law_value) = true
  g__law_is_plain : mg "_law_is_plain" = some (.ref v.f__law_is_plain)
  kf__law_is_plain : PySem.W.keepIn K (.ref v.f__law_is_plain) = true
  g__law_nested : mg "_law_nested" = some (.ref v.f__law_nested)
  kf__law_nested : PySem.W.keepIn K (.ref v.f__law_nested) = true
  g__law_heard : mg "_law_heard" = some (.ref v.f__law_heard)
  kf__law_heard : PySem.W.keepIn K (.ref v.f__law_heard) = true
  g_law : mg "law" = some (.ref v.f_law)
  kf_law : PySem.W.keepIn K (.ref v.f_law) = true
  c_DIGITS : mg "DIGITS" = some v.u_DIGITS
  d_DIGITS : atomD v.u_DIGITS = some d_DIGITS
  c_LETTERS : mg "LETTERS" = some v.u_LETTERS
  d_LETTERS : atomD v.u_LETTERS = some d_LETTERS
  c_MOST_FIGURES : mg "MOST_FIGURES" = some v.u_MOST_FIGURES
  d_MOST_FIGURES : atomD v.u_MOST_FIGURES = some d_MOST_FIGURES
  c_MOST_LEVELS : mg "MOST_LEVELS" = some v.u_MOST_LEVELS
  d_MOST_LEVELS : atomD v.u_MOST_LEVELS = some d_MOST_LEVELS
  n_abs : mg "abs" = none
  n_all : mg "all" = none
  n_bool : mg "bool" = none
  n_int : mg "int" = none
  n_isinstance : mg "isinstance" = none
  n_len : mg "len" = none
  n_range : mg "range" = none
  n_repr : mg "repr" = none
  n_str : mg "str" = none
  n_tuple : mg "tuple" = none
  g_Values : mg "Values" = some (.ref v.c_Values)
  cl_Values : Cls K v.c_Values
  mk_Values : Mk K v.c_Values v.f_Values___init__
  nf_Values_signs : NoAttr K v.c_Values "signs"
  nf_Values_at : NoAttr K v.c_Values "at"
  g_BadText : mg "BadText" = some (.ref v.c_BadText)
  at_BadText : S.g.at_ 0 = v.c_BadText
  fs_BadText : S.g.fs 0 = (["line", "column"] : List Str)
  g_Nothing : mg "Nothing" = some (.ref v.c_Nothing)
  at_Nothing : S.g.at_ 1 = v.c_Nothing
  fs_Nothing : S.g.fs 1 = ([] : List Str)
  xm : ∀ c, c < 2 → ∀ d, d < 2 → PySem.W.exmOne K (.ref (S.g.at_ c)) (.ref (S.g.at_ d)) = some (decide (c = d))
  xf_BadText : XfC K (S.g.at_ 0)
  no_BadText_line : PySem.W.findIn K (.ref (S.g.at_ 0)) "line" = some none
  no_BadText_column : PySem.W.findIn K (.ref (S.g.at_ 0)) "column" = some none
  ic_BadText : InitC K v.c_BadText v.D_BadText ["line", "column"]
  fi_BadText : PySem.W.findIn K (.ref v.c_BadText) "__init__" = some (some (.ref v.i_BadText))
  ti_BadText : PySem.W.typeIn K (.ref v.i_BadText) = some (.type "function")
  x_Nothing : PySem.W.excIn K v.c_Nothing ([.type "ValueError", .type "Exception", .type "BaseException", .type "object"]) "ValueError.__new__" = true
  kp_Nothing : PySem.W.keepIn K (.ref v.c_Nothing) = true
  sb_Nothing : PySem.W.subIn K (.ref v.c_Nothing) (.type "BaseException") = some true
  tb_Nothing : PySem.W.typeIn K (.ref v.c_Nothing) = some (.type "type")
section
variable {P : Program} {w : World} {K : PySem.W.Frag} {mg : Str → Option Value} {base : Heap} {v : Vv} {S : Se}
abbrev st_is_number : Stmt := top 8
abbrev N_is_number : List Str := ["thing"]
def b_is_number (v : Vv) : Env → St → SO := gSeq (gRet (fAnd (fIsi (tabT "int") (fVar 0)) (fNot (fIsi (tabT "bool") (fVar 0))))) (gNx)
def h_is_number (v : Vv) : List D → St → Out D := runF false 1 (b_is_number v)
theorem sc_is_number : FnScope N_is_number ["thing"] (defScope st_is_number) := ⟨rfl, rfl, rfl, by decide +kernel, rfl, by decide +kernel, by decide +kernel⟩
theorem w_is_number (T : TX K mg v S)  {f : Addr} {fd : FuncData} (F : L2.Fun K "is_number" "is_number" st_is_number f fd) : FnG P w K mg base false 1 f fd ["thing"] (spD S K 1 (h_is_number v)) :=
  have SC := sc_is_number
  funG (kp := false) (b := b_is_number v) (N := N_is_number) (ps := ["thing"]) F SC fun cdv A fr s H E hg hr => ss_cons (s_ret (s_and (s_isi (tx := "int") (T := "int") rfl T.n_isinstance rfl T.n_int (by kernel_rfl) (by decide) (by decide) (kit_int _) (s_var (i := 0) rfl (.inl rfl) rfl rfl) rfl rfl) (pe_one (s_not (s_isi (tx := "bool") (T := "bool") rfl T.n_isinstance rfl T.n_bool (by kernel_rfl) (by decide) (by decide) (kit_bool _) (s_var (i := 0) rfl (.inl rfl) rfl rfl) rfl rfl))))) (ss_nil)
abbrev st_is_word : Stmt := top 12
abbrev N_is_word : List Str := ["thing", "sign"]
def b_is_word (v : Vv) : Env → St → SO := gSeq (gIf (fOrT (fNotT (fB (fIsi (tabT "str") (fVar 0)))) (fOrT (fB (f2 opEq (fVar 0) (fC (.str [])))) (fB (f2 opNotIn (f2 opIdx (fVar 0) (fC (.int 0))) (fC d_LETTERS))))) (gSeq (gRet (fC (.bl false))) (gNx)) (gNx)) (gSeq (gRet (fCall (cBls fun bs => bs.all id) (fCons (fLcL (fLc (fIt (fVar 0)) (tgName 1) (fun _ st => .ok true st) (f2 opIn (fVar 1) (f2 opAdd (fC d_LETTERS) (fC d_DIGITS))) [1])) (fNil)))) (gNx))
def h_is_word (v : Vv) : List D → St → Out D := runF false 2 (b_is_word v)
theorem sc_is_word : FnScope N_is_word ["thing"] (defScope st_is_word) := ⟨rfl, rfl, rfl, by decide +kernel, rfl, by decide +kernel, by decide +kernel⟩
theorem w_is_word (T : TX K mg v S)  {f : Addr} {fd : FuncData} (F : L2.Fun K "is_word" "is_word" st_is_word f fd) : FnG P w K mg base false 1 f fd ["thing"] (spD S K 1 (h_is_word v)) :=
  have SC := sc_is_word
  funG (kp := false) (b := b_is_word v) (N := N_is_word) (ps := ["thing"]) F SC fun cdv A fr s H E hg hr => ss_cons (s_iff (PW.pt (s_orT (s_notT (s_val (s_isi (tx := "str") (T := "str") rfl T.n_isinstance rfl T.n_str (by kernel_rfl) (by decide) (by decide) (kit_str _) (s_var (i := 0) rfl (.inl rfl) rfl rfl) rfl rfl) (fun _ => rfl))) (s_orT (s_cmpT (o_eq hr.units) rfl (s_var (i := 0) rfl (.inl rfl) rfl rfl) (s_strL (by decide +kernel))) (pw_or1 (s_cmpT o_notIn rfl (s_idx (fun _ _ => rfl) (s_var (i := 0) rfl (.inl rfl) rfl rfl) (s_int)) (s_gatom rfl T.c_LETTERS T.d_LETTERS)))))) (ss_cons (s_ret (s_bl)) (ss_nil)) (ss_nil)) (ss_cons (s_ret (s_callB (o_all rfl) rfl T.n_all (by kernel_rfl) (s_cons (s_lc (own := [("sign", 1)]) rfl SC.nd (s_it (s_var (i := 0) rfl (.inl rfl) rfl rfl)) (blkOk_by (N := N_is_word) (sc := defScope st_is_word) (by decide +kernel)) (by decide) (fun _ _ _ _ _ => t_name SC.nd rfl (.inl rfl) (.inr rfl)) (fun _ _ _ _ _ => s_yes) (fun _ _ _ _ _ => s_cmp o_in rfl (s_var (i := 1) rfl (.inl rfl) rfl rfl) (s_bin o_add (s_gatom rfl T.c_LETTERS T.d_LETTERS) (s_gatom rfl T.c_DIGITS T.d_DIGITS))) (fun _ => rfl)) (s_nil) rfl) (by decide) (by decide) rfl rfl)) (ss_nil))
abbrev st_is_plain : Stmt := top 13
abbrev N_is_plain : List Str := ["thing", "deep", "part"]
def b_is_plain (v : Vv) (h : List D → St → Out D) : Env → St → SO := gSeq (gIf (fOrT (fB (f2 opIs (fVar 0) (fC .non))) (fB (fDef 1 (h_is_word v) (fCons (fVar 0) (fNil))))) (gSeq (gRet (fC (.bl true))) (gNx)) (gNx)) (gSeq (gIf (fB (fDef 1 (h_is_number v) (fCons (fVar 0) (fNil)))) (gSeq (gRet (f2 opLt (fCall cAbs (fCons (fVar 0) (fNil))) (f2 opPow (fC (.int 10)) (fC (.int 40))))) (gNx)) (gNx)) (gSeq (gIf (fOrT (fNotT (fB (fIsi (tabT "tuple") (fVar 0)))) (fB (f2 opEq (fVar 1) (fC (.int 0))))) (gSeq (gRet (fC (.bl false))) (gNx)) (gNx)) (gSeq (gRet (fCall (cBls fun bs => bs.all id) (fCons (fLcL (fLc (fIt (fVar 0)) (tgName 2) (fun _ st => .ok true st) (fDef 2 h (fCons (fVar 2) (fCons (f2 opSub (fVar 1) (fC (.int 1))) (fNil)))) [2])) (fNil)))) (gNx))))
def h_is_plain (v : Vv) : Nat → List D → St → Out D
  | 0 => hBad
  | n + 1 => runF false 3 (b_is_plain v (h_is_plain v n))
theorem sc_is_plain : FnScope N_is_plain ["thing", "deep"] (defScope st_is_plain) := ⟨rfl, rfl, rfl, by decide +kernel, rfl, by decide +kernel, by decide +kernel⟩
theorem w_is_plain (T : TX K mg v S) {fd_is_number : FuncData} (G_is_number : FnG P w K mg base false 1 v.f_is_number fd_is_number ["thing"] (spD S K 1 (h_is_number v))) (B_is_number : Binds K fd_is_number ["thing"] []) {fd_is_word : FuncData} (G_is_word : FnG P w K mg base false 1 v.f_is_word fd_is_word ["thing"] (spD S K 1 (h_is_word v))) (B_is_word : Binds K fd_is_word ["thing"] []) {fd : FuncData} (F : L2.Fun K "is_plain" "is_plain" st_is_plain v.f_is_plain fd) (B_is_plain : Binds K fd ["thing", "deep"] []) (n : Nat) : FnG P w K mg base false (2 + n) v.f_is_plain fd ["thing", "deep"] (spD S K 2 (h_is_plain v n)) := by
  induction n with
  | zero => exact fnG_bad
  | succ n ih =>
    have SC := sc_is_plain
    exact funG (kp := false) (b := b_is_plain v (h_is_plain v n)) (N := N_is_plain) (ps := ["thing", "deep"]) (k := 2 + n) F SC fun cdv A fr s H E hg hr => ss_cons (s_iff (PW.pt (s_orT (s_cmpT o_is rfl (s_var (i := 0) rfl (.inl rfl) rfl rfl) (s_non)) (pw_or1 (s_val (s_call (ps := ["thing"]) (h := (h_is_word v)) (G_is_word.up (by omega)) (by intro z; cases z) hr rfl T.g_is_word T.kf_is_word B_is_word (takes_of rfl rfl rfl rfl) (s_cons (s_var (i := 0) rfl (.inl rfl) rfl rfl) (s_nil) rfl)) (fun _ => rfl))))) (ss_cons (s_ret (s_bl)) (ss_nil)) (ss_nil)) (ss_cons (s_iff (s_val (s_call (ps := ["thing"]) (h := (h_is_number v)) (G_is_number.up (by omega)) (by intro z; cases z) hr rfl T.g_is_number T.kf_is_number B_is_number (takes_of rfl rfl rfl rfl) (s_cons (s_var (i := 0) rfl (.inl rfl) rfl rfl) (s_nil) rfl)) (fun _ => rfl)) (ss_cons (s_ret (s_cmp o_lt rfl (s_callB o_abs rfl T.n_abs (by kernel_rfl) (s_cons (s_var (i := 0) rfl (.inl rfl) rfl rfl) (s_nil) rfl) (by decide) (by decide) rfl rfl) (s_bin o_pow (s_int) (s_int)))) (ss_nil)) (ss_nil)) (ss_cons (s_iff (PW.pt (s_orT (s_notT (s_val (s_isi (tx := "tuple") (T := "tuple") rfl T.n_isinstance rfl T.n_tuple (by kernel_rfl) (by decide) (by decide) (kit_tuple _) (s_var (i := 0) rfl (.inl rfl) rfl rfl) rfl rfl) (fun _ => rfl))) (pw_or1 (s_cmpT (o_eq hr.units) rfl (s_var (i := 1) rfl (.inr (.inl rfl)) rfl rfl) (s_int))))) (ss_cons (s_ret (s_bl)) (ss_nil)) (ss_nil)) (ss_cons (s_ret (s_callB (o_all rfl) rfl T.n_all (by kernel_rfl) (s_cons (s_lc (own := [("part", 2)]) rfl SC.nd (s_it (s_var (i := 0) rfl (.inl rfl) rfl rfl)) (blkOk_by (N := N_is_plain) (sc := defScope st_is_plain) (by decide +kernel)) (by decide) (fun _ _ _ _ _ => t_name SC.nd rfl (.inl rfl) (.inr rfl)) (fun _ _ _ _ _ => s_yes) (fun _ _ _ _ _ => s_call (ps := ["thing", "deep"]) (h := h_is_plain v n) (ih.up (by omega)) (by intro z; cases z) hr rfl T.g_is_plain T.kf_is_plain B_is_plain LamX.takes0 (s_cons (s_var (i := 2) rfl (.inl (by first | rfl | kernel_rfl)) rfl rfl) (s_cons (s_bin o_sub (s_var (i := 1) rfl (.inr (.inl (by first | rfl | kernel_rfl))) rfl rfl) (s_int)) (s_nil) rfl) rfl)) (fun _ => rfl)) (s_nil) rfl) (by decide) (by decide) rfl rfl)) (ss_nil))))
abbrev st_is_plain_value : Stmt := top 14
abbrev N_is_plain_value : List Str := ["thing"]
def b_is_plain_value (v : Vv) : Env → St → SO := gSeq (gRet (fDef 2 (h_is_plain v 62) (fCons (fVar 0) (fCons (fC d_MOST_LEVELS) (fNil))))) (gNx)
def h_is_plain_value (v : Vv) : List D → St → Out D := runF false 1 (b_is_plain_value v)
theorem sc_is_plain_value : FnScope N_is_plain_value ["thing"] (defScope st_is_plain_value) := ⟨rfl, rfl, rfl, by decide +kernel, rfl, by decide +kernel, by decide +kernel⟩
theorem w_is_plain_value (T : TX K mg v S) {fd_is_plain : FuncData} (G_is_plain : FnG P w K mg base false 64 v.f_is_plain fd_is_plain ["thing", "deep"] (spD S K 2 (h_is_plain v 62))) (B_is_plain : Binds K fd_is_plain ["thing", "deep"] []) {f : Addr} {fd : FuncData} (F : L2.Fun K "is_plain_value" "is_plain_value" st_is_plain_value f fd) : FnG P w K mg base false 65 f fd ["thing"] (spD S K 1 (h_is_plain_value v)) :=
  have SC := sc_is_plain_value
  funG (kp := false) (b := b_is_plain_value v) (N := N_is_plain_value) (ps := ["thing"]) F SC fun cdv A fr s H E hg hr => ss_cons (s_ret (s_call (ps := ["thing", "deep"]) (h := (h_is_plain v 62)) (G_is_plain.up (by omega)) (by intro z; cases z) hr rfl T.g_is_plain T.kf_is_plain B_is_plain (takes_of rfl rfl rfl rfl) (s_cons (s_var (i := 0) rfl (.inl rfl) rfl rfl) (s_cons (s_gatom rfl T.c_MOST_LEVELS T.d_MOST_LEVELS) (s_nil) rfl) rfl))) (ss_nil)
abbrev st_shown : Stmt := top 15
abbrev N_shown : List Str := ["value", "parts", "part"]
def b_shown (v : Vv) (h : List D → St → Out D) : Env → St → SO := gSeq (gIf (fB (f2 opIs (fVar 0) (fC .non))) (gSeq (gRet (fC (.str [45]))) (gNx)) (gNx)) (gSeq (gIf (fNotT (fB (fIsi (tabT "tuple") (fVar 0)))) (gSeq (gRet (fFmt (fVar 0))) (gNx)) (gNx)) (gSeq (gSet 1 (fMtS mJoin (fC (.str [32])) (fCons (fLcL (fLc (fIt (fVar 0)) (tgName 2) (fun _ st => .ok true st) (fDef 1 h (fCons (fVar 2) (fNil))) [2])) (fNil)))) (gSeq (gRet (fJs [fC (.str [40]), fFmt (fVar 1), fC (.str [41])] [])) (gNx))))
def h_shown (v : Vv) : Nat → List D → St → Out D
  | 0 => hBad
  | n + 1 => runF false 3 (b_shown v (h_shown v n))
theorem sc_shown : FnScope N_shown ["value"] (defScope st_shown) := ⟨rfl, rfl, rfl, by decide +kernel, rfl, by decide +kernel, by decide +kernel⟩
theorem w_shown (T : TX K mg v S)  {fd : FuncData} (F : L2.Fun K "shown" "shown" st_shown v.f_shown fd) (B_shown : Binds K fd ["value"] []) (n : Nat) : FnG P w K mg base false (1 + n) v.f_shown fd ["value"] (spD S K 1 (h_shown v n)) := by
  induction n with
  | zero => exact fnG_bad
  | succ n ih =>
    have SC := sc_shown
    exact funG (kp := false) (b := b_shown v (h_shown v n)) (N := N_shown) (ps := ["value"]) (k := 1 + n) F SC fun cdv A fr s H E hg hr => ss_cons (s_iff (s_cmpT o_is rfl (s_var (i := 0) rfl (.inl rfl) rfl rfl) (s_non)) (ss_cons (s_ret (s_strL (by decide +kernel))) (ss_nil)) (ss_nil)) (ss_cons (s_iff (s_notT (s_val (s_isi (tx := "tuple") (T := "tuple") rfl T.n_isinstance rfl T.n_tuple (by kernel_rfl) (by decide) (by decide) (kit_tuple _) (s_var (i := 0) rfl (.inl rfl) rfl rfl) rfl rfl) (fun _ => rfl))) (ss_cons (s_ret (s_fs1 (s_fmt (s_var (i := 0) rfl (.inl rfl) rfl rfl)))) (ss_nil)) (ss_nil)) (ss_cons (s_set (i := 1) SC.nd rfl (.inl rfl) (s_mtS PySem.F.slot_str_join PySem.F.type_str_join o_join (s_strL (by decide +kernel)) (s_cons (s_lc (own := [("part", 2)]) rfl SC.nd (s_it (s_var (i := 0) rfl (.inl rfl) rfl rfl)) (blkOk_by (N := N_shown) (sc := defScope st_shown) (by decide +kernel)) (by decide) (fun _ _ _ _ _ => t_name SC.nd rfl (.inl rfl) (.inr rfl)) (fun _ _ _ _ _ => s_yes) (fun _ _ _ _ _ => s_call (ps := ["value"]) (h := h_shown v n) (ih.up (by omega)) (by intro z; cases z) hr rfl T.g_shown T.kf_shown B_shown LamX.takes0 (s_cons (s_var (i := 2) rfl (.inl rfl) rfl rfl) (s_nil) rfl)) (fun _ => rfl)) (s_nil) rfl) rfl rfl rfl rfl rfl) rfl (.inl rfl)) (ss_cons (s_ret (s_js (PJs.cons (s_strL (by decide +kernel)) (PJs.cons (s_fmt (s_var (i := 1) rfl (.inl rfl) rfl rfl)) (PJs.cons (s_strL (by decide +kernel)) (PJs.nil)))))) (ss_nil))))
abbrev st_value_text : Stmt := top 16
abbrev N_value_text : List Str := ["thing"]
def b_value_text (v : Vv) : Env → St → SO := gSeq (gIf (fNotT (fB (fDef 1 (h_is_plain_value v) (fCons (fVar 0) (fNil))))) (gSeq (gRaise0 1) (gNx)) (gNx)) (gSeq (gRet (fDef 1 (h_shown v 62) (fCons (fVar 0) (fNil)))) (gNx))
def h_value_text (v : Vv) : List D → St → Out D := runF false 1 (b_value_text v)
theorem sc_value_text : FnScope N_value_text ["thing"] (defScope st_value_text) := ⟨rfl, rfl, rfl, by decide +kernel, rfl, by decide +kernel, by decide +kernel⟩
theorem w_value_text (T : TX K mg v S) {fd_is_plain_value : FuncData} (G_is_plain_value : FnG P w K mg base false 65 v.f_is_plain_value fd_is_plain_value ["thing"] (spD S K 1 (h_is_plain_value v))) (B_is_plain_value : Binds K fd_is_plain_value ["thing"] []) {fd_shown : FuncData} (G_shown : FnG P w K mg base false 63 v.f_shown fd_shown ["value"] (spD S K 1 (h_shown v 62))) (B_shown : Binds K fd_shown ["value"] []) {f : Addr} {fd : FuncData} (F : L2.Fun K "value_text" "value_text" st_value_text f fd) : FnG P w K mg base false 66 f fd ["thing"] (spD S K 1 (h_value_text v)) :=
  have SC := sc_value_text
  funG (kp := false) (b := b_value_text v) (N := N_value_text) (ps := ["thing"]) F SC fun cdv A fr s H E hg hr => ss_cons (s_iff (s_notT (s_val (s_call (ps := ["thing"]) (h := (h_is_plain_value v)) (G_is_plain_value.up (by omega)) (by intro z; cases z) hr rfl T.g_is_plain_value T.kf_is_plain_value B_is_plain_value (takes_of rfl rfl rfl rfl) (s_cons (s_var (i := 0) rfl (.inl rfl) rfl rfl) (s_nil) rfl)) (fun _ => rfl))) (ss_cons (s_raiseN rfl (takes_of rfl rfl rfl rfl) PySem.F.excBase_ValueError T.x_Nothing T.g_Nothing T.kp_Nothing (raises_own T.sb_Nothing T.tb_Nothing) rfl T.at_Nothing T.fs_Nothing) (ss_nil)) (ss_nil)) (ss_cons (s_ret (s_call (ps := ["value"]) (h := (h_shown v 62)) (G_shown.up (by omega)) (by intro z; cases z) hr rfl T.g_shown T.kf_shown B_shown (takes_of rfl rfl rfl rfl) (s_cons (s_var (i := 0) rfl (.inl rfl) rfl rfl) (s_nil) rfl))) (ss_nil))
abbrev st_figures_value : Stmt := top 17
abbrev N_figures_value : List Str := ["run", "is_below", "digits", "sign"]
def b_figures_value (v : Vv) : Env → St → SO := gSeq (gSet 1 (f2 opEq (fSlc (fVar 0) (fNoP) (fPart (fC (.int 1)))) (fC (.str [45])))) (gSeq (gSet 2 (fIf (fB (fVar 1)) (fSlc (fVar 0) (fPart (fC (.int 1))) (fNoP)) (fVar 0))) (gSeq (gIf (fOrT (fB (f2 opEq (fVar 2) (fC (.str [])))) (fOrT (fB (f2 opGt (fCall cLen (fCons (fVar 2) (fNil))) (fC d_MOST_FIGURES))) (fNotT (fB (fCall (cBls fun bs => bs.all id) (fCons (fLcL (fLc (fIt (fVar 2)) (tgName 3) (fun _ st => .ok true st) (f2 opIn (fVar 3) (fC d_DIGITS)) [3])) (fNil))))))) (gSeq (gRet (fC .non)) (gNx)) (gNx)) (gSeq (gIf (fAndT (fB (f2 opEq (f2 opIdx (fVar 2) (fC (.int 0))) (fC (.str [48])))) (fOrT (fB (fVar 1)) (fB (f2 opNe (fVar 2) (fC (.str [48])))))) (gSeq (gRet (fC .non)) (gNx)) (gNx)) (gSeq (gRet (fTup (fCons (fIf (fB (fVar 1)) (f2 opSub (fC (.int 0)) (fCall cInt (fCons (fVar 2) (fNil)))) (fCall cInt (fCons (fVar 2) (fNil)))) (fNil)))) (gNx)))))
def h_figures_value (v : Vv) : List D → St → Out D := runF false 4 (b_figures_value v)
theorem sc_figures_value : FnScope N_figures_value ["run"] (defScope st_figures_value) := ⟨rfl, rfl, rfl, by decide +kernel, rfl, by decide +kernel, by decide +kernel⟩
theorem w_figures_value (T : TX K mg v S)  {f : Addr} {fd : FuncData} (F : L2.Fun K "figures_value" "figures_value" st_figures_value f fd) : FnG P w K mg base false 1 f fd ["run"] (spD S K 1 (h_figures_value v)) :=
  have SC := sc_figures_value
  funG (kp := false) (b := b_figures_value v) (N := N_figures_value) (ps := ["run"]) F SC fun cdv A fr s H E hg hr => ss_cons (s_set (i := 1) SC.nd rfl (.inl rfl) (s_cmp (o_eq hr.units) rfl (s_slc (s_var (i := 0) rfl (.inl rfl) rfl rfl) (s_noP) (s_part (s_int))) (s_strL (by decide +kernel))) rfl (.inl rfl)) (ss_cons (s_set (i := 2) SC.nd rfl (.inl rfl) (s_if (s_val (s_var (i := 1) rfl (.inl rfl) rfl rfl) (fun _ => rfl)) (s_slc (s_var (i := 0) rfl (.inl rfl) rfl rfl) (s_part (s_int)) (s_noP)) (s_var (i := 0) rfl (.inl rfl) rfl rfl)) rfl (.inl rfl)) (ss_cons (s_iff (PW.pt (s_orT (s_cmpT (o_eq hr.units) rfl (s_var (i := 2) rfl (.inl rfl) rfl rfl) (s_strL (by decide +kernel))) (s_orT (s_cmpT o_gt rfl (s_callB o_len rfl T.n_len (by kernel_rfl) (s_cons (s_var (i := 2) rfl (.inl rfl) rfl rfl) (s_nil) rfl) (by decide) (by decide) rfl rfl) (s_gatom rfl T.c_MOST_FIGURES T.d_MOST_FIGURES)) (pw_or1 (s_notT (s_val (s_callB (o_all rfl) rfl T.n_all (by kernel_rfl) (s_cons (s_lc (own := [("sign", 3)]) rfl SC.nd (s_it (s_var (i := 2) rfl (.inl rfl) rfl rfl)) (blkOk_by (N := N_figures_value) (sc := defScope st_figures_value) (by decide +kernel)) (by decide) (fun _ _ _ _ _ => t_name SC.nd rfl (.inl rfl) (.inr rfl)) (fun _ _ _ _ _ => s_yes) (fun _ _ _ _ _ => s_cmp o_in rfl (s_var (i := 3) rfl (.inl rfl) rfl rfl) (s_gatom rfl T.c_DIGITS T.d_DIGITS)) (fun _ => rfl)) (s_nil) rfl) (by decide) (by decide) rfl rfl) (fun _ => rfl))))))) (ss_cons (s_ret (s_non)) (ss_nil)) (ss_nil)) (ss_cons (s_iff (PW.pt (s_andT (s_cmpT (o_eq hr.units) rfl (s_idx (fun _ _ => rfl) (s_var (i := 2) rfl (.inl rfl) rfl rfl) (s_int)) (s_strL (by decide +kernel))) (pw_and1 (PW.pt (s_orT (s_val (s_var (i := 1) rfl (.inl rfl) rfl rfl) (fun _ => rfl)) (pw_or1 (s_cmpT (o_ne hr.units) rfl (s_var (i := 2) rfl (.inl rfl) rfl rfl) (s_strL (by decide +kernel))))))))) (ss_cons (s_ret (s_non)) (ss_nil)) (ss_nil)) (ss_cons (s_ret (s_tup (s_cons (s_if (s_val (s_var (i := 1) rfl (.inl rfl) rfl rfl) (fun _ => rfl)) (s_bin o_sub (s_int) (s_callTy o_int rfl T.n_int (by kernel_rfl) (s_cons (s_var (i := 2) rfl (.inl rfl) rfl rfl) (s_nil) rfl) (by decide) (by decide) rfl rfl)) (s_callTy o_int rfl T.n_int (by kernel_rfl) (s_cons (s_var (i := 2) rfl (.inl rfl) rfl rfl) (s_nil) rfl) (by decide) (by decide) rfl rfl)) (s_nil) rfl))) (ss_nil)))))
abbrev st_run_value : Stmt := top 18
abbrev N_run_value : List Str := ["run"]
def b_run_value (v : Vv) : Env → St → SO := gSeq (gIf (fB (f2 opEq (fVar 0) (fC (.str [45])))) (gSeq (gRet (fTup (fCons (fC .non) (fNil)))) (gNx)) (gNx)) (gSeq (gRet (fIf (fB (fDef 1 (h_is_word v) (fCons (fVar 0) (fNil)))) (fTup (fCons (fVar 0) (fNil))) (fDef 1 (h_figures_value v) (fCons (fVar 0) (fNil))))) (gNx))
def h_run_value (v : Vv) : List D → St → Out D := runF false 1 (b_run_value v)
theorem sc_run_value : FnScope N_run_value ["run"] (defScope st_run_value) := ⟨rfl, rfl, rfl, by decide +kernel, rfl, by decide +kernel, by decide +kernel⟩
theorem w_run_value (T : TX K mg v S) {fd_figures_value : FuncData} (G_figures_value : FnG P w K mg base false 1 v.f_figures_value fd_figures_value ["run"] (spD S K 1 (h_figures_value v))) (B_figures_value : Binds K fd_figures_value ["run"] []) {fd_is_word : FuncData} (G_is_word : FnG P w K mg base false 1 v.f_is_word fd_is_word ["thing"] (spD S K 1 (h_is_word v))) (B_is_word : Binds K fd_is_word ["thing"] []) {f : Addr} {fd : FuncData} (F : L2.Fun K "run_value" "run_value" st_run_value f fd) : FnG P w K mg base false 2 f fd ["run"] (spD S K 1 (h_run_value v)) :=
  have SC := sc_run_value
  funG (kp := false) (b := b_run_value v) (N := N_run_value) (ps := ["run"]) F SC fun cdv A fr s H E hg hr => ss_cons (s_iff (s_cmpT (o_eq hr.units) rfl (s_var (i := 0) rfl (.inl rfl) rfl rfl) (s_strL (by decide +kernel))) (ss_cons (s_ret (s_tup (s_cons (s_non) (s_nil) rfl))) (ss_nil)) (ss_nil)) (ss_cons (s_ret (s_if (s_val (s_call (ps := ["thing"]) (h := (h_is_word v)) (G_is_word.up (by omega)) (by intro z; cases z) hr rfl T.g_is_word T.kf_is_word B_is_word (takes_of rfl rfl rfl rfl) (s_cons (s_var (i := 0) rfl (.inl rfl) rfl rfl) (s_nil) rfl)) (fun _ => rfl)) (s_tup (s_cons (s_var (i := 0) rfl (.inl rfl) rfl rfl) (s_nil) rfl)) (s_call (ps := ["run"]) (h := (h_figures_value v)) (G_figures_value.up (by omega)) (by intro z; cases z) hr rfl T.g_figures_value T.kf_figures_value B_figures_value (takes_of rfl rfl rfl rfl) (s_cons (s_var (i := 0) rfl (.inl rfl) rfl rfl) (s_nil) rfl)))) (ss_nil))
abbrev st_Values___init__ : Stmt := (inClass (top 19) 0)
abbrev N_Values___init__ : List Str := ["self", "text"]
def b_Values___init__ (v : Vv) : Env → St → SO := gSeq (gFldSet (okC 0 v.c_Values) "signs" 0 (fVar 1) (fVar 0)) (gSeq (gFldSet (okC 0 v.c_Values) "at" 1 (fC (.int 0)) (fVar 0)) (gNx))
def h_Values___init__ (v : Vv) : List D → St → Out D := runF false 2 (b_Values___init__ v)
theorem sc_Values___init__ : FnScope N_Values___init__ ["self", "text"] (defScope st_Values___init__) := ⟨rfl, rfl, rfl, by decide +kernel, rfl, by decide +kernel, by decide +kernel⟩
theorem w_Values___init__ (T : TX K mg v S)  {f : Addr} {fd : FuncData} (F : L2.Fun K "__init__" "Values.__init__" st_Values___init__ f fd) : FnG P w K mg base false 1 f fd ["self", "text"] (spD S K 2 (h_Values___init__ v)) :=
  have SC := sc_Values___init__
  funG (kp := false) (b := b_Values___init__ v) (N := N_Values___init__) (ps := ["self", "text"]) F SC fun cdv A fr s H E hg hr => ss_cons (s_fldSet (okC_all ⟨T.cl_Values, T.nf_Values_signs⟩) (s_var (i := 1) rfl (.inl rfl) rfl rfl) (s_var (i := 0) rfl (.inl rfl) rfl rfl) rfl) (ss_cons (s_fldSet (okC_all ⟨T.cl_Values, T.nf_Values_at⟩) (s_int) (s_var (i := 0) rfl (.inl rfl) rfl rfl) rfl) (ss_nil))
abbrev st_Values_fail : Stmt := (inClass (top 19) 1)
abbrev N_Values_fail : List Str := ["self"]
def b_Values_fail (v : Vv) : Env → St → SO := gSeq (gRaise 0 2 (fCons (fC (.int 1)) (fCons (f2 opAdd (fFld (okC 0 v.c_Values) "at" 1 (fVar 0)) (fC (.int 1))) (fNil)))) (gNx)
def h_Values_fail (v : Vv) : List D → St → Out D := runF false 1 (b_Values_fail v)
theorem sc_Values_fail : FnScope N_Values_fail ["self"] (defScope st_Values_fail) := ⟨rfl, rfl, rfl, by decide +kernel, rfl, by decide +kernel, by decide +kernel⟩
theorem w_Values_fail (T : TX K mg v S)  {fdI_BadText : FuncData} (I_BadText : FnOk P w K mg base (L2.CX P w) 0 v.i_BadText fdI_BadText ["self", "line", "column"] (sp2 K v.D_BadText "line" "column")) (BI_BadText : Binds K fdI_BadText ["self", "line", "column"] []) {f : Addr} {fd : FuncData} (F : L2.Fun K "fail" "Values.fail" st_Values_fail f fd) : FnG P w K mg base false 2 f fd ["self"] (spD S K 1 (h_Values_fail v)) :=
  have SC := sc_Values_fail
  funG (kp := false) (b := b_Values_fail v) (N := N_Values_fail) (ps := ["self"]) F SC fun cdv A fr s H E hg hr => ss_cons (s_raise2 rfl (takes_of rfl rfl rfl rfl) T.ic_BadText T.fi_BadText T.ti_BadText I_BadText (hr.mono (by decide)) BI_BadText rfl T.g_BadText (s_cons (s_int) (s_cons (s_bin o_add (s_fld (okC_all ⟨T.cl_Values, T.nf_Values_at⟩) (s_var (i := 0) rfl (.inl rfl) rfl rfl) rfl) (s_int)) (s_nil) rfl) rfl) T.at_BadText T.fs_BadText (by decide)) (ss_nil)
abbrev st_Values_is_next : Stmt := (inClass (top 19) 2)
abbrev N_Values_is_next : List Str := ["self", "sign"]
def b_Values_is_next (v : Vv) : Env → St → SO := gSeq (gRet (f2 opEq (fSlc (fFld (okC 0 v.c_Values) "signs" 0 (fVar 0)) (fPart (fFld (okC 0 v.c_Values) "at" 1 (fVar 0))) (fPart (f2 opAdd (fFld (okC 0 v.c_Values) "at" 1 (fVar 0)) (fC (.int 1))))) (fVar 1))) (gNx)
def h_Values_is_next (v : Vv) : List D → St → Out D := runF false 2 (b_Values_is_next v)
theorem sc_Values_is_next : FnScope N_Values_is_next ["self", "sign"] (defScope st_Values_is_next) := ⟨rfl, rfl, rfl, by decide +kernel, rfl, by decide +kernel, by decide +kernel⟩
theorem w_Values_is_next (T : TX K mg v S)  {f : Addr} {fd : FuncData} (F : L2.Fun K "is_next" "Values.is_next" st_Values_is_next f fd) : FnG P w K mg base false 1 f fd ["self", "sign"] (spD S K 2 (h_Values_is_next v)) :=
  have SC := sc_Values_is_next
  funG (kp := false) (b := b_Values_is_next v) (N := N_Values_is_next) (ps := ["self", "sign"]) F SC fun cdv A fr s H E hg hr => ss_cons (s_ret (s_cmp (o_eq hr.units) rfl (s_slc (s_fld (okC_all ⟨T.cl_Values, T.nf_Values_signs⟩) (s_var (i := 0) rfl (.inl rfl) rfl rfl) rfl) (s_part (s_fld (okC_all ⟨T.cl_Values, T.nf_Values_at⟩) (s_var (i := 0) rfl (.inl rfl) rfl rfl) rfl)) (s_part (s_bin o_add (s_fld (okC_all ⟨T.cl_Values, T.nf_Values_at⟩) (s_var (i := 0) rfl (.inl rfl) rfl rfl) rfl) (s_int)))) (s_var (i := 1) rfl (.inl rfl) rfl rfl))) (ss_nil)
abbrev st_Values_run : Stmt := (inClass (top 19) 3)
abbrev N_Values_run : List Str := ["self", "end"]
def b_Values_run (v : Vv) : Env → St → SO := gSeq (gSet 1 (fFld (okC 0 v.c_Values) "at" 1 (fVar 0))) (gSeq (gWhile (fun _ _ => 1000000) (fAndT (fB (f2 opLt (fVar 1) (fCall cLen (fCons (fFld (okC 0 v.c_Values) "signs" 0 (fVar 0)) (fNil))))) (fB (f2 opNotIn (f2 opIdx (fFld (okC 0 v.c_Values) "signs" 0 (fVar 0)) (fVar 1)) (fC (.str [32, 40, 41]))))) (gSeq (gSet 1 (f2 opAdd (fVar 1) (fC (.int 1)))) (gNx))) (gSeq (gRet (fSlc (fFld (okC 0 v.c_Values) "signs" 0 (fVar 0)) (fPart (fFld (okC 0 v.c_Values) "at" 1 (fVar 0))) (fPart (fVar 1)))) (gNx)))
def h_Values_run (v : Vv) : List D → St → Out D := runF false 2 (b_Values_run v)
theorem sc_Values_run : FnScope N_Values_run ["self"] (defScope st_Values_run) := ⟨rfl, rfl, rfl, by decide +kernel, rfl, by decide +kernel, by decide +kernel⟩
theorem w_Values_run (T : TX K mg v S)  {f : Addr} {fd : FuncData} (F : L2.Fun K "run" "Values.run" st_Values_run f fd) : FnG P w K mg base false 1 f fd ["self"] (spD S K 1 (h_Values_run v)) :=
  have SC := sc_Values_run
  funG (kp := false) (b := b_Values_run v) (N := N_Values_run) (ps := ["self"]) F SC fun cdv A fr s H E hg hr => ss_cons (s_set (i := 1) SC.nd rfl (.inl rfl) (s_fld (okC_all ⟨T.cl_Values, T.nf_Values_at⟩) (s_var (i := 0) rfl (.inl rfl) rfl rfl) rfl) rfl (.inl rfl)) (ss_cons (s_while (passes_of rfl) (PW.pt (s_andT (s_cmpT o_lt rfl (s_var (i := 1) rfl (.inl rfl) rfl rfl) (s_callB o_len rfl T.n_len (by kernel_rfl) (s_cons (s_fld (okC_all ⟨T.cl_Values, T.nf_Values_signs⟩) (s_var (i := 0) rfl (.inl rfl) rfl rfl) rfl) (s_nil) rfl) (by decide) (by decide) rfl rfl)) (pw_and1 (s_cmpT o_notIn rfl (s_idx (fun _ _ => rfl) (s_fld (okC_all ⟨T.cl_Values, T.nf_Values_signs⟩) (s_var (i := 0) rfl (.inl rfl) rfl rfl) rfl) (s_var (i := 1) rfl (.inl rfl) rfl rfl)) (s_strL (by decide +kernel)))))) (ss_cons (s_set (i := 1) SC.nd rfl (.inl rfl) (s_bin o_add (s_var (i := 1) rfl (.inl rfl) rfl rfl) (s_int)) rfl (.inl rfl)) (ss_nil))) (ss_cons (s_ret (s_slc (s_fld (okC_all ⟨T.cl_Values, T.nf_Values_signs⟩) (s_var (i := 0) rfl (.inl rfl) rfl rfl) rfl) (s_part (s_fld (okC_all ⟨T.cl_Values, T.nf_Values_at⟩) (s_var (i := 0) rfl (.inl rfl) rfl rfl) rfl)) (s_part (s_var (i := 1) rfl (.inl rfl) rfl rfl)))) (ss_nil)))
abbrev st_Values_value : Stmt := (inClass (top 19) 4)
abbrev N_Values_value : List Str := ["self", "deep", "found"]
def b_Values_value (v : Vv) (h : List D → St → Out D) : Env → St → SO := gSeq (gIf (fNotT (fB (fMeth (okC 0 v.c_Values) "is_next" 2 (h_Values_is_next v) (fVar 0) (fCons (fC (.str [40])) (fNil))))) (gSeq (gSet 2 (fDef 1 (h_run_value v) (fCons (fMeth (okC 0 v.c_Values) "run" 1 (h_Values_run v) (fVar 0) (fNil)) (fNil)))) (gSeq (gIf (fB (f2 opIs (fVar 2) (fC .non))) (gSeq (gExpr (fMeth (okC 0 v.c_Values) "fail" 1 (h_Values_fail v) (fVar 0) (fNil))) (gNx)) (gNx)) (gSeq (gFldSet (okC 0 v.c_Values) "at" 1 (f2 opAdd (fFld (okC 0 v.c_Values) "at" 1 (fVar 0)) (fCall cLen (fCons (fMeth (okC 0 v.c_Values) "run" 1 (h_Values_run v) (fVar 0) (fNil)) (fNil)))) (fVar 0)) (gSeq (gRet (f2 opIdx (fVar 2) (fC (.int 0)))) (gNx))))) (gNx)) (gSeq (gIf (fB (f2 opEq (fVar 1) (fC (.int 0)))) (gSeq (gExpr (fMeth (okC 0 v.c_Values) "fail" 1 (h_Values_fail v) (fVar 0) (fNil))) (gNx)) (gNx)) (gSeq (gFldSet (okC 0 v.c_Values) "at" 1 (f2 opAdd (fFld (okC 0 v.c_Values) "at" 1 (fVar 0)) (fC (.int 1))) (fVar 0)) (gSeq (gSet 2 (fBox (fNil))) (gSeq (gWhile (fun _ _ => 1000000) (fNotT (fB (fMeth (okC 0 v.c_Values) "is_next" 2 (h_Values_is_next v) (fVar 0) (fCons (fC (.str [41])) (fNil))))) (gSeq (gIf (fB (f2 opNe (fVar 2) (fLst (fNil)))) (gSeq (gIf (fNotT (fB (fMeth (okC 0 v.c_Values) "is_next" 2 (h_Values_is_next v) (fVar 0) (fCons (fC (.str [32])) (fNil))))) (gSeq (gExpr (fMeth (okC 0 v.c_Values) "fail" 1 (h_Values_fail v) (fVar 0) (fNil))) (gNx)) (gNx)) (gSeq (gFldSet (okC 0 v.c_Values) "at" 1 (f2 opAdd (fFld (okC 0 v.c_Values) "at" 1 (fVar 0)) (fC (.int 1))) (fVar 0)) (gNx))) (gNx)) (gSeq (gExpr (fMtL mAppend (fVar 2) (fCons (fMeth (okC 0 v.c_Values) "value" 2 h (fVar 0) (fCons (f2 opSub (fVar 1) (fC (.int 1))) (fNil))) (fNil)))) (gNx)))) (gSeq (gFldSet (okC 0 v.c_Values) "at" 1 (f2 opAdd (fFld (okC 0 v.c_Values) "at" 1 (fVar 0)) (fC (.int 1))) (fVar 0)) (gSeq (gRet (fCall cTup (fCons (fVar 2) (fNil)))) (gNx)))))))
def h_Values_value (v : Vv) : Nat → List D → St → Out D
  | 0 => hBad
  | n + 1 => runF false 3 (b_Values_value v (h_Values_value v n))
theorem sc_Values_value : FnScope N_Values_value ["self", "deep"] (defScope st_Values_value) := ⟨rfl, rfl, rfl, by decide +kernel, rfl, by decide +kernel, by decide +kernel⟩
theorem w_Values_value (T : TX K mg v S) {fd_Values_fail : FuncData} (G_Values_fail : FnG P w K mg base false 2 v.f_Values_fail fd_Values_fail ["self"] (spD S K 1 (h_Values_fail v))) (B_Values_fail : Binds K fd_Values_fail ["self"] []) {fd_Values_is_next : FuncData} (G_Values_is_next : FnG P w K mg base false 1 v.f_Values_is_next fd_Values_is_next ["self", "sign"] (spD S K 2 (h_Values_is_next v))) (B_Values_is_next : Binds K fd_Values_is_next ["self", "sign"] []) {fd_Values_run : FuncData} (G_Values_run : FnG P w K mg base false 1 v.f_Values_run fd_Values_run ["self"] (spD S K 1 (h_Values_run v))) (B_Values_run : Binds K fd_Values_run ["self"] []) {fd_run_value : FuncData} (G_run_value : FnG P w K mg base false 2 v.f_run_value fd_run_value ["run"] (spD S K 1 (h_run_value v))) (B_run_value : Binds K fd_run_value ["run"] []) {fd : FuncData} (F : L2.Fun K "value" "Values.value" st_Values_value v.f_Values_value fd) (B_Values_value : Binds K fd ["self", "deep"] []) (n : Nat) : FnG P w K mg base false (3 + n) v.f_Values_value fd ["self", "deep"] (spD S K 2 (h_Values_value v n)) := by
  induction n with
  | zero => exact fnG_bad
  | succ n ih =>
    have SC := sc_Values_value
    exact funG (kp := false) (b := b_Values_value v (h_Values_value v n)) (N := N_Values_value) (ps := ["self", "deep"]) (k := 3 + n) F SC fun cdv A fr s H E hg hr => ss_cons (s_iff (s_notT (s_val (s_meth (ok := okC 0 v.c_Values) (C := v.c_Values) (ps := ["self", "sign"]) (h := (h_Values_is_next v)) (fun _ _ z => okC_eq z) T.cl_Values T.m_Values_is_next (G_Values_is_next.up (by omega)) (by intro z; cases z) hr B_Values_is_next (takes_of rfl rfl rfl rfl) (s_var (i := 0) rfl (.inl rfl) rfl rfl) (s_cons (s_strL (by decide +kernel)) (s_nil) rfl)) (fun _ => rfl))) (ss_cons (s_set (i := 2) SC.nd rfl (.inl rfl) (s_call (ps := ["run"]) (h := (h_run_value v)) (G_run_value.up (by omega)) (by intro z; cases z) hr rfl T.g_run_value T.kf_run_value B_run_value (takes_of rfl rfl rfl rfl) (s_cons (s_meth0 (ok := okC 0 v.c_Values) (C := v.c_Values) (ps := ["self"]) (h := (h_Values_run v)) (fun _ _ z => okC_eq z) T.cl_Values T.m_Values_run (G_Values_run.up (by omega)) (by intro z; cases z) hr B_Values_run (takes_of rfl rfl rfl rfl) (s_var (i := 0) rfl (.inl rfl) rfl rfl)) (s_nil) rfl)) rfl (.inl rfl)) (ss_cons (s_iff (s_cmpT o_is rfl (s_var (i := 2) rfl (.inl rfl) rfl rfl) (s_non)) (ss_cons (s_expr (s_meth0 (ok := okC 0 v.c_Values) (C := v.c_Values) (ps := ["self"]) (h := (h_Values_fail v)) (fun _ _ z => okC_eq z) T.cl_Values T.m_Values_fail (G_Values_fail.up (by omega)) (by intro z; cases z) hr B_Values_fail (takes_of rfl rfl rfl rfl) (s_var (i := 0) rfl (.inl rfl) rfl rfl)) rfl) (ss_nil)) (ss_nil)) (ss_cons (s_fldSet (okC_all ⟨T.cl_Values, T.nf_Values_at⟩) (s_bin o_add (s_fld (okC_all ⟨T.cl_Values, T.nf_Values_at⟩) (s_var (i := 0) rfl (.inl rfl) rfl rfl) rfl) (s_callB o_len rfl T.n_len (by kernel_rfl) (s_cons (s_meth0 (ok := okC 0 v.c_Values) (C := v.c_Values) (ps := ["self"]) (h := (h_Values_run v)) (fun _ _ z => okC_eq z) T.cl_Values T.m_Values_run (G_Values_run.up (by omega)) (by intro z; cases z) hr B_Values_run (takes_of rfl rfl rfl rfl) (s_var (i := 0) rfl (.inl rfl) rfl rfl)) (s_nil) rfl) (by decide) (by decide) rfl rfl)) (s_var (i := 0) rfl (.inl rfl) rfl rfl) rfl) (ss_cons (s_ret (s_idx (fun _ _ => rfl) (s_var (i := 2) rfl (.inl rfl) rfl rfl) (s_int))) (ss_nil))))) (ss_nil)) (ss_cons (s_iff (s_cmpT (o_eq hr.units) rfl (s_var (i := 1) rfl (.inl rfl) rfl rfl) (s_int)) (ss_cons (s_expr (s_meth0 (ok := okC 0 v.c_Values) (C := v.c_Values) (ps := ["self"]) (h := (h_Values_fail v)) (fun _ _ z => okC_eq z) T.cl_Values T.m_Values_fail (G_Values_fail.up (by omega)) (by intro z; cases z) hr B_Values_fail (takes_of rfl rfl rfl rfl) (s_var (i := 0) rfl (.inl rfl) rfl rfl)) rfl) (ss_nil)) (ss_nil)) (ss_cons (s_fldSet (okC_all ⟨T.cl_Values, T.nf_Values_at⟩) (s_bin o_add (s_fld (okC_all ⟨T.cl_Values, T.nf_Values_at⟩) (s_var (i := 0) rfl (.inl rfl) rfl rfl) rfl) (s_int)) (s_var (i := 0) rfl (.inl rfl) rfl rfl) rfl) (ss_cons (s_set (i := 2) SC.nd rfl (.inl rfl) (s_boxE (s_nil)) rfl (.inl rfl)) (ss_cons (s_while (passes_of rfl) (s_notT (s_val (s_meth (ok := okC 0 v.c_Values) (C := v.c_Values) (ps := ["self", "sign"]) (h := (h_Values_is_next v)) (fun _ _ z => okC_eq z) T.cl_Values T.m_Values_is_next (G_Values_is_next.up (by omega)) (by intro z; cases z) hr B_Values_is_next (takes_of rfl rfl rfl rfl) (s_var (i := 0) rfl (.inl rfl) rfl rfl) (s_cons (s_strL (by decide +kernel)) (s_nil) rfl)) (fun _ => rfl))) (ss_cons (s_iff (s_cmpT (o_ne hr.units) rfl (s_var (i := 2) rfl (.inl rfl) rfl rfl) (s_lst (s_nil))) (ss_cons (s_iff (s_notT (s_val (s_meth (ok := okC 0 v.c_Values) (C := v.c_Values) (ps := ["self", "sign"]) (h := (h_Values_is_next v)) (fun _ _ z => okC_eq z) T.cl_Values T.m_Values_is_next (G_Values_is_next.up (by omega)) (by intro z; cases z) hr B_Values_is_next (takes_of rfl rfl rfl rfl) (s_var (i := 0) rfl (.inl rfl) rfl rfl) (s_cons (s_strL (by decide +kernel)) (s_nil) rfl)) (fun _ => rfl))) (ss_cons (s_expr (s_meth0 (ok := okC 0 v.c_Values) (C := v.c_Values) (ps := ["self"]) (h := (h_Values_fail v)) (fun _ _ z => okC_eq z) T.cl_Values T.m_Values_fail (G_Values_fail.up (by omega)) (by intro z; cases z) hr B_Values_fail (takes_of rfl rfl rfl rfl) (s_var (i := 0) rfl (.inl rfl) rfl rfl)) rfl) (ss_nil)) (ss_nil)) (ss_cons (s_fldSet (okC_all ⟨T.cl_Values, T.nf_Values_at⟩) (s_bin o_add (s_fld (okC_all ⟨T.cl_Values, T.nf_Values_at⟩) (s_var (i := 0) rfl (.inl rfl) rfl rfl) rfl) (s_int)) (s_var (i := 0) rfl (.inl rfl) rfl rfl) rfl) (ss_nil))) (ss_nil)) (ss_cons (s_expr (s_mtL PySem.F.slot_list_append PySem.F.type_list_append o_append (s_var (i := 2) rfl (.inl rfl) rfl rfl) (s_cons (s_meth (ok := okC 0 v.c_Values) (C := v.c_Values) (ps := ["self", "deep"]) (h := h_Values_value v n) (fun _ _ z => okC_eq z) T.cl_Values T.m_Values_value (ih.up (by omega)) (by intro z; cases z) hr B_Values_value (takes_of rfl rfl rfl rfl) (s_var (i := 0) rfl (.inl rfl) rfl rfl) (s_cons (s_bin o_sub (s_var (i := 1) rfl (.inl rfl) rfl rfl) (s_int)) (s_nil) rfl)) (s_nil) rfl) rfl rfl rfl rfl rfl) rfl) (ss_nil)))) (ss_cons (s_fldSet (okC_all ⟨T.cl_Values, T.nf_Values_at⟩) (s_bin o_add (s_fld (okC_all ⟨T.cl_Values, T.nf_Values_at⟩) (s_var (i := 0) rfl (.inl rfl) rfl rfl) rfl) (s_int)) (s_var (i := 0) rfl (.inl rfl) rfl rfl) rfl) (ss_cons (s_ret (s_callTy o_tup rfl T.n_tuple (by kernel_rfl) (s_cons (s_var (i := 2) rfl (.inl rfl) rfl rfl) (s_nil) rfl) (by decide) (by decide) rfl rfl)) (ss_nil)))))))
abbrev st_read_value : Stmt := top 20
abbrev N_read_value : List Str := ["text", "reader", "found"]
def b_read_value (v : Vv) : Env → St → SO := gSeq (gIf (fNotT (fB (fIsi (tabT "str") (fVar 0)))) (gSeq (gRaise0 1) (gNx)) (gNx)) (gSeq (gSet 1 (fMake 0 v.c_Values 2 (h_Values___init__ v) (fCons (fVar 0) (fNil)))) (gSeq (gSet 2 (fMeth (okC 0 v.c_Values) "value" 2 (h_Values_value v 62) (fVar 1) (fCons (fC d_MOST_LEVELS) (fNil)))) (gSeq (gIf (fB (f2 opLt (fFld (okC 0 v.c_Values) "at" 1 (fVar 1)) (fCall cLen (fCons (fVar 0) (fNil))))) (gSeq (gExpr (fMeth (okC 0 v.c_Values) "fail" 1 (h_Values_fail v) (fVar 1) (fNil))) (gNx)) (gNx)) (gSeq (gRet (fVar 2)) (gNx)))))
def h_read_value (v : Vv) : List D → St → Out D := runF false 3 (b_read_value v)
theorem sc_read_value : FnScope N_read_value ["text"] (defScope st_read_value) := ⟨rfl, rfl, rfl, by decide +kernel, rfl, by decide +kernel, by decide +kernel⟩
theorem w_read_value (T : TX K mg v S) {fd_Values___init__ : FuncData} (G_Values___init__ : FnG P w K mg base false 1 v.f_Values___init__ fd_Values___init__ ["self", "text"] (spD S K 2 (h_Values___init__ v))) (B_Values___init__ : Binds K fd_Values___init__ ["self", "text"] []) {fd_Values_fail : FuncData} (G_Values_fail : FnG P w K mg base false 2 v.f_Values_fail fd_Values_fail ["self"] (spD S K 1 (h_Values_fail v))) (B_Values_fail : Binds K fd_Values_fail ["self"] []) {fd_Values_value : FuncData} (G_Values_value : FnG P w K mg base false 65 v.f_Values_value fd_Values_value ["self", "deep"] (spD S K 2 (h_Values_value v 62))) (B_Values_value : Binds K fd_Values_value ["self", "deep"] []) {f : Addr} {fd : FuncData} (F : L2.Fun K "read_value" "read_value" st_read_value f fd) : FnG P w K mg base false 66 f fd ["text"] (spD S K 1 (h_read_value v)) :=
  have SC := sc_read_value
  funG (kp := false) (b := b_read_value v) (N := N_read_value) (ps := ["text"]) F SC fun cdv A fr s H E hg hr => ss_cons (s_iff (s_notT (s_val (s_isi (tx := "str") (T := "str") rfl T.n_isinstance rfl T.n_str (by kernel_rfl) (by decide) (by decide) (kit_str _) (s_var (i := 0) rfl (.inl rfl) rfl rfl) rfl rfl) (fun _ => rfl))) (ss_cons (s_raiseN rfl (takes_of rfl rfl rfl rfl) PySem.F.excBase_ValueError T.x_Nothing T.g_Nothing T.kp_Nothing (raises_own T.sb_Nothing T.tb_Nothing) rfl T.at_Nothing T.fs_Nothing) (ss_nil)) (ss_nil)) (ss_cons (s_set (i := 1) SC.nd rfl (.inl rfl) (s_make (c := 0) (ps := ["self", "text"]) (h := h_Values___init__ v) T.mk_Values G_Values___init__ (by intro z; cases z) (hr.mono (by omega)) B_Values___init__ (takes_of rfl rfl rfl rfl) rfl T.g_Values (s_cons (s_var (i := 0) rfl (.inl rfl) rfl rfl) (s_nil) rfl)) rfl (.inl rfl)) (ss_cons (s_set (i := 2) SC.nd rfl (.inl rfl) (s_meth (ok := okC 0 v.c_Values) (C := v.c_Values) (ps := ["self", "deep"]) (h := (h_Values_value v 62)) (fun _ _ z => okC_eq z) T.cl_Values T.m_Values_value (G_Values_value.up (by omega)) (by intro z; cases z) hr B_Values_value (takes_of rfl rfl rfl rfl) (s_var (i := 1) rfl (.inl rfl) rfl rfl) (s_cons (s_gatom rfl T.c_MOST_LEVELS T.d_MOST_LEVELS) (s_nil) rfl)) rfl (.inl rfl)) (ss_cons (s_iff (s_cmpT o_lt rfl (s_fld (okC_all ⟨T.cl_Values, T.nf_Values_at⟩) (s_var (i := 1) rfl (.inl rfl) rfl rfl) rfl) (s_callB o_len rfl T.n_len (by kernel_rfl) (s_cons (s_var (i := 0) rfl (.inl rfl) rfl rfl) (s_nil) rfl) (by decide) (by decide) rfl rfl)) (ss_cons (s_expr (s_meth0 (ok := okC 0 v.c_Values) (C := v.c_Values) (ps := ["self"]) (h := (h_Values_fail v)) (fun _ _ z => okC_eq z) T.cl_Values T.m_Values_fail (G_Values_fail.up (by omega)) (by intro z; cases z) hr B_Values_fail (takes_of rfl rfl rfl rfl) (s_var (i := 1) rfl (.inl rfl) rfl rfl)) rfl) (ss_nil)) (ss_nil)) (ss_cons (s_ret (s_var (i := 2) rfl (.inl rfl) rfl rfl)) (ss_nil)))))
abbrev st__law_bag : Stmt := top 22
abbrev N__law_bag : List Str := ["script", "cell"]
def b__law_bag (v : Vv) : Env → St → SO := gSeq (gRet (fBox (fCons (fC (.int 0)) (fCons (fC (.int 1234567891)) (fCons (fC (.int 0)) (fCons (fLcL (fLc (fIt (fSlc (fVar 0) (fNoP) (fPart (fC (.int 63))))) (tgName 1) (fun _ st => .ok true st) (fCall cAbs (fCons (fVar 1) (fNil))) [1])) (fNil))))))) (gNx)
def h__law_bag (v : Vv) : List D → St → Out D := runF true 2 (b__law_bag v)
theorem sc__law_bag : FnScope N__law_bag ["script"] (defScope st__law_bag) := ⟨rfl, rfl, rfl, by decide +kernel, rfl, by decide +kernel, by decide +kernel⟩
theorem w__law_bag (T : TX K mg v S)  {f : Addr} {fd : FuncData} (F : L2.Fun K "_law_bag" "_law_bag" st__law_bag f fd) : FnG P w K mg base false 1 f fd ["script"] (spD S K 1 (h__law_bag v)) :=
  have SC := sc__law_bag
  funG (kp := true) (b := b__law_bag v) (N := N__law_bag) (ps := ["script"]) F SC fun cdv A fr s H E hg hr => ss_cons (s_ret (s_boxE (s_cons (s_int) (s_cons (s_int) (s_cons (s_int) (s_cons (s_lc (own := [("cell", 1)]) rfl SC.nd (s_it (s_slc (s_var (i := 0) rfl (.inl rfl) rfl rfl) (s_noP) (s_part (s_int)))) (blkOk_by (N := N__law_bag) (sc := defScope st__law_bag) (by decide +kernel)) (by decide) (fun _ _ _ _ _ => t_name SC.nd rfl (.inl rfl) (.inr rfl)) (fun _ _ _ _ _ => s_yes) (fun _ _ _ _ _ => s_callB o_abs rfl T.n_abs (by kernel_rfl) (s_cons (s_var (i := 1) rfl (.inl rfl) rfl rfl) (s_nil) rfl) (by decide) (by decide) rfl rfl) (fun _ => rfl)) (s_nil) rfl) rfl) rfl) rfl))) (ss_nil)
abbrev st__law_take : Stmt := top 23
abbrev N__law_take : List Str := ["bag", "many", "cell", "stirred", "value", "begin", "second"]
def b__law_take (v : Vv) : Env → St → SO := gSeq (gIf (fB (f2 opEq (f2 opIdx (fVar 0) (fC (.int 0))) (fC (.int 0)))) (gSeq (gSet 2 (f2 opIdx (f2 opAdd (fSlc (f2 opIdx (fVar 0) (fC (.int 3))) (fPart (f2 opIdx (fVar 0) (fC (.int 2)))) (fNoP)) (fLst (fCons (fC (.int 0)) (fNil)))) (fC (.int 0)))) (gSeq (gAugPut (fun x y => x + y) (fVar 0) (fC (.int 2)) (fC (.int 1))) (gSeq (gIf (fB (f2 opGe (fVar 2) (f2 opPow (fC (.int 10)) (fC (.int 18))))) (gSeq (gPut (fVar 2) (fVar 0) (fC (.int 0))) (gNx)) (gNx)) (gSeq (gSet 3 (f2 opAdd (f2 opAdd (f2 opMul (f2 opIdx (fVar 0) (fC (.int 1))) (fC (.int 48271))) (f2 opMod (fCall cInt (fCons (fVar 2) (fNil))) (fC (.int 2147483647)))) (f2 opMul (fC (.int 7919)) (f2 opIdx (fVar 0) (fC (.int 2)))))) (gSeq (gPut (f2 opMod (fCall cInt (fCons (fVar 3) (fNil))) (fC (.int 2147483647))) (fVar 0) (fC (.int 1))) (gNx)))))) (gNx)) (gSeq (gIf (fB (f2 opGt (f2 opIdx (fVar 0) (fC (.int 0))) (fC (.int 0)))) (gSeq (gSet 4 (f2 opMod (fCall cInt (fCons (f2 opIdx (fVar 0) (fC (.int 0))) (fNil))) (fVar 1))) (gSeq (gPut (f2 opDiv (fCall cInt (fCons (f2 opIdx (fVar 0) (fC (.int 0))) (fNil))) (fVar 1)) (fVar 0) (fC (.int 0))) (gSeq (gRet (fVar 4)) (gNx)))) (gNx)) (gSeq (gSet 5 (f2 opMod (fCall cInt (fCons (f2 opMul (f2 opAdd (f2 opIdx (fVar 0) (fC (.int 1))) (fC (.int 1))) (fC (.int 39373))) (fNil))) (fC (.int 1000000007)))) (gSeq (gSet 6 (f2 opMod (fCall cInt (fCons (f2 opMul (f2 opMod (fCall cInt (fCons (f2 opMul (fVar 5) (fVar 5)) (fNil))) (fC (.int 998244353))) (fC (.int 30011))) (fNil))) (fC (.int 998244353)))) (gSeq (gRet (f2 opMod (fCall cInt (fCons (f2 opDiv (fVar 6) (fC (.int 7))) (fNil))) (fVar 1))) (gNx)))))
def h__law_take (v : Vv) : List D → St → Out D := runF false 7 (b__law_take v)
theorem sc__law_take : FnScope N__law_take ["bag", "many"] (defScope st__law_take) := ⟨rfl, rfl, rfl, by decide +kernel, rfl, by decide +kernel, by decide +kernel⟩
theorem w__law_take (T : TX K mg v S)  {f : Addr} {fd : FuncData} (F : L2.Fun K "_law_take" "_law_take" st__law_take f fd) : FnG P w K mg base false 1 f fd ["bag", "many"] (spD S K 2 (h__law_take v)) :=
  have SC := sc__law_take
  funG (kp := false) (b := b__law_take v) (N := N__law_take) (ps := ["bag", "many"]) F SC fun cdv A fr s H E hg hr => ss_cons (s_iff (s_cmpT (o_eq hr.units) rfl (s_idx (fun _ _ => rfl) (s_var (i := 0) rfl (.inl rfl) rfl rfl) (s_int)) (s_int)) (ss_cons (s_set (i := 2) SC.nd rfl (.inl rfl) (s_idx (fun _ _ => rfl) (s_bin o_add (s_slc (s_idx (fun _ _ => rfl) (s_var (i := 0) rfl (.inl rfl) rfl rfl) (s_int)) (s_part (s_idx (fun _ _ => rfl) (s_var (i := 0) rfl (.inl rfl) rfl rfl) (s_int))) (s_noP)) (s_lst (s_cons (s_int) (s_nil) rfl))) (s_int)) rfl (.inl rfl)) (ss_cons (s_augPut ip_add (s_var (i := 0) rfl (.inl rfl) rfl rfl) (s_int) (s_int) (fun _ _ _ => rfl)) (ss_cons (s_iff (s_cmpT o_ge rfl (s_var (i := 2) rfl (.inl rfl) rfl rfl) (s_bin o_pow (s_int) (s_int))) (ss_cons (s_put (s_var (i := 2) rfl (.inl rfl) rfl rfl) (s_var (i := 0) rfl (.inl rfl) rfl rfl) (s_int) rfl rfl rfl (fun _ => rfl)) (ss_nil)) (ss_nil)) (ss_cons (s_set (i := 3) SC.nd rfl (.inl rfl) (s_bin o_add (s_bin o_add (s_bin o_mul (s_idx (fun _ _ => rfl) (s_var (i := 0) rfl (.inl rfl) rfl rfl) (s_int)) (s_int)) (s_bin o_mod (s_callTy o_int rfl T.n_int (by kernel_rfl) (s_cons (s_var (i := 2) rfl (.inl rfl) rfl rfl) (s_nil) rfl) (by decide) (by decide) rfl rfl) (s_int))) (s_bin o_mul (s_int) (s_idx (fun _ _ => rfl) (s_var (i := 0) rfl (.inl rfl) rfl rfl) (s_int)))) rfl (.inl rfl)) (ss_cons (s_put (s_bin o_mod (s_callTy o_int rfl T.n_int (by kernel_rfl) (s_cons (s_var (i := 3) rfl (.inl rfl) rfl rfl) (s_nil) rfl) (by decide) (by decide) rfl rfl) (s_int)) (s_var (i := 0) rfl (.inl rfl) rfl rfl) (s_int) rfl rfl rfl (fun _ => rfl)) (ss_nil)))))) (ss_nil)) (ss_cons (s_iff (s_cmpT o_gt rfl (s_idx (fun _ _ => rfl) (s_var (i := 0) rfl (.inl rfl) rfl rfl) (s_int)) (s_int)) (ss_cons (s_set (i := 4) SC.nd rfl (.inl rfl) (s_bin o_mod (s_callTy o_int rfl T.n_int (by kernel_rfl) (s_cons (s_idx (fun _ _ => rfl) (s_var (i := 0) rfl (.inl rfl) rfl rfl) (s_int)) (s_nil) rfl) (by decide) (by decide) rfl rfl) (s_var (i := 1) rfl (.inl rfl) rfl rfl)) rfl (.inl rfl)) (ss_cons (s_put (s_bin o_div (s_callTy o_int rfl T.n_int (by kernel_rfl) (s_cons (s_idx (fun _ _ => rfl) (s_var (i := 0) rfl (.inl rfl) rfl rfl) (s_int)) (s_nil) rfl) (by decide) (by decide) rfl rfl) (s_var (i := 1) rfl (.inl rfl) rfl rfl)) (s_var (i := 0) rfl (.inl rfl) rfl rfl) (s_int) rfl rfl rfl (fun _ => rfl)) (ss_cons (s_ret (s_var (i := 4) rfl (.inl rfl) rfl rfl)) (ss_nil)))) (ss_nil)) (ss_cons (s_set (i := 5) SC.nd rfl (.inl rfl) (s_bin o_mod (s_callTy o_int rfl T.n_int (by kernel_rfl) (s_cons (s_bin o_mul (s_bin o_add (s_idx (fun _ _ => rfl) (s_var (i := 0) rfl (.inl rfl) rfl rfl) (s_int)) (s_int)) (s_int)) (s_nil) rfl) (by decide) (by decide) rfl rfl) (s_int)) rfl (.inl rfl)) (ss_cons (s_set (i := 6) SC.nd rfl (.inl rfl) (s_bin o_mod (s_callTy o_int rfl T.n_int (by kernel_rfl) (s_cons (s_bin o_mul (s_bin o_mod (s_callTy o_int rfl T.n_int (by kernel_rfl) (s_cons (s_bin o_mul (s_var (i := 5) rfl (.inl rfl) rfl rfl) (s_var (i := 5) rfl (.inl rfl) rfl rfl)) (s_nil) rfl) (by decide) (by decide) rfl rfl) (s_int)) (s_int)) (s_nil) rfl) (by decide) (by decide) rfl rfl) (s_int)) rfl (.inl rfl)) (ss_cons (s_ret (s_bin o_mod (s_callTy o_int rfl T.n_int (by kernel_rfl) (s_cons (s_bin o_div (s_var (i := 6) rfl (.inl rfl) rfl rfl) (s_int)) (s_nil) rfl) (by decide) (by decide) rfl rfl) (s_var (i := 1) rfl (.inl rfl) rfl rfl))) (ss_nil)))))
abbrev st__law_some : Stmt := top 24
abbrev N__law_some : List Str := ["bag", "things"]
def b__law_some (v : Vv) : Env → St → SO := gSeq (gRet (f2 opIdx (fVar 1) (fDef 2 (h__law_take v) (fCons (fVar 0) (fCons (fCall cLen (fCons (fVar 1) (fNil))) (fNil)))))) (gNx)
def h__law_some (v : Vv) : List D → St → Out D := runF false 2 (b__law_some v)
theorem sc__law_some : FnScope N__law_some ["bag", "things"] (defScope st__law_some) := ⟨rfl, rfl, rfl, by decide +kernel, rfl, by decide +kernel, by decide +kernel⟩
theorem w__law_some (T : TX K mg v S) {fd__law_take : FuncData} (G__law_take : FnG P w K mg base false 1 v.f__law_take fd__law_take ["bag", "many"] (spD S K 2 (h__law_take v))) (B__law_take : Binds K fd__law_take ["bag", "many"] []) {f : Addr} {fd : FuncData} (F : L2.Fun K "_law_some" "_law_some" st__law_some f fd) : FnG P w K mg base false 2 f fd ["bag", "things"] (spD S K 2 (h__law_some v)) :=
  have SC := sc__law_some
  funG (kp := false) (b := b__law_some v) (N := N__law_some) (ps := ["bag", "things"]) F SC fun cdv A fr s H E hg hr => ss_cons (s_ret (s_idx (fun _ _ => rfl) (s_var (i := 1) rfl (.inl rfl) rfl rfl) (s_call (ps := ["bag", "many"]) (h := (h__law_take v)) (G__law_take.up (by omega)) (by intro z; cases z) hr rfl T.g__law_take T.kf__law_take B__law_take (takes_of rfl rfl rfl rfl) (s_cons (s_var (i := 0) rfl (.inl rfl) rfl rfl) (s_cons (s_callB o_len rfl T.n_len (by kernel_rfl) (s_cons (s_var (i := 1) rfl (.inl rfl) rfl rfl) (s_nil) rfl) (by decide) (by decide) rfl rfl) (s_nil) rfl) rfl)))) (ss_nil)
abbrev st__law_alike : Stmt := top 25
abbrev N__law_alike : List Str := ["found", "due"]
def b__law_alike (v : Vv) : Env → St → SO := gSeq (gRet (fAnd (f2 opEq (fCall cRepr (fCons (fVar 0) (fNil))) (fCall cRepr (fCons (fVar 1) (fNil)))) (f2 opEq (fVar 0) (fVar 1)))) (gNx)
def h__law_alike (v : Vv) : List D → St → Out D := runF false 2 (b__law_alike v)
theorem sc__law_alike : FnScope N__law_alike ["found", "due"] (defScope st__law_alike) := ⟨rfl, rfl, rfl, by decide +kernel, rfl, by decide +kernel, by decide +kernel⟩
theorem w__law_alike (T : TX K mg v S)  {f : Addr} {fd : FuncData} (F : L2.Fun K "_law_alike" "_law_alike" st__law_alike f fd) : FnG P w K mg base true 1 f fd ["found", "due"] (spD S K 2 (h__law_alike v)) :=
  have SC := sc__law_alike
  funG (kp := false) (b := b__law_alike v) (N := N__law_alike) (ps := ["found", "due"]) F SC fun cdv A fr s H E hg hr => ss_cons (s_ret (s_and (s_cmp (o_eq hr.units) rfl (s_callB (o_repr (hg rfl) hr.u100) rfl T.n_repr (by kernel_rfl) (s_cons (s_var (i := 0) rfl (.inl rfl) rfl rfl) (s_nil) rfl) (by decide) (by decide) rfl rfl) (s_callB (o_repr (hg rfl) hr.u100) rfl T.n_repr (by kernel_rfl) (s_cons (s_var (i := 1) rfl (.inl rfl) rfl rfl) (s_nil) rfl) (by decide) (by decide) rfl rfl)) (pe_one (s_cmp (o_eq hr.units) rfl (s_var (i := 0) rfl (.inl rfl) rfl rfl) (s_var (i := 1) rfl (.inl rfl) rfl rfl))))) (ss_nil)
abbrev st__law_is_int : Stmt := top 26
abbrev N__law_is_int : List Str := ["thing"]
def b__law_is_int (v : Vv) : Env → St → SO := gSeq (gRet (fAnd (fIsi (tabT "int") (fVar 0)) (fNot (fIsi (tabT "bool") (fVar 0))))) (gNx)
def h__law_is_int (v : Vv) : List D → St → Out D := runF false 1 (b__law_is_int v)
theorem sc__law_is_int : FnScope N__law_is_int ["thing"] (defScope st__law_is_int) := ⟨rfl, rfl, rfl, by decide +kernel, rfl, by decide +kernel, by decide +kernel⟩
theorem w__law_is_int (T : TX K mg v S)  {f : Addr} {fd : FuncData} (F : L2.Fun K "_law_is_int" "_law_is_int" st__law_is_int f fd) : FnG P w K mg base false 1 f fd ["thing"] (spD S K 1 (h__law_is_int v)) :=
  have SC := sc__law_is_int
  funG (kp := false) (b := b__law_is_int v) (N := N__law_is_int) (ps := ["thing"]) F SC fun cdv A fr s H E hg hr => ss_cons (s_ret (s_and (s_isi (tx := "int") (T := "int") rfl T.n_isinstance rfl T.n_int (by kernel_rfl) (by decide) (by decide) (kit_int _) (s_var (i := 0) rfl (.inl rfl) rfl rfl) rfl rfl) (pe_one (s_not (s_isi (tx := "bool") (T := "bool") rfl T.n_isinstance rfl T.n_bool (by kernel_rfl) (by decide) (by decide) (kit_bool _) (s_var (i := 0) rfl (.inl rfl) rfl rfl) rfl rfl))))) (ss_nil)
abbrev st__law_value_text : Stmt := top 27
abbrev N__law_value_text : List Str := ["value", "one"]
def b__law_value_text (v : Vv) (h : List D → St → Out D) : Env → St → SO := gSeq (gIf (fB (f2 opIs (fVar 0) (fC .non))) (gSeq (gRet (fC (.str [45]))) (gNx)) (gNx)) (gSeq (gIf (fB (fIsi (tabT "tuple") (fVar 0))) (gSeq (gRet (f2 opAdd (f2 opAdd (fC (.str [40])) (fMtS mJoin (fC (.str [32])) (fCons (fLcL (fLc (fIt (fVar 0)) (tgName 1) (fun _ st => .ok true st) (fDef 1 h (fCons (fVar 1) (fNil))) [1])) (fNil)))) (fC (.str [41])))) (gNx)) (gNx)) (gSeq (gRet (fCall cStr (fCons (fVar 0) (fNil)))) (gNx)))
def h__law_value_text (v : Vv) : Nat → List D → St → Out D
  | 0 => hBad
  | n + 1 => runF false 2 (b__law_value_text v (h__law_value_text v n))
theorem sc__law_value_text : FnScope N__law_value_text ["value"] (defScope st__law_value_text) := ⟨rfl, rfl, rfl, by decide +kernel, rfl, by decide +kernel, by decide +kernel⟩
theorem w__law_value_text (T : TX K mg v S)  {fd : FuncData} (F : L2.Fun K "_law_value_text" "_law_value_text" st__law_value_text v.f__law_value_text fd) (B__law_value_text : Binds K fd ["value"] []) (n : Nat) : FnG P w K mg base false (1 + n) v.f__law_value_text fd ["value"] (spD S K 1 (h__law_value_text v n)) := by
  induction n with
  | zero => exact fnG_bad
  | succ n ih =>
    have SC := sc__law_value_text
    exact funG (kp := false) (b := b__law_value_text v (h__law_value_text v n)) (N := N__law_value_text) (ps := ["value"]) (k := 1 + n) F SC fun cdv A fr s H E hg hr => ss_cons (s_iff (s_cmpT o_is rfl (s_var (i := 0) rfl (.inl rfl) rfl rfl) (s_non)) (ss_cons (s_ret (s_strL (by decide +kernel))) (ss_nil)) (ss_nil)) (ss_cons (s_iff (s_val (s_isi (tx := "tuple") (T := "tuple") rfl T.n_isinstance rfl T.n_tuple (by kernel_rfl) (by decide) (by decide) (kit_tuple _) (s_var (i := 0) rfl (.inl rfl) rfl rfl) rfl rfl) (fun _ => rfl)) (ss_cons (s_ret (s_bin o_add (s_bin o_add (s_strL (by decide +kernel)) (s_mtS PySem.F.slot_str_join PySem.F.type_str_join o_join (s_strL (by decide +kernel)) (s_cons (s_lc (own := [("one", 1)]) rfl SC.nd (s_it (s_var (i := 0) rfl (.inl rfl) rfl rfl)) (blkOk_by (N := N__law_value_text) (sc := defScope st__law_value_text) (by decide +kernel)) (by decide) (fun _ _ _ _ _ => t_name SC.nd rfl (.inl rfl) (.inr rfl)) (fun _ _ _ _ _ => s_yes) (fun _ _ _ _ _ => s_call (ps := ["value"]) (h := h__law_value_text v n) (ih.up (by omega)) (by intro z; cases z) hr rfl T.g__law_value_text T.kf__law_value_text B__law_value_text LamX.takes0 (s_cons (s_var (i := 1) rfl (.inl rfl) rfl rfl) (s_nil) rfl)) (fun _ => rfl)) (s_nil) rfl) rfl rfl rfl rfl rfl)) (s_strL (by decide +kernel)))) (ss_nil)) (ss_nil)) (ss_cons (s_ret (s_callTy o_str rfl T.n_str (by kernel_rfl) (s_cons (s_var (i := 0) rfl (.inl rfl) rfl rfl) (s_nil) rfl) (by decide) (by decide) rfl rfl)) (ss_nil)))
abbrev st__law_is_word : Stmt := top 28
abbrev N__law_is_word : List Str := ["thing", "sign"]
def b__law_is_word (v : Vv) : Env → St → SO := gSeq (gIf (fOrT (fNotT (fB (fIsi (tabT "str") (fVar 0)))) (fOrT (fB (f2 opEq (fVar 0) (fC (.str [])))) (fNotT (fB (fChain opLe opLe (fC (.str [97])) (f2 opIdx (fVar 0) (fC (.int 0))) (fC (.str [122]))))))) (gSeq (gRet (fC (.bl false))) (gNx)) (gNx)) (gSeq (gRet (f2 opEq (fLcL (fLc (fIt (fVar 0)) (tgName 1) (fNotT (fOrT (fB (fChain opLe opLe (fC (.str [97])) (fVar 1) (fC (.str [122])))) (fB (fChain opLe opLe (fC (.str [48])) (fVar 1) (fC (.str [57])))))) (fVar 1) [1])) (fLst (fNil)))) (gNx))
def h__law_is_word (v : Vv) : List D → St → Out D := runF false 2 (b__law_is_word v)
theorem sc__law_is_word : FnScope N__law_is_word ["thing"] (defScope st__law_is_word) := ⟨rfl, rfl, rfl, by decide +kernel, rfl, by decide +kernel, by decide +kernel⟩
theorem w__law_is_word (T : TX K mg v S)  {f : Addr} {fd : FuncData} (F : L2.Fun K "_law_is_word" "_law_is_word" st__law_is_word f fd) : FnG P w K mg base false 1 f fd ["thing"] (spD S K 1 (h__law_is_word v)) :=
  have SC := sc__law_is_word
  funG (kp := false) (b := b__law_is_word v) (N := N__law_is_word) (ps := ["thing"]) F SC fun cdv A fr s H E hg hr => ss_cons (s_iff (PW.pt (s_orT (s_notT (s_val (s_isi (tx := "str") (T := "str") rfl T.n_isinstance rfl T.n_str (by kernel_rfl) (by decide) (by decide) (kit_str _) (s_var (i := 0) rfl (.inl rfl) rfl rfl) rfl rfl) (fun _ => rfl))) (s_orT (s_cmpT (o_eq hr.units) rfl (s_var (i := 0) rfl (.inl rfl) rfl rfl) (s_strL (by decide +kernel))) (pw_or1 (s_notT (s_chainT o_le o_le rfl (s_strL (by decide +kernel)) (s_idx (fun _ _ => rfl) (s_var (i := 0) rfl (.inl rfl) rfl rfl) (s_int)) (s_strL (by decide +kernel)))))))) (ss_cons (s_ret (s_bl)) (ss_nil)) (ss_nil)) (ss_cons (s_ret (s_cmp (o_eq hr.units) rfl (s_lc (own := [("sign", 1)]) rfl SC.nd (s_it (s_var (i := 0) rfl (.inl rfl) rfl rfl)) (blkOk_by (N := N__law_is_word) (sc := defScope st__law_is_word) (by decide +kernel)) (by decide) (fun _ _ _ _ _ => t_name SC.nd rfl (.inl rfl) (.inr rfl)) (fun _ _ _ _ _ => (s_ifs (s_notT (PW.pt (s_orT (s_chainT o_le o_le rfl (s_strL (by decide +kernel)) (s_var (i := 1) rfl (.inl rfl) rfl rfl) (s_strL (by decide +kernel))) (pw_or1 (s_chainT o_le o_le rfl (s_strL (by decide +kernel)) (s_var (i := 1) rfl (.inl rfl) rfl rfl) (s_strL (by decide +kernel))))))))) (fun _ _ _ _ _ => s_var (i := 1) rfl (.inl rfl) rfl rfl) (fun _ => rfl)) (s_lst (s_nil)))) (ss_nil))
abbrev st__law_run_value : Stmt := top 29
abbrev N__law_run_value : List Str := ["run", "plain", "sign"]
def b__law_run_value (v : Vv) : Env → St → SO := gSeq (gIf (fB (f2 opEq (fVar 0) (fC (.str [45])))) (gSeq (gRet (fTup (fCons (fC .non) (fNil)))) (gNx)) (gNx)) (gSeq (gIf (fB (fDef 1 (h__law_is_word v) (fCons (fVar 0) (fNil)))) (gSeq (gRet (fTup (fCons (fVar 0) (fNil)))) (gNx)) (gNx)) (gSeq (gSet 1 (fIf (fB (f2 opEq (fSlc (fVar 0) (fNoP) (fPart (fC (.int 1)))) (fC (.str [45])))) (fSlc (fVar 0) (fPart (fC (.int 1))) (fNoP)) (fVar 0))) (gSeq (gIf (fOrT (fB (f2 opEq (fVar 1) (fC (.str [])))) (fOrT (fB (f2 opGt (fCall cLen (fCons (fVar 1) (fNil))) (fC (.int 40)))) (fOrT (fB (f2 opNe (fLcL (fLc (fIt (fVar 1)) (tgName 2) (fNotT (fB (fChain opLe opLe (fC (.str [48])) (fVar 2) (fC (.str [57]))))) (fVar 2) [2])) (fLst (fNil)))) (fAndT (fB (f2 opEq (f2 opIdx (fVar 1) (fC (.int 0))) (fC (.str [48])))) (fOrT (fB (f2 opGt (fCall cLen (fCons (fVar 1) (fNil))) (fC (.int 1)))) (fB (f2 opEq (f2 opIdx (fVar 0) (fC (.int 0))) (fC (.str [45]))))))))) (gSeq (gRet (fTup (fNil))) (gNx)) (gNx)) (gSeq (gRet (fTup (fCons (fCall cInt (fCons (fVar 0) (fNil))) (fNil)))) (gNx)))))
def h__law_run_value (v : Vv) : List D → St → Out D := runF false 3 (b__law_run_value v)
theorem sc__law_run_value : FnScope N__law_run_value ["run"] (defScope st__law_run_value) := ⟨rfl, rfl, rfl, by decide +kernel, rfl, by decide +kernel, by decide +kernel⟩
theorem w__law_run_value (T : TX K mg v S) {fd__law_is_word : FuncData} (G__law_is_word : FnG P w K mg base false 1 v.f__law_is_word fd__law_is_word ["thing"] (spD S K 1 (h__law_is_word v))) (B__law_is_word : Binds K fd__law_is_word ["thing"] []) {f : Addr} {fd : FuncData} (F : L2.Fun K "_law_run_value" "_law_run_value" st__law_run_value f fd) : FnG P w K mg base false 2 f fd ["run"] (spD S K 1 (h__law_run_value v)) :=
  have SC := sc__law_run_value
  funG (kp := false) (b := b__law_run_value v) (N := N__law_run_value) (ps := ["run"]) F SC fun cdv A fr s H E hg hr => ss_cons (s_iff (s_cmpT (o_eq hr.units) rfl (s_var (i := 0) rfl (.inl rfl) rfl rfl) (s_strL (by decide +kernel))) (ss_cons (s_ret (s_tup (s_cons (s_non) (s_nil) rfl))) (ss_nil)) (ss_nil)) (ss_cons (s_iff (s_val (s_call (ps := ["thing"]) (h := (h__law_is_word v)) (G__law_is_word.up (by omega)) (by intro z; cases z) hr rfl T.g__law_is_word T.kf__law_is_word B__law_is_word (takes_of rfl rfl rfl rfl) (s_cons (s_var (i := 0) rfl (.inl rfl) rfl rfl) (s_nil) rfl)) (fun _ => rfl)) (ss_cons (s_ret (s_tup (s_cons (s_var (i := 0) rfl (.inl rfl) rfl rfl) (s_nil) rfl))) (ss_nil)) (ss_nil)) (ss_cons (s_set (i := 1) SC.nd rfl (.inl rfl) (s_if (s_cmpT (o_eq hr.units) rfl (s_slc (s_var (i := 0) rfl (.inl rfl) rfl rfl) (s_noP) (s_part (s_int))) (s_strL (by decide +kernel))) (s_slc (s_var (i := 0) rfl (.inl rfl) rfl rfl) (s_part (s_int)) (s_noP)) (s_var (i := 0) rfl (.inl rfl) rfl rfl)) rfl (.inl rfl)) (ss_cons (s_iff (PW.pt (s_orT (s_cmpT (o_eq hr.units) rfl (s_var (i := 1) rfl (.inl rfl) rfl rfl) (s_strL (by decide +kernel))) (s_orT (s_cmpT o_gt rfl (s_callB o_len rfl T.n_len (by kernel_rfl) (s_cons (s_var (i := 1) rfl (.inl rfl) rfl rfl) (s_nil) rfl) (by decide) (by decide) rfl rfl) (s_int)) (s_orT (s_cmpT (o_ne hr.units) rfl (s_lc (own := [("sign", 2)]) rfl SC.nd (s_it (s_var (i := 1) rfl (.inl rfl) rfl rfl)) (blkOk_by (N := N__law_run_value) (sc := defScope st__law_run_value) (by decide +kernel)) (by decide) (fun _ _ _ _ _ => t_name SC.nd rfl (.inl rfl) (.inr rfl)) (fun _ _ _ _ _ => (s_ifs (s_notT (s_chainT o_le o_le rfl (s_strL (by decide +kernel)) (s_var (i := 2) rfl (.inl rfl) rfl rfl) (s_strL (by decide +kernel)))))) (fun _ _ _ _ _ => s_var (i := 2) rfl (.inl rfl) rfl rfl) (fun _ => rfl)) (s_lst (s_nil))) (pw_or1 (PW.pt (s_andT (s_cmpT (o_eq hr.units) rfl (s_idx (fun _ _ => rfl) (s_var (i := 1) rfl (.inl rfl) rfl rfl) (s_int)) (s_strL (by decide +kernel))) (pw_and1 (PW.pt (s_orT (s_cmpT o_gt rfl (s_callB o_len rfl T.n_len (by kernel_rfl) (s_cons (s_var (i := 1) rfl (.inl rfl) rfl rfl) (s_nil) rfl) (by decide) (by decide) rfl rfl) (s_int)) (pw_or1 (s_cmpT (o_eq hr.units) rfl (s_idx (fun _ _ => rfl) (s_var (i := 0) rfl (.inl rfl) rfl rfl) (s_int)) (s_strL (by decide +kernel)))))))))))))) (ss_cons (s_ret (s_tup (s_nil))) (ss_nil)) (ss_nil)) (ss_cons (s_ret (s_tup (s_cons (s_callTy o_int rfl T.n_int (by kernel_rfl) (s_cons (s_var (i := 0) rfl (.inl rfl) rfl rfl) (s_nil) rfl) (by decide) (by decide) rfl rfl) (s_nil) rfl))) (ss_nil)))))
abbrev st__law_read_value : Stmt := top 30
abbrev N__law_read_value : List Str := ["text", "stack", "at", "wants", "turn", "sign", "value", "end", "told"]
def b__law_read_value (v : Vv) : Env → St → SO := gSeq (gPar3 1 2 3 (fCons (fBox (fNil)) (fCons (fC (.int 0)) (fCons (fC (.str [118, 97, 108, 117, 101])) (fNil))))) (gSeq (gFor (fRg1 (fCons (f2 opAdd (fCall cLen (fCons (fVar 0) (fNil))) (fC (.int 1))) (fNil))) (tgName 4) (gSeq (gIf (fOrT (fB (f2 opEq (fVar 3) (fC (.str [101, 110, 100])))) (fB (f2 opGe (fVar 2) (fCall cLen (fCons (fVar 0) (fNil)))))) (gSeq (gBrk) (gNx)) (gNx)) (gSeq (gPar 5 6 (fCons (f2 opIdx (fVar 0) (fVar 2)) (fCons (fTup (fNil)) (fNil)))) (gSeq (gIf (fAndT (fB (f2 opEq (fVar 5) (fC (.str [40])))) (fB (f2 opIn (fVar 3) (fTup (fCons (fC (.str [118, 97, 108, 117, 101])) (fCons (fC (.str [102, 105, 114, 115, 116])) (fNil))))))) (gSeq (gIf (fB (f2 opEq (fCall cLen (fCons (fVar 1) (fNil))) (fC (.int 60)))) (gSeq (gRet (fTup (fCons (fC (.str [98, 97, 100])) (fCons (f2 opAdd (fVar 2) (fC (.int 1))) (fNil))))) (gNx)) (gNx)) (gSeq (gExpr (fMtL mAppend (fVar 1) (fCons (fBox (fNil)) (fNil)))) (gSeq (gPar 2 3 (fCons (f2 opAdd (fVar 2) (fC (.int 1))) (fCons (fC (.str [102, 105, 114, 115, 116])) (fNil)))) (gSeq (gCont) (gNx))))) (gNx)) (gSeq (gIf (fAndT (fB (f2 opEq (fVar 5) (fC (.str [32])))) (fB (f2 opEq (fVar 3) (fC (.str [98, 101, 104, 105, 110, 100]))))) (gSeq (gPar 2 3 (fCons (f2 opAdd (fVar 2) (fC (.int 1))) (fCons (fC (.str [118, 97, 108, 117, 101])) (fNil)))) (gSeq (gCont) (gNx))) (gNx)) (gSeq (gIf (fAndT (fB (f2 opEq (fVar 5) (fC (.str [41])))) (fB (f2 opIn (fVar 3) (fTup (fCons (fC (.str [102, 105, 114, 115, 116])) (fCons (fC (.str [98, 101, 104, 105, 110, 100])) (fNil))))))) (gSeq (gPar 6 2 (fCons (fTup (fCons (fCall cTup (fCons (fMtL mPop (fVar 1) fNil) (fNil))) (fNil))) (fCons (f2 opAdd (fVar 2) (fC (.int 1))) (fNil)))) (gNx)) (gSeq (gIf (fAndT (fB (f2 opNotIn (fVar 5) (fTup (fCons (fC (.str [40])) (fCons (fC (.str [41])) (fCons (fC (.str [32])) (fNil))))))) (fB (f2 opIn (fVar 3) (fTup (fCons (fC (.str [118, 97, 108, 117, 101])) (fCons (fC (.str [102, 105, 114, 115, 116])) (fNil))))))) (gSeq (gSet 7 (fVar 2)) (gSeq (gFor (fRg2 (fCons (fVar 2) (fCons (f2 opAdd (fCall cLen (fCons (fVar 0) (fNil))) (fC (.int 1))) (fNil)))) (tgName 7) (gSeq (gIf (fOrT (fB (f2 opEq (fVar 7) (fCall cLen (fCons (fVar 0) (fNil))))) (fB (f2 opIn (f2 opIdx (fVar 0) (fVar 7)) (fTup (fCons (fC (.str [40])) (fCons (fC (.str [41])) (fCons (fC (.str [32])) (fNil)))))))) (gSeq (gBrk) (gNx)) (gNx)) (gNx))) (gSeq (gSet 6 (fDef 1 (h__law_run_value v) (fCons (fSlc (fVar 0) (fPart (fVar 2)) (fPart (fVar 7))) (fNil)))) (gSeq (gIf (fB (f2 opEq (fVar 6) (fTup (fNil)))) (gSeq (gRet (fTup (fCons (fC (.str [98, 97, 100])) (fCons (f2 opAdd (fVar 2) (fC (.int 1))) (fNil))))) (gNx)) (gNx)) (gSeq (gSet 2 (fVar 7)) (gNx)))))) (gSeq (gRet (fTup (fCons (fC (.str [98, 97, 100])) (fCons (f2 opAdd (fVar 2) (fC (.int 1))) (fNil))))) (gNx))) (gNx))) (gSeq (gIf (fB (f2 opEq (fVar 1) (fLst (fNil)))) (gSeq (gSet 3 (fC (.str [101, 110, 100]))) (gSeq (gSet 8 (f2 opIdx (fVar 6) (fC (.int 0)))) (gNx))) (gSeq (gExpr (fMtL mAppend (f2 opIdx (fVar 1) (f1 opNeg (fC (.int 1)))) (fCons (f2 opIdx (fVar 6) (fC (.int 0))) (fNil)))) (gSeq (gSet 3 (fC (.str [98, 101, 104, 105, 110, 100]))) (gNx)))) (gNx)))))))) (gSeq (gIf (fOrT (fB (f2 opNe (fVar 3) (fC (.str [101, 110, 100])))) (fB (f2 opLt (fVar 2) (fCall cLen (fCons (fVar 0) (fNil)))))) (gSeq (gRet (fTup (fCons (fC (.str [98, 97, 100])) (fCons (f2 opAdd (fVar 2) (fC (.int 1))) (fNil))))) (gNx)) (gNx)) (gSeq (gRet (fTup (fCons (fC (.str [116, 111, 108, 100])) (fCons (fVar 8) (fNil))))) (gNx))))
def h__law_read_value (v : Vv) : List D → St → Out D := runF false 9 (b__law_read_value v)
theorem sc__law_read_value : FnScope N__law_read_value ["text"] (defScope st__law_read_value) := ⟨rfl, rfl, rfl, by decide +kernel, rfl, by decide +kernel, by decide +kernel⟩
theorem w__law_read_value (T : TX K mg v S) {fd__law_run_value : FuncData} (G__law_run_value : FnG P w K mg base false 2 v.f__law_run_value fd__law_run_value ["run"] (spD S K 1 (h__law_run_value v))) (B__law_run_value : Binds K fd__law_run_value ["run"] []) {f : Addr} {fd : FuncData} (F : L2.Fun K "_law_read_value" "_law_read_value" st__law_read_value f fd) : FnG P w K mg base false 3 f fd ["text"] (spD S K 1 (h__law_read_value v)) :=
  have SC := sc__law_read_value
  funG (kp := false) (b := b__law_read_value v) (N := N__law_read_value) (ps := ["text"]) F SC fun cdv A fr s H E hg hr => ss_cons (s_par3 (i := 1) (j := 2) (l := 3) rfl SC.nd rfl rfl rfl (by decide) (by decide) (by decide) rfl rfl rfl (s_cons (s_boxE (s_nil)) (s_cons (s_int) (s_cons (s_strL (by decide +kernel)) (s_nil) rfl) rfl) rfl) rfl rfl) (ss_cons (s_for (passes_of rfl) rfl (s_rg1 rfl T.n_range (s_cons (s_bin o_add (s_callB o_len rfl T.n_len (by kernel_rfl) (s_cons (s_var (i := 0) rfl (.inl rfl) rfl rfl) (s_nil) rfl) (by decide) (by decide) rfl rfl) (s_int)) (s_nil) rfl) rfl) (t_name SC.nd rfl (.inl rfl) (.inl rfl)) (ss_cons (s_iff (PW.pt (s_orT (s_cmpT (o_eq hr.units) rfl (s_var (i := 3) rfl (.inl rfl) rfl rfl) (s_strL (by decide +kernel))) (pw_or1 (s_cmpT o_ge rfl (s_var (i := 2) rfl (.inl rfl) rfl rfl) (s_callB o_len rfl T.n_len (by kernel_rfl) (s_cons (s_var (i := 0) rfl (.inl rfl) rfl rfl) (s_nil) rfl) (by decide) (by decide) rfl rfl))))) (ss_cons (s_brk) (ss_nil)) (ss_nil)) (ss_cons (s_par (i := 5) (j := 6) rfl SC.nd rfl rfl (by decide) rfl rfl (s_cons (s_idx (fun _ _ => rfl) (s_var (i := 0) rfl (.inl rfl) rfl rfl) (s_var (i := 2) rfl (.inl rfl) rfl rfl)) (s_cons (s_tup (s_nil)) (s_nil) rfl) rfl) rfl rfl) (ss_cons (s_iff (PW.pt (s_andT (s_cmpT (o_eq hr.units) rfl (s_var (i := 5) rfl (.inl rfl) rfl rfl) (s_strL (by decide +kernel))) (pw_and1 (s_cmpT o_in rfl (s_var (i := 3) rfl (.inl rfl) rfl rfl) (s_tup (s_cons (s_strL (by decide +kernel)) (s_cons (s_strL (by decide +kernel)) (s_nil) rfl) rfl)))))) (ss_cons (s_iff (s_cmpT (o_eq hr.units) rfl (s_callB o_len rfl T.n_len (by kernel_rfl) (s_cons (s_var (i := 1) rfl (.inl rfl) rfl rfl) (s_nil) rfl) (by decide) (by decide) rfl rfl) (s_int)) (ss_cons (s_ret (s_tup (s_cons (s_strL (by decide +kernel)) (s_cons (s_bin o_add (s_var (i := 2) rfl (.inl rfl) rfl rfl) (s_int)) (s_nil) rfl) rfl))) (ss_nil)) (ss_nil)) (ss_cons (s_expr (s_mtL PySem.F.slot_list_append PySem.F.type_list_append o_append (s_var (i := 1) rfl (.inl rfl) rfl rfl) (s_cons (s_boxE (s_nil)) (s_nil) rfl) rfl rfl rfl rfl rfl) rfl) (ss_cons (s_par (i := 2) (j := 3) rfl SC.nd rfl rfl (by decide) rfl rfl (s_cons (s_bin o_add (s_var (i := 2) rfl (.inl rfl) rfl rfl) (s_int)) (s_cons (s_strL (by decide +kernel)) (s_nil) rfl) rfl) rfl rfl) (ss_cons (s_cont) (ss_nil))))) (ss_nil)) (ss_cons (s_iff (PW.pt (s_andT (s_cmpT (o_eq hr.units) rfl (s_var (i := 5) rfl (.inl rfl) rfl rfl) (s_strL (by decide +kernel))) (pw_and1 (s_cmpT (o_eq hr.units) rfl (s_var (i := 3) rfl (.inl rfl) rfl rfl) (s_strL (by decide +kernel)))))) (ss_cons (s_par (i := 2) (j := 3) rfl SC.nd rfl rfl (by decide) rfl rfl (s_cons (s_bin o_add (s_var (i := 2) rfl (.inl rfl) rfl rfl) (s_int)) (s_cons (s_strL (by decide +kernel)) (s_nil) rfl) rfl) rfl rfl) (ss_cons (s_cont) (ss_nil))) (ss_nil)) (ss_cons (s_iff (PW.pt (s_andT (s_cmpT (o_eq hr.units) rfl (s_var (i := 5) rfl (.inl rfl) rfl rfl) (s_strL (by decide +kernel))) (pw_and1 (s_cmpT o_in rfl (s_var (i := 3) rfl (.inl rfl) rfl rfl) (s_tup (s_cons (s_strL (by decide +kernel)) (s_cons (s_strL (by decide +kernel)) (s_nil) rfl) rfl)))))) (ss_cons (s_par (i := 6) (j := 2) rfl SC.nd rfl rfl (by decide) rfl rfl (s_cons (s_tup (s_cons (s_callTy o_tup rfl T.n_tuple (by kernel_rfl) (s_cons (s_mtL0 PySem.F.slot_list_pop PySem.F.type_list_pop o_pop (s_var (i := 1) rfl (.inl rfl) rfl rfl) rfl rfl) (s_nil) rfl) (by decide) (by decide) rfl rfl) (s_nil) rfl)) (s_cons (s_bin o_add (s_var (i := 2) rfl (.inl rfl) rfl rfl) (s_int)) (s_nil) rfl) rfl) rfl rfl) (ss_nil)) (ss_cons (s_iff (PW.pt (s_andT (s_cmpT o_notIn rfl (s_var (i := 5) rfl (.inl rfl) rfl rfl) (s_tup (s_cons (s_strL (by decide +kernel)) (s_cons (s_strL (by decide +kernel)) (s_cons (s_strL (by decide +kernel)) (s_nil) rfl) rfl) rfl))) (pw_and1 (s_cmpT o_in rfl (s_var (i := 3) rfl (.inl rfl) rfl rfl) (s_tup (s_cons (s_strL (by decide +kernel)) (s_cons (s_strL (by decide +kernel)) (s_nil) rfl) rfl)))))) (ss_cons (s_set (i := 7) SC.nd rfl (.inl rfl) (s_var (i := 2) rfl (.inl rfl) rfl rfl) rfl (.inl rfl)) (ss_cons (s_for (passes_of rfl) rfl (s_rg2 rfl T.n_range (s_cons (s_var (i := 2) rfl (.inl rfl) rfl rfl) (s_cons (s_bin o_add (s_callB o_len rfl T.n_len (by kernel_rfl) (s_cons (s_var (i := 0) rfl (.inl rfl) rfl rfl) (s_nil) rfl) (by decide) (by decide) rfl rfl) (s_int)) (s_nil) rfl) rfl) rfl rfl) (t_name SC.nd rfl (.inl rfl) (.inl rfl)) (ss_cons (s_iff (PW.pt (s_orT (s_cmpT (o_eq hr.units) rfl (s_var (i := 7) rfl (.inl rfl) rfl rfl) (s_callB o_len rfl T.n_len (by kernel_rfl) (s_cons (s_var (i := 0) rfl (.inl rfl) rfl rfl) (s_nil) rfl) (by decide) (by decide) rfl rfl)) (pw_or1 (s_cmpT o_in rfl (s_idx (fun _ _ => rfl) (s_var (i := 0) rfl (.inl rfl) rfl rfl) (s_var (i := 7) rfl (.inl rfl) rfl rfl)) (s_tup (s_cons (s_strL (by decide +kernel)) (s_cons (s_strL (by decide +kernel)) (s_cons (s_strL (by decide +kernel)) (s_nil) rfl) rfl) rfl)))))) (ss_cons (s_brk) (ss_nil)) (ss_nil)) (ss_nil)) (fun _ => rfl)) (ss_cons (s_set (i := 6) SC.nd rfl (.inl rfl) (s_call (ps := ["run"]) (h := (h__law_run_value v)) (G__law_run_value.up (by omega)) (by intro z; cases z) hr rfl T.g__law_run_value T.kf__law_run_value B__law_run_value (takes_of rfl rfl rfl rfl) (s_cons (s_slc (s_var (i := 0) rfl (.inl rfl) rfl rfl) (s_part (s_var (i := 2) rfl (.inl rfl) rfl rfl)) (s_part (s_var (i := 7) rfl (.inl rfl) rfl rfl))) (s_nil) rfl)) rfl (.inl rfl)) (ss_cons (s_iff (s_cmpT (o_eq hr.units) rfl (s_var (i := 6) rfl (.inl rfl) rfl rfl) (s_tup (s_nil))) (ss_cons (s_ret (s_tup (s_cons (s_strL (by decide +kernel)) (s_cons (s_bin o_add (s_var (i := 2) rfl (.inl rfl) rfl rfl) (s_int)) (s_nil) rfl) rfl))) (ss_nil)) (ss_nil)) (ss_cons (s_set (i := 2) SC.nd rfl (.inl rfl) (s_var (i := 7) rfl (.inl rfl) rfl rfl) rfl (.inl rfl)) (ss_nil)))))) (ss_cons (s_ret (s_tup (s_cons (s_strL (by decide +kernel)) (s_cons (s_bin o_add (s_var (i := 2) rfl (.inl rfl) rfl rfl) (s_int)) (s_nil) rfl) rfl))) (ss_nil))) (ss_nil))) (ss_cons (s_iff (s_cmpT (o_eq hr.units) rfl (s_var (i := 1) rfl (.inl rfl) rfl rfl) (s_lst (s_nil))) (ss_cons (s_set (i := 3) SC.nd rfl (.inl rfl) (s_strL (by decide +kernel)) rfl (.inl rfl)) (ss_cons (s_set (i := 8) SC.nd rfl (.inl rfl) (s_idx (fun _ _ => rfl) (s_var (i := 6) rfl (.inl rfl) rfl rfl) (s_int)) rfl (.inl rfl)) (ss_nil))) (ss_cons (s_expr (s_mtL PySem.F.slot_list_append PySem.F.type_list_append o_append (s_idx (fun _ _ => rfl) (s_var (i := 1) rfl (.inl rfl) rfl rfl) (s_neg (s_int))) (s_cons (s_idx (fun _ _ => rfl) (s_var (i := 6) rfl (.inl rfl) rfl rfl) (s_int)) (s_nil) rfl) rfl rfl rfl rfl rfl) rfl) (ss_cons (s_set (i := 3) SC.nd rfl (.inl rfl) (s_strL (by decide +kernel)) rfl (.inl rfl)) (ss_nil)))) (ss_nil))))))) (fun _ => rfl)) (ss_cons (s_iff (PW.pt (s_orT (s_cmpT (o_ne hr.units) rfl (s_var (i := 3) rfl (.inl rfl) rfl rfl) (s_strL (by decide +kernel))) (pw_or1 (s_cmpT o_lt rfl (s_var (i := 2) rfl (.inl rfl) rfl rfl) (s_callB o_len rfl T.n_len (by kernel_rfl) (s_cons (s_var (i := 0) rfl (.inl rfl) rfl rfl) (s_nil) rfl) (by decide) (by decide) rfl rfl))))) (ss_cons (s_ret (s_tup (s_cons (s_strL (by decide +kernel)) (s_cons (s_bin o_add (s_var (i := 2) rfl (.inl rfl) rfl rfl) (s_int)) (s_nil) rfl) rfl))) (ss_nil)) (ss_nil)) (ss_cons (s_ret (s_tup (s_cons (s_strL (by decide +kernel)) (s_cons (s_var (i := 8) rfl (.inl rfl) rfl rfl) (s_nil) rfl) rfl))) (ss_nil))))
abbrev st__law_value : Stmt := top 32
abbrev N__law_value : List Str := ["bag", "deep", "turn"]
def b__law_value (v : Vv) (h : List D → St → Out D) : Env → St → SO := gSeq (gIf (fAndT (fB (f2 opGt (fVar 1) (fC (.int 0)))) (fB (f2 opGt (fDef 2 (h__law_take v) (fCons (fVar 0) (fCons (fC (.int 3)) (fNil)))) (fC (.int 0))))) (gSeq (gRet (fCall cTup (fCons (fLcL (fLc (fRg1 (fCons (fDef 2 (h__law_take v) (fCons (fVar 0) (fCons (fC (.int 4)) (fNil)))) (fNil))) (tgName 2) (fun _ st => .ok true st) (fDef 2 h (fCons (fVar 0) (fCons (f2 opSub (fVar 1) (fC (.int 1))) (fNil)))) [2])) (fNil)))) (gNx)) (gNx)) (gSeq (gRet (fDef 2 (h__law_some v) (fCons (fVar 0) (fCons (fLst (fCons (fC .non) (fCons (fC (.int 0)) (fCons (fC (.int 7)) (fCons (f1 opNeg (fC (.int 1))) (fCons (f2 opPow (fC (.int 10)) (fC (.int 12))) (fCons (f1 opNeg (f2 opPow (fC (.int 10)) (fC (.int 39)))) (fCons (f2 opSub (f2 opPow (fC (.int 10)) (fC (.int 40))) (fC (.int 1))) (fCons (fC (.str [97])) (fCons (fC (.str [107, 101, 112, 116])) (fCons (fC (.str [120, 57])) (fCons (fC (.str [108, 101, 97, 115, 116])) (fCons (f2 opSub (fDef 2 (h__law_take v) (fCons (fVar 0) (fCons (fC (.int 99)) (fNil)))) (fC (.int 50))) (fNil)))))))))))))) (fNil))))) (gNx))
def h__law_value (v : Vv) : Nat → List D → St → Out D
  | 0 => hBad
  | n + 1 => runF false 3 (b__law_value v (h__law_value v n))
theorem sc__law_value : FnScope N__law_value ["bag", "deep"] (defScope st__law_value) := ⟨rfl, rfl, rfl, by decide +kernel, rfl, by decide +kernel, by decide +kernel⟩
theorem w__law_value (T : TX K mg v S) {fd__law_some : FuncData} (G__law_some : FnG P w K mg base false 2 v.f__law_some fd__law_some ["bag", "things"] (spD S K 2 (h__law_some v))) (B__law_some : Binds K fd__law_some ["bag", "things"] []) {fd__law_take : FuncData} (G__law_take : FnG P w K mg base false 1 v.f__law_take fd__law_take ["bag", "many"] (spD S K 2 (h__law_take v))) (B__law_take : Binds K fd__law_take ["bag", "many"] []) {fd : FuncData} (F : L2.Fun K "_law_value" "_law_value" st__law_value v.f__law_value fd) (B__law_value : Binds K fd ["bag", "deep"] []) (n : Nat) : FnG P w K mg base false (3 + n) v.f__law_value fd ["bag", "deep"] (spD S K 2 (h__law_value v n)) := by
  induction n with
  | zero => exact fnG_bad
  | succ n ih =>
    have SC := sc__law_value
    exact funG (kp := false) (b := b__law_value v (h__law_value v n)) (N := N__law_value) (ps := ["bag", "deep"]) (k := 3 + n) F SC fun cdv A fr s H E hg hr => ss_cons (s_iff (PW.pt (s_andT (s_cmpT o_gt rfl (s_var (i := 1) rfl (.inr (.inl rfl)) rfl rfl) (s_int)) (pw_and1 (s_cmpT o_gt rfl (s_call (ps := ["bag", "many"]) (h := (h__law_take v)) (G__law_take.up (by omega)) (by intro z; cases z) hr rfl T.g__law_take T.kf__law_take B__law_take (takes_of rfl rfl rfl rfl) (s_cons (s_var (i := 0) rfl (.inr (.inl rfl)) rfl rfl) (s_cons (s_int) (s_nil) rfl) rfl)) (s_int))))) (ss_cons (s_ret (s_callTy o_tup rfl T.n_tuple (by kernel_rfl) (s_cons (s_lc (own := [("turn", 2)]) rfl SC.nd (s_rg1 rfl T.n_range (s_cons (s_call (ps := ["bag", "many"]) (h := (h__law_take v)) (G__law_take.up (by omega)) (by intro z; cases z) hr rfl T.g__law_take T.kf__law_take B__law_take (takes_of rfl rfl rfl rfl) (s_cons (s_var (i := 0) rfl (.inr (.inl rfl)) rfl rfl) (s_cons (s_int) (s_nil) rfl) rfl)) (s_nil) rfl) rfl) (blkOk_by (N := N__law_value) (sc := defScope st__law_value) (by decide +kernel)) (by decide) (fun _ _ _ _ _ => t_name SC.nd rfl (.inl rfl) (.inr rfl)) (fun _ _ _ _ _ => s_yes) (fun _ _ _ _ _ => s_call (ps := ["bag", "deep"]) (h := h__law_value v n) (ih.up (by omega)) (by intro z; cases z) hr rfl T.g__law_value T.kf__law_value B__law_value LamX.takes0 (s_cons (s_var (i := 0) rfl (.inr (.inl rfl)) rfl rfl) (s_cons (s_bin o_sub (s_var (i := 1) rfl (.inr (.inl (by first | rfl | kernel_rfl))) rfl rfl) (s_int)) (s_nil) rfl) rfl)) (fun _ => rfl)) (s_nil) rfl) (by decide) (by decide) rfl rfl)) (ss_nil)) (ss_nil)) (ss_cons (s_ret (s_call (ps := ["bag", "things"]) (h := (h__law_some v)) (G__law_some.up (by omega)) (by intro z; cases z) hr rfl T.g__law_some T.kf__law_some B__law_some (takes_of rfl rfl rfl rfl) (s_cons (s_var (i := 0) rfl (.inr (.inl rfl)) rfl rfl) (s_cons (s_lst (s_cons (s_non) (s_cons (s_int) (s_cons (s_int) (s_cons (s_neg (s_int)) (s_cons (s_bin o_pow (s_int) (s_int)) (s_cons (s_neg (s_bin o_pow (s_int) (s_int))) (s_cons (s_bin o_sub (s_bin o_pow (s_int) (s_int)) (s_int)) (s_cons (s_strL (by decide +kernel)) (s_cons (s_strL (by decide +kernel)) (s_cons (s_strL (by decide +kernel)) (s_cons (s_strL (by decide +kernel)) (s_cons (s_bin o_sub (s_call (ps := ["bag", "many"]) (h := (h__law_take v)) (G__law_take.up (by omega)) (by intro z; cases z) hr rfl T.g__law_take T.kf__law_take B__law_take (takes_of rfl rfl rfl rfl) (s_cons (s_var (i := 0) rfl (.inr (.inl rfl)) rfl rfl) (s_cons (s_int) (s_nil) rfl) rfl)) (s_int)) (s_nil) rfl) rfl) rfl) rfl) rfl) rfl) rfl) rfl) rfl) rfl) rfl) rfl)) (s_nil) rfl) rfl))) (ss_nil))
abbrev st__law_is_plain : Stmt := top 33
abbrev N__law_is_plain : List Str := ["thing", "deep", "one"]
def b__law_is_plain (v : Vv) (h : List D → St → Out D) : Env → St → SO := gSeq (gIf (fB (fIsi (tabT "tuple") (fVar 0))) (gSeq (gRet (fAnd (f2 opLt (fVar 1) (fC (.int 60))) (f2 opEq (fLcL (fLc (fIt (fVar 0)) (tgName 2) (fNotT (fB (fDef 2 h (fCons (fVar 2) (fCons (f2 opAdd (fVar 1) (fC (.int 1))) (fNil)))))) (fVar 2) [2])) (fLst (fNil))))) (gNx)) (gNx)) (gSeq (gRet (fOr (f2 opIs (fVar 0) (fC .non)) (fOr (fDef 1 (h__law_is_word v) (fCons (fVar 0) (fNil))) (fAnd (fDef 1 (h__law_is_int v) (fCons (fVar 0) (fNil))) (f2 opLt (fCall cAbs (fCons (fVar 0) (fNil))) (f2 opPow (fC (.int 10)) (fC (.int 40)))))))) (gNx))
def h__law_is_plain (v : Vv) : Nat → List D → St → Out D
  | 0 => hBad
  | n + 1 => runF false 3 (b__law_is_plain v (h__law_is_plain v n))
theorem sc__law_is_plain : FnScope N__law_is_plain ["thing", "deep"] (defScope st__law_is_plain) := ⟨rfl, rfl, rfl, by decide +kernel, rfl, by decide +kernel, by decide +kernel⟩
theorem w__law_is_plain (T : TX K mg v S) {fd__law_is_int : FuncData} (G__law_is_int : FnG P w K mg base false 1 v.f__law_is_int fd__law_is_int ["thing"] (spD S K 1 (h__law_is_int v))) (B__law_is_int : Binds K fd__law_is_int ["thing"] []) {fd__law_is_word : FuncData} (G__law_is_word : FnG P w K mg base false 1 v.f__law_is_word fd__law_is_word ["thing"] (spD S K 1 (h__law_is_word v))) (B__law_is_word : Binds K fd__law_is_word ["thing"] []) {fd : FuncData} (F : L2.Fun K "_law_is_plain" "_law_is_plain" st__law_is_plain v.f__law_is_plain fd) (B__law_is_plain : Binds K fd ["thing", "deep"] []) (n : Nat) : FnG P w K mg base false (2 + n) v.f__law_is_plain fd ["thing", "deep"] (spD S K 2 (h__law_is_plain v n)) := by
  induction n with
  | zero => exact fnG_bad
  | succ n ih =>
    have SC := sc__law_is_plain
    exact funG (kp := false) (b := b__law_is_plain v (h__law_is_plain v n)) (N := N__law_is_plain) (ps := ["thing", "deep"]) (k := 2 + n) F SC fun cdv A fr s H E hg hr => ss_cons (s_iff (s_val (s_isi (tx := "tuple") (T := "tuple") rfl T.n_isinstance rfl T.n_tuple (by kernel_rfl) (by decide) (by decide) (kit_tuple _) (s_var (i := 0) rfl (.inl rfl) rfl rfl) rfl rfl) (fun _ => rfl)) (ss_cons (s_ret (s_and (s_cmp o_lt rfl (s_var (i := 1) rfl (.inr (.inl rfl)) rfl rfl) (s_int)) (pe_one (s_cmp (o_eq hr.units) rfl (s_lc (own := [("one", 2)]) rfl SC.nd (s_it (s_var (i := 0) rfl (.inl rfl) rfl rfl)) (blkOk_by (N := N__law_is_plain) (sc := defScope st__law_is_plain) (by decide +kernel)) (by decide) (fun _ _ _ _ _ => t_name SC.nd rfl (.inl rfl) (.inr rfl)) (fun _ _ _ _ _ => (s_ifs (s_notT (s_val (s_call (ps := ["thing", "deep"]) (h := h__law_is_plain v n) (ih.up (by omega)) (by intro z; cases z) hr rfl T.g__law_is_plain T.kf__law_is_plain B__law_is_plain LamX.takes0 (s_cons (s_var (i := 2) rfl (.inl rfl) rfl rfl) (s_cons (s_bin o_add (s_var (i := 1) rfl (.inr (.inl rfl)) rfl rfl) (s_int)) (s_nil) rfl) rfl)) (fun _ => rfl))))) (fun _ _ _ _ _ => s_var (i := 2) rfl (.inl rfl) rfl rfl) (fun _ => rfl)) (s_lst (s_nil)))))) (ss_nil)) (ss_nil)) (ss_cons (s_ret (s_or (s_cmp o_is rfl (s_var (i := 0) rfl (.inl rfl) rfl rfl) (s_non)) (s_or (s_call (ps := ["thing"]) (h := (h__law_is_word v)) (G__law_is_word.up (by omega)) (by intro z; cases z) hr rfl T.g__law_is_word T.kf__law_is_word B__law_is_word (takes_of rfl rfl rfl rfl) (s_cons (s_var (i := 0) rfl (.inl rfl) rfl rfl) (s_nil) rfl)) (pe_one (s_and (s_call (ps := ["thing"]) (h := (h__law_is_int v)) (G__law_is_int.up (by omega)) (by intro z; cases z) hr rfl T.g__law_is_int T.kf__law_is_int B__law_is_int (takes_of rfl rfl rfl rfl) (s_cons (s_var (i := 0) rfl (.inl rfl) rfl rfl) (s_nil) rfl)) (pe_one (s_cmp o_lt rfl (s_callB o_abs rfl T.n_abs (by kernel_rfl) (s_cons (s_var (i := 0) rfl (.inl rfl) rfl rfl) (s_nil) rfl) (by decide) (by decide) rfl rfl) (s_bin o_pow (s_int) (s_int))))))))) (ss_nil))
abbrev st__law_nested : Stmt := top 34
abbrev N__law_nested : List Str := ["many", "found", "turn"]
def b__law_nested (v : Vv) : Env → St → SO := gSeq (gSet 1 (fTup (fNil))) (gSeq (gFor (fRg1 (fCons (f2 opSub (fVar 0) (fC (.int 1))) (fNil))) (tgName 2) (gSeq (gSet 1 (fTup (fCons (fVar 1) (fNil)))) (gNx))) (gSeq (gRet (fVar 1)) (gNx)))
def h__law_nested (v : Vv) : List D → St → Out D := runF false 3 (b__law_nested v)
theorem sc__law_nested : FnScope N__law_nested ["many"] (defScope st__law_nested) := ⟨rfl, rfl, rfl, by decide +kernel, rfl, by decide +kernel, by decide +kernel⟩
theorem w__law_nested (T : TX K mg v S)  {f : Addr} {fd : FuncData} (F : L2.Fun K "_law_nested" "_law_nested" st__law_nested f fd) : FnG P w K mg base false 1 f fd ["many"] (spD S K 1 (h__law_nested v)) :=
  have SC := sc__law_nested
  funG (kp := false) (b := b__law_nested v) (N := N__law_nested) (ps := ["many"]) F SC fun cdv A fr s H E hg hr => ss_cons (s_set (i := 1) SC.nd rfl (.inl rfl) (s_tup (s_nil)) rfl (.inl rfl)) (ss_cons (s_for (passes_of rfl) rfl (s_rg1 rfl T.n_range (s_cons (s_bin o_sub (s_var (i := 0) rfl (.inl rfl) rfl rfl) (s_int)) (s_nil) rfl) rfl) (t_name SC.nd rfl (.inl rfl) (.inl rfl)) (ss_cons (s_set (i := 1) SC.nd rfl (.inl rfl) (s_tup (s_cons (s_var (i := 1) rfl (.inl rfl) rfl rfl) (s_nil) rfl)) rfl (.inl rfl)) (ss_nil)) (fun _ => rfl)) (ss_cons (s_ret (s_var (i := 1) rfl (.inl rfl) rfl rfl)) (ss_nil)))
abbrev st__law_heard : Stmt := top 31
abbrev N__law_heard : List Str := ["act", "error"]
theorem sc__law_heard : FnScope N__law_heard ["act"] (defScope st__law_heard) := ⟨rfl, rfl, rfl, by decide +kernel, rfl, by decide +kernel, by decide +kernel⟩
abbrev told__law_heard : List Nat := [116, 111, 108, 100]
def sd_BadText (a d : Nat) : Env → St → SO := gSeq (gRet (fIf (fB (f2 opEqI (fXf 1 a d "line") (fC (.int 1)))) (fTup (fCons (fC (.str [98, 97, 100])) (fCons (fXf 1 a d "column") (fNil)))) (fTup (fCons (fC (.str [111, 100, 100])) (fNil))))) gNx
def sf_BadText (ds : List D) (st : St) : SO := gSeq (gRet (fIf (fB (f2 opEqI (fDs ds 0) (fC (.int 1)))) (fTup (fCons (fC (.str [98, 97, 100])) (fCons (fDs ds 1) (fNil)))) (fTup (fCons (fC (.str [111, 100, 100])) (fNil))))) gNx [] st
theorem se_BadText (a d : Nat) (ds : List D) (st : St) : sd_BadText a d (envX 2 1 a d ["line", "column"] ds) st = sf_BadText ds st := by
    have e0 : ∀ st, fXf 1 a d "column" (envX 2 1 a d ["line", "column"] ds) st = fDs ds 1 [] st := fun st => fXf_env (by decide) (by decide +kernel)
    have e1 : ∀ st, fXf 1 a d "line" (envX 2 1 a d ["line", "column"] ds) st = fDs ds 0 [] st := fun st => fXf_env (by decide) (by decide +kernel)
    unfold sd_BadText sf_BadText
    simp only [gSeq, gRet, fTup, fCons, fC, fNil, fIf, fB, f2, e0, e1]
def hs__law_heard : List HD := [.any (fun c => decide (c = 1)) (gSeq (gRet (fTup (fCons (fC (.str [110, 111, 116, 104, 105, 110, 103])) (fNil)))) (gNx)), .fld (fun c => decide (c = 0)) 0 1 sf_BadText]
theorem hd__law_heard {X : Cx} {g : Addr} {cdv : Value} (T : TX X.K X.mg v S) (s : Shared) (H : Hp) : HdR S (cxOf C8.CX0 X.prog X.w X.K X.mg X.base N__law_heard "_law_heard" (defScope st__law_heard) g cdv X.A X.stack s H C8.E0).nox 2 (match defBody st__law_heard with | [.Try _ hs _ _ _] => hs | _ => []) hs__law_heard :=
  HdR.any ⟨rfl, rfl, .inl T.g_Nothing⟩ (fun c hc => by have z := T.xm c hc 1 (by decide); rw [T.at_Nothing] at z; exact z) (fun a oe pn => ss_cons (s_ret (s_tup (s_cons (s_strL (by decide +kernel)) (s_nil) rfl))) (ss_nil)) (HdR.fld (s := sd_BadText) ⟨rfl, rfl, .inl T.g_BadText⟩ (fun c hc => by have z := T.xm c hc 0 (by decide); rw [T.at_BadText] at z; exact z) sc__law_heard.nd rfl rfl (by rw [T.fs_BadText]; exact List.cons_ne_nil _ _) (fun a d oe pn hz hv => ss_cons (s_ret (s_if (s_cmpT o_eqI rfl (s_xf T.xf_BadText T.no_BadText_line hz hv rfl (.inl rfl) rfl rfl rfl) (s_int)) (s_tup (s_cons (s_strL (by decide +kernel)) (s_cons (s_xf T.xf_BadText T.no_BadText_column hz hv rfl (.inl rfl) rfl rfl rfl) (s_nil) rfl) rfl)) (s_tup (s_cons (s_strL (by decide +kernel)) (s_nil) rfl)))) ss_nil) (fun a d ds st _ => by rw [T.fs_BadText]; exact se_BadText a d ds st) (HdR.nil))
abbrev st_law : Stmt := top 35
abbrev N_law : List Str := ["script", "bag", "lap", "value", "signs", "turn", "at", "due", "many", "thing", "bent", "text"]
def b_law (v : Vv) : Env → St → SO := gSeq (gSet 1 (fDef 1 (h__law_bag v) (fCons (fVar 0) (fNil)))) (gSeq (gFor (fRg1 (fCons (fC (.int 10)) (fNil))) (tgName 2) (gSeq (gSet 3 (fDef 2 (h__law_value v 5) (fCons (fVar 1) (fCons (fC (.int 4)) (fNil))))) (gSeq (gSet 11 (fDef 1 (h__law_value_text v 62) (fCons (fVar 3) (fNil)))) (gSeq (gIf (fOrT (fNotT (fB (fDef 2 (h__law_alike v) (fCons (fLst (fCons (fDef 1 (h_is_plain_value v) (fCons (fVar 3) (fNil))) (fCons (fDef 1 (h_value_text v) (fCons (fVar 3) (fNil))) (fCons (fDef 1 (h_read_value v) (fCons (fVar 11) (fNil))) (fNil))))) (fCons (fLst (fCons (fC (.bl true)) (fCons (fVar 11) (fCons (fVar 3) (fNil))))) (fNil)))))) (fB (f2 opNe (fDef 1 (h__law_read_value v) (fCons (fVar 11) (fNil))) (fTup (fCons (fC (.str [116, 111, 108, 100])) (fCons (fVar 3) (fNil))))))) (gSeq (gRet (fC (.bl false))) (gNx)) (gNx)) (gSeq (gSet 4 (fLst (fCons (fC (.str [40])) (fCons (fC (.str [41])) (fCons (fC (.str [32])) (fCons (fC (.str [45])) (fCons (fC (.str [48])) (fCons (fC (.str [55])) (fCons (fC (.str [97])) (fCons (fC (.str [90])) (fCons (fC (.str [46])) (fCons (fC (.str [120, 49])) (fCons (fC (.str [45, 48])) (fCons (fC (.str [48, 49])) (fCons (fC (.str [32, 32])) (fNil)))))))))))))))) (gSeq (gFor (fRg1 (fCons (fC (.int 8)) (fNil))) (tgName 5) (gSeq (gSet 6 (fDef 2 (h__law_take v) (fCons (fVar 1) (fCons (f2 opAdd (fCall cLen (fCons (fVar 11) (fNil))) (fC (.int 1))) (fNil))))) (gSeq (gSet 10 (f2 opAdd (f2 opAdd (fSlc (fVar 11) (fNoP) (fPart (fVar 6))) (fDef 2 (h__law_some v) (fCons (fVar 1) (fCons (f2 opAdd (fVar 4) (fLst (fCons (fC (.str [])) (fNil)))) (fNil))))) (fSlc (fVar 11) (fPart (f2 opAdd (fVar 6) (fDef 2 (h__law_take v) (fCons (fVar 1) (fCons (fC (.int 2)) (fNil)))))) (fNoP)))) (gSeq (gIf (fNotT (fB (fDef 2 (h__law_alike v) (fCons (fHeard 2 2 told__law_heard hs__law_heard (fDef 1 (h_read_value v) (fCons (fVar 10) (fNil)))) (fCons (fDef 1 (h__law_read_value v) (fCons (fVar 10) (fNil))) (fNil)))))) (gSeq (gRet (fC (.bl false))) (gNx)) (gNx)) (gNx))))) (gSeq (gSet 10 (fMtS mJoin (fC (.str [])) (fCons (fLcL (fLc (fRg1 (fCons (fDef 2 (h__law_take v) (fCons (fVar 1) (fCons (fC (.int 9)) (fNil)))) (fNil))) (tgName 5) (fun _ st => .ok true st) (fDef 2 (h__law_some v) (fCons (fVar 1) (fCons (fVar 4) (fNil)))) [5])) (fNil)))) (gSeq (gIf (fNotT (fB (fDef 2 (h__law_alike v) (fCons (fHeard 2 2 told__law_heard hs__law_heard (fDef 1 (h_read_value v) (fCons (fVar 10) (fNil)))) (fCons (fDef 1 (h__law_read_value v) (fCons (fVar 10) (fNil))) (fNil)))))) (gSeq (gRet (fC (.bl false))) (gNx)) (gNx)) (gNx))))))))) (gSeq (gFor (fIt (fTup (fCons (fC .non) (fCons (fC (.bl true)) (fCons (fC (.int 0)) (fCons (f1 opNeg (fC (.int 5))) (fCons (f2 opPow (fC (.int 10)) (fC (.int 40))) (fCons (f2 opSub (f2 opPow (fC (.int 10)) (fC (.int 40))) (fC (.int 1))) (fCons (f1 opNeg (f2 opPow (fC (.int 10)) (fC (.int 40)))) (fCons (fC (.str [])) (fCons (fC (.str [97])) (fCons (fC (.str [65])) (fCons (fC (.str [97, 32, 98])) (fCons (fC (.str [57, 97])) (fCons (fC (.str [97, 57])) (fCons (fLst (fNil)) (fCons (fLst (fCons (fC (.str [97])) (fNil))) (fCons (fTup (fNil)) (fCons (fTup (fCons (fTup (fNil)) (fNil))) (fCons (fTup (fCons (fC (.bl true)) (fNil))) (fCons (fTup (fCons (fC (.str [97])) (fCons (fC .non) (fCons (f1 opNeg (fC (.int 3))) (fNil))))) (fCons (fTup (fCons (fEmp) (fNil))) (fCons (fDef 1 (h__law_nested v) (fCons (fC (.int 60)) (fNil))) (fCons (fDef 1 (h__law_nested v) (fCons (fC (.int 61)) (fNil))) (fNil))))))))))))))))))))))))) (tgName 9) (gSeq (gSet 7 (fDef 2 (h__law_is_plain v 62) (fCons (fVar 9) (fCons (fC (.int 0)) (fNil))))) (gSeq (gIf (fOrT (fB (f2 opNe (fDef 1 (h_is_plain_value v) (fCons (fVar 9) (fNil))) (fVar 7))) (fB (f2 opNe (fHeard 2 2 told__law_heard hs__law_heard (fDef 1 (h_value_text v) (fCons (fVar 9) (fNil)))) (fIf (fB (fVar 7)) (fTup (fCons (fC (.str [116, 111, 108, 100])) (fCons (fDef 1 (h__law_value_text v 62) (fCons (fVar 9) (fNil))) (fNil)))) (fTup (fCons (fC (.str [110, 111, 116, 104, 105, 110, 103])) (fNil))))))) (gSeq (gRet (fC (.bl false))) (gNx)) (gNx)) (gNx)))) (gSeq (gFor (fIt (fTup (fCons (fC (.int 59)) (fCons (fC (.int 60)) (fCons (fC (.int 61)) (fCons (fC (.int 62)) (fNil))))))) (tgName 8) (gSeq (gFor (fIt (fTup (fCons (f2 opAdd (f2 opMul (fC (.str [40])) (fVar 8)) (f2 opMul (fC (.str [41])) (fVar 8))) (fCons (f2 opMul (fC (.str [40])) (fVar 8)) (fCons (f2 opAdd (f2 opMul (fC (.str [40])) (fVar 8)) (fC (.str [97]))) (fNil)))))) (tgName 11) (gSeq (gIf (fNotT (fB (fDef 2 (h__law_alike v) (fCons (fHeard 2 2 told__law_heard hs__law_heard (fDef 1 (h_read_value v) (fCons (fVar 11) (fNil)))) (fCons (fDef 1 (h__law_read_value v) (fCons (fVar 11) (fNil))) (fNil)))))) (gSeq (gRet (fC (.bl false))) (gNx)) (gNx)) (gNx))) (gNx))) (gSeq (gFor (fIt (fTup (fCons (fC (.str [])) (fCons (fC (.str [32])) (fCons (fC (.str [97])) (fCons (fC (.str [97, 32])) (fCons (fC (.str [32, 97])) (fCons (fC (.str [40, 41])) (fCons (fC (.str [40, 32, 41])) (fCons (fC (.str [40, 97, 41])) (fCons (fC (.str [40, 97, 32, 41])) (fCons (fC (.str [40, 97, 32, 32, 98, 41])) (fCons (fC (.str [40, 97, 32, 98, 41])) (fCons (fC (.str [45])) (fCons (fC (.str [45, 45])) (fCons (fC (.str [45, 49])) (fCons (fC (.str [45, 97])) (fCons (f2 opMul (fC (.str [57])) (fC (.int 40))) (fCons (f2 opMul (fC (.str [57])) (fC (.int 41))) (fCons (fC (.str [40, 97, 41, 40, 98, 41])) (fCons (fC (.str [97, 40, 98, 41])) (fCons (fC (.str [41])) (fCons (fC (.str [40, 45, 41])) (fCons (fC (.str [107, 101, 112, 116, 41])) (fCons (fC (.str [49, 120])) (fNil)))))))))))))))))))))))))) (tgName 11) (gSeq (gIf (fNotT (fB (fDef 2 (h__law_alike v) (fCons (fHeard 2 2 told__law_heard hs__law_heard (fDef 1 (h_read_value v) (fCons (fVar 11) (fNil)))) (fCons (fDef 1 (h__law_read_value v) (fCons (fVar 11) (fNil))) (fNil)))))) (gSeq (gRet (fC (.bl false))) (gNx)) (gNx)) (gNx))) (gSeq (gRet (f2 opEq (fLcL (fLc (fIt (fTup (fCons (fC .non) (fCons (fC (.int 5)) (fCons (fTup (fCons (fC (.str [97])) (fNil))) (fCons (fTup (fNil)) (fNil))))))) (tgName 9) (fun _ st => .ok true st) (fHeard 2 2 told__law_heard hs__law_heard (fDef 1 (h_read_value v) (fCons (fVar 9) (fNil)))) [9])) (f2 opMul (fLst (fCons (fTup (fCons (fC (.str [110, 111, 116, 104, 105, 110, 103])) (fNil))) (fNil))) (fC (.int 4))))) (gNx))))))
def h_law (v : Vv) : List D → St → Out D := runF false 12 (b_law v)
theorem sc_law : FnScope N_law ["script"] (defScope st_law) := ⟨rfl, rfl, rfl, by decide +kernel, rfl, by decide +kernel, by decide +kernel⟩
theorem w_law (T : TX K mg v S) {fd__law_alike : FuncData} (G__law_alike : FnG P w K mg base true 1 v.f__law_alike fd__law_alike ["found", "due"] (spD S K 2 (h__law_alike v))) (B__law_alike : Binds K fd__law_alike ["found", "due"] []) {fd__law_bag : FuncData} (G__law_bag : FnG P w K mg base false 1 v.f__law_bag fd__law_bag ["script"] (spD S K 1 (h__law_bag v))) (B__law_bag : Binds K fd__law_bag ["script"] []) {fd__law_is_plain : FuncData} (G__law_is_plain : FnG P w K mg base false 64 v.f__law_is_plain fd__law_is_plain ["thing", "deep"] (spD S K 2 (h__law_is_plain v 62))) (B__law_is_plain : Binds K fd__law_is_plain ["thing", "deep"] []) {fd__law_nested : FuncData} (G__law_nested : FnG P w K mg base false 1 v.f__law_nested fd__law_nested ["many"] (spD S K 1 (h__law_nested v))) (B__law_nested : Binds K fd__law_nested ["many"] []) {fd__law_read_value : FuncData} (G__law_read_value : FnG P w K mg base false 3 v.f__law_read_value fd__law_read_value ["text"] (spD S K 1 (h__law_read_value v))) (B__law_read_value : Binds K fd__law_read_value ["text"] []) {fd__law_some : FuncData} (G__law_some : FnG P w K mg base false 2 v.f__law_some fd__law_some ["bag", "things"] (spD S K 2 (h__law_some v))) (B__law_some : Binds K fd__law_some ["bag", "things"] []) {fd__law_take : FuncData} (G__law_take : FnG P w K mg base false 1 v.f__law_take fd__law_take ["bag", "many"] (spD S K 2 (h__law_take v))) (B__law_take : Binds K fd__law_take ["bag", "many"] []) {fd__law_value : FuncData} (G__law_value : FnG P w K mg base false 8 v.f__law_value fd__law_value ["bag", "deep"] (spD S K 2 (h__law_value v 5))) (B__law_value : Binds K fd__law_value ["bag", "deep"] []) {fd__law_value_text : FuncData} (G__law_value_text : FnG P w K mg base false 63 v.f__law_value_text fd__law_value_text ["value"] (spD S K 1 (h__law_value_text v 62))) (B__law_value_text : Binds K fd__law_value_text ["value"] []) {fd_is_plain_value : FuncData} (G_is_plain_value : FnG P w K mg base false 65 v.f_is_plain_value fd_is_plain_value ["thing"] (spD S K 1 (h_is_plain_value v))) (B_is_plain_value : Binds K fd_is_plain_value ["thing"] []) {fd_read_value : FuncData} (G_read_value : FnG P w K mg base false 66 v.f_read_value fd_read_value ["text"] (spD S K 1 (h_read_value v))) (B_read_value : Binds K fd_read_value ["text"] []) {fd_value_text : FuncData} (G_value_text : FnG P w K mg base false 66 v.f_value_text fd_value_text ["thing"] (spD S K 1 (h_value_text v))) (B_value_text : Binds K fd_value_text ["thing"] []) {f tc : Addr} {kV doc pm ct oc : Value} {an od : Option Addr} {osl : Array (Option Value)} (lk : K.lookup f = some ⟨oc, od, .func (PySem.W.fnOf "law" "law" (defArgs st_law) (defBody st_law) (defScope st_law) .none kV doc pm an (.ref tc) ct), osl⟩) (hcd : PySem.W.codeIn K (.ref tc) "law" = true) {fdh : FuncData} (Fh : L2.Fun K "_law_heard" "_law_heard" st__law_heard v.f__law_heard fdh) (Bh : Binds K fdh ["act"] []) {tP : Addr} (TB : LamX.TabB base mg tc tP) (hmT : (tP, ("law.<locals>.<lambda>" : Str)) ∈ S.T) (hu : ∀ p ∈ S.T, p.1 = tP → p.2 = ("law.<locals>.<lambda>" : Str)) :
    FnG P w K mg base true 69 f (PySem.W.fnOf "law" "law" (defArgs st_law) (defBody st_law) (defScope st_law) .none kV doc pm an (.ref tc) ct) ["script"] (spD S K 1 (h_law v)) := by
  obtain ⟨och, odh, kVh, doch, pmh, anh, cdvh, cth, oslh, eh, lkh, hch⟩ := Fh.ex
  subst eh
  have SC := sc_law
  exact fnG_of (kp := false) (b := b_law v) (N := N_law) (ps := ["script"]) lk hcd SC fun A fr s H E hg hr => ss_cons (s_set (i := 1) SC.nd rfl (.inr rfl) (s_call (ps := ["script"]) (h := (h__law_bag v)) (G__law_bag.up (by omega)) (by intro z; cases z) hr rfl T.g__law_bag T.kf__law_bag B__law_bag (takes_of rfl rfl rfl rfl) (s_cons (s_var (i := 0) rfl (.inl rfl) rfl rfl) (s_nil) rfl)) rfl (.inl rfl)) (ss_cons (s_for (passes_of rfl) rfl (s_rg1 rfl T.n_range (s_cons (s_int) (s_nil) rfl) rfl) (t_name SC.nd rfl (.inl rfl) (.inl rfl)) (ss_cons (s_set (i := 3) SC.nd rfl (.inl rfl) (s_call (ps := ["bag", "deep"]) (h := (h__law_value v 5)) (G__law_value.up (by omega)) (by intro z; cases z) hr rfl T.g__law_value T.kf__law_value B__law_value (takes_of rfl rfl rfl rfl) (s_cons (s_var (i := 1) rfl (.inr (.inl rfl)) rfl rfl) (s_cons (s_int) (s_nil) rfl) rfl)) rfl (.inl rfl)) (ss_cons (s_set (i := 11) SC.nd rfl (.inr rfl) (s_call (ps := ["value"]) (h := (h__law_value_text v 62)) (G__law_value_text.up (by omega)) (by intro z; cases z) hr rfl T.g__law_value_text T.kf__law_value_text B__law_value_text (takes_of rfl rfl rfl rfl) (s_cons (s_var (i := 3) rfl (.inl rfl) rfl rfl) (s_nil) rfl)) rfl (.inl rfl)) (ss_cons (s_iff (PW.pt (s_orT (s_notT (s_val (s_call (ps := ["found", "due"]) (h := (h__law_alike v)) (G__law_alike.up (by omega)) (fun _ => hg rfl) hr rfl T.g__law_alike T.kf__law_alike B__law_alike (takes_of rfl rfl rfl rfl) (s_cons (s_lst (s_cons (s_call (ps := ["thing"]) (h := (h_is_plain_value v)) (G_is_plain_value.up (by omega)) (by intro z; cases z) hr rfl T.g_is_plain_value T.kf_is_plain_value B_is_plain_value (takes_of rfl rfl rfl rfl) (s_cons (s_var (i := 3) rfl (.inl rfl) rfl rfl) (s_nil) rfl)) (s_cons (s_call (ps := ["thing"]) (h := (h_value_text v)) (G_value_text.up (by omega)) (by intro z; cases z) hr rfl T.g_value_text T.kf_value_text B_value_text (takes_of rfl rfl rfl rfl) (s_cons (s_var (i := 3) rfl (.inl rfl) rfl rfl) (s_nil) rfl)) (s_cons (s_call (ps := ["text"]) (h := (h_read_value v)) (G_read_value.up (by omega)) (by intro z; cases z) hr rfl T.g_read_value T.kf_read_value B_read_value (takes_of rfl rfl rfl rfl) (s_cons (s_var (i := 11) rfl (.inr (.inl rfl)) rfl rfl) (s_nil) rfl)) (s_nil) rfl) rfl) rfl)) (s_cons (s_lst (s_cons (s_bl) (s_cons (s_var (i := 11) rfl (.inr (.inl rfl)) rfl rfl) (s_cons (s_var (i := 3) rfl (.inl rfl) rfl rfl) (s_nil) rfl) rfl) rfl)) (s_nil) rfl) rfl)) (fun _ => rfl))) (pw_or1 (s_cmpT (o_ne hr.units) rfl (s_call (ps := ["text"]) (h := (h__law_read_value v)) (G__law_read_value.up (by omega)) (by intro z; cases z) hr rfl T.g__law_read_value T.kf__law_read_value B__law_read_value (takes_of rfl rfl rfl rfl) (s_cons (s_var (i := 11) rfl (.inr (.inl rfl)) rfl rfl) (s_nil) rfl)) (s_tup (s_cons (s_strL (by decide +kernel)) (s_cons (s_var (i := 3) rfl (.inl rfl) rfl rfl) (s_nil) rfl) rfl)))))) (ss_cons (s_ret (s_bl)) (ss_nil)) (ss_nil)) (ss_cons (s_set (i := 4) SC.nd rfl (.inr rfl) (s_lst (s_cons (s_strL (by decide +kernel)) (s_cons (s_strL (by decide +kernel)) (s_cons (s_strL (by decide +kernel)) (s_cons (s_strL (by decide +kernel)) (s_cons (s_strL (by decide +kernel)) (s_cons (s_strL (by decide +kernel)) (s_cons (s_strL (by decide +kernel)) (s_cons (s_strL (by decide +kernel)) (s_cons (s_strL (by decide +kernel)) (s_cons (s_strL (by decide +kernel)) (s_cons (s_strL (by decide +kernel)) (s_cons (s_strL (by decide +kernel)) (s_cons (s_strL (by decide +kernel)) (s_nil) rfl) rfl) rfl) rfl) rfl) rfl) rfl) rfl) rfl) rfl) rfl) rfl) rfl)) rfl (.inl rfl)) (ss_cons (s_for (passes_of rfl) rfl (s_rg1 rfl T.n_range (s_cons (s_int) (s_nil) rfl) rfl) (t_name SC.nd rfl (.inl rfl) (.inl rfl)) (ss_cons (s_set (i := 6) SC.nd rfl (.inl rfl) (s_call (ps := ["bag", "many"]) (h := (h__law_take v)) (G__law_take.up (by omega)) (by intro z; cases z) hr rfl T.g__law_take T.kf__law_take B__law_take (takes_of rfl rfl rfl rfl) (s_cons (s_var (i := 1) rfl (.inr (.inl rfl)) rfl rfl) (s_cons (s_bin o_add (s_callB o_len rfl T.n_len (by kernel_rfl) (s_cons (s_var (i := 11) rfl (.inr (.inl rfl)) rfl rfl) (s_nil) rfl) (by decide) (by decide) rfl rfl) (s_int)) (s_nil) rfl) rfl)) rfl (.inl rfl)) (ss_cons (s_set (i := 10) SC.nd rfl (.inr rfl) (s_bin o_add (s_bin o_add (s_slc (s_var (i := 11) rfl (.inr (.inl rfl)) rfl rfl) (s_noP) (s_part (s_var (i := 6) rfl (.inl rfl) rfl rfl))) (s_call (ps := ["bag", "things"]) (h := (h__law_some v)) (G__law_some.up (by omega)) (by intro z; cases z) hr rfl T.g__law_some T.kf__law_some B__law_some (takes_of rfl rfl rfl rfl) (s_cons (s_var (i := 1) rfl (.inr (.inl rfl)) rfl rfl) (s_cons (s_bin o_add (s_var (i := 4) rfl (.inr (.inl rfl)) rfl rfl) (s_lst (s_cons (s_strL (by decide +kernel)) (s_nil) rfl))) (s_nil) rfl) rfl))) (s_slc (s_var (i := 11) rfl (.inr (.inl rfl)) rfl rfl) (s_part (s_bin o_add (s_var (i := 6) rfl (.inl rfl) rfl rfl) (s_call (ps := ["bag", "many"]) (h := (h__law_take v)) (G__law_take.up (by omega)) (by intro z; cases z) hr rfl T.g__law_take T.kf__law_take B__law_take (takes_of rfl rfl rfl rfl) (s_cons (s_var (i := 1) rfl (.inr (.inl rfl)) rfl rfl) (s_cons (s_int) (s_nil) rfl) rfl)))) (s_noP))) rfl (.inl rfl)) (ss_cons (s_iff (s_notT (s_val (s_call (ps := ["found", "due"]) (h := (h__law_alike v)) (G__law_alike.up (by omega)) (fun _ => hg rfl) hr rfl T.g__law_alike T.kf__law_alike B__law_alike (takes_of rfl rfl rfl rfl) (s_cons (s_heard (Ng := N__law_heard) (tl := told__law_heard) (nc := 2) (l := hs__law_heard) (by decide +kernel) rfl T.g__law_heard T.kf__law_heard lkh hch Bh sc__law_heard rfl (.inl rfl) (fun _ => rfl) (fun s H => hd__law_heard T s H) TB rfl hmT hu hr (LamX.lamS_by (sc := defScope st_law) (by decide +kernel)) rfl (fun _ _ _ _ _ => rfl) (fun A outer s H E f c' hr => s_call (ps := ["text"]) (h := (h_read_value v)) (G_read_value.up (by omega)) (by intro z; cases z) hr rfl T.g_read_value T.kf_read_value B_read_value (takes_of rfl rfl rfl rfl) (s_cons (s_var (i := 10) rfl (.inr (.inr (by first | rfl | kernel_rfl))) rfl rfl) (s_nil) rfl))) (s_cons (s_call (ps := ["text"]) (h := (h__law_read_value v)) (G__law_read_value.up (by omega)) (by intro z; cases z) hr rfl T.g__law_read_value T.kf__law_read_value B__law_read_value (takes_of rfl rfl rfl rfl) (s_cons (s_var (i := 10) rfl (.inr (.inl rfl)) rfl rfl) (s_nil) rfl)) (s_nil) rfl) rfl)) (fun _ => rfl))) (ss_cons (s_ret (s_bl)) (ss_nil)) (ss_nil)) (ss_nil)))) (fun _ => rfl)) (ss_cons (s_set (i := 10) SC.nd rfl (.inr rfl) (s_mtS PySem.F.slot_str_join PySem.F.type_str_join o_join (s_strL (by decide +kernel)) (s_cons (s_lc (own := [("turn", 5)]) rfl SC.nd (s_rg1 rfl T.n_range (s_cons (s_call (ps := ["bag", "many"]) (h := (h__law_take v)) (G__law_take.up (by omega)) (by intro z; cases z) hr rfl T.g__law_take T.kf__law_take B__law_take (takes_of rfl rfl rfl rfl) (s_cons (s_var (i := 1) rfl (.inr (.inl rfl)) rfl rfl) (s_cons (s_int) (s_nil) rfl) rfl)) (s_nil) rfl) rfl) (blkOk_by (N := N_law) (sc := defScope st_law) (by decide +kernel)) (by decide) (fun _ _ _ _ _ => t_name SC.nd rfl (.inl rfl) (.inr rfl)) (fun _ _ _ _ _ => s_yes) (fun _ _ _ _ _ => s_call (ps := ["bag", "things"]) (h := (h__law_some v)) (G__law_some.up (by omega)) (by intro z; cases z) hr rfl T.g__law_some T.kf__law_some B__law_some LamX.takes0 (s_cons (s_var (i := 1) rfl (.inr (.inl (by first | rfl | kernel_rfl))) rfl rfl) (s_cons (s_var (i := 4) rfl (.inr (.inl (by first | rfl | kernel_rfl))) rfl rfl) (s_nil) rfl) rfl)) (fun _ => rfl)) (s_nil) rfl) rfl rfl rfl rfl rfl) rfl (.inl rfl)) (ss_cons (s_iff (s_notT (s_val (s_call (ps := ["found", "due"]) (h := (h__law_alike v)) (G__law_alike.up (by omega)) (fun _ => hg rfl) hr rfl T.g__law_alike T.kf__law_alike B__law_alike (takes_of rfl rfl rfl rfl) (s_cons (s_heard (Ng := N__law_heard) (tl := told__law_heard) (nc := 2) (l := hs__law_heard) (by decide +kernel) rfl T.g__law_heard T.kf__law_heard lkh hch Bh sc__law_heard rfl (.inl rfl) (fun _ => rfl) (fun s H => hd__law_heard T s H) TB rfl hmT hu hr (LamX.lamS_by (sc := defScope st_law) (by decide +kernel)) rfl (fun _ _ _ _ _ => rfl) (fun A outer s H E f c' hr => s_call (ps := ["text"]) (h := (h_read_value v)) (G_read_value.up (by omega)) (by intro z; cases z) hr rfl T.g_read_value T.kf_read_value B_read_value (takes_of rfl rfl rfl rfl) (s_cons (s_var (i := 10) rfl (.inr (.inr (by first | rfl | kernel_rfl))) rfl rfl) (s_nil) rfl))) (s_cons (s_call (ps := ["text"]) (h := (h__law_read_value v)) (G__law_read_value.up (by omega)) (by intro z; cases z) hr rfl T.g__law_read_value T.kf__law_read_value B__law_read_value (takes_of rfl rfl rfl rfl) (s_cons (s_var (i := 10) rfl (.inr (.inl rfl)) rfl rfl) (s_nil) rfl)) (s_nil) rfl) rfl)) (fun _ => rfl))) (ss_cons (s_ret (s_bl)) (ss_nil)) (ss_nil)) (ss_nil)))))))) (fun _ => rfl)) (ss_cons (s_for (passes_of rfl) rfl (s_it (s_tup (s_cons (s_non) (s_cons (s_bl) (s_cons (s_int) (s_cons (s_neg (s_int)) (s_cons (s_bin o_pow (s_int) (s_int)) (s_cons (s_bin o_sub (s_bin o_pow (s_int) (s_int)) (s_int)) (s_cons (s_neg (s_bin o_pow (s_int) (s_int))) (s_cons (s_strL (by decide +kernel)) (s_cons (s_strL (by decide +kernel)) (s_cons (s_strL (by decide +kernel)) (s_cons (s_strL (by decide +kernel)) (s_cons (s_strL (by decide +kernel)) (s_cons (s_strL (by decide +kernel)) (s_cons (s_lst (s_nil)) (s_cons (s_lst (s_cons (s_strL (by decide +kernel)) (s_nil) rfl)) (s_cons (s_tup (s_nil)) (s_cons (s_tup (s_cons (s_tup (s_nil)) (s_nil) rfl)) (s_cons (s_tup (s_cons (s_bl) (s_nil) rfl)) (s_cons (s_tup (s_cons (s_strL (by decide +kernel)) (s_cons (s_non) (s_cons (s_neg (s_int)) (s_nil) rfl) rfl) rfl)) (s_cons (s_tup (s_cons (s_emp) (s_nil) rfl)) (s_cons (s_call (ps := ["many"]) (h := (h__law_nested v)) (G__law_nested.up (by omega)) (by intro z; cases z) hr rfl T.g__law_nested T.kf__law_nested B__law_nested (takes_of rfl rfl rfl rfl) (s_cons (s_int) (s_nil) rfl)) (s_cons (s_call (ps := ["many"]) (h := (h__law_nested v)) (G__law_nested.up (by omega)) (by intro z; cases z) hr rfl T.g__law_nested T.kf__law_nested B__law_nested (takes_of rfl rfl rfl rfl) (s_cons (s_int) (s_nil) rfl)) (s_nil) rfl) rfl) rfl) rfl) rfl) rfl) rfl) rfl) rfl) rfl) rfl) rfl) rfl) rfl) rfl) rfl) rfl) rfl) rfl) rfl) rfl) rfl))) (t_name SC.nd rfl (.inr rfl) (.inl rfl)) (ss_cons (s_set (i := 7) SC.nd rfl (.inl rfl) (s_call (ps := ["thing", "deep"]) (h := (h__law_is_plain v 62)) (G__law_is_plain.up (by omega)) (by intro z; cases z) hr rfl T.g__law_is_plain T.kf__law_is_plain B__law_is_plain (takes_of rfl rfl rfl rfl) (s_cons (s_var (i := 9) rfl (.inr (.inl rfl)) rfl rfl) (s_cons (s_int) (s_nil) rfl) rfl)) rfl (.inl rfl)) (ss_cons (s_iff (PW.pt (s_orT (s_cmpT (o_ne hr.units) rfl (s_call (ps := ["thing"]) (h := (h_is_plain_value v)) (G_is_plain_value.up (by omega)) (by intro z; cases z) hr rfl T.g_is_plain_value T.kf_is_plain_value B_is_plain_value (takes_of rfl rfl rfl rfl) (s_cons (s_var (i := 9) rfl (.inr (.inl rfl)) rfl rfl) (s_nil) rfl)) (s_var (i := 7) rfl (.inl rfl) rfl rfl)) (pw_or1 (s_cmpT (o_ne hr.units) rfl (s_heard (Ng := N__law_heard) (tl := told__law_heard) (nc := 2) (l := hs__law_heard) (by decide +kernel) rfl T.g__law_heard T.kf__law_heard lkh hch Bh sc__law_heard rfl (.inl rfl) (fun _ => rfl) (fun s H => hd__law_heard T s H) TB rfl hmT hu hr (LamX.lamS_by (sc := defScope st_law) (by decide +kernel)) rfl (fun _ _ _ _ _ => rfl) (fun A outer s H E f c' hr => s_call (ps := ["thing"]) (h := (h_value_text v)) (G_value_text.up (by omega)) (by intro z; cases z) hr rfl T.g_value_text T.kf_value_text B_value_text (takes_of rfl rfl rfl rfl) (s_cons (s_var (i := 9) rfl (.inr (.inr (by first | rfl | kernel_rfl))) rfl rfl) (s_nil) rfl))) (s_if (s_val (s_var (i := 7) rfl (.inl rfl) rfl rfl) (fun _ => rfl)) (s_tup (s_cons (s_strL (by decide +kernel)) (s_cons (s_call (ps := ["value"]) (h := (h__law_value_text v 62)) (G__law_value_text.up (by omega)) (by intro z; cases z) hr rfl T.g__law_value_text T.kf__law_value_text B__law_value_text (takes_of rfl rfl rfl rfl) (s_cons (s_var (i := 9) rfl (.inr (.inl rfl)) rfl rfl) (s_nil) rfl)) (s_nil) rfl) rfl)) (s_tup (s_cons (s_strL (by decide +kernel)) (s_nil) rfl))))))) (ss_cons (s_ret (s_bl)) (ss_nil)) (ss_nil)) (ss_nil))) (fun _ => rfl)) (ss_cons (s_for (passes_of rfl) rfl (s_it (s_tup (s_cons (s_int) (s_cons (s_int) (s_cons (s_int) (s_cons (s_int) (s_nil) rfl) rfl) rfl) rfl))) (t_name SC.nd rfl (.inl rfl) (.inl rfl)) (ss_cons (s_for (passes_of rfl) rfl (s_it (s_tup (s_cons (s_bin o_add (s_bin o_mul (s_strL (by decide +kernel)) (s_var (i := 8) rfl (.inl rfl) rfl rfl)) (s_bin o_mul (s_strL (by decide +kernel)) (s_var (i := 8) rfl (.inl rfl) rfl rfl))) (s_cons (s_bin o_mul (s_strL (by decide +kernel)) (s_var (i := 8) rfl (.inl rfl) rfl rfl)) (s_cons (s_bin o_add (s_bin o_mul (s_strL (by decide +kernel)) (s_var (i := 8) rfl (.inl rfl) rfl rfl)) (s_strL (by decide +kernel))) (s_nil) rfl) rfl) rfl))) (t_name SC.nd rfl (.inr rfl) (.inl rfl)) (ss_cons (s_iff (s_notT (s_val (s_call (ps := ["found", "due"]) (h := (h__law_alike v)) (G__law_alike.up (by omega)) (fun _ => hg rfl) hr rfl T.g__law_alike T.kf__law_alike B__law_alike (takes_of rfl rfl rfl rfl) (s_cons (s_heard (Ng := N__law_heard) (tl := told__law_heard) (nc := 2) (l := hs__law_heard) (by decide +kernel) rfl T.g__law_heard T.kf__law_heard lkh hch Bh sc__law_heard rfl (.inl rfl) (fun _ => rfl) (fun s H => hd__law_heard T s H) TB rfl hmT hu hr (LamX.lamS_by (sc := defScope st_law) (by decide +kernel)) rfl (fun _ _ _ _ _ => rfl) (fun A outer s H E f c' hr => s_call (ps := ["text"]) (h := (h_read_value v)) (G_read_value.up (by omega)) (by intro z; cases z) hr rfl T.g_read_value T.kf_read_value B_read_value (takes_of rfl rfl rfl rfl) (s_cons (s_var (i := 11) rfl (.inr (.inr (by first | rfl | kernel_rfl))) rfl rfl) (s_nil) rfl))) (s_cons (s_call (ps := ["text"]) (h := (h__law_read_value v)) (G__law_read_value.up (by omega)) (by intro z; cases z) hr rfl T.g__law_read_value T.kf__law_read_value B__law_read_value (takes_of rfl rfl rfl rfl) (s_cons (s_var (i := 11) rfl (.inr (.inl rfl)) rfl rfl) (s_nil) rfl)) (s_nil) rfl) rfl)) (fun _ => rfl))) (ss_cons (s_ret (s_bl)) (ss_nil)) (ss_nil)) (ss_nil)) (fun _ => rfl)) (ss_nil)) (fun _ => rfl)) (ss_cons (s_for (passes_of rfl) rfl (s_it (s_tup (s_cons (s_strL (by decide +kernel)) (s_cons (s_strL (by decide +kernel)) (s_cons (s_strL (by decide +kernel)) (s_cons (s_strL (by decide +kernel)) (s_cons (s_strL (by decide +kernel)) (s_cons (s_strL (by decide +kernel)) (s_cons (s_strL (by decide +kernel)) (s_cons (s_strL (by decide +kernel)) (s_cons (s_strL (by decide +kernel)) (s_cons (s_strL (by decide +kernel)) (s_cons (s_strL (by decide +kernel)) (s_cons (s_strL (by decide +kernel)) (s_cons (s_strL (by decide +kernel)) (s_cons (s_strL (by decide +kernel)) (s_cons (s_strL (by decide +kernel)) (s_cons (s_bin o_mul (s_strL (by decide +kernel)) (s_int)) (s_cons (s_bin o_mul (s_strL (by decide +kernel)) (s_int)) (s_cons (s_strL (by decide +kernel)) (s_cons (s_strL (by decide +kernel)) (s_cons (s_strL (by decide +kernel)) (s_cons (s_strL (by decide +kernel)) (s_cons (s_strL (by decide +kernel)) (s_cons (s_strL (by decide +kernel)) (s_nil) rfl) rfl) rfl) rfl) rfl) rfl) rfl) rfl) rfl) rfl) rfl) rfl) rfl) rfl) rfl) rfl) rfl) rfl) rfl) rfl) rfl) rfl) rfl))) (t_name SC.nd rfl (.inr rfl) (.inl rfl)) (ss_cons (s_iff (s_notT (s_val (s_call (ps := ["found", "due"]) (h := (h__law_alike v)) (G__law_alike.up (by omega)) (fun _ => hg rfl) hr rfl T.g__law_alike T.kf__law_alike B__law_alike (takes_of rfl rfl rfl rfl) (s_cons (s_heard (Ng := N__law_heard) (tl := told__law_heard) (nc := 2) (l := hs__law_heard) (by decide +kernel) rfl T.g__law_heard T.kf__law_heard lkh hch Bh sc__law_heard rfl (.inl rfl) (fun _ => rfl) (fun s H => hd__law_heard T s H) TB rfl hmT hu hr (LamX.lamS_by (sc := defScope st_law) (by decide +kernel)) rfl (fun _ _ _ _ _ => rfl) (fun A outer s H E f c' hr => s_call (ps := ["text"]) (h := (h_read_value v)) (G_read_value.up (by omega)) (by intro z; cases z) hr rfl T.g_read_value T.kf_read_value B_read_value (takes_of rfl rfl rfl rfl) (s_cons (s_var (i := 11) rfl (.inr (.inr (by first | rfl | kernel_rfl))) rfl rfl) (s_nil) rfl))) (s_cons (s_call (ps := ["text"]) (h := (h__law_read_value v)) (G__law_read_value.up (by omega)) (by intro z; cases z) hr rfl T.g__law_read_value T.kf__law_read_value B__law_read_value (takes_of rfl rfl rfl rfl) (s_cons (s_var (i := 11) rfl (.inr (.inl rfl)) rfl rfl) (s_nil) rfl)) (s_nil) rfl) rfl)) (fun _ => rfl))) (ss_cons (s_ret (s_bl)) (ss_nil)) (ss_nil)) (ss_nil)) (fun _ => rfl)) (ss_cons (s_ret (s_cmp (o_eq hr.units) rfl (s_lc (own := [("thing", 9)]) rfl SC.nd (s_it (s_tup (s_cons (s_non) (s_cons (s_int) (s_cons (s_tup (s_cons (s_strL (by decide +kernel)) (s_nil) rfl)) (s_cons (s_tup (s_nil)) (s_nil) rfl) rfl) rfl) rfl))) (blkOk_by (N := N_law) (sc := defScope st_law) (by decide +kernel)) (by decide) (fun _ _ _ _ _ => t_name SC.nd rfl (.inr (by first | rfl | kernel_rfl)) (.inl (by first | rfl | kernel_rfl))) (fun _ _ _ _ _ => s_yes) (fun _ _ _ _ _ => s_heard (Ng := N__law_heard) (tl := told__law_heard) (nc := 2) (l := hs__law_heard) (by decide +kernel) rfl T.g__law_heard T.kf__law_heard lkh hch Bh sc__law_heard rfl (.inl rfl) (fun _ => rfl) (fun s H => hd__law_heard T s H) TB rfl hmT hu hr (LamX.lamS_by (by kernel_rfl)) rfl (fun _ _ _ _ _ => rfl) (fun A outer s H E f c' hr => s_call (ps := ["text"]) (h := (h_read_value v)) (G_read_value.up (by omega)) (by intro z; cases z) hr rfl T.g_read_value T.kf_read_value B_read_value (takes_of rfl rfl rfl rfl) (s_cons (s_var (i := 9) rfl (.inr (.inr (by first | rfl | kernel_rfl))) rfl rfl) (s_nil) rfl))) (fun _ => rfl)) (s_bin o_mul (s_lst (s_cons (s_tup (s_cons (s_strL (by decide +kernel)) (s_nil) rfl)) (s_nil) rfl)) (s_int)))) (ss_nil))))))
end
section
theorem all_mk {w : World} {q : Program} {K : PySem.W.Frag} {hp : Heap} {mg : Str → Option Value} {fa : Addr}
    {cValues : Addr}
    {fis_number : Addr} {odis_number anis_number : Option Addr} {slis_number : Array (Option Value)} {ocis_number kVis_number dcis_number pmis_number cdis_number ctis_number : Value}
    {fis_word : Addr} {odis_word anis_word : Option Addr} {slis_word : Array (Option Value)} {ocis_word kVis_word dcis_word pmis_word cdis_word ctis_word : Value}
    {fis_plain : Addr} {odis_plain anis_plain : Option Addr} {slis_plain : Array (Option Value)} {ocis_plain kVis_plain dcis_plain pmis_plain cdis_plain ctis_plain : Value}
    {fis_plain_value : Addr} {odis_plain_value anis_plain_value : Option Addr} {slis_plain_value : Array (Option Value)} {ocis_plain_value kVis_plain_value dcis_plain_value pmis_plain_value cdis_plain_value ctis_plain_value : Value}
    {fshown : Addr} {odshown anshown : Option Addr} {slshown : Array (Option Value)} {ocshown kVshown dcshown pmshown cdshown ctshown : Value}
    {fvalue_text : Addr} {odvalue_text anvalue_text : Option Addr} {slvalue_text : Array (Option Value)} {ocvalue_text kVvalue_text dcvalue_text pmvalue_text cdvalue_text ctvalue_text : Value}
    {ffigures_value : Addr} {odfigures_value anfigures_value : Option Addr} {slfigures_value : Array (Option Value)} {ocfigures_value kVfigures_value dcfigures_value pmfigures_value cdfigures_value ctfigures_value : Value}
    {frun_value : Addr} {odrun_value anrun_value : Option Addr} {slrun_value : Array (Option Value)} {ocrun_value kVrun_value dcrun_value pmrun_value cdrun_value ctrun_value : Value}
    {fValues___init__ : Addr} {odValues___init__ anValues___init__ : Option Addr} {slValues___init__ : Array (Option Value)} {ocValues___init__ kVValues___init__ dcValues___init__ pmValues___init__ cdValues___init__ ctValues___init__ : Value}
    {fValues_fail : Addr} {odValues_fail anValues_fail : Option Addr} {slValues_fail : Array (Option Value)} {ocValues_fail kVValues_fail dcValues_fail pmValues_fail cdValues_fail ctValues_fail : Value}
    {fValues_is_next : Addr} {odValues_is_next anValues_is_next : Option Addr} {slValues_is_next : Array (Option Value)} {ocValues_is_next kVValues_is_next dcValues_is_next pmValues_is_next cdValues_is_next ctValues_is_next : Value}
    {fValues_run : Addr} {odValues_run anValues_run : Option Addr} {slValues_run : Array (Option Value)} {ocValues_run kVValues_run dcValues_run pmValues_run cdValues_run ctValues_run : Value}
    {fValues_value : Addr} {odValues_value anValues_value : Option Addr} {slValues_value : Array (Option Value)} {ocValues_value kVValues_value dcValues_value pmValues_value cdValues_value ctValues_value : Value}
    {fread_value : Addr} {odread_value anread_value : Option Addr} {slread_value : Array (Option Value)} {ocread_value kVread_value dcread_value pmread_value cdread_value ctread_value : Value}
    {f_law_bag : Addr} {od_law_bag an_law_bag : Option Addr} {sl_law_bag : Array (Option Value)} {oc_law_bag kV_law_bag dc_law_bag pm_law_bag cd_law_bag ct_law_bag : Value}
    {f_law_take : Addr} {od_law_take an_law_take : Option Addr} {sl_law_take : Array (Option Value)} {oc_law_take kV_law_take dc_law_take pm_law_take cd_law_take ct_law_take : Value}
    {f_law_some : Addr} {od_law_some an_law_some : Option Addr} {sl_law_some : Array (Option Value)} {oc_law_some kV_law_some dc_law_some pm_law_some cd_law_some ct_law_some : Value}
    {f_law_alike : Addr} {od_law_alike an_law_alike : Option Addr} {sl_law_alike : Array (Option Value)} {oc_law_alike kV_law_alike dc_law_alike pm_law_alike cd_law_alike ct_law_alike : Value}
    {f_law_is_int : Addr} {od_law_is_int an_law_is_int : Option Addr} {sl_law_is_int : Array (Option Value)} {oc_law_is_int kV_law_is_int dc_law_is_int pm_law_is_int cd_law_is_int ct_law_is_int : Value}
    {f_law_value_text : Addr} {od_law_value_text an_law_value_text : Option Addr} {sl_law_value_text : Array (Option Value)} {oc_law_value_text kV_law_value_text dc_law_value_text pm_law_value_text cd_law_value_text ct_law_value_text : Value}
    {f_law_is_word : Addr} {od_law_is_word an_law_is_word : Option Addr} {sl_law_is_word : Array (Option Value)} {oc_law_is_word kV_law_is_word dc_law_is_word pm_law_is_word cd_law_is_word ct_law_is_word : Value}
    {f_law_run_value : Addr} {od_law_run_value an_law_run_value : Option Addr} {sl_law_run_value : Array (Option Value)} {oc_law_run_value kV_law_run_value dc_law_run_value pm_law_run_value cd_law_run_value ct_law_run_value : Value}
    {f_law_read_value : Addr} {od_law_read_value an_law_read_value : Option Addr} {sl_law_read_value : Array (Option Value)} {oc_law_read_value kV_law_read_value dc_law_read_value pm_law_read_value cd_law_read_value ct_law_read_value : Value}
    {f_law_value : Addr} {od_law_value an_law_value : Option Addr} {sl_law_value : Array (Option Value)} {oc_law_value kV_law_value dc_law_value pm_law_value cd_law_value ct_law_value : Value}
    {f_law_is_plain : Addr} {od_law_is_plain an_law_is_plain : Option Addr} {sl_law_is_plain : Array (Option Value)} {oc_law_is_plain kV_law_is_plain dc_law_is_plain pm_law_is_plain cd_law_is_plain ct_law_is_plain : Value}
    {f_law_nested : Addr} {od_law_nested an_law_nested : Option Addr} {sl_law_nested : Array (Option Value)} {oc_law_nested kV_law_nested dc_law_nested pm_law_nested cd_law_nested ct_law_nested : Value}
    {f_law_heard : Addr} {od_law_heard an_law_heard : Option Addr} {sl_law_heard : Array (Option Value)} {oc_law_heard kV_law_heard dc_law_heard pm_law_heard cd_law_heard ct_law_heard : Value}
    {flaw : Addr} {odlaw anlaw : Option Addr} {sllaw : Array (Option Value)} {oclaw kVlaw dclaw pmlaw ctlaw : Value}
    {tc tP : Addr} {te : Value} {td : Option Addr} {tv : Array Value} {ts : Array (Option Value)}
    {uDIGITS : Value}
    {uLETTERS : Value}
    {uMOST_FIGURES : Value}
    {uMOST_LEVELS : Value}
    {cBadText : Addr}
    {cNothing : Addr}
    {iBadText DBadText cdaBadText ccBadText : Addr} {odIBadText anIBadText cddBadText cldBadText : Option Addr} {slIBadText ccsBadText cslBadText : Array (Option Value)} {ocIBadText kVIBadText dcIBadText pmIBadText ctIBadText cclBadText clBadText : Value} {vcBadText : Array Value} {fileBadText : Str} {tfBadText : Tok} {bmBadText : List Value} {nmBadText qnBadText : Str} {NBadText : Addr} {bsBadText sbBadText : List Value} {snBadText : List Str} {abBadText : Bool} {colBadText : Option Bool} {ddBadText : Option Addr} {k0BadText k1BadText k2BadText k3BadText k5BadText : Option Value}
    (hans : ∀ ns : List Int, ns.length ≤ 63 → (∀ z ∈ ns, Builtin.Int.intBits z ≤ 1048576) → ∀ v : Vv, ∃ st, h_law v [.lsk (ns.map MP.D.int)] st0 = .ok (.bl true) st) (X : K.In hp) (G : hp.Ns mainGlobals mg) (hfa : mg "law" = some (.ref fa)) (OT : OwnTabs q mg K hp) (hrec : ((recsOf q).any fun e => e.name == ("law" : Str)) = true)
    (gValues : PySem.W.nsIn K mainGlobals "Values" = some (some (.ref cValues)))
    (kcValues : PySem.W.keepIn K (.ref cValues) = true)
    (pgValues : PySem.W.plainGet K cValues Str.empty = true)
    (hdValues : PySem.W.hasDictIn K cValues = true)
    (poValues : PySem.W.plainOver K cValues = true)
    (saValues : PySem.W.findIn K (.ref cValues) "__setattr__" = some (some (.builtin "object.__setattr__")))
    (mkValues : PySem.W.makesIn K cValues = true)
    (nfValues_signs : PySem.W.findIn K (.ref cValues) "signs" = some none)
    (nfValues_at : PySem.W.findIn K (.ref cValues) "at" = some none)
    (ais_number : PySem.W.nsIn K mainGlobals "is_number" = some (some (.ref fis_number)))
    (lis_number : K.lookup fis_number = some ⟨ocis_number, odis_number, .func (PySem.W.fnOf "is_number" "is_number" (defArgs st_is_number) (defBody st_is_number) (defScope st_is_number) .none kVis_number dcis_number pmis_number anis_number cdis_number ctis_number), slis_number⟩)
    (eis_number : PySem.W.codeIn K cdis_number "is_number" = true)
    (kis_number : PySem.W.keepIn K (.ref fis_number) = true)
    (ais_word : PySem.W.nsIn K mainGlobals "is_word" = some (some (.ref fis_word)))
    (lis_word : K.lookup fis_word = some ⟨ocis_word, odis_word, .func (PySem.W.fnOf "is_word" "is_word" (defArgs st_is_word) (defBody st_is_word) (defScope st_is_word) .none kVis_word dcis_word pmis_word anis_word cdis_word ctis_word), slis_word⟩)
    (eis_word : PySem.W.codeIn K cdis_word "is_word" = true)
    (kis_word : PySem.W.keepIn K (.ref fis_word) = true)
    (ais_plain : PySem.W.nsIn K mainGlobals "is_plain" = some (some (.ref fis_plain)))
    (lis_plain : K.lookup fis_plain = some ⟨ocis_plain, odis_plain, .func (PySem.W.fnOf "is_plain" "is_plain" (defArgs st_is_plain) (defBody st_is_plain) (defScope st_is_plain) .none kVis_plain dcis_plain pmis_plain anis_plain cdis_plain ctis_plain), slis_plain⟩)
    (eis_plain : PySem.W.codeIn K cdis_plain "is_plain" = true)
    (kis_plain : PySem.W.keepIn K (.ref fis_plain) = true)
    (ais_plain_value : PySem.W.nsIn K mainGlobals "is_plain_value" = some (some (.ref fis_plain_value)))
    (lis_plain_value : K.lookup fis_plain_value = some ⟨ocis_plain_value, odis_plain_value, .func (PySem.W.fnOf "is_plain_value" "is_plain_value" (defArgs st_is_plain_value) (defBody st_is_plain_value) (defScope st_is_plain_value) .none kVis_plain_value dcis_plain_value pmis_plain_value anis_plain_value cdis_plain_value ctis_plain_value), slis_plain_value⟩)
    (eis_plain_value : PySem.W.codeIn K cdis_plain_value "is_plain_value" = true)
    (kis_plain_value : PySem.W.keepIn K (.ref fis_plain_value) = true)
    (ashown : PySem.W.nsIn K mainGlobals "shown" = some (some (.ref fshown)))
    (lshown : K.lookup fshown = some ⟨ocshown, odshown, .func (PySem.W.fnOf "shown" "shown" (defArgs st_shown) (defBody st_shown) (defScope st_shown) .none kVshown dcshown pmshown anshown cdshown ctshown), slshown⟩)
    (eshown : PySem.W.codeIn K cdshown "shown" = true)
    (kshown : PySem.W.keepIn K (.ref fshown) = true)
    (avalue_text : PySem.W.nsIn K mainGlobals "value_text" = some (some (.ref fvalue_text)))
    (lvalue_text : K.lookup fvalue_text = some ⟨ocvalue_text, odvalue_text, .func (PySem.W.fnOf "value_text" "value_text" (defArgs st_value_text) (defBody st_value_text) (defScope st_value_text) .none kVvalue_text dcvalue_text pmvalue_text anvalue_text cdvalue_text ctvalue_text), slvalue_text⟩)
    (evalue_text : PySem.W.codeIn K cdvalue_text "value_text" = true)
    (kvalue_text : PySem.W.keepIn K (.ref fvalue_text) = true)
    (afigures_value : PySem.W.nsIn K mainGlobals "figures_value" = some (some (.ref ffigures_value)))
    (lfigures_value : K.lookup ffigures_value = some ⟨ocfigures_value, odfigures_value, .func (PySem.W.fnOf "figures_value" "figures_value" (defArgs st_figures_value) (defBody st_figures_value) (defScope st_figures_value) .none kVfigures_value dcfigures_value pmfigures_value anfigures_value cdfigures_value ctfigures_value), slfigures_value⟩)
    (efigures_value : PySem.W.codeIn K cdfigures_value "figures_value" = true)
    (kfigures_value : PySem.W.keepIn K (.ref ffigures_value) = true)
    (arun_value : PySem.W.nsIn K mainGlobals "run_value" = some (some (.ref frun_value)))
    (lrun_value : K.lookup frun_value = some ⟨ocrun_value, odrun_value, .func (PySem.W.fnOf "run_value" "run_value" (defArgs st_run_value) (defBody st_run_value) (defScope st_run_value) .none kVrun_value dcrun_value pmrun_value anrun_value cdrun_value ctrun_value), slrun_value⟩)
    (erun_value : PySem.W.codeIn K cdrun_value "run_value" = true)
    (krun_value : PySem.W.keepIn K (.ref frun_value) = true)
    (aValues___init__ : PySem.W.findIn K (.ref cValues) "__init__" = some (some (.ref fValues___init__)))
    (iValues___init__ : PySem.W.isFn K (.ref fValues___init__) = true)
    (lValues___init__ : K.lookup fValues___init__ = some ⟨ocValues___init__, odValues___init__, .func (PySem.W.fnOf "__init__" "Values.__init__" (defArgs st_Values___init__) (defBody st_Values___init__) (defScope st_Values___init__) .none kVValues___init__ dcValues___init__ pmValues___init__ anValues___init__ cdValues___init__ ctValues___init__), slValues___init__⟩)
    (eValues___init__ : PySem.W.codeIn K cdValues___init__ "Values.__init__" = true)
    (kValues___init__ : PySem.W.keepIn K (.ref fValues___init__) = true)
    (aValues_fail : PySem.W.findIn K (.ref cValues) "fail" = some (some (.ref fValues_fail)))
    (iValues_fail : PySem.W.isFn K (.ref fValues_fail) = true)
    (lValues_fail : K.lookup fValues_fail = some ⟨ocValues_fail, odValues_fail, .func (PySem.W.fnOf "fail" "Values.fail" (defArgs st_Values_fail) (defBody st_Values_fail) (defScope st_Values_fail) .none kVValues_fail dcValues_fail pmValues_fail anValues_fail cdValues_fail ctValues_fail), slValues_fail⟩)
    (eValues_fail : PySem.W.codeIn K cdValues_fail "Values.fail" = true)
    (kValues_fail : PySem.W.keepIn K (.ref fValues_fail) = true)
    (aValues_is_next : PySem.W.findIn K (.ref cValues) "is_next" = some (some (.ref fValues_is_next)))
    (iValues_is_next : PySem.W.isFn K (.ref fValues_is_next) = true)
    (lValues_is_next : K.lookup fValues_is_next = some ⟨ocValues_is_next, odValues_is_next, .func (PySem.W.fnOf "is_next" "Values.is_next" (defArgs st_Values_is_next) (defBody st_Values_is_next) (defScope st_Values_is_next) .none kVValues_is_next dcValues_is_next pmValues_is_next anValues_is_next cdValues_is_next ctValues_is_next), slValues_is_next⟩)
    (eValues_is_next : PySem.W.codeIn K cdValues_is_next "Values.is_next" = true)
    (kValues_is_next : PySem.W.keepIn K (.ref fValues_is_next) = true)
    (aValues_run : PySem.W.findIn K (.ref cValues) "run" = some (some (.ref fValues_run)))
    (iValues_run : PySem.W.isFn K (.ref fValues_run) = true)
    (lValues_run : K.lookup fValues_run = some ⟨ocValues_run, odValues_run, .func (PySem.W.fnOf "run" "Values.run" (defArgs st_Values_run) (defBody st_Values_run) (defScope st_Values_run) .none kVValues_run dcValues_run pmValues_run anValues_run cdValues_run ctValues_run), slValues_run⟩)
    (eValues_run : PySem.W.codeIn K cdValues_run "Values.run" = true)
    (kValues_run : PySem.W.keepIn K (.ref fValues_run) = true)
    (aValues_value : PySem.W.findIn K (.ref cValues) "value" = some (some (.ref fValues_value)))
    (iValues_value : PySem.W.isFn K (.ref fValues_value) = true)
    (lValues_value : K.lookup fValues_value = some ⟨ocValues_value, odValues_value, .func (PySem.W.fnOf "value" "Values.value" (defArgs st_Values_value) (defBody st_Values_value) (defScope st_Values_value) .none kVValues_value dcValues_value pmValues_value anValues_value cdValues_value ctValues_value), slValues_value⟩)
    (eValues_value : PySem.W.codeIn K cdValues_value "Values.value" = true)
    (kValues_value : PySem.W.keepIn K (.ref fValues_value) = true)
    (aread_value : PySem.W.nsIn K mainGlobals "read_value" = some (some (.ref fread_value)))
    (lread_value : K.lookup fread_value = some ⟨ocread_value, odread_value, .func (PySem.W.fnOf "read_value" "read_value" (defArgs st_read_value) (defBody st_read_value) (defScope st_read_value) .none kVread_value dcread_value pmread_value anread_value cdread_value ctread_value), slread_value⟩)
    (eread_value : PySem.W.codeIn K cdread_value "read_value" = true)
    (kread_value : PySem.W.keepIn K (.ref fread_value) = true)
    (a_law_bag : PySem.W.nsIn K mainGlobals "_law_bag" = some (some (.ref f_law_bag)))
    (l_law_bag : K.lookup f_law_bag = some ⟨oc_law_bag, od_law_bag, .func (PySem.W.fnOf "_law_bag" "_law_bag" (defArgs st__law_bag) (defBody st__law_bag) (defScope st__law_bag) .none kV_law_bag dc_law_bag pm_law_bag an_law_bag cd_law_bag ct_law_bag), sl_law_bag⟩)
    (e_law_bag : PySem.W.codeIn K cd_law_bag "_law_bag" = true)
    (k_law_bag : PySem.W.keepIn K (.ref f_law_bag) = true)
    (a_law_take : PySem.W.nsIn K mainGlobals "_law_take" = some (some (.ref f_law_take)))
    (l_law_take : K.lookup f_law_take = some ⟨oc_law_take, od_law_take, .func (PySem.W.fnOf "_law_take" "_law_take" (defArgs st__law_take) (defBody st__law_take) (defScope st__law_take) .none kV_law_take dc_law_take pm_law_take an_law_take cd_law_take ct_law_take), sl_law_take⟩)
    (e_law_take : PySem.W.codeIn K cd_law_take "_law_take" = true)
    (k_law_take : PySem.W.keepIn K (.ref f_law_take) = true)
    (a_law_some : PySem.W.nsIn K mainGlobals "_law_some" = some (some (.ref f_law_some)))
    (l_law_some : K.lookup f_law_some = some ⟨oc_law_some, od_law_some, .func (PySem.W.fnOf "_law_some" "_law_some" (defArgs st__law_some) (defBody st__law_some) (defScope st__law_some) .none kV_law_some dc_law_some pm_law_some an_law_some cd_law_some ct_law_some), sl_law_some⟩)
    (e_law_some : PySem.W.codeIn K cd_law_some "_law_some" = true)
    (k_law_some : PySem.W.keepIn K (.ref f_law_some) = true)
    (a_law_alike : PySem.W.nsIn K mainGlobals "_law_alike" = some (some (.ref f_law_alike)))
    (l_law_alike : K.lookup f_law_alike = some ⟨oc_law_alike, od_law_alike, .func (PySem.W.fnOf "_law_alike" "_law_alike" (defArgs st__law_alike) (defBody st__law_alike) (defScope st__law_alike) .none kV_law_alike dc_law_alike pm_law_alike an_law_alike cd_law_alike ct_law_alike), sl_law_alike⟩)
    (e_law_alike : PySem.W.codeIn K cd_law_alike "_law_alike" = true)
    (k_law_alike : PySem.W.keepIn K (.ref f_law_alike) = true)
    (a_law_is_int : PySem.W.nsIn K mainGlobals "_law_is_int" = some (some (.ref f_law_is_int)))
    (l_law_is_int : K.lookup f_law_is_int = some ⟨oc_law_is_int, od_law_is_int, .func (PySem.W.fnOf "_law_is_int" "_law_is_int" (defArgs st__law_is_int) (defBody st__law_is_int) (defScope st__law_is_int) .none kV_law_is_int dc_law_is_int pm_law_is_int an_law_is_int cd_law_is_int ct_law_is_int), sl_law_is_int⟩)
    (e_law_is_int : PySem.W.codeIn K cd_law_is_int "_law_is_int" = true)
    (k_law_is_int : PySem.W.keepIn K (.ref f_law_is_int) = true)
    (a_law_value_text : PySem.W.nsIn K mainGlobals "_law_value_text" = some (some (.ref f_law_value_text)))
    (l_law_value_text : K.lookup f_law_value_text = some ⟨oc_law_value_text, od_law_value_text, .func (PySem.W.fnOf "_law_value_text" "_law_value_text" (defArgs st__law_value_text) (defBody st__law_value_text) (defScope st__law_value_text) .none kV_law_value_text dc_law_value_text pm_law_value_text an_law_value_text cd_law_value_text ct_law_value_text), sl_law_value_text⟩)
    (e_law_value_text : PySem.W.codeIn K cd_law_value_text "_law_value_text" = true)
    (k_law_value_text : PySem.W.keepIn K (.ref f_law_value_text) = true)
    (a_law_is_word : PySem.W.nsIn K mainGlobals "_law_is_word" = some (some (.ref f_law_is_word)))
    (l_law_is_word : K.lookup f_law_is_word = some ⟨oc_law_is_word, od_law_is_word, .func (PySem.W.fnOf "_law_is_word" "_law_is_word" (defArgs st__law_is_word) (defBody st__law_is_word) (defScope st__law_is_word) .none kV_law_is_word dc_law_is_word pm_law_is_word an_law_is_word cd_law_is_word ct_law_is_word), sl_law_is_word⟩)
    (e_law_is_word : PySem.W.codeIn K cd_law_is_word "_law_is_word" = true)
    (k_law_is_word : PySem.W.keepIn K (.ref f_law_is_word) = true)
    (a_law_run_value : PySem.W.nsIn K mainGlobals "_law_run_value" = some (some (.ref f_law_run_value)))
    (l_law_run_value : K.lookup f_law_run_value = some ⟨oc_law_run_value, od_law_run_value, .func (PySem.W.fnOf "_law_run_value" "_law_run_value" (defArgs st__law_run_value) (defBody st__law_run_value) (defScope st__law_run_value) .none kV_law_run_value dc_law_run_value pm_law_run_value an_law_run_value cd_law_run_value ct_law_run_value), sl_law_run_value⟩)
    (e_law_run_value : PySem.W.codeIn K cd_law_run_value "_law_run_value" = true)
    (k_law_run_value : PySem.W.keepIn K (.ref f_law_run_value) = true)
    (a_law_read_value : PySem.W.nsIn K mainGlobals "_law_read_value" = some (some (.ref f_law_read_value)))
    (l_law_read_value : K.lookup f_law_read_value = some ⟨oc_law_read_value, od_law_read_value, .func (PySem.W.fnOf "_law_read_value" "_law_read_value" (defArgs st__law_read_value) (defBody st__law_read_value) (defScope st__law_read_value) .none kV_law_read_value dc_law_read_value pm_law_read_value an_law_read_value cd_law_read_value ct_law_read_value), sl_law_read_value⟩)
    (e_law_read_value : PySem.W.codeIn K cd_law_read_value "_law_read_value" = true)
    (k_law_read_value : PySem.W.keepIn K (.ref f_law_read_value) = true)
    (a_law_value : PySem.W.nsIn K mainGlobals "_law_value" = some (some (.ref f_law_value)))
    (l_law_value : K.lookup f_law_value = some ⟨oc_law_value, od_law_value, .func (PySem.W.fnOf "_law_value" "_law_value" (defArgs st__law_value) (defBody st__law_value) (defScope st__law_value) .none kV_law_value dc_law_value pm_law_value an_law_value cd_law_value ct_law_value), sl_law_value⟩)
    (e_law_value : PySem.W.codeIn K cd_law_value "_law_value" = true)
    (k_law_value : PySem.W.keepIn K (.ref f_law_value) = true)
    (a_law_is_plain : PySem.W.nsIn K mainGlobals "_law_is_plain" = some (some (.ref f_law_is_plain)))
    (l_law_is_plain : K.lookup f_law_is_plain = some ⟨oc_law_is_plain, od_law_is_plain, .func (PySem.W.fnOf "_law_is_plain" "_law_is_plain" (defArgs st__law_is_plain) (defBody st__law_is_plain) (defScope st__law_is_plain) .none kV_law_is_plain dc_law_is_plain pm_law_is_plain an_law_is_plain cd_law_is_plain ct_law_is_plain), sl_law_is_plain⟩)
    (e_law_is_plain : PySem.W.codeIn K cd_law_is_plain "_law_is_plain" = true)
    (k_law_is_plain : PySem.W.keepIn K (.ref f_law_is_plain) = true)
    (a_law_nested : PySem.W.nsIn K mainGlobals "_law_nested" = some (some (.ref f_law_nested)))
    (l_law_nested : K.lookup f_law_nested = some ⟨oc_law_nested, od_law_nested, .func (PySem.W.fnOf "_law_nested" "_law_nested" (defArgs st__law_nested) (defBody st__law_nested) (defScope st__law_nested) .none kV_law_nested dc_law_nested pm_law_nested an_law_nested cd_law_nested ct_law_nested), sl_law_nested⟩)
    (e_law_nested : PySem.W.codeIn K cd_law_nested "_law_nested" = true)
    (k_law_nested : PySem.W.keepIn K (.ref f_law_nested) = true)
    (a_law_heard : PySem.W.nsIn K mainGlobals "_law_heard" = some (some (.ref f_law_heard)))
    (l_law_heard : K.lookup f_law_heard = some ⟨oc_law_heard, od_law_heard, .func (PySem.W.fnOf "_law_heard" "_law_heard" (defArgs st__law_heard) (defBody st__law_heard) (defScope st__law_heard) .none kV_law_heard dc_law_heard pm_law_heard an_law_heard cd_law_heard ct_law_heard), sl_law_heard⟩)
    (e_law_heard : PySem.W.codeIn K cd_law_heard "_law_heard" = true)
    (k_law_heard : PySem.W.keepIn K (.ref f_law_heard) = true)
    (alaw : PySem.W.nsIn K mainGlobals "law" = some (some (.ref flaw)))
    (llaw : K.lookup flaw = some ⟨oclaw, odlaw, .func (PySem.W.fnOf "law" "law" (defArgs st_law) (defBody st_law) (defScope st_law) .none kVlaw dclaw pmlaw anlaw (.ref tc) ctlaw), sllaw⟩)
    (elaw : PySem.W.codeIn K (.ref tc) "law" = true)
    (klaw : PySem.W.keepIn K (.ref flaw) = true)
    (t1 : K.lookup tc = some ⟨te, td, .fields tv, ts⟩)
    (t2 : tv[11]? = some (.ref tP))
    (t3 : K.lookup tP = none)
    (t4 : PySem.W.codeHdIn K tc tP = true)
    (cDIGITS : PySem.W.nsIn K mainGlobals "DIGITS" = some (some uDIGITS))
    (dDIGITS : atomD uDIGITS = some d_DIGITS)
    (cLETTERS : PySem.W.nsIn K mainGlobals "LETTERS" = some (some uLETTERS))
    (dLETTERS : atomD uLETTERS = some d_LETTERS)
    (cMOST_FIGURES : PySem.W.nsIn K mainGlobals "MOST_FIGURES" = some (some uMOST_FIGURES))
    (dMOST_FIGURES : atomD uMOST_FIGURES = some d_MOST_FIGURES)
    (cMOST_LEVELS : PySem.W.nsIn K mainGlobals "MOST_LEVELS" = some (some uMOST_LEVELS))
    (dMOST_LEVELS : atomD uMOST_LEVELS = some d_MOST_LEVELS)
    (nabs : PySem.W.nsIn K mainGlobals "abs" = some none)
    (nall : PySem.W.nsIn K mainGlobals "all" = some none)
    (nbool : PySem.W.nsIn K mainGlobals "bool" = some none)
    (nint : PySem.W.nsIn K mainGlobals "int" = some none)
    (nisinstance : PySem.W.nsIn K mainGlobals "isinstance" = some none)
    (nlen : PySem.W.nsIn K mainGlobals "len" = some none)
    (nrange : PySem.W.nsIn K mainGlobals "range" = some none)
    (nrepr : PySem.W.nsIn K mainGlobals "repr" = some none)
    (nstr : PySem.W.nsIn K mainGlobals "str" = some none)
    (ntuple : PySem.W.nsIn K mainGlobals "tuple" = some none)
    (nsuper : PySem.W.nsIn K mainGlobals "super" = some none)
    (gBadText : PySem.W.nsIn K mainGlobals "BadText" = some (some (.ref cBadText)))
    (gNothing : PySem.W.nsIn K mainGlobals "Nothing" = some (some (.ref cNothing)))
    (xm : ((List.range 2).all fun c => (List.range 2).all fun d => decide (PySem.W.exmOne K (.ref ((fun c => ([cBadText, cNothing] : List Addr).getD c 0) c)) (.ref ((fun c => ([cBadText, cNothing] : List Addr).getD c 0) d)) = some (decide (c = d)))) = true)
    (opq : PySem.W.nsIn K PySem.cStatics "thirdparty.any" = some none)
    (fiBadText : PySem.W.findIn K (.ref cBadText) "__init__" = some (some (.ref iBadText)))
    (tiBadText : PySem.W.typeIn K (.ref iBadText) = some (.type "function"))
    (liBadText : K.lookup iBadText = some ⟨ocIBadText, odIBadText, .func (PySem.W.ksFn "__init__" "BadText.__init__" (defArgs (inClass (top 3) 0)) (defBody (inClass (top 3) 0)) (defScope (inClass (top 3) 0)) .none kVIBadText dcIBadText pmIBadText anIBadText (.ref cdaBadText) ctIBadText ccBadText), slIBadText⟩)
    (eiBadText : PySem.W.codeIn K (.ref cdaBadText) "BadText.__init__" = true)
    (lcBadText : K.lookup ccBadText = some ⟨clBadText, cldBadText, .cell (some (.ref DBadText)), cslBadText⟩)
    (isBadText : (PySem.W.clsIn K DBadText).isSome = true)
    (ldBadText : K.lookup cdaBadText = some ⟨cclBadText, cddBadText, .fields vcBadText, ccsBadText⟩)
    (v2BadText : vcBadText[2]? = some (.str fileBadText tfBadText))
    (feBadText : ((PySem.Challenge.rw_mostwebs_k10_plain_values_as_texts.prog.main.file : Str) == fileBadText) = true)
    (lsBadText : K.lookup cBadText = some (excClassObj nmBadText qnBadText cBadText NBadText bsBadText bmBadText true snBadText sbBadText abBadText colBadText ddBadText k0BadText k1BadText k2BadText k3BadText k5BadText "ValueError.__new__"))
    (rvBadText : PySem.HandSPX.refsVE bmBadText = true)
    (saBadText : PySem.W.findIn K (.ref cBadText) "__setattr__" = some (some (.builtin "object.__setattr__")))
    (sbBadText_ : PySem.W.subIn K (.ref cBadText) (.type "BaseException") = some true)
    (tbBadText_ : PySem.W.typeIn K (.ref cBadText) = some (.type "type"))
    (kcBadText : PySem.W.keepIn K (.ref cBadText) = true)
    (mrBadText : PySem.W.mroIn K cBadText (.ref DBadText) = some true)
    (suBadText : PySem.W.ks_superIn K cBadText DBadText "__init__" = some (some (.builtin "ValueError.__init__")))
    (svBadText : PySem.W.subIn K (.ref cBadText) (.type "ValueError") = some true)
    (nfBadText_line : PySem.W.findIn K (.ref cBadText) "line" = some none)
    (nfBadText_column : PySem.W.findIn K (.ref cBadText) "column" = some none)
    (xfBadText : L2.xfB K cBadText = true)
    (xNothing : PySem.W.excIn K cNothing ([.type "ValueError", .type "Exception", .type "BaseException", .type "object"]) "ValueError.__new__" = true)
    (kcNothing : PySem.W.keepIn K (.ref cNothing) = true)
    (sbNothing : PySem.W.subIn K (.ref cNothing) (.type "BaseException") = some true)
    (tbNothing : PySem.W.typeIn K (.ref cNothing) = some (.type "type")) :
    LawG PySem.Challenge.rw_mostwebs_k10_plain_values_as_texts w K 69 63 "script" mg fa hp := by
  have efa := hfa.symm.trans (PySem.W.mg_of X G alaw)
  cases efa
  obtain ⟨v, ev⟩ : ∃ v : Vv, v = ⟨fis_number, fis_word, fis_plain, fis_plain_value, fshown, fvalue_text, ffigures_value, frun_value, fValues___init__, fValues_fail, fValues_is_next, fValues_run, fValues_value, fread_value, f_law_bag, f_law_take, f_law_some, f_law_alike, f_law_is_int, f_law_value_text, f_law_is_word, f_law_run_value, f_law_read_value, f_law_value, f_law_is_plain, f_law_nested, f_law_heard, fa, uDIGITS, uLETTERS, uMOST_FIGURES, uMOST_LEVELS, cValues, cBadText, cNothing, iBadText, DBadText⟩ := ⟨_, rfl⟩
  obtain ⟨S, eS⟩ : ∃ S : Se, S = ⟨⟨(fun c => ([cBadText, cNothing] : List Addr).getD c 0), (fun c => ([["line", "column"], []] : List (List Str)).getD c [])⟩, [(tP, ("law.<locals>.<lambda>" : Str))]⟩ := ⟨_, rfl⟩
  have oexBadText : OexC K cBadText := ⟨⟨_, _, _, _, _, _, _, _, _, _, _, _, _, _, _, lsBadText, rvBadText⟩, saBadText, sbBadText_, tbBadText_, kcBadText⟩
  have iniBadText : InitC K cBadText DBadText ["line", "column"] := ⟨oexBadText, mrBadText, suBadText, svBadText, by simp only [List.mem_cons, List.not_mem_nil, or_false, forall_eq_or_imp, forall_eq]; exact ⟨nfBadText_line, nfBadText_column⟩⟩
  have T : TX K mg v S := by
    subst ev; subst eS
    exact ⟨PySem.W.mg_of X G ais_number,
      kis_number,
      PySem.W.mg_of X G ais_word,
      kis_word,
      PySem.W.mg_of X G ais_plain,
      kis_plain,
      PySem.W.mg_of X G ais_plain_value,
      kis_plain_value,
      PySem.W.mg_of X G ashown,
      kshown,
      PySem.W.mg_of X G avalue_text,
      kvalue_text,
      PySem.W.mg_of X G afigures_value,
      kfigures_value,
      PySem.W.mg_of X G arun_value,
      krun_value,
      ⟨aValues___init__, iValues___init__, kValues___init__⟩,
      ⟨aValues_fail, iValues_fail, kValues_fail⟩,
      ⟨aValues_is_next, iValues_is_next, kValues_is_next⟩,
      ⟨aValues_run, iValues_run, kValues_run⟩,
      ⟨aValues_value, iValues_value, kValues_value⟩,
      PySem.W.mg_of X G aread_value,
      kread_value,
      PySem.W.mg_of X G a_law_bag,
      k_law_bag,
      PySem.W.mg_of X G a_law_take,
      k_law_take,
      PySem.W.mg_of X G a_law_some,
      k_law_some,
      PySem.W.mg_of X G a_law_alike,
      k_law_alike,
      PySem.W.mg_of X G a_law_is_int,
      k_law_is_int,
      PySem.W.mg_of X G a_law_value_text,
      k_law_value_text,
      PySem.W.mg_of X G a_law_is_word,
      k_law_is_word,
      PySem.W.mg_of X G a_law_run_value,
      k_law_run_value,
      PySem.W.mg_of X G a_law_read_value,
      k_law_read_value,
      PySem.W.mg_of X G a_law_value,
      k_law_value,
      PySem.W.mg_of X G a_law_is_plain,
      k_law_is_plain,
      PySem.W.mg_of X G a_law_nested,
      k_law_nested,
      PySem.W.mg_of X G a_law_heard,
      k_law_heard,
      PySem.W.mg_of X G alaw,
      klaw,
      PySem.W.mg_of X G cDIGITS,
      dDIGITS,
      PySem.W.mg_of X G cLETTERS,
      dLETTERS,
      PySem.W.mg_of X G cMOST_FIGURES,
      dMOST_FIGURES,
      PySem.W.mg_of X G cMOST_LEVELS,
      dMOST_LEVELS,
      PySem.W.mg_none_of X G nabs,
      PySem.W.mg_none_of X G nall,
      PySem.W.mg_none_of X G nbool,
      PySem.W.mg_none_of X G nint,
      PySem.W.mg_none_of X G nisinstance,
      PySem.W.mg_none_of X G nlen,
      PySem.W.mg_none_of X G nrange,
      PySem.W.mg_none_of X G nrepr,
      PySem.W.mg_none_of X G nstr,
      PySem.W.mg_none_of X G ntuple,
      PySem.W.mg_of X G gValues,
      ⟨pgValues, hdValues, poValues, saValues⟩,
      ⟨mkValues, aValues___init__, iValues___init__, kcValues⟩,
      nfValues_signs,
      nfValues_at,
      PySem.W.mg_of X G gBadText,
      rfl,
      rfl,
      PySem.W.mg_of X G gNothing,
      rfl,
      rfl,
      (fun a ha b hb => of_decide_eq_true (List.all_eq_true.mp (List.all_eq_true.mp xm a (List.mem_range.mpr ha)) b (List.mem_range.mpr hb))),
      xfB_ok xfBadText,
      nfBadText_line,
      nfBadText_column,
      iniBadText,
      fiBadText,
      tiBadText,
      xNothing,
      kcNothing,
      sbNothing,
      tbNothing⟩
  subst ev; subst eS
  have Fis_number := fun_mk (st := st_is_number) lis_number eis_number kis_number
  have Bis_number := Fis_number.binds (ps := ["thing"]) fun _ _ _ _ _ _ us hl => match us, hl with | [_], _ => rfl
  have Fis_word := fun_mk (st := st_is_word) lis_word eis_word kis_word
  have Bis_word := Fis_word.binds (ps := ["thing"]) fun _ _ _ _ _ _ us hl => match us, hl with | [_], _ => rfl
  have Fis_plain := fun_mk (st := st_is_plain) lis_plain eis_plain kis_plain
  have Bis_plain := Fis_plain.binds (ps := ["thing", "deep"]) fun _ _ _ _ _ _ us hl => match us, hl with | [_, _], _ => rfl
  have Fis_plain_value := fun_mk (st := st_is_plain_value) lis_plain_value eis_plain_value kis_plain_value
  have Bis_plain_value := Fis_plain_value.binds (ps := ["thing"]) fun _ _ _ _ _ _ us hl => match us, hl with | [_], _ => rfl
  have Fshown := fun_mk (st := st_shown) lshown eshown kshown
  have Bshown := Fshown.binds (ps := ["value"]) fun _ _ _ _ _ _ us hl => match us, hl with | [_], _ => rfl
  have Fvalue_text := fun_mk (st := st_value_text) lvalue_text evalue_text kvalue_text
  have Bvalue_text := Fvalue_text.binds (ps := ["thing"]) fun _ _ _ _ _ _ us hl => match us, hl with | [_], _ => rfl
  have Ffigures_value := fun_mk (st := st_figures_value) lfigures_value efigures_value kfigures_value
  have Bfigures_value := Ffigures_value.binds (ps := ["run"]) fun _ _ _ _ _ _ us hl => match us, hl with | [_], _ => rfl
  have Frun_value := fun_mk (st := st_run_value) lrun_value erun_value krun_value
  have Brun_value := Frun_value.binds (ps := ["run"]) fun _ _ _ _ _ _ us hl => match us, hl with | [_], _ => rfl
  have FValues___init__ := fun_mk (st := st_Values___init__) lValues___init__ eValues___init__ kValues___init__
  have BValues___init__ := FValues___init__.binds (ps := ["self", "text"]) fun _ _ _ _ _ _ us hl => match us, hl with | [_, _], _ => rfl
  have FValues_fail := fun_mk (st := st_Values_fail) lValues_fail eValues_fail kValues_fail
  have BValues_fail := FValues_fail.binds (ps := ["self"]) fun _ _ _ _ _ _ us hl => match us, hl with | [_], _ => rfl
  have FValues_is_next := fun_mk (st := st_Values_is_next) lValues_is_next eValues_is_next kValues_is_next
  have BValues_is_next := FValues_is_next.binds (ps := ["self", "sign"]) fun _ _ _ _ _ _ us hl => match us, hl with | [_, _], _ => rfl
  have FValues_run := fun_mk (st := st_Values_run) lValues_run eValues_run kValues_run
  have BValues_run := FValues_run.binds (ps := ["self"]) fun _ _ _ _ _ _ us hl => match us, hl with | [_], _ => rfl
  have FValues_value := fun_mk (st := st_Values_value) lValues_value eValues_value kValues_value
  have BValues_value := FValues_value.binds (ps := ["self", "deep"]) fun _ _ _ _ _ _ us hl => match us, hl with | [_, _], _ => rfl
  have Fread_value := fun_mk (st := st_read_value) lread_value eread_value kread_value
  have Bread_value := Fread_value.binds (ps := ["text"]) fun _ _ _ _ _ _ us hl => match us, hl with | [_], _ => rfl
  have F_law_bag := fun_mk (st := st__law_bag) l_law_bag e_law_bag k_law_bag
  have B_law_bag := F_law_bag.binds (ps := ["script"]) fun _ _ _ _ _ _ us hl => match us, hl with | [_], _ => rfl
  have F_law_take := fun_mk (st := st__law_take) l_law_take e_law_take k_law_take
  have B_law_take := F_law_take.binds (ps := ["bag", "many"]) fun _ _ _ _ _ _ us hl => match us, hl with | [_, _], _ => rfl
  have F_law_some := fun_mk (st := st__law_some) l_law_some e_law_some k_law_some
  have B_law_some := F_law_some.binds (ps := ["bag", "things"]) fun _ _ _ _ _ _ us hl => match us, hl with | [_, _], _ => rfl
  have F_law_alike := fun_mk (st := st__law_alike) l_law_alike e_law_alike k_law_alike
  have B_law_alike := F_law_alike.binds (ps := ["found", "due"]) fun _ _ _ _ _ _ us hl => match us, hl with | [_, _], _ => rfl
  have F_law_is_int := fun_mk (st := st__law_is_int) l_law_is_int e_law_is_int k_law_is_int
  have B_law_is_int := F_law_is_int.binds (ps := ["thing"]) fun _ _ _ _ _ _ us hl => match us, hl with | [_], _ => rfl
  have F_law_value_text := fun_mk (st := st__law_value_text) l_law_value_text e_law_value_text k_law_value_text
  have B_law_value_text := F_law_value_text.binds (ps := ["value"]) fun _ _ _ _ _ _ us hl => match us, hl with | [_], _ => rfl
  have F_law_is_word := fun_mk (st := st__law_is_word) l_law_is_word e_law_is_word k_law_is_word
  have B_law_is_word := F_law_is_word.binds (ps := ["thing"]) fun _ _ _ _ _ _ us hl => match us, hl with | [_], _ => rfl
  have F_law_run_value := fun_mk (st := st__law_run_value) l_law_run_value e_law_run_value k_law_run_value
  have B_law_run_value := F_law_run_value.binds (ps := ["run"]) fun _ _ _ _ _ _ us hl => match us, hl with | [_], _ => rfl
  have F_law_read_value := fun_mk (st := st__law_read_value) l_law_read_value e_law_read_value k_law_read_value
  have B_law_read_value := F_law_read_value.binds (ps := ["text"]) fun _ _ _ _ _ _ us hl => match us, hl with | [_], _ => rfl
  have F_law_value := fun_mk (st := st__law_value) l_law_value e_law_value k_law_value
  have B_law_value := F_law_value.binds (ps := ["bag", "deep"]) fun _ _ _ _ _ _ us hl => match us, hl with | [_, _], _ => rfl
  have F_law_is_plain := fun_mk (st := st__law_is_plain) l_law_is_plain e_law_is_plain k_law_is_plain
  have B_law_is_plain := F_law_is_plain.binds (ps := ["thing", "deep"]) fun _ _ _ _ _ _ us hl => match us, hl with | [_, _], _ => rfl
  have F_law_nested := fun_mk (st := st__law_nested) l_law_nested e_law_nested k_law_nested
  have B_law_nested := F_law_nested.binds (ps := ["many"]) fun _ _ _ _ _ _ us hl => match us, hl with | [_], _ => rfl
  have F_law_heard := fun_mk (st := st__law_heard) l_law_heard e_law_heard k_law_heard
  have B_law_heard := F_law_heard.binds (ps := ["act"]) fun _ _ _ _ _ _ us hl => match us, hl with | [_], _ => rfl
  refine ⟨PySem.W.fnOf "law" "law" (defArgs st_law) (defBody st_law) (defScope st_law) .none kVlaw dclaw pmlaw anlaw (.ref tc) ctlaw, [(tc, tP)], ⟨⟨(fun c => ([cBadText, cNothing] : List Addr).getD c 0), (fun c => ([["line", "column"], []] : List (List Str)).getD c [])⟩, [(tP, ("law.<locals>.<lambda>" : Str))]⟩, h_law (⟨fis_number, fis_word, fis_plain, fis_plain_value, fshown, fvalue_text, ffigures_value, frun_value, fValues___init__, fValues_fail, fValues_is_next, fValues_run, fValues_value, fread_value, f_law_bag, f_law_take, f_law_some, f_law_alike, f_law_is_int, f_law_value_text, f_law_is_word, f_law_run_value, f_law_read_value, f_law_value, f_law_is_plain, f_law_nested, f_law_heard, fa, uDIGITS, uLETTERS, uMOST_FIGURES, uMOST_LEVELS, cValues, cBadText, cNothing, iBadText, DBadText⟩ : Vv), fun p hp => ?_, fun p hp => ?_, fun p hp => ?_, fun s u => .of_eq rfl, fun p hp => ?_, fun ns ha hb => hans ns ha hb _, fun base KB GB TBs => ?_⟩
  · rw [List.mem_singleton.mp hp]; exact OT "law" _ hrec hfa tc tP _ _ te td tv ts llaw rfl rfl t1 t2
  · rw [List.mem_singleton.mp hp]; exact t3
  · rw [List.mem_singleton.mp hp]; exact PySem.W.codeHd_of_K X t4
  · rw [List.mem_singleton.mp hp]; exact ⟨_, List.mem_singleton.mpr rfl, rfl⟩
  · have SUBadText : SupK PySem.Challenge.rw_mostwebs_k10_plain_values_as_texts.prog K mg ["self", "line", "column"] "BadText.__init__" (defScope (inClass (top 3) 0)) (defArgs (inClass (top 3) 0)) DBadText cdaBadText ccBadText := ⟨eiBadText, ⟨rfl, rfl, rfl, by decide +kernel, by decide +kernel, by decide +kernel, by decide +kernel, rfl, rfl⟩, ⟨_, _, _, lcBadText⟩, Option.isSome_iff_exists.mp isBadText, ⟨_, _, _, _, _, _, ldBadText, v2BadText, feBadText⟩, by decide +kernel, PySem.W.mg_none_of X G nsuper, opq, ⟨_, rfl, rfl⟩⟩
    have IBadText := fn_init2 (CX := L2.CX PySem.Challenge.rw_mostwebs_k10_plain_values_as_texts.prog w) (w := w) (base := base) (k := 0) SUBadText (f1 := "line") (f2 := "column") liBadText (fun _ => rfl) rfl rfl rfl rfl rfl rfl
    have BIBadText : Binds K _ ["self", "line", "column"] [] := .all (fd := PySem.W.ksFn "__init__" "BadText.__init__" (defArgs (inClass (top 3) 0)) (defBody (inClass (top 3) 0)) (defScope (inClass (top 3) 0)) .none kVIBadText dcIBadText pmIBadText anIBadText (.ref cdaBadText) ctIBadText ccBadText) fun us hl => match us, hl with | [_, _, _], _ => rfl
    have Gis_number := w_is_number (P := PySem.Challenge.rw_mostwebs_k10_plain_values_as_texts.prog) (w := w) (base := base) T   Fis_number
    have Gis_word := w_is_word (P := PySem.Challenge.rw_mostwebs_k10_plain_values_as_texts.prog) (w := w) (base := base) T   Fis_word
    have Gis_plain := w_is_plain (P := PySem.Challenge.rw_mostwebs_k10_plain_values_as_texts.prog) (w := w) (base := base) T Gis_number Bis_number Gis_word Bis_word  Fis_plain Bis_plain 62
    have Gis_plain_value := w_is_plain_value (P := PySem.Challenge.rw_mostwebs_k10_plain_values_as_texts.prog) (w := w) (base := base) T Gis_plain Bis_plain  Fis_plain_value
    have Gshown := w_shown (P := PySem.Challenge.rw_mostwebs_k10_plain_values_as_texts.prog) (w := w) (base := base) T   Fshown Bshown 62
    have Gvalue_text := w_value_text (P := PySem.Challenge.rw_mostwebs_k10_plain_values_as_texts.prog) (w := w) (base := base) T Gis_plain_value Bis_plain_value Gshown Bshown  Fvalue_text
    have Gfigures_value := w_figures_value (P := PySem.Challenge.rw_mostwebs_k10_plain_values_as_texts.prog) (w := w) (base := base) T   Ffigures_value
    have Grun_value := w_run_value (P := PySem.Challenge.rw_mostwebs_k10_plain_values_as_texts.prog) (w := w) (base := base) T Gfigures_value Bfigures_value Gis_word Bis_word  Frun_value
    have GValues___init__ := w_Values___init__ (P := PySem.Challenge.rw_mostwebs_k10_plain_values_as_texts.prog) (w := w) (base := base) T   FValues___init__
    have GValues_fail := w_Values_fail (P := PySem.Challenge.rw_mostwebs_k10_plain_values_as_texts.prog) (w := w) (base := base) T  IBadText BIBadText FValues_fail
    have GValues_is_next := w_Values_is_next (P := PySem.Challenge.rw_mostwebs_k10_plain_values_as_texts.prog) (w := w) (base := base) T   FValues_is_next
    have GValues_run := w_Values_run (P := PySem.Challenge.rw_mostwebs_k10_plain_values_as_texts.prog) (w := w) (base := base) T   FValues_run
    have GValues_value := w_Values_value (P := PySem.Challenge.rw_mostwebs_k10_plain_values_as_texts.prog) (w := w) (base := base) T GValues_fail BValues_fail GValues_is_next BValues_is_next GValues_run BValues_run Grun_value Brun_value  FValues_value BValues_value 62
    have Gread_value := w_read_value (P := PySem.Challenge.rw_mostwebs_k10_plain_values_as_texts.prog) (w := w) (base := base) T GValues___init__ BValues___init__ GValues_fail BValues_fail GValues_value BValues_value  Fread_value
    have G_law_bag := w__law_bag (P := PySem.Challenge.rw_mostwebs_k10_plain_values_as_texts.prog) (w := w) (base := base) T   F_law_bag
    have G_law_take := w__law_take (P := PySem.Challenge.rw_mostwebs_k10_plain_values_as_texts.prog) (w := w) (base := base) T   F_law_take
    have G_law_some := w__law_some (P := PySem.Challenge.rw_mostwebs_k10_plain_values_as_texts.prog) (w := w) (base := base) T G_law_take B_law_take  F_law_some
    have G_law_alike := w__law_alike (P := PySem.Challenge.rw_mostwebs_k10_plain_values_as_texts.prog) (w := w) (base := base) T   F_law_alike
    have G_law_is_int := w__law_is_int (P := PySem.Challenge.rw_mostwebs_k10_plain_values_as_texts.prog) (w := w) (base := base) T   F_law_is_int
    have G_law_value_text := w__law_value_text (P := PySem.Challenge.rw_mostwebs_k10_plain_values_as_texts.prog) (w := w) (base := base) T   F_law_value_text B_law_value_text 62
    have G_law_is_word := w__law_is_word (P := PySem.Challenge.rw_mostwebs_k10_plain_values_as_texts.prog) (w := w) (base := base) T   F_law_is_word
    have G_law_run_value := w__law_run_value (P := PySem.Challenge.rw_mostwebs_k10_plain_values_as_texts.prog) (w := w) (base := base) T G_law_is_word B_law_is_word  F_law_run_value
    have G_law_read_value := w__law_read_value (P := PySem.Challenge.rw_mostwebs_k10_plain_values_as_texts.prog) (w := w) (base := base) T G_law_run_value B_law_run_value  F_law_read_value
    have G_law_value := w__law_value (P := PySem.Challenge.rw_mostwebs_k10_plain_values_as_texts.prog) (w := w) (base := base) T G_law_some B_law_some G_law_take B_law_take  F_law_value B_law_value 5
    have G_law_is_plain := w__law_is_plain (P := PySem.Challenge.rw_mostwebs_k10_plain_values_as_texts.prog) (w := w) (base := base) T G_law_is_int B_law_is_int G_law_is_word B_law_is_word  F_law_is_plain B_law_is_plain 62
    have G_law_nested := w__law_nested (P := PySem.Challenge.rw_mostwebs_k10_plain_values_as_texts.prog) (w := w) (base := base) T   F_law_nested
    exact w_law (P := PySem.Challenge.rw_mostwebs_k10_plain_values_as_texts.prog) (w := w) (base := base) T G_law_alike B_law_alike G_law_bag B_law_bag G_law_is_plain B_law_is_plain G_law_nested B_law_nested G_law_read_value B_law_read_value G_law_some B_law_some G_law_take B_law_take G_law_value B_law_value G_law_value_text B_law_value_text Gis_plain_value Bis_plain_value Gread_value Bread_value Gvalue_text Bvalue_text llaw elaw F_law_heard B_law_heard (TBs _ (List.mem_singleton.mpr rfl)) (List.mem_singleton.mpr rfl) (fun p hp _ => by rw [List.mem_singleton.mp hp])
end
end K10

set_option maxRecDepth 100000
set_option maxHeartbeats 1000000
/-! YA: k10, words, numbers, which values are plain. -/
namespace K10
open PySem MP
variable (v : Vv)
/-! ### words, numbers -/
def wordB : List Nat → Bool
  | [] => false
  | c :: r => cL c && r.all cLG
def isW : D → Bool
  | .str s => wordB s
  | _ => false
def isN (d : D) : Bool := d.isI && !d.isB
/-- signs that are signs, few enough -/
def txOk (s : List Nat) : Prop := s.length ≤ 16777216 ∧ ∀ c ∈ s, c < 1114112
theorem is_number_ok {d : D} (h : d.s1 = true) (st : St) : h_is_number v [d] st = .ok (.bl (isN d)) st := by
  refine run_pure ?_ rfl
  have e1 := isi_int (st := enter st) h
  have e2 := isi_bool (st := enter st) h
  unfold b_is_number isN
  generalize d.isI = a at *
  generalize d.isB = b at *
  cases a <;> simp [gSeq, gRet, fAnd, fIsi, fVar, fNot, e1, e2]
theorem law_is_int_ok {d : D} (h : d.s1 = true) (st : St) : h__law_is_int v [d] st = .ok (.bl (isN d)) st := by
  refine run_pure ?_ rfl
  have e1 := isi_int (st := enter st) h
  have e2 := isi_bool (st := enter st) h
  unfold b__law_is_int isN
  generalize d.isI = a at *
  generalize d.isB = b at *
  cases a <;> simp [gSeq, gRet, fAnd, fIsi, fVar, fNot, e1, e2]
theorem is_word_ok {d : D} (h : d.s1 = true) (hs : ∀ s, d = .str s → txOk s) (st : St) : h_is_word v [d] st = .ok (.bl (isW d)) st := by
  refine run_pure ?_ rfl
  have e1 := isi_str (st := enter st) h
  unfold b_is_word
  cases d with
  | str s =>
    obtain ⟨hl, hc⟩ := hs s rfl
    have e1 : MP.isI (tabT "str") (enter st) (.str s) = some true := e1
    cases s with
    | nil => simp [gSeq, gIf, gRet, gNx, fOrT, fNotT, fB, fIsi, fVar, e1, f2, fC, opEq_str, isW, wordB]
    | cons c r =>
      have e2 : ∀ st : St, opIdx (.str (c :: r)) (.int 0) st = .ok (.str [c]) st := fun st => opIdx_str0 hl
      have e3 : ∀ st : St, opNotIn (.str [c]) d_LETTERS st = .ok (.bl !(cL c)) st := fun st => notInL c st
      have e4 : ∀ st : St, (fLcL (fLc (fIt (fVar 0)) (tgName 1) (fun _ st => .ok true st) (f2 opIn (fVar 1) (f2 opAdd (fC d_LETTERS) (fC d_DIGITS))) [1])) [some (.str (c :: r)), none] st = .ok (.lst ((c :: r).map fun x => .bl (cLG x))) st := fun st => by
        rw [lc_signs (s := c :: r) (fun _ => true) (fun x => .bl (cLG x)) (by simp [fIt, fVar, itemsOf]) (fun x hx => rfl) (fun x hx _ => by
          have a : opAdd d_LETTERS d_DIGITS st = .ok (.str txLG) st := rfl
          simp [f2, fVar, fC, wipeE, a, inLG]) hl]
        rw [List.filter_eq_self.mpr (fun _ _ => rfl)]
      have e5 := fun st : St => all_signs (c :: r) cLG st
      have e6 : (c :: r).all cLG = (cLG c && r.all cLG) := by simp
      have e7 : cL c = true → cLG c = true := fun z => by simp [cLG, z]
      generalize (c :: r).map (fun x => D.bl (cLG x)) = lL at *
      generalize hA : (c :: r).all cLG = bA at *
      simp only [isW, wordB]
      cases h1 : cL c with
      | true =>
        rw [e7 h1] at e6
        simp [gSeq, gIf, gRet, gNx, fOrT, fNotT, fB, fIsi, fVar, e1, f2, fC, opEq_str, e2, e3, h1, fCall, fCons, fNil, e4, e5]
        simpa using e6
      | false => simp [gSeq, gIf, gRet, gNx, fOrT, fNotT, fB, fIsi, fVar, e1, f2, fC, opEq_str, e2, e3, h1]
  | _ =>
    have e1 : MP.isI (tabT "str") (enter st) _ = some false := e1
    first
    | (simp [D.s1] at h; done)
    | simp [gSeq, gIf, gRet, gNx, fOrT, fNotT, fB, fIsi, fVar, e1, fC, isW]
theorem law_is_word_ok {d : D} (h : d.s1 = true) (hs : ∀ s, d = .str s → txOk s) (st : St) : h__law_is_word v [d] st = .ok (.bl (isW d)) st := by
  refine run_pure ?_ rfl
  have e1 := isi_str (st := enter st) h
  unfold b__law_is_word
  cases d with
  | str s =>
    obtain ⟨hl, hc⟩ := hs s rfl
    have e1 : MP.isI (tabT "str") (enter st) (.str s) = some true := e1
    cases s with
    | nil => simp [gSeq, gIf, gRet, gNx, fOrT, fNotT, fB, fIsi, fVar, e1, f2, fC, opEq_str, isW, wordB]
    | cons c r =>
      have e2 : ∀ st : St, opIdx (.str (c :: r)) (.int 0) st = .ok (.str [c]) st := fun st => opIdx_str0 hl
      have e4 : ∀ st : St, (fLcL (fLc (fIt (fVar 0)) (tgName 1) (fNotT (fOrT (fB (fChain opLe opLe (fC (.str [97])) (fVar 1) (fC (.str [122])))) (fB (fChain opLe opLe (fC (.str [48])) (fVar 1) (fC (.str [57])))))) (fVar 1) [1])) [some (.str (c :: r)), none] st = .ok (.lst (((c :: r).filter fun x => !cLG x).map fun x => .str [x])) st := fun st => by
        rw [lc_signs (s := c :: r) (fun x => !cLG x) (fun x => .str [x]) (by simp [fIt, fVar, itemsOf]) (fun x hx => by
          simp [fNotT, fOrT, fB, fChain, fC, fVar, wipeE, le_sign, cLG, cL, cG]
          by_cases a : 97 ≤ x <;> by_cases b : x ≤ 122 <;> by_cases c : 48 ≤ x <;> by_cases d : x ≤ 57 <;> simp [a, b, c, d]) (fun x hx _ => by simp [fVar, wipeE]) hl]
      have e5 := fun st : St => none_signs (c :: r) cLG st hc
      have e6 : (c :: r).all cLG = (cLG c && r.all cLG) := by simp
      have e7 : cL c = true → cLG c = true := fun z => by simp [cLG, z]
      have e8 : ∀ st : St, fChain opLe opLe (fC (.str [97])) (f2 opIdx (fVar 0) (fC (.int 0))) (fC (.str [122])) [some (.str (c :: r)), none] st = .ok (.bl (cL c)) st := fun st => by
        simp [fChain, fC, f2, fVar, e2, le_sign, cL]
        by_cases a : 97 ≤ c <;> simp [a]
      generalize ((c :: r).filter fun x => !cLG x).map (fun x => D.str [x]) = lL at *
      generalize hA : (c :: r).all cLG = bA at *
      simp only [isW, wordB]
      generalize hch : fChain opLe opLe (fC (.str [97])) (f2 opIdx (fVar 0) (fC (.int 0))) (fC (.str [122])) = ch at *
      cases h1 : cL c with
      | true =>
        rw [e7 h1] at e6
        simp [gSeq, gIf, gRet, gNx, fOrT, fNotT, fB, fIsi, fVar, e1, f2, fC, opEq_str, e8, h1, e4, fLst, fNil, e5]
        simpa using e6
      | false => simp [gSeq, gIf, gRet, gNx, fOrT, fNotT, fB, fIsi, fVar, e1, f2, fC, opEq_str, e8, h1]
  | _ =>
    have e1 : MP.isI (tabT "str") (enter st) _ = some false := e1
    first
    | (simp [D.s1] at h; done)
    | simp [gSeq, gIf, gRet, gNx, fOrT, fNotT, fB, fIsi, fVar, e1, fC, isW]
end K10

set_option maxRecDepth 100000
set_option maxHeartbeats 2000000
/-! YB: k10, plain values, their texts. -/
namespace K10
open PySem MP
variable (v : Vv)
mutual
/-- told whole, not too great -/
def okB : D → Bool
  | .non => true | .bl _ => true | .int _ => true | .emp => true
  | .str s => decide (s.length ≤ 16777216) && s.all fun c => decide (c < 1114112)
  | .tup ds => decide (ds.length ≤ 16777216) && oksB ds
  | .lst _ => true
  | _ => false
def oksB : List D → Bool
  | [] => true
  | d :: ds => okB d && oksB ds
end
theorem oks_mem {ds : List D} (h : oksB ds = true) : ∀ d ∈ ds, okB d = true := by
  induction ds with
  | nil => intro d hd; cases hd
  | cons x xs ih =>
    simp only [oksB, Bool.and_eq_true] at h
    intro d hd
    rcases List.mem_cons.mp hd with rfl | hd
    · exact h.1
    · exact ih h.2 d hd
theorem oks_of {ds : List D} (h : ∀ d ∈ ds, okB d = true) : oksB ds = true := by
  induction ds with
  | nil => rfl
  | cons x xs ih => simp [oksB, h x List.mem_cons_self, ih fun d hd => h d (List.mem_cons_of_mem _ hd)]
theorem ok_s1 {d : D} (h : okB d = true) : d.s1 = true := by
  cases d <;> first | rfl | simp [okB] at h
theorem ok_tx {d : D} (h : okB d = true) : ∀ s, d = .str s → txOk s := fun s e => by
  subst e
  simpa [okB, txOk] using h
mutual
def plainB : D → Nat → Bool
  | .non, _ => true
  | .str s, _ => wordB s
  | .int i, _ => decide (i.natAbs < 10 ^ 40)
  | .tup ds, k + 1 => plainsB ds k
  | _, _ => false
def plainsB : List D → Nat → Bool
  | [], _ => true
  | d :: ds, k => plainB d k && plainsB ds k
end
theorem plains_all (ds : List D) (k : Nat) : plainsB ds k = ds.all fun d => plainB d k := by
  induction ds with
  | nil => rfl
  | cons x xs ih => simp [plainsB, ih]
theorem is_plain_ok : ∀ (n : Nat) (d : D) (k : Nat) (st : St), okB d = true → k < n → h_is_plain v n [d, .int (k : Int)] st = .ok (.bl (plainB d k)) st
  | 0, _, _, _, _, h => by omega
  | n + 1, d, k, st, hd, hk => by
    refine run_pure ?_ rfl
    have hs := ok_s1 hd
    have e1 := fun st : St => is_word_ok v hs (ok_tx hd) st
    have e2 := fun st : St => is_number_ok v hs st
    have e3 := isi_tuple (st := enter st) hs
    unfold b_is_plain
    have hP : cPow 10 40 = true := by decide
    cases d with
    | non => simp [gSeq, gIf, gRet, gNx, fOrT, fB, f2, fVar, fC, opIs, isNon, plainB]
    | bl b =>
      have e1 : ∀ st : St, h_is_word v [.bl b] st = .ok (.bl false) st := e1
      have e2 : ∀ st : St, h_is_number v [.bl b] st = .ok (.bl false) st := e2
      have e3 : MP.isI (tabT "tuple") (enter st) (.bl b) = some false := e3
      simp [gSeq, gIf, gRet, gNx, fOrT, fNotT, fB, f2, fVar, fC, opIs, isNon, plainB, fDef, fCons, fNil, e1, e2, fIsi, e3]
    | int i =>
      have e1 : ∀ st : St, h_is_word v [.int i] st = .ok (.bl false) st := e1
      have e2 : ∀ st : St, h_is_number v [.int i] st = .ok (.bl true) st := e2
      have e4 : decide ((i.natAbs : Int) < 10 ^ 40) = decide (i.natAbs < 10 ^ 40) := by
        rw [Bool.eq_iff_iff]; simp only [decide_eq_true_eq]; omega
      simp only [plainB, ← e4]
      simp [gSeq, gIf, gRet, gNx, fOrT, fB, f2, fVar, fC, opIs, isNon, fDef, fCons, fNil, e1, e2, fCall, cAbs, opI, hP, opOrd]
    | str s =>
      have e1 : ∀ st : St, h_is_word v [.str s] st = .ok (.bl (wordB s)) st := e1
      have e2 : ∀ st : St, h_is_number v [.str s] st = .ok (.bl false) st := e2
      have e3 : MP.isI (tabT "tuple") (enter st) (.str s) = some false := e3
      cases hw : wordB s <;> simp [gSeq, gIf, gRet, gNx, fOrT, fNotT, fB, f2, fVar, fC, opIs, isNon, plainB, fDef, fCons, fNil, e1, e2, fIsi, e3, hw]
    | tup ds =>
      have e1 : ∀ st : St, h_is_word v [.tup ds] st = .ok (.bl false) st := e1
      have e2 : ∀ st : St, h_is_number v [.tup ds] st = .ok (.bl false) st := e2
      have e3 : MP.isI (tabT "tuple") (enter st) (.tup ds) = some true := e3
      have hd' : ds.length ≤ 16777216 ∧ oksB ds = true := by simpa [okB] using hd
      cases k with
      | zero =>
        have e5 : ∀ st : St, opEq (.int ((0 : Nat) : Int)) (.int 0) st = .ok (.bl true) st := fun st => rfl
        simp only [plainB]
        generalize ((0 : Nat) : Int) = z at *
        simp [gSeq, gIf, gRet, gNx, fOrT, fNotT, fB, f2, fVar, fC, opIs, isNon, fDef, fCons, fNil, e1, e2, fIsi, e3, e5]
      | succ k =>
        have e5 : ∀ st : St, opEq (.int ((k + 1 : Nat) : Int)) (.int 0) st = .ok (.bl false) st := fun st => by rw [opEq_int]; simp; omega
        have e6 : ∀ st : St, opSub (.int ((k + 1 : Nat) : Int)) (.int 1) st = .ok (.int (k : Int)) st := fun st => by simp [opI]
        have e6' : ∀ st : St, opSub (.int ((k : Int) + 1)) (.int 1) st = .ok (.int (k : Int)) st := fun st => by simp [opI]
        have lc : (fLcL (fLc (fIt (fVar 0)) (tgName 2) (fun _ st => .ok true st) (fDef 2 (h_is_plain v n) (fCons (fVar 2) (fCons (f2 opSub (fVar 1) (fC (.int 1))) (fNil)))) [2])) [some (.tup ds), some (.int ((k + 1 : Nat) : Int)), none] (enter st) = .ok (.lst (ds.map fun d => .bl (plainB d k))) (enter st) :=
          lc_all (fun d => .bl (plainB d k)) (by simp [fIt, fVar, itemsOf]) (fun d hd2 => by
            have ih := is_plain_ok n d k (enter st) (oks_mem hd'.2 d hd2) (by omega)
            simp [fDef, fCons, fVar, wipeE, fNil, f2, fC, e6', ih]) hd'.1
        have al := all_items ds (fun d => plainB d k) (enter st)
        simp only [plainB, plains_all]
        generalize ((k + 1 : Nat) : Int) = z at *
        generalize ds.map (fun d => D.bl (plainB d k)) = lL at *
        generalize fLcL (fLc (fIt (fVar 0)) (tgName 2) (fun _ st => .ok true st) (fDef 2 (h_is_plain v n) (fCons (fVar 2) (fCons (f2 opSub (fVar 1) (fC (.int 1))) (fNil)))) [2]) = gg at *
        simp [gSeq, gIf, gRet, gNx, fOrT, fNotT, fB, f2, fVar, fC, opIs, isNon, fDef, fCons, fNil, e1, e2, fIsi, e3, e5, fCall, lc, al]
    | lst ds =>
      have e1 : ∀ st : St, h_is_word v [.lst ds] st = .ok (.bl false) st := e1
      have e2 : ∀ st : St, h_is_number v [.lst ds] st = .ok (.bl false) st := e2
      have e3 : MP.isI (tabT "tuple") (enter st) (.lst ds) = some false := e3
      simp [gSeq, gIf, gRet, gNx, fOrT, fNotT, fB, f2, fVar, fC, opIs, isNon, plainB, fDef, fCons, fNil, e1, e2, fIsi, e3]
    | emp =>
      have e1 : ∀ st : St, h_is_word v [.emp] st = .ok (.bl false) st := e1
      have e2 : ∀ st : St, h_is_number v [.emp] st = .ok (.bl false) st := e2
      have e3 : MP.isI (tabT "tuple") (enter st) .emp = some false := e3
      simp [gSeq, gIf, gRet, gNx, fOrT, fNotT, fB, f2, fVar, fC, opIs, isNon, plainB, fDef, fCons, fNil, e1, e2, fIsi, e3]
    | _ => simp [okB] at hd
end K10

set_option maxRecDepth 100000
set_option maxHeartbeats 2000000
/-! YC: k10, plain values by the law, texts of values. -/
namespace K10
open PySem MP
variable (v : Vv)
theorem filter_none {ds : List MP.D} (p : MP.D → Bool) : decide ((ds.filter fun d => !p d).map (fun d => d) = []) = ds.all p := by
  induction ds with
  | nil => rfl
  | cons x q ih =>
    by_cases hx : p x = true
    · simpa [hx] using ih
    · simp [hx]
theorem law_is_plain_ok : ∀ (n : Nat) (d : MP.D) (j : Nat) (st : St), okB d = true → j ≤ 60 → 60 - j < n → h__law_is_plain v n [d, .int (j : Int)] st = .ok (.bl (plainB d (60 - j))) st
  | 0, _, _, _, _, _, h => by omega
  | n + 1, d, j, st, hd, hj, hn => by
    refine run_pure ?_ rfl
    have hs := ok_s1 hd
    have e1 := fun st : St => law_is_word_ok v hs (ok_tx hd) st
    have e2 := fun st : St => law_is_int_ok v hs st
    have e3 := isi_tuple (st := enter st) hs
    unfold b__law_is_plain
    have hP : cPow 10 40 = true := by decide
    cases d with
    | non =>
      have e3 : MP.isI (tabT "tuple") (enter st) .non = some false := e3
      simp [gSeq, gIf, gRet, gNx, fB, f2, fVar, fC, opIs, isNon, plainB, fIsi, e3, fOr]
    | bl b =>
      have e1 : ∀ st : St, h__law_is_word v [.bl b] st = .ok (.bl false) st := e1
      have e2 : ∀ st : St, h__law_is_int v [.bl b] st = .ok (.bl false) st := e2
      have e3 : MP.isI (tabT "tuple") (enter st) (.bl b) = some false := e3
      simp [gSeq, gIf, gRet, gNx, fB, f2, fVar, fC, opIs, isNon, plainB, fDef, fCons, fNil, e1, e2, fIsi, e3, fOr, fAnd]
    | int i =>
      have e1 : ∀ st : St, h__law_is_word v [.int i] st = .ok (.bl false) st := e1
      have e2 : ∀ st : St, h__law_is_int v [.int i] st = .ok (.bl true) st := e2
      have e3 : MP.isI (tabT "tuple") (enter st) (.int i) = some false := e3
      have e4 : decide ((i.natAbs : Int) < 10 ^ 40) = decide (i.natAbs < 10 ^ 40) := by
        rw [Bool.eq_iff_iff]; simp only [decide_eq_true_eq]; omega
      simp only [plainB, ← e4]
      simp [gSeq, gIf, gRet, gNx, fB, f2, fVar, fC, opIs, isNon, fDef, fCons, fNil, e1, e2, fCall, cAbs, opI, hP, opOrd, fIsi, e3, fOr, fAnd]
    | str s =>
      have e1 : ∀ st : St, h__law_is_word v [.str s] st = .ok (.bl (wordB s)) st := e1
      have e2 : ∀ st : St, h__law_is_int v [.str s] st = .ok (.bl false) st := e2
      have e3 : MP.isI (tabT "tuple") (enter st) (.str s) = some false := e3
      cases hw : wordB s <;> simp [gSeq, gIf, gRet, gNx, fB, f2, fVar, fC, opIs, isNon, plainB, fDef, fCons, fNil, e1, e2, fIsi, e3, hw, fOr, fAnd]
    | tup ds =>
      have e3 : MP.isI (tabT "tuple") (enter st) (.tup ds) = some true := e3
      have hd' : ds.length ≤ 16777216 ∧ oksB ds = true := by simpa [okB] using hd
      by_cases h60 : j = 60
      · subst h60
        have e5 : ∀ st : St, opLt (.int ((60 : Nat) : Int)) (.int 60) st = .ok (.bl false) st := fun st => rfl
        simp only [Nat.sub_self, plainB]
        generalize ((60 : Nat) : Int) = z at *
        simp [gSeq, gIf, gRet, gNx, fB, f2, fVar, fC, fIsi, e3, fAnd, e5]
      · have e5 : ∀ st : St, opLt (.int (j : Int)) (.int 60) st = .ok (.bl true) st := fun st => by simp [opOrd]; omega
        have e6 : ∀ st : St, opAdd (.int (j : Int)) (.int 1) st = .ok (.int ((j + 1 : Nat) : Int)) st := fun st => by simp [opAdd]
        obtain ⟨k, hk⟩ : ∃ k, 60 - j = k + 1 := ⟨60 - j - 1, by omega⟩
        have lc : (fLcL (fLc (fIt (fVar 0)) (tgName 2) (fNotT (fB (fDef 2 (h__law_is_plain v n) (fCons (fVar 2) (fCons (f2 opAdd (fVar 1) (fC (.int 1))) (fNil)))))) (fVar 2) [2])) [some (.tup ds), some (.int (j : Int)), none] (enter st) = .ok (.lst ((ds.filter fun d => !(plainB d k)).map fun d => d)) (enter st) :=
          lc_filter (fun d => !(plainB d k)) (fun d => d) (by simp [fIt, fVar, itemsOf]) (fun d hd2 => by
            have ih := law_is_plain_ok n d (j + 1) (enter st) (oks_mem hd'.2 d hd2) (by omega) (by omega)
            rw [show 60 - (j + 1) = k from by omega] at ih
            generalize ((j + 1 : Nat) : Int) = z at *
            simp [fNotT, fB, fDef, fCons, fVar, wipeE, fNil, f2, fC, e6, ih]) (fun d hd2 _ => by simp [fVar, wipeE]) hd'.1
        have al : opEq (.lst ((ds.filter fun d => !(plainB d k)).map fun d => d)) (.lst []) (enter st) = .ok (.bl (ds.all fun d => plainB d k)) (enter st) := by
          rw [opEq_nil_lst, filter_none]
        rw [hk]
        simp only [plainB, plains_all]
        generalize (ds.filter fun d => !(plainB d k)).map (fun d => d) = lL at *
        generalize fLcL (fLc (fIt (fVar 0)) (tgName 2) (fNotT (fB (fDef 2 (h__law_is_plain v n) (fCons (fVar 2) (fCons (f2 opAdd (fVar 1) (fC (.int 1))) (fNil)))))) (fVar 2) [2]) = gg at *
        simp [gSeq, gIf, gRet, gNx, fB, f2, fVar, fC, fIsi, e3, fAnd, e5, lc, fLst, fNil, al]
    | lst ds =>
      have e1 : ∀ st : St, h__law_is_word v [.lst ds] st = .ok (.bl false) st := e1
      have e2 : ∀ st : St, h__law_is_int v [.lst ds] st = .ok (.bl false) st := e2
      have e3 : MP.isI (tabT "tuple") (enter st) (.lst ds) = some false := e3
      simp [gSeq, gIf, gRet, gNx, fB, f2, fVar, fC, opIs, isNon, plainB, fDef, fCons, fNil, e1, e2, fIsi, e3, fOr, fAnd]
    | emp =>
      have e1 : ∀ st : St, h__law_is_word v [.emp] st = .ok (.bl false) st := e1
      have e2 : ∀ st : St, h__law_is_int v [.emp] st = .ok (.bl false) st := e2
      have e3 : MP.isI (tabT "tuple") (enter st) .emp = some false := e3
      simp [gSeq, gIf, gRet, gNx, fB, f2, fVar, fC, opIs, isNon, plainB, fDef, fCons, fNil, e1, e2, fIsi, e3, fOr, fAnd]
    | _ => simp [okB] at hd
theorem is_plain_value_ok {d : MP.D} (hd : okB d = true) (st : St) : h_is_plain_value v [d] st = .ok (.bl (plainB d 60)) st := by
  refine run_pure ?_ rfl
  have z : ∀ st : St, h_is_plain v 62 [d, .int 60] st = .ok (.bl (plainB d 60)) st := fun st => is_plain_ok v 62 d 60 st hd (by decide)
  simp [b_is_plain_value, gSeq, gRet, fDef, fCons, fVar, fC, fNil, z]
/-! ### texts -/
mutual
def showT : MP.D → List Nat
  | .non => [45]
  | .str s => s
  | .int i => intS i
  | .tup ds => 40 :: (TL.joinL [32] (shows ds) ++ [41])
  | _ => []
def shows : List MP.D → List (List Nat)
  | [] => []
  | d :: ds => showT d :: shows ds
end
theorem shows_map (ds : List MP.D) : shows ds = ds.map showT := by
  induction ds with
  | nil => rfl
  | cons x xs ih => simp [shows, ih]
theorem sum_mem {L : List (List Nat)} {w : List Nat} (h : w ∈ L) : w.length ≤ (L.map (·.length)).sum := by
  induction L with
  | nil => cases h
  | cons x L ih =>
    simp only [List.map_cons, List.sum_cons]
    rcases List.mem_cons.mp h with rfl | h
    · omega
    · have := ih h; omega
/-- how long the parts are -/
theorem tup_len {ds : List MP.D} {N : Nat} (h : (showT (.tup ds)).length ≤ N) : (((shows ds).map (·.length)).sum + (shows ds).length ≤ N) ∧ (TL.joinL [32] (shows ds)).length + 2 ≤ N ∧ ∀ d ∈ ds, (showT d).length ≤ N := by
  simp only [showT, List.length_cons, List.length_append, List.length_nil] at h
  have m : ∀ d ∈ ds, (showT d).length ≤ ((shows ds).map (·.length)).sum := fun d hd => sum_mem (by rw [shows_map]; exact List.mem_map_of_mem hd)
  cases hs : shows ds with
  | nil =>
    rw [hs] at h m
    simp only [TL.joinL, List.length_nil] at h
    exact ⟨by simp, by simp [TL.joinL]; omega, fun d hd => by have := m d hd; simp only [List.map_nil, List.sum_nil] at this; omega⟩
  | cons x xs =>
    have j := joinL_len 32 (shows ds) (by rw [hs]; exact List.cons_ne_nil _ _)
    rw [hs] at h j m
    refine ⟨by omega, by omega, fun d hd => ?_⟩
    have := m d hd
    simp only [List.length_cons] at j
    omega
theorem log40 {i : Int} (h : i.natAbs < 10 ^ 40) : i.natAbs.log2 < 1920 := by
  by_cases z : i.natAbs = 0
  · rw [z]; decide
  · have : i.natAbs.log2 < 140 := (Nat.log2_lt z).mpr (Nat.lt_trans h (by decide))
    omega
theorem shown_ok : ∀ (n : Nat) (d : MP.D) (k : Nat) (st : St), plainB d k = true → k < n → okB d = true → (showT d).length ≤ 1000000 → h_shown v n [d] st = .ok (.str (showT d)) st
  | 0, _, _, _, _, h, _, _ => by omega
  | n + 1, d, k, st, hp, hk, hd, hl => by
    refine run_pure ?_ rfl
    have hs := ok_s1 hd
    have e3 := isi_tuple (st := enter st) hs
    unfold b_shown
    cases d with
    | non => simp [gSeq, gIf, gRet, gNx, fB, f2, fVar, fC, opIs, isNon, showT]
    | str s =>
      have e3 : MP.isI (tabT "tuple") (enter st) (.str s) = some false := e3
      have hl' : s.length ≤ 16777216 := by simp only [showT] at hl; omega
      simp [gSeq, gIf, gRet, gNx, fB, f2, fVar, fC, opIs, isNon, showT, fNotT, fIsi, e3, fFmt, fmtD, hl']
    | int i =>
      have e3 : MP.isI (tabT "tuple") (enter st) (.int i) = some false := e3
      simp only [plainB, decide_eq_true_eq] at hp
      simp [gSeq, gIf, gRet, gNx, fB, f2, fVar, fC, opIs, isNon, showT, fNotT, fIsi, e3, fFmt, fmtD, log40 hp]
    | tup ds =>
      have e3 : MP.isI (tabT "tuple") (enter st) (.tup ds) = some true := e3
      have hd' : ds.length ≤ 16777216 ∧ oksB ds = true := by simpa [okB] using hd
      obtain ⟨l1, l2, l3⟩ := tup_len hl
      cases k with
      | zero => simp [plainB] at hp
      | succ k =>
        simp only [plainB, plains_all, List.all_eq_true] at hp
        have lc : (fLcL (fLc (fIt (fVar 0)) (tgName 2) (fun _ st => .ok true st) (fDef 1 (h_shown v n) (fCons (fVar 2) (fNil))) [2])) [some (.tup ds), none, none] (enter st) = .ok (.lst (ds.map fun d => .str (showT d))) (enter st) :=
          lc_all (fun d => .str (showT d)) (by simp [fIt, fVar, itemsOf]) (fun d hd2 => by
            have ih := shown_ok n d k (enter st) (hp d hd2) (by omega) (oks_mem hd'.2 d hd2) (l3 d hd2)
            simp [fDef, fCons, fVar, wipeE, fNil, ih]) hd'.1
        have jn : mJoin (.str [32]) [.lst (ds.map fun d => .str (showT d))] (enter st) = .ok (.str (TL.joinL [32] (shows ds))) (enter st) := by
          have : ds.map (fun d => MP.D.str (showT d)) = (shows ds).map .str := by rw [shows_map, List.map_map]; rfl
          rw [this]
          exact mJoin_ok (by simp only [List.length_cons, List.length_nil]; omega)
        simp only [showT]
        generalize ds.map (fun d => MP.D.str (showT d)) = lL at *
        generalize hJ : TL.joinL [32] (shows ds) = J at *
        generalize fLcL (fLc (fIt (fVar 0)) (tgName 2) (fun _ st => .ok true st) (fDef 1 (h_shown v n) (fCons (fVar 2) (fNil))) [2]) = gg at *
        simp [gSeq, gIf, gRet, gNx, fB, f2, fVar, fC, opIs, isNon, fNotT, fIsi, e3, gSet, fMtS, isS, fCons, fNil, lc, jn, fJs, fFmt, fmtD, show J.length ≤ 16777216 by omega, show 1 + J.length ≤ 16777216 by omega, show 1 + J.length ≤ 16777215 by omega, show J.length + 1 ≤ 16777215 by omega, show J.length + 1 + 1 ≤ 16777216 by omega]
    | _ => simp [plainB] at hp
theorem law_value_text_ok : ∀ (n : Nat) (d : MP.D) (k : Nat) (st : St), plainB d k = true → k < n → okB d = true → (showT d).length ≤ 1000000 → h__law_value_text v n [d] st = .ok (.str (showT d)) st
  | 0, _, _, _, _, h, _, _ => by omega
  | n + 1, d, k, st, hp, hk, hd, hl => by
    refine run_pure ?_ rfl
    have hs := ok_s1 hd
    have e3 := isi_tuple (st := enter st) hs
    unfold b__law_value_text
    cases d with
    | non => simp [gSeq, gIf, gRet, gNx, fB, f2, fVar, fC, opIs, isNon, showT]
    | str s =>
      have e3 : MP.isI (tabT "tuple") (enter st) (.str s) = some false := e3
      simp [gSeq, gIf, gRet, gNx, fB, f2, fVar, fC, opIs, isNon, showT, fIsi, e3, fCall, fCons, fNil, cStr]
    | int i =>
      have e3 : MP.isI (tabT "tuple") (enter st) (.int i) = some false := e3
      simp only [plainB, decide_eq_true_eq] at hp
      simp [gSeq, gIf, gRet, gNx, fB, f2, fVar, fC, opIs, isNon, showT, fIsi, e3, fCall, fCons, fNil, cStr, log40 hp]
    | tup ds =>
      have e3 : MP.isI (tabT "tuple") (enter st) (.tup ds) = some true := e3
      have hd' : ds.length ≤ 16777216 ∧ oksB ds = true := by simpa [okB] using hd
      obtain ⟨l1, l2, l3⟩ := tup_len hl
      cases k with
      | zero => simp [plainB] at hp
      | succ k =>
        simp only [plainB, plains_all, List.all_eq_true] at hp
        have lc : (fLcL (fLc (fIt (fVar 0)) (tgName 1) (fun _ st => .ok true st) (fDef 1 (h__law_value_text v n) (fCons (fVar 1) (fNil))) [1])) [some (.tup ds), none] (enter st) = .ok (.lst (ds.map fun d => .str (showT d))) (enter st) :=
          lc_all (fun d => .str (showT d)) (by simp [fIt, fVar, itemsOf]) (fun d hd2 => by
            have ih := law_value_text_ok n d k (enter st) (hp d hd2) (by omega) (oks_mem hd'.2 d hd2) (l3 d hd2)
            simp [fDef, fCons, fVar, wipeE, fNil, ih]) hd'.1
        have jn : mJoin (.str [32]) [.lst (ds.map fun d => .str (showT d))] (enter st) = .ok (.str (TL.joinL [32] (shows ds))) (enter st) := by
          have : ds.map (fun d => MP.D.str (showT d)) = (shows ds).map .str := by rw [shows_map, List.map_map]; rfl
          rw [this]
          exact mJoin_ok (by simp only [List.length_cons, List.length_nil]; omega)
        simp only [showT]
        generalize ds.map (fun d => MP.D.str (showT d)) = lL at *
        generalize hJ : TL.joinL [32] (shows ds) = J at *
        generalize fLcL (fLc (fIt (fVar 0)) (tgName 1) (fun _ st => .ok true st) (fDef 1 (h__law_value_text v n) (fCons (fVar 1) (fNil))) [1]) = gg at *
        simp [gSeq, gIf, gRet, gNx, fB, f2, fVar, fC, opIs, isNon, fIsi, e3, fMtS, isS, fCons, fNil, lc, jn, opAdd, show 1 + J.length ≤ 16777216 by omega, show 1 + J.length ≤ 16777215 by omega, show J.length + 1 + 1 ≤ 16777216 by omega, show J.length + 1 ≤ 16777216 by omega, show J.length ≤ 16777215 by omega, show J.length + 1 ≤ 16777215 by omega]
    | _ => simp [plainB] at hp
theorem value_text_ok {d : MP.D} (hp : plainB d 60 = true) (hd : okB d = true) (hl : (showT d).length ≤ 1000000) (st : St) : h_value_text v [d] st = .ok (.str (showT d)) st := by
  refine run_pure ?_ rfl
  have a : ∀ st : St, h_is_plain_value v [d] st = .ok (.bl true) st := fun st => by rw [is_plain_value_ok v hd, hp]
  have b : ∀ st : St, h_shown v 62 [d] st = .ok (.str (showT d)) st := fun st => shown_ok v 62 d 60 st hp (by decide) hd hl
  simp [b_value_text, gSeq, gIf, gRet, gNx, fNotT, fB, fDef, fCons, fVar, fNil, a, b]
theorem run_exc {n : Nat} {b : Env → St → SO} {ds : List MP.D} {st : St} {c : Nat} {fs : List MP.D} (h : b (ds.map some ++ List.replicate (n - ds.length) none) (enter st) = .exc c fs (enter st)) (hd : D.nrs fs = true) : runF false n b ds st = .exc c fs st := by
  unfold runF
  rw [h]
  unfold ended leaveX enter
  simp [nrs_los _ _ hd]
theorem value_text_no {d : MP.D} (hp : plainB d 60 = false) (hd : okB d = true) (st : St) : h_value_text v [d] st = .exc 1 [] st := by
  refine run_exc ?_ rfl
  have a : ∀ st : St, h_is_plain_value v [d] st = .ok (.bl false) st := fun st => by rw [is_plain_value_ok v hd, hp]
  simp [b_value_text, gSeq, gIf, gRaise0, gNx, fNotT, fB, fDef, fCons, fVar, fNil, a]
end K10

set_option maxRecDepth 100000
set_option maxHeartbeats 2000000
/-! YD: k10, values of runs of signs. -/
namespace K10
open PySem MP
variable (v : Vv)
def numP (below : Bool) (p : List Nat) : Option MP.D :=
  if p = [] then none else if 40 < p.length then none else if p.all cG = false then none else if p.head? = some 48 ∧ (below = true ∨ p ≠ [48]) then none else some (.int (if below = true then 0 - (NumText.digitsVal p : Int) else (NumText.digitsVal p : Int)))
def numV : List Nat → Option MP.D
  | [] => none
  | c :: r => if c = 45 then numP true r else numP false (c :: r)
def runV (r : List Nat) : Option MP.D := if r = [45] then some .non else if wordB r = true then some (.str r) else numV r
def resF : Option MP.D → MP.D
  | none => .non
  | some x => .tup [x]
def resL : Option MP.D → MP.D
  | none => .tup []
  | some x => .tup [x]
theorem numP_int {b : Bool} {p : List Nat} {x : MP.D} (h : numP b p = some x) : ∃ i, x = .int i := by
  unfold numP at h
  split at h
  · cases h
  · split at h
    · cases h
    · split at h
      · cases h
      · split at h
        · cases h
        · cases h; exact ⟨_, rfl⟩
theorem numV_int {r : List Nat} {x : MP.D} (h : numV r = some x) : ∃ i, x = .int i := by
  cases r with
  | nil => cases h
  | cons c r =>
    simp only [numV] at h
    by_cases hc : c = 45
    · rw [if_pos hc] at h; exact numP_int h
    · rw [if_neg hc] at h; exact numP_int h
theorem intOf_ok {r : List Nat} (h : r.all cG = true) (h1 : r ≠ []) (h2 : r.length ≤ 640) (st : St) : cInt [.str r] st = .ok (.int (NumText.digitsVal r : Int)) st := by
  have z : intOf r = some (NumText.digitsVal r : Int) := by
    unfold intOf
    refine PySem.intText_digits (x := ⟨r.toArray⟩) ?_ (by simpa using h1) (by simp [Str.length]; omega)
    intro c hc
    have := List.all_eq_true.mp h c (by simpa using hc)
    simpa [cG] using this
  simp [cInt, z, h2]
theorem intOf_neg {r : List Nat} (h : r.all cG = true) (h1 : r ≠ []) (h2 : r.length ≤ 600) (st : St) : cInt [.str (45 :: r)] st = .ok (.int (0 - (NumText.digitsVal r : Int))) st := by
  have z : intOf (45 :: r) = some (0 - (NumText.digitsVal r : Int)) := by
    unfold intOf
    rw [PySem.intText_neg (x := ⟨(45 :: r).toArray⟩) (cs := r) (by simp) (fun c hc => by
      have := List.all_eq_true.mp h c hc
      simpa [cG] using this) h1 (by simp [Str.length]; omega)]
    simp
  have : (45 :: r).length ≤ 640 := by simp only [List.length_cons]; omega
  simp [cInt, z]; omega
theorem take1 {c : Nat} {r : List Nat} {st : St} (hl : (c :: r).length ≤ 16777216) : opSlc (.str (c :: r)) none (some 1) st = .ok (.str [c]) st := by
  have : cut (c :: r) none (some 1) = [c] := by
    unfold cut
    rw [show (1 : Int) = ((1 : Nat) : Int) from rfl, sIx_some, sIx_none]
    simp
  simp only [opSlc, hl, if_true, this]
theorem drop1 {c : Nat} {r : List Nat} {st : St} (hl : (c :: r).length ≤ 16777216) : opSlc (.str (c :: r)) (some 1) none st = .ok (.str r) st := by
  have : cut (c :: r) (some 1) none = r := by
    unfold cut
    rw [show (1 : Int) = ((1 : Nat) : Int) from rfl, sIx_some, sIx_none]
    simp
  simp only [opSlc, hl, if_true, this]
theorem figures_value_ok {r : List Nat} (hx : txOk r) (st : St) : h_figures_value v [.str r] st = .ok (resF (numV r)) st := by
  obtain ⟨hl, hc⟩ := hx
  refine run_pure ?_ (by
    cases hn : numV r with
    | none => rfl
    | some x => obtain ⟨i, rfl⟩ := numV_int hn; rfl)
  unfold b_figures_value
  -- behind the first two statements
  have tail : ∀ (b : Bool) (p : List Nat), p.length ≤ 16777216 → (gSeq (gIf (fOrT (fB (f2 opEq (fVar 2) (fC (.str [])))) (fOrT (fB (f2 opGt (fCall cLen (fCons (fVar 2) (fNil))) (fC d_MOST_FIGURES))) (fNotT (fB (fCall (cBls fun bs => bs.all id) (fCons (fLcL (fLc (fIt (fVar 2)) (tgName 3) (fun _ st => .ok true st) (f2 opIn (fVar 3) (fC d_DIGITS)) [3])) (fNil))))))) (gSeq (gRet (fC .non)) (gNx)) (gNx)) (gSeq (gIf (fAndT (fB (f2 opEq (f2 opIdx (fVar 2) (fC (.int 0))) (fC (.str [48])))) (fOrT (fB (fVar 1)) (fB (f2 opNe (fVar 2) (fC (.str [48])))))) (gSeq (gRet (fC .non)) (gNx)) (gNx)) (gSeq (gRet (fTup (fCons (fIf (fB (fVar 1)) (f2 opSub (fC (.int 0)) (fCall cInt (fCons (fVar 2) (fNil)))) (fCall cInt (fCons (fVar 2) (fNil)))) (fNil)))) (gNx)))) [some (.str r), some (.bl b), some (.str p), none] (enter st) = .ret (resF (numP b p)) (enter st) := fun b p hp => by
    cases p with
    | nil => simp [gSeq, gIf, gRet, gNx, fOrT, fB, f2, fVar, fC, opEq_str, numP, resF]
    | cons c q =>
      have e1 : ∀ st : St, cLen [.str (c :: q)] st = .ok (.int ((c :: q).length : Nat)) st := fun st => cLen_str hp
      have e2 : ∀ st : St, opIdx (.str (c :: q)) (.int 0) st = .ok (.str [c]) st := fun st => opIdx_str0 hp
      have e3 : ∀ st : St, opGt (.int ((c :: q).length : Nat)) d_MOST_FIGURES st = .ok (.bl (decide (40 < (c :: q).length))) st := fun st => by
        simp only [opOrd]; congr 2; rw [Bool.eq_iff_iff]; simp only [decide_eq_true_eq]; omega
      have e4 : ∀ st : St, (fLcL (fLc (fIt (fVar 2)) (tgName 3) (fun _ st => .ok true st) (f2 opIn (fVar 3) (fC d_DIGITS)) [3])) [some (.str r), some (.bl b), some (.str (c :: q)), none] st = .ok (.lst ((c :: q).map fun x => .bl (cG x))) st := fun st => by
        rw [lc_signs (s := c :: q) (fun _ => true) (fun x => .bl (cG x)) (by simp [fIt, fVar, itemsOf]) (fun x hx => rfl) (fun x hx _ => by
          have a : ∀ st : St, opIn (.str [x]) d_DIGITS st = .ok (.bl (cG x)) st := fun st => inG x st
          simp [f2, fVar, fC, wipeE, a]) hp]
        rw [List.filter_eq_self.mpr (fun _ _ => rfl)]
      have e5 := fun st : St => all_signs (c :: q) cG st
      have e6 : (c :: q).length ≤ 640 → (c :: q).all cG = true → ∀ st : St, cInt [.str (c :: q)] st = .ok (.int (NumText.digitsVal (c :: q) : Int)) st := fun h1 h2 st => intOf_ok h2 (List.cons_ne_nil _ _) h1 st
      have hh : ((c :: q).head? = some 48) = ([c] = [48]) := by simp
      have hlen : (c :: q).length = q.length + 1 := rfl
      unfold numP
      rw [if_neg (List.cons_ne_nil _ _)]
      simp only [hh]
      have eq1 : ∀ st : St, opEq (.str (c :: q)) (.str []) st = .ok (.bl false) st := fun st => by rw [opEq_str]; simp
      have eq2 : ∀ st : St, opEq (.str [c]) (.str [48]) st = .ok (.bl (decide ([c] = [48]))) st := fun st => opEq_str
      have eq3 : ∀ st : St, opNe (.str (c :: q)) (.str [48]) st = .ok (.bl !(decide (c :: q = [48]))) st := fun st => opNe_str
      generalize (c :: q).map (fun x => MP.D.bl (cG x)) = lL at *
      generalize hA : (c :: q).all cG = bA at *
      generalize c :: q = p at *
      generalize [c] = w at *
      by_cases h1 : 40 < p.length
      · rw [if_pos h1]
        simp [gSeq, gIf, gRet, gNx, fOrT, fB, f2, fVar, fC, eq1, fCall, fCons, fNil, e1, e3, h1, resF]
      · rw [if_neg h1]
        cases bA with
        | false => simp [gSeq, gIf, gRet, gNx, fOrT, fNotT, fB, f2, fVar, fC, eq1, fCall, fCons, fNil, e1, e3, h1, e4, e5, resF]
        | true =>
          have e6 := e6 (by omega) rfl
          by_cases h2 : w = [48]
          · cases b with
            | true => simp [gSeq, gIf, gRet, gNx, fOrT, fAndT, fNotT, fB, f2, fVar, fC, eq1, eq2, opEq_str, fCall, fCons, fNil, e1, e2, e3, h1, e4, e5, h2, resF]
            | false =>
              by_cases h3 : p = [48]
              · subst h3
                have e3' : ∀ st : St, opGt (.int 1) d_MOST_FIGURES st = .ok (.bl false) st := fun st => rfl
                simp [e3', gSeq, gIf, gRet, gNx, fOrT, fAndT, fNotT, fB, f2, fVar, fC, eq1, eq2, eq3, opEq_str, opNe_str, fCall, fCons, fNil, e1, e2, e3, h1, e4, e5, h2, resF, fIf, fTup, e6]
              · simp [gSeq, gIf, gRet, gNx, fOrT, fAndT, fNotT, fB, f2, fVar, fC, eq1, eq2, eq3, opEq_str, opNe_str, fCall, fCons, fNil, e1, e2, e3, h1, e4, e5, h2, h3, resF]
          · cases b with
            | true => simp [gSeq, gIf, gRet, gNx, fOrT, fAndT, fNotT, fB, f2, fVar, fC, eq1, eq2, opEq_str, fCall, fCons, fNil, e1, e2, e3, h1, e4, e5, h2, resF, fIf, fTup, e6, opI]
            | false => simp [gSeq, gIf, gRet, gNx, fOrT, fAndT, fNotT, fB, f2, fVar, fC, eq1, eq2, opEq_str, fCall, fCons, fNil, e1, e2, e3, h1, e4, e5, h2, resF, fIf, fTup, e6]
  generalize (gSeq (gIf (fOrT (fB (f2 opEq (fVar 2) (fC (.str [])))) (fOrT (fB (f2 opGt (fCall cLen (fCons (fVar 2) (fNil))) (fC d_MOST_FIGURES))) (fNotT (fB (fCall (cBls fun bs => bs.all id) (fCons (fLcL (fLc (fIt (fVar 2)) (tgName 3) (fun _ st => .ok true st) (f2 opIn (fVar 3) (fC d_DIGITS)) [3])) (fNil))))))) (gSeq (gRet (fC .non)) (gNx)) (gNx)) (gSeq (gIf (fAndT (fB (f2 opEq (f2 opIdx (fVar 2) (fC (.int 0))) (fC (.str [48])))) (fOrT (fB (fVar 1)) (fB (f2 opNe (fVar 2) (fC (.str [48])))))) (gSeq (gRet (fC .non)) (gNx)) (gNx)) (gSeq (gRet (fTup (fCons (fIf (fB (fVar 1)) (f2 opSub (fC (.int 0)) (fCall cInt (fCons (fVar 2) (fNil)))) (fCall cInt (fCons (fVar 2) (fNil)))) (fNil)))) (gNx)))) = gg at *
  cases r with
  | nil =>
    have a : ∀ st : St, opSlc (.str []) none (some 1) st = .ok (.str []) st := fun st => rfl
    have z := tail false [] (by decide)
    simp only [numP, if_true] at z
    simp [gSeq, gSet, f2, fSlc, fVar, fNoP, fPart, fC, a, opEq_str, fIf, fB, z, numV]
  | cons c q =>
    have a : ∀ st : St, opSlc (.str (c :: q)) none (some 1) st = .ok (.str [c]) st := fun st => take1 hl
    have a2 : ∀ st : St, opSlc (.str (c :: q)) (some 1) none st = .ok (.str q) st := fun st => drop1 hl
    by_cases h : c = 45
    · have z := tail true q (by simp only [List.length_cons] at hl; omega)
      subst h
      simp [gSeq, gSet, f2, fSlc, fVar, fNoP, fPart, fC, a, a2, opEq_str, fIf, fB, z, numV]
    · have z := tail false (c :: q) hl
      simp [gSeq, gSet, f2, fSlc, fVar, fNoP, fPart, fC, a, opEq_str, fIf, fB, h, z, numV]
theorem run_value_ok {r : List Nat} (hx : txOk r) (st : St) : h_run_value v [.str r] st = .ok (resF (runV r)) st := by
  refine run_pure ?_ (by
    unfold runV
    split
    · rfl
    · split
      · rfl
      · cases hn : numV r with
        | none => rfl
        | some x => obtain ⟨i, rfl⟩ := numV_int hn; rfl)
  have e1 : ∀ st : St, h_is_word v [.str r] st = .ok (.bl (wordB r)) st := fun st => is_word_ok v rfl (fun s e => by cases e; exact hx) st
  have e2 := fun st : St => figures_value_ok v hx st
  unfold b_run_value runV
  by_cases h : r = [45]
  · simp [gSeq, gIf, gRet, gNx, fB, f2, fVar, fC, opEq_str, h, fTup, fCons, fNil, resF]
  · cases hw : wordB r <;> simp [gSeq, gIf, gRet, gNx, fB, f2, fVar, fC, opEq_str, h, fTup, fCons, fNil, resF, fIf, fDef, e1, hw, e2]
end K10

set_option maxRecDepth 100000
set_option maxHeartbeats 2000000
/-! YE: k10, the law's values of runs; the reader's little methods. -/
namespace K10
open PySem MP
variable (v : Vv)
theorem ne_of_eq {x y : MP.D} {st : St} {b : Bool} (h : opEq x y st = .ok (.bl b) st) : opNe x y st = .ok (.bl !b) st := by
  unfold opEq at h
  unfold opNe
  cases e : eqD st x y with
  | none => rw [e] at h; cases h
  | some c => rw [e] at h; cases h; rfl
theorem law_run_value_ok {r : List Nat} (hx : txOk r) (st : St) : h__law_run_value v [.str r] st = .ok (resL (runV r)) st := by
  obtain ⟨hl, hc⟩ := id hx
  refine run_pure ?_ (by
    unfold runV
    split
    · rfl
    · split
      · rfl
      · cases hn : numV r with
        | none => rfl
        | some x => obtain ⟨i, rfl⟩ := numV_int hn; rfl)
  have ew : ∀ st : St, h__law_is_word v [.str r] st = .ok (.bl (wordB r)) st := fun st => law_is_word_ok v rfl (fun s e => by cases e; exact hx) st
  unfold b__law_run_value runV
  -- the last two statements
  have tail : ∀ (b : Bool) (c' : Nat) (q' p : List Nat), r = c' :: q' → (b = true ↔ c' = 45) → (b = true → p = q') → (b = false → p = r) → (gSeq (gIf (fOrT (fB (f2 opEq (fVar 1) (fC (.str [])))) (fOrT (fB (f2 opGt (fCall cLen (fCons (fVar 1) (fNil))) (fC (.int 40)))) (fOrT (fB (f2 opNe (fLcL (fLc (fIt (fVar 1)) (tgName 2) (fNotT (fB (fChain opLe opLe (fC (.str [48])) (fVar 2) (fC (.str [57]))))) (fVar 2) [2])) (fLst (fNil)))) (fAndT (fB (f2 opEq (f2 opIdx (fVar 1) (fC (.int 0))) (fC (.str [48])))) (fOrT (fB (f2 opGt (fCall cLen (fCons (fVar 1) (fNil))) (fC (.int 1)))) (fB (f2 opEq (f2 opIdx (fVar 0) (fC (.int 0))) (fC (.str [45]))))))))) (gSeq (gRet (fTup (fNil))) (gNx)) (gNx)) (gSeq (gRet (fTup (fCons (fCall cInt (fCons (fVar 0) (fNil))) (fNil)))) (gNx))) [some (.str r), some (.str p), none] (enter st) = .ret (resL (numP b p)) (enter st) := fun b c' q' p hr hb hp1 hp2 => by
    have hpl : p.length ≤ 16777216 := by
      cases b with
      | true => rw [hp1 rfl]; rw [hr] at hl; simp only [List.length_cons] at hl; omega
      | false => rw [hp2 rfl]; exact hl
    have hpc : ∀ c ∈ p, c < 1114112 := fun c hcp => by
      cases b with
      | true => rw [hp1 rfl] at hcp; exact hc c (by rw [hr]; exact List.mem_cons_of_mem _ hcp)
      | false => rw [hp2 rfl] at hcp; exact hc c hcp
    have i0 : ∀ st : St, opIdx (.str r) (.int 0) st = .ok (.str [c']) st := fun st => by rw [hr]; exact opIdx_str0 (by rw [← hr]; exact hl)
    have q0 : ∀ st : St, opEq (.str [c']) (.str [45]) st = .ok (.bl b) st := fun st => by
      rw [opEq_str]; congr 2; rw [Bool.eq_iff_iff, hb]; simp
    cases p with
    | nil => simp [gSeq, gIf, gRet, gNx, fOrT, fB, f2, fVar, fC, opEq_str, numP, resL, fTup, fNil]
    | cons c q =>
      have e1 : ∀ st : St, cLen [.str (c :: q)] st = .ok (.int ((c :: q).length : Nat)) st := fun st => cLen_str hpl
      have e2 : ∀ st : St, opIdx (.str (c :: q)) (.int 0) st = .ok (.str [c]) st := fun st => opIdx_str0 hpl
      have e3 : ∀ st : St, opGt (.int ((c :: q).length : Nat)) (.int 40) st = .ok (.bl (decide (40 < (c :: q).length))) st := fun st => by
        simp only [opOrd]; congr 2; rw [Bool.eq_iff_iff]; simp only [decide_eq_true_eq]; omega
      have e3' : ∀ st : St, opGt (.int ((c :: q).length : Nat)) (.int 1) st = .ok (.bl (decide (1 < (c :: q).length))) st := fun st => by
        simp only [opOrd]; congr 2; rw [Bool.eq_iff_iff]; simp only [decide_eq_true_eq]; omega
      have e4 : ∀ st : St, (fLcL (fLc (fIt (fVar 1)) (tgName 2) (fNotT (fB (fChain opLe opLe (fC (.str [48])) (fVar 2) (fC (.str [57]))))) (fVar 2) [2])) [some (.str r), some (.str (c :: q)), none] st = .ok (.lst (((c :: q).filter fun x => !cG x).map fun x => .str [x])) st := fun st => by
        rw [lc_signs (s := c :: q) (fun x => !cG x) (fun x => .str [x]) (by simp [fIt, fVar, itemsOf]) (fun x hx => by
          simp [fNotT, fB, fChain, fC, fVar, wipeE, le_sign, cG]
          by_cases c : 48 ≤ x <;> by_cases d : x ≤ 57 <;> simp [c, d]) (fun x hx _ => by simp [fVar, wipeE]) hpl]
      have e5 : ∀ st : St, opNe (.lst (((c :: q).filter fun x => !cG x).map fun x => .str [x])) (.lst []) st = .ok (.bl !((c :: q).all cG)) st := fun st => ne_of_eq (none_signs (c :: q) cG st hpc)
      have e6 : (c :: q).length ≤ 600 → (c :: q).all cG = true → ∀ st : St, cInt [.str r] st = .ok (.int (if b = true then 0 - (NumText.digitsVal (c :: q) : Int) else (NumText.digitsVal (c :: q) : Int))) st := fun h1 h2 st => by
        cases b with
        | true => rw [hr, hb.mp rfl, ← hp1 rfl]; exact intOf_neg h2 (List.cons_ne_nil _ _) h1 st
        | false => rw [← hp2 rfl]; exact intOf_ok h2 (List.cons_ne_nil _ _) (by omega) st
      have hh : ((c :: q).head? = some 48) = ([c] = [48]) := by simp
      have hq48 : [c] = [48] → ((c :: q) ≠ [48] ↔ 1 < (c :: q).length) := fun h => by
        simp only [List.cons.injEq, and_true] at h
        subst h
        cases q <;> simp
      unfold numP
      rw [if_neg (List.cons_ne_nil _ _)]
      simp only [hh]
      have eq1 : ∀ st : St, opEq (.str (c :: q)) (.str []) st = .ok (.bl false) st := fun st => by rw [opEq_str]; simp
      have eq2 : ∀ st : St, opEq (.str [c]) (.str [48]) st = .ok (.bl (decide ([c] = [48]))) st := fun st => opEq_str
      generalize ((c :: q).filter fun x => !cG x).map (fun x => MP.D.str [x]) = lL at *
      generalize hA : (c :: q).all cG = bA at *
      generalize NumText.digitsVal (c :: q) = dv at *
      generalize c :: q = p at *
      generalize [c] = w at *
      generalize [c'] = w' at *
      generalize (if b = true then 0 - (dv : Int) else (dv : Int)) = val at *
      by_cases h1 : 40 < p.length
      · rw [if_pos h1]
        simp [gSeq, gIf, gRet, gNx, fOrT, fB, f2, fVar, fC, eq1, fCall, fCons, fNil, e1, e3, h1, resL, fTup]
      · rw [if_neg h1]
        cases bA with
        | false => simp [gSeq, gIf, gRet, gNx, fOrT, fNotT, fB, f2, fVar, fC, eq1, fCall, fCons, fNil, e1, e3, h1, e4, fLst, e5, resL, fTup]
        | true =>
          have e6 := e6 (by omega) rfl
          by_cases h2 : w = [48]
          · cases b with
            | true => by_cases h3 : 1 < p.length <;> simp [gSeq, gIf, gRet, gNx, fOrT, fAndT, fNotT, fB, f2, fVar, fC, eq1, eq2, opEq_str, fCall, fCons, fNil, e1, e2, e3, e3', h1, e4, fLst, e5, h2, h3, i0, q0, resL, fTup]
            | false =>
              by_cases h3 : 1 < p.length
              · have h4 := (hq48 h2).mpr h3
                simp [gSeq, gIf, gRet, gNx, fOrT, fAndT, fNotT, fB, f2, fVar, fC, eq1, eq2, opEq_str, fCall, fCons, fNil, e1, e2, e3, e3', h1, e4, fLst, e5, h2, h3, h4, i0, q0, resL, fTup]
              · have h4 : p = [48] := Classical.byContradiction fun z => h3 ((hq48 h2).mp z)
                simp [gSeq, gIf, gRet, gNx, fOrT, fAndT, fNotT, fB, f2, fVar, fC, eq1, eq2, opEq_str, fCall, fCons, fNil, e1, e2, e3, e3', h1, e4, fLst, e5, h2, h3, i0, q0, resL, fTup, e6]
                rw [if_pos h4]
          · simp [gSeq, gIf, gRet, gNx, fOrT, fAndT, fNotT, fB, f2, fVar, fC, eq1, eq2, opEq_str, fCall, fCons, fNil, e1, e2, e3, h1, e4, fLst, e5, h2, resL, fTup, e6]
  have tnil : (gSeq (gIf (fOrT (fB (f2 opEq (fVar 1) (fC (.str [])))) (fOrT (fB (f2 opGt (fCall cLen (fCons (fVar 1) (fNil))) (fC (.int 40)))) (fOrT (fB (f2 opNe (fLcL (fLc (fIt (fVar 1)) (tgName 2) (fNotT (fB (fChain opLe opLe (fC (.str [48])) (fVar 2) (fC (.str [57]))))) (fVar 2) [2])) (fLst (fNil)))) (fAndT (fB (f2 opEq (f2 opIdx (fVar 1) (fC (.int 0))) (fC (.str [48])))) (fOrT (fB (f2 opGt (fCall cLen (fCons (fVar 1) (fNil))) (fC (.int 1)))) (fB (f2 opEq (f2 opIdx (fVar 0) (fC (.int 0))) (fC (.str [45]))))))))) (gSeq (gRet (fTup (fNil))) (gNx)) (gNx)) (gSeq (gRet (fTup (fCons (fCall cInt (fCons (fVar 0) (fNil))) (fNil)))) (gNx))) [some (.str r), some (.str []), none] (enter st) = .ret (.tup []) (enter st) := by
    simp [gSeq, gIf, gRet, gNx, fOrT, fB, f2, fVar, fC, opEq_str, fTup, fNil]
  generalize (gSeq (gIf (fOrT (fB (f2 opEq (fVar 1) (fC (.str [])))) (fOrT (fB (f2 opGt (fCall cLen (fCons (fVar 1) (fNil))) (fC (.int 40)))) (fOrT (fB (f2 opNe (fLcL (fLc (fIt (fVar 1)) (tgName 2) (fNotT (fB (fChain opLe opLe (fC (.str [48])) (fVar 2) (fC (.str [57]))))) (fVar 2) [2])) (fLst (fNil)))) (fAndT (fB (f2 opEq (f2 opIdx (fVar 1) (fC (.int 0))) (fC (.str [48])))) (fOrT (fB (f2 opGt (fCall cLen (fCons (fVar 1) (fNil))) (fC (.int 1)))) (fB (f2 opEq (f2 opIdx (fVar 0) (fC (.int 0))) (fC (.str [45]))))))))) (gSeq (gRet (fTup (fNil))) (gNx)) (gNx)) (gSeq (gRet (fTup (fCons (fCall cInt (fCons (fVar 0) (fNil))) (fNil)))) (gNx))) = gg at *
  by_cases h : r = [45]
  · simp [gSeq, gIf, gRet, gNx, fB, f2, fVar, fC, opEq_str, h, fTup, fCons, fNil, resL]
  · cases hw : wordB r with
    | true => simp [gSeq, gIf, gRet, gNx, fB, f2, fVar, fC, opEq_str, h, fTup, fCons, fNil, resL, fDef, ew, hw]
    | false =>
      rw [if_neg h]
      simp only [Bool.false_eq_true, if_false]
      cases r with
      | nil =>
        have a : ∀ st : St, opSlc (.str []) none (some 1) st = .ok (.str []) st := fun st => rfl
        simp [gSeq, gIf, gRet, gNx, fB, f2, fVar, fC, opEq_str, fCons, fNil, fDef, ew, hw, gSet, fIf, fSlc, fNoP, fPart, a, tnil, numV, resL]
      | cons c q =>
        have a : ∀ st : St, opSlc (.str (c :: q)) none (some 1) st = .ok (.str [c]) st := fun st => take1 hl
        have a2 : ∀ st : St, opSlc (.str (c :: q)) (some 1) none st = .ok (.str q) st := fun st => drop1 hl
        by_cases h45 : c = 45
        · have z := tail true c q q rfl (by simp [h45]) (fun _ => rfl) (fun z => by cases z)
          subst h45
          simp [gSeq, gIf, gRet, gNx, fB, f2, fVar, fC, opEq_str, h, fCons, fNil, fDef, ew, hw, gSet, fIf, fSlc, fNoP, fPart, a, a2, z, numV]
        · have z := tail false c q (c :: q) rfl (by simp [h45]) (fun z => by cases z) (fun _ => rfl)
          simp [gSeq, gIf, gRet, gNx, fB, f2, fVar, fC, opEq_str, h, fCons, fNil, fDef, ew, hw, gSet, fIf, fSlc, fNoP, fPart, a, h45, z, numV]
end K10

set_option maxRecDepth 100000
set_option maxHeartbeats 2000000
/-! YF: k10, the reader's object and its little methods. -/
namespace K10
open PySem MP
variable (v : Vv)
theorem put_ins {st : St} {i c : Nat} {C : Addr} {ns : List Str} {ds : List MP.D} (h : D.nrs ds = true) : st.put i (.ins c C ns ds) = { objs := st.objs.set i (.ins c C ns ds), fls := st.fls } := by
  unfold St.put
  congr 1
  conv => rhs; rw [← List.map_id st.fls]
  refine List.map_congr_left fun p hp => ?_
  simp [O.lo, nrs_los p.1 ds h]
def obj (t : List Nat) (a : Nat) : O := .ins 0 v.c_Values ["signs", "at"] [.str t, .int (a : Int)]
section
variable {st : St} {i : Nat} {t : List Nat} {a : Nat}
theorem fld_signs (h : st.objs[i]? = some (obj v t a)) : fldOf (okC 0 v.c_Values) "signs" 0 st (.ref i) = some (.str t) := by
  simp [fldOf, h, obj, okC]
theorem fld_at (h : st.objs[i]? = some (obj v t a)) : fldOf (okC 0 v.c_Values) "at" 1 st (.ref i) = some (.int (a : Int)) := by
  simp [fldOf, h, obj, okC]
theorem put_at (h : st.objs[i]? = some (obj v t a)) (b : Nat) : fldPut (okC 0 v.c_Values) "at" 1 (.ref i) (.int (b : Int)) st = some ⟨st.objs.set i (obj v t b), st.fls⟩ := by
  have e := put_ins (st := st) (i := i) (c := 0) (C := v.c_Values) (ns := ["signs", "at"]) (ds := [.str t, .int (b : Int)]) rfl
  simp only [fldPut, h, obj, okC, decide_true, Bool.and_self, true_and, List.length_cons, List.length_nil, List.getElem?_cons_succ, List.getElem?_cons_zero, if_true, show (0 + 1 + 1 < 1000) from by decide, List.set_cons_succ, List.set_cons_zero, e]
theorem ok_is_next (h : st.objs[i]? = some (obj v t a)) : insOk (okC 0 v.c_Values) "is_next" st (.ref i) = true := by
  have : (["signs", "at"] : List Str).contains "is_next" = false := by decide +kernel
  simp only [insOk, h, obj, okC, decide_true, Bool.and_self, this, Bool.not_false]
theorem ok_run (h : st.objs[i]? = some (obj v t a)) : insOk (okC 0 v.c_Values) "run" st (.ref i) = true := by
  have : (["signs", "at"] : List Str).contains "run" = false := by decide +kernel
  simp only [insOk, h, obj, okC, decide_true, Bool.and_self, this, Bool.not_false]
theorem ok_fail (h : st.objs[i]? = some (obj v t a)) : insOk (okC 0 v.c_Values) "fail" st (.ref i) = true := by
  have : (["signs", "at"] : List Str).contains "fail" = false := by decide +kernel
  simp only [insOk, h, obj, okC, decide_true, Bool.and_self, this, Bool.not_false]
theorem ok_value (h : st.objs[i]? = some (obj v t a)) : insOk (okC 0 v.c_Values) "value" st (.ref i) = true := by
  have : (["signs", "at"] : List Str).contains "value" = false := by decide +kernel
  simp only [insOk, h, obj, okC, decide_true, Bool.and_self, this, Bool.not_false]
theorem cut_one (ha : a ≤ t.length) : cut t (some (a : Int)) (some ((a : Int) + 1)) = (t.drop a).take 1 := by
  unfold cut
  rw [show (a : Int) + 1 = ((a + 1 : Nat) : Int) from rfl, sIx_some, sIx_some]
  rw [Nat.min_eq_left ha]
  rcases Nat.lt_or_ge a t.length with h | h
  · rw [Nat.min_eq_left (by omega), Nat.add_sub_cancel_left]
  · have : a = t.length := by omega
    subst this
    simp
theorem is_next_ok (h : st.objs[i]? = some (obj v t a)) (ha : a ≤ t.length) (ht : t.length ≤ 900000) (c : Nat) : h_Values_is_next v [.ref i, .str [c]] st = .ok (.bl (decide ((t.drop a).take 1 = [c]))) st := by
  refine run_pure ?_ rfl
  have h' : (enter st).objs[i]? = some (obj v t a) := h
  have e1 := fld_signs v h'
  have e2 := fld_at v h'
  have e3 : opSlc (.str t) (some (a : Int)) (some ((a : Int) + 1)) (enter st) = .ok (.str ((t.drop a).take 1)) (enter st) := by
    simp only [opSlc, show t.length ≤ 16777216 by omega, if_true, cut_one ha]
  simp [b_Values_is_next, gSeq, gRet, f2, fSlc, fFld, fVar, e1, fPart, e2, fC, opAdd, e3, opEq_str]
def nS (c : Nat) : Bool := !(decide (c ∈ ([32, 40, 41] : List Nat)))
def cR : Env → St → Out Bool := fAndT (fB (f2 opLt (fVar 1) (fCall cLen (fCons (fFld (okC 0 v.c_Values) "signs" 0 (fVar 0)) (fNil))))) (fB (f2 opNotIn (f2 opIdx (fFld (okC 0 v.c_Values) "signs" 0 (fVar 0)) (fVar 1)) (fC (.str [32, 40, 41]))))
def uR : Env → St → SO := gSeq (gSet 1 (f2 opAdd (fVar 1) (fC (.int 1)))) (gNx)
theorem run_loop (h : st.objs[i]? = some (obj v t a)) (ht : t.length ≤ 900000) : ∀ (n e : Nat), t.length - e < n →
    gWh (cR v) uR n [some (.ref i), some (.int (e : Int))] st = .nx [some (.ref i), some (.int ((e + ((t.drop e).takeWhile nS).length : Nat) : Int))] st := by
  intro n
  induction n with
  | zero => intro e h; omega
  | succ n ih =>
    intro e hn
    have e1 := fld_signs v h
    unfold gWh
    by_cases hl : e < t.length
    · have c1 : cR v [some (.ref i), some (.int (e : Int))] st = .ok (nS t[e]) st := by
        have a1 := opIdx_str (st := st) (show t.length ≤ 16777216 by omega) hl
        have a2 : ∀ x, opNotIn (.str [x]) (.str [32, 40, 41]) st = .ok (.bl (nS x)) st := fun x => opNotIn_sign
        have a3 := cLen_str (st := st) (show t.length ≤ 16777216 by omega)
        have a4 : opLt (.int (e : Int)) (.int (t.length : Nat)) st = .ok (.bl true) st := by simp [opOrd]; omega
        simp [cR, fAndT, fB, f2, fVar, fCall, fCons, fNil, fFld, e1, a3, a4, a1, fC, a2]
      have u1 : uR [some (.ref i), some (.int (e : Int))] st = .nx [some (.ref i), some (.int ((e + 1 : Nat) : Int))] st := by
        simp [uR, gSeq, gSet, f2, fVar, fC, opAdd, gNx]
      have ed : t.drop e = t[e] :: t.drop (e + 1) := List.drop_eq_getElem_cons hl
      rw [c1, Out.toS_ok]
      cases hc : nS t[e] with
      | true =>
        simp only [if_true]
        rw [u1]
        simp only
        rw [ih (e + 1) (by omega), ed, List.takeWhile_cons, hc]
        simp only [if_true, List.length_cons]
        rw [show e + 1 + (List.takeWhile nS (List.drop (e + 1) t)).length = e + ((List.takeWhile nS (List.drop (e + 1) t)).length + 1) from by omega]
      | false =>
        rw [ed, List.takeWhile_cons, hc]
        simp
    · have c1 : cR v [some (.ref i), some (.int (e : Int))] st = .ok false st := by
        have a3 := cLen_str (st := st) (show t.length ≤ 16777216 by omega)
        have a4 : opLt (.int (e : Int)) (.int (t.length : Nat)) st = .ok (.bl false) st := by simp [opOrd]; omega
        simp [cR, fAndT, fB, f2, fVar, fCall, fCons, fNil, fFld, e1, a3, a4]
      rw [c1, List.drop_eq_nil_of_le (by omega)]
      simp
theorem run_ok (h : st.objs[i]? = some (obj v t a)) (ha : a ≤ t.length) (ht : t.length ≤ 900000) : h_Values_run v [.ref i] st = .ok (.str ((t.drop a).takeWhile nS)) st := by
  refine run_pure ?_ rfl
  have h' : (enter st).objs[i]? = some (obj v t a) := h
  have z := run_loop v h' ht 1000000 a (by omega)
  have e1 := fld_signs v h'
  have e2 := fld_at v h'
  have e : b_Values_run v = gSeq (gSet 1 (fFld (okC 0 v.c_Values) "at" 1 (fVar 0))) (gSeq (gWhile (fun _ _ => 1000000) (cR v) uR) (gSeq (gRet (fSlc (fFld (okC 0 v.c_Values) "signs" 0 (fVar 0)) (fPart (fFld (okC 0 v.c_Values) "at" 1 (fVar 0))) (fPart (fVar 1)))) (gNx))) := rfl
  have s1 : (gSet 1 (fFld (okC 0 v.c_Values) "at" 1 (fVar 0))) [some (.ref i), none] (enter st) = .nx [some (.ref i), some (.int (a : Int))] (enter st) := by
    simp [gSet, fFld, fVar, e2]
  have hlen : a + ((t.drop a).takeWhile nS).length ≤ t.length := by
    have := (List.takeWhile_sublist (l := t.drop a) nS).length_le
    rw [List.length_drop] at this; omega
  have htk : (t.drop a).take ((t.drop a).takeWhile nS).length = (t.drop a).takeWhile nS := (List.prefix_iff_eq_take.mp (List.takeWhile_prefix nS)).symm
  have e3 : opSlc (.str t) (some (a : Int)) (some ((a + ((t.drop a).takeWhile nS).length : Nat) : Int)) (enter st) = .ok (.str ((t.drop a).takeWhile nS)) (enter st) := by
    simp only [opSlc, show t.length ≤ 16777216 by omega, if_true]
    rw [cut_nat (by omega) hlen, Nat.add_sub_cancel_left, htk]
  have e0 : List.map some [D.ref i] ++ List.replicate (2 - [D.ref i].length) none = [some (.ref i), none] := rfl
  rw [e0, e, gSeq, s1, SO.seq_nx, gSeq, gWhile, z, SO.seq_nx]
  generalize ((a + ((t.drop a).takeWhile nS).length : Nat) : Int) = en at *
  simp [gSeq, gRet, fSlc, fFld, fVar, e1, fPart, e2, e3]
theorem fail_ok (h : st.objs[i]? = some (obj v t a)) : h_Values_fail v [.ref i] st = .exc 0 [.int 1, .int ((a : Int) + 1)] st := by
  refine run_exc ?_ rfl
  have h' : (enter st).objs[i]? = some (obj v t a) := h
  have e2 := fld_at v h'
  simp [b_Values_fail, gSeq, gRaise, fCons, fC, f2, fFld, fVar, e2, opAdd, fNil]
end
end K10

set_option maxRecDepth 100000
set_option maxHeartbeats 4000000
/-! YG: k10, the reader reads what the grammar tells. -/
namespace K10
open PySem MP
inductive PR where
  | ok (d : MP.D) (r : List Nat)
  | bad (r : List Nat)
mutual
/-- a value at the head of u, at most k deep: it and what is left, or what is left where it does not fit -/
def pv : Nat → Nat → List Nat → PR
  | 0, _, u => .bad u
  | n + 1, k, u => if u.take 1 = [40] then (if k = 0 then .bad u else pis n (k - 1) [] (u.drop 1)) else match runV (u.takeWhile nS) with
    | none => .bad u
    | some d => .ok d (u.dropWhile nS)
def pis : Nat → Nat → List MP.D → List Nat → PR
  | 0, _, _, u => .bad u
  | n + 1, k, acc, u => if u.take 1 = [41] then .ok (.tup acc) (u.drop 1) else if acc = [] then (match pv n k u with
      | .ok d r => pis n k [d] r
      | .bad r => .bad r) else if u.take 1 = [32] then (match pv n k (u.drop 1) with
      | .ok d r => pis n k (acc ++ [d]) r
      | .bad r => .bad r) else .bad u
end
def PR.rest : PR → List Nat
  | .ok _ r => r
  | .bad r => r
theorem runV_ok {r : List Nat} {x : MP.D} (h : runV r = some x) : x.nr = true ∧ r ≠ [] := by
  unfold runV at h
  split at h
  · rename_i e; cases h; exact ⟨rfl, by rw [e]; exact List.cons_ne_nil _ _⟩
  · split at h
    · rename_i e; cases h; exact ⟨rfl, fun z => by rw [z] at e; cases e⟩
    · obtain ⟨i, rfl⟩ := numV_int h
      exact ⟨rfl, fun z => by rw [z] at h; cases h⟩
theorem drop1_suffix (u : List Nat) : u.drop 1 <:+ u := List.drop_suffix 1 u
/-- what is left lies at the end; a value takes at least one sign -/
theorem p_facts : ∀ n : Nat, (∀ k u, (pv n k u).rest <:+ u ∧ ∀ d r, pv n k u = .ok d r → d.nr = true ∧ r.length < u.length) ∧ (∀ k acc u, D.nrs acc = true → (pis n k acc u).rest <:+ u ∧ ∀ d r, pis n k acc u = .ok d r → (∃ ds, d = .tup ds ∧ D.nrs ds = true) ∧ r.length < u.length)
  | 0 => ⟨fun k u => ⟨List.suffix_refl u, fun d r h => by cases h⟩, fun k acc u _ => ⟨List.suffix_refl u, fun d r h => by cases h⟩⟩
  | n + 1 => by
    obtain ⟨iv, ii⟩ := p_facts n
    have d1 : ∀ (u : List Nat) (c : Nat), u.take 1 = [c] → (u.drop 1).length < u.length := fun u c h => by
      cases u with
      | nil => cases h
      | cons x q => simp
    refine ⟨fun k u => ?_, fun k acc u ha => ?_⟩
    · unfold pv
      split
      · rename_i h40
        split
        · exact ⟨List.suffix_refl u, fun d r h => by cases h⟩
        · obtain ⟨a, b⟩ := ii (k - 1) [] (u.drop 1) rfl
          refine ⟨a.trans (drop1_suffix u), fun d r h => ?_⟩
          obtain ⟨⟨ds, rfl, e⟩, f⟩ := b d r h
          have := d1 u 40 h40
          exact ⟨e, by omega⟩
      · cases hr : runV (u.takeWhile nS) with
        | none => exact ⟨List.suffix_refl u, fun d r h => by cases h⟩
        | some x =>
          obtain ⟨a, b⟩ := runV_ok hr
          refine ⟨List.dropWhile_suffix nS, fun d r h => ?_⟩
          cases h
          refine ⟨a, ?_⟩
          have e : (u.takeWhile nS).length + (u.dropWhile nS).length = u.length := by rw [← List.length_append, List.takeWhile_append_dropWhile]
          have := List.length_pos_iff.mpr b
          omega
    · unfold pis
      split
      · rename_i h41
        refine ⟨drop1_suffix u, fun d r h => ?_⟩
        cases h
        exact ⟨⟨acc, rfl, ha⟩, d1 u 41 h41⟩
      · split
        · obtain ⟨a, b⟩ := iv k u
          cases hp : pv n k u with
          | bad r => rw [hp] at a; exact ⟨a, fun d r h => by cases h⟩
          | ok d r =>
            rw [hp] at a
            obtain ⟨e, f⟩ := b d r hp
            obtain ⟨a2, b2⟩ := ii k [d] r (by simp [D.nrs, e])
            refine ⟨a2.trans a, fun d' r' h => ?_⟩
            obtain ⟨x, y⟩ := b2 d' r' h
            exact ⟨x, by omega⟩
        · split
          · rename_i h32
            obtain ⟨a, b⟩ := iv k (u.drop 1)
            have hd := d1 u 32 h32
            cases hp : pv n k (u.drop 1) with
            | bad r => rw [hp] at a; exact ⟨a.trans (drop1_suffix u), fun d r h => by cases h⟩
            | ok d r =>
              rw [hp] at a
              obtain ⟨e, f⟩ := b d r hp
              obtain ⟨a2, b2⟩ := ii k (acc ++ [d]) r (by rw [nrs_append, ha]; simp [D.nrs, e])
              refine ⟨(a2.trans a).trans (drop1_suffix u), fun d' r' h => ?_⟩
              obtain ⟨x, y⟩ := b2 d' r' h
              exact ⟨x, by omega⟩
          · exact ⟨List.suffix_refl u, fun d r h => by cases h⟩
variable (v : Vv)
def V1 : Env → St → SO := (gIf (fNotT (fB (fMeth (okC 0 v.c_Values) "is_next" 2 (h_Values_is_next v) (fVar 0) (fCons (fC (.str [40])) (fNil))))) (gSeq (gSet 2 (fDef 1 (h_run_value v) (fCons (fMeth (okC 0 v.c_Values) "run" 1 (h_Values_run v) (fVar 0) (fNil)) (fNil)))) (gSeq (gIf (fB (f2 opIs (fVar 2) (fC .non))) (gSeq (gExpr (fMeth (okC 0 v.c_Values) "fail" 1 (h_Values_fail v) (fVar 0) (fNil))) (gNx)) (gNx)) (gSeq (gFldSet (okC 0 v.c_Values) "at" 1 (f2 opAdd (fFld (okC 0 v.c_Values) "at" 1 (fVar 0)) (fCall cLen (fCons (fMeth (okC 0 v.c_Values) "run" 1 (h_Values_run v) (fVar 0) (fNil)) (fNil)))) (fVar 0)) (gSeq (gRet (f2 opIdx (fVar 2) (fC (.int 0)))) (gNx))))) (gNx))
def V2 : Env → St → SO := (gIf (fB (f2 opEq (fVar 1) (fC (.int 0)))) (gSeq (gExpr (fMeth (okC 0 v.c_Values) "fail" 1 (h_Values_fail v) (fVar 0) (fNil))) (gNx)) (gNx))
def V3 : Env → St → SO := (gFldSet (okC 0 v.c_Values) "at" 1 (f2 opAdd (fFld (okC 0 v.c_Values) "at" 1 (fVar 0)) (fC (.int 1))) (fVar 0))
def cV : Env → St → Out Bool := (fNotT (fB (fMeth (okC 0 v.c_Values) "is_next" 2 (h_Values_is_next v) (fVar 0) (fCons (fC (.str [41])) (fNil)))))
def uV (h : List MP.D → St → Out MP.D) : Env → St → SO := (gSeq (gIf (fB (f2 opNe (fVar 2) (fLst (fNil)))) (gSeq (gIf (fNotT (fB (fMeth (okC 0 v.c_Values) "is_next" 2 (h_Values_is_next v) (fVar 0) (fCons (fC (.str [32])) (fNil))))) (gSeq (gExpr (fMeth (okC 0 v.c_Values) "fail" 1 (h_Values_fail v) (fVar 0) (fNil))) (gNx)) (gNx)) (gSeq (gFldSet (okC 0 v.c_Values) "at" 1 (f2 opAdd (fFld (okC 0 v.c_Values) "at" 1 (fVar 0)) (fC (.int 1))) (fVar 0)) (gNx))) (gNx)) (gSeq (gExpr (fMtL mAppend (fVar 2) (fCons (fMeth (okC 0 v.c_Values) "value" 2 h (fVar 0) (fCons (f2 opSub (fVar 1) (fC (.int 1))) (fNil))) (fNil)))) (gNx)))
def V6 : Env → St → SO := (gSeq (gFldSet (okC 0 v.c_Values) "at" 1 (f2 opAdd (fFld (okC 0 v.c_Values) "at" 1 (fVar 0)) (fC (.int 1))) (fVar 0)) (gSeq (gRet (fCall cTup (fCons (fVar 2) (fNil)))) (gNx)))
theorem b_value_eq (h : List MP.D → St → Out MP.D) : b_Values_value v h = gSeq (V1 v) (gSeq (V2 v) (gSeq (V3 v) (gSeq (gSet 2 (fBox (fNil))) (gSeq (gWhile (fun _ _ => 1000000) (cV v) (uV v h)) (V6 v))))) := rfl
/-- what the method gives -/
def resV (t : List Nat) (i : Nat) (st : St) : PR → Out MP.D
  | .ok d r => .ok d ⟨st.objs.set i (obj v t (t.length - r.length)), st.fls⟩
  | .bad r => .exc 0 [.int 1, .int (((t.length - r.length : Nat) : Int) + 1)] ⟨st.objs.set i (obj v t (t.length - r.length)), st.fls⟩
/-- what the loop gives -/
def loopR (t : List Nat) (i k : Nat) (os : List O) (fl : List (Nat × Bool)) (s : SO) : PR → Prop
  | .ok d r => ∃ ds, d = .tup ds ∧ r.length < t.length ∧ (t.drop (t.length - r.length - 1)).take 1 = [41] ∧ s = .nx [some (.ref i), some (.int ((k + 1 : Nat) : Int)), some (.ref os.length)] ⟨os.set i (obj v t (t.length - r.length - 1)) ++ [.lst ds], fl⟩
  | .bad r => ∃ acc, s = .exc 0 [.int 1, .int (((t.length - r.length : Nat) : Int) + 1)] ⟨os.set i (obj v t (t.length - r.length)) ++ [.lst acc], fl⟩
end K10

set_option maxRecDepth 100000
set_option maxHeartbeats 4000000
/-! YH: k10, the reader's method, its loop. -/
namespace K10
open PySem MP
variable (v : Vv)
theorem run_excO {n : Nat} {b : Env → St → SO} {ds : List MP.D} {st : St} {c : Nat} {fs : List MP.D} {os : List O} (h : b (ds.map some ++ List.replicate (n - ds.length) none) (enter st) = .exc c fs ⟨os, (st.objs.length, false) :: st.fls⟩) (hd : D.nrs fs = true) : runF false n b ds st = .exc c fs ⟨os.take st.objs.length, st.fls⟩ := by
  unfold runF
  rw [h]
  unfold ended leaveX
  simp [nrs_los _ _ hd]
theorem set_same {os : List O} {i : Nat} {o : O} (h : os[i]? = some o) : os.set i o = os := by
  obtain ⟨_, e⟩ := List.getElem?_eq_some_iff.mp h
  rw [← e, List.set_getElem_self]
theorem suffix_drop {t r : List Nat} (h : r <:+ t) : t.drop (t.length - r.length) = r := (List.suffix_iff_eq_drop.mp h).symm
theorem take1_pos {u : List Nat} {c : Nat} (h : u.take 1 = [c]) : 0 < u.length := by
  cases u with
  | nil => cases h
  | cons x q => simp
theorem value_all {t : List Nat} (ht : t.length ≤ 400000) (hc : ∀ c ∈ t, c < 1114112) : ∀ n : Nat,
    (∀ (k m a : Nat) (st : St) (i : Nat), st.objs[i]? = some (obj v t a) → a ≤ t.length → k < m → 2 * (t.length - a) + 1 ≤ n → h_Values_value v m [.ref i, .int (k : Int)] st = resV v t i st (pv n k (t.drop a))) ∧
    (∀ (k m a : Nat) (os : List O) (fl : List (Nat × Bool)) (i : Nat) (acc : List MP.D) (L : Nat), os[i]? = some (obj v t a) → a ≤ t.length → k < m → D.nrs acc = true → acc.length + (t.length - a) < 1000000 → 2 * (t.length - a) + 2 ≤ n → t.length - a < L →
      loopR v t i k os fl (gWh (cV v) (uV v (h_Values_value v m)) L [some (.ref i), some (.int ((k + 1 : Nat) : Int)), some (.ref os.length)] ⟨os ++ [.lst acc], fl⟩) (pis n k acc (t.drop a)))
  | 0 => ⟨fun k m a st i _ _ _ h => by omega, fun k m a os fl i acc L _ _ _ _ _ h _ => by omega⟩
  | n + 1 => by
    obtain ⟨iv, ii⟩ := value_all ht hc n
    have ht9 : t.length ≤ 900000 := by omega
    refine ⟨fun k m a st i ho ha hk hn => ?_, fun k m a os fl i acc L ho ha hk hacc hal hn hL => ?_⟩
    · obtain ⟨m, rfl⟩ : ∃ m', m = m' + 1 := ⟨m - 1, by omega⟩
      have hi : i < st.objs.length := (List.getElem?_eq_some_iff.mp ho).1
      have ho' : (enter st).objs[i]? = some (obj v t a) := ho
      have e0 : List.map some [D.ref i, D.int (k : Int)] ++ List.replicate (3 - [D.ref i, D.int (k : Int)].length) none = [some (.ref i), some (.int (k : Int)), none] := rfl
      have nx := is_next_ok v ho' ha ht9
      have ok1 := ok_is_next v ho'
      have pos : t.length - (t.drop a).length = a := by rw [List.length_drop]; omega
      have failE : (gSeq (gExpr (fMeth (okC 0 v.c_Values) "fail" 1 (h_Values_fail v) (fVar 0) (fNil))) gNx) [some (.ref i), some (.int (k : Int)), none] (enter st) = .exc 0 [.int 1, .int ((a : Int) + 1)] (enter st) := by
        have f1 := fail_ok v ho'
        have f2 := ok_fail v ho'
        simp [gSeq, gExpr, fMeth, fVar, f2, fNil, f1]
      show runF false 3 (b_Values_value v (h_Values_value v m)) _ st = _
      unfold pv
      by_cases h40 : (t.drop a).take 1 = [40]
      · rw [if_pos h40]
        have v1 : V1 v [some (.ref i), some (.int (k : Int)), none] (enter st) = .nx [some (.ref i), some (.int (k : Int)), none] (enter st) := by
          simp [V1, gIf, fNotT, fB, fMeth, fVar, ok1, fCons, fC, fNil, nx, h40, gNx]
        by_cases hk0 : k = 0
        · subst hk0
          rw [if_pos rfl]
          have v2 : V2 v [some (.ref i), some (.int ((0 : Nat) : Int)), none] (enter st) = .exc 0 [.int 1, .int ((a : Int) + 1)] (enter st) := by
            have q0 : opEq (.int ((0 : Nat) : Int)) (.int 0) (enter st) = .ok (.bl true) (enter st) := rfl
            unfold V2
            simp only [gIf, fB, f2, fVar, fC, List.getElem?_cons_succ, List.getElem?_cons_zero, Out.bind_ok, q0, Out.toS_ok, if_true]
            exact failE
          have z := run_excO (n := 3) (b := b_Values_value v (h_Values_value v m)) (ds := [.ref i, .int ((0 : Nat) : Int)]) (st := st) (c := 0) (fs := [.int 1, .int ((a : Int) + 1)]) (os := st.objs) (by
            rw [b_value_eq, e0, gSeq, v1, SO.seq_nx, gSeq, v2]; rfl) rfl
          rw [z]
          simp only [resV, pos, set_same ho]
          rw [List.take_of_length_le (Nat.le_refl _)]
        · rw [if_neg hk0]
          obtain ⟨k, rfl⟩ : ∃ k', k = k' + 1 := ⟨k - 1, by omega⟩
          have v2 : V2 v [some (.ref i), some (.int ((k + 1 : Nat) : Int)), none] (enter st) = .nx [some (.ref i), some (.int ((k + 1 : Nat) : Int)), none] (enter st) := by
            have q0 : opEq (.int ((k + 1 : Nat) : Int)) (.int 0) (enter st) = .ok (.bl false) (enter st) := by rw [opEq_int]; simp; omega
            unfold V2
            simp only [gIf, fB, f2, fVar, fC, List.getElem?_cons_succ, List.getElem?_cons_zero, Out.bind_ok, q0, Out.toS_ok, Bool.false_eq_true, if_false]
            rfl
          have hpos := take1_pos h40
          rw [List.length_drop] at hpos
          have pt := put_at v ho' (a + 1)
          have v3 : V3 v [some (.ref i), some (.int ((k + 1 : Nat) : Int)), none] (enter st) = .nx [some (.ref i), some (.int ((k + 1 : Nat) : Int)), none] ⟨st.objs.set i (obj v t (a + 1)), (st.objs.length, false) :: st.fls⟩ := by
            have g2 := fld_at v ho'
            have ad : opAdd (.int (a : Int)) (.int 1) (enter st) = .ok (.int ((a + 1 : Nat) : Int)) (enter st) := by simp [opAdd]
            generalize ((a + 1 : Nat) : Int) = z at *
            generalize ((k + 1 : Nat) : Int) = z2 at *
            simp [V3, gFldSet, f2, fFld, fVar, g2, fC, ad, pt]
            exact ⟨rfl, rfl⟩
          have hl : (st.objs.set i (obj v t (a + 1))).length = st.objs.length := List.length_set
          have bx : (gSet 2 (fBox fNil)) [some (.ref i), some (.int ((k + 1 : Nat) : Int)), none] ⟨st.objs.set i (obj v t (a + 1)), (st.objs.length, false) :: st.fls⟩ = .nx [some (.ref i), some (.int ((k + 1 : Nat) : Int)), some (.ref (st.objs.set i (obj v t (a + 1))).length)] ⟨st.objs.set i (obj v t (a + 1)) ++ [.lst []], (st.objs.length, false) :: st.fls⟩ := by
            simp [gSet, fBox, fNil, MP.St.push]
          have lp := ii k m (a + 1) (st.objs.set i (obj v t (a + 1))) ((st.objs.length, false) :: st.fls) i [] 1000000 (by simp [hi]) (by omega) (by omega) rfl (by simp; omega) (by omega) (by omega)
          have hd : t.drop (a + 1) = (t.drop a).drop 1 := by rw [List.drop_drop]
          rw [hd] at lp
          rw [show k + 1 - 1 = k from rfl]
          have head : ∀ s : SO, gWh (cV v) (uV v (h_Values_value v m)) 1000000 [some (.ref i), some (.int ((k + 1 : Nat) : Int)), some (.ref (st.objs.set i (obj v t (a + 1))).length)] ⟨st.objs.set i (obj v t (a + 1)) ++ [.lst []], (st.objs.length, false) :: st.fls⟩ = s → b_Values_value v (h_Values_value v m) (List.map some [D.ref i, D.int ((k + 1 : Nat) : Int)] ++ List.replicate (3 - [D.ref i, D.int ((k + 1 : Nat) : Int)].length) none) (enter st) = s.seq (V6 v) := fun s hs => by
            rw [b_value_eq, e0, gSeq, v1, SO.seq_nx, gSeq, v2, SO.seq_nx, gSeq, v3, SO.seq_nx, gSeq, bx, SO.seq_nx, gSeq, gWhile, hs]
          cases hp : pis n k [] ((t.drop a).drop 1) with
          | bad r =>
            rw [hp] at lp
            obtain ⟨acc, hs⟩ := lp
            have z := run_excO (n := 3) (b := b_Values_value v (h_Values_value v m)) (ds := [.ref i, .int ((k + 1 : Nat) : Int)]) (st := st) (by rw [head _ hs]; rfl) rfl
            rw [z]
            simp only [resV, List.set_set]
            rw [List.take_append_of_le_length (by simp), List.take_of_length_le (by simp)]
          | ok d r =>
            rw [hp] at lp
            obtain ⟨ds, rfl, hr, h41, hs⟩ := lp
            have hnr : D.nrs ds = true := by
              obtain ⟨⟨ds', e1, e2⟩, _⟩ := ((p_facts n).2 k [] ((t.drop a).drop 1) rfl).2 _ _ hp
              cases e1; exact e2
            have v6 : ∀ os : List O, os.length = st.objs.length → V6 v [some (.ref i), some (.int ((k + 1 : Nat) : Int)), some (.ref st.objs.length)] ⟨os.set i (obj v t (t.length - r.length - 1)) ++ [.lst ds], (st.objs.length, false) :: st.fls⟩ = .ret (.tup ds) ⟨os.set i (obj v t (t.length - r.length)) ++ [.lst ds], (st.objs.length, false) :: st.fls⟩ := fun os hos => by
              have hi2 : i < os.length := by omega
              have o2 : (⟨os.set i (obj v t (t.length - r.length - 1)) ++ [.lst ds], (st.objs.length, false) :: st.fls⟩ : St).objs[i]? = some (obj v t (t.length - r.length - 1)) := by
                show (os.set i (obj v t (t.length - r.length - 1)) ++ [.lst ds])[i]? = _
                rw [List.getElem?_append_left (by simpa using hi2)]
                simp [hi2]
              have g2 := fld_at v o2
              have pt2 := put_at v o2 (t.length - r.length)
              have ad : ∀ st : St, opAdd (.int ((t.length - r.length - 1 : Nat) : Int)) (.int 1) st = .ok (.int ((t.length - r.length : Nat) : Int)) st := fun st => by simp [opAdd]; omega
              have es : (os.set i (obj v t (t.length - r.length - 1)) ++ [O.lst ds]).set i (obj v t (t.length - r.length)) = os.set i (obj v t (t.length - r.length)) ++ [O.lst ds] := by
                rw [List.set_append_left _ _ (by simpa using hi2), List.set_set]
              simp only [es] at pt2
              have tp : cTup [.ref st.objs.length] ⟨os.set i (obj v t (t.length - r.length)) ++ [.lst ds], (st.objs.length, false) :: st.fls⟩ = .ok (.tup ds) ⟨os.set i (obj v t (t.length - r.length)) ++ [.lst ds], (st.objs.length, false) :: st.fls⟩ := by
                have : (os.set i (obj v t (t.length - r.length)) ++ [O.lst ds])[st.objs.length]? = some (.lst ds) := by
                  rw [← hos, List.getElem?_append_right (by simp)]; simp
                simp only [cTup, lqOf, lstOf, this]
              generalize ((t.length - r.length - 1 : Nat) : Int) = z1 at *
              generalize ((t.length - r.length : Nat) : Int) = z2 at *
              generalize ((k + 1 : Nat) : Int) = z3 at *
              simp [V6, gSeq, gFldSet, f2, fFld, fVar, g2, fC, ad, pt2, gRet, fCall, fCons, fNil, tp]
            have z := run_end (n := 3) (b := b_Values_value v (h_Values_value v m)) (ds := [.ref i, .int ((k + 1 : Nat) : Int)]) (st := st) (d := .tup ds) (by
              rw [head _ hs, SO.seq_nx, hl]
              exact v6 _ hl) (nrs_los _ _ hnr)
            rw [z]
            simp only [resV, List.set_set]
            rw [List.take_append_of_le_length (by simp), List.take_of_length_le (by simp)]
      · rw [if_neg h40]
        have rn := run_ok v ho' ha ht9
        have ok2 := ok_run v ho'
        have tx : txOk ((t.drop a).takeWhile nS) := by
          refine ⟨?_, fun c hcm => hc c (List.mem_of_mem_drop (List.takeWhile_sublist nS |>.subset hcm))⟩
          have := (List.takeWhile_sublist (l := t.drop a) nS).length_le
          rw [List.length_drop] at this; omega
        have rv := run_value_ok v tx (enter st)
        have hlenE : ((t.drop a).takeWhile nS).length + ((t.drop a).dropWhile nS).length = t.length - a := by
          rw [← List.length_append, List.takeWhile_append_dropWhile, List.length_drop]
        have hpos2 : t.length - ((t.drop a).dropWhile nS).length = a + ((t.drop a).takeWhile nS).length := by omega
        have cl : cLen [.str ((t.drop a).takeWhile nS)] (enter st) = .ok (.int (((t.drop a).takeWhile nS).length : Nat)) (enter st) := cLen_str tx.1
        cases hr : runV ((t.drop a).takeWhile nS) with
        | none =>
          rw [hr] at rv
          have v1 : V1 v [some (.ref i), some (.int (k : Int)), none] (enter st) = .exc 0 [.int 1, .int ((a : Int) + 1)] (enter st) := by
            have f1 := fail_ok v ho'
            have f2' := ok_fail v ho'
            generalize (t.drop a).takeWhile nS = w at *
            simp [V1, gSeq, gIf, fNotT, fB, fMeth, fVar, ok1, fCons, fC, fNil, nx, h40, gSet, fDef, ok2, rn, rv, resF, f2, opIs, isNon, gExpr, f2', f1]
          have z := run_excO (n := 3) (b := b_Values_value v (h_Values_value v m)) (ds := [.ref i, .int (k : Int)]) (st := st) (c := 0) (fs := [.int 1, .int ((a : Int) + 1)]) (os := st.objs) (by
            rw [b_value_eq, e0, gSeq, v1]; rfl) rfl
          rw [z]
          simp only [resV, pos, set_same ho]
          rw [List.take_of_length_le (Nat.le_refl _)]
        | some x =>
          rw [hr] at rv
          obtain ⟨xn, _⟩ := runV_ok hr
          have pt := put_at v ho' (a + ((t.drop a).takeWhile nS).length)
          have v1 : V1 v [some (.ref i), some (.int (k : Int)), none] (enter st) = .ret x ⟨st.objs.set i (obj v t (a + ((t.drop a).takeWhile nS).length)), (st.objs.length, false) :: st.fls⟩ := by
            have g2 := fld_at v ho'
            have ad : ∀ st : St, opAdd (.int (a : Int)) (.int (((t.drop a).takeWhile nS).length : Nat)) st = .ok (.int ((a + ((t.drop a).takeWhile nS).length : Nat) : Int)) st := fun st => by simp [opAdd]
            have ix : ∀ st : St, opIdx (.tup [x]) (.int 0) st = .ok x st := fun st => by simp [opIdx, seqOf, atI_zero]
            generalize hw : (t.drop a).takeWhile nS = w at *
            generalize ((a + w.length : Nat) : Int) = z1 at *
            generalize (((w.length : Nat)) : Int) = z2 at *
            simp [V1, gSeq, gIf, fNotT, fB, fMeth, fVar, ok1, fCons, fC, fNil, nx, h40, gSet, fDef, ok2, rn, rv, resF, f2, opIs, isNon, gNx, gFldSet, fFld, g2, fCall, cl, ad, pt, gRet, ix]
            exact ⟨rfl, rfl⟩
          have z := run_end (n := 3) (b := b_Values_value v (h_Values_value v m)) (ds := [.ref i, .int (k : Int)]) (st := st) (d := x) (objs := st.objs.set i (obj v t (a + ((t.drop a).takeWhile nS).length))) (by
            rw [b_value_eq, e0, gSeq, v1]; rfl) (nr_lo _ _ xn)
          rw [z]
          simp only [resV, hpos2]
          rw [List.take_of_length_le (by simp)]
    · obtain ⟨L, rfl⟩ : ∃ L', L = L' + 1 := ⟨L - 1, by omega⟩
      have hi : i < os.length := (List.getElem?_eq_some_iff.mp ho).1
      have at1 : ∀ (b : Nat) (Ps : List O) (fl : List (Nat × Bool)), (⟨os.set i (obj v t b) ++ Ps, fl⟩ : St).objs[i]? = some (obj v t b) := fun b Ps fl => by
        show (os.set i (obj v t b) ++ Ps)[i]? = _
        rw [List.getElem?_append_left (by simpa using hi)]
        simp [hi]
      have ho1 : (⟨os ++ [.lst acc], fl⟩ : St).objs[i]? = some (obj v t a) := by
        show (os ++ [.lst acc])[i]? = _
        rw [List.getElem?_append_left hi]; exact ho
      have setL : ∀ (b : Nat) (x : O) (Ps : List O), (os.set i x ++ Ps).set i (obj v t b) = os.set i (obj v t b) ++ Ps := fun b x Ps => by
        rw [List.set_append_left _ _ (by simpa using hi), List.set_set]
      have setL0 : ∀ (b : Nat) (Ps : List O), (os ++ Ps).set i (obj v t b) = os.set i (obj v t b) ++ Ps := fun b Ps => by
        rw [List.set_append_left _ _ hi]
      have pos : t.length - (t.drop a).length = a := by rw [List.length_drop]; omega
      have nx := fun c => is_next_ok v ho1 ha ht9 c
      have okn := ok_is_next v ho1
      have cv : cV v [some (.ref i), some (.int ((k + 1 : Nat) : Int)), some (.ref os.length)] ⟨os ++ [.lst acc], fl⟩ = .ok (!(decide ((t.drop a).take 1 = [41]))) ⟨os ++ [.lst acc], fl⟩ := by
        generalize ((k + 1 : Nat) : Int) = z at *
        simp [cV, fNotT, fB, fMeth, fVar, okn, fCons, fC, fNil, nx]
      unfold gWh
      rw [cv, Out.toS_ok]
      unfold pis
      by_cases h41 : (t.drop a).take 1 = [41]
      · rw [if_pos h41, decide_eq_true h41]
        simp only [Bool.not_true, Bool.false_eq_true, if_false]
        have hpos := take1_pos h41
        rw [List.length_drop] at hpos
        have e1 : t.length - ((t.drop a).drop 1).length - 1 = a := by simp only [List.length_drop]; omega
        exact ⟨acc, rfl, by simp only [List.length_drop]; omega, by rw [e1]; exact h41, by rw [e1, set_same ho]⟩
      · rw [if_neg h41, decide_eq_false h41]
        simp only [Bool.not_false, if_true]
        -- a value read, put to what was found
        have put : ∀ (os1 : List O) (b : Nat), os1.length = os.length → (∀ x, os1.set i x = os.set i x) → os1[i]? = some (obj v t b) → b ≤ t.length → 2 * (t.length - b) + 1 ≤ n →
            (match pv n k (t.drop b) with
            | .ok d r => (gSeq (gExpr (fMtL mAppend (fVar 2) (fCons (fMeth (okC 0 v.c_Values) "value" 2 (h_Values_value v m) (fVar 0) (fCons (f2 opSub (fVar 1) (fC (.int 1))) (fNil))) (fNil)))) gNx) [some (.ref i), some (.int ((k + 1 : Nat) : Int)), some (.ref os.length)] ⟨os1 ++ [.lst acc], fl⟩ = .nx [some (.ref i), some (.int ((k + 1 : Nat) : Int)), some (.ref os.length)] ⟨os.set i (obj v t (t.length - r.length)) ++ [.lst (acc ++ [d])], fl⟩
            | .bad r => (gSeq (gExpr (fMtL mAppend (fVar 2) (fCons (fMeth (okC 0 v.c_Values) "value" 2 (h_Values_value v m) (fVar 0) (fCons (f2 opSub (fVar 1) (fC (.int 1))) (fNil))) (fNil)))) gNx) [some (.ref i), some (.int ((k + 1 : Nat) : Int)), some (.ref os.length)] ⟨os1 ++ [.lst acc], fl⟩ = .exc 0 [.int 1, .int (((t.length - r.length : Nat) : Int) + 1)] ⟨os.set i (obj v t (t.length - r.length)) ++ [.lst acc], fl⟩) := fun os1 b hl hset hob hb hnb => by
          have hob1 : (⟨os1 ++ [.lst acc], fl⟩ : St).objs[i]? = some (obj v t b) := by
            show (os1 ++ [.lst acc])[i]? = _
            rw [List.getElem?_append_left (by omega)]; exact hob
          have vl := iv k m b ⟨os1 ++ [.lst acc], fl⟩ i hob1 hb hk hnb
          have okv := ok_value v hob1
          have isl : MP.isL ⟨os1 ++ [.lst acc], fl⟩ (.ref os.length) = true := by
            have : (os1 ++ [O.lst acc])[os.length]? = some (.lst acc) := by
              rw [← hl, List.getElem?_append_right (Nat.le_refl _)]; simp
            simp [MP.isL, lqOf, lstOf, this]
          have sb : opSub (.int ((k + 1 : Nat) : Int)) (.int 1) ⟨os1 ++ [.lst acc], fl⟩ = .ok (.int (k : Int)) ⟨os1 ++ [.lst acc], fl⟩ := by simp [opI]
          have se : ∀ x, (os1 ++ [O.lst acc]).set i x = os.set i x ++ [O.lst acc] := fun x => by
            rw [List.set_append_left _ _ (by omega), hset]
          cases hp : pv n k (t.drop b) with
          | bad r =>
            rw [hp] at vl
            simp only [resV, se] at vl
            generalize ((k + 1 : Nat) : Int) = z at *
            simp [gSeq, gExpr, fMtL, fVar, isl, fCons, fMeth, okv, f2, fC, sb, fNil, vl]
          | ok d r =>
            rw [hp] at vl
            simp only [resV, se] at vl
            have hdn := (((p_facts n).1 k (t.drop b)).2 d r hp).1
            have ap := append_last (os := os.set i (obj v t (t.length - r.length))) (fl := fl) (acc := acc) (y := d) (by rw [nrs_append, hacc]; simp [D.nrs, hdn]) (by omega)
            rw [List.length_set] at ap
            generalize ((k + 1 : Nat) : Int) = z at *
            simp [gSeq, gExpr, fMtL, fVar, isl, fCons, fMeth, okv, f2, fC, sb, fNil, vl, ap, gNx]
        -- what comes behind it
        have go : ∀ (b : Nat) (d : MP.D) (r : List Nat), b ≤ t.length → t.length - b ≤ t.length - a → pv n k (t.drop b) = .ok d r → loopR v t i k os fl (gWh (cV v) (uV v (h_Values_value v m)) L [some (.ref i), some (.int ((k + 1 : Nat) : Int)), some (.ref os.length)] ⟨os.set i (obj v t (t.length - r.length)) ++ [.lst (acc ++ [d])], fl⟩) (pis n k (acc ++ [d]) r) := fun b d r hb hba hp => by
          obtain ⟨s1, s2⟩ := (p_facts n).1 k (t.drop b)
          obtain ⟨hdn, hrl⟩ := s2 d r hp
          rw [hp] at s1
          have hsuf : r <:+ t := List.IsSuffix.trans s1 (List.drop_suffix b t)
          rw [List.length_drop] at hrl
          have z := ii k m (t.length - r.length) (os.set i (obj v t (t.length - r.length))) fl i (acc ++ [d]) L (by simp [hi]) (by omega) hk (by rw [nrs_append, hacc]; simp [D.nrs, hdn]) (by simp; omega) (by omega) (by omega)
          rw [suffix_drop hsuf, List.length_set] at z
          cases hq : pis n k (acc ++ [d]) r with
          | bad r' =>
            rw [hq] at z
            obtain ⟨acc', e⟩ := z
            exact ⟨acc', by rw [e, List.set_set]⟩
          | ok d' r' =>
            rw [hq] at z
            obtain ⟨ds, e1, e2, e3, e4⟩ := z
            exact ⟨ds, e1, e2, e3, by rw [e4, List.set_set, List.length_set]⟩
        have ref2 : (⟨os ++ [.lst acc], fl⟩ : St).objs[os.length]? = some (.lst acc) := by
          show (os ++ [O.lst acc])[os.length]? = _
          rw [List.getElem?_append_right (Nat.le_refl _)]; simp
        have ne := opNe_nil_ref ref2
        have ub : uV v (h_Values_value v m) = gSeq (gIf (fB (f2 opNe (fVar 2) (fLst (fNil)))) (gSeq (gIf (fNotT (fB (fMeth (okC 0 v.c_Values) "is_next" 2 (h_Values_is_next v) (fVar 0) (fCons (fC (.str [32])) (fNil))))) (gSeq (gExpr (fMeth (okC 0 v.c_Values) "fail" 1 (h_Values_fail v) (fVar 0) (fNil))) (gNx)) (gNx)) (gSeq (gFldSet (okC 0 v.c_Values) "at" 1 (f2 opAdd (fFld (okC 0 v.c_Values) "at" 1 (fVar 0)) (fC (.int 1))) (fVar 0)) (gNx))) (gNx)) (gSeq (gExpr (fMtL mAppend (fVar 2) (fCons (fMeth (okC 0 v.c_Values) "value" 2 (h_Values_value v m) (fVar 0) (fCons (f2 opSub (fVar 1) (fC (.int 1))) (fNil))) (fNil)))) gNx) := rfl
        rw [ub] at go ⊢
        generalize happ : (gSeq (gExpr (fMtL mAppend (fVar 2) (fCons (fMeth (okC 0 v.c_Values) "value" 2 (h_Values_value v m) (fVar 0) (fCons (f2 opSub (fVar 1) (fC (.int 1))) (fNil))) (fNil)))) gNx) = app at *
        by_cases hacc0 : acc = []
        · rw [if_pos hacc0]
          have first : (gIf (fB (f2 opNe (fVar 2) (fLst (fNil)))) (gSeq (gIf (fNotT (fB (fMeth (okC 0 v.c_Values) "is_next" 2 (h_Values_is_next v) (fVar 0) (fCons (fC (.str [32])) (fNil))))) (gSeq (gExpr (fMeth (okC 0 v.c_Values) "fail" 1 (h_Values_fail v) (fVar 0) (fNil))) (gNx)) (gNx)) (gSeq (gFldSet (okC 0 v.c_Values) "at" 1 (f2 opAdd (fFld (okC 0 v.c_Values) "at" 1 (fVar 0)) (fC (.int 1))) (fVar 0)) (gNx))) (gNx)) [some (.ref i), some (.int ((k + 1 : Nat) : Int)), some (.ref os.length)] ⟨os ++ [.lst acc], fl⟩ = .nx [some (.ref i), some (.int ((k + 1 : Nat) : Int)), some (.ref os.length)] ⟨os ++ [.lst acc], fl⟩ := by
            rw [decide_eq_true hacc0] at ne
            generalize ((k + 1 : Nat) : Int) = z at *
            simp [gIf, fB, f2, fVar, fLst, fNil, ne, gNx]
          rw [gSeq, first, SO.seq_nx]
          have p := put os a rfl (fun _ => rfl) ho ha (by omega)
          cases hp : pv n k (t.drop a) with
          | bad r =>
            rw [hp] at p
            rw [p]
            exact ⟨acc, rfl⟩
          | ok d r =>
            rw [hp] at p
            rw [p]
            have g := go a d r ha (Nat.le_refl _) hp
            rw [hacc0] at g ⊢
            exact g
        · rw [if_neg hacc0]
          rw [decide_eq_false hacc0] at ne
          by_cases h32 : (t.drop a).take 1 = [32]
          · rw [if_pos h32]
            have hpos := take1_pos h32
            rw [List.length_drop] at hpos
            have pt := put_at v ho1 (a + 1)
            have first : (gIf (fB (f2 opNe (fVar 2) (fLst (fNil)))) (gSeq (gIf (fNotT (fB (fMeth (okC 0 v.c_Values) "is_next" 2 (h_Values_is_next v) (fVar 0) (fCons (fC (.str [32])) (fNil))))) (gSeq (gExpr (fMeth (okC 0 v.c_Values) "fail" 1 (h_Values_fail v) (fVar 0) (fNil))) (gNx)) (gNx)) (gSeq (gFldSet (okC 0 v.c_Values) "at" 1 (f2 opAdd (fFld (okC 0 v.c_Values) "at" 1 (fVar 0)) (fC (.int 1))) (fVar 0)) (gNx))) (gNx)) [some (.ref i), some (.int ((k + 1 : Nat) : Int)), some (.ref os.length)] ⟨os ++ [.lst acc], fl⟩ = .nx [some (.ref i), some (.int ((k + 1 : Nat) : Int)), some (.ref os.length)] ⟨os.set i (obj v t (a + 1)) ++ [.lst acc], fl⟩ := by
              have g2 := fld_at v ho1
              have ad : ∀ st : St, opAdd (.int (a : Int)) (.int 1) st = .ok (.int ((a + 1 : Nat) : Int)) st := fun st => by simp [opAdd]
              have nx32 := nx 32
              simp only [setL0] at pt
              generalize ((a + 1 : Nat) : Int) = z1 at *
              generalize ((k + 1 : Nat) : Int) = z at *
              simp [gSeq, gIf, fB, f2, fVar, fLst, fNil, ne, fNotT, fMeth, okn, fCons, fC, nx32, h32, gNx, gFldSet, fFld, g2, ad, pt]
            rw [gSeq, first, SO.seq_nx]
            have p := put (os.set i (obj v t (a + 1))) (a + 1) (by simp) (fun x => by rw [List.set_set]) (by simp [hi]) (by omega) (by omega)
            have hd : t.drop (a + 1) = (t.drop a).drop 1 := by rw [List.drop_drop]
            cases hp : pv n k ((t.drop a).drop 1) with
            | bad r =>
              rw [hd, hp] at p
              rw [p]
              exact ⟨acc, rfl⟩
            | ok d r =>
              rw [hd, hp] at p
              rw [p]
              exact go (a + 1) d r (by omega) (by omega) (by rw [hd]; exact hp)
          · rw [if_neg h32]
            have first : (gIf (fB (f2 opNe (fVar 2) (fLst (fNil)))) (gSeq (gIf (fNotT (fB (fMeth (okC 0 v.c_Values) "is_next" 2 (h_Values_is_next v) (fVar 0) (fCons (fC (.str [32])) (fNil))))) (gSeq (gExpr (fMeth (okC 0 v.c_Values) "fail" 1 (h_Values_fail v) (fVar 0) (fNil))) (gNx)) (gNx)) (gSeq (gFldSet (okC 0 v.c_Values) "at" 1 (f2 opAdd (fFld (okC 0 v.c_Values) "at" 1 (fVar 0)) (fC (.int 1))) (fVar 0)) (gNx))) (gNx)) [some (.ref i), some (.int ((k + 1 : Nat) : Int)), some (.ref os.length)] ⟨os ++ [.lst acc], fl⟩ = .exc 0 [.int 1, .int ((a : Int) + 1)] ⟨os ++ [.lst acc], fl⟩ := by
              have f1 := fail_ok v ho1
              have f2' := ok_fail v ho1
              have nx32 := nx 32
              generalize ((k + 1 : Nat) : Int) = z at *
              simp [gSeq, gIf, fB, f2, fVar, fLst, fNil, ne, fNotT, fMeth, okn, fCons, fC, nx32, h32, gExpr, f2', f1]
            rw [gSeq, first, SO.seq_exc]
            exact ⟨acc, by simp only [pos, set_same ho]⟩
end K10

set_option maxRecDepth 100000
set_option maxHeartbeats 4000000
/-! YI: k10, read_value; what is heard of it. -/
namespace K10
open PySem MP
variable (v : Vv)
/-- what a text tells: a value, or the place that does not fit -/
inductive RR where
  | told (d : MP.D)
  | bad (p : Nat)
def readR (t : List Nat) : RR := match pv (2 * t.length + 1) 60 t with
  | .ok d r => if r = [] then .told d else .bad (t.length - r.length)
  | .bad r => .bad (t.length - r.length)
theorem init_ok {t : List Nat} {os : List O} {fl : List (Nat × Bool)} : h_Values___init__ v [.ref os.length, .str t] ⟨os ++ [.ins 0 v.c_Values [] []], fl⟩ = .ok .non ⟨os ++ [obj v t 0], fl⟩ := by
  have c1 : ([] : List Str).contains "signs" = false := rfl
  have c2 : (["signs"] : List Str).contains "at" = false := by decide +kernel
  have z1 : ∀ fl, fldPut (okC 0 v.c_Values) "signs" 0 (.ref os.length) (.str t) ⟨os ++ [.ins 0 v.c_Values [] []], fl⟩ = some ⟨os ++ [.ins 0 v.c_Values ["signs"] [.str t]], fl⟩ := fun fl => by
    have e := put_ins (st := ⟨os ++ [.ins 0 v.c_Values [] []], fl⟩) (i := os.length) (c := 0) (C := v.c_Values) (ns := ["signs"]) (ds := [.str t]) rfl
    simp only [fldPut, List.getElem?_concat_length, okC, decide_true, Bool.and_self, true_and, List.length_nil, show (0 < 1000) from by decide, if_true, List.getElem?_nil, reduceCtorEq, if_false, c1, and_self, List.nil_append, e]
    simp
  have z2 : ∀ fl, fldPut (okC 0 v.c_Values) "at" 1 (.ref os.length) (.int 0) ⟨os ++ [.ins 0 v.c_Values ["signs"] [.str t]], fl⟩ = some ⟨os ++ [obj v t 0], fl⟩ := fun fl => by
    have e := put_ins (st := ⟨os ++ [.ins 0 v.c_Values ["signs"] [.str t]], fl⟩) (i := os.length) (c := 0) (C := v.c_Values) (ns := ["signs", "at"]) (ds := [.str t, .int 0]) rfl
    simp only [fldPut, List.getElem?_concat_length, okC, decide_true, Bool.and_self, true_and, List.length_cons, List.length_nil, show (0 + 1 < 1000) from by decide, if_true, List.getElem?_cons_succ, List.getElem?_nil, reduceCtorEq, if_false, c2, and_self, List.cons_append, List.nil_append, e]
    simp [obj]
  have body : b_Values___init__ v [some (.ref os.length), some (.str t)] (enter ⟨os ++ [.ins 0 v.c_Values [] []], fl⟩) = .nx [some (.ref os.length), some (.str t)] ⟨os ++ [obj v t 0], ((os ++ [O.ins 0 v.c_Values [] []]).length, false) :: fl⟩ := by
    have en : enter ⟨os ++ [.ins 0 v.c_Values [] []], fl⟩ = ⟨os ++ [.ins 0 v.c_Values [] []], ((os ++ [O.ins 0 v.c_Values [] []]).length, false) :: fl⟩ := rfl
    rw [en]
    generalize ((os ++ [O.ins 0 v.c_Values [] []]).length, false) :: fl = fl' at *
    have z1 := z1 fl'
    have z2 := z2 fl'
    generalize hk : os.length = k at *
    simp [b_Values___init__, gSeq, gFldSet, fVar, z1, fC, z2, gNx]
  show runF false 2 (b_Values___init__ v) _ _ = _
  unfold runF
  have e0 : List.map some [D.ref os.length, D.str t] ++ List.replicate (2 - [D.ref os.length, D.str t].length) none = [some (.ref os.length), some (.str t)] := rfl
  rw [e0, body]
  unfold ended leave thaw
  simp [D.lo]
  exact List.take_of_length_le (by simp)
theorem read_value_ok {t : List Nat} (ht : t.length ≤ 400000) (hc : ∀ c ∈ t, c < 1114112) (st : St) : h_read_value v [.str t] st = match readR t with
    | .told d => .ok d st
    | .bad p => .exc 0 [.int 1, .int ((p : Int) + 1)] st := by
  have e0 : List.map some [D.str t] ++ List.replicate (3 - [D.str t].length) none = [some (.str t), none, none] := rfl
  have isS : MP.isI (tabT "str") (enter st) (.str t) = some true := isi_str (st := enter st) (d := .str t) rfl
  -- the reader is made
  have mk : (fMake 0 v.c_Values 2 (h_Values___init__ v) (fCons (fVar 0) (fNil))) [some (.str t), none, none] (enter st) = .ok (.ref st.objs.length) ⟨st.objs ++ [obj v t 0], (st.objs.length, false) :: st.fls⟩ := by
    have z := init_ok v (t := t) (os := st.objs) (fl := (st.objs.length, false) :: st.fls)
    simp [fMake, fCons, fVar, fNil, MP.St.push, enter, z]
  have ob : ∀ (b : Nat), (⟨st.objs ++ [obj v t b], (st.objs.length, false) :: st.fls⟩ : St).objs[st.objs.length]? = some (obj v t b) := fun b => by
    show (st.objs ++ [obj v t b])[st.objs.length]? = _
    simp
  have vl := (value_all v ht hc (2 * t.length + 1)).1 60 62 0 ⟨st.objs ++ [obj v t 0], (st.objs.length, false) :: st.fls⟩ st.objs.length (ob 0) (by omega) (by decide) (by omega)
  rw [List.drop_zero] at vl
  have vl : h_Values_value v 62 [.ref st.objs.length, .int 60] ⟨st.objs ++ [obj v t 0], (st.objs.length, false) :: st.fls⟩ = _ := vl
  have okv := ok_value v (ob 0)
  have fct := p_facts (2 * t.length + 1)
  have sets : ∀ b, (st.objs ++ [obj v t 0]).set st.objs.length (obj v t b) = st.objs ++ [obj v t b] := fun b => by simp
  have cl : ∀ st : St, cLen [.str t] st = .ok (.int (t.length : Nat)) st := fun st => cLen_str (by omega)
  unfold readR
  cases hp : pv (2 * t.length + 1) 60 t with
  | bad r =>
    rw [hp] at vl
    simp only [resV, sets] at vl
    have z := run_excO (n := 3) (b := b_read_value v) (ds := [.str t]) (st := st) (c := 0) (fs := [.int 1, .int (((t.length - r.length : Nat) : Int) + 1)]) (os := st.objs ++ [obj v t (t.length - r.length)]) (by
      rw [e0]
      generalize ((t.length - r.length : Nat) : Int) = z at *
      simp [b_read_value, gSeq, gIf, fNotT, fB, fIsi, fVar, isS, gNx, gSet, mk, fMeth, okv, fCons, fC, fNil, vl]) rfl
    show runF false 3 (b_read_value v) _ st = _
    rw [z]
    simp
  | ok d r =>
    rw [hp] at vl
    simp only [resV, sets] at vl
    have hdn := ((fct.1 60 t).2 d r hp).1
    have hsuf : r <:+ t := by have := (fct.1 60 t).1; rw [hp] at this; exact this
    have hrl := ((fct.1 60 t).2 d r hp).2
    have g2 := fld_at v (ob (t.length - r.length))
    have lt : ∀ st : St, opLt (.int ((t.length - r.length : Nat) : Int)) (.int (t.length : Nat)) st = .ok (.bl (decide (r ≠ []))) st := fun st => by
      simp only [opOrd]; congr 2
      rw [Bool.eq_iff_iff]; simp only [decide_eq_true_eq]
      cases r with
      | nil => simp
      | cons x q => simp only [List.length_cons] at hrl ⊢; simp; omega
    by_cases hr : r = []
    · simp only [hr, if_true]
      have z := run_end (n := 3) (b := b_read_value v) (ds := [.str t]) (st := st) (d := d) (objs := st.objs ++ [obj v t (t.length - r.length)]) (by
        rw [e0]
        rw [decide_eq_false (by simpa using hr)] at lt
        generalize ((t.length - r.length : Nat) : Int) = z at *
        simp [b_read_value, gSeq, gIf, fNotT, fB, fIsi, fVar, isS, gNx, gSet, mk, fMeth, okv, fCons, fC, fNil, vl, f2, fFld, g2, fCall, cl, lt, gRet]) (nr_lo _ _ hdn)
      show runF false 3 (b_read_value v) _ st = _
      rw [z]
      simp
    · simp only [hr, if_false]
      have f1 := fail_ok v (ob (t.length - r.length))
      have f2' := ok_fail v (ob (t.length - r.length))
      have z := run_excO (n := 3) (b := b_read_value v) (ds := [.str t]) (st := st) (c := 0) (fs := [.int 1, .int (((t.length - r.length : Nat) : Int) + 1)]) (os := st.objs ++ [obj v t (t.length - r.length)]) (by
        rw [e0]
        rw [decide_eq_true (by simpa using hr)] at lt
        generalize ((t.length - r.length : Nat) : Int) = z at *
        simp [b_read_value, gSeq, gIf, fNotT, fB, fIsi, fVar, isS, gNx, gSet, mk, fMeth, okv, fCons, fC, fNil, vl, f2, fFld, g2, fCall, cl, lt, gExpr, f2', f1]) rfl
      show runF false 3 (b_read_value v) _ st = _
      rw [z]
      simp
theorem read_value_odd {d : MP.D} (h : d.s1 = true) (hs : d.isS = false) (st : St) : h_read_value v [d] st = .exc 1 [] st := by
  refine run_exc ?_ rfl
  have e := isi_str (st := enter st) h
  rw [hs] at e
  simp [b_read_value, gSeq, gIf, fNotT, fB, fIsi, fVar, e, gRaise0]
/-- .. as it is heard -/
def heardD : RR → MP.D
  | .told d => .tup [.str [116, 111, 108, 100], d]
  | .bad p => .tup [.str [98, 97, 100], .int ((p : Int) + 1)]
theorem heard_read {t : List Nat} (ht : t.length ≤ 400000) (hc : ∀ c ∈ t, c < 1114112) (st : St) : heardB 2 2 told__law_heard hs__law_heard (h_read_value v [.str t] st) = .ok (heardD (readR t)) st := by
  rw [read_value_ok v ht hc]
  cases readR t with
  | told d => rfl
  | bad p => rfl
theorem heard_nothing (st : St) : heardB 2 2 told__law_heard hs__law_heard (.exc 1 [] st) = .ok (.tup [.str [110, 111, 116, 104, 105, 110, 103]]) st := rfl
end K10

set_option maxRecDepth 100000
set_option maxHeartbeats 2000000
/-! YJ: k10, the grammar without fuel; the law's own reader as a machine, in plain Lean. -/
namespace K10
open PySem MP
theorem pv_eq (n k : Nat) (u : List Nat) : pv (n + 1) k u = if u.take 1 = [40] then (if k = 0 then .bad u else pis n (k - 1) [] (u.drop 1)) else match runV (u.takeWhile nS) with
    | none => .bad u
    | some d => .ok d (u.dropWhile nS) := by rw [pv] <;> rfl
theorem pis_eq (n k : Nat) (acc : List MP.D) (u : List Nat) : pis (n + 1) k acc u = if u.take 1 = [41] then .ok (.tup acc) (u.drop 1) else if acc = [] then (match pv n k u with
      | .ok d r => pis n k [d] r
      | .bad r => .bad r) else if u.take 1 = [32] then (match pv n k (u.drop 1) with
      | .ok d r => pis n k (acc ++ [d]) r
      | .bad r => .bad r) else .bad u := by rw [pis] <;> rfl
theorem drop1_lt {u : List Nat} {c : Nat} (h : u.take 1 = [c]) : (u.drop 1).length + 1 = u.length := by
  cases u with
  | nil => cases h
  | cons x q => simp
theorem p_more : ∀ n : Nat, (∀ k u, 2 * u.length + 1 ≤ n → pv n k u = pv (n + 1) k u) ∧ (∀ k acc u, D.nrs acc = true → 2 * u.length + 2 ≤ n → pis n k acc u = pis (n + 1) k acc u)
  | 0 => ⟨fun k u h => by omega, fun k acc u _ h => by omega⟩
  | n + 1 => by
    obtain ⟨iv, ii⟩ := p_more n
    refine ⟨fun k u h => ?_, fun k acc u ha h => ?_⟩
    · rw [pv_eq, pv_eq]
      by_cases h40 : u.take 1 = [40]
      · have := drop1_lt h40
        rw [if_pos h40, if_pos h40, ii (k - 1) [] (u.drop 1) rfl (by omega)]
      · rw [if_neg h40, if_neg h40]
    · rw [pis_eq, pis_eq]
      by_cases h41 : u.take 1 = [41]
      · rw [if_pos h41, if_pos h41]
      · rw [if_neg h41, if_neg h41]
        by_cases ha0 : acc = []
        · rw [if_pos ha0, if_pos ha0, ← iv k u (by omega)]
          cases hp : pv n k u with
          | bad r => rfl
          | ok d r =>
            obtain ⟨e, f⟩ := ((p_facts n).1 k u).2 d r hp
            exact ii k [d] r (by simp [D.nrs, e]) (by omega)
        · rw [if_neg ha0, if_neg ha0]
          by_cases h32 : u.take 1 = [32]
          · have := drop1_lt h32
            rw [if_pos h32, if_pos h32, ← iv k (u.drop 1) (by omega)]
            cases hp : pv n k (u.drop 1) with
            | bad r => rfl
            | ok d r =>
              obtain ⟨e, f⟩ := ((p_facts n).1 k (u.drop 1)).2 d r hp
              exact ii k (acc ++ [d]) r (by rw [nrs_append, ha]; simp [D.nrs, e]) (by omega)
          · rw [if_neg h32, if_neg h32]
theorem pv_any {k : Nat} {u : List Nat} {n m : Nat} (h : 2 * u.length + 1 ≤ n) (hm : n ≤ m) : pv m k u = pv n k u := by
  obtain ⟨d, rfl⟩ : ∃ d, m = n + d := ⟨m - n, by omega⟩
  induction d with
  | zero => rfl
  | succ d ih => rw [← Nat.add_assoc, ← (p_more (n + d)).1 k u (by omega)]; exact ih (by omega)
theorem pis_any {k : Nat} {acc : List MP.D} {u : List Nat} {n m : Nat} (ha : D.nrs acc = true) (h : 2 * u.length + 2 ≤ n) (hm : n ≤ m) : pis m k acc u = pis n k acc u := by
  obtain ⟨d, rfl⟩ : ∃ d, m = n + d := ⟨m - n, by omega⟩
  induction d with
  | zero => rfl
  | succ d ih => rw [← Nat.add_assoc, ← (p_more (n + d)).2 k acc u ha (by omega)]; exact ih (by omega)
def PV (k : Nat) (u : List Nat) : PR := pv (2 * u.length + 1) k u
def PI (k : Nat) (acc : List MP.D) (u : List Nat) : PR := pis (2 * u.length + 2) k acc u
theorem PV_eq (k : Nat) (u : List Nat) : PV k u = if u.take 1 = [40] then (if k = 0 then .bad u else PI (k - 1) [] (u.drop 1)) else match runV (u.takeWhile nS) with
    | none => .bad u
    | some d => .ok d (u.dropWhile nS) := by
  unfold PV PI
  rw [pv_eq]
  by_cases h40 : u.take 1 = [40]
  · have := drop1_lt h40
    rw [if_pos h40, if_pos h40, pis_any (n := 2 * (u.drop 1).length + 2) rfl (by omega) (by omega)]
  · rw [if_neg h40, if_neg h40]
theorem PI_eq (k : Nat) (acc : List MP.D) (u : List Nat) (ha : D.nrs acc = true) : PI k acc u = if u.take 1 = [41] then .ok (.tup acc) (u.drop 1) else if acc = [] then (match PV k u with
      | .ok d r => PI k [d] r
      | .bad r => .bad r) else if u.take 1 = [32] then (match PV k (u.drop 1) with
      | .ok d r => PI k (acc ++ [d]) r
      | .bad r => .bad r) else .bad u := by
  unfold PI PV
  rw [show 2 * u.length + 2 = (2 * u.length + 1) + 1 from rfl, pis_eq]
  by_cases h41 : u.take 1 = [41]
  · rw [if_pos h41, if_pos h41]
  · rw [if_neg h41, if_neg h41]
    by_cases ha0 : acc = []
    · rw [if_pos ha0, if_pos ha0]
      cases hp : pv (2 * u.length + 1) k u with
      | bad r => rfl
      | ok d r =>
        obtain ⟨e, f⟩ := ((p_facts _).1 k u).2 d r hp
        exact pis_any (by simp [D.nrs, e]) (by omega) (by omega)
    · rw [if_neg ha0, if_neg ha0]
      by_cases h32 : u.take 1 = [32]
      · have := drop1_lt h32
        rw [if_pos h32, if_pos h32, pv_any (n := 2 * (u.drop 1).length + 1) (Nat.le_refl _) (by omega)]
        cases hp : pv (2 * (u.drop 1).length + 1) k (u.drop 1) with
        | bad r => rfl
        | ok d r =>
          obtain ⟨e, f⟩ := ((p_facts _).1 k (u.drop 1)).2 d r hp
          exact pis_any (by rw [nrs_append, ha]; simp [D.nrs, e]) (by omega) (by omega)
      · rw [if_neg h32, if_neg h32]
/-! ### the machine -/
inductive RU where
  | told (d : MP.D)
  | bad (r : List Nat)
inductive Wt where
  | value | first | behind | fin (d : MP.D)
def finR : PR → RU
  | .ok d r => if r = [] then .told d else .bad r
  | .bad r => .bad r
def cont : List (List MP.D) → PR → RU
  | [], x => finR x
  | _ :: _, .bad r => .bad r
  | acc :: ks, .ok d r => cont ks (PI (60 - (ks.length + 1)) (acc ++ [d]) r)
theorem cont_bad (ks : List (List MP.D)) (r : List Nat) : cont ks (.bad r) = .bad r := by
  cases ks <;> rfl
/-- what is left to be read, at such a stand -/
def den : List (List MP.D) → Wt → List Nat → RU
  | ks, .value, u => cont ks (PV (60 - ks.length) u)
  | acc :: ks, .first, u => cont ks (PI (60 - (ks.length + 1)) acc u)
  | acc :: ks, .behind, u => cont ks (PI (60 - (ks.length + 1)) acc u)
  | _, .fin d, u => finR (.ok d u)
  | [], _, u => .bad u
inductive MT where
  | go (ks : List (List MP.D)) (w : Wt) (u : List Nat)
  | stop (x : RU)
def deliver : List (List MP.D) → MP.D → List Nat → MT
  | [], d, u => .go [] (.fin d) u
  | acc :: ks, d, u => .go ((acc ++ [d]) :: ks) .behind u
def Wt.open : Wt → Bool
  | .value => true | .first => true | _ => false
def Wt.shut : Wt → Bool
  | .first => true | .behind => true | _ => false
def Wt.isB : Wt → Bool
  | .behind => true | _ => false
/-- a turn at a sign -/
def mturn (ks : List (List MP.D)) (w : Wt) (u : List Nat) (c : Nat) : MT :=
  if c = 40 ∧ w.open = true then (if ks.length = 60 then .stop (.bad u) else .go ([] :: ks) .first (u.drop 1))
  else if c = 32 ∧ w.isB = true then .go ks .value (u.drop 1)
  else if c = 41 ∧ w.shut = true then (match ks with
    | [] => .stop (.bad u)
    | acc :: ks => deliver ks (.tup acc) (u.drop 1))
  else if nS c = true ∧ w.open = true then (match runV (u.takeWhile nS) with
    | none => .stop (.bad u)
    | some d => deliver ks d (u.dropWhile nS))
  else .stop (.bad u)
/-- the stands that come to be -/
def good : List (List MP.D) → Wt → Prop
  | ks, w => (∀ acc ∈ ks, D.nrs acc = true) ∧ ks.length ≤ 60 ∧ match w with
    | .value => True
    | .first => ∃ ks', ks = [] :: ks'
    | .behind => ∃ acc ks', ks = acc :: ks' ∧ acc ≠ []
    | .fin d => ks = [] ∧ d.nr = true
theorem good_deliver {ks : List (List MP.D)} {d : MP.D} {u : List Nat} (h1 : ∀ acc ∈ ks, D.nrs acc = true) (h2 : ks.length ≤ 60) (hd : d.nr = true) : ∃ ks' w', deliver ks d u = .go ks' w' u ∧ good ks' w' ∧ den ks' w' u = cont ks (.ok d u) := by
  cases ks with
  | nil => exact ⟨[], .fin d, rfl, ⟨h1, h2, rfl, hd⟩, rfl⟩
  | cons acc ks =>
    refine ⟨(acc ++ [d]) :: ks, .behind, rfl, ⟨fun x hx => ?_, h2, acc ++ [d], ks, rfl, by simp⟩, rfl⟩
    rcases List.mem_cons.mp hx with rfl | hx
    · rw [nrs_append, h1 acc List.mem_cons_self]; simp [D.nrs, hd]
    · exact h1 x (List.mem_cons_of_mem _ hx)
theorem takeWhile_head {c : Nat} {u : List Nat} (h : nS c = false) : (c :: u).takeWhile nS = [] := by simp [h]
theorem mturn_den {ks : List (List MP.D)} {w : Wt} {c : Nat} {u' : List Nat} (g : good ks w) (hw : ∀ d, w ≠ .fin d) : match mturn ks w (c :: u') c with
    | .stop x => den ks w (c :: u') = x
    | .go ks2 w2 u2 => den ks w (c :: u') = den ks2 w2 u2 ∧ good ks2 w2 ∧ u2.length < (c :: u').length ∧ u2 <:+ (c :: u') := by
  obtain ⟨g1, g2, g3⟩ := g
  have tk : ∀ x : Nat, (c :: u').take 1 = [x] ↔ c = x := fun x => by simp
  -- a value at the head
  have valueAt : ∀ ks : List (List MP.D), (∀ acc ∈ ks, D.nrs acc = true) → ks.length ≤ 60 → c ≠ 40 → (nS c = true → match runV ((c :: u').takeWhile nS) with
      | none => cont ks (PV (60 - ks.length) (c :: u')) = .bad (c :: u')
      | some d => cont ks (PV (60 - ks.length) (c :: u')) = cont ks (.ok d ((c :: u').dropWhile nS))) ∧ (nS c = false → cont ks (PV (60 - ks.length) (c :: u')) = .bad (c :: u')) := fun ks _ _ h40 => by
    rw [PV_eq, if_neg (fun z => h40 ((tk 40).mp z))]
    refine ⟨fun h => ?_, fun h => ?_⟩
    · cases runV ((c :: u').takeWhile nS) with
      | none => exact cont_bad _ _
      | some d => rfl
    · rw [takeWhile_head h]
      exact cont_bad _ _
  have delv : ∀ (ks : List (List MP.D)) (d : MP.D) (r : List Nat), (∀ acc ∈ ks, D.nrs acc = true) → ks.length ≤ 60 → d.nr = true → ∀ X : RU, X = cont ks (.ok d r) → r.length < (c :: u').length → r <:+ (c :: u') → match deliver ks d r with
      | .stop x => X = x
      | .go ks2 w2 u2 => X = den ks2 w2 u2 ∧ good ks2 w2 ∧ u2.length < (c :: u').length ∧ u2 <:+ (c :: u') := fun ks d r h1 h2 hd X hX hr hs => by
    obtain ⟨ks', w', e, gd, dn⟩ := good_deliver (u := r) h1 h2 hd
    rw [e]
    exact ⟨by rw [hX, dn], gd, hr, hs⟩
  have runR : ∀ d, runV ((c :: u').takeWhile nS) = some d → d.nr = true ∧ ((c :: u').dropWhile nS).length < (c :: u').length := fun d hd => by
    obtain ⟨a, b⟩ := runV_ok hd
    refine ⟨a, ?_⟩
    have e : ((c :: u').takeWhile nS).length + ((c :: u').dropWhile nS).length = (c :: u').length := by rw [← List.length_append, List.takeWhile_append_dropWhile]
    have := List.length_pos_iff.mpr b
    omega
  have n40 : nS 40 = false := rfl
  have n41 : nS 41 = false := rfl
  have n32 : nS 32 = false := rfl
  -- a value is wished, whatever stands open
  have opened : ∀ (X : RU), X = cont ks (PV (60 - ks.length) (c :: u')) → (c = 41 → X = .bad (c :: u') ∨ w = .first) → w.open = true → (c ≠ 41 ∨ w.shut = false) → match mturn ks w (c :: u') c with
      | .stop x => X = x
      | .go ks2 w2 u2 => X = den ks2 w2 u2 ∧ good ks2 w2 ∧ u2.length < (c :: u').length ∧ u2 <:+ (c :: u') := fun X hX h41 ho hsh => by
    have hnb : w.isB = false := by cases w <;> first | rfl | cases ho
    unfold mturn
    by_cases h40 : c = 40
    · subst h40
      rw [if_pos ⟨rfl, ho⟩]
      rw [PV_eq, if_pos ((tk 40).mpr rfl)] at hX
      by_cases h60 : ks.length = 60
      · rw [if_pos h60]
        rw [h60, Nat.sub_self, if_pos rfl, cont_bad] at hX
        exact hX
      · rw [if_neg h60]
        rw [if_neg (by omega)] at hX
        refine ⟨by rw [hX, show 60 - ks.length - 1 = 60 - (ks.length + 1) from by omega]; rfl, ⟨fun a ha => ?_, by simp only [List.length_cons]; omega, ks, rfl⟩, by simp, List.drop_suffix 1 _⟩
        rcases List.mem_cons.mp ha with rfl | ha
        · rfl
        · exact g1 a ha
    · rw [if_neg (fun z => h40 z.1), if_neg (fun z => by rw [hnb] at z; cases z.2)]
      obtain ⟨va, vb⟩ := valueAt ks g1 g2 h40
      have hns : ¬ (c = 41 ∧ w.shut = true) := fun z => by
        rcases hsh with q | q
        · exact q z.1
        · rw [q] at z; cases z.2
      rw [if_neg hns]
      cases hn : nS c with
      | true =>
        rw [if_pos ⟨rfl, ho⟩]
        have va := va hn
        cases hr : runV ((c :: u').takeWhile nS) with
        | none => rw [hr] at va; simp only at va ⊢; rw [hX, va]
        | some d =>
          rw [hr] at va
          obtain ⟨a, b⟩ := runR d hr
          exact delv ks d _ g1 g2 a X (by rw [hX]; exact va) b (List.dropWhile_suffix nS)
      | false =>
        rw [if_neg (fun z => by cases z.1)]
        simp only
        rw [hX, vb hn]
  cases w with
  | fin d => exact absurd rfl (hw d)
  | value => exact opened _ rfl (fun h => by
      subst h
      left
      show cont ks (PV (60 - ks.length) (41 :: u')) = _
      exact (valueAt ks g1 g2 (by decide)).2 rfl) rfl (.inr rfl)
  | first =>
    obtain ⟨ks', rfl⟩ := g3
    have hP : den ([] :: ks') .first (c :: u') = cont ks' (PI (60 - (ks'.length + 1)) [] (c :: u')) := rfl
    by_cases h41 : c = 41
    · subst h41
      rw [PI_eq _ _ _ rfl, if_pos ((tk 41).mpr rfl)] at hP
      have := delv ks' (.tup []) u' (fun a ha => g1 a (List.mem_cons_of_mem _ ha)) (by simp only [List.length_cons] at g2; omega) rfl _ hP (by simp) (List.suffix_cons 41 u')
      exact this
    · have hX : den ([] :: ks') .first (c :: u') = cont ([] :: ks') (PV (60 - ([] :: ks').length) (c :: u')) := by
        rw [hP, PI_eq _ _ _ rfl, if_neg (fun z => h41 ((tk 41).mp z)), if_pos rfl]
        simp only [List.length_cons]
        cases PV (60 - (ks'.length + 1)) (c :: u') with
        | bad r => exact cont_bad _ _
        | ok d r => rfl
      exact opened _ hX (fun h => absurd h h41) rfl (.inl h41)
  | behind =>
    obtain ⟨acc, ks', rfl, hne⟩ := g3
    have hacc := g1 acc List.mem_cons_self
    have hP : den (acc :: ks') .behind (c :: u') = cont ks' (PI (60 - (ks'.length + 1)) acc (c :: u')) := rfl
    rw [PI_eq _ _ _ hacc, if_neg hne] at hP
    unfold mturn
    rw [if_neg (fun z => by cases z.2)]
    by_cases h32 : c = 32
    · subst h32
      rw [if_pos ⟨rfl, rfl⟩]
      rw [if_neg (fun z => absurd ((tk 41).mp z) (by decide)), if_pos ((tk 32).mpr rfl)] at hP
      refine ⟨?_, ⟨g1, g2, trivial⟩, by simp, List.drop_suffix 1 _⟩
      rw [hP]
      show _ = cont (acc :: ks') (PV (60 - (acc :: ks').length) ((32 :: u').drop 1))
      simp only [List.length_cons]
      cases PV (60 - (ks'.length + 1)) ((32 :: u').drop 1) with
      | bad r => exact cont_bad _ _
      | ok d r => rfl
    · rw [if_neg (fun z => h32 z.1)]
      by_cases h41 : c = 41
      · subst h41
        rw [if_pos ⟨rfl, rfl⟩]
        rw [if_pos ((tk 41).mpr rfl)] at hP
        exact delv ks' (.tup acc) u' (fun a ha => g1 a (List.mem_cons_of_mem _ ha)) (by simp only [List.length_cons] at g2; omega) (by simpa [D.nr] using hacc) _ hP (by simp) (List.suffix_cons 41 u')
      · rw [if_neg (fun z => h41 z.1), if_neg (fun z => by cases z.2)]
        rw [if_neg (fun z => h41 ((tk 41).mp z)), if_neg (fun z => h32 ((tk 32).mp z))] at hP
        simp only
        rw [hP, cont_bad]
theorem den_nil {ks : List (List MP.D)} {w : Wt} (g : good ks w) (hw : ∀ d, w ≠ .fin d) : den ks w [] = .bad [] := by
  obtain ⟨g1, g2, g3⟩ := g
  have pvn : ∀ k, PV k [] = .bad [] := fun k => rfl
  cases w with
  | fin d => exact absurd rfl (hw d)
  | value => show cont ks (PV _ []) = _; rw [pvn, cont_bad]
  | first =>
    obtain ⟨ks', rfl⟩ := g3
    show cont ks' (PI _ [] []) = _
    rw [PI_eq _ _ _ rfl, if_neg (by decide), if_pos rfl, pvn, cont_bad]
  | behind =>
    obtain ⟨acc, ks', rfl, hne⟩ := g3
    show cont ks' (PI _ acc []) = _
    rw [PI_eq _ _ _ (g1 acc List.mem_cons_self), if_neg (by decide), if_neg hne, if_neg (by decide), cont_bad]
/-- from the beginning -/
theorem den_read (t : List Nat) : (match den [] .value t with | .told d => RR.told d | .bad r => .bad (t.length - r.length)) = readR t := by
  show (match finR (PV 60 t) with | .told d => RR.told d | .bad r => .bad (t.length - r.length)) = _
  unfold readR PV
  cases pv (2 * t.length + 1) 60 t with
  | bad r => rfl
  | ok d r =>
    simp only [finR]
    by_cases h : r = []
    · simp [h]
    · simp [h]
end K10

set_option maxRecDepth 100000
set_option maxHeartbeats 4000000
/-! YK: k10, the law's reader: its store, its turns. -/
namespace K10
open PySem MP
variable (v : Vv)
def T1 : Env → St → SO := (gIf (fOrT (fB (f2 opEq (fVar 3) (fC (.str [101, 110, 100])))) (fB (f2 opGe (fVar 2) (fCall cLen (fCons (fVar 0) (fNil)))))) (gSeq (gBrk) (gNx)) (gNx))
def T2 : Env → St → SO := (gPar 5 6 (fCons (f2 opIdx (fVar 0) (fVar 2)) (fCons (fTup (fNil)) (fNil))))
def T3 : Env → St → SO := (gIf (fAndT (fB (f2 opEq (fVar 5) (fC (.str [40])))) (fB (f2 opIn (fVar 3) (fTup (fCons (fC (.str [118, 97, 108, 117, 101])) (fCons (fC (.str [102, 105, 114, 115, 116])) (fNil))))))) (gSeq (gIf (fB (f2 opEq (fCall cLen (fCons (fVar 1) (fNil))) (fC (.int 60)))) (gSeq (gRet (fTup (fCons (fC (.str [98, 97, 100])) (fCons (f2 opAdd (fVar 2) (fC (.int 1))) (fNil))))) (gNx)) (gNx)) (gSeq (gExpr (fMtL mAppend (fVar 1) (fCons (fBox (fNil)) (fNil)))) (gSeq (gPar 2 3 (fCons (f2 opAdd (fVar 2) (fC (.int 1))) (fCons (fC (.str [102, 105, 114, 115, 116])) (fNil)))) (gSeq (gCont) (gNx))))) (gNx))
def T4 : Env → St → SO := (gIf (fAndT (fB (f2 opEq (fVar 5) (fC (.str [32])))) (fB (f2 opEq (fVar 3) (fC (.str [98, 101, 104, 105, 110, 100]))))) (gSeq (gPar 2 3 (fCons (f2 opAdd (fVar 2) (fC (.int 1))) (fCons (fC (.str [118, 97, 108, 117, 101])) (fNil)))) (gSeq (gCont) (gNx))) (gNx))
def T5 : Env → St → SO := (gIf (fAndT (fB (f2 opEq (fVar 5) (fC (.str [41])))) (fB (f2 opIn (fVar 3) (fTup (fCons (fC (.str [102, 105, 114, 115, 116])) (fCons (fC (.str [98, 101, 104, 105, 110, 100])) (fNil))))))) (gSeq (gPar 6 2 (fCons (fTup (fCons (fCall cTup (fCons (fMtL mPop (fVar 1) fNil) (fNil))) (fNil))) (fCons (f2 opAdd (fVar 2) (fC (.int 1))) (fNil)))) (gNx)) (gSeq (gIf (fAndT (fB (f2 opNotIn (fVar 5) (fTup (fCons (fC (.str [40])) (fCons (fC (.str [41])) (fCons (fC (.str [32])) (fNil))))))) (fB (f2 opIn (fVar 3) (fTup (fCons (fC (.str [118, 97, 108, 117, 101])) (fCons (fC (.str [102, 105, 114, 115, 116])) (fNil))))))) (gSeq (gSet 7 (fVar 2)) (gSeq (gFor (fRg2 (fCons (fVar 2) (fCons (f2 opAdd (fCall cLen (fCons (fVar 0) (fNil))) (fC (.int 1))) (fNil)))) (tgName 7) (gSeq (gIf (fOrT (fB (f2 opEq (fVar 7) (fCall cLen (fCons (fVar 0) (fNil))))) (fB (f2 opIn (f2 opIdx (fVar 0) (fVar 7)) (fTup (fCons (fC (.str [40])) (fCons (fC (.str [41])) (fCons (fC (.str [32])) (fNil)))))))) (gSeq (gBrk) (gNx)) (gNx)) (gNx))) (gSeq (gSet 6 (fDef 1 (h__law_run_value v) (fCons (fSlc (fVar 0) (fPart (fVar 2)) (fPart (fVar 7))) (fNil)))) (gSeq (gIf (fB (f2 opEq (fVar 6) (fTup (fNil)))) (gSeq (gRet (fTup (fCons (fC (.str [98, 97, 100])) (fCons (f2 opAdd (fVar 2) (fC (.int 1))) (fNil))))) (gNx)) (gNx)) (gSeq (gSet 2 (fVar 7)) (gNx)))))) (gSeq (gRet (fTup (fCons (fC (.str [98, 97, 100])) (fCons (f2 opAdd (fVar 2) (fC (.int 1))) (fNil))))) (gNx))) (gNx)))
def T6 : Env → St → SO := (gIf (fB (f2 opEq (fVar 1) (fLst (fNil)))) (gSeq (gSet 3 (fC (.str [101, 110, 100]))) (gSeq (gSet 8 (f2 opIdx (fVar 6) (fC (.int 0)))) (gNx))) (gSeq (gExpr (fMtL mAppend (f2 opIdx (fVar 1) (f1 opNeg (fC (.int 1)))) (fCons (f2 opIdx (fVar 6) (fC (.int 0))) (fNil)))) (gSeq (gSet 3 (fC (.str [98, 101, 104, 105, 110, 100]))) (gNx))))
def bodyE : Env → St → SO := (gSeq (gIf (fOrT (fB (f2 opEq (fVar 7) (fCall cLen (fCons (fVar 0) (fNil))))) (fB (f2 opIn (f2 opIdx (fVar 0) (fVar 7)) (fTup (fCons (fC (.str [40])) (fCons (fC (.str [41])) (fCons (fC (.str [32])) (fNil)))))))) (gSeq (gBrk) (gNx)) (gNx)) (gNx))
def bodyO : Env → St → SO := gSeq T1 (gSeq T2 (gSeq T3 (gSeq T4 (gSeq (T5 v) (gSeq T6 gNx)))))
def U1 : Env → St → SO := (gIf (fOrT (fB (f2 opNe (fVar 3) (fC (.str [101, 110, 100])))) (fB (f2 opLt (fVar 2) (fCall cLen (fCons (fVar 0) (fNil)))))) (gSeq (gRet (fTup (fCons (fC (.str [98, 97, 100])) (fCons (f2 opAdd (fVar 2) (fC (.int 1))) (fNil))))) (gNx)) (gNx))
def U2 : Env → St → SO := (gRet (fTup (fCons (fC (.str [116, 111, 108, 100])) (fCons (fVar 8) (fNil)))))
theorem b_lrv_eq : b__law_read_value v = gSeq (gPar3 1 2 3 (fCons (fBox (fNil)) (fCons (fC (.int 0)) (fCons (fC (.str [118, 97, 108, 117, 101])) (fNil))))) (gSeq (gFor (fRg1 (fCons (f2 opAdd (fCall cLen (fCons (fVar 0) (fNil))) (fC (.int 1))) (fNil))) (tgName 4) (bodyO v)) (gSeq U1 (gSeq U2 gNx))) := rfl
/-! ### the store -/
theorem put_hi {st : St} {i : Nat} {o : O} (h : ∀ p ∈ st.fls, p.1 ≤ i) : st.put i o = ⟨st.objs.set i o, st.fls⟩ := by
  unfold St.put
  congr 1
  conv => rhs; rw [← List.map_id st.fls]
  refine List.map_congr_left fun p hp => ?_
  have := h p hp
  simp [show ¬ i < p.1 from by omega]
structure Rep (os0 objs : List O) (js : List Nat) (ks : List (List MP.D)) : Prop where
  pre : objs.take os0.length = os0
  stk : objs[os0.length]? = some (.lst (js.reverse.map .ref))
  len : js.length = ks.length
  at_ : ∀ (p j : Nat) (acc : List MP.D), js[p]? = some j → ks[p]? = some acc → os0.length < j ∧ objs[j]? = some (.lst acc)
  nd : js.Nodup
theorem Rep.top {os0 objs : List O} {j : Nat} {js : List Nat} {acc : List MP.D} {ks : List (List MP.D)} (r : Rep os0 objs (j :: js) (acc :: ks)) : os0.length < j ∧ objs[j]? = some (.lst acc) := r.at_ 0 j acc rfl rfl
theorem lt_of_some {os : List O} {i : Nat} {o : O} (h : os[i]? = some o) : i < os.length := (List.getElem?_eq_some_iff.mp h).1
theorem take_set {os : List O} {n i : Nat} {o : O} (h : n ≤ i) : (os.set i o).take n = os.take n := by
  rw [List.take_set_of_le h]
theorem Rep.push {os0 objs : List O} {js : List Nat} {ks : List (List MP.D)} (r : Rep os0 objs js ks) : Rep os0 ((objs ++ [O.lst []]).set os0.length (.lst ((objs.length :: js).reverse.map .ref))) (objs.length :: js) ([] :: ks) := by
  have hl := lt_of_some r.stk
  refine ⟨?_, ?_, by simp [r.len], fun p j acc h1 h2 => ?_, ?_⟩
  · rw [take_set (Nat.le_refl _), List.take_append_of_le_length (by omega), r.pre]
  · rw [List.getElem?_set_self (by simp; omega)]
  · cases p with
    | zero =>
      simp only [List.getElem?_cons_zero, Option.some.injEq] at h1 h2
      subst h1; subst h2
      refine ⟨hl, ?_⟩
      rw [List.getElem?_set_ne (by omega), List.getElem?_append_right (Nat.le_refl _)]
      simp
    | succ p =>
      simp only [List.getElem?_cons_succ] at h1 h2
      obtain ⟨a, b⟩ := r.at_ p j acc h1 h2
      refine ⟨a, ?_⟩
      rw [List.getElem?_set_ne (by omega), List.getElem?_append_left (lt_of_some b)]
      exact b
  · refine List.nodup_cons.mpr ⟨fun h => ?_, r.nd⟩
    obtain ⟨p, hp, e⟩ := List.getElem_of_mem h
    obtain ⟨_, b⟩ := r.at_ p objs.length (ks[p]'(by rw [← r.len]; exact hp)) (by rw [List.getElem?_eq_getElem hp, e]) (List.getElem?_eq_getElem _)
    have := lt_of_some b
    omega
theorem Rep.pop {os0 objs : List O} {j : Nat} {js : List Nat} {acc : List MP.D} {ks : List (List MP.D)} (r : Rep os0 objs (j :: js) (acc :: ks)) : Rep os0 (objs.set os0.length (.lst (js.reverse.map .ref))) js ks := by
  refine ⟨by rw [take_set (Nat.le_refl _), r.pre], by rw [List.getElem?_set_self (lt_of_some r.stk)], by simpa using r.len, fun p i a h1 h2 => ?_, (List.nodup_cons.mp r.nd).2⟩
  obtain ⟨x, y⟩ := r.at_ (p + 1) i a (by simpa using h1) (by simpa using h2)
  exact ⟨x, by rw [List.getElem?_set_ne (by omega)]; exact y⟩
theorem Rep.app {os0 objs : List O} {j : Nat} {js : List Nat} {acc : List MP.D} {ks : List (List MP.D)} (r : Rep os0 objs (j :: js) (acc :: ks)) (d : MP.D) : Rep os0 (objs.set j (.lst (acc ++ [d]))) (j :: js) ((acc ++ [d]) :: ks) := by
  obtain ⟨a, b⟩ := r.top
  refine ⟨by rw [take_set (by omega), r.pre], by rw [List.getElem?_set_ne (by omega)]; exact r.stk, r.len, fun p i a' h1 h2 => ?_, r.nd⟩
  cases p with
  | zero =>
    simp only [List.getElem?_cons_zero, Option.some.injEq] at h1 h2
    subst h1; subst h2
    exact ⟨a, by rw [List.getElem?_set_self (lt_of_some b)]⟩
  | succ p =>
    simp only [List.getElem?_cons_succ] at h1 h2
    obtain ⟨x, y⟩ := r.at_ (p + 1) i a' (by simpa using h1) (by simpa using h2)
    have : j ≠ i := fun z => (List.nodup_cons.mp r.nd).1 (z ▸ List.mem_of_getElem? h1)
    exact ⟨x, by rw [List.getElem?_set_ne this]; exact y⟩
/-! ### words, tests -/
def Wt.word : Wt → List Nat
  | .value => [118, 97, 108, 117, 101]
  | .first => [102, 105, 114, 115, 116]
  | .behind => [98, 101, 104, 105, 110, 100]
  | .fin _ => [101, 110, 100]
theorem w_open (w : Wt) (st : St) : opIn (.str w.word) (.tup [.str [118, 97, 108, 117, 101], .str [102, 105, 114, 115, 116]]) st = .ok (.bl w.open) st := by
  cases w <;> rfl
theorem w_shut (w : Wt) (st : St) : opIn (.str w.word) (.tup [.str [102, 105, 114, 115, 116], .str [98, 101, 104, 105, 110, 100]]) st = .ok (.bl w.shut) st := by
  cases w <;> rfl
theorem w_isB (w : Wt) (st : St) : opEq (.str w.word) (.str [98, 101, 104, 105, 110, 100]) st = .ok (.bl w.isB) st := by
  cases w <;> rfl
theorem sg_in (c : Nat) (st : St) : opIn (.str [c]) (.tup [.str [40], .str [41], .str [32]]) st = .ok (.bl !(nS c)) st := by
  have : inD st (.str [c]) (.tup [.str [40], .str [41], .str [32]]) = some !(nS c) := by
    have h : ([D.str [40], D.str [41], D.str [32]].any fun y => eqF y (.str [c])) = !(nS c) := by
      simp only [List.any_cons, List.any_nil, eqF, Bool.or_false]
      unfold nS
      rw [Bool.eq_iff_iff]
      simp
      omega
    simp only [inD, seqOf, flat, List.all_cons, List.all_nil, Bool.and_self, and_self, if_true, h]
  unfold opIn
  rw [this]
theorem sg_notIn (c : Nat) (st : St) : opNotIn (.str [c]) (.tup [.str [40], .str [41], .str [32]]) st = .ok (.bl (nS c)) st := by
  have := sg_in c st
  unfold opIn at this
  unfold opNotIn
  cases e : inD st (.str [c]) (.tup [.str [40], .str [41], .str [32]]) with
  | none => rw [e] at this; cases this
  | some b => rw [e] at this; cases this; simp
abbrev envO (t : List Nat) (n0 : Nat) (a : Nat) (w : Wt) (e4 e5 e6 e7 e8 : Option MP.D) : Env := [some (.str t), some (.ref n0), some (.int (a : Int)), some (.str w.word), e4, e5, e6, e7, e8]
/-! ### where a run ends -/
theorem rg_succ (e : Int) (n : Nat) : rg e (n + 1) = .int e :: rg (e + 1) n := by
  unfold rg
  rw [List.range_succ_eq_map, List.map_cons, List.map_map]
  congr 1
  · simp
  · refine List.map_congr_left fun i _ => ?_
    simp only [Function.comp]
    congr 1
    push_cast; omega
theorem endLoop {t : List Nat} (ht : t.length ≤ 400000) {n0 a : Nat} {w : Wt} {e4 e5 e6 e8 : Option MP.D} {st : St} : ∀ (n e : Nat) (e7 : Option MP.D), e + n = t.length → 
    gLoop (tgName 7) bodyE (rg (e : Int) (n + 1)) (envO t n0 a w e4 e5 e6 e7 e8) st = .nx (envO t n0 a w e4 e5 e6 (some (.int ((e + ((t.drop e).takeWhile nS).length : Nat) : Int))) e8) st := by
  intro n
  induction n with
  | zero =>
    intro e e7 h
    rw [rg_succ]
    have : e = t.length := by omega
    subst this
    have cl := cLen_str (st := st) (show t.length ≤ 16777216 by omega)
    have eq : opEq (.int (t.length : Int)) (.int (t.length : Nat)) st = .ok (.bl true) st := by rw [opEq_int]; simp
    simp only [gLoop, tgName, List.set_cons_succ, List.set_cons_zero]
    have b : bodyE [some (.str t), some (.ref n0), some (.int (a : Int)), some (.str w.word), e4, e5, e6, some (.int (t.length : Int)), e8] st = .brk [some (.str t), some (.ref n0), some (.int (a : Int)), some (.str w.word), e4, e5, e6, some (.int (t.length : Int)), e8] st := by
      simp [bodyE, gSeq, gIf, fOrT, fB, f2, fVar, fCall, fCons, fNil, cl, eq, gBrk]
    rw [b]
    simp
  | succ n ih =>
    intro e e7 h
    rw [rg_succ]
    have he : e < t.length := by omega
    have cl := cLen_str (st := st) (show t.length ≤ 16777216 by omega)
    have eq : opEq (.int (e : Int)) (.int (t.length : Nat)) st = .ok (.bl false) st := by rw [opEq_int]; simp; omega
    have ix := opIdx_str (st := st) (show t.length ≤ 16777216 by omega) he
    have ed : t.drop e = t[e] :: t.drop (e + 1) := List.drop_eq_getElem_cons he
    simp only [gLoop, tgName, List.set_cons_succ, List.set_cons_zero]
    cases hn : nS t[e] with
    | false =>
      have b : bodyE [some (.str t), some (.ref n0), some (.int (a : Int)), some (.str w.word), e4, e5, e6, some (.int (e : Int)), e8] st = .brk [some (.str t), some (.ref n0), some (.int (a : Int)), some (.str w.word), e4, e5, e6, some (.int (e : Int)), e8] st := by
        have si := sg_in t[e] st
        rw [hn] at si
        simp [bodyE, gSeq, gIf, fOrT, fB, f2, fVar, fCall, fCons, fNil, cl, eq, ix, fTup, fC, si, gBrk]
      rw [b, ed, List.takeWhile_cons, hn]
      simp
    | true =>
      have b : bodyE [some (.str t), some (.ref n0), some (.int (a : Int)), some (.str w.word), e4, e5, e6, some (.int (e : Int)), e8] st = .nx [some (.str t), some (.ref n0), some (.int (a : Int)), some (.str w.word), e4, e5, e6, some (.int (e : Int)), e8] st := by
        have si := sg_in t[e] st
        rw [hn] at si
        simp [bodyE, gSeq, gIf, fOrT, fB, f2, fVar, fCall, fCons, fNil, cl, eq, ix, fTup, fC, si, gNx]
      rw [b]
      have z := ih (e + 1) (some (.int (e : Int))) (by omega)
      rw [show (((e + 1 : Nat)) : Int) = (e : Int) + 1 from by push_cast; rfl] at z
      simp only
      rw [z, ed, List.takeWhile_cons, hn]
      simp only [if_true, List.length_cons]
      rw [show e + 1 + (List.takeWhile nS (List.drop (e + 1) t)).length = e + ((List.takeWhile nS (List.drop (e + 1) t)).length + 1) from by omega]
end K10

set_option maxRecDepth 100000
set_option maxHeartbeats 4000000
/-! YL: k10, the law's reader does what the machine does. -/
namespace K10
open PySem MP
variable (v : Vv)
theorem runV_kind {r : List Nat} {x : MP.D} (h : runV r = some x) : x = .non ∨ (∃ s, x = .str s ∧ s = r ∧ wordB r = true) ∨ ∃ i, x = .int i := by
  unfold runV at h
  split at h
  · cases h; exact .inl rfl
  · split at h
    · rename_i hw; cases h; exact .inr (.inl ⟨r, rfl, rfl, hw⟩)
    · exact .inr (.inr (numV_int h))
/-- is it a bracket that shuts? -/
def C41 := fAndT (fB (f2 opEq (fVar 5) (fC (.str [41])))) (fB (f2 opIn (fVar 3) (fTup (fCons (fC (.str [102, 105, 114, 115, 116])) (fCons (fC (.str [98, 101, 104, 105, 110, 100])) (fNil))))))
def T5E := gSet 6 (fDef 1 (h__law_run_value v) (fCons (fSlc (fVar 0) (fPart (fVar 2)) (fPart (fVar 7))) (fNil)))
def T5F := gFor (fRg2 (fCons (fVar 2) (fCons (f2 opAdd (fCall cLen (fCons (fVar 0) (fNil))) (fC (.int 1))) (fNil)))) (tgName 7) bodyE
theorem T5_eq : T5 v = gIf C41 (gSeq (gPar 6 2 (fCons (fTup (fCons (fCall cTup (fCons (fMtL mPop (fVar 1) fNil) (fNil))) (fNil))) (fCons (f2 opAdd (fVar 2) (fC (.int 1))) (fNil)))) (gNx)) (gSeq (gIf (fAndT (fB (f2 opNotIn (fVar 5) (fTup (fCons (fC (.str [40])) (fCons (fC (.str [41])) (fCons (fC (.str [32])) (fNil))))))) (fB (f2 opIn (fVar 3) (fTup (fCons (fC (.str [118, 97, 108, 117, 101])) (fCons (fC (.str [102, 105, 114, 115, 116])) (fNil))))))) (gSeq (gSet 7 (fVar 2)) (gSeq T5F (gSeq (T5E v) (gSeq (gIf (fB (f2 opEq (fVar 6) (fTup (fNil)))) (gSeq (gRet (fTup (fCons (fC (.str [98, 97, 100])) (fCons (f2 opAdd (fVar 2) (fC (.int 1))) (fNil))))) (gNx)) (gNx)) (gSeq (gSet 2 (fVar 7)) (gNx)))))) (gSeq (gRet (fTup (fCons (fC (.str [98, 97, 100])) (fCons (f2 opAdd (fVar 2) (fC (.int 1))) (fNil))))) (gNx))) (gNx)) := by rw [T5, T5F, T5E, C41, bodyE]
section
variable {t : List Nat} {objs : List O} {fl : List (Nat × Bool)} {n0 a : Nat} {w : Wt} {e4 e5 e6 e7 e8 : Option MP.D}
theorem rg2_ok {f : Env → St → Out (List MP.D)} {ρ : Env} {st st1 : St} {i j : Int} (h : f ρ st = .ok [.int i, .int j] st1) (hi : 0 ≤ i ∧ i < 1000000) (hj : 0 ≤ j ∧ j < 1000000) : fRg2 f ρ st = .ok (rg i (j - i).toNat) st1 := by
  unfold fRg2
  rw [h, Out.bind_ok]
  exact if_pos ⟨⟨by omega, by omega⟩, by omega, by omega⟩
theorem T5F_ok (ht : t.length ≤ 400000) (ha : a < t.length) : T5F (envO t n0 a w e4 (some (.str [t[a]])) (some (.tup [])) (some (.int (a : Int))) e8) ⟨objs, fl⟩ = .nx (envO t n0 a w e4 (some (.str [t[a]])) (some (.tup [])) (some (.int ((a + ((t.drop a).takeWhile nS).length : Nat) : Int))) e8) ⟨objs, fl⟩ := by
  have el := endLoop (n0 := n0) (a := a) (w := w) (e4 := e4) (e5 := some (.str [t[a]])) (e6 := some (.tup [])) (e8 := e8) (st := ⟨objs, fl⟩) ht (t.length - a) a (some (.int (a : Int))) (by omega)
  have cl := cLen_str (st := ⟨objs, fl⟩) (show t.length ≤ 16777216 by omega)
  have hargs : (fCons (fVar 2) (fCons (f2 opAdd (fCall cLen (fCons (fVar 0) (fNil))) (fC (.int 1))) (fNil))) (envO t n0 a w e4 (some (.str [t[a]])) (some (.tup [])) (some (.int (a : Int))) e8) ⟨objs, fl⟩ = .ok [.int (a : Int), .int ((t.length : Int) + 1)] ⟨objs, fl⟩ := by
    simp [fCons, fVar, fNil, f2, fCall, fC, cl, opAdd]
  have hr := rg2_ok hargs (by omega) (by omega)
  rw [show ((t.length : Int) + 1 - (a : Int)).toNat = t.length - a + 1 by omega] at hr
  unfold T5F gFor
  rw [hr, Out.toS_ok]
  exact el
theorem T5E_ok (hat : a ≤ t.length) (hc : ∀ c ∈ t, c < 1114112) (ht : t.length ≤ 400000) {z : Nat} (hz : a + ((t.drop a).takeWhile nS).length = z) : T5E v (envO t n0 a w e4 e5 e6 (some (.int (z : Int))) e8) ⟨objs, fl⟩ = .nx (envO t n0 a w e4 e5 (some (resL (runV ((t.drop a).takeWhile nS)))) (some (.int (z : Int))) e8) ⟨objs, fl⟩ := by
  · have hlen : a + ((t.drop a).takeWhile nS).length ≤ t.length := by
      have := (List.takeWhile_sublist (l := t.drop a) nS).length_le
      rw [List.length_drop] at this; omega
    have htk : (t.drop a).take ((t.drop a).takeWhile nS).length = (t.drop a).takeWhile nS := (List.prefix_iff_eq_take.mp (List.takeWhile_prefix nS)).symm
    have sl : opSlc (.str t) (some (a : Int)) (some (z : Int)) ⟨objs, fl⟩ = .ok (.str ((t.drop a).takeWhile nS)) ⟨objs, fl⟩ := by
      simp only [opSlc, show t.length ≤ 16777216 by omega, if_true]
      rw [← hz, cut_nat (by omega) hlen, Nat.add_sub_cancel_left, htk]
    have tx : txOk ((t.drop a).takeWhile nS) := ⟨by omega, fun c hcm => hc c (List.mem_of_mem_drop (List.takeWhile_sublist nS |>.subset hcm))⟩
    have rv := law_run_value_ok v tx ⟨objs, fl⟩
    generalize (t.drop a).takeWhile nS = rw1 at *
    simp only [T5E, gSet, fDef, fCons, fSlc, fPart, fVar, fNil, List.getElem?_cons_succ, List.getElem?_cons_zero, Out.bind_ok, sl, rv, Out.toS_ok]
    rfl
theorem T5_run (ht : t.length ≤ 400000) (hc : ∀ c ∈ t, c < 1114112) (ha : a < t.length) (c41 : C41 (envO t n0 a w e4 (some (.str [t[a]])) (some (.tup [])) e7 e8) ⟨objs, fl⟩ = .ok false ⟨objs, fl⟩) (hn : nS t[a] = true) (ho : w.open = true) :
    match (generalizing := false) runV ((t.drop a).takeWhile nS) with
    | none => T5 v (envO t n0 a w e4 (some (.str [t[a]])) (some (.tup [])) e7 e8) ⟨objs, fl⟩ = .ret (.tup [.str [98, 97, 100], .int ((a : Int) + 1)]) ⟨objs, fl⟩
    | some d => T5 v (envO t n0 a w e4 (some (.str [t[a]])) (some (.tup [])) e7 e8) ⟨objs, fl⟩ = .nx (envO t n0 (a + ((t.drop a).takeWhile nS).length) w e4 (some (.str [t[a]])) (some (.tup [d])) (some (.int ((a + ((t.drop a).takeWhile nS).length : Nat) : Int))) e8) ⟨objs, fl⟩ := by
  have nI := sg_notIn t[a] ⟨objs, fl⟩
  have wo := w_open w ⟨objs, fl⟩
  rw [hn] at nI
  rw [ho] at wo
  have ad : ∀ st : St, opAdd (.int (a : Int)) (.int 1) st = .ok (.int ((a : Int) + 1)) st := fun st => rfl
  obtain ⟨z, hz⟩ : ∃ z, a + ((t.drop a).takeWhile nS).length = z := ⟨_, rfl⟩
  have t5f := T5F_ok (objs := objs) (fl := fl) (n0 := n0) (w := w) (e4 := e4) (e8 := e8) ht ha
  have t5e := T5E_ok v (objs := objs) (fl := fl) (n0 := n0) (w := w) (e4 := e4) (e5 := some (.str [t[a]])) (e6 := some (.tup [])) (e8 := e8) (by omega) hc ht hz
  rw [hz] at t5f ⊢
  have hmem : ∀ c ∈ (t.drop a).takeWhile nS, c < 1114112 := fun c hcm => hc c (List.mem_of_mem_drop (List.takeWhile_sublist nS |>.subset hcm))
  rw [T5_eq]
  generalize T5F = gf at *
  generalize C41 = cc at *
  generalize T5E v = ge at *
  generalize (t.drop a).takeWhile nS = rw1 at *
  cases hr : runV rw1 with
  | none =>
    rw [hr] at t5e
    have eqE : opEq (.tup []) (.tup []) ⟨objs, fl⟩ = .ok (.bl true) ⟨objs, fl⟩ := rfl
    simp [gSeq, gIf, c41, fAndT, fB, f2, fVar, fC, fTup, fCons, fNil, nI, wo, gSet, t5f, t5e, resL, eqE, gRet, ad]
  | some d =>
    rw [hr] at t5e
    have eqE : opEq (.tup [d]) (.tup []) ⟨objs, fl⟩ = .ok (.bl false) ⟨objs, fl⟩ := by
      have hp : (D.tup [d]).noref = true ∧ shp (D.tup [d]) = true := by
        rcases runV_kind hr with rfl | ⟨s, rfl, h1, h2⟩ | ⟨i, rfl⟩
        · exact ⟨rfl, rfl⟩
        · refine ⟨rfl, shp_of_m (by simp [D.pm, D.pms]; exact fun c hcm => hmem c (h1 ▸ hcm)) (by simp [D.dp, D.dps])⟩
        · exact ⟨rfl, rfl⟩
      unfold opEq eqD
      have b1 : shp (MP.top (⟨objs, fl⟩ : St) (D.tup [])) = true := rfl
      have b2 : MP.top (⟨objs, fl⟩ : St) (D.tup [d]) = D.tup [d] := rfl
      simp only [eqS, b1, b2, hp.2, and_self, if_true]
      rfl
    simp [gSeq, gIf, c41, fAndT, fB, f2, fVar, fC, fTup, fCons, fNil, nI, wo, gSet, t5f, t5e, resL, eqE, gNx]
theorem T5_odd (ha : a < t.length) (c41 : C41 (envO t n0 a w e4 (some (.str [t[a]])) (some (.tup [])) e7 e8) ⟨objs, fl⟩ = .ok false ⟨objs, fl⟩) (h : nS t[a] = true → w.open = true → False) :
    T5 v (envO t n0 a w e4 (some (.str [t[a]])) (some (.tup [])) e7 e8) ⟨objs, fl⟩ = .ret (.tup [.str [98, 97, 100], .int ((a : Int) + 1)]) ⟨objs, fl⟩ := by
  have nI := sg_notIn t[a] ⟨objs, fl⟩
  have wo := w_open w ⟨objs, fl⟩
  have ad : ∀ st : St, opAdd (.int (a : Int)) (.int 1) st = .ok (.int ((a : Int) + 1)) st := fun st => rfl
  rw [T5_eq]
  generalize T5F = gf at *
  generalize C41 = cc at *
  generalize T5E v = ge at *
  cases hn : nS t[a] with
  | false =>
    rw [hn] at nI
    simp [gSeq, gIf, c41, fAndT, fB, f2, fVar, fC, fTup, fCons, fNil, nI, gRet, ad]
  | true =>
    rw [hn] at nI
    have : w.open = false := by cases ho : w.open with | false => rfl | true => exact absurd ho (fun z => h hn z)
    rw [this] at wo
    simp [gSeq, gIf, c41, fAndT, fB, f2, fVar, fC, fTup, fCons, fNil, nI, wo, gRet, ad]
end
section
variable {t : List Nat} {os0 objs : List O} {js : List Nat} {ks : List (List MP.D)} {fl : List (Nat × Bool)} {a : Nat} {w : Wt} {e4 e5 e6 e7 e8 : Option MP.D}
/-- a value comes to the top of the stack -/
theorem T6_ok (hf : ∀ p ∈ fl, p.1 ≤ os0.length) (r : Rep os0 objs js ks) (d : MP.D) (hal : ∀ acc ∈ ks, acc.length < 1000000) :
    match (generalizing := false) ks with
    | [] => T6 (envO t os0.length a w e4 e5 (some (.tup [d])) e7 e8) ⟨objs, fl⟩ = .nx (envO t os0.length a (.fin d) e4 e5 (some (.tup [d])) e7 (some d)) ⟨objs, fl⟩
    | acc :: ks' => ∃ objs', T6 (envO t os0.length a w e4 e5 (some (.tup [d])) e7 e8) ⟨objs, fl⟩ = .nx (envO t os0.length a .behind e4 e5 (some (.tup [d])) e7 e8) ⟨objs', fl⟩ ∧ Rep os0 objs' js ((acc ++ [d]) :: ks') := by
  have ix : ∀ st : St, opIdx (.tup [d]) (.int 0) st = .ok d st := fun st => by simp [opIdx, seqOf, atI_zero]
  have nl := opEq_nil_ref (st := ⟨objs, fl⟩) (i := os0.length) r.stk
  cases ks with
  | nil =>
    have hj : js = [] := List.length_eq_zero_iff.mp (by rw [r.len]; rfl)
    subst hj
    rw [show decide (List.map D.ref ([] : List Nat).reverse = []) = true from rfl] at nl
    simp [T6, gIf, fB, f2, fVar, fLst, fNil, nl, gSeq, gSet, fC, ix, gNx, Wt.word]
  | cons acc ks' =>
    obtain ⟨j, js', rfl⟩ : ∃ j js', js = j :: js' := by
      cases js with
      | nil => have := r.len; simp at this
      | cons j js' => exact ⟨j, js', rfl⟩
    obtain ⟨hj1, hj2⟩ := r.top
    refine ⟨objs.set j (.lst (acc ++ [d])), ?_, r.app d⟩
    have hne : decide ((j :: js').reverse.map MP.D.ref = []) = false := by simp
    rw [hne] at nl
    have il : opIdx (.ref os0.length) (.int (-1)) ⟨objs, fl⟩ = .ok (.ref j) ⟨objs, fl⟩ := by
      have : L2.atI ((j :: js').reverse.map MP.D.ref) (-1) = some (MP.D.ref j) := by
        rw [List.reverse_cons, List.map_append]; exact atI_last
      simp only [opIdx, seqOf, lstOf, r.stk, this]
    have isl : MP.isL ⟨objs, fl⟩ (.ref j) = true := by simp [MP.isL, lqOf, lstOf, hj2]
    have ap : mAppend (.ref j) [d] ⟨objs, fl⟩ = .ok .non ⟨objs.set j (.lst (acc ++ [d])), fl⟩ := by
      have hl := hal acc List.mem_cons_self
      simp only [mAppend, refOf, hj2, show acc.length < 16777216 by omega, if_true]
      rw [put_hi (fun p hp => by have := hf p hp; omega)]
    simp [T6, gIf, fB, f2, fVar, fLst, fNil, nl, gSeq, gExpr, fMtL, MP.f1, opNeg, fC, il, isl, fCons, ix, ap, gSet, gNx, Wt.word]
theorem T1_go (ha : a < t.length) (ht : t.length ≤ 400000) (hw : ∀ d, w ≠ .fin d) {st : St} : T1 (envO t os0.length a w e4 e5 e6 e7 e8) st = .nx (envO t os0.length a w e4 e5 e6 e7 e8) st := by
  have h1 : opEq (.str w.word) (.str [101, 110, 100]) st = .ok (.bl false) st := by
    cases w with
    | fin d => exact absurd rfl (hw d)
    | _ => rfl
  have cl := cLen_str (st := st) (show t.length ≤ 16777216 by omega)
  have ge : opGe (.int (a : Int)) (.int (t.length : Nat)) st = .ok (.bl false) st := by simp [opOrd]; omega
  simp [T1, gIf, fOrT, fB, f2, fVar, fC, h1, fCall, fCons, fNil, cl, ge, gNx]
theorem T1_end (h : t.length ≤ a ∨ ∃ d, w = .fin d) (ht : t.length ≤ 400000) {st : St} : T1 (envO t os0.length a w e4 e5 e6 e7 e8) st = .brk (envO t os0.length a w e4 e5 e6 e7 e8) st := by
  have cl := cLen_str (st := st) (show t.length ≤ 16777216 by omega)
  have ge : opGe (.int (a : Int)) (.int (t.length : Nat)) st = .ok (.bl (decide (t.length ≤ a))) st := by
    simp only [opOrd]; congr 2; rw [Bool.eq_iff_iff]; simp only [decide_eq_true_eq]; omega
  have h1 : ∃ b, opEq (.str w.word) (.str [101, 110, 100]) st = .ok (.bl b) st ∧ (b = false → t.length ≤ a) := by
    cases w with
    | fin d => exact ⟨true, rfl, fun z => by cases z⟩
    | value => exact ⟨false, rfl, fun _ => by rcases h with h | ⟨d, h⟩; exact h; cases h⟩
    | first => exact ⟨false, rfl, fun _ => by rcases h with h | ⟨d, h⟩; exact h; cases h⟩
    | behind => exact ⟨false, rfl, fun _ => by rcases h with h | ⟨d, h⟩; exact h; cases h⟩
  obtain ⟨b, h1, hb⟩ := h1
  cases b with
  | true => simp [T1, gSeq, gIf, fOrT, fB, f2, fVar, fC, h1, gBrk]
  | false =>
    rw [decide_eq_true (hb rfl)] at ge
    simp [T1, gSeq, gIf, fOrT, fB, f2, fVar, fC, h1, fCall, fCons, fNil, cl, ge, gBrk]
/-- a turn of the law's reader -/
theorem stepO (ht : t.length ≤ 400000) (hc : ∀ c ∈ t, c < 1114112) (hf : ∀ p ∈ fl, p.1 ≤ os0.length) (r : Rep os0 objs js ks) (ha : a < t.length) (hw : ∀ d, w ≠ .fin d) (g : good ks w) (hal : ∀ acc ∈ ks, acc.length < 1000000) :
    match (generalizing := false) mturn ks w (t.drop a) t[a] with
    | .stop x => ∃ objs', (∀ d, x ≠ .told d) ∧ ∀ rr, x = .bad rr → bodyO v (envO t os0.length a w e4 e5 e6 e7 e8) ⟨objs, fl⟩ = .ret (.tup [.str [98, 97, 100], .int (((t.length - rr.length : Nat) : Int) + 1)]) ⟨objs', fl⟩ ∧ objs'.take os0.length = os0
    | .go ks2 w2 u2 => ∃ objs' js' f5 f6 f7 f8, (bodyO v (envO t os0.length a w e4 e5 e6 e7 e8) ⟨objs, fl⟩ = .nx (envO t os0.length (t.length - u2.length) w2 e4 f5 f6 f7 f8) ⟨objs', fl⟩ ∨ bodyO v (envO t os0.length a w e4 e5 e6 e7 e8) ⟨objs, fl⟩ = .cont (envO t os0.length (t.length - u2.length) w2 e4 f5 f6 f7 f8) ⟨objs', fl⟩) ∧ Rep os0 objs' js' ks2 ∧ (∀ d, w2 = .fin d → f8 = some d) := by
  have hks : ks.length ≤ 60 := g.2.1
  have pos : t.length - (t.drop a).length = a := by rw [List.length_drop]; omega
  have pos1 : t.length - ((t.drop a).drop 1).length = a + 1 := by simp only [List.length_drop]; omega
  have t1 := T1_go (os0 := os0) (e4 := e4) (e5 := e5) (e6 := e6) (e7 := e7) (e8 := e8) (st := ⟨objs, fl⟩) ha ht hw
  have ix := opIdx_str (st := ⟨objs, fl⟩) (show t.length ≤ 16777216 by omega) ha
  have t2 : T2 (envO t os0.length a w e4 e5 e6 e7 e8) ⟨objs, fl⟩ = .nx (envO t os0.length a w e4 (some (.str [t[a]])) (some (.tup [])) e7 e8) ⟨objs, fl⟩ := by
    simp [T2, gPar, fCons, f2, fVar, ix, fTup, fNil]
  have wo := w_open w ⟨objs, fl⟩
  have ws := w_shut w ⟨objs, fl⟩
  have wb := w_isB w ⟨objs, fl⟩
  have ad : ∀ st : St, opAdd (.int (a : Int)) (.int 1) st = .ok (.int ((a : Int) + 1)) st := fun st => rfl
  have sq : ∀ (x : Nat) (st : St), opEq (.str [t[a]]) (.str [x]) st = .ok (.bl (decide (t[a] = x))) st := fun x st => by rw [opEq_str]; simp
  have bodyE1 : bodyO v (envO t os0.length a w e4 e5 e6 e7 e8) ⟨objs, fl⟩ = (gSeq T3 (gSeq T4 (gSeq (T5 v) (gSeq T6 gNx)))) (envO t os0.length a w e4 (some (.str [t[a]])) (some (.tup [])) e7 e8) ⟨objs, fl⟩ := by
    rw [bodyO, gSeq, t1, SO.seq_nx, gSeq, t2, SO.seq_nx]
  rw [bodyE1]
  unfold mturn
  by_cases h40 : t[a] = 40 ∧ w.open = true
  · rw [if_pos h40]
    have ln : cLen [.ref os0.length] ⟨objs, fl⟩ = .ok (.int (ks.length : Int)) ⟨objs, fl⟩ := by
      simp only [cLen, seqOf, lstOf, r.stk, List.length_map, List.length_reverse, r.len]
    by_cases h60 : ks.length = 60
    · rw [if_pos h60]
      refine ⟨objs, fun d z => (by cases z), fun rr hrr => ?_⟩
      cases hrr
      refine ⟨?_, r.pre⟩
      rw [pos]
      have eq60 : opEq (.int (ks.length : Int)) (.int 60) ⟨objs, fl⟩ = .ok (.bl true) ⟨objs, fl⟩ := by rw [h60]; rfl
      rw [h40.2] at wo
      have s40 := sq 40 ⟨objs, fl⟩
      rw [decide_eq_true h40.1] at s40
      simp [T3, gSeq, gIf, fAndT, fB, f2, fVar, fC, s40, fTup, fCons, fNil, wo, fCall, ln, eq60, gRet, ad]
    · rw [if_neg h60]
      refine ⟨_, _, some (.str [t[a]]), some (.tup []), e7, e8, .inr ?_, r.push, fun d z => (by cases z)⟩
      rw [pos1]
      have eq60 : opEq (.int (ks.length : Int)) (.int 60) ⟨objs, fl⟩ = .ok (.bl false) ⟨objs, fl⟩ := by rw [opEq_int]; simp; omega
      rw [h40.2] at wo
      have s40 := sq 40 ⟨objs, fl⟩
      rw [decide_eq_true h40.1] at s40
      have isl : MP.isL ⟨objs, fl⟩ (.ref os0.length) = true := by simp [MP.isL, lqOf, lstOf, r.stk]
      have hl := lt_of_some r.stk
      have ap : mAppend (.ref os0.length) [.ref objs.length] ⟨objs ++ [O.lst []], fl⟩ = .ok .non ⟨(objs ++ [O.lst []]).set os0.length (O.lst ((objs.length :: js).reverse.map .ref)), fl⟩ := by
        have : (objs ++ [O.lst []])[os0.length]? = some (.lst (js.reverse.map .ref)) := by rw [List.getElem?_append_left hl]; exact r.stk
        simp only [mAppend, refOf, this, List.length_map, List.length_reverse, r.len, show ks.length < 16777216 by omega, if_true]
        rw [put_hi hf]
        simp
      have wf : Wt.first.word = [102, 105, 114, 115, 116] := rfl
      generalize (objs ++ [O.lst []]).set os0.length (.lst ((objs.length :: js).reverse.map .ref)) = objs2 at *
      simp [T3, gSeq, gIf, fAndT, fB, f2, fVar, fC, s40, fTup, fCons, fNil, wo, fCall, ln, eq60, gNx, gExpr, fMtL, isl, fBox, MP.St.push, ap, gPar, ad, gCont, wf]
  · rw [if_neg h40]
    have t3 : T3 (envO t os0.length a w e4 (some (.str [t[a]])) (some (.tup [])) e7 e8) ⟨objs, fl⟩ = .nx (envO t os0.length a w e4 (some (.str [t[a]])) (some (.tup [])) e7 e8) ⟨objs, fl⟩ := by
      have s40 := sq 40 ⟨objs, fl⟩
      by_cases h : t[a] = 40
      · rw [decide_eq_true h] at s40
        have : w.open = false := by cases ho : w.open with | false => rfl | true => exact absurd ⟨h, ho⟩ h40
        rw [this] at wo
        simp [T3, gIf, fAndT, fB, f2, fVar, fC, s40, fTup, fCons, fNil, wo, gNx]
      · rw [decide_eq_false h] at s40
        simp [T3, gIf, fAndT, fB, f2, fVar, fC, s40, gNx]
    rw [gSeq, t3, SO.seq_nx]
    by_cases h32 : t[a] = 32 ∧ w.isB = true
    · rw [if_pos h32]
      refine ⟨objs, js, some (.str [t[a]]), some (.tup []), e7, e8, .inr ?_, r, fun d z => by cases z⟩
      rw [pos1]
      have s32 := sq 32 ⟨objs, fl⟩
      rw [decide_eq_true h32.1] at s32
      rw [h32.2] at wb
      have wf : Wt.value.word = [118, 97, 108, 117, 101] := rfl
      simp [T4, gSeq, gIf, fAndT, fB, f2, fVar, fC, s32, wb, gPar, fCons, fNil, ad, gCont, wf]
    · rw [if_neg h32]
      have t4 : T4 (envO t os0.length a w e4 (some (.str [t[a]])) (some (.tup [])) e7 e8) ⟨objs, fl⟩ = .nx (envO t os0.length a w e4 (some (.str [t[a]])) (some (.tup [])) e7 e8) ⟨objs, fl⟩ := by
        have s32 := sq 32 ⟨objs, fl⟩
        by_cases h : t[a] = 32
        · rw [decide_eq_true h] at s32
          have : w.isB = false := by cases ho : w.isB with | false => rfl | true => exact absurd ⟨h, ho⟩ h32
          rw [this] at wb
          simp [T4, gIf, fAndT, fB, f2, fVar, fC, s32, wb, gNx]
        · rw [decide_eq_false h] at s32
          simp [T4, gIf, fAndT, fB, f2, fVar, fC, s32, gNx]
      rw [gSeq, t4, SO.seq_nx]
      -- behind a value
      have behind : ∀ (objs1 : List O) (js1 : List Nat) (ks1 : List (List MP.D)) (d : MP.D) (u2 : List Nat) (g7 : Option MP.D), Rep os0 objs1 js1 ks1 → (∀ acc ∈ ks1, acc.length < 1000000) → T5 v (envO t os0.length a w e4 (some (.str [t[a]])) (some (.tup [])) e7 e8) ⟨objs, fl⟩ = .nx (envO t os0.length (t.length - u2.length) w e4 (some (.str [t[a]])) (some (.tup [d])) g7 e8) ⟨objs1, fl⟩ →
          match (generalizing := false) deliver ks1 d u2 with
          | .stop x => ∃ objs', (∀ d, x ≠ .told d) ∧ ∀ rr, x = .bad rr → (gSeq (T5 v) (gSeq T6 gNx)) (envO t os0.length a w e4 (some (.str [t[a]])) (some (.tup [])) e7 e8) ⟨objs, fl⟩ = .ret (.tup [.str [98, 97, 100], .int (((t.length - rr.length : Nat) : Int) + 1)]) ⟨objs', fl⟩ ∧ objs'.take os0.length = os0
          | .go ks2 w2 u2 => ∃ objs' js' f5 f6 f7 f8, ((gSeq (T5 v) (gSeq T6 gNx)) (envO t os0.length a w e4 (some (.str [t[a]])) (some (.tup [])) e7 e8) ⟨objs, fl⟩ = .nx (envO t os0.length (t.length - u2.length) w2 e4 f5 f6 f7 f8) ⟨objs', fl⟩ ∨ (gSeq (T5 v) (gSeq T6 gNx)) (envO t os0.length a w e4 (some (.str [t[a]])) (some (.tup [])) e7 e8) ⟨objs, fl⟩ = .cont (envO t os0.length (t.length - u2.length) w2 e4 f5 f6 f7 f8) ⟨objs', fl⟩) ∧ Rep os0 objs' js' ks2 ∧ (∀ d, w2 = .fin d → f8 = some d) := fun objs1 js1 ks1 d u2 g7 r1 hal1 h5 => by
        have t6 := T6_ok (t := t) (a := t.length - u2.length) (w := w) (e4 := e4) (e5 := some (.str [t[a]])) (e7 := g7) (e8 := e8) hf r1 d hal1
        cases ks1 with
        | nil => exact ⟨objs1, js1, _, _, _, _, .inl (by rw [gSeq, h5, SO.seq_nx, gSeq, t6, SO.seq_nx]; rfl), r1, fun d' z => by cases z; rfl⟩
        | cons acc ks' =>
          obtain ⟨objs2, t6, r2⟩ := t6
          exact ⟨objs2, js1, _, _, _, _, .inl (by rw [gSeq, h5, SO.seq_nx, gSeq, t6, SO.seq_nx]; rfl), r2, fun d' z => by cases z⟩
      by_cases h41 : t[a] = 41 ∧ w.shut = true
      · rw [if_pos h41]
        cases ks with
        | nil =>
          -- nothing stands open: the wish is none of these
          obtain ⟨_, _, g3⟩ := g
          cases w with
          | value => cases h41.2
          | first => obtain ⟨_, z⟩ := g3; cases z
          | behind => obtain ⟨_, _, z, _⟩ := g3; cases z
          | fin d => exact absurd rfl (hw d)
        | cons acc ks' =>
          obtain ⟨j, js', rfl⟩ : ∃ j js', js = j :: js' := by
            cases js with
            | nil => have := r.len; simp at this
            | cons j js' => exact ⟨j, js', rfl⟩
          obtain ⟨hj1, hj2⟩ := r.top
          refine behind _ js' ks' (.tup acc) ((t.drop a).drop 1) e7 r.pop (fun x hx => hal x (List.mem_cons_of_mem _ hx)) ?_
          rw [pos1]
          obtain ⟨z1, hz1⟩ : ∃ z1, z1 = a + 1 := ⟨_, rfl⟩
          rw [← hz1]
          have s41 := sq 41 ⟨objs, fl⟩
          rw [decide_eq_true h41.1] at s41
          rw [h41.2] at ws
          have isl : MP.isL ⟨objs, fl⟩ (.ref os0.length) = true := by simp [MP.isL, lqOf, lstOf, r.stk]
          have pp : mPop (.ref os0.length) [] ⟨objs, fl⟩ = .ok (.ref j) ⟨objs.set os0.length (.lst (js'.reverse.map .ref)), fl⟩ := by
            have e1 : ((j :: js').reverse.map MP.D.ref) = js'.reverse.map .ref ++ [.ref j] := by simp
            have st := r.stk
            rw [e1] at st
            simp only [mPop, refOf, st, List.length_append, List.length_singleton, Nat.add_sub_cancel]
            rw [List.getElem?_append_right (Nat.le_refl _)]
            simp only [Nat.sub_self, List.getElem?_cons_zero, List.dropLast_concat]
            rw [put_hi hf]
          have tp : cTup [.ref j] ⟨objs.set os0.length (.lst (js'.reverse.map .ref)), fl⟩ = .ok (.tup acc) ⟨objs.set os0.length (.lst (js'.reverse.map .ref)), fl⟩ := by
            have : (objs.set os0.length (O.lst (js'.reverse.map .ref)))[j]? = some (.lst acc) := by rw [List.getElem?_set_ne (by omega)]; exact hj2
            simp only [cTup, lqOf, lstOf, this]
          have ad1 : ∀ st : St, opAdd (.int (a : Int)) (.int 1) st = .ok (.int (z1 : Int)) st := fun st => by rw [hz1]; simp [opAdd]
          generalize objs.set os0.length (.lst (js'.reverse.map .ref)) = objs2 at *
          simp [T5, gSeq, gIf, fAndT, fB, f2, fVar, fC, s41, fTup, fCons, fNil, ws, gPar, fCall, fMtL, isl, pp, tp, ad1, gNx]
      · rw [if_neg h41]
        have s41 := sq 41 ⟨objs, fl⟩
        have c41 : C41 (envO t os0.length a w e4 (some (.str [t[a]])) (some (.tup [])) e7 e8) ⟨objs, fl⟩ = .ok false ⟨objs, fl⟩ := by
          by_cases h : t[a] = 41
          · rw [decide_eq_true h] at s41
            have : w.shut = false := by cases ho : w.shut with | false => rfl | true => exact absurd ⟨h, ho⟩ h41
            rw [this] at ws
            simp [C41, fAndT, fB, f2, fVar, fC, s41, fTup, fCons, fNil, ws]
          · rw [decide_eq_false h] at s41
            simp [C41, fAndT, fB, f2, fVar, fC, s41]
        by_cases hrun : nS t[a] = true ∧ w.open = true
        · rw [if_pos hrun]
          have t5r := T5_run v (objs := objs) (fl := fl) (n0 := os0.length) (e4 := e4) (e7 := e7) (e8 := e8) ht hc ha c41 hrun.1 hrun.2
          have hlenE : ((t.drop a).takeWhile nS).length + ((t.drop a).dropWhile nS).length = t.length - a := by
            rw [← List.length_append, List.takeWhile_append_dropWhile, List.length_drop]
          have hpos2 : t.length - ((t.drop a).dropWhile nS).length = a + ((t.drop a).takeWhile nS).length := by omega
          cases hr : runV ((t.drop a).takeWhile nS) with
          | none =>
            rw [hr] at t5r
            refine ⟨objs, fun d z => (by cases z), fun rr hrr => ?_⟩
            cases hrr
            refine ⟨?_, r.pre⟩
            rw [pos, gSeq, t5r]
            rfl
          | some d =>
            rw [hr] at t5r
            refine behind objs js ks d ((t.drop a).dropWhile nS) (some (.int ((a + ((t.drop a).takeWhile nS).length : Nat) : Int))) r hal ?_
            rw [hpos2]
            exact t5r
        · rw [if_neg hrun]
          refine ⟨objs, fun d z => (by cases z), fun rr hrr => ?_⟩
          cases hrr
          refine ⟨?_, r.pre⟩
          rw [pos]
          rw [gSeq, T5_odd v ha c41 (fun h1 h2 => hrun ⟨h1, h2⟩)]
          rfl
end
end K10

set_option maxRecDepth 100000
set_option maxHeartbeats 4000000
/-! YM: k10, the law's reader reads as the module's reader does. -/
namespace K10
open PySem MP
variable (v : Vv)
theorem deliver_len {ks : List (List MP.D)} {d : MP.D} {u : List Nat} {b : Nat} (h : ∀ acc ∈ ks, acc.length ≤ b) : match deliver ks d u with
    | .stop _ => True
    | .go ks2 _ _ => ∀ acc ∈ ks2, acc.length ≤ b + 1 := by
  cases ks with
  | nil => simp [deliver]
  | cons x ks =>
    simp only [deliver]
    intro acc ha
    rcases List.mem_cons.mp ha with rfl | ha
    · have := h x List.mem_cons_self
      simp; omega
    · have := h acc (List.mem_cons_of_mem _ ha); omega
theorem mturn_len {ks : List (List MP.D)} {w : Wt} {u : List Nat} {c b : Nat} (h : ∀ acc ∈ ks, acc.length ≤ b) : match mturn ks w u c with
    | .stop _ => True
    | .go ks2 _ _ => ∀ acc ∈ ks2, acc.length ≤ b + 1 := by
  unfold mturn
  by_cases h1 : c = 40 ∧ w.open = true
  · rw [if_pos h1]
    by_cases h2 : ks.length = 60
    · rw [if_pos h2]; trivial
    · rw [if_neg h2]
      intro acc ha
      rcases List.mem_cons.mp ha with rfl | ha
      · simp
      · have := h acc ha; omega
  · rw [if_neg h1]
    by_cases h3 : c = 32 ∧ w.isB = true
    · rw [if_pos h3]
      intro acc ha
      have := h acc ha; omega
    · rw [if_neg h3]
      by_cases h4 : c = 41 ∧ w.shut = true
      · rw [if_pos h4]
        cases ks with
        | nil => trivial
        | cons x ks => exact deliver_len (fun acc ha => h acc (List.mem_cons_of_mem _ ha))
      · rw [if_neg h4]
        by_cases h5 : nS c = true ∧ w.open = true
        · rw [if_pos h5]
          cases runV (u.takeWhile nS) with
          | none => trivial
          | some d => exact deliver_len h
        · rw [if_neg h5]; trivial
theorem loopO {t : List Nat} (ht : t.length ≤ 400000) (hc : ∀ c ∈ t, c < 1114112) {os0 : List O} {fl : List (Nat × Bool)} (hf : ∀ p ∈ fl, p.1 ≤ os0.length) :
    ∀ (n a : Nat) (e : Int) (ks : List (List MP.D)) (w : Wt) (objs : List O) (js : List Nat) (e4 e5 e6 e7 e8 : Option MP.D), a ≤ t.length → t.length - a < n → Rep os0 objs js ks → good ks w → (∀ acc ∈ ks, acc.length ≤ a) → (∀ d, w = .fin d → e8 = some d) →
      (∃ (rr : List Nat) (objs' : List O), den ks w (t.drop a) = .bad rr ∧ gLoop (tgName 4) (bodyO v) (rg e n) (envO t os0.length a w e4 e5 e6 e7 e8) ⟨objs, fl⟩ = .ret (.tup [.str [98, 97, 100], .int (((t.length - rr.length : Nat) : Int) + 1)]) ⟨objs', fl⟩ ∧ objs'.take os0.length = os0) ∨
      (∃ (a2 : Nat) (ks2 : List (List MP.D)) (w2 : Wt) (objs' : List O) (f4 f5 f6 f7 f8 : Option MP.D), den ks w (t.drop a) = den ks2 w2 (t.drop a2) ∧ a2 ≤ t.length ∧ good ks2 w2 ∧ (t.length ≤ a2 ∨ ∃ d, w2 = .fin d) ∧ (∀ d, w2 = .fin d → f8 = some d) ∧ gLoop (tgName 4) (bodyO v) (rg e n) (envO t os0.length a w e4 e5 e6 e7 e8) ⟨objs, fl⟩ = .nx (envO t os0.length a2 w2 f4 f5 f6 f7 f8) ⟨objs', fl⟩ ∧ objs'.take os0.length = os0) := by
  intro n
  induction n with
  | zero => intro a e ks w objs js e4 e5 e6 e7 e8 h1 h2; omega
  | succ n ih =>
    intro a e ks w objs js e4 e5 e6 e7 e8 hal hn r g hacc h8
    rw [rg_succ]
    have lp : gLoop (tgName 4) (bodyO v) (.int e :: rg (e + 1) n) (envO t os0.length a w e4 e5 e6 e7 e8) ⟨objs, fl⟩ = (match bodyO v (envO t os0.length a w (some (.int e)) e5 e6 e7 e8) ⟨objs, fl⟩ with
      | .nx ρ' st' => gLoop (tgName 4) (bodyO v) (rg (e + 1) n) ρ' st'
      | .cont ρ' st' => gLoop (tgName 4) (bodyO v) (rg (e + 1) n) ρ' st'
      | .brk ρ' st' => .nx ρ' st'
      | x => x) := by
      rw [gLoop]
      simp only [tgName, List.set_cons_succ, List.set_cons_zero] <;> (generalize bodyO v _ _ = X; cases X <;> rfl)
    by_cases hend : t.length ≤ a ∨ ∃ d, w = .fin d
    · right
      have e1 := T1_end (os0 := os0) (t := t) (a := a) (w := w) (e4 := some (.int e)) (e5 := e5) (e6 := e6) (e7 := e7) (e8 := e8) (st := ⟨objs, fl⟩) hend ht
      have e2 : bodyO v (envO t os0.length a w (some (.int e)) e5 e6 e7 e8) ⟨objs, fl⟩ = .brk (envO t os0.length a w (some (.int e)) e5 e6 e7 e8) ⟨objs, fl⟩ := by
        rw [bodyO, gSeq, e1]; rfl
      refine ⟨a, ks, w, objs, some (.int e), e5, e6, e7, e8, rfl, hal, g, hend, h8, ?_, r.pre⟩
      rw [lp, e2]
    · have ha : a < t.length := by
        rcases Nat.lt_or_ge a t.length with h | h
        · exact h
        · exact absurd (.inl h) hend
      have hw : ∀ d, w ≠ .fin d := fun d z => hend (.inr ⟨d, z⟩)
      have so := stepO v (e4 := some (.int e)) (e5 := e5) (e6 := e6) (e7 := e7) (e8 := e8) ht hc hf r ha hw g (fun acc hx => by have := hacc acc hx; omega)
      have dr : t.drop a = t[a] :: t.drop (a + 1) := List.drop_eq_getElem_cons ha
      have md := mturn_den (c := t[a]) (u' := t.drop (a + 1)) g hw
      rw [← dr] at md
      have ml := mturn_len (ks := ks) (w := w) (u := t.drop a) (c := t[a]) hacc
      cases hm : mturn ks w (t.drop a) t[a] with
      | stop x =>
        rw [hm] at so md
        obtain ⟨objs', hx, so⟩ := so
        cases x with
        | told d => exact absurd rfl (hx d)
        | bad rr =>
          obtain ⟨so, pre⟩ := so rr rfl
          exact .inl ⟨rr, objs', md, by rw [lp, so], pre⟩
      | go ks2 w2 u2 =>
        rw [hm] at so md ml
        obtain ⟨objs', js', f5, f6, f7, f8, so, r2, hf8⟩ := so
        obtain ⟨m1, m2, m3, m4⟩ := md
        have hu : t.drop (t.length - u2.length) = u2 := by
          have : u2 <:+ t := m4.trans (List.drop_suffix a t)
          exact (List.suffix_iff_eq_drop.mp this).symm
        have hlen : (t.drop a).length = t.length - a := List.length_drop
        have hlu : u2.length < t.length - a := by rw [← hlen]; exact m3
        have nxt := ih (t.length - u2.length) (e + 1) ks2 w2 objs' js' (some (.int e)) f5 f6 f7 f8 (by omega) (by omega) r2 m2 (fun acc hx => by have := ml acc hx; omega) hf8
        rw [hu] at nxt
        have lp2 : gLoop (tgName 4) (bodyO v) (.int e :: rg (e + 1) n) (envO t os0.length a w e4 e5 e6 e7 e8) ⟨objs, fl⟩ = gLoop (tgName 4) (bodyO v) (rg (e + 1) n) (envO t os0.length (t.length - u2.length) w2 (some (.int e)) f5 f6 f7 f8) ⟨objs', fl⟩ := by
          rw [lp]
          rcases so with so | so <;> rw [so]
        rw [lp2, m1]
        exact nxt
theorem rg1_ok {f : Env → St → Out (List MP.D)} {ρ : Env} {st st1 : St} {j : Int} (h : f ρ st = .ok [.int j] st1) (hj : 0 ≤ j ∧ j < 1000000) : fRg1 f ρ st = .ok (rg 0 j.toNat) st1 := by
  unfold fRg1
  rw [h, Out.bind_ok]
  exact if_pos ⟨by omega, by omega⟩
theorem law_read_value_ok {t : List Nat} (ht : t.length ≤ 400000) (hc : ∀ c ∈ t, c < 1114112) {st : St} (hf : ∀ p ∈ st.fls, p.1 ≤ st.objs.length) : h__law_read_value v [.str t] st = .ok (heardD (readR t)) st := by
  obtain ⟨os0, fl0⟩ := st
  simp only at hf
  have e0 : List.map some [MP.D.str t] ++ List.replicate (9 - [MP.D.str t].length) none = [some (.str t), none, none, none, none, none, none, none, none] := rfl
  obtain ⟨fl, hfl⟩ : ∃ fl, fl = (os0.length, false) :: fl0 := ⟨_, rfl⟩
  have hf' : ∀ p ∈ fl, p.1 ≤ os0.length := fun p hp => by
    rw [hfl] at hp
    rcases List.mem_cons.mp hp with rfl | hp
    · exact Nat.le_refl _
    · exact hf p hp
  have cl := cLen_str (st := ⟨os0 ++ [O.lst []], fl⟩) (show t.length ≤ 16777216 by omega)
  have p0 : (gPar3 1 2 3 (fCons (fBox (fNil)) (fCons (fC (.int 0)) (fCons (fC (.str [118, 97, 108, 117, 101])) (fNil))))) [some (.str t), none, none, none, none, none, none, none, none] ⟨os0, fl⟩ = .nx (envO t os0.length 0 .value none none none none none) ⟨os0 ++ [O.lst []], fl⟩ := by
    simp [gPar3, fCons, fBox, fNil, fC, MP.St.push, Wt.word]
  have r0 : Rep os0 (os0 ++ [O.lst []]) [] [] := ⟨by simp, by simp, rfl, fun p j acc h1 h2 => by simp at h1, List.nodup_nil⟩
  have g0 : good [] .value := ⟨fun _ h => (by simp at h), by simp, trivial⟩
  have hargs : (fCons (f2 opAdd (fCall cLen (fCons (fVar 0) (fNil))) (fC (.int 1))) (fNil)) (envO t os0.length 0 .value none none none none none) ⟨os0 ++ [O.lst []], fl⟩ = .ok [.int ((t.length : Int) + 1)] ⟨os0 ++ [O.lst []], fl⟩ := by
    simp [fCons, fVar, fNil, f2, fCall, fC, cl, opAdd]
  have hr := rg1_ok hargs (by omega)
  rw [show ((t.length : Int) + 1).toNat = t.length + 1 by omega] at hr
  have lp := loopO v ht hc hf' (t.length + 1) 0 0 [] .value (os0 ++ [O.lst []]) [] none none none none none (by omega) (by omega) r0 g0 (fun _ h => by simp at h) (fun d z => by cases z)
  have d0 : den [] .value (t.drop 0) = finR (pv (2 * t.length + 1) 60 t) := rfl
  rw [d0] at lp
  have body : ∃ objs', b__law_read_value v [some (.str t), none, none, none, none, none, none, none, none] ⟨os0, fl⟩ = .ret (heardD (readR t)) ⟨objs', fl⟩ ∧ objs'.take os0.length = os0 := by
    rw [b_lrv_eq]
    rw [gSeq, p0, SO.seq_nx, gSeq]
    have gf : (gFor (fRg1 (fCons (f2 opAdd (fCall cLen (fCons (fVar 0) (fNil))) (fC (.int 1))) (fNil))) (tgName 4) (bodyO v)) (envO t os0.length 0 .value none none none none none) ⟨os0 ++ [O.lst []], fl⟩ = gLoop (tgName 4) (bodyO v) (rg 0 (t.length + 1)) (envO t os0.length 0 .value none none none none none) ⟨os0 ++ [O.lst []], fl⟩ := by
      unfold gFor
      rw [hr, Out.toS_ok]
    rw [gf]
    have rb : ∀ rr : List Nat, finR (pv (2 * t.length + 1) 60 t) = .bad rr → heardD (readR t) = .tup [.str [98, 97, 100], .int (((t.length - rr.length : Nat) : Int) + 1)] := fun rr h => by
      unfold readR
      cases hp : pv (2 * t.length + 1) 60 t with
      | bad r => rw [hp] at h; cases h; rfl
      | ok d r =>
        rw [hp] at h
        by_cases he : r = []
        · simp only [finR, he, if_true] at h; cases h
        · simp only [finR, he, if_false] at h; cases h; simp only [he, if_false]; rfl
    have rt : ∀ d : MP.D, finR (pv (2 * t.length + 1) 60 t) = .told d → heardD (readR t) = .tup [.str [116, 111, 108, 100], d] := fun d h => by
      unfold readR
      cases hp : pv (2 * t.length + 1) 60 t with
      | bad r => rw [hp] at h; cases h
      | ok d r =>
        rw [hp] at h
        by_cases he : r = []
        · simp only [finR, he, if_true] at h; cases h; simp only [he, if_true]; rfl
        · simp only [finR, he, if_false] at h; cases h
    rcases lp with ⟨rr, objs', h1, h2, h3⟩ | ⟨a2, ks2, w2, objs', f4, f5, f6, f7, f8, h1, h2, h3, h4, h5, h6, h7⟩
    · exact ⟨objs', by rw [h2, rb rr h1]; rfl, h3⟩
    · rw [h6, SO.seq_nx]
      refine ⟨objs', ?_, h7⟩
      have cl := cLen_str (st := ⟨objs', fl⟩) (show t.length ≤ 16777216 by omega)
      have ad : ∀ st : St, opAdd (.int (a2 : Int)) (.int 1) st = .ok (.int ((a2 : Int) + 1)) st := fun st => rfl
      have odd : ∀ rr : List Nat, den ks2 w2 (t.drop a2) = .bad rr → t.length - rr.length = a2 → U1 (envO t os0.length a2 w2 f4 f5 f6 f7 f8) ⟨objs', fl⟩ = .ret (.tup [.str [98, 97, 100], .int ((a2 : Int) + 1)]) ⟨objs', fl⟩ → (gSeq U1 (gSeq U2 gNx)) (envO t os0.length a2 w2 f4 f5 f6 f7 f8) ⟨objs', fl⟩ = .ret (heardD (readR t)) ⟨objs', fl⟩ := fun rr hd hl hU => by
        rw [gSeq, hU, rb rr (h1.trans hd), hl]; rfl
      by_cases hfin : ∃ d, w2 = .fin d
      · obtain ⟨d, rfl⟩ := hfin
        obtain ⟨_, _, hks, hd⟩ := h3
        subst hks
        have n0 : opNe (.str (Wt.fin d).word) (.str [101, 110, 100]) ⟨objs', fl⟩ = .ok (.bl false) ⟨objs', fl⟩ := by rw [opNe_str]; rfl
        have lt : opLt (.int (a2 : Int)) (.int (t.length : Nat)) ⟨objs', fl⟩ = .ok (.bl (decide (a2 < t.length))) ⟨objs', fl⟩ := by
          simp only [opOrd]; congr 2; rw [Bool.eq_iff_iff]; simp only [decide_eq_true_eq]; omega
        by_cases hz : a2 < t.length
        · rw [decide_eq_true hz] at lt
          have dd : den [] (.fin d) (t.drop a2) = .bad (t.drop a2) := by
            show finR (.ok d (t.drop a2)) = _
            unfold finR
            exact if_neg (fun z => by have := congrArg List.length z; simp at this; omega)
          refine odd _ dd (by rw [List.length_drop]; omega) ?_
          simp [U1, gIf, fOrT, fB, f2, fVar, fC, n0, fCall, fCons, fNil, cl, lt, gSeq, gRet, fTup, ad]
        · rw [decide_eq_false hz] at lt
          have hdr : t.drop a2 = [] := List.drop_eq_nil_of_le (by omega)
          have dd : den [] (.fin d) (t.drop a2) = .told d := by
            show finR (.ok d (t.drop a2)) = _
            unfold finR
            exact if_pos hdr
          have f8e := h5 d rfl
          subst f8e
          rw [rt d (h1.trans dd)]
          simp [U1, U2, gIf, fOrT, fB, f2, fVar, fC, n0, fCall, fCons, fNil, cl, lt, gSeq, gRet, fTup, gNx]
      · have hw : ∀ d, w2 ≠ .fin d := fun d z => hfin ⟨d, z⟩
        have hle : t.length ≤ a2 := by rcases h4 with h | h; exact h; exact absurd h hfin
        have hdr : t.drop a2 = [] := List.drop_eq_nil_of_le hle
        have dd := den_nil h3 hw
        rw [← hdr] at dd
        have n0 : opNe (.str w2.word) (.str [101, 110, 100]) ⟨objs', fl⟩ = .ok (.bl true) ⟨objs', fl⟩ := by
          rw [opNe_str]
          cases w2 with
          | fin d => exact absurd rfl (hw d)
          | _ => rfl
        refine odd _ dd (by rw [hdr]; simp; omega) ?_
        simp [U1, gIf, fOrT, fB, f2, fVar, fC, n0, fCons, fNil, gSeq, gRet, fTup, ad]
  obtain ⟨objs', body, pre⟩ := body
  have z := run_end (n := 9) (b := b__law_read_value v) (ds := [.str t]) (st := ⟨os0, fl0⟩) (d := heardD (readR t)) (objs := objs') (by
    rw [e0]
    show b__law_read_value v _ ⟨os0, (os0.length, false) :: fl0⟩ = _
    rw [← hfl, body]) (by
    refine nr_lo _ _ ?_
    unfold readR
    cases hp : pv (2 * t.length + 1) 60 t with
    | bad r => rfl
    | ok d r =>
      have hdn := (((p_facts (2 * t.length + 1)).1 60 t).2 d r hp).1
      simp only
      split
      · simp [heardD, D.nr, D.nrs, hdn]
      · rfl)
  show runF false 9 (b__law_read_value v) _ _ = _
  rw [z]
  simp only [pre]
end K10

set_option maxRecDepth 100000
set_option maxHeartbeats 2000000
/-! YN: k10, what is shown is read back, in plain Lean. -/
namespace K10
open PySem MP
theorem intS_nat (n : Nat) : intS (n : Int) = TL.numL n := TL.tl_num n
theorem intS_neg (n : Nat) : intS (Int.negSucc n) = 45 :: TL.numL (n + 1) := by
  have h := TL.tl_num (n + 1)
  unfold intS
  show (Str.ofString (toString (Int.negSucc n))).cps.toList = _
  have h' : (Str.ofString (toString (((n + 1 : Nat)) : Int))).cps.toList = TL.numL (n + 1) := h
  rw [PyProof.Rows.signs_ofString] at h' ⊢
  have e : toString (Int.negSucc n) = "-" ++ toString (((n + 1 : Nat)) : Int) := rfl
  rw [e, String.toList_append, List.map_append, h']
  rfl
theorem numL_head (n : Nat) (h : n ≠ 0) : (TL.numL n).head? ≠ some 48 := by
  induction n using Nat.strongRecOn with
  | _ n ih =>
    by_cases h10 : n < 10
    · rw [TL.numL_lt h10]; simp; omega
    · rw [TL.numL_step (by omega)]
      have := ih (n / 10) (by omega) (by omega)
      rw [List.head?_append]
      cases hh : (TL.numL (n / 10)).head? with
      | none => exact absurd (List.head?_eq_none_iff.mp hh) (TL.numL_ne _)
      | some x => rw [hh] at this; simpa using this
theorem numL_cG (n : Nat) : (TL.numL n).all cG = true := by
  rw [List.all_eq_true]
  intro c hc
  have := TL.numL_digits n c hc
  simp [cG, this]
theorem numL_cons (n : Nat) : ∃ c r, TL.numL n = c :: r ∧ cG c = true := by
  cases h : TL.numL n with
  | nil => exact absurd h (TL.numL_ne n)
  | cons c r =>
    have := numL_cG n
    rw [h, List.all_cons, Bool.and_eq_true] at this
    exact ⟨c, r, rfl, this.1⟩
theorem runV_intS {i : Int} (h : i.natAbs < 10 ^ 40) : runV (intS i) = some (.int i) := by
  cases i with
  | ofNat n =>
    have h' : n < 10 ^ 40 := h
    show runV (intS (n : Int)) = _
    rw [intS_nat]
    obtain ⟨c, r, e, hc⟩ := numL_cons n
    have hc' : 48 ≤ c ∧ c ≤ 57 := by simpa [cG] using hc
    have hl := TL.numL_len (n := n) (k := 40) (by decide) h'
    have hv := TL.numL_val n
    have hg := numL_cG n
    have hh := numL_head n
    rw [e] at hl hv hg hh ⊢
    unfold runV
    rw [if_neg (by simp; omega), if_neg (by simp [wordB, cL]; omega)]
    simp only [numV, show ¬ c = 45 by omega, if_false, numP]
    rw [if_neg (by simp), if_neg (by omega), if_neg (by rw [hg]; simp), if_neg ?_]
    · simp only [Bool.false_eq_true, if_false, hv]; rfl
    · rintro ⟨h1, h2⟩
      rcases h2 with h2 | h2
      · cases h2
      · by_cases hn : n = 0
        · subst hn
          rw [← e] at h2
          exact h2 rfl
        · exact hh hn h1
  | negSucc n =>
    have h' : n + 1 < 10 ^ 40 := h
    rw [intS_neg]
    have hl := TL.numL_len (n := n + 1) (k := 40) (by decide) h'
    have hv := TL.numL_val (n + 1)
    have hg := numL_cG (n + 1)
    have hh := numL_head (n + 1) (by omega)
    have hne := TL.numL_ne (n + 1)
    unfold runV
    rw [if_neg (by simpa using hne), if_neg (by simp [wordB, cL])]
    simp only [numV, if_true, numP]
    rw [if_neg hne, if_neg (by omega), if_neg (by rw [hg]; simp), if_neg (fun z => hh z.1)]
    simp only [hv]
    congr 2
theorem nS_of_G {c : Nat} (h : cLG c = true ∨ c = 45) : nS c = true := by
  unfold nS
  rcases h with h | rfl
  · simp [cLG, cL, cG] at h
    simp; omega
  · rfl
/-- a value that stands alone: its signs make one run -/
theorem scalar_run {d : MP.D} {k : Nat} (h : plainB d k = true) (ht : ∀ ds, d ≠ .tup ds) : (∀ c ∈ showT d, nS c = true) ∧ showT d ≠ [] ∧ runV (showT d) = some d := by
  cases d with
  | non => exact ⟨by simp [showT, nS], by simp [showT], rfl⟩
  | str s =>
    have h : wordB s = true := by cases k <;> simpa [plainB] using h
    cases s with
    | nil => cases h
    | cons c r =>
      simp only [wordB, Bool.and_eq_true, List.all_eq_true] at h
      refine ⟨fun x hx => ?_, by simp [showT], ?_⟩
      · simp only [showT] at hx
        rcases List.mem_cons.mp hx with rfl | hx
        · exact nS_of_G (.inl (by simp [cLG, h.1]))
        · exact nS_of_G (.inl (h.2 x hx))
      · show runV (c :: r) = _
        unfold runV
        rw [if_neg (by intro z; cases z; exact absurd h.1 (by decide)), if_pos (by simp only [wordB, Bool.and_eq_true, List.all_eq_true]; exact h)]
  | int i =>
    have h : i.natAbs < 10 ^ 40 := by cases k <;> exact of_decide_eq_true h
    refine ⟨fun c hc => ?_, ?_, runV_intS h⟩
    · simp only [showT] at hc
      cases i with
      | ofNat n =>
        have hc : c ∈ intS (n : Int) := hc
        rw [intS_nat] at hc
        exact nS_of_G (.inl (by simp [cLG, List.all_eq_true.mp (numL_cG n) c hc]))
      | negSucc n =>
        rw [intS_neg] at hc
        rcases List.mem_cons.mp hc with rfl | hc
        · exact nS_of_G (.inr rfl)
        · exact nS_of_G (.inl (by simp [cLG, List.all_eq_true.mp (numL_cG _) c hc]))
    · simp only [showT]
      cases i with
      | ofNat n => show intS (n : Int) ≠ []; rw [intS_nat]; exact TL.numL_ne n
      | negSucc n => rw [intS_neg]; simp
  | tup ds => exact absurd rfl (ht ds)
  | _ => cases k <;> cases h
mutual
theorem plain_nr : ∀ (d : MP.D) (k : Nat), plainB d k = true → d.nr = true
  | .non, _, _ => rfl
  | .str _, _, _ => rfl
  | .int _, _, _ => rfl
  | .tup ds, k + 1, h => by simpa [D.nr] using plains_nr ds k h
  | .tup ds, 0, h => by cases h
  | .bl _, k, h => by cases k <;> cases h
  | .emp, k, h => by cases k <;> cases h
  | .lst _, k, h => by cases k <;> cases h
  | .lsk _, k, h => by cases k <;> cases h
  | .ref _, k, h => by cases k <;> cases h
  | .fv _ _, k, h => by cases k <;> cases h
theorem plains_nr : ∀ (ds : List MP.D) (k : Nat), plainsB ds k = true → D.nrs ds = true
  | [], _, _ => rfl
  | d :: ds, k, h => by
    simp only [plainsB, Bool.and_eq_true] at h
    simp [D.nrs, plain_nr d k h.1, plains_nr ds k h.2]
end
/-- the things behind the first -/
def tailT : List MP.D → List Nat
  | [] => []
  | d :: ds => 32 :: (showT d ++ tailT ds)
def stops (rest : List Nat) : Prop := rest = [] ∨ rest.take 1 = [32] ∨ rest.take 1 = [41]
theorem tail_stops (ds : List MP.D) (r : List Nat) : stops (tailT ds ++ 41 :: r) := by
  cases ds with
  | nil => exact .inr (.inr rfl)
  | cons d ds => exact .inr (.inl rfl)
theorem takeWhile_stop {s rest : List Nat} (hs : ∀ c ∈ s, nS c = true) (hr : stops rest) : (s ++ rest).takeWhile nS = s ∧ (s ++ rest).dropWhile nS = rest := by
  have h0 : rest.takeWhile nS = [] ∧ rest.dropWhile nS = rest := by
    rcases hr with rfl | h | h
    · exact ⟨rfl, rfl⟩
    · cases rest with
      | nil => cases h
      | cons c r => simp at h; subst h; exact ⟨rfl, rfl⟩
    · cases rest with
      | nil => cases h
      | cons c r => simp at h; subst h; exact ⟨rfl, rfl⟩
  rw [List.takeWhile_append_of_pos hs, List.dropWhile_append_of_pos hs, h0.1, h0.2]
  simp
theorem show_first {d : MP.D} {k : Nat} (h : plainB d k = true) (rest : List Nat) : (showT d ++ rest).take 1 ≠ [41] ∧ ((∀ ds, d ≠ .tup ds) → (showT d ++ rest).take 1 ≠ [40]) := by
  by_cases ht : ∃ ds, d = .tup ds
  · obtain ⟨ds, rfl⟩ := ht
    exact ⟨by simp [showT], fun z => absurd rfl (z ds)⟩
  · obtain ⟨a, b, _⟩ := scalar_run h (fun ds e => ht ⟨ds, e⟩)
    cases hs : showT d with
    | nil => exact absurd hs b
    | cons c r =>
      have := a c (by rw [hs]; exact List.mem_cons_self)
      refine ⟨fun z => ?_, fun _ z => ?_⟩
      · simp at z; subst z; cases this
      · simp at z; subst z; cases this
theorem joinL_shows (d : MP.D) (ds : List MP.D) : TL.joinL [32] (shows (d :: ds)) = showT d ++ tailT ds := by
  induction ds generalizing d with
  | nil => simp [shows, TL.joinL, tailT]
  | cons x xs ih =>
    have := ih x
    simp only [shows] at this ⊢
    rw [TL.joinL, this]
    simp [tailT]
theorem PV_scalar {d : MP.D} {k : Nat} {rest : List Nat} (h : plainB d k = true) (ht : ∀ ds, d ≠ .tup ds) (hr : stops rest) : PV k (showT d ++ rest) = .ok d rest := by
  obtain ⟨a, b, c⟩ := scalar_run h ht
  obtain ⟨e1, e2⟩ := takeWhile_stop a hr
  rw [PV_eq, if_neg ((show_first h rest).2 ht), e1, e2, c]
mutual
theorem PV_show : ∀ (d : MP.D) (k : Nat) (rest : List Nat), plainB d k = true → stops rest → PV k (showT d ++ rest) = .ok d rest
  | .tup (d :: ds), k + 1, rest, h, hr => by
    rw [PV_eq, if_pos (by simp [showT]), if_neg (by omega)]
    have h : plainB d k = true ∧ plainsB ds k = true := by simpa [plainB, plainsB] using h
    have e : (showT (.tup (d :: ds)) ++ rest).drop 1 = showT d ++ (tailT ds ++ 41 :: rest) := by
      simp [showT, joinL_shows]
    rw [e, Nat.add_sub_cancel, PI_eq _ _ _ rfl, if_neg (show_first h.1 _).1, if_pos rfl, PV_show d k _ h.1 (tail_stops ds rest)]
    simp only
    rw [PI_show ds k [d] rest h.2 (by simp) (by simp [D.nrs, plain_nr d k h.1])]
    rfl
  | .tup [], k + 1, rest, h, hr => by
    rw [PV_eq, if_pos (by simp [showT]), if_neg (by omega)]
    have e : (showT (.tup []) ++ rest).drop 1 = 41 :: rest := rfl
    rw [e, PI_eq _ _ _ rfl, if_pos rfl]
    rfl
  | .tup ds, 0, rest, h, hr => by cases h
  | .non, k, rest, h, hr => PV_scalar h (fun _ z => by cases z) hr
  | .str s, k, rest, h, hr => PV_scalar h (fun _ z => by cases z) hr
  | .int i, k, rest, h, hr => PV_scalar h (fun _ z => by cases z) hr
  | .bl _, k, rest, h, hr => by cases k <;> cases h
  | .emp, k, rest, h, hr => by cases k <;> cases h
  | .lst _, k, rest, h, hr => by cases k <;> cases h
  | .lsk _, k, rest, h, hr => by cases k <;> cases h
  | .ref _, k, rest, h, hr => by cases k <;> cases h
  | .fv _ _, k, rest, h, hr => by cases k <;> cases h
theorem PI_show : ∀ (ds : List MP.D) (k : Nat) (acc : List MP.D) (rest : List Nat), plainsB ds k = true → acc ≠ [] → D.nrs acc = true → PI k acc (tailT ds ++ 41 :: rest) = .ok (.tup (acc ++ ds)) rest
  | [], k, acc, rest, h, h0, hn => by
    rw [PI_eq _ _ _ hn, if_pos (by rfl)]
    simp [tailT]
  | d :: ds, k, acc, rest, h, h0, hn => by
    simp only [plainsB, Bool.and_eq_true] at h
    have e : (tailT (d :: ds) ++ 41 :: rest).drop 1 = showT d ++ (tailT ds ++ 41 :: rest) := by simp [tailT]
    rw [PI_eq _ _ _ hn, if_neg (by simp [tailT]), if_neg h0, if_pos (by simp [tailT]), e, PV_show d k _ h.1 (tail_stops ds rest)]
    simp only
    rw [PI_show ds k (acc ++ [d]) rest h.2 (by simp) (by rw [nrs_append, hn]; simp [D.nrs, plain_nr d k h.1])]
    simp
end
theorem read_show {d : MP.D} (h : plainB d 60 = true) : readR (showT d) = .told d := by
  have := PV_show d 60 [] h (.inl rfl)
  rw [List.append_nil] at this
  unfold PV at this
  unfold readR
  rw [this]
  simp
end K10

set_option maxRecDepth 100000
set_option maxHeartbeats 2000000
/-! YO: k10, how large a value is that is read; heard alike. -/
namespace K10
open PySem MP
theorem digits_ltR (q : List Nat) (h : q.reverse.all cG = true) : NumText.digitsVal q.reverse < 10 ^ q.length := by
  induction q with
  | nil => decide
  | cons c p ih =>
    rw [List.reverse_cons, List.all_append, Bool.and_eq_true] at h
    have hc : 48 ≤ c ∧ c ≤ 57 := by simpa [cG] using h.2
    have := ih h.1
    rw [List.reverse_cons, NumText.digitsVal_snoc, List.length_cons, Nat.pow_succ]
    omega
theorem digits_lt (p : List Nat) (h : p.all cG = true) : NumText.digitsVal p < 10 ^ p.length := by
  have := digits_ltR p.reverse (by rw [List.reverse_reverse]; exact h)
  rwa [List.reverse_reverse, List.length_reverse] at this
theorem pow10 (n : Nat) : 10 ^ n ≤ 2 ^ (4 * n) := by
  rw [Nat.pow_mul]
  exact Nat.pow_le_pow_left (by decide) n
theorem log_digits {n m : Nat} (h : n < 10 ^ m) (hm : 0 < m) : n.log2 + 1 ≤ 4 * m := by
  by_cases z : n = 0
  · subst z; simp; omega
  · exact (Nat.log2_lt z).mpr (Nat.lt_of_lt_of_le h (pow10 m))
theorem runV_size {r : List Nat} {d : MP.D} (h : runV r = some d) : d.pm = true ∧ d.dp = 0 ∧ d.wm + 1 ≤ 5 * r.length := by
  have hne := (runV_ok h).2
  have hp : 0 < r.length := List.length_pos_iff.mpr hne
  have num : ∀ (b : Bool) (p : List Nat), numP b p = some d → p.length ≤ r.length → d.pm = true ∧ d.dp = 0 ∧ d.wm + 1 ≤ 5 * r.length := fun b p hn hl => by
    unfold numP at hn
    by_cases h1 : p = []
    · rw [if_pos h1] at hn; cases hn
    · rw [if_neg h1] at hn
      by_cases h2 : 40 < p.length
      · rw [if_pos h2] at hn; cases hn
      · rw [if_neg h2] at hn
        by_cases h3 : p.all cG = false
        · rw [if_pos h3] at hn; cases hn
        · rw [if_neg h3] at hn
          by_cases h4 : p.head? = some 48 ∧ (b = true ∨ p ≠ [48])
          · rw [if_pos h4] at hn; cases hn
          · rw [if_neg h4] at hn
            cases hn
            have hd := digits_lt p (by simpa using h3)
            have lg := log_digits hd (List.length_pos_iff.mpr h1)
            have big : NumText.digitsVal p < 10 ^ 45 := Nat.lt_of_lt_of_le hd (Nat.pow_le_pow_right (by decide) (by omega))
            have ab : (if b = true then 0 - (NumText.digitsVal p : Int) else (NumText.digitsVal p : Int)).natAbs = NumText.digitsVal p := by
              cases b <;> simp
            refine ⟨?_, rfl, ?_⟩
            · simp only [D.pm, ab]; exact decide_eq_true big
            · simp only [D.wm, ab]
              omega
  unfold runV at h
  by_cases h1 : r = [45]
  · rw [if_pos h1] at h; cases h
    exact ⟨rfl, rfl, by simp only [D.wm]; omega⟩
  · rw [if_neg h1] at h
    by_cases h2 : wordB r = true
    · rw [if_pos h2] at h; cases h
      refine ⟨?_, rfl, by simp only [D.wm]; omega⟩
      cases r with
      | nil => rfl
      | cons c q =>
        simp only [wordB, Bool.and_eq_true, List.all_eq_true] at h2
        simp only [D.pm, List.all_eq_true]
        intro x hx
        have : cLG x = true := by
          rcases List.mem_cons.mp hx with rfl | hx
          · simp [cLG, h2.1]
          · exact h2.2 x hx
        simp [cLG, cL, cG] at this
        simp; omega
    · rw [if_neg h2] at h
      cases r with
      | nil => cases h
      | cons c q =>
        simp only [numV] at h
        by_cases h3 : c = 45
        · rw [if_pos h3] at h; exact num true q h (by simp)
        · rw [if_neg h3] at h; exact num false (c :: q) h (Nat.le_refl _)
theorem dps_append {a b : List MP.D} : D.dps (a ++ b) = max (D.dps a) (D.dps b) := by
  induction a with
  | nil => simp [D.dps]
  | cons x l ih => simp only [List.cons_append, D.dps, ih]; omega
theorem p_size : ∀ n : Nat, (∀ k u d r, pv n k u = .ok d r → d.pm = true ∧ d.dp ≤ k ∧ d.wm + 1 + 5 * r.length ≤ 5 * u.length) ∧ (∀ k acc u d r, D.pms acc = true → D.dps acc ≤ k → pis n k acc u = .ok d r → ∃ ds, d = .tup ds ∧ D.pms ds = true ∧ D.dps ds ≤ k ∧ D.wms ds + 5 * r.length ≤ D.wms acc + 5 * u.length)
  | 0 => ⟨fun k u d r h => (by rw [pv] at h; cases h), fun k acc u d r _ _ h => (by rw [pis] at h; cases h)⟩
  | n + 1 => by
    obtain ⟨iv, ii⟩ := p_size n
    refine ⟨fun k u d r h => ?_, fun k acc u d r h1 h2 h => ?_⟩
    · rw [pv_eq] at h
      by_cases h40 : u.take 1 = [40]
      · have hl := drop1_lt h40
        rw [if_pos h40] at h
        by_cases hk : k = 0
        · rw [if_pos hk] at h; cases h
        · rw [if_neg hk] at h
          obtain ⟨ds, rfl, a, b, c⟩ := ii (k - 1) [] (u.drop 1) d r rfl (by simp [D.dps]) h
          refine ⟨by simpa [D.pm] using a, by simp only [D.dp]; omega, ?_⟩
          simp only [D.wm, D.wms] at c ⊢
          omega
      · rw [if_neg h40] at h
        cases hr : runV (u.takeWhile nS) with
        | none => rw [hr] at h; cases h
        | some x =>
          rw [hr] at h; cases h
          obtain ⟨a, b, c⟩ := runV_size hr
          have e : (u.takeWhile nS).length + (u.dropWhile nS).length = u.length := by rw [← List.length_append, List.takeWhile_append_dropWhile]
          exact ⟨a, by omega, by omega⟩
    · rw [pis_eq] at h
      have step : ∀ u', u'.length ≤ u.length → (match pv n k u' with | .ok d r => pis n k (acc ++ [d]) r | .bad r => .bad r) = .ok d r → ∃ ds, d = .tup ds ∧ D.pms ds = true ∧ D.dps ds ≤ k ∧ D.wms ds + 5 * r.length ≤ D.wms acc + 5 * u.length := fun u' hu h => by
        cases hp : pv n k u' with
        | bad r => rw [hp] at h; cases h
        | ok x q =>
          rw [hp] at h
          obtain ⟨a, b, c⟩ := iv k u' x q hp
          obtain ⟨ds, e, a', b', c'⟩ := ii k (acc ++ [x]) q d r (by rw [pms_append, h1]; simp [D.pms, a]) (by rw [dps_append]; simp only [D.dps]; omega) h
          refine ⟨ds, e, a', b', ?_⟩
          rw [wms_append] at c'
          simp only [D.wms] at c'
          omega
      by_cases h41 : u.take 1 = [41]
      · have hl := drop1_lt h41
        rw [if_pos h41] at h; cases h
        exact ⟨acc, rfl, h1, h2, by omega⟩
      · rw [if_neg h41] at h
        by_cases ha : acc = []
        · rw [if_pos ha] at h
          exact step u (Nat.le_refl _) (by rw [ha]; exact h)
        · rw [if_neg ha] at h
          by_cases h32 : u.take 1 = [32]
          · rw [if_pos h32] at h
            exact step (u.drop 1) (by simp) h
          · rw [if_neg h32] at h; cases h
theorem heard_size {t : List Nat} (ht : t.length ≤ 50000) : (heardD (readR t)).pm = true ∧ (heardD (readR t)).wm ≤ 300000 ∧ (heardD (readR t)).dp ≤ 64 := by
  unfold readR
  have bad : ∀ p : Nat, p ≤ 50000 → (heardD (.bad p)).pm = true ∧ (heardD (.bad p)).wm ≤ 300000 ∧ (heardD (.bad p)).dp ≤ 64 := fun p hp => by
    have e : ((p : Int) + 1).natAbs = p + 1 := by omega
    have lg : (p + 1).log2 < 20 := (Nat.log2_lt (by omega)).mpr (by omega)
    refine ⟨?_, ?_, by simp [heardD, D.dp, D.dps]⟩
    · simp only [heardD, D.pm, D.pms, e, Bool.and_true]
      rw [Bool.and_eq_true]
      exact ⟨by decide, decide_eq_true (Nat.lt_of_le_of_lt (show p + 1 ≤ 50001 by omega) (by decide))⟩
    · simp only [heardD, D.wm, D.wms, e, List.length_cons, List.length_nil]; omega
  cases hp : pv (2 * t.length + 1) 60 t with
  | bad r => exact bad _ (by omega)
  | ok d r =>
    obtain ⟨a, b, c⟩ := (p_size _).1 60 t d r hp
    simp only
    by_cases hr : r = []
    · rw [if_pos hr]
      refine ⟨?_, ?_, ?_⟩
      · simp only [heardD, D.pm, D.pms, a, Bool.and_true]; rfl
      · simp only [heardD, D.wm, D.wms, List.length_cons, List.length_nil]; omega
      · simp only [heardD, D.dp, D.dps]; omega
    · rw [if_neg hr]; exact bad _ (by omega)
/-- what is shown is small where its text is -/
theorem show_size {d : MP.D} (h : plainB d 60 = true) : d.pm = true ∧ d.dp ≤ 60 ∧ d.wm + 1 ≤ 5 * (showT d).length := by
  have := PV_show d 60 [] h (.inl rfl)
  rw [List.append_nil] at this
  simpa using (p_size _).1 60 _ d [] this
variable (v : Vv)
theorem law_alike_ok {d : MP.D} (h : d.pm = true) (hw : d.wm ≤ 300000) (hd : d.dp ≤ 64) (st : St) : h__law_alike v [d, d] st = .ok (.bl true) st := by
  refine run_pure ?_ rfl
  have z := alike_self_m (st := enter st) h hw hd
  unfold b__law_alike
  simp only [gSeq, gRet]
  have e0 : List.map some [d, d] ++ List.replicate (2 - [d, d].length) none = [some d, some d] := rfl
  rw [e0, z]
  rfl
end K10

set_option maxRecDepth 100000
set_option maxHeartbeats 2000000
/-! YP: k10, the draws. -/
namespace K10
open PySem MP
variable (v : Vv)
theorem bag_le {os : List O} {i n m : Nat} (B : Bag os i n) (h : n ≤ m) : Bag os i m := by
  obtain ⟨b0, b1, b2, cs, e, p0, p1, p2, p3, p4, p5, p6⟩ := B.ex
  exact ⟨b0, b1, b2, cs, e, p0, p1, p2, p3, by omega, p5, p6⟩
theorem take_at {os : List O} {fl : List (Nat × Bool)} {n : Nat} {many : Int} (B : Bag os 0 n) (hn : n < 2 ^ 64) (h0 : 0 < many) (h1 : many < 2 ^ 200) :
    ∃ (d : Int) (os' : List O), h__law_take v [.ref 0, .int many] ⟨os, fl⟩ = .ok (.int d) ⟨os', fl⟩ ∧ 0 ≤ d ∧ d < many ∧ os'.length = os.length ∧ Bag os' 0 (n + 1) := by
  obtain ⟨d, o, e, a, b, B'⟩ := take_ok (st := ⟨os, fl⟩) B hn h0 h1
  exact ⟨d, os.set 0 o, e, a, b, by simp, B'⟩
theorem some_at {os : List O} {fl : List (Nat × Bool)} {n : Nat} {ds : List MP.D} (B : Bag os 0 n) (hn : n < 2 ^ 64) (h0 : ds ≠ []) (hl : ds.length ≤ 1000) (hr : D.nrs ds = true) :
    ∃ (d : MP.D) (os' : List O), d ∈ ds ∧ h__law_some v [.ref 0, .lst ds] ⟨os, fl⟩ = .ok d ⟨os', fl⟩ ∧ os'.length = os.length ∧ Bag os' 0 (n + 1) := by
  obtain ⟨d, o, hd, e, B'⟩ := some_ok (st := ⟨os, fl⟩) (ds := ds) (.inl rfl) B hn h0 (by omega) hr
  exact ⟨d, os.set 0 o, hd, e, by simp, B'⟩
theorem lc_draw {P : MP.D → Prop} {c k L : Nat} {el : Env → St → Out MP.D} {ρ : Env} {fl : List (Nat × Bool)}
    (h : ∀ (os : List O) (n : Nat) (x : MP.D), Bag os 0 n → n + c < 2 ^ 64 → os.length = L → ∃ (d : MP.D) (os' : List O), el (ρ.set k (some x)) ⟨os, fl⟩ = .ok d ⟨os', fl⟩ ∧ P d ∧ os'.length = L ∧ Bag os' 0 (n + c)) :
    ∀ (ds acc : List MP.D) (os : List O) (n : Nat), Bag os 0 n → n + c * ds.length < 2 ^ 64 → os.length = L → acc.length + ds.length ≤ 16777216 →
      ∃ (es : List MP.D) (os' : List O), lcLoop (tgName k) (fun _ st => .ok true st) el ρ ds acc ⟨os, fl⟩ = .ok (acc ++ es) ⟨os', fl⟩ ∧ es.length = ds.length ∧ (∀ e ∈ es, P e) ∧ os'.length = L ∧ Bag os' 0 (n + c * ds.length)
  | [], acc, os, n, B, hn, hL, ha => ⟨[], os, by simp [lcLoop], rfl, fun _ q => (by cases q), hL, B⟩
  | x :: ds, acc, os, n, B, hn, hL, ha => by
    simp only [List.length_cons, Nat.mul_add, Nat.mul_one] at hn ha
    obtain ⟨d, o1, e1, p1, l1, B1⟩ := h os n x B (by omega) hL
    obtain ⟨es, o2, e2, l2, p2, l3, B2⟩ := lc_draw h ds (acc ++ [d]) o1 (n + c) B1 (by omega) l1 (by simp; omega)
    refine ⟨d :: es, o2, ?_, by simp [l2], fun e he => ?_, l3, by simp only [List.length_cons, Nat.mul_add, Nat.mul_one]; rw [show n + (c * ds.length + c) = n + c + c * ds.length by omega]; exact B2⟩
    · unfold lcLoop
      simp only [List.append_assoc, List.singleton_append] at e2
      simp only [tgName, e1, Out.calm, Out.bind_ok, if_true, show acc.length < 16777216 by omega]
      exact e2
    · rcases List.mem_cons.mp he with rfl | he
      · exact p1
      · exact p2 e he
/-- what is drawn -/
def drawn (k : Nat) (d : MP.D) : Prop := plainB d k = true ∧ okB d = true ∧ (showT d).length ≤ 50 * 4 ^ k ∧ d.nr = true
def SC (x : Int) : List MP.D := [.non, .int 0, .int 7, .int (-1), .int 1000000000000, .int (-1000000000000000000000000000000000000000), .int 9999999999999999999999999999999999999999, .str [97], .str [107, 101, 112, 116], .str [120, 57], .str [108, 101, 97, 115, 116], .int (x - 50)]
theorem intS_len {i : Int} (h : i.natAbs < 10 ^ 40) : (intS i).length ≤ 41 := by
  cases i with
  | ofNat n =>
    show (intS (n : Int)).length ≤ 41
    rw [intS_nat]
    exact Nat.le_succ_of_le (TL.numL_len (by decide) h)
  | negSucc n =>
    rw [intS_neg]
    exact Nat.succ_le_succ (TL.numL_len (n := n + 1) (k := 40) (by decide) h)
theorem drawn_int {i : Int} {k : Nat} (h : i.natAbs < 10 ^ 40) : drawn k (.int i) := by
  refine ⟨?_, rfl, ?_, rfl⟩
  · cases k <;> exact decide_eq_true h
  · have := intS_len h
    have := Nat.pow_pos (n := k) (show 0 < 4 by decide)
    simp only [showT]; omega
theorem drawn_SC {x : Int} (h0 : 0 ≤ x) (h1 : x < 99) {k : Nat} : ∀ d ∈ SC x, drawn k d := by
  have hp := Nat.pow_pos (n := k) (show 0 < 4 by decide)
  have word : ∀ s : List Nat, wordB s = true → s.length ≤ 50 → (s.all fun c => decide (c < 1114112)) = true → drawn k (.str s) := fun s a b c => by
    refine ⟨by cases k <;> exact a, ?_, by simp only [showT]; omega, rfl⟩
    simp only [okB, c, Bool.and_true]; exact decide_eq_true (by omega)
  intro d hd
  simp only [SC, List.mem_cons, List.not_mem_nil, or_false] at hd
  rcases hd with rfl | rfl | rfl | rfl | rfl | rfl | rfl | rfl | rfl | rfl | rfl | rfl
  · exact ⟨by cases k <;> rfl, rfl, by simp only [showT, List.length_cons, List.length_nil]; omega, rfl⟩
  · exact drawn_int (by decide)
  · exact drawn_int (by decide)
  · exact drawn_int (by decide)
  · exact drawn_int (by decide)
  · exact drawn_int (by decide)
  · exact drawn_int (by decide)
  · exact word _ (by decide) (by decide) (by decide)
  · exact word _ (by decide) (by decide) (by decide)
  · exact word _ (by decide) (by decide) (by decide)
  · exact word _ (by decide) (by decide) (by decide)
  · exact drawn_int (Nat.lt_of_lt_of_le (show (x - 50).natAbs < 100 by omega) (by decide))
theorem drawn_tup {k : Nat} {ds : List MP.D} (h : ∀ d ∈ ds, drawn k d) (hl : ds.length ≤ 3) : drawn (k + 1) (.tup ds) := by
  have hp := Nat.pow_pos (n := k) (show 0 < 4 by decide)
  have tl : ∀ ds : List MP.D, (∀ d ∈ ds, drawn k d) → (tailT ds).length ≤ ds.length * (50 * 4 ^ k + 1) := fun ds h => by
    induction ds with
    | nil => simp [tailT]
    | cons d ds ih =>
      have a := (h d List.mem_cons_self).2.2.1
      have b := ih fun x hx => h x (List.mem_cons_of_mem _ hx)
      simp only [tailT, List.length_cons, List.length_append, Nat.add_mul, Nat.one_mul]
      omega
  have sl : (showT (.tup ds)).length ≤ (tailT ds).length + 2 := by
    cases ds with
    | nil => decide
    | cons d ds => simp only [showT, joinL_shows, tailT, List.length_cons, List.length_append, List.length_nil]; omega
  have t := tl ds h
  have m : ds.length * (50 * 4 ^ k + 1) ≤ 3 * (50 * 4 ^ k + 1) := Nat.mul_le_mul_right _ hl
  refine ⟨?_, ?_, ?_, ?_⟩
  · show plainsB ds k = true
    rw [plains_all, List.all_eq_true]
    exact fun d hd => (h d hd).1
  · simp only [okB, Bool.and_eq_true]
    exact ⟨decide_eq_true (by omega), oks_of fun d hd => (h d hd).2.1⟩
  · rw [Nat.pow_succ]; omega
  · simp only [D.nr]
    clear t m tl sl hl
    induction ds with
    | nil => rfl
    | cons d ds ih => simp only [D.nrs, (h d List.mem_cons_self).2.2.2, Bool.true_and]; exact ih fun x hx => h x (List.mem_cons_of_mem _ hx)
theorem nrs_of {ds : List MP.D} (h : ∀ d ∈ ds, d.nr = true) : D.nrs ds = true := by
  induction ds with
  | nil => rfl
  | cons d ds ih => simp only [D.nrs, h d List.mem_cons_self, Bool.true_and]; exact ih fun x hx => h x (List.mem_cons_of_mem _ hx)
def LV2 : Env → St → SO := gSeq (gRet (fDef 2 (h__law_some v) (fCons (fVar 0) (fCons (fLst (fCons (fC .non) (fCons (fC (.int 0)) (fCons (fC (.int 7)) (fCons (f1 opNeg (fC (.int 1))) (fCons (f2 opPow (fC (.int 10)) (fC (.int 12))) (fCons (f1 opNeg (f2 opPow (fC (.int 10)) (fC (.int 39)))) (fCons (f2 opSub (f2 opPow (fC (.int 10)) (fC (.int 40))) (fC (.int 1))) (fCons (fC (.str [97])) (fCons (fC (.str [107, 101, 112, 116])) (fCons (fC (.str [120, 57])) (fCons (fC (.str [108, 101, 97, 115, 116])) (fCons (f2 opSub (fDef 2 (h__law_take v) (fCons (fVar 0) (fCons (fC (.int 99)) (fNil)))) (fC (.int 50))) (fNil)))))))))))))) (fNil))))) (gNx)
def LV1 (h : List MP.D → St → Out MP.D) : Env → St → SO := gIf (fAndT (fB (f2 opGt (fVar 1) (fC (.int 0)))) (fB (f2 opGt (fDef 2 (h__law_take v) (fCons (fVar 0) (fCons (fC (.int 3)) (fNil)))) (fC (.int 0))))) (gSeq (gRet (fCall cTup (fCons (fLcL (fLc (fRg1 (fCons (fDef 2 (h__law_take v) (fCons (fVar 0) (fCons (fC (.int 4)) (fNil)))) (fNil))) (tgName 2) (fun _ st => .ok true st) (fDef 2 h (fCons (fVar 0) (fCons (f2 opSub (fVar 1) (fC (.int 1))) (fNil)))) [2])) (fNil)))) (gNx)) (gNx)
theorem lv_eq (h : List MP.D → St → Out MP.D) : b__law_value v h = gSeq (LV1 v h) (LV2 v) := rfl
theorem lv2_ok {os : List O} {fl : List (Nat × Bool)} {n : Nat} {e1 e2 : Option MP.D} (B : Bag os 0 n) (hn : n + 2 < 2 ^ 64) (k : Nat) :
    ∃ (d : MP.D) (os' : List O), LV2 v [some (.ref 0), e1, e2] ⟨os, fl⟩ = .ret d ⟨os', fl⟩ ∧ drawn k d ∧ os'.length = os.length ∧ Bag os' 0 (n + 2) := by
  obtain ⟨x, o1, t1, x0, x1, l1, B1⟩ := take_at v (fl := fl) (many := 99) B (by omega) (by decide) (by decide)
  have ds := fun k => drawn_SC (k := k) x0 x1
  obtain ⟨d, o2, m, t2, l2, B2⟩ := some_at v (fl := fl) (ds := SC x) B1 (by omega) (by simp [SC]) (by simp [SC]) (nrs_of fun d hd => (ds 0 d hd).2.2.2)
  refine ⟨d, o2, ?_, ds k d m, by omega, B2⟩
  have n1 : ∀ st : St, opNeg (.int 1) st = .ok (.int (-1)) st := fun st => rfl
  have p12 : ∀ st : St, opPow (.int 10) (.int 12) st = .ok (.int 1000000000000) st := fun st => rfl
  have p39 : ∀ st : St, opPow (.int 10) (.int 39) st = .ok (.int 1000000000000000000000000000000000000000) st := fun st => rfl
  have p40 : ∀ st : St, opPow (.int 10) (.int 40) st = .ok (.int 10000000000000000000000000000000000000000) st := fun st => rfl
  have n39 : ∀ st : St, opNeg (.int 1000000000000000000000000000000000000000) st = .ok (.int (-1000000000000000000000000000000000000000)) st := fun st => rfl
  have s40 : ∀ st : St, opSub (.int 10000000000000000000000000000000000000000) (.int 1) st = .ok (.int 9999999999999999999999999999999999999999) st := fun st => rfl
  have sx : ∀ st : St, opSub (.int x) (.int 50) st = .ok (.int (x - 50)) st := fun st => rfl
  unfold SC at t2
  simp [LV2, gSeq, gRet, fDef, fCons, fVar, fLst, fC, MP.f1, n1, f2, p12, p39, p40, n39, s40, fNil, t1, sx, t2]
def dc : Nat → Nat
  | 0 => 2
  | k + 1 => 3 * dc k + 4
theorem value_drawn : ∀ (k n : Nat) (os : List O) (fl : List (Nat × Bool)), Bag os 0 n → n + dc k < 2 ^ 64 → ∃ (d : MP.D) (os' : List O), h__law_value v (k + 1) [.ref 0, .int (k : Int)] ⟨os, fl⟩ = .ok d ⟨os', fl⟩ ∧ drawn k d ∧ os'.length = os.length ∧ Bag os' 0 (n + dc k) := by
  intro k
  have wrap : ∀ (k n : Nat) (os os' : List O) (fl : List (Nat × Bool)) (d : MP.D), b__law_value v (h__law_value v k) [some (.ref 0), some (.int (k : Int)), none] ⟨os, (os.length, false) :: fl⟩ = .ret d ⟨os', (os.length, false) :: fl⟩ → d.nr = true → os'.length = os.length → h__law_value v (k + 1) [.ref 0, .int (k : Int)] ⟨os, fl⟩ = .ok d ⟨os', fl⟩ := fun k n os os' fl d h hd hl => by
    have z := run_end (n := 3) (b := b__law_value v (h__law_value v k)) (ds := [.ref 0, .int (k : Int)]) (st := ⟨os, fl⟩) (d := d) (objs := os') h (nr_lo _ _ hd)
    show runF false 3 (b__law_value v (h__law_value v k)) _ _ = _
    rw [z]
    simp only
    rw [List.take_of_length_le (by omega)]
  induction k with
  | zero =>
    intro n os fl B hn
    obtain ⟨d, o2, e, a, l, B'⟩ := lv2_ok v (fl := (os.length, false) :: fl) (e1 := some (.int 0)) (e2 := none) B hn 0
    refine ⟨d, o2, wrap 0 n os o2 fl d ?_ a.2.2.2 l, a, l, B'⟩
    have g0 : ∀ st : St, opGt (.int 0) (.int 0) st = .ok (.bl false) st := fun st => rfl
    have l1 : LV1 v (h__law_value v 0) [some (.ref 0), some (.int 0), none] ⟨os, (os.length, false) :: fl⟩ = .nx [some (.ref 0), some (.int 0), none] ⟨os, (os.length, false) :: fl⟩ := by
      simp [LV1, gIf, fAndT, fB, f2, fVar, fC, g0, gNx]
    rw [lv_eq, gSeq]
    show SO.seq (LV1 v (h__law_value v 0) [some (.ref 0), some (.int 0), none] _) _ = _
    rw [l1, SO.seq_nx, e]
  | succ k ih =>
    intro n os fl B hn
    simp only [dc] at hn
    have fl1 : ∃ f, f = (os.length, false) :: fl := ⟨_, rfl⟩
    obtain ⟨f, hf⟩ := fl1
    obtain ⟨x, o1, t1, x0, x1, l1, B1⟩ := take_at v (fl := f) (many := 3) B (by omega) (by decide) (by decide)
    obtain ⟨z, hz⟩ : ∃ z : Int, z = ((k + 1 : Nat) : Int) := ⟨_, rfl⟩
    have g0 : ∀ st : St, opGt (.int z) (.int 0) st = .ok (.bl true) st := fun st => by simp only [opOrd]; congr 2; exact decide_eq_true (by omega)
    have gx : ∀ st : St, opGt (.int x) (.int 0) st = .ok (.bl (decide (0 < x))) st := fun st => rfl
    by_cases hx : 0 < x
    · obtain ⟨y, o2, t2, y0, y1, l2, B2⟩ := take_at v (fl := f) (many := 4) B1 (by omega) (by decide) (by decide)
      have sb : ∀ st : St, opSub (.int z) (.int 1) st = .ok (.int (k : Int)) st := fun st => by show Out.ok (D.int (z - 1)) st = _; congr 2; omega
      obtain ⟨es, o3, t3, l3, p3, l4, B3⟩ := lc_draw (P := drawn k) (c := dc k) (k := 2) (L := os.length) (ρ := wipeE [some (.ref 0), some (.int z), none] [2]) (fl := f) (el := fDef 2 (h__law_value v (k + 1)) (fCons (fVar 0) (fCons (f2 opSub (fVar 1) (fC (.int 1))) (fNil)))) (fun os n x B hn hL => by
        obtain ⟨d, o', e, a, l, B'⟩ := ih n os f B hn
        refine ⟨d, o', ?_, a, by omega, B'⟩
        simp [wipeE, fDef, fCons, fVar, f2, fC, fNil, sb, e]) (rg 0 y.toNat) [] o2 (n + 1 + 1) B2 (by
          have : (rg 0 y.toNat).length ≤ 3 := by simp [rg]; omega
          have := Nat.mul_le_mul_left (dc k) this
          omega) (by omega) (by simp [rg]; omega)
      have hes : es.length ≤ 3 := by rw [l3]; simp [rg]; omega
      have hrl : (rg 0 y.toNat).length ≤ 3 := by simp [rg]; omega
      have hdr := drawn_tup p3 hes
      refine ⟨.tup es, o3, wrap (k + 1) n os o3 fl _ ?_ hdr.2.2.2 l4, hdr, l4, bag_le B3 (by
        have := Nat.mul_le_mul_left (dc k) hrl
        simp only [dc]; omega)⟩
      rw [← hf, ← hz]
      have rgy : fRg1 (fCons (fDef 2 (h__law_take v) (fCons (fVar 0) (fCons (fC (.int 4)) (fNil)))) (fNil)) [some (.ref 0), some (.int z), none] ⟨o1, f⟩ = .ok (rg 0 y.toNat) ⟨o2, f⟩ := rg1_ok (by simp [fCons, fDef, fVar, fC, fNil, t2]) (by omega)
      have lc : fLcL (fLc (fRg1 (fCons (fDef 2 (h__law_take v) (fCons (fVar 0) (fCons (fC (.int 4)) (fNil)))) (fNil))) (tgName 2) (fun _ st => .ok true st) (fDef 2 (h__law_value v (k + 1)) (fCons (fVar 0) (fCons (f2 opSub (fVar 1) (fC (.int 1))) (fNil)))) [2]) [some (.ref 0), some (.int z), none] ⟨o1, f⟩ = .ok (.lst es) ⟨o3, f⟩ := by
        unfold fLcL fLc
        rw [rgy]
        simp only [Out.bind_ok]
        rw [t3]
        simp
      have tp : cTup [.lst es] ⟨o3, f⟩ = .ok (.tup es) ⟨o3, f⟩ := rfl
      have l1 : LV1 v (h__law_value v (k + 1)) [some (.ref 0), some (.int z), none] ⟨os, f⟩ = .ret (.tup es) ⟨o3, f⟩ := by
        unfold LV1
        generalize fLcL _ = gl at *
        simp [gIf, fAndT, fB, f2, fVar, fC, g0, fDef, fCons, fNil, t1, gx, hx, gSeq, gRet, fCall, lc, tp]
      rw [lv_eq, gSeq, l1]
      rfl
    · obtain ⟨d, o2, e, a, l, B'⟩ := lv2_ok v (fl := f) (e1 := some (.int z)) (e2 := none) B1 (by omega) (k + 1)
      refine ⟨d, o2, wrap (k + 1) n os o2 fl d ?_ a.2.2.2 (by omega), a, by omega, bag_le B' (by simp only [dc]; omega)⟩
      rw [← hf, ← hz]
      have l1 : LV1 v (h__law_value v (k + 1)) [some (.ref 0), some (.int z), none] ⟨os, f⟩ = .nx [some (.ref 0), some (.int z), none] ⟨o1, f⟩ := by
        unfold LV1
        generalize fLcL _ = gl at *
        simp [gIf, fAndT, fB, f2, fVar, fC, g0, fDef, fCons, fNil, t1, gx, hx, gNx]
      rw [lv_eq, gSeq, l1, SO.seq_nx, e]
end K10

set_option maxRecDepth 100000
set_option maxHeartbeats 4000000
/-! YQ: k10, the law in its parts; a text is read alike by both; a turn with a drawn text. -/
namespace K10
open PySem MP
mutual
theorem plain_mono : ∀ (d : MP.D) (k j : Nat), plainB d k = true → k ≤ j → plainB d j = true
  | .non, k, j, _, _ => by cases j <;> rfl
  | .str s, k, j, h, _ => by cases k <;> cases j <;> exact h
  | .int i, k, j, h, _ => by cases k <;> cases j <;> exact h
  | .tup ds, k + 1, j + 1, h, hj => by
    show plainsB ds j = true
    exact plains_mono ds k j h (by omega)
  | .tup ds, k + 1, 0, h, hj => by omega
  | .tup ds, 0, j, h, _ => by cases h
  | .bl _, k, j, h, _ => by cases k <;> cases h
  | .emp, k, j, h, _ => by cases k <;> cases h
  | .lst _, k, j, h, _ => by cases k <;> cases h
  | .lsk _, k, j, h, _ => by cases k <;> cases h
  | .ref _, k, j, h, _ => by cases k <;> cases h
  | .fv _ _, k, j, h, _ => by cases k <;> cases h
theorem plains_mono : ∀ (ds : List MP.D) (k j : Nat), plainsB ds k = true → k ≤ j → plainsB ds j = true
  | [], _, _, _, _ => rfl
  | d :: ds, k, j, h, hj => by
    simp only [plainsB, Bool.and_eq_true] at h ⊢
    exact ⟨plain_mono d k j h.1 hj, plains_mono ds k j h.2 hj⟩
end
theorem cLG_lt {c : Nat} (h : cLG c = true ∨ c = 45) : c < 1114112 := by
  rcases h with h | rfl
  · simp [cLG, cL, cG] at h; omega
  · decide
theorem intS_lt {i : Int} : ∀ c ∈ intS i, c < 1114112 := by
  intro c hc
  cases i with
  | ofNat n =>
    have hc : c ∈ intS (n : Int) := hc
    rw [intS_nat] at hc
    exact cLG_lt (.inl (by simp [cLG, List.all_eq_true.mp (numL_cG n) c hc]))
  | negSucc n =>
    rw [intS_neg] at hc
    rcases List.mem_cons.mp hc with rfl | hc
    · decide
    · exact cLG_lt (.inl (by simp [cLG, List.all_eq_true.mp (numL_cG _) c hc]))
theorem word_lt {s : List Nat} (h : wordB s = true) : ∀ c ∈ s, c < 1114112 := by
  cases s with
  | nil => cases h
  | cons c r =>
    simp only [wordB, Bool.and_eq_true, List.all_eq_true] at h
    intro x hx
    rcases List.mem_cons.mp hx with rfl | hx
    · exact cLG_lt (.inl (by simp [cLG, h.1]))
    · exact cLG_lt (.inl (h.2 x hx))
mutual
theorem show_lt : ∀ (d : MP.D) (k : Nat), plainB d k = true → ∀ c ∈ showT d, c < 1114112
  | .non, _, _ => by simp [showT]
  | .str s, k, h => by
    have h : wordB s = true := by cases k <;> exact h
    exact word_lt h
  | .int i, k, _ => intS_lt
  | .tup [], _, _ => by simp [showT, shows, TL.joinL]
  | .tup (d :: ds), k + 1, h => by
    have h : plainB d k = true ∧ plainsB ds k = true := by simpa [plainB, plainsB] using h
    have a := show_lt d k h.1
    have b := tail_lt ds k h.2
    intro c hc
    simp only [showT, joinL_shows, List.mem_cons, List.mem_append, List.not_mem_nil, or_false] at hc
    rcases hc with rfl | (hc | hc) | rfl
    · decide
    · exact a c hc
    · exact b c hc
    · decide
  | .tup (d :: ds), 0, h => by cases h
  | .bl _, k, h => by cases k <;> cases h
  | .emp, k, h => by cases k <;> cases h
  | .lst _, k, h => by cases k <;> cases h
  | .lsk _, k, h => by cases k <;> cases h
  | .ref _, k, h => by cases k <;> cases h
  | .fv _ _, k, h => by cases k <;> cases h
theorem tail_lt : ∀ (ds : List MP.D) (k : Nat), plainsB ds k = true → ∀ c ∈ tailT ds, c < 1114112
  | [], _, _ => by simp [tailT]
  | d :: ds, k, h => by
    simp only [plainsB, Bool.and_eq_true] at h
    have a := show_lt d k h.1
    have b := tail_lt ds k h.2
    intro c hc
    simp only [tailT, List.mem_cons, List.mem_append] at hc
    rcases hc with rfl | hc | hc
    · decide
    · exact a c hc
    · exact b c hc
end
variable (v : Vv)
def L1 : Env → St → SO := (gSet 3 (fDef 2 (h__law_value v 5) (fCons (fVar 1) (fCons (fC (.int 4)) (fNil)))))
def L2 : Env → St → SO := (gSet 11 (fDef 1 (h__law_value_text v 62) (fCons (fVar 3) (fNil))))
def L3 : Env → St → SO := (gIf (fOrT (fNotT (fB (fDef 2 (h__law_alike v) (fCons (fLst (fCons (fDef 1 (h_is_plain_value v) (fCons (fVar 3) (fNil))) (fCons (fDef 1 (h_value_text v) (fCons (fVar 3) (fNil))) (fCons (fDef 1 (h_read_value v) (fCons (fVar 11) (fNil))) (fNil))))) (fCons (fLst (fCons (fC (.bl true)) (fCons (fVar 11) (fCons (fVar 3) (fNil))))) (fNil)))))) (fB (f2 opNe (fDef 1 (h__law_read_value v) (fCons (fVar 11) (fNil))) (fTup (fCons (fC (.str [116, 111, 108, 100])) (fCons (fVar 3) (fNil))))))) (gSeq (gRet (fC (.bl false))) (gNx)) (gNx))
def L4 : Env → St → SO := (gSet 4 (fLst (fCons (fC (.str [40])) (fCons (fC (.str [41])) (fCons (fC (.str [32])) (fCons (fC (.str [45])) (fCons (fC (.str [48])) (fCons (fC (.str [55])) (fCons (fC (.str [97])) (fCons (fC (.str [90])) (fCons (fC (.str [46])) (fCons (fC (.str [120, 49])) (fCons (fC (.str [45, 48])) (fCons (fC (.str [48, 49])) (fCons (fC (.str [32, 32])) (fNil))))))))))))))))
def L6 : Env → St → SO := (gSet 10 (fMtS mJoin (fC (.str [])) (fCons (fLcL (fLc (fRg1 (fCons (fDef 2 (h__law_take v) (fCons (fVar 1) (fCons (fC (.int 9)) (fNil)))) (fNil))) (tgName 5) (fun _ st => .ok true st) (fDef 2 (h__law_some v) (fCons (fVar 1) (fCons (fVar 4) (fNil)))) [5])) (fNil))))
def L7 : Env → St → SO := (gIf (fNotT (fB (fDef 2 (h__law_alike v) (fCons (fHeard 2 2 told__law_heard hs__law_heard (fDef 1 (h_read_value v) (fCons (fVar 10) (fNil)))) (fCons (fDef 1 (h__law_read_value v) (fCons (fVar 10) (fNil))) (fNil)))))) (gSeq (gRet (fC (.bl false))) (gNx)) (gNx))
def M1 : Env → St → SO := (gSet 6 (fDef 2 (h__law_take v) (fCons (fVar 1) (fCons (f2 opAdd (fCall cLen (fCons (fVar 11) (fNil))) (fC (.int 1))) (fNil)))))
def M2 : Env → St → SO := (gSet 10 (f2 opAdd (f2 opAdd (fSlc (fVar 11) (fNoP) (fPart (fVar 6))) (fDef 2 (h__law_some v) (fCons (fVar 1) (fCons (f2 opAdd (fVar 4) (fLst (fCons (fC (.str [])) (fNil)))) (fNil))))) (fSlc (fVar 11) (fPart (f2 opAdd (fVar 6) (fDef 2 (h__law_take v) (fCons (fVar 1) (fCons (fC (.int 2)) (fNil)))))) (fNoP))))
def M3 : Env → St → SO := (gIf (fNotT (fB (fDef 2 (h__law_alike v) (fCons (fHeard 2 2 told__law_heard hs__law_heard (fDef 1 (h_read_value v) (fCons (fVar 10) (fNil)))) (fCons (fDef 1 (h__law_read_value v) (fCons (fVar 10) (fNil))) (fNil)))))) (gSeq (gRet (fC (.bl false))) (gNx)) (gNx))
def BT : Env → St → SO := gSeq (M1 v) (gSeq (M2 v) (gSeq (M3 v) gNx))
def L5 : Env → St → SO := gFor (fRg1 (fCons (fC (.int 8)) (fNil))) (tgName 5) (BT v)
def BL : Env → St → SO := gSeq (L1 v) (gSeq (L2 v) (gSeq (L3 v) (gSeq (L4) (gSeq (L5 v) (gSeq (L6 v) (gSeq (L7 v) gNx))))))
def A1 : Env → St → SO := gFor (fRg1 (fCons (fC (.int 10)) (fNil))) (tgName 2) (BL v)
def N1 : Env → St → SO := (gSet 7 (fDef 2 (h__law_is_plain v 62) (fCons (fVar 9) (fCons (fC (.int 0)) (fNil)))))
def N2 : Env → St → SO := (gIf (fOrT (fB (f2 opNe (fDef 1 (h_is_plain_value v) (fCons (fVar 9) (fNil))) (fVar 7))) (fB (f2 opNe (fHeard 2 2 told__law_heard hs__law_heard (fDef 1 (h_value_text v) (fCons (fVar 9) (fNil)))) (fIf (fB (fVar 7)) (fTup (fCons (fC (.str [116, 111, 108, 100])) (fCons (fDef 1 (h__law_value_text v 62) (fCons (fVar 9) (fNil))) (fNil)))) (fTup (fCons (fC (.str [110, 111, 116, 104, 105, 110, 103])) (fNil))))))) (gSeq (gRet (fC (.bl false))) (gNx)) (gNx))
def BN : Env → St → SO := gSeq (N1 v) (gSeq (N2 v) gNx)
def F2 : Env → St → Out (List MP.D) := (fIt (fTup (fCons (fC .non) (fCons (fC (.bl true)) (fCons (fC (.int 0)) (fCons (f1 opNeg (fC (.int 5))) (fCons (f2 opPow (fC (.int 10)) (fC (.int 40))) (fCons (f2 opSub (f2 opPow (fC (.int 10)) (fC (.int 40))) (fC (.int 1))) (fCons (f1 opNeg (f2 opPow (fC (.int 10)) (fC (.int 40)))) (fCons (fC (.str [])) (fCons (fC (.str [97])) (fCons (fC (.str [65])) (fCons (fC (.str [97, 32, 98])) (fCons (fC (.str [57, 97])) (fCons (fC (.str [97, 57])) (fCons (fLst (fNil)) (fCons (fLst (fCons (fC (.str [97])) (fNil))) (fCons (fTup (fNil)) (fCons (fTup (fCons (fTup (fNil)) (fNil))) (fCons (fTup (fCons (fC (.bl true)) (fNil))) (fCons (fTup (fCons (fC (.str [97])) (fCons (fC .non) (fCons (f1 opNeg (fC (.int 3))) (fNil))))) (fCons (fTup (fCons (fEmp) (fNil))) (fCons (fDef 1 (h__law_nested v) (fCons (fC (.int 60)) (fNil))) (fCons (fDef 1 (h__law_nested v) (fCons (fC (.int 61)) (fNil))) (fNil)))))))))))))))))))))))))
def A2 : Env → St → SO := gFor (F2 v) (tgName 9) (BN v)
def K1 : Env → St → SO := (gIf (fNotT (fB (fDef 2 (h__law_alike v) (fCons (fHeard 2 2 told__law_heard hs__law_heard (fDef 1 (h_read_value v) (fCons (fVar 11) (fNil)))) (fCons (fDef 1 (h__law_read_value v) (fCons (fVar 11) (fNil))) (fNil)))))) (gSeq (gRet (fC (.bl false))) (gNx)) (gNx))
def F3i : Env → St → Out (List MP.D) := (fIt (fTup (fCons (f2 opAdd (f2 opMul (fC (.str [40])) (fVar 8)) (f2 opMul (fC (.str [41])) (fVar 8))) (fCons (f2 opMul (fC (.str [40])) (fVar 8)) (fCons (f2 opAdd (f2 opMul (fC (.str [40])) (fVar 8)) (fC (.str [97]))) (fNil))))))
def BI : Env → St → SO := gSeq (gFor F3i (tgName 11) (gSeq (K1 v) gNx)) gNx
def F3 : Env → St → Out (List MP.D) := (fIt (fTup (fCons (fC (.int 59)) (fCons (fC (.int 60)) (fCons (fC (.int 61)) (fCons (fC (.int 62)) (fNil)))))))
def A3 : Env → St → SO := gFor F3 (tgName 8) (BI v)
def F4 : Env → St → Out (List MP.D) := (fIt (fTup (fCons (fC (.str [])) (fCons (fC (.str [32])) (fCons (fC (.str [97])) (fCons (fC (.str [97, 32])) (fCons (fC (.str [32, 97])) (fCons (fC (.str [40, 41])) (fCons (fC (.str [40, 32, 41])) (fCons (fC (.str [40, 97, 41])) (fCons (fC (.str [40, 97, 32, 41])) (fCons (fC (.str [40, 97, 32, 32, 98, 41])) (fCons (fC (.str [40, 97, 32, 98, 41])) (fCons (fC (.str [45])) (fCons (fC (.str [45, 45])) (fCons (fC (.str [45, 49])) (fCons (fC (.str [45, 97])) (fCons (f2 opMul (fC (.str [57])) (fC (.int 40))) (fCons (f2 opMul (fC (.str [57])) (fC (.int 41))) (fCons (fC (.str [40, 97, 41, 40, 98, 41])) (fCons (fC (.str [97, 40, 98, 41])) (fCons (fC (.str [41])) (fCons (fC (.str [40, 45, 41])) (fCons (fC (.str [107, 101, 112, 116, 41])) (fCons (fC (.str [49, 120])) (fNil))))))))))))))))))))))))))
def A4 : Env → St → SO := gFor F4 (tgName 11) (gSeq (K1 v) gNx)
def A0 : Env → St → SO := (gSet 1 (fDef 1 (h__law_bag v) (fCons (fVar 0) (fNil))))
def A5 : Env → St → SO := (gRet (f2 opEq (fLcL (fLc (fIt (fTup (fCons (fC .non) (fCons (fC (.int 5)) (fCons (fTup (fCons (fC (.str [97])) (fNil))) (fCons (fTup (fNil)) (fNil))))))) (tgName 9) (fun _ st => .ok true st) (fHeard 2 2 told__law_heard hs__law_heard (fDef 1 (h_read_value v) (fCons (fVar 9) (fNil)))) [9])) (f2 opMul (fLst (fCons (fTup (fCons (fC (.str [110, 111, 116, 104, 105, 110, 103])) (fNil))) (fNil))) (fC (.int 4)))))
theorem b_law_eq : b_law v = gSeq (A0 v) (gSeq (A1 v) (gSeq (A2 v) (gSeq (A3 v) (gSeq (A4 v) (gSeq (A5 v) gNx))))) := rfl

def H (i : Nat) : Env → St → SO := gIf (fNotT (fB (fDef 2 (h__law_alike v) (fCons (fHeard 2 2 told__law_heard hs__law_heard (fDef 1 (h_read_value v) (fCons (fVar i) (fNil)))) (fCons (fDef 1 (h__law_read_value v) (fCons (fVar i) (fNil))) (fNil)))))) (gSeq (gRet (fC (.bl false))) (gNx)) (gNx)
theorem m3_eq : M3 v = H v 10 := rfl
theorem l7_eq : L7 v = H v 10 := rfl
theorem k1_eq : K1 v = H v 11 := rfl
theorem H_ok {i : Nat} {ρ : Env} {t : List Nat} {st : St} (hi : ρ[i]? = some (some (.str t))) (ht : t.length ≤ 50000) (hc : ∀ c ∈ t, c < 1114112) (hf : ∀ p ∈ st.fls, p.1 ≤ st.objs.length) : H v i ρ st = .nx ρ st := by
  have a := heard_read v (t := t) (by omega) hc st
  have b := law_read_value_ok v (t := t) (by omega) hc hf
  obtain ⟨s1, s2, s3⟩ := heard_size ht
  have c := law_alike_ok v s1 s2 s3 st
  simp [H, gIf, fNotT, fB, fDef, fHeard, fCons, fVar, hi, fNil, a, b, c, gNx]
/-- a loop of which each turn keeps what is wished -/
theorem loop_cnt {k c N : Nat} {body : Env → St → SO} {I : Nat → Env → St → Prop} {ok : MP.D → Prop} (h : ∀ d, ok d → ∀ n ρ st, n + c ≤ N → I n ρ st → ∃ ρ' st', body (ρ.set k (some d)) st = .nx ρ' st' ∧ I (n + c) ρ' st') :
    ∀ (ds : List MP.D) (n : Nat) (ρ : Env) (st : St), (∀ d ∈ ds, ok d) → n + c * ds.length ≤ N → I n ρ st → ∃ ρ' st', gLoop (tgName k) body ds ρ st = .nx ρ' st' ∧ I (n + c * ds.length) ρ' st'
  | [], n, ρ, st, _, _, i => ⟨ρ, st, rfl, i⟩
  | d :: ds, n, ρ, st, hd, hn, i => by
    simp only [List.length_cons, Nat.mul_add, Nat.mul_one] at hn ⊢
    obtain ⟨ρ1, st1, e1, i1⟩ := h d (hd d List.mem_cons_self) n ρ st (by omega) i
    obtain ⟨ρ2, st2, e2, i2⟩ := loop_cnt h ds (n + c) ρ1 st1 (fun x hx => hd x (List.mem_cons_of_mem _ hx)) (by omega) i1
    refine ⟨ρ2, st2, ?_, by rw [show n + (c * ds.length + c) = n + c + c * ds.length by omega]; exact i2⟩
    simp only [gLoop, tgName]
    rw [e1]
    exact e2
abbrev envL (scr : MP.D) (e2 e3 e4 e5 e6 e7 e8 e9 e10 e11 : Option MP.D) : Env := [some scr, some (.ref 0), e2, e3, e4, e5, e6, e7, e8, e9, e10, e11]
def SG : List (List Nat) := [[40], [41], [32], [45], [48], [55], [97], [90], [46], [120, 49], [45, 48], [48, 49], [32, 32]]
theorem SG_ok : ∀ w ∈ SG, w.length ≤ 2 ∧ ∀ c ∈ w, c < 1114112 := by
  have : (SG.all fun w => decide (w.length ≤ 2) && w.all fun c => decide (c < 1114112)) = true := by decide +kernel
  intro w hw
  have := List.all_eq_true.mp this w hw
  rw [Bool.and_eq_true, decide_eq_true_eq] at this
  exact ⟨this.1, fun c hc => of_decide_eq_true (List.all_eq_true.mp this.2 c hc)⟩
theorem nrs_strs (L : List (List Nat)) : D.nrs (L.map .str) = true := by
  induction L with
  | nil => rfl
  | cons x l ih => simpa [D.nrs, D.nr] using ih
theorem cut_facts (t : List Nat) (lo hi : Option Int) : (cut t lo hi).length ≤ t.length ∧ ∀ c ∈ cut t lo hi, c ∈ t := by
  unfold cut
  refine ⟨by simp; omega, fun c hc => List.mem_of_mem_drop (List.mem_of_mem_take hc)⟩
theorem bent_ok {scr : MP.D} {t : List Nat} {os : List O} {fl : List (Nat × Bool)} {n : Nat} {e2 e3 e5 e6 e7 e8 e9 e10 : Option MP.D} (B : Bag os 0 n) (hn : n + 3 < 2 ^ 64) (ht : t.length ≤ 20000) (hc : ∀ c ∈ t, c < 1114112) (hf : ∀ p ∈ fl, p.1 ≤ os.length) :
    ∃ (os' : List O) (e6' e10' : Option MP.D), BT v (envL scr e2 e3 (some (.lst (SG.map .str))) e5 e6 e7 e8 e9 e10 (some (.str t))) ⟨os, fl⟩ = .nx (envL scr e2 e3 (some (.lst (SG.map .str))) e5 e6' e7 e8 e9 e10' (some (.str t))) ⟨os', fl⟩ ∧ os'.length = os.length ∧ Bag os' 0 (n + 3) := by
  obtain ⟨a, o1, t1, a0, a1, l1, B1⟩ := take_at v (fl := fl) (many := (t.length : Int) + 1) B (by omega) (by omega) (Int.lt_of_le_of_lt (show (t.length : Int) + 1 ≤ 20001 by omega) (by decide))
  have hw2 : ∀ w ∈ SG ++ [[]], w.length ≤ 2 ∧ ∀ c ∈ w, c < 1114112 := fun w hw => by
    rcases List.mem_append.mp hw with h | h
    · exact SG_ok w h
    · rw [List.mem_singleton.mp h]; simp
  obtain ⟨d, o2, m, t2, l2, B2⟩ := some_at v (fl := fl) (ds := (SG ++ [[]]).map .str) B1 (by omega) (by simp) (by simp [SG]) (nrs_strs _)
  obtain ⟨w, hw, rfl⟩ := List.mem_map.mp m
  obtain ⟨w1, w2⟩ := hw2 w hw
  obtain ⟨y, o3, t3, y0, y1, l3, B3⟩ := take_at v (fl := fl) (many := 2) B2 (by omega) (by decide) (by decide)
  obtain ⟨p1, p2⟩ := cut_facts t none (some a)
  obtain ⟨q1, q2⟩ := cut_facts t (some (a + y)) none
  have cl : ∀ st : St, cLen [.str t] st = .ok (.int (t.length : Nat)) st := fun st => cLen_str (by omega)
  have ad1 : ∀ st : St, opAdd (.int (t.length : Nat)) (.int 1) st = .ok (.int ((t.length : Int) + 1)) st := fun st => rfl
  have s1 : ∀ st : St, opSlc (.str t) none (some a) st = .ok (.str (cut t none (some a))) st := fun st => by simp only [opSlc, show t.length ≤ 16777216 by omega, if_true]
  have s2 : ∀ st : St, opSlc (.str t) (some (a + y)) none st = .ok (.str (cut t (some (a + y)) none)) st := fun st => by simp only [opSlc, show t.length ≤ 16777216 by omega, if_true]
  have ad2 : ∀ st : St, opAdd (.int a) (.int y) st = .ok (.int (a + y)) st := fun st => rfl
  generalize cut t none (some a) = P at *
  generalize cut t (some (a + y)) none = Q at *
  have ad3 : ∀ st : St, opAdd (.str P) (.str w) st = .ok (.str (P ++ w)) st := fun st => by simp [opAdd]; omega
  have ad4 : ∀ st : St, opAdd (.str (P ++ w)) (.str Q) st = .ok (.str (P ++ w ++ Q)) st := fun st => by simp [opAdd]; omega
  have sgA : ∀ st : St, opAdd (.lst (SG.map .str)) (.lst [.str []]) st = .ok (.lst ((SG ++ [[]]).map .str)) st := fun st => by
    rw [List.map_append]; rfl
  refine ⟨o3, some (.int a), some (.str (P ++ w ++ Q)), ?_, by omega, B3⟩
  have m1 : M1 v (envL scr e2 e3 (some (.lst (SG.map .str))) e5 e6 e7 e8 e9 e10 (some (.str t))) ⟨os, fl⟩ = .nx (envL scr e2 e3 (some (.lst (SG.map .str))) e5 (some (.int a)) e7 e8 e9 e10 (some (.str t))) ⟨o1, fl⟩ := by
    simp [M1, gSet, fDef, fCons, fVar, f2, fCall, fC, fNil, cl, ad1, t1]
  have m2 : M2 v (envL scr e2 e3 (some (.lst (SG.map .str))) e5 (some (.int a)) e7 e8 e9 e10 (some (.str t))) ⟨o1, fl⟩ = .nx (envL scr e2 e3 (some (.lst (SG.map .str))) e5 (some (.int a)) e7 e8 e9 (some (.str (P ++ w ++ Q))) (some (.str t))) ⟨o3, fl⟩ := by
    generalize SG.map D.str = S1 at *
    generalize (SG ++ [[]]).map D.str = S2 at *
    generalize P ++ w ++ Q = PQ at *
    generalize P ++ w = PW at *
    simp [M2, gSet, fDef, fCons, fVar, f2, fC, fNil, fSlc, fNoP, fPart, fLst, s1, sgA, t2, ad3, t3, ad2, s2, ad4]
  have h := H_ok v (i := 10) (ρ := envL scr e2 e3 (some (.lst (SG.map .str))) e5 (some (.int a)) e7 e8 e9 (some (.str (P ++ w ++ Q))) (some (.str t))) (t := P ++ w ++ Q) (st := ⟨o3, fl⟩) rfl (by simp; omega) (fun c hcm => by
    rcases List.mem_append.mp hcm with h | h
    · rcases List.mem_append.mp h with h | h
      · exact hc c (p2 c h)
      · exact w2 c h
    · exact hc c (q2 c h)) (fun p hp => by have := hf p hp; simp only; omega)
  rw [BT, gSeq, m1, SO.seq_nx, gSeq, m2, SO.seq_nx, gSeq, m3_eq, h]
  rfl
end K10

set_option maxRecDepth 100000
set_option maxHeartbeats 4000000
/-! YR: k10, the law answers yes. -/
namespace K10
open PySem MP
variable (v : Vv)
theorem lo_told {d : MP.D} (h : d.pm = true) : (D.tup [.str [116, 111, 108, 100], d]).pm = true := by
  simp only [D.pm, D.pms, h, Bool.and_true]; rfl
theorem value_part {d : MP.D} (hd : drawn 4 d) {st : St} (hf : ∀ p ∈ st.fls, p.1 ≤ st.objs.length) {scr : MP.D} {e2 e4 e5 e6 e7 e8 e9 e10 e11 : Option MP.D} :
    gSeq (L2 v) (gSeq (L3 v) gNx) (envL scr e2 (some d) e4 e5 e6 e7 e8 e9 e10 e11) st = .nx (envL scr e2 (some d) e4 e5 e6 e7 e8 e9 e10 (some (.str (showT d)))) st := by
  obtain ⟨p4, ok, hl, nr⟩ := hd
  have p60 := plain_mono d 4 60 p4 (by omega)
  have hl : (showT d).length ≤ 12800 := hl
  obtain ⟨s1, s2, s3⟩ := show_size p60
  have ch := show_lt d 60 p60
  have a := fun st => law_value_text_ok v 62 d 60 st p60 (by omega) ok (by omega)
  have b := fun st => is_plain_value_ok v ok st
  have c := fun st => value_text_ok v p60 ok (by omega) st
  have e : ∀ st, h_read_value v [.str (showT d)] st = .ok d st := fun st => by
    rw [read_value_ok v (by omega) ch st, read_show p60]
  have f := law_read_value_ok v (t := showT d) (by omega) ch hf
  rw [read_show p60] at f
  rw [p60] at b
  have pm3 : (D.lst [.bl true, .str (showT d), d]).pm = true := by
    simp only [D.pm, D.pms, s1, Bool.and_true, Bool.true_and]
    exact List.all_eq_true.mpr fun c hc => decide_eq_true (ch c hc)
  have al := fun st => law_alike_ok v (d := .lst [.bl true, .str (showT d), d]) pm3 (by simp only [D.wm, D.wms]; omega) (by simp only [D.dp, D.dps]; omega) st
  have ne : opNe (.tup [.str [116, 111, 108, 100], d]) (.tup [.str [116, 111, 108, 100], d]) st = .ok (.bl false) st := opNe_self_m (lo_told s1) (by simp only [D.dp, D.dps]; omega)
  have fh : heardD (.told d) = .tup [.str [116, 111, 108, 100], d] := rfl
  rw [fh] at f
  have l2 : L2 v (envL scr e2 (some d) e4 e5 e6 e7 e8 e9 e10 e11) st = .nx (envL scr e2 (some d) e4 e5 e6 e7 e8 e9 e10 (some (.str (showT d)))) st := by
    simp [L2, gSet, fDef, fCons, fVar, fNil, a]
  have l3 : L3 v (envL scr e2 (some d) e4 e5 e6 e7 e8 e9 e10 (some (.str (showT d)))) st = .nx (envL scr e2 (some d) e4 e5 e6 e7 e8 e9 e10 (some (.str (showT d)))) st := by
    generalize showT d = T at *
    simp [L3, gIf, fOrT, fNotT, fB, fDef, fCons, fVar, fNil, fLst, b, c, e, fC, al, f2, f, fTup, ne, gNx]
  rw [gSeq, l2, SO.seq_nx, gSeq, l3, SO.seq_nx]
  rfl
theorem join_facts : ∀ (L : List (List Nat)), (TL.joinL [] L).length = (L.map (·.length)).sum ∧ ∀ c ∈ TL.joinL [] L, ∃ w ∈ L, c ∈ w
  | [] => by simp [TL.joinL]
  | [w] => by simp [TL.joinL]
  | w :: x :: L => by
    obtain ⟨a, b⟩ := join_facts (x :: L)
    refine ⟨?_, fun c hc => ?_⟩
    · simp only [TL.joinL, List.nil_append, List.length_append, List.map_cons, List.sum_cons] at a ⊢
      rw [a]
    · simp only [TL.joinL, List.nil_append, List.mem_append] at hc
      rcases hc with hc | hc
      · exact ⟨w, by simp, hc⟩
      · obtain ⟨y, hy, h⟩ := b c hc
        exact ⟨y, List.mem_cons_of_mem _ hy, h⟩
theorem as_strs : ∀ (es : List MP.D), (∀ e ∈ es, ∃ w ∈ SG, e = .str w) → ∃ L : List (List Nat), es = L.map .str ∧ ∀ w ∈ L, w ∈ SG
  | [], _ => ⟨[], rfl, fun _ h => by simp at h⟩
  | e :: es, h => by
    obtain ⟨w, hw, rfl⟩ := h e List.mem_cons_self
    obtain ⟨L, rfl, hL⟩ := as_strs es fun x hx => h x (List.mem_cons_of_mem _ hx)
    exact ⟨w :: L, rfl, fun x hx => by
      rcases List.mem_cons.mp hx with rfl | hx
      · exact hw
      · exact hL x hx⟩
theorem sum_le {L : List (List Nat)} (h : ∀ w ∈ L, w.length ≤ 2) : (L.map (·.length)).sum ≤ 2 * L.length := by
  induction L with
  | nil => simp
  | cons w L ih =>
    have := h w List.mem_cons_self
    have := ih fun x hx => h x (List.mem_cons_of_mem _ hx)
    simp only [List.map_cons, List.sum_cons, List.length_cons]; omega
theorem join_part {scr : MP.D} {os : List O} {fl : List (Nat × Bool)} {n : Nat} {e2 e3 e5 e6 e7 e8 e9 e10 e11 : Option MP.D} (B : Bag os 0 n) (hn : n + 9 < 2 ^ 64) (hf : ∀ p ∈ fl, p.1 ≤ os.length) :
    ∃ (os' : List O) (e10' : Option MP.D), gSeq (L6 v) (gSeq (L7 v) gNx) (envL scr e2 e3 (some (.lst (SG.map .str))) e5 e6 e7 e8 e9 e10 e11) ⟨os, fl⟩ = .nx (envL scr e2 e3 (some (.lst (SG.map .str))) e5 e6 e7 e8 e9 e10' e11) ⟨os', fl⟩ ∧ os'.length = os.length ∧ Bag os' 0 (n + 9) := by
  obtain ⟨y, o1, t1, y0, y1, l1, B1⟩ := take_at v (fl := fl) (many := 9) B (by omega) (by decide) (by decide)
  have hrl : (rg 0 y.toNat).length ≤ 8 := by simp [rg]; omega
  obtain ⟨es, o3, t3, l3, p3, l4, B3⟩ := lc_draw (P := fun e => ∃ w ∈ SG, e = MP.D.str w) (c := 1) (k := 5) (L := os.length) (ρ := wipeE (envL scr e2 e3 (some (.lst (SG.map .str))) e5 e6 e7 e8 e9 e10 e11) [5]) (fl := fl) (el := fDef 2 (h__law_some v) (fCons (fVar 1) (fCons (fVar 4) (fNil)))) (fun os n x B hn hL => by
    obtain ⟨d, o', m, t, l, B'⟩ := some_at v (fl := fl) (ds := SG.map .str) B (by omega) (by simp [SG]) (by simp [SG]) (nrs_strs _)
    obtain ⟨w, hw, rfl⟩ := List.mem_map.mp m
    refine ⟨.str w, o', ?_, ⟨w, hw, rfl⟩, by omega, B'⟩
    generalize SG.map D.str = S1 at *
    simp [wipeE, fDef, fCons, fVar, fNil, t]) (rg 0 y.toNat) [] o1 (n + 1) B1 (by omega) (by omega) (by simp only [List.length_nil]; omega)
  obtain ⟨L, rfl, hL⟩ := as_strs es p3
  obtain ⟨j1, j2⟩ := join_facts L
  have hlen : L.length ≤ 8 := by rw [List.length_map] at l3; omega
  have hs := sum_le fun w hw => (SG_ok w (hL w hw)).1
  have jn : ∀ st : St, mJoin (.str []) [.lst (L.map .str)] st = .ok (.str (TL.joinL [] L)) st := fun st => mJoin_ok (by simp only [List.length_nil]; omega)
  refine ⟨o3, some (.str (TL.joinL [] L)), ?_, l4, bag_le B3 (by omega)⟩
  have rgy : fRg1 (fCons (fDef 2 (h__law_take v) (fCons (fVar 1) (fCons (fC (.int 9)) (fNil)))) (fNil)) (envL scr e2 e3 (some (.lst (SG.map .str))) e5 e6 e7 e8 e9 e10 e11) ⟨os, fl⟩ = .ok (rg 0 y.toNat) ⟨o1, fl⟩ := rg1_ok (by simp [fCons, fDef, fVar, fC, fNil, t1]) (by omega)
  have lc : fLcL (fLc (fRg1 (fCons (fDef 2 (h__law_take v) (fCons (fVar 1) (fCons (fC (.int 9)) (fNil)))) (fNil))) (tgName 5) (fun _ st => .ok true st) (fDef 2 (h__law_some v) (fCons (fVar 1) (fCons (fVar 4) (fNil)))) [5]) (envL scr e2 e3 (some (.lst (SG.map .str))) e5 e6 e7 e8 e9 e10 e11) ⟨os, fl⟩ = .ok (.lst (L.map .str)) ⟨o3, fl⟩ := by
    unfold fLcL fLc
    rw [rgy]
    simp only [Out.bind_ok]
    rw [t3]
    simp
  have l6 : L6 v (envL scr e2 e3 (some (.lst (SG.map .str))) e5 e6 e7 e8 e9 e10 e11) ⟨os, fl⟩ = .nx (envL scr e2 e3 (some (.lst (SG.map .str))) e5 e6 e7 e8 e9 (some (.str (TL.joinL [] L))) e11) ⟨o3, fl⟩ := by
    unfold L6
    generalize fLcL _ = gl at *
    generalize SG.map D.str = S1 at *
    simp [gSet, fMtS, fC, MP.isS, fCons, lc, fNil, jn]
  have h := H_ok v (i := 10) (ρ := envL scr e2 e3 (some (.lst (SG.map .str))) e5 e6 e7 e8 e9 (some (.str (TL.joinL [] L))) e11) (t := TL.joinL [] L) (st := ⟨o3, fl⟩) rfl (by omega) (fun c hc => by
    obtain ⟨w, hw, hcw⟩ := j2 c hc
    exact (SG_ok w (hL w hw)).2 c hcw) (fun p hp => by have := hf p hp; simp only; omega)
  rw [gSeq, l6, SO.seq_nx, gSeq, l7_eq, h]
  rfl
/-- a lap -/
theorem lap_ok {scr : MP.D} {fl : List (Nat × Bool)} (hfl : ∀ p ∈ fl, p.1 = 0) (n : Nat) (hn : n + 2000 < 2 ^ 64) {os : List O} (B : Bag os 0 n) {e2 e3 e4 e5 e6 e7 e8 e9 e10 e11 : Option MP.D} :
    ∃ (os' : List O) (f3 f4 f5 f6 f10 f11 : Option MP.D), BL v (envL scr e2 e3 e4 e5 e6 e7 e8 e9 e10 e11) ⟨os, fl⟩ = .nx (envL scr e2 f3 f4 f5 f6 e7 e8 e9 f10 f11) ⟨os', fl⟩ ∧ Bag os' 0 (n + 2000) := by
  have hf : ∀ os' : List O, ∀ p ∈ fl, p.1 ≤ os'.length := fun os' p hp => by rw [hfl p hp]; exact Nat.zero_le _
  have dc4 : dc 4 = 322 := rfl
  obtain ⟨d, o1, t1, hd, l1, B1⟩ := value_drawn v 4 n os fl B (by omega)
  have vp := value_part v hd (st := ⟨o1, fl⟩) (scr := scr) (e2 := e2) (e4 := e4) (e5 := e5) (e6 := e6) (e7 := e7) (e8 := e8) (e9 := e9) (e10 := e10) (e11 := e11) (hf o1)
  have hl : (showT d).length ≤ 12800 := hd.2.2.1
  have hch := show_lt d 4 hd.1
  have s1 : L1 v (envL scr e2 e3 e4 e5 e6 e7 e8 e9 e10 e11) ⟨os, fl⟩ = .nx (envL scr e2 (some d) e4 e5 e6 e7 e8 e9 e10 e11) ⟨o1, fl⟩ := by
    have t1 : h__law_value v 5 [.ref 0, .int 4] ⟨os, fl⟩ = .ok d ⟨o1, fl⟩ := t1
    simp [L1, gSet, fDef, fCons, fVar, fC, fNil, t1]
  have s4 : L4 (envL scr e2 (some d) e4 e5 e6 e7 e8 e9 e10 (some (.str (showT d)))) ⟨o1, fl⟩ = .nx (envL scr e2 (some d) (some (.lst (SG.map .str))) e5 e6 e7 e8 e9 e10 (some (.str (showT d)))) ⟨o1, fl⟩ := rfl
  -- the bent texts
  obtain ⟨ρ5, st5, e5', i5⟩ := loop_cnt (k := 5) (c := 3) (N := 2 ^ 64 - 1) (body := BT v) (ok := fun _ => True)
    (I := fun m ρ st => ∃ (os' : List O) (f5 f6 f10 : Option MP.D), ρ = envL scr e2 (some d) (some (.lst (SG.map .str))) f5 f6 e7 e8 e9 f10 (some (.str (showT d))) ∧ st = ⟨os', fl⟩ ∧ Bag os' 0 m) (fun x _ m ρ st hm i => by
      obtain ⟨os', f5, f6, f10, rfl, rfl, Bm⟩ := i
      obtain ⟨o', f6', f10', b1, b2, b3⟩ := bent_ok v (scr := scr) (t := showT d) (fl := fl) (e2 := e2) (e3 := some d) (e5 := some x) (e6 := f6) (e7 := e7) (e8 := e8) (e9 := e9) (e10 := f10) Bm (by omega) (by omega) hch (hf os')
      refine ⟨_, _, ?_, o', some x, f6', f10', rfl, rfl, b3⟩
      exact b1) (rg 0 8) (n + dc 4) _ ⟨o1, fl⟩ (fun _ _ => trivial) (by rw [dc4]; simp [rg]; omega) ⟨o1, e5, e6, e10, rfl, rfl, B1⟩
  obtain ⟨o5, f5, f6, f10, rfl, rfl, B5⟩ := i5
  have B5 : Bag o5 0 (n + 346) := bag_le B5 (by rw [dc4]; simp [rg])
  have s5 : L5 v (envL scr e2 (some d) (some (.lst (SG.map .str))) e5 e6 e7 e8 e9 e10 (some (.str (showT d)))) ⟨o1, fl⟩ = .nx (envL scr e2 (some d) (some (.lst (SG.map .str))) f5 f6 e7 e8 e9 f10 (some (.str (showT d)))) ⟨o5, fl⟩ := by
    rw [← e5']
    unfold L5 gFor
    rw [rg1_ok (j := 8) (st1 := ⟨o1, fl⟩) rfl (by omega)]
    rfl
  obtain ⟨o6, g10, s6, l6, B6⟩ := join_part v (scr := scr) (fl := fl) (e2 := e2) (e3 := some d) (e5 := f5) (e6 := f6) (e7 := e7) (e8 := e8) (e9 := e9) (e10 := f10) (e11 := some (.str (showT d))) B5 (by omega) (hf o5)
  refine ⟨o6, some d, some (.lst (SG.map .str)), f5, f6, g10, some (.str (showT d)), ?_, bag_le B6 (by omega)⟩
  have s23 : ∀ X : Env → St → SO, gSeq (L2 v) (gSeq (L3 v) X) (envL scr e2 (some d) e4 e5 e6 e7 e8 e9 e10 e11) ⟨o1, fl⟩ = X (envL scr e2 (some d) e4 e5 e6 e7 e8 e9 e10 (some (.str (showT d)))) ⟨o1, fl⟩ := fun X => by
    cases h2 : L2 v (envL scr e2 (some d) e4 e5 e6 e7 e8 e9 e10 e11) ⟨o1, fl⟩ with
    | nx ρ st =>
      rw [gSeq, h2, SO.seq_nx] at vp
      cases h3 : L3 v ρ st with
      | nx ρ' st' =>
        rw [gSeq, h3, SO.seq_nx] at vp
        cases vp
        rw [gSeq, h2, SO.seq_nx, gSeq, h3, SO.seq_nx]
      | _ => rw [gSeq, h3] at vp; cases vp
    | _ => rw [gSeq, h2] at vp; cases vp
  rw [BL, gSeq, s1, SO.seq_nx, s23, gSeq, s4, SO.seq_nx, gSeq, s5, SO.seq_nx]
  exact s6
end K10

set_option maxRecDepth 100000
set_option maxHeartbeats 4000000
/-! YS: k10, the fixed things and texts; the law answers yes. -/
namespace K10
open PySem MP
variable (v : Vv)
def nest : Nat → MP.D
  | 0 => .tup []
  | n + 1 => .tup [nest n]
theorem nest_facts : ∀ n, okB (nest n) = true ∧ (nest n).nr = true ∧ (showT (nest n)).length = 2 * (n + 1)
  | 0 => ⟨rfl, rfl, rfl⟩
  | n + 1 => by
    obtain ⟨a, b, c⟩ := nest_facts n
    refine ⟨by simp [nest, okB, oksB, a], by simp [nest, D.nr, D.nrs, b], ?_⟩
    simp only [nest, showT, shows, TL.joinL, List.length_cons, List.length_append, List.length_nil, c]
    omega
theorem nest_loop : ∀ (ds : List MP.D) (m : Nat) (e0 e2 : Option MP.D) (st : St), ∃ e2', gLoop (tgName 2) (gSeq (gSet 1 (fTup (fCons (fVar 1) (fNil)))) (gNx)) ds [e0, some (nest m), e2] st = .nx [e0, some (nest (m + ds.length)), e2'] st
  | [], m, e0, e2, st => ⟨e2, rfl⟩
  | d :: ds, m, e0, e2, st => by
    obtain ⟨e2', h⟩ := nest_loop ds (m + 1) e0 (some d) st
    refine ⟨e2', ?_⟩
    rw [List.length_cons, show m + (ds.length + 1) = m + 1 + ds.length by omega, ← h]
    rfl
theorem nested_ok {k : Nat} (hk : k < 1000) (st : St) : h__law_nested v [.int ((k + 1 : Nat) : Int)] st = .ok (nest k) st := by
  obtain ⟨z, hz⟩ : ∃ z : Int, z = ((k + 1 : Nat) : Int) := ⟨_, rfl⟩
  rw [← hz]
  obtain ⟨e2', lp⟩ := nest_loop (rg 0 k) 0 (some (.int z)) none (enter st)
  have hl : (rg 0 k).length = k := by simp [rg]
  rw [hl, Nat.zero_add] at lp
  have e0 : List.map some [D.int z] ++ List.replicate (3 - [D.int z].length) none = [some (.int z), none, none] := rfl
  have sb : opSub (.int z) (.int 1) (enter st) = .ok (.int (k : Int)) (enter st) := by show Out.ok (D.int (z - 1)) _ = _; congr 2; omega
  have rgk : fRg1 (fCons (f2 opSub (fVar 0) (fC (.int 1))) (fNil)) [some (.int z), some (nest 0), none] (enter st) = .ok (rg 0 k) (enter st) := by
    have := rg1_ok (f := fCons (f2 opSub (fVar 0) (fC (.int 1))) (fNil)) (ρ := [some (.int z), some (nest 0), none]) (st := enter st) (st1 := enter st) (j := (k : Int)) (by simp [fCons, f2, fVar, fC, fNil, sb]) (by omega)
    simpa using this
  have body : b__law_nested v [some (.int z), none, none] (enter st) = .ret (nest k) (enter st) := by
    have s1 : (gSet 1 (fTup (fNil))) [some (.int z), none, none] (enter st) = .nx [some (.int z), some (nest 0), none] (enter st) := rfl
    have s2 : (gFor (fRg1 (fCons (f2 opSub (fVar 0) (fC (.int 1))) (fNil))) (tgName 2) (gSeq (gSet 1 (fTup (fCons (fVar 1) (fNil)))) (gNx))) [some (.int z), some (nest 0), none] (enter st) = .nx [some (.int z), some (nest k), e2'] (enter st) := by
      unfold gFor
      rw [rgk, Out.toS_ok]
      exact lp
    rw [b__law_nested, gSeq, s1, SO.seq_nx, gSeq, s2, SO.seq_nx]
    rfl
  have z2 := run_end (n := 3) (b := b__law_nested v) (ds := [.int z]) (st := st) (d := nest k) (objs := st.objs) (by rw [e0]; exact body) (nr_lo _ _ (nest_facts k).2.1)
  show runF false 3 (b__law_nested v) _ st = _
  rw [z2]
  simp
/-- a thing's due -/
theorem thing_ok {d : MP.D} (ok : okB d = true) (hl : plainB d 60 = true → (showT d).length ≤ 50000) {scr : MP.D} {st : St} {e2 e3 e4 e5 e6 e7 e8 e10 e11 : Option MP.D} :
    BN v (envL scr e2 e3 e4 e5 e6 e7 e8 (some d) e10 e11) st = .nx (envL scr e2 e3 e4 e5 e6 (some (.bl (plainB d 60))) e8 (some d) e10 e11) st := by
  have a : ∀ st, h__law_is_plain v 62 [d, .int 0] st = .ok (.bl (plainB d 60)) st := fun st => law_is_plain_ok v 62 d 0 st ok (by omega) (by omega)
  have b := fun st => is_plain_value_ok v ok st
  have n1 : N1 v (envL scr e2 e3 e4 e5 e6 e7 e8 (some d) e10 e11) st = .nx (envL scr e2 e3 e4 e5 e6 (some (.bl (plainB d 60))) e8 (some d) e10 e11) st := by
    simp [N1, gSet, fDef, fCons, fVar, fC, fNil, a]
  rw [BN, gSeq, n1, SO.seq_nx]
  cases hp : plainB d 60 with
  | true =>
    rw [hp] at b
    have hl := hl hp
    have ch := show_lt d 60 hp
    have c := fun st => law_value_text_ok v 62 d 60 st hp (by omega) ok (by omega)
    have e := fun st => value_text_ok v hp ok (by omega) st
    have hd : ∀ st, heardB 2 2 told__law_heard hs__law_heard (.ok (.str (showT d)) st) = .ok (.tup [.str [116, 111, 108, 100], .str (showT d)]) st := fun st => rfl
    have pmT : (D.str (showT d)).pm = true := by
      simp only [D.pm]
      exact List.all_eq_true.mpr fun c hc => decide_eq_true (ch c hc)
    have n1 : ∀ st, opNe (.bl true) (.bl true) st = .ok (.bl false) st := fun st => opNe_self_m rfl (by decide)
    have n2 : ∀ st, opNe (.tup [.str [116, 111, 108, 100], .str (showT d)]) (.tup [.str [116, 111, 108, 100], .str (showT d)]) st = .ok (.bl false) st := fun st => opNe_self_m (lo_told pmT) (by simp only [D.dp, D.dps]; omega)
    generalize showT d = T at *
    simp [N2, gSeq, gIf, fOrT, fB, f2, fDef, fHeard, fCons, fVar, fNil, fIf, fTup, fC, b, c, e, hd, n1, n2, gNx]
  | false =>
    rw [hp] at b
    have e := fun st => value_text_no v hp ok st
    have hd := heard_nothing
    have n1 : ∀ st, opNe (.bl false) (.bl false) st = .ok (.bl false) st := fun st => opNe_self_m rfl (by decide)
    have n2 : ∀ st, opNe (.tup [.str [110, 111, 116, 104, 105, 110, 103]]) (.tup [.str [110, 111, 116, 104, 105, 110, 103]]) st = .ok (.bl false) st := fun st => opNe_self_m rfl (by decide)
    simp [N2, gSeq, gIf, fOrT, fB, f2, fDef, fHeard, fCons, fVar, fNil, fIf, fTup, fC, b, e, hd, n1, n2, gNx]
def TH : List MP.D := [.non, .bl true, .int 0, .int (-5), .int 10000000000000000000000000000000000000000, .int 9999999999999999999999999999999999999999, .int (-10000000000000000000000000000000000000000), .str [], .str [97], .str [65], .str [97, 32, 98], .str [57, 97], .str [97, 57], .lst [], .lst [.str [97]], .tup [], .tup [.tup []], .tup [.bl true], .tup [.str [97], .non, .int (-3)], .tup [.emp], nest 59, nest 60]
theorem int_short {i : Int} (h : plainB (.int i) 60 = true) : (showT (.int i)).length ≤ 50000 := by
  have := intS_len (of_decide_eq_true h)
  simp only [showT]; omega
theorem TH_ok : ∀ d ∈ TH, okB d = true ∧ (plainB d 60 = true → (showT d).length ≤ 50000) := by
  intro d hd
  simp only [TH, List.mem_cons, List.not_mem_nil, or_false] at hd
  rcases hd with rfl | rfl | rfl | rfl | rfl | rfl | rfl | rfl | rfl | rfl | rfl | rfl | rfl | rfl | rfl | rfl | rfl | rfl | rfl | rfl | rfl | rfl
  · exact ⟨rfl, fun _ => by simp [showT]⟩
  · exact ⟨rfl, fun _ => by simp [showT]⟩
  · exact ⟨rfl, int_short⟩
  · exact ⟨rfl, int_short⟩
  · exact ⟨rfl, int_short⟩
  · exact ⟨rfl, int_short⟩
  · exact ⟨rfl, int_short⟩
  · exact ⟨rfl, fun _ => by simp [showT]⟩
  · exact ⟨rfl, fun _ => by simp [showT]⟩
  · exact ⟨rfl, fun _ => by simp [showT]⟩
  · exact ⟨rfl, fun _ => by simp [showT]⟩
  · exact ⟨rfl, fun _ => by simp [showT]⟩
  · exact ⟨rfl, fun _ => by simp [showT]⟩
  · exact ⟨rfl, fun _ => by simp [showT]⟩
  · exact ⟨rfl, fun _ => by simp [showT]⟩
  · exact ⟨rfl, fun _ => by simp [showT, shows, TL.joinL]⟩
  · exact ⟨rfl, fun _ => by simp [showT, shows, TL.joinL]⟩
  · exact ⟨rfl, fun _ => by simp [showT, shows, TL.joinL]⟩
  · refine ⟨rfl, fun _ => ?_⟩
    have := intS_len (i := -3) (by decide)
    simp only [showT, shows, TL.joinL, List.length_cons, List.length_append, List.length_nil]; omega
  · exact ⟨rfl, fun _ => by simp [showT, shows, TL.joinL]⟩
  · exact ⟨(nest_facts 59).1, fun _ => by rw [(nest_facts 59).2.2]; omega⟩
  · exact ⟨(nest_facts 60).1, fun _ => by rw [(nest_facts 60).2.2]; omega⟩
theorem F2_ok (ρ : Env) (st : St) : F2 v ρ st = .ok TH st := by
  have n60 : ∀ st, h__law_nested v [.int 60] st = .ok (nest 59) st := fun st => nested_ok v (k := 59) (by omega) st
  have n61 : ∀ st, h__law_nested v [.int 61] st = .ok (nest 60) st := fun st => nested_ok v (k := 60) (by omega) st
  have p40 : ∀ st : St, opPow (.int 10) (.int 40) st = .ok (.int 10000000000000000000000000000000000000000) st := fun st => rfl
  have s40 : ∀ st : St, opSub (.int 10000000000000000000000000000000000000000) (.int 1) st = .ok (.int 9999999999999999999999999999999999999999) st := fun st => rfl
  have m5 : ∀ st : St, opNeg (.int 5) st = .ok (.int (-5)) st := fun st => rfl
  have m3 : ∀ st : St, opNeg (.int 3) st = .ok (.int (-3)) st := fun st => rfl
  have m40 : ∀ st : St, opNeg (.int 10000000000000000000000000000000000000000) st = .ok (.int (-10000000000000000000000000000000000000000)) st := fun st => rfl
  unfold TH
  generalize nest 59 = x59 at *
  generalize nest 60 = x60 at *
  simp [F2, fIt, fTup, fCons, fC, MP.f1, f2, fNil, fLst, fEmp, fDef, m5, m3, p40, s40, m40, n60, n61, itemsOf]
theorem A2_ok {scr : MP.D} {st : St} {e2 e3 e4 e5 e6 e7 e8 e9 e10 e11 : Option MP.D} : ∃ f7 f9, A2 v (envL scr e2 e3 e4 e5 e6 e7 e8 e9 e10 e11) st = .nx (envL scr e2 e3 e4 e5 e6 f7 e8 f9 e10 e11) st := by
  obtain ⟨ρ5, st5, e, i⟩ := loop_cnt (k := 9) (c := 0) (N := 0) (body := BN v) (ok := fun d => okB d = true ∧ (plainB d 60 = true → (showT d).length ≤ 50000))
    (I := fun _ ρ s => ∃ f7 f9, ρ = envL scr e2 e3 e4 e5 e6 f7 e8 f9 e10 e11 ∧ s = st) (fun d hd m ρ s hm i => by
      obtain ⟨f7, f9, rfl, rfl⟩ := i
      exact ⟨_, _, thing_ok v hd.1 hd.2, _, _, rfl, rfl⟩) TH 0 _ st TH_ok (by omega) ⟨e7, e9, rfl, rfl⟩
  obtain ⟨f7, f9, rfl, rfl⟩ := i
  refine ⟨f7, f9, ?_⟩
  rw [← e]
  unfold A2 gFor
  rw [F2_ok]
  rfl
/-! ### the texts -/
def txS (t : List Nat) : Prop := t.length ≤ 50000 ∧ ∀ c ∈ t, c < 1114112
def txD (d : MP.D) : Prop := ∃ t, d = .str t ∧ txS t
theorem texts_ok {scr : MP.D} {fl : List (Nat × Bool)} {os : List O} (hf : ∀ p ∈ fl, p.1 ≤ os.length) {e2 e3 e4 e5 e6 e7 e8 e9 e10 e11 : Option MP.D} (ds : List MP.D) (hd : ∀ d ∈ ds, txD d) :
    ∃ f11, gLoop (tgName 11) (gSeq (K1 v) gNx) ds (envL scr e2 e3 e4 e5 e6 e7 e8 e9 e10 e11) ⟨os, fl⟩ = .nx (envL scr e2 e3 e4 e5 e6 e7 e8 e9 e10 f11) ⟨os, fl⟩ := by
  obtain ⟨ρ5, st5, e, i⟩ := loop_cnt (k := 11) (c := 0) (N := 0) (body := gSeq (K1 v) gNx) (ok := txD)
    (I := fun _ ρ s => ∃ f11, ρ = envL scr e2 e3 e4 e5 e6 e7 e8 e9 e10 f11 ∧ s = ⟨os, fl⟩) (fun d hd m ρ s hm i => by
      obtain ⟨f11, rfl, rfl⟩ := i
      obtain ⟨t, rfl, h1, h2⟩ := hd
      have h := H_ok v (i := 11) (ρ := envL scr e2 e3 e4 e5 e6 e7 e8 e9 e10 (some (.str t))) (t := t) (st := ⟨os, fl⟩) rfl h1 h2 hf
      refine ⟨envL scr e2 e3 e4 e5 e6 e7 e8 e9 e10 (some (.str t)), ⟨os, fl⟩, ?_, some (.str t), rfl, rfl⟩
      show gSeq (K1 v) gNx (envL scr e2 e3 e4 e5 e6 e7 e8 e9 e10 (some (.str t))) _ = _
      rw [gSeq, k1_eq, h]
      rfl) ds 0 _ ⟨os, fl⟩ hd (by omega) ⟨e11, rfl, rfl⟩
  obtain ⟨f11, rfl, rfl⟩ := i
  exact ⟨f11, e⟩
theorem mul_one {c m : Nat} (hm : m ≤ 1000) (st : St) : opMul (.str [c]) (.int (m : Int)) st = .ok (.str (List.replicate m c)) st := by
  unfold opMul
  simp only
  rw [if_pos (by simp; omega)]
  congr 2
  have : ((m : Int)).toNat = m := by omega
  rw [this]
  clear this hm
  induction m with
  | zero => rfl
  | succ m ih => rw [List.replicate_succ, List.flatten_cons, ih, List.replicate_succ]; rfl
theorem rep_txS {c m : Nat} (hc : c < 1114112) (hm : m ≤ 1000) : txS (List.replicate m c) := ⟨by simp; omega, fun x hx => by rw [List.eq_of_mem_replicate hx]; exact hc⟩
theorem app_txS {a b : List Nat} (ha : a.length ≤ 1000 ∧ txS a) (hb : b.length ≤ 1000 ∧ txS b) : txS (a ++ b) := ⟨by simp; omega, fun c hc => by
  rcases List.mem_append.mp hc with h | h
  · exact ha.2.2 c h
  · exact hb.2.2 c h⟩
theorem many_ok {scr : MP.D} {fl : List (Nat × Bool)} {os : List O} (hf : ∀ p ∈ fl, p.1 ≤ os.length) {m : Nat} (hm : m ≤ 100) {e2 e3 e4 e5 e6 e7 e9 e10 e11 : Option MP.D} :
    ∃ f11, BI v (envL scr e2 e3 e4 e5 e6 e7 (some (.int (m : Int))) e9 e10 e11) ⟨os, fl⟩ = .nx (envL scr e2 e3 e4 e5 e6 e7 (some (.int (m : Int))) e9 e10 f11) ⟨os, fl⟩ := by
  have m40 := fun st => mul_one (c := 40) (m := m) (by omega) st
  have m41 := fun st => mul_one (c := 41) (m := m) (by omega) st
  have t40 := rep_txS (c := 40) (m := m) (by decide) (by omega)
  have t41 := rep_txS (c := 41) (m := m) (by decide) (by omega)
  have l40 : (List.replicate m 40).length ≤ 1000 := by simp; omega
  have l41 : (List.replicate m 41).length ≤ 1000 := by simp; omega
  have a1 : ∀ st : St, opAdd (.str (List.replicate m 40)) (.str (List.replicate m 41)) st = .ok (.str (List.replicate m 40 ++ List.replicate m 41)) st := fun st => by simp [opAdd]; omega
  have a2 : ∀ st : St, opAdd (.str (List.replicate m 40)) (.str [97]) st = .ok (.str (List.replicate m 40 ++ [97])) st := fun st => by simp [opAdd]; omega
  have u1 := app_txS ⟨l40, t40⟩ ⟨l41, t41⟩
  have u2 := app_txS (b := [97]) ⟨l40, t40⟩ ⟨by simp, by simp [txS]⟩
  obtain ⟨f11, lp⟩ := texts_ok v (scr := scr) hf (e2 := e2) (e3 := e3) (e4 := e4) (e5 := e5) (e6 := e6) (e7 := e7) (e8 := some (.int (m : Int))) (e9 := e9) (e10 := e10) (e11 := e11) [.str (List.replicate m 40 ++ List.replicate m 41), .str (List.replicate m 40), .str (List.replicate m 40 ++ [97])] (fun d hd => by
    simp only [List.mem_cons, List.not_mem_nil, or_false] at hd
    rcases hd with rfl | rfl | rfl
    · exact ⟨_, rfl, u1⟩
    · exact ⟨_, rfl, t40⟩
    · exact ⟨_, rfl, u2⟩)
  refine ⟨f11, ?_⟩
  have it : F3i (envL scr e2 e3 e4 e5 e6 e7 (some (.int (m : Int))) e9 e10 e11) ⟨os, fl⟩ = .ok [.str (List.replicate m 40 ++ List.replicate m 41), .str (List.replicate m 40), .str (List.replicate m 40 ++ [97])] ⟨os, fl⟩ := by
    generalize List.replicate m 40 ++ List.replicate m 41 = U1 at *
    generalize List.replicate m 40 ++ [97] = U2 at *
    generalize List.replicate m 40 = U3 at *
    generalize List.replicate m 41 = U4 at *
    generalize (m : Int) = z at *
    simp [F3i, fIt, fTup, fCons, f2, fC, fVar, fNil, m40, m41, a1, a2, itemsOf]
  rw [BI, gSeq, gFor, it, Out.toS_ok, lp]
  rfl
theorem A3_ok {scr : MP.D} {fl : List (Nat × Bool)} {os : List O} (hf : ∀ p ∈ fl, p.1 ≤ os.length) {e2 e3 e4 e5 e6 e7 e8 e9 e10 e11 : Option MP.D} :
    ∃ f8 f11, A3 v (envL scr e2 e3 e4 e5 e6 e7 e8 e9 e10 e11) ⟨os, fl⟩ = .nx (envL scr e2 e3 e4 e5 e6 e7 f8 e9 e10 f11) ⟨os, fl⟩ := by
  obtain ⟨ρ5, st5, e, i⟩ := loop_cnt (k := 8) (c := 0) (N := 0) (body := BI v) (ok := fun d => ∃ m : Nat, d = .int (m : Int) ∧ m ≤ 100)
    (I := fun _ ρ s => ∃ f8 f11, ρ = envL scr e2 e3 e4 e5 e6 e7 f8 e9 e10 f11 ∧ s = ⟨os, fl⟩) (fun d hd m ρ s hm i => by
      obtain ⟨f8, f11, rfl, rfl⟩ := i
      obtain ⟨m, rfl, hm⟩ := hd
      obtain ⟨g11, h⟩ := many_ok v (scr := scr) hf hm (e2 := e2) (e3 := e3) (e4 := e4) (e5 := e5) (e6 := e6) (e7 := e7) (e9 := e9) (e10 := e10) (e11 := f11)
      exact ⟨_, _, h, _, _, rfl, rfl⟩) [.int 59, .int 60, .int 61, .int 62] 0 _ ⟨os, fl⟩ (fun d hd => by
      simp only [List.mem_cons, List.not_mem_nil, or_false] at hd
      rcases hd with rfl | rfl | rfl | rfl
      · exact ⟨59, rfl, by omega⟩
      · exact ⟨60, rfl, by omega⟩
      · exact ⟨61, rfl, by omega⟩
      · exact ⟨62, rfl, by omega⟩) (by omega) ⟨e8, e11, rfl, rfl⟩
  obtain ⟨f8, f11, rfl, rfl⟩ := i
  refine ⟨f8, f11, ?_⟩
  rw [← e]
  rfl
def TXT : List (List Nat) := [[], [32], [97], [97, 32], [32, 97], [40, 41], [40, 32, 41], [40, 97, 41], [40, 97, 32, 41], [40, 97, 32, 32, 98, 41], [40, 97, 32, 98, 41], [45], [45, 45], [45, 49], [45, 97], List.replicate 40 57, List.replicate 41 57, [40, 97, 41, 40, 98, 41], [97, 40, 98, 41], [41], [40, 45, 41], [107, 101, 112, 116, 41], [49, 120]]
theorem TXT_ok : ∀ d ∈ TXT.map MP.D.str, txD d := by
  have : (TXT.all fun w => decide (w.length ≤ 50000) && w.all fun c => decide (c < 1114112)) = true := by decide +kernel
  intro d hd
  obtain ⟨w, hw, rfl⟩ := List.mem_map.mp hd
  have := List.all_eq_true.mp this w hw
  rw [Bool.and_eq_true, decide_eq_true_eq] at this
  exact ⟨w, rfl, this.1, fun c hc => of_decide_eq_true (List.all_eq_true.mp this.2 c hc)⟩
theorem F4_ok (ρ : Env) (st : St) : F4 ρ st = .ok (TXT.map .str) st := by
  have m40 : ∀ st, opMul (.str [57]) (.int 40) st = .ok (.str (List.replicate 40 57)) st := fun st => mul_one (c := 57) (m := 40) (by omega) st
  have m41 : ∀ st, opMul (.str [57]) (.int 41) st = .ok (.str (List.replicate 41 57)) st := fun st => mul_one (c := 57) (m := 41) (by omega) st
  unfold TXT
  generalize List.replicate 40 57 = x40 at *
  generalize List.replicate 41 57 = x41 at *
  simp [F4, fIt, fTup, fCons, fC, f2, fNil, m40, m41, itemsOf]
theorem A4_ok {scr : MP.D} {fl : List (Nat × Bool)} {os : List O} (hf : ∀ p ∈ fl, p.1 ≤ os.length) {e2 e3 e4 e5 e6 e7 e8 e9 e10 e11 : Option MP.D} :
    ∃ f11, A4 v (envL scr e2 e3 e4 e5 e6 e7 e8 e9 e10 e11) ⟨os, fl⟩ = .nx (envL scr e2 e3 e4 e5 e6 e7 e8 e9 e10 f11) ⟨os, fl⟩ := by
  obtain ⟨f11, lp⟩ := texts_ok v (scr := scr) hf (e2 := e2) (e3 := e3) (e4 := e4) (e5 := e5) (e6 := e6) (e7 := e7) (e8 := e8) (e9 := e9) (e10 := e10) (e11 := e11) (TXT.map .str) TXT_ok
  refine ⟨f11, ?_⟩
  rw [A4, gFor, F4_ok, Out.toS_ok]
  exact lp
theorem A5_ok {scr : MP.D} {st : St} {e2 e3 e4 e5 e6 e7 e8 e9 e10 e11 : Option MP.D} : A5 v (envL scr e2 e3 e4 e5 e6 e7 e8 e9 e10 e11) st = .ret (.bl true) st := by
  have lc := lc_all (ds := [.non, .int 5, .tup [.str [97]], .tup []]) (k := 9) (el := fHeard 2 2 told__law_heard hs__law_heard (fDef 1 (h_read_value v) (fCons (fVar 9) (fNil)))) (ρ := envL scr e2 e3 e4 e5 e6 e7 e8 e9 e10 e11) (st := st) (fi := fIt (fTup (fCons (fC .non) (fCons (fC (.int 5)) (fCons (fTup (fCons (fC (.str [97])) (fNil))) (fCons (fTup (fNil)) (fNil))))))) (fun _ => .tup [.str [110, 111, 116, 104, 105, 110, 103]]) rfl (fun d hd => by
    have e : h_read_value v [d] st = .exc 1 [] st := by
      simp only [List.mem_cons, List.not_mem_nil, or_false] at hd
      rcases hd with rfl | rfl | rfl | rfl
      · exact read_value_odd v rfl rfl st
      · exact read_value_odd v rfl rfl st
      · exact read_value_odd v rfl rfl st
      · exact read_value_odd v rfl rfl st
    simp [wipeE, fHeard, fDef, fCons, fVar, fNil, e, heard_nothing]) (by simp)
  have mu : opMul (.lst [.tup [.str [110, 111, 116, 104, 105, 110, 103]]]) (.int 4) st = .ok (.lst [.tup [.str [110, 111, 116, 104, 105, 110, 103]], .tup [.str [110, 111, 116, 104, 105, 110, 103]], .tup [.str [110, 111, 116, 104, 105, 110, 103]], .tup [.str [110, 111, 116, 104, 105, 110, 103]]]) st := rfl
  have eq : opEq (.lst [.tup [.str [110, 111, 116, 104, 105, 110, 103]], .tup [.str [110, 111, 116, 104, 105, 110, 103]], .tup [.str [110, 111, 116, 104, 105, 110, 103]], .tup [.str [110, 111, 116, 104, 105, 110, 103]]]) (.lst [.tup [.str [110, 111, 116, 104, 105, 110, 103]], .tup [.str [110, 111, 116, 104, 105, 110, 103]], .tup [.str [110, 111, 116, 104, 105, 110, 103]], .tup [.str [110, 111, 116, 104, 105, 110, 103]]]) st = .ok (.bl true) st := opEq_self_m rfl (by decide)
  simp only [List.map_cons, List.map_nil] at lc
  unfold A5
  generalize fLcL _ = gl at *
  simp [gRet, f2, lc, fLst, fCons, fTup, fC, fNil, mu, eq]
theorem law_yes {ns : List Int} (h : ns.length ≤ 63) : ∃ st, h_law v [.lsk (ns.map D.int)] st0 = .ok (.bl true) st := by
  obtain ⟨o, eb, B⟩ := bag_ok h (enter st0)
  have B : Bag [o] 0 0 := B
  have eb : h__law_bag v [.lsk (ns.map D.int)] (enter st0) = .ok (.ref 0) ⟨[o], (enter st0).fls⟩ := eb
  obtain ⟨fl, hfl⟩ : ∃ fl, fl = (enter st0).fls := ⟨_, rfl⟩
  rw [← hfl] at eb
  have h0 : ∀ p ∈ fl, p.1 = 0 := fun p hp => by
    rw [hfl] at hp
    have : p = (0, false) := by simpa [enter, st0] using hp
    rw [this]
  have hf : ∀ os' : List O, ∀ p ∈ fl, p.1 ≤ os'.length := fun os' p hp => by rw [h0 p hp]; exact Nat.zero_le _
  obtain ⟨scr, hscr⟩ : ∃ scr, scr = D.lsk (ns.map D.int) := ⟨_, rfl⟩
  rw [← hscr] at eb ⊢
  obtain ⟨ρ5, st5, e, i⟩ := loop_cnt (k := 2) (c := 2000) (N := 2 ^ 63) (body := BL v) (ok := fun _ => True)
    (I := fun m ρ s => ∃ (os' : List O) (f2 f3 f4 f5 f6 f10 f11 : Option MP.D), ρ = envL scr f2 f3 f4 f5 f6 none none none f10 f11 ∧ s = ⟨os', fl⟩ ∧ Bag os' 0 m) (fun d hd m ρ s hm i => by
      obtain ⟨os', f2, f3, f4, f5, f6, f10, f11, rfl, rfl, Bm⟩ := i
      obtain ⟨o', g3, g4, g5, g6, g10, g11, b1, b2⟩ := lap_ok v (scr := scr) h0 m (by omega) Bm (e2 := some d) (e3 := f3) (e4 := f4) (e5 := f5) (e6 := f6) (e7 := none) (e8 := none) (e9 := none) (e10 := f10) (e11 := f11)
      exact ⟨_, _, b1, o', some d, g3, g4, g5, g6, g10, g11, rfl, rfl, b2⟩) (rg 0 10) 0 _ ⟨[o], fl⟩ (fun _ _ => trivial) (by simp [rg]) ⟨[o], none, none, none, none, none, none, none, rfl, rfl, B⟩
  obtain ⟨os', f2, f3, f4, f5, f6, f10, f11, rfl, rfl, B5⟩ := i
  refine ⟨{ objs := os'.take 0, fls := [] }, ?_⟩
  obtain ⟨g7, g9, a2⟩ := A2_ok v (scr := scr) (st := ⟨os', fl⟩) (e2 := f2) (e3 := f3) (e4 := f4) (e5 := f5) (e6 := f6) (e7 := none) (e8 := none) (e9 := none) (e10 := f10) (e11 := f11)
  obtain ⟨g8, g11, a3⟩ := A3_ok v (scr := scr) (hf os') (e2 := f2) (e3 := f3) (e4 := f4) (e5 := f5) (e6 := f6) (e7 := g7) (e8 := none) (e9 := g9) (e10 := f10) (e11 := f11)
  obtain ⟨i11, a4⟩ := A4_ok v (scr := scr) (hf os') (e2 := f2) (e3 := f3) (e4 := f4) (e5 := f5) (e6 := f6) (e7 := g7) (e8 := g8) (e9 := g9) (e10 := f10) (e11 := g11)
  have a5 := A5_ok v (scr := scr) (st := ⟨os', fl⟩) (e2 := f2) (e3 := f3) (e4 := f4) (e5 := f5) (e6 := f6) (e7 := g7) (e8 := g8) (e9 := g9) (e10 := f10) (e11 := i11)
  refine run_end (n := 12) (b := b_law v) (ds := [scr]) (st := st0) (d := .bl true) (objs := os') ?_ rfl
  have e0 : List.map some [scr] ++ List.replicate (12 - [scr].length) none = [some scr, none, none, none, none, none, none, none, none, none, none, none] := rfl
  have s0 : A0 v [some scr, none, none, none, none, none, none, none, none, none, none, none] (enter st0) = .nx (envL scr none none none none none none none none none none) ⟨[o], fl⟩ := by
    simp [A0, gSet, fDef, fCons, fVar, fNil, eb]
  have s1 : A1 v (envL scr none none none none none none none none none none) ⟨[o], fl⟩ = .nx (envL scr f2 f3 f4 f5 f6 none none none f10 f11) ⟨os', fl⟩ := by
    rw [← e]
    unfold A1 gFor
    rw [rg1_ok (j := 10) (st1 := ⟨[o], fl⟩) rfl (by omega)]
    rfl
  rw [b_law_eq, e0, gSeq, s0, SO.seq_nx, gSeq, s1, SO.seq_nx, gSeq, a2, SO.seq_nx, gSeq, a3, SO.seq_nx, gSeq, a4, SO.seq_nx, gSeq, a5]
  show SO.ret _ _ = _
  rw [hfl]
  rfl
end K10

set_option maxHeartbeats 4000000
open PySem PySem.W PyProof.Rows in
set_option maxRecDepth 100000 in
set_option maxHeartbeats 0 in
theorem PySem.Challenge.cw_mostwebs_k10_plain_values_as_texts_holds : PySem.Challenge.rw_mostwebs_k10_plain_values_as_texts.Holds := by
  w_on; o_law; k_head; (case hw => w_witness2)
  k_fill
  refine MP.walk_mpT (l := PySem.Challenge.rw_mostwebs_k10_plain_values_as_texts) (n := 63) (k := 69) (x := "script") rfl (by decide) rfl ⟨rfl, by decide, by decide⟩ (fun w h Y => PySem.W.km_in_of Y) ?F
  case F =>
    intro w mg fa h Y KX G hmg OT
    refine' K10.all_mk (fun ns h _ v => K10.law_yes v h) KX G hmg OT ?hrec ?zgValues ?zkcValues ?zpgValues ?zhdValues ?zpoValues ?zsaValues ?zmkValues ?znfValues_signs ?znfValues_at ?zais_number ?zlis_number ?zeis_number ?zkis_number ?zais_word ?zlis_word ?zeis_word ?zkis_word ?zais_plain ?zlis_plain ?zeis_plain ?zkis_plain ?zais_plain_value ?zlis_plain_value ?zeis_plain_value ?zkis_plain_value ?zashown ?zlshown ?zeshown ?zkshown ?zavalue_text ?zlvalue_text ?zevalue_text ?zkvalue_text ?zafigures_value ?zlfigures_value ?zefigures_value ?zkfigures_value ?zarun_value ?zlrun_value ?zerun_value ?zkrun_value ?zaValues___init__ ?ziValues___init__ ?zlValues___init__ ?zeValues___init__ ?zkValues___init__ ?zaValues_fail ?ziValues_fail ?zlValues_fail ?zeValues_fail ?zkValues_fail ?zaValues_is_next ?ziValues_is_next ?zlValues_is_next ?zeValues_is_next ?zkValues_is_next ?zaValues_run ?ziValues_run ?zlValues_run ?zeValues_run ?zkValues_run ?zaValues_value ?ziValues_value ?zlValues_value ?zeValues_value ?zkValues_value ?zaread_value ?zlread_value ?zeread_value ?zkread_value ?za_law_bag ?zl_law_bag ?ze_law_bag ?zk_law_bag ?za_law_take ?zl_law_take ?ze_law_take ?zk_law_take ?za_law_some ?zl_law_some ?ze_law_some ?zk_law_some ?za_law_alike ?zl_law_alike ?ze_law_alike ?zk_law_alike ?za_law_is_int ?zl_law_is_int ?ze_law_is_int ?zk_law_is_int ?za_law_value_text ?zl_law_value_text ?ze_law_value_text ?zk_law_value_text ?za_law_is_word ?zl_law_is_word ?ze_law_is_word ?zk_law_is_word ?za_law_run_value ?zl_law_run_value ?ze_law_run_value ?zk_law_run_value ?za_law_read_value ?zl_law_read_value ?ze_law_read_value ?zk_law_read_value ?za_law_value ?zl_law_value ?ze_law_value ?zk_law_value ?za_law_is_plain ?zl_law_is_plain ?ze_law_is_plain ?zk_law_is_plain ?za_law_nested ?zl_law_nested ?ze_law_nested ?zk_law_nested ?za_law_heard ?zl_law_heard ?ze_law_heard ?zk_law_heard ?zalaw ?zllaw ?zelaw ?zklaw ?zt1 ?zt2 ?zt3 ?zt4 ?zcDIGITS ?zdDIGITS ?zcLETTERS ?zdLETTERS ?zcMOST_FIGURES ?zdMOST_FIGURES ?zcMOST_LEVELS ?zdMOST_LEVELS ?znabs ?znall ?znbool ?znint ?znisinstance ?znlen ?znrange ?znrepr ?znstr ?zntuple ?znsuper ?zgBadText ?zgNothing ?zxm ?zopq ?zfiBadText ?ztiBadText ?zliBadText ?zeiBadText ?zlcBadText ?zisBadText ?zldBadText ?zv2BadText ?zfeBadText ?zlsBadText ?zrvBadText ?zsaBadText ?zsbBadText_ ?ztbBadText_ ?zkcBadText ?zmrBadText ?zsuBadText ?zsvBadText ?znfBadText_line ?znfBadText_column ?zxfBadText ?zxNothing ?zkcNothing ?zsbNothing ?ztbNothing
    (case hrec => first | rfl | decide +kernel | kernel_rfl)
    (case zgValues => k_is)
    (case zkcValues => k_is)
    (case zpgValues => first | k_is | kernel_rfl)
    (case zhdValues => first | k_is | kernel_rfl)
    (case zpoValues => first | k_is | kernel_rfl)
    (case zsaValues => k_is)
    (case zmkValues => first | k_is | kernel_rfl)
    (case znfValues_signs => k_is)
    (case znfValues_at => k_is)
    (case zais_number => k_is)
    (case zlis_number => k_is)
    (case zeis_number => k_is)
    (case zkis_number => k_is)
    (case zais_word => k_is)
    (case zlis_word => k_is)
    (case zeis_word => k_is)
    (case zkis_word => k_is)
    (case zais_plain => k_is)
    (case zlis_plain => k_is)
    (case zeis_plain => k_is)
    (case zkis_plain => k_is)
    (case zais_plain_value => k_is)
    (case zlis_plain_value => k_is)
    (case zeis_plain_value => k_is)
    (case zkis_plain_value => k_is)
    (case zashown => k_is)
    (case zlshown => k_is)
    (case zeshown => k_is)
    (case zkshown => k_is)
    (case zavalue_text => k_is)
    (case zlvalue_text => k_is)
    (case zevalue_text => k_is)
    (case zkvalue_text => k_is)
    (case zafigures_value => k_is)
    (case zlfigures_value => k_is)
    (case zefigures_value => k_is)
    (case zkfigures_value => k_is)
    (case zarun_value => k_is)
    (case zlrun_value => k_is)
    (case zerun_value => k_is)
    (case zkrun_value => k_is)
    (case zaValues___init__ => k_is)
    (case ziValues___init__ => first | k_is | kernel_rfl)
    (case zlValues___init__ => k_is)
    (case zeValues___init__ => k_is)
    (case zkValues___init__ => k_is)
    (case zaValues_fail => k_is)
    (case ziValues_fail => first | k_is | kernel_rfl)
    (case zlValues_fail => k_is)
    (case zeValues_fail => k_is)
    (case zkValues_fail => k_is)
    (case zaValues_is_next => k_is)
    (case ziValues_is_next => first | k_is | kernel_rfl)
    (case zlValues_is_next => k_is)
    (case zeValues_is_next => k_is)
    (case zkValues_is_next => k_is)
    (case zaValues_run => k_is)
    (case ziValues_run => first | k_is | kernel_rfl)
    (case zlValues_run => k_is)
    (case zeValues_run => k_is)
    (case zkValues_run => k_is)
    (case zaValues_value => k_is)
    (case ziValues_value => first | k_is | kernel_rfl)
    (case zlValues_value => k_is)
    (case zeValues_value => k_is)
    (case zkValues_value => k_is)
    (case zaread_value => k_is)
    (case zlread_value => k_is)
    (case zeread_value => k_is)
    (case zkread_value => k_is)
    (case za_law_bag => k_is)
    (case zl_law_bag => k_is)
    (case ze_law_bag => k_is)
    (case zk_law_bag => k_is)
    (case za_law_take => k_is)
    (case zl_law_take => k_is)
    (case ze_law_take => k_is)
    (case zk_law_take => k_is)
    (case za_law_some => k_is)
    (case zl_law_some => k_is)
    (case ze_law_some => k_is)
    (case zk_law_some => k_is)
    (case za_law_alike => k_is)
    (case zl_law_alike => k_is)
    (case ze_law_alike => k_is)
    (case zk_law_alike => k_is)
    (case za_law_is_int => k_is)
    (case zl_law_is_int => k_is)
    (case ze_law_is_int => k_is)
    (case zk_law_is_int => k_is)
    (case za_law_value_text => k_is)
    (case zl_law_value_text => k_is)
    (case ze_law_value_text => k_is)
    (case zk_law_value_text => k_is)
    (case za_law_is_word => k_is)
    (case zl_law_is_word => k_is)
    (case ze_law_is_word => k_is)
    (case zk_law_is_word => k_is)
    (case za_law_run_value => k_is)
    (case zl_law_run_value => k_is)
    (case ze_law_run_value => k_is)
    (case zk_law_run_value => k_is)
    (case za_law_read_value => k_is)
    (case zl_law_read_value => k_is)
    (case ze_law_read_value => k_is)
    (case zk_law_read_value => k_is)
    (case za_law_value => k_is)
    (case zl_law_value => k_is)
    (case ze_law_value => k_is)
    (case zk_law_value => k_is)
    (case za_law_is_plain => k_is)
    (case zl_law_is_plain => k_is)
    (case ze_law_is_plain => k_is)
    (case zk_law_is_plain => k_is)
    (case za_law_nested => k_is)
    (case zl_law_nested => k_is)
    (case ze_law_nested => k_is)
    (case zk_law_nested => k_is)
    (case za_law_heard => k_is)
    (case zl_law_heard => k_is)
    (case ze_law_heard => k_is)
    (case zk_law_heard => k_is)
    (case zalaw => k_is)
    (case zllaw => k_is)
    (case zelaw => k_is)
    (case zklaw => k_is)
    (case zt1 => k_is)
    (case zt2 => rfl)
    (case zt3 => kernel_rfl)
    (case zt4 => kernel_rfl)
    (case zcDIGITS => k_is)
    (case zdDIGITS => first | rfl | decide +kernel | kernel_rfl)
    (case zcLETTERS => k_is)
    (case zdLETTERS => first | rfl | decide +kernel | kernel_rfl)
    (case zcMOST_FIGURES => k_is)
    (case zdMOST_FIGURES => first | rfl | decide +kernel | kernel_rfl)
    (case zcMOST_LEVELS => k_is)
    (case zdMOST_LEVELS => first | rfl | decide +kernel | kernel_rfl)
    (case znabs => k_is)
    (case znall => k_is)
    (case znbool => k_is)
    (case znint => k_is)
    (case znisinstance => k_is)
    (case znlen => k_is)
    (case znrange => k_is)
    (case znrepr => k_is)
    (case znstr => k_is)
    (case zntuple => k_is)
    (case znsuper => k_is)
    (case zgBadText => k_is)
    (case zgNothing => k_is)
    (case zxm => kernel_rfl)
    (case zopq => k_is)
    (case zfiBadText => k_is)
    (case ztiBadText => first | k_is | kernel_rfl)
    (case zliBadText => k_is)
    (case zeiBadText => k_is)
    (case zlcBadText => k_is)
    (case zisBadText => kernel_rfl)
    (case zldBadText => k_is)
    (case zv2BadText => rfl)
    (case zfeBadText => first | rfl | decide +kernel)
    (case zlsBadText => first | k_is | kernel_rfl)
    (case zrvBadText => first | rfl | decide +kernel)
    (case zsaBadText => k_is)
    (case zsbBadText_ => first | k_is | kernel_rfl)
    (case ztbBadText_ => first | k_is | kernel_rfl)
    (case zkcBadText => k_is)
    (case zmrBadText => first | k_is | kernel_rfl)
    (case zsuBadText => first | ks_is | kernel_rfl)
    (case zsvBadText => first | k_is | kernel_rfl)
    (case znfBadText_line => k_is)
    (case znfBadText_column => k_is)
    (case zxfBadText => kernel_rfl)
    (case zxNothing => first | k_is | kernel_rfl)
    (case zkcNothing => k_is)
    (case zsbNothing => first | k_is | kernel_rfl)
    (case ztbNothing => first | k_is | kernel_rfl)

