import PyProof.Rows.All
import Wide.All
import OpenK.AllK
import Wide.FinOn
import HandS.ForMost
import HandS.ForExc
import HandS.IsInst
import HandS.TupAny
import HandS.FStr
import HandS.Walk
import HandS.TupLen
import HandS.WordsDict
import KE.DataMinMax
import HandS.Small
import HandS.ExcIs
import HandS.RaiseMore
import KE.SortData
import HandS.SortOrd
import HandS.Comp
import HandS.Style
import HandS.More
import HandS.Text
import HandS.StrMore
import PySem.Challenge.RW_stepdown_k65_strings_that_are_reached
import PyProof.StrLawsIn
import KE.KIntText
import KE.KxText
import KE.RegKIsAll
import KE.RegKTryMore
set_option Elab.async false
set_option linter.all false
set_option maxRecDepth 100000
set_option maxHeartbeats 4000000
/-! DL: plain data over the hand layer. A value is D, a slot Sl, an expression a function of the slots. -/
namespace DL
open PySem PySem.Spec PyProof.Rows L2

/-! ### data -/
inductive D where
  | non | bl (b : Bool) | int (i : Int) | str (x : Str)
  | tup (xs : List D) | lst (xs : List D) | scr (xs : List D)
  | dK (kvs : List (Key × D)) | dT (kvs : List (List Key × D))
  | ins (C : Addr) (fs : List (Str × D)) | ref (a : Addr) | ty (n : String)
  deriving Inhabited

/-- one abstract heap holds all of another -/
def Ex (H H' : Hp) : Prop := ∀ a o, H a = some o → H' a = some o
theorem Ex.refl (H : Hp) : Ex H H := fun _ _ h => h
theorem Ex.trans {H H1 H2 : Hp} (a : Ex H H1) (b : Ex H1 H2) : Ex H H2 := fun x o h => b x o (a x o h)
theorem Ex.new {H : Hp} {p : Addr} {o : HO} (h : H p = none) : Ex H (upd H p o) := fun a u e => by
  rw [upd_ne (ne_of_none e h)]; exact e
theorem Ex.free {H H' : Hp} {p : Addr} (e : Ex H H') (h : H' p = none) : H p = none := by
  cases h1 : H p with
  | none => rfl
  | some o => rw [e p o h1] at h; cases h
theorem Ex.upd2 {H H' : Hp} {p : Addr} {o : HO} (e : Ex H H') (h : H' p = none) : Ex (upd H p o) (upd H' p o) := fun a u q => by
  by_cases hb : a = p
  · subst hb; rw [upd_same] at q ⊢; exact q
  · rw [upd_ne hb] at q ⊢; exact e a u q
theorem Ex.updR {H H' : Hp} {p : Addr} {o : HO} (e : Ex H H') (h : H p = none) : Ex H (upd H' p o) := fun a u q => by
  rw [upd_ne (ne_of_none q h)]; exact e a u q
/-- what can be read stays readable -/
def Le (F F' : Hp) : Prop := ∀ a u, Rd F a u → Rd F' a u
theorem Ex.le {F F' : Hp} (e : Ex F F') : Le F F' := fun a u h => by
  rcases h with h | ⟨o, h⟩
  · exact .inl (e a _ h)
  · exact .inr ⟨o, e a _ h⟩
theorem Le.refl (F : Hp) : Le F F := fun _ _ h => h
theorem Le.trans {F F1 F2 : Hp} (a : Le F F1) (b : Le F1 F2) : Le F F2 := fun x u h => b x u (a x u h)
theorem Le.l {K : PySem.W.Frag} {H H' : Hp} {a : Addr} {xs : List V} (e : Le H H') (h : SqL K H a xs) : SqL K H' a xs := by
  rcases h with h | h
  · exact .inl (e _ _ h)
  · exact .inr h
theorem Le.t {K : PySem.W.Frag} {H H' : Hp} {a : Addr} {xs : List V} (e : Le H H') (h : SqT K H a xs) : SqT K H' a xs := by
  rcases h with h | h
  · exact .inl (e _ _ h)
  · exact .inr h

/-- what a lock does not touch -/
def solid : HO → Bool
  | .lst _ => true
  | .tup _ => true
  | .ins _ _ _ => true
  | _ => false
mutual
/-- the value v means x, by what stands in F -/
inductive Rep (K : PySem.W.Frag) (F : Hp) : V → D → Prop
  | non : Rep K F .non .non
  | bl (b : Bool) : Rep K F (.bl b) (.bl b)
  | int (i : Int) : Rep K F (.int i) (.int i)
  | str (x : Str) : Rep K F (.str x) (.str x)
  | ty (n : String) : Rep K F (.ty n) (.ty n)
  | ref (a : Addr) : Rep K F (.ref a) (.ref a)
  | tup {a : Addr} {vs : List V} {xs : List D} : F a = some (.tup vs) → RepL K F vs xs → Rep K F (.ref a) (.tup xs)
  | lst {a : Addr} {vs : List V} {xs : List D} : F a = some (.lst vs) → RepL K F vs xs → Rep K F (.ref a) (.lst xs)
  | scr {a : Addr} {vs : List V} {xs : List D} : SqL K F a vs → RepL K F vs xs → Rep K F (.ref a) (.scr xs)
  | dK {a : Addr} {kvs : List (Key × V)} {xs : List (Key × D)} : Rd F a (.dK kvs) → kvs.map (·.1) = xs.map (·.1) → RepL K F (kvs.map (·.2)) (xs.map (·.2)) → Rep K F (.ref a) (.dK xs)
  | dT {a : Addr} {kvs : List (List Key × V)} {xs : List (List Key × D)} : Rd F a (.dT kvs) → kvs.map (·.1) = xs.map (·.1) → RepL K F (kvs.map (·.2)) (xs.map (·.2)) → Rep K F (.ref a) (.dT xs)
  | ins {a C dx : Addr} {fs : List (Str × V)} {gs : List (Str × D)} : F a = some (.ins C dx fs) → Cls K C → (∀ g ∈ gs, NoAttr K C g.1) → fs.map (·.1) = gs.map (·.1) → RepL K F (fs.map (·.2)) (gs.map (·.2)) → Rep K F (.ref a) (.ins C gs)
inductive RepL (K : PySem.W.Frag) (F : Hp) : List V → List D → Prop
  | nil : RepL K F [] []
  | cons {v : V} {vs : List V} {x : D} {xs : List D} : Rep K F v x → RepL K F vs xs → RepL K F (v :: vs) (x :: xs)
end
/-- an object's content means x -/
inductive Cont (K : PySem.W.Frag) (F : Hp) : HO → D → Prop
  | lst {vs : List V} {xs : List D} : RepL K F vs xs → Cont K F (.lst vs) (.lst xs)
  | dK {kvs : List (Key × V)} {xs : List (Key × D)} : kvs.map (·.1) = xs.map (·.1) → RepL K F (kvs.map (·.2)) (xs.map (·.2)) → Cont K F (.dK kvs) (.dK xs)
  | dT {kvs : List (List Key × V)} {xs : List (List Key × D)} : kvs.map (·.1) = xs.map (·.1) → RepL K F (kvs.map (·.2)) (xs.map (·.2)) → Cont K F (.dT kvs) (.dT xs)
  | ins {C dx : Addr} {fs : List (Str × V)} {gs : List (Str × D)} : Cls K C → (∀ g ∈ gs, NoAttr K C g.1) → fs.map (·.1) = gs.map (·.1) → RepL K F (fs.map (·.2)) (gs.map (·.2)) → Cont K F (.ins C dx fs) (.ins C gs)

section
variable {K : PySem.W.Frag} {F F' H H' : Hp} {v : V} {x : D} {vs ws : List V} {xs ys : List D} {o : HO}
mutual
theorem Rep.mono (e : Le F F') (ei : ∀ a o, F a = some o → solid o = true → F' a = some o) : ∀ {v : V} {x : D}, Rep K F v x → Rep K F' v x
  | _, _, .non => .non
  | _, _, .bl b => .bl b
  | _, _, .int i => .int i
  | _, _, .str i => .str i
  | _, _, .ty n => .ty n
  | _, _, .ref a => .ref a
  | _, _, .tup h r => .tup (ei _ _ h rfl) (RepL.mono e ei r)
  | _, _, .lst h r => .lst (ei _ _ h rfl) (RepL.mono e ei r)
  | _, _, .scr h r => .scr (e.l h) (RepL.mono e ei r)
  | _, _, .dK h k r => .dK (e _ _ h) k (RepL.mono e ei r)
  | _, _, .dT h k r => .dT (e _ _ h) k (RepL.mono e ei r)
  | _, _, .ins h c n k r => .ins (ei _ _ h rfl) c n k (RepL.mono e ei r)
theorem RepL.mono (e : Le F F') (ei : ∀ a o, F a = some o → solid o = true → F' a = some o) : ∀ {vs : List V} {xs : List D}, RepL K F vs xs → RepL K F' vs xs
  | _, _, .nil => .nil
  | _, _, .cons r t => .cons (Rep.mono e ei r) (RepL.mono e ei t)
end
theorem Rep.ex (h : Rep K F v x) (e : Ex F F') : Rep K F' v x := h.mono e.le fun a o q _ => e _ _ q
theorem RepL.ex (h : RepL K F vs xs) (e : Ex F F') : RepL K F' vs xs := h.mono e.le fun a o q _ => e _ _ q
theorem Cont.ex (h : Cont K F o x) (e : Ex F F') : Cont K F' o x := by
  cases h with
  | lst r => exact .lst (r.ex e)
  | dK k r => exact .dK k (r.ex e)
  | dT k r => exact .dT k (r.ex e)
  | ins c n k r => exact .ins c n k (r.ex e)
theorem RepL.length : ∀ {vs : List V} {xs : List D}, RepL K F vs xs → vs.length = xs.length
  | _, _, .nil => rfl
  | _, _, .cons _ t => by rw [List.length_cons, List.length_cons, RepL.length t]
theorem RepL.get : ∀ {vs : List V} {xs : List D} {i : Nat} {x : D}, RepL K F vs xs → xs[i]? = some x → ∃ v, vs[i]? = some v ∧ Rep K F v x
  | _, _, _, _, .nil, e => by simp at e
  | _, _, 0, _, .cons r _, e => by simp at e; subst e; exact ⟨_, rfl, r⟩
  | _, _, i + 1, x, .cons _ t, e => by
    obtain ⟨u, h1, h2⟩ := RepL.get (i := i) (x := x) t (by simpa using e)
    exact ⟨u, by simpa using h1, h2⟩
theorem RepL.getV : ∀ {vs : List V} {xs : List D} {i : Nat} {v : V}, RepL K F vs xs → vs[i]? = some v → ∃ x, xs[i]? = some x ∧ Rep K F v x
  | _, _, _, _, .nil, e => by simp at e
  | _, _, 0, _, .cons r _, e => by simp at e; subst e; exact ⟨_, rfl, r⟩
  | _, _, i + 1, x, .cons _ t, e => by
    obtain ⟨u, h1, h2⟩ := RepL.getV (i := i) (v := x) t (by simpa using e)
    exact ⟨u, by simpa using h1, h2⟩
theorem RepL.append : ∀ {vs : List V} {xs : List D} {ws : List V} {ys : List D}, RepL K F vs xs → RepL K F ws ys → RepL K F (vs ++ ws) (xs ++ ys)
  | _, _, _, _, .nil, s => s
  | _, _, _, _, .cons r t, s => .cons r (RepL.append t s)
theorem RepL.snoc (h : RepL K F vs xs) (r : Rep K F v x) : RepL K F (vs ++ [v]) (xs ++ [x]) := h.append (.cons r .nil)
theorem RepL.take : ∀ {vs : List V} {xs : List D} (n : Nat), RepL K F vs xs → RepL K F (vs.take n) (xs.take n)
  | _, _, 0, _ => .nil
  | _, _, _ + 1, .nil => .nil
  | _, _, n + 1, .cons r t => .cons r (RepL.take n t)
theorem RepL.drop : ∀ {vs : List V} {xs : List D} (n : Nat), RepL K F vs xs → RepL K F (vs.drop n) (xs.drop n)
  | _, _, 0, r => r
  | _, _, _ + 1, .nil => .nil
  | _, _, n + 1, .cons r t => RepL.drop n t
theorem RepL.set (r : Rep K F v x) : ∀ {vs : List V} {xs : List D} (i : Nat), RepL K F vs xs → RepL K F (vs.set i v) (xs.set i x)
  | _, _, _, .nil => .nil
  | _, _, 0, .cons _ t => .cons r t
  | _, _, i + 1, .cons q t => .cons q (RepL.set r i t)
theorem RepL.reverse (h : RepL K F vs xs) : RepL K F vs.reverse xs.reverse := by
  induction h using RepL.rec (motive_1 := fun _ _ _ => True) with
  | nil => exact .nil
  | cons r t _ ih => rw [List.reverse_cons, List.reverse_cons]; exact ih.snoc r
  | _ => trivial
end

/-! ### slots -/
/-- what a slot holds: nothing that is known; data; an object of one's own (loc: made here) -/
inductive Sl where
  | un | d (x : D) | own (m : D) (loc : Bool)
  deriving Inhabited
abbrev Rho := List Sl
/-- what an expression gives: data, or the own object of a slot -/
inductive Vl where
  | d (x : D) | sl (i : Nat)
  deriving Inhabited
/-- an exception: its class, its fields -/
structure Xc where
  cls : Addr
  fs : Option (List (Str × D))
inductive R (α : Type) where
  | ok (a : α) (r : Rho) | exc (e : Xc) (r : Rho) | bad
abbrev M (α : Type) := Rho → R α
/-- the ends of a statement -/
inductive Oc where
  | nx (r : Rho) | rt (x : D) (r : Rho) | bk (r : Rho) | ct (r : Rho) | exc (e : Xc) (r : Rho) | bad

/-- fixed through a def: the written part, the heaps and slots at its entry -/
structure Ctx where
  K : PySem.W.Frag
  F0 : Hp
  H0 : Hp
  s0 : L2.St
  pa : Addr → Prop

def SlOk (C : Ctx) (F H : Hp) (i : Nat) (v : Option (Option V)) : Sl → Prop
  | .un => True
  | .d x => ∃ u, v = some (some u) ∧ Rep C.K F u x
  | .own m loc => ∃ (a : Addr) (o : HO), v = some (some (V.ref a)) ∧ F a = none ∧ H a = some o ∧ Cont C.K F o m ∧ (if loc = true then C.H0 a = none else C.s0[i]? = some (some (V.ref a)) ∧ C.pa a)
def isOwn : Option Sl → Bool
  | some (.own _ _) => true
  | _ => false
/-- a is the object of one of the own slots -/
def OwnA (σ : L2.St) (ρ : Rho) (a : Addr) : Prop := ∃ i : Nat, isOwn ρ[i]? = true ∧ σ[i]? = some (some (V.ref a))
structure Ok (C : Ctx) (F H : Hp) (σ : L2.St) (ρ : Rho) : Prop where
  sub : Ex F H
  len : σ.length = ρ.length
  sl : ∀ (i : Nat) (s : Sl), ρ[i]? = some s → SlOk C F H i σ[i]? s
  dj : ∀ (i j : Nat) (a : Addr), i ≠ j → isOwn ρ[i]? = true → isOwn ρ[j]? = true → σ[i]? = some (some (V.ref a)) → σ[j]? ≠ some (some (V.ref a))
  fx : Ex C.F0 F
  own0 : ∀ a, C.H0 a ≠ none → F a = C.F0 a
  there : ∀ a, C.H0 a ≠ none → H a ≠ none
  keep : ∀ a o, C.H0 a = some o → ¬ C.pa a → H a = some o
/-- what an expression does: the frozen part grows, nothing but the own objects changes, no slot becomes own -/
structure Step (σ : L2.St) (ρ ρ' : Rho) (F H F' H' : Hp) : Prop where
  fx : Ex F F'
  fr : ∀ a o, H a = some o → ¬ OwnA σ ρ a → H' a = some o ∧ F' a = F a
  ow : ∀ i : Nat, isOwn ρ'[i]? = true → isOwn ρ[i]? = true
  th : ∀ a, H a ≠ none → H' a ≠ none
section
variable {C : Ctx} {F H F' H' F1 H1 : Hp} {σ : L2.St} {ρ ρ' ρ1 : Rho} {v : V} {vl : Vl} {x : D}
theorem Step.refl : Step σ ρ ρ F H F H := ⟨.refl _, fun _ _ h _ => ⟨h, rfl⟩, fun _ h => h, fun _ h => h⟩
theorem Step.trans (a : Step σ ρ ρ1 F H F1 H1) (b : Step σ ρ1 ρ' F1 H1 F' H') : Step σ ρ ρ' F H F' H' :=
  ⟨a.fx.trans b.fx, fun q o h n => by
    obtain ⟨h1, e1⟩ := a.fr q o h n
    obtain ⟨h2, e2⟩ := b.fr q o h1 fun ⟨i, w, z⟩ => n ⟨i, a.ow i w, z⟩
    exact ⟨h2, e2.trans e1⟩, fun i h => a.ow i (b.ow i h), fun q h => b.th q (a.th q h)⟩
/-- what a value means -/
def VlOk (C : Ctx) (F : Hp) (σ : L2.St) (ρ : Rho) (v : V) : Vl → Prop
  | .d x => Rep C.K F v x
  | .sl i => σ[i]? = some (some v)
/-- the content -/
def look (ρ : Rho) : Vl → Option D
  | .d x => some x
  | .sl i => match ρ[i]? with
    | some (.own m _) => some m
    | some (.d m) => some m
    | _ => none
/-- v may be read as x -/
def RepH (K : PySem.W.Frag) (F H : Hp) (v : V) (x : D) : Prop := Rep K F v x ∨ ∃ (a : Addr) (o : HO), v = V.ref a ∧ H a = some o ∧ Cont K F o x
theorem VlOk.read (ok : Ok C F H σ ρ) (h : VlOk C F σ ρ v vl) (e : look ρ vl = some x) : RepH C.K F H v x := by
  cases vl with
  | d y => cases e; exact .inl h
  | sl i =>
    have z : σ[i]? = some (some v) := h
    unfold DL.look at e
    cases q : ρ[i]? with
    | none => simp [q] at e
    | some s =>
      cases s with
      | un => simp [q] at e
      | d m =>
        simp [q] at e
        subst e
        obtain ⟨u, z1, r⟩ := ok.sl i _ q
        rw [z] at z1
        cases z1
        exact .inl r
      | own m loc =>
        simp [q] at e
        subst e
        obtain ⟨a, o, z1, _, z2, z3, _⟩ := ok.sl i _ q
        rw [z] at z1
        cases z1
        exact .inr ⟨a, o, rfl, z2, z3⟩
/-- a value stays what it means -/
theorem VlOk.step (h : VlOk C F σ ρ v vl) (s : Step σ ρ ρ' F H F' H') : VlOk C F' σ ρ' v vl := by
  cases vl with
  | d y => exact Rep.ex h s.fx
  | sl i => exact h
/-- a new object, or none -/
structure Alloc (F H F' H' : Hp) : Prop where
  fx : Ex F F'
  hx : Ex H H'
  sub : Ex F H → Ex F' H'
  own : ∀ a, H a ≠ none → F' a = F a
theorem Alloc.refl : Alloc F H F H := ⟨.refl _, .refl _, fun h => h, fun _ _ => rfl⟩
theorem Alloc.trans (a : Alloc F H F1 H1) (b : Alloc F1 H1 F' H') : Alloc F H F' H' :=
  ⟨a.fx.trans b.fx, a.hx.trans b.hx, fun h => b.sub (a.sub h), fun q h => (b.own q (by
    cases e : H q with
    | none => exact absurd e h
    | some o => rw [a.hx q o e]; exact fun z => by cases z)).trans (a.own q h)⟩
theorem Alloc.new {p : Addr} {o : HO} (h : H p = none) (e : Ex F H) : Alloc F H (upd F p o) (upd H p o) :=
  ⟨.new (e.free h), .new h, fun e => e.upd2 h, fun a ha => by rw [upd_ne]; rintro rfl; exact ha h⟩
/-- .. that is not frozen -/
theorem Alloc.raw {p : Addr} {o : HO} (h : H p = none) (e : Ex F H) : Alloc F H F (upd H p o) :=
  ⟨.refl _, .new h, fun e => e.updR (e.free h), fun a ha => rfl⟩
theorem Ok.alloc (ok : Ok C F H σ ρ) (a : Alloc F H F' H') : Ok C F' H' σ ρ where
  sub := a.sub ok.sub
  len := ok.len
  sl := fun i s e => by
    have h := ok.sl i s e
    cases s with
    | un => trivial
    | d x => obtain ⟨u, e1, r⟩ := h; exact ⟨u, e1, r.ex a.fx⟩
    | own m loc =>
      obtain ⟨b, o, e1, e2, e3, c, l⟩ := h
      exact ⟨b, o, e1, by rw [a.own b (by rw [e3]; exact fun z => by cases z)]; exact e2, a.hx _ _ e3, c.ex a.fx, l⟩
  dj := ok.dj
  fx := ok.fx.trans a.fx
  own0 := fun b hb => (a.own b (ok.there b hb)).trans (ok.own0 b hb)
  there := fun b hb => by
    cases e : H b with
    | none => exact absurd e (ok.there b hb)
    | some o => rw [a.hx b o e]; exact fun z => by cases z
  keep := fun b o e n => a.hx _ _ (ok.keep b o e n)
end

/-! ### what an expression means -/
def M.bnd {α β : Type} (m : M α) (f : α → M β) : M β := fun ρ => match m ρ with
  | .ok a r => f a r
  | .exc e r => .exc e r
  | .bad => .bad
/-- an exception's class and dict -/
def XRep (K : PySem.W.Frag) (F H : Hp) (e : Xc) (cls : Value) (d : Option Addr) : Prop :=
  cls = Value.ref e.cls ∧ match e.fs with
    | none => d = none
    | some gs => ∃ (dx : Addr) (fs : List (Str × V)), d = some dx ∧ H dx = some (.xd fs) ∧ fs.map (·.1) = gs.map (·.1) ∧ RepL K F (fs.map (·.2)) (gs.map (·.2))
abbrev XW := L2.St → XK
def Post (C : Ctx) (E : XW) (σ : L2.St) (ρ : Rho) (F H : Hp) {α β : Type} (VR : Hp → Hp → Rho → β → α → Prop) (Q : β → Hp → Prop) : R α → Prop
  | .ok a r => ∀ F' H' b, Ok C F' H' σ r → Step σ ρ r F H F' H' → VR F' H' r b a → Q b H'
  | .exc e r => ∀ F' H' cls d, Ok C F' H' σ r → Ex F F' → XRep C.K F' H' e cls d → E σ cls d H'
  | .bad => False
abbrev PostE (C : Ctx) (E : XW) (σ : L2.St) (ρ : Rho) (F H : Hp) (Q : VK) (r : R Vl) : Prop := Post C E σ ρ F H (fun F' _ r v vl => VlOk C F' σ r v vl) Q r
abbrev PostT (C : Ctx) (E : XW) (σ : L2.St) (ρ : Rho) (F H : Hp) (Q : Bool → Hp → Prop) (r : R Bool) : Prop := Post C E σ ρ F H (fun _ _ _ (b c : Bool) => b = c) Q r
inductive VlsOk (C : Ctx) (F : Hp) (σ : L2.St) (ρ : Rho) : List V → List Vl → Prop
  | nil : VlsOk C F σ ρ [] []
  | cons {v : V} {vs : List V} {x : Vl} {xs : List Vl} : VlOk C F σ ρ v x → VlsOk C F σ ρ vs xs → VlsOk C F σ ρ (v :: vs) (x :: xs)
abbrev PostA (C : Ctx) (E : XW) (σ : L2.St) (ρ : Rho) (F H : Hp) (Q : List V → Hp → Prop) (r : R (List Vl)) : Prop := Post C E σ ρ F H (fun F' _ r vs vls => VlsOk C F' σ r vs vls) Q r
def EvE (K : PySem.W.Frag) (E : XW) (te : TE) (f : M Vl) : Prop := ∀ (C : Ctx) (F H : Hp) (σ : L2.St) (ρ : Rho) (Q : VK), C.K = K → Ok C F H σ ρ → PostE C E σ ρ F H Q (f ρ) → te σ H Q
def EvT (K : PySem.W.Frag) (E : XW) (tt : TT) (f : M Bool) : Prop := ∀ (C : Ctx) (F H : Hp) (σ : L2.St) (ρ : Rho) (Q : Bool → Hp → Prop), C.K = K → Ok C F H σ ρ → PostT C E σ ρ F H Q (f ρ) → tt σ H Q
def EvA (K : PySem.W.Frag) (E : XW) (ta : TA) (f : M (List Vl)) : Prop := ∀ (C : Ctx) (F H : Hp) (σ : L2.St) (ρ : Rho) (Q : List V → Hp → Prop), C.K = K → Ok C F H σ ρ → PostA C E σ ρ F H Q (f ρ) → ta σ H Q
structure PF (X : Cx) (e : Expr) (te : TE) (E : XW) (f : M Vl) : Prop where
  pe : PE X e te
  ev : EvE X.K E te f
structure PFt (X : Cx) (e : Expr) (tt : TT) (E : XW) (f : M Bool) : Prop where
  pt : PT X e tt
  ev : EvT X.K E tt f
structure PFw (X : Cx) (e : Expr) (tt : TT) (E : XW) (f : M Bool) : Prop where
  pw : PW X e tt
  ev : EvT X.K E tt f
structure PFa (X : Cx) (es : List Expr) (ta : TA) (E : XW) (f : M (List Vl)) : Prop where
  pa : PA X es ta
  ev : EvA X.K E ta f

section
variable {C : Ctx} {E : XW} {σ : L2.St} {ρ ρ1 : Rho} {F H F1 H1 : Hp} {α β γ δ : Type} {VR : Hp → Hp → Rho → β → α → Prop} {WR : Hp → Hp → Rho → δ → γ → Prop} {Q : δ → Hp → Prop}
/-- from the post of a sequence: the post of its first part, for the rest's want -/
theorem Post.bnd {m : M α} {f : α → M γ} {Q1 : β → Hp → Prop} (h : Post C E σ ρ F H WR Q (M.bnd m f ρ))
    (k : ∀ a r F' H' b, m ρ = .ok a r → Ok C F' H' σ r → Step σ ρ r F H F' H' → VR F' H' r b a → Post C E σ r F' H' WR Q (f a r) → Q1 b H') : Post C E σ ρ F H VR Q1 (m ρ) := by
  unfold M.bnd at h
  cases e : m ρ with
  | bad => rw [e] at h; exact h
  | exc x r => rw [e] at h; exact h
  | ok a r =>
    rw [e] at h
    intro F' H' b ok st vr
    refine k a r F' H' b e ok st vr ?_
    show Post C E σ r F' H' WR Q (f a r)
    have h : Post C E σ ρ F H WR Q (f a r) := h
    cases e2 : f a r with
    | bad => rw [e2] at h; exact h
    | exc x r2 => rw [e2] at h; exact fun F2 H2 cls d ok2 ex2 xr => h F2 H2 cls d ok2 (st.fx.trans ex2) xr
    | ok c r2 =>
      rw [e2] at h
      exact fun F2 H2 d ok2 st2 wr => h F2 H2 d ok2 (st.trans st2) wr
theorem Post.pure {a : α} {b : β} {Q : β → Hp → Prop} (ok : Ok C F H σ ρ) (vr : VR F H ρ b a) (h : Post C E σ ρ F H VR Q (.ok a ρ)) : Q b H := h F H b ok .refl vr
end
theorem Step.of_alloc {σ : L2.St} {ρ : Rho} {F H F' H' : Hp} (a : Alloc F H F' H') : Step σ ρ ρ F H F' H' :=
  ⟨a.fx, fun b o h _ => ⟨a.hx _ _ h, a.own b (by rw [h]; exact fun z => by cases z)⟩, fun _ h => h, fun b hb => by
    cases e : H b with
    | none => exact absurd e hb
    | some o => rw [a.hx b o e]; exact fun z => by cases z⟩

/-! ### primitive operations -/
/-- r, of two values that may be read as a and b, gives what means g a b -/
def P2 (K : PySem.W.Frag) (r : R2) (g : D → D → Option D) : Prop := ∀ (F H : Hp) (v w : V) (a b z : D) (Q : VK), Ex F H → RepH K F H v a → RepH K F H w b → g a b = some z →
  (∀ F' H' u, Alloc F H F' H' → Rep K F' u z → Q u H') → r v w H Q
def P1 (K : PySem.W.Frag) (r : V → Hp → VK → Prop) (g : D → Option D) : Prop := ∀ (F H : Hp) (v : V) (a z : D) (Q : VK), Ex F H → RepH K F H v a → g a = some z →
  (∀ F' H' u, Alloc F H F' H' → Rep K F' u z → Q u H') → r v H Q
def lift2 (g : D → D → Option D) (x y : Vl) : M Vl := fun ρ => match look ρ x, look ρ y with
  | some a, some b => match g a b with
    | some z => .ok (.d z) ρ
    | none => .bad
  | _, _ => .bad
def lift1 (g : D → Option D) (x : Vl) : M Vl := fun ρ => match look ρ x with
  | some a => match g a with
    | some z => .ok (.d z) ρ
    | none => .bad
  | _ => .bad
def fOp (g : D → D → Option D) (fa fb : M Vl) : M Vl := M.bnd fa fun x => M.bnd fb fun y => lift2 g x y
def fUn (g : D → Option D) (fa : M Vl) : M Vl := M.bnd fa fun x => lift1 g x
section
variable {K : PySem.W.Frag} {E : XW} {ta tb : TE} {fa fb : M Vl} {r : R2} {g : D → D → Option D} {C : Ctx} {F H : Hp} {σ : L2.St} {ρ : Rho} {v w : V} {x y : Vl} {Q : VK}
theorem VlOk.held (h : VlOk C F σ ρ v x) {ρ' : Rho} {F' H' : Hp} (s : Step σ ρ ρ' F H F' H') (ok : Ok C F' H' σ ρ') {a : D} (e : DL.look ρ' x = some a) : RepH C.K F' H' v a := (h.step s).read ok e
theorem lift2_ok (p : P2 C.K r g) (ok : Ok C F H σ ρ) (hx : ∀ a, look ρ x = some a → RepH C.K F H v a) (hy : ∀ b, look ρ y = some b → RepH C.K F H w b) (h : PostE C E σ ρ F H Q (lift2 g x y ρ)) : r v w H Q := by
  unfold lift2 at h
  cases e1 : look ρ x with
  | none => rw [e1] at h; exact h.elim
  | some a =>
    cases e2 : look ρ y with
    | none => rw [e1, e2] at h; exact h.elim
    | some b =>
      rw [e1, e2] at h
      cases e3 : g a b with
      | none => simp only [e3] at h; exact h.elim
      | some z =>
        simp only [e3] at h
        exact p F H v w a b z Q ok.sub (hx a e1) (hy b e2) e3 fun F' H' u al rp => h F' H' u (ok.alloc al) (.of_alloc al) rp
theorem lift1_ok {r : V → Hp → VK → Prop} {g : D → Option D} (p : P1 C.K r g) (ok : Ok C F H σ ρ) (hx : ∀ a, look ρ x = some a → RepH C.K F H v a) (h : PostE C E σ ρ F H Q (lift1 g x ρ)) : r v H Q := by
  unfold lift1 at h
  cases e1 : look ρ x with
  | none => rw [e1] at h; exact h.elim
  | some a =>
    rw [e1] at h
    cases e3 : g a with
    | none => simp only [e3] at h; exact h.elim
    | some z =>
      simp only [e3] at h
      exact p F H v a z Q ok.sub (hx a e1) e3 fun F' H' u al rp => h F' H' u (ok.alloc al) (.of_alloc al) rp
theorem ev_op (p : P2 K r g) (ha : EvE K E ta fa) (hb : EvE K E tb fb) : EvE K E (tOp r ta tb) (fOp g fa fb) := by
  intro C F H σ ρ Q hK ok h
  subst hK
  refine ha C F H σ ρ _ rfl ok (Post.bnd h fun x r1 F1 H1 v e1 ok1 st1 vo1 h1 => ?_)
  refine hb C F1 H1 σ r1 _ rfl ok1 (Post.bnd h1 fun y r2 F2 H2 w e2 ok2 st2 vo2 h2 => ?_)
  exact lift2_ok p ok2 (fun a e => vo1.held st2 ok2 e) (fun b e => vo2.read ok2 e) h2
theorem ev_un {r : V → Hp → VK → Prop} {g : D → Option D} (p : P1 K r g) (ha : EvE K E ta fa) : EvE K E (tUn r ta) (fUn g fa) := by
  intro C F H σ ρ Q hK ok h
  subst hK
  refine ha C F H σ ρ _ rfl ok (Post.bnd h fun x r1 F1 H1 v e1 ok1 st1 vo1 h1 => ?_)
  exact lift1_ok p ok1 (fun a e => vo1.read ok1 e) h1
end
end DL

namespace DL
open PySem PySem.Spec PyProof.Rows L2

section
variable {K : PySem.W.Frag} {F H F' H' : Hp} {v : V} {vs : List V} {xs : List D}
theorem Rep.up (h : Rep K F v x) (e : Ex F H) : Rep K H v x := h.ex e
theorem RepH.up {x : D} (e : Ex F H) (h : RepH K F H v x) (e' : Ex F F') (h' : Ex H H') : RepH K F' H' v x := by
  rcases h with h | ⟨a, o, rfl, ha, c⟩
  · exact .inl (h.ex e')
  · exact .inr ⟨a, o, rfl, h' _ _ ha, c.ex e'⟩
theorem RepH.int {i : Int} (h : RepH K F H v (.int i)) : v = .int i := by
  rcases h with h | ⟨a, o, rfl, _, c⟩
  · cases h; rfl
  · cases c
theorem RepH.bl {b : Bool} (h : RepH K F H v (.bl b)) : v = .bl b := by
  rcases h with h | ⟨a, o, rfl, _, c⟩
  · cases h; rfl
  · cases c
theorem RepH.str {x : Str} (h : RepH K F H v (.str x)) : v = .str x := by
  rcases h with h | ⟨a, o, rfl, _, c⟩
  · cases h; rfl
  · cases c
theorem RepH.non (h : RepH K F H v .non) : v = .non := by
  rcases h with h | ⟨a, o, rfl, _, c⟩
  · cases h; rfl
  · cases c
theorem RepH.ty {n : String} (h : RepH K F H v (.ty n)) : v = .ty n := by
  rcases h with h | ⟨a, o, rfl, _, c⟩
  · cases h; rfl
  · cases c
theorem RepH.refl_ref {a : Addr} (h : RepH K F H v (.ref a)) : v = .ref a := by
  rcases h with h | ⟨a, o, rfl, _, c⟩
  · cases h; rfl
  · cases c
theorem RepH.lst (e : Ex F H) (h : RepH K F H v (.lst xs)) : ∃ a vs, v = .ref a ∧ H a = some (.lst vs) ∧ RepL K F vs xs := by
  rcases h with h | ⟨a, o, rfl, ha, c⟩
  · cases h with
    | lst h r => exact ⟨_, _, rfl, e _ _ h, r⟩
  · cases c with
    | lst r => exact ⟨a, _, rfl, ha, r⟩
theorem RepH.scr (e : Ex F H) (h : RepH K F H v (.scr xs)) : ∃ a vs, v = .ref a ∧ SqL K H a vs ∧ RepL K F vs xs := by
  rcases h with h | ⟨a, o, rfl, ha, c⟩
  · cases h with
    | scr h r => exact ⟨_, _, rfl, e.le.l h, r⟩
  · cases c
/-- a list of any kind, to be read -/
theorem RepH.seq (e : Ex F H) (h : RepH K F H v (.lst xs) ∨ RepH K F H v (.scr xs)) : ∃ a vs, v = .ref a ∧ SqL K H a vs ∧ RepL K F vs xs := by
  rcases h with h | h
  · obtain ⟨a, vs, e1, e2, r⟩ := h.lst e
    exact ⟨a, vs, e1, SqL.of e2, r⟩
  · exact h.scr e
theorem RepH.tupX (h : RepH K F H v (.tup xs)) : ∃ a vs, v = .ref a ∧ F a = some (.tup vs) ∧ RepL K F vs xs := by
  rcases h with h | ⟨a, o, rfl, ha, c⟩
  · cases h with
    | tup h r => exact ⟨_, _, rfl, h, r⟩
  · cases c
theorem RepH.tup (e : Ex F H) (h : RepH K F H v (.tup xs)) : ∃ a vs, v = .ref a ∧ SqT K H a vs ∧ RepL K F vs xs := by
  obtain ⟨a, vs, e1, h1, r⟩ := h.tupX
  exact ⟨a, vs, e1, SqT.of (e _ _ h1), r⟩
theorem RepH.tupF (h : RepH K F H v (.tup xs)) : ∃ a vs, v = .ref a ∧ SqT K F a vs ∧ RepL K F vs xs := by
  obtain ⟨a, vs, e1, h1, r⟩ := h.tupX
  exact ⟨a, vs, e1, SqT.of h1, r⟩
theorem RepH.dK {xs : List (Key × D)} (e : Ex F H) (h : RepH K F H v (.dK xs)) : ∃ a kvs, v = .ref a ∧ Rd H a (.dK kvs) ∧ kvs.map (·.1) = xs.map (·.1) ∧ RepL K F (kvs.map (·.2)) (xs.map (·.2)) := by
  rcases h with h | ⟨a, o, rfl, ha, c⟩
  · cases h with
    | dK h k r => exact ⟨_, _, rfl, e.le _ _ h, k, r⟩
  · cases c with
    | dK k r => exact ⟨a, _, rfl, .inl ha, k, r⟩
theorem RepH.dT {xs : List (List Key × D)} (e : Ex F H) (h : RepH K F H v (.dT xs)) : ∃ a kvs, v = .ref a ∧ Rd H a (.dT kvs) ∧ kvs.map (·.1) = xs.map (·.1) ∧ RepL K F (kvs.map (·.2)) (xs.map (·.2)) := by
  rcases h with h | ⟨a, o, rfl, ha, c⟩
  · cases h with
    | dT h k r => exact ⟨_, _, rfl, e.le _ _ h, k, r⟩
  · cases c with
    | dT k r => exact ⟨a, _, rfl, .inl ha, k, r⟩
theorem RepH.ins {C : Addr} {gs : List (Str × D)} (e : Ex F H) (h : RepH K F H v (.ins C gs)) : ∃ a dx fs, v = .ref a ∧ H a = some (.ins C dx fs) ∧ Cls K C ∧ (∀ g ∈ gs, NoAttr K C g.1) ∧ fs.map (·.1) = gs.map (·.1) ∧ RepL K F (fs.map (·.2)) (gs.map (·.2)) := by
  rcases h with h | ⟨a, o, rfl, ha, c⟩
  · cases h with
    | ins h c n k r => exact ⟨_, _, _, rfl, e _ _ h, c, n, k, r⟩
  · cases c with
    | ins c n k r => exact ⟨a, _, _, rfl, ha, c, n, k, r⟩
/-- a value looked up by its key, in both -/
theorem look_of {κ : Type} [BEq κ] : ∀ {fs : List (κ × V)} {gs : List (κ × D)} {k : κ}, fs.map (·.1) = gs.map (·.1) → RepL K F (fs.map (·.2)) (gs.map (·.2)) →
    (fs.lookup k = none ∧ gs.lookup k = none) ∨ ∃ v x, fs.lookup k = some v ∧ gs.lookup k = some x ∧ Rep K F v x
  | [], [], _, _, _ => .inl ⟨rfl, rfl⟩
  | [], _ :: _, _, e, _ => by simp at e
  | _ :: _, [], _, e, _ => by simp at e
  | (a, v) :: fs, (b, x) :: gs, k, e, r => by
    simp only [List.map_cons, List.cons.injEq] at e r
    obtain ⟨e1, e2⟩ := e
    subst e1
    cases r with
    | cons r t =>
      by_cases h : (k == a) = true
      · exact .inr ⟨v, x, by simp [List.lookup, h], by simp [List.lookup, h], r⟩
      · have h' : (k == a) = false := by simpa using h
        rcases look_of (k := k) e2 t with ⟨h1, h2⟩ | ⟨v', x', h1, h2, h3⟩
        · exact .inl ⟨by simp [List.lookup, h', h1], by simp [List.lookup, h', h2]⟩
        · exact .inr ⟨v', x', by simp [List.lookup, h', h1], by simp [List.lookup, h', h2], h3⟩
end

/-! ### names and constants -/
def fVar (i : Nat) : M Vl := fun ρ => match ρ[i]? with
  | some (.d x) => .ok (.d x) ρ
  | some (.own _ _) => .ok (.sl i) ρ
  | _ => .bad
def fC (x : D) : M Vl := fun ρ => .ok (.d x) ρ
section
variable {K : PySem.W.Frag} {E : XW} {i : Nat}
theorem ev_var : EvE K E (tVar i) (fVar i) := by
  intro C F H σ ρ Q hK ok h
  unfold fVar at h
  cases e : ρ[i]? with
  | none => rw [e] at h; exact h.elim
  | some s =>
    rw [e] at h
    cases s with
    | un => exact h.elim
    | d x =>
      obtain ⟨u, e1, r⟩ := ok.sl i _ e
      exact ⟨u, e1, h F H u ok .refl r⟩
    | own m loc =>
      obtain ⟨a, o, e1, _⟩ := ok.sl i _ e
      exact ⟨.ref a, e1, h F H (.ref a) ok .refl e1⟩
theorem ev_c {v : V} {x : D} (hr : ∀ F, Rep K F v x) : EvE K E (tC v) (fC x) := by
  intro C F H σ ρ Q hK ok h
  subst hK
  exact h F H v ok .refl (hr F)
end
section
variable {X : Cx} {E : XW} {pos : Pos}
theorem pf_var (i : Nat) {x : Str} (hN : X.N[i]? = some x := by rfl) (hv : Vis X.env.scope x := by first | exact Or.inl rfl | exact Or.inr (Or.inl rfl) | exact Or.inr (Or.inr rfl)) (hd : (x == ("__debug__" : Str)) = false := by decide)
    (hcd : (x == ("__classdict__" : Str)) = false := by decide) : PF X (.Name x pos) (tVar i) E (fVar i) := ⟨pe_var hN hv hd hcd, ev_var⟩
theorem pf_int {i : Int} {j : Nat} : PF X (.Constant (.int i) j pos) (tC (.int i)) E (fC (.int i)) := ⟨pe_int, ev_c fun _ => .int i⟩
theorem pf_bl {b : Bool} {j : Nat} : PF X (.Constant (.bool b) j pos) (tC (.bl b)) E (fC (.bl b)) := ⟨pe_bl, ev_c fun _ => .bl b⟩
theorem pf_non {j : Nat} : PF X (.Constant .none j pos) (tC .non) E (fC .non) := ⟨pe_non, ev_c fun _ => .non⟩
theorem pf_str {x : Str} {j : Nat} : PF X (.Constant (.str x) j pos) (tC (.str x)) E (fC (.str x)) := ⟨pe_str, ev_c fun _ => .str x⟩
theorem pf_glob {x : Str} {u : Value} {v : V} {y : D} (hm : X.mg x = some u) (r : RelV v u) (hr : ∀ F, Rep X.K F v y) (hg : Gl X x := by rfl) (hd : (x == ("__debug__" : Str)) = false := by decide) : PF X (.Name x pos) (tC v) E (fC y) :=
  ⟨pe_glob hg hm r hd, ev_c hr⟩
/-- a built-in type's name, as a value -/
theorem pf_ty {x : Str} {n : String} (hm : X.mg x = none) (hv : bootBuiltins x = some (.type n) := by decide +kernel) (hg : Gl X x := by rfl) (hn : x ≠ "__name__" := by decide) (hd : (x == ("__debug__" : Str)) = false := by decide) : PF X (.Name x pos) (tC (.ty n)) E (fC (.ty n)) :=
  ⟨pe_bltn (v := .ty n) hg hm hv rfl hn hd, ev_c fun _ => .ty n⟩
theorem pf_op {a b : Expr} {ta tb : TE} {fa fb : M Vl} {op : Operator} {r : R2} {g : D → D → Option D} (ho : OpR X (binaryOp op) r) (p : P2 X.K r g) (ha : PF X a ta E fa) (hb : PF X b tb E fb) : PF X (.BinOp a op b pos) (tOp r ta tb) E (fOp g fa fb) :=
  ⟨pe_op ho ha.pe hb.pe, ev_op p ha.ev hb.ev⟩
theorem pf_un {a : Expr} {ta : TE} {fa : M Vl} {op : UnaryOp} {r : V → Hp → VK → Prop} {g : D → Option D} (ho : UnR X (unaryOp op) r) (p : P1 X.K r g) (ha : PF X a ta E fa) : PF X (.UnaryOp op a pos) (tUn r ta) E (fUn g fa) :=
  ⟨pe_un ho ha.pe, ev_un p ha.ev⟩
theorem pf_cmp {a b : Expr} {ta tb : TE} {fa fb : M Vl} {op : CmpOp} {r : R2} {g : D → D → Option D} (ho : OpR X (compareOp op) r) (p : P2 X.K r g) (ha : PF X a ta E fa) (hb : PF X b tb E fb) (hm : behindInMarks op b = false := by first | exact nobehind _ (by decide) (by decide) | rfl) :
    PF X (.Compare a [op] [b] pos) (tOp r ta tb) E (fOp g fa fb) := ⟨pe_cmpR ho ha.pe hb.pe hm, ev_op p ha.ev hb.ev⟩
end

/-! ### arguments -/
def fNil : M (List Vl) := fun ρ => .ok [] ρ
def fCons (fa : M Vl) (fr : M (List Vl)) : M (List Vl) := M.bnd fa fun x => M.bnd fr fun xs ρ => .ok (x :: xs) ρ
section
variable {K : PySem.W.Frag} {E : XW} {ta : TE} {tr : TA} {fa : M Vl} {fr : M (List Vl)}
theorem VlsOk.step {C : Ctx} {F H F' H' : Hp} {σ : L2.St} {ρ ρ' : Rho} (s : Step σ ρ ρ' F H F' H') : ∀ {vs : List V} {xs : List Vl}, VlsOk C F σ ρ vs xs → VlsOk C F' σ ρ' vs xs
  | _, _, .nil => .nil
  | _, _, .cons h t => .cons (h.step s) (VlsOk.step s t)
theorem ev_nil : EvA K E tNil fNil := fun C F H σ ρ Q hK ok h => h F H [] ok .refl .nil
theorem ev_cons (ha : EvE K E ta fa) (hr : EvA K E tr fr) : EvA K E (tCons ta tr) (fCons fa fr) := by
  intro C F H σ ρ Q hK ok h
  subst hK
  refine ha C F H σ ρ _ rfl ok (Post.bnd h fun x r1 F1 H1 v e1 ok1 st1 vo1 h1 => ?_)
  refine hr C F1 H1 σ r1 _ rfl ok1 (Post.bnd h1 fun xs r2 F2 H2 vs e2 ok2 st2 vo2 h2 => ?_)
  exact h2 F2 H2 (v :: vs) ok2 .refl (.cons (vo1.step st2) vo2)
end
section
variable {X : Cx} {E : XW} {pos : Pos} {e : Expr} {es : List Expr} {te : TE} {t : TA} {fa : M Vl} {fr : M (List Vl)}
theorem pfa_nil : PFa X [] tNil E fNil := ⟨pa_nil, ev_nil⟩
theorem pfa_cons (ha : PF X e te E fa) (hr : PFa X es t E fr) (hs : starEach (e :: es) X.env = (false, eval e X.env) :: starEach es X.env := by rfl) : PFa X (e :: es) (tCons te t) E (fCons fa fr) := ⟨pa_cons ha.pe hr.pa hs, ev_cons ha.ev hr.ev⟩
end

/-! ### freezing -/
def fz (x : Vl) : M D := fun ρ => match x with
  | .d x => .ok x ρ
  | .sl i => match ρ[i]? with
    | some (.d m) => .ok m ρ
    | some (.own m true) => .ok m (ρ.set i (.d m))
    | _ => .bad
def fzL : List Vl → M (List D)
  | [] => fun ρ => .ok [] ρ
  | x :: xs => M.bnd (fz x) fun y => M.bnd (fzL xs) fun ys ρ => .ok (y :: ys) ρ
theorem Cont.rep {K : PySem.W.Frag} {F : Hp} {a : Addr} {o : HO} {x : D} (h : F a = some o) (c : Cont K F o x) : Rep K F (.ref a) x := by
  cases c with
  | lst r => exact .lst h r
  | dK k r => exact .dK (.inl h) k r
  | dT k r => exact .dT (.inl h) k r
  | ins c n k r => exact .ins h c n k r
section
variable {C : Ctx} {F H F' H' : Hp} {σ : L2.St} {ρ ρ' : Rho} {v : V} {m : D} {i : Nat}
theorem get_set {α : Type} {l : List α} {i j : Nat} {x y : α} (h : (l.set i x)[j]? = some y) : (j = i ∧ y = x) ∨ (j ≠ i ∧ l[j]? = some y) := by
  by_cases e : i = j
  · subst e
    by_cases hl : i < l.length
    · rw [List.getElem?_set_self hl] at h
      cases h; exact .inl ⟨rfl, rfl⟩
    · rw [List.getElem?_eq_none (by simpa using hl)] at h; cases h
  · rw [List.getElem?_set_ne e] at h
    exact .inr ⟨fun z => e z.symm, h⟩
theorem own_set {ρ : Rho} {i j : Nat} {x : D} (h : isOwn (ρ.set i (.d x))[j]? = true) : j ≠ i ∧ isOwn ρ[j]? = true := by
  cases e : (ρ.set i (Sl.d x))[j]? with
  | none => rw [e] at h; cases h
  | some s =>
    rw [e] at h
    rcases get_set e with ⟨e1, e2⟩ | ⟨e1, e2⟩
    · subst e2; cases h
    · exact ⟨e1, by rw [e2]; exact h⟩
theorem Ok.freeze (ok : Ok C F H σ ρ) (h : ρ[i]? = some (.own m true)) : ∃ (a : Addr) (o : HO), σ[i]? = some (some (V.ref a)) ∧ H a = some o ∧ Rep C.K (upd F a o) (.ref a) m ∧ Ok C (upd F a o) H σ (ρ.set i (.d m)) ∧ Step σ ρ (ρ.set i (.d m)) F H (upd F a o) H := by
  obtain ⟨a, o, e1, e2, e3, c, l⟩ := ok.sl i _ h
  have l : C.H0 a = none := by simpa using l
  have ex : Ex F (upd F a o) := .new e2
  have rp : Rep C.K (upd F a o) (.ref a) m := Cont.rep upd_same (c.ex ex)
  have ne : ∀ b, b ≠ a → upd F a o b = F b := fun b hb => upd_ne hb
  refine ⟨a, o, e1, e3, rp, ⟨fun b u q => ?_, by rw [List.length_set]; exact ok.len, fun j s e => ?_, fun j k b hjk h1 h2 => ok.dj j k b hjk (own_set h1).2 (own_set h2).2, ok.fx.trans ex, fun b hb => ?_, ok.there, ok.keep⟩,
    ex, fun b u q n => ⟨q, ?_⟩, fun j hj => (own_set hj).2, fun _ h => h⟩
  · by_cases hb : b = a
    · subst hb; rw [upd_same] at q; cases q; exact e3
    · rw [ne b hb] at q; exact ok.sub _ _ q
  · rcases get_set e with ⟨rfl, rfl⟩ | ⟨hj, e⟩
    · exact ⟨_, e1, rp⟩
    · have z := ok.sl j _ e
      cases s with
      | un => trivial
      | d x => obtain ⟨u, w1, r⟩ := z; exact ⟨u, w1, r.ex ex⟩
      | own m' loc =>
        obtain ⟨b, o', w1, w2, w3, w4, w5⟩ := z
        have hb : b ≠ a := fun q => by
          subst q
          exact ok.dj i j b (Ne.symm hj) (by rw [h]; rfl) (by rw [e]; rfl) e1 w1
        exact ⟨b, o', w1, by rw [ne b hb]; exact w2, w3, w4.ex ex, w5⟩
  · have hb' : b ≠ a := fun q => by subst q; exact hb l
    rw [ne b hb']; exact ok.own0 b hb
  · have hb : b ≠ a := fun z => n ⟨i, by rw [h]; rfl, by rw [z]; exact e1⟩
    exact ne b hb
theorem fz_ok {x : Vl} {y : D} (ok : Ok C F H σ ρ) (h : VlOk C F σ ρ v x) (e : fz x ρ = .ok y ρ') : ∃ F', Ok C F' H σ ρ' ∧ Step σ ρ ρ' F H F' H ∧ Rep C.K F' v y := by
  cases x with
  | d x => cases e; exact ⟨F, ok, .refl, h⟩
  | sl i =>
    have z : σ[i]? = some (some v) := h
    unfold fz at e
    cases q : ρ[i]? with
    | none => simp [q] at e
    | some s =>
      cases s with
      | un => simp [q] at e
      | d m =>
        simp [q] at e
        obtain ⟨rfl, rfl⟩ := e
        obtain ⟨u, w1, r⟩ := ok.sl i _ q
        rw [z] at w1; cases w1
        exact ⟨F, ok, .refl, r⟩
      | own m loc =>
        cases loc with
        | false => simp [q] at e
        | true =>
          simp [q] at e
          obtain ⟨rfl, rfl⟩ := e
          obtain ⟨a, o, w1, _, rp, ok', st⟩ := ok.freeze q
          rw [z] at w1; cases w1
          exact ⟨_, ok', st, rp⟩
theorem fz_noexc {x : Vl} {e : Xc} {r : Rho} : fz x ρ ≠ .exc e r := by
  cases x with
  | d x => intro h; cases h
  | sl i =>
    unfold fz
    cases q : ρ[i]? with
    | none => simp [q]
    | some s => cases s with
      | un => simp [q]
      | d m => simp [q]
      | own m loc => cases loc <;> simp [q]
theorem fzL_ok : ∀ {vs : List V} {xs : List Vl} {ys : List D} {ρ ρ' : Rho} {F : Hp}, Ok C F H σ ρ → VlsOk C F σ ρ vs xs → fzL xs ρ = .ok ys ρ' → ∃ F', Ok C F' H σ ρ' ∧ Step σ ρ ρ' F H F' H ∧ RepL C.K F' vs ys
  | _, _, _, _, _, _, ok, .nil, e => by cases e; exact ⟨_, ok, .refl, .nil⟩
  | _, _, _, ρ, ρ', _, ok, .cons (x := x) (xs := xs) h t, e => by
    unfold fzL M.bnd at e
    cases e1 : fz x ρ with
    | bad => rw [e1] at e; cases e
    | exc q r => exact absurd e1 fz_noexc
    | ok y r1 =>
      rw [e1] at e
      obtain ⟨F1, ok1, st1, rp1⟩ := fz_ok ok h e1
      simp only at e
      cases e2 : fzL xs r1 with
      | bad => rw [e2] at e; cases e
      | exc q r => rw [e2] at e; cases e
      | ok ys r2 =>
        rw [e2] at e
        cases e
        obtain ⟨F2, ok2, st2, rp2⟩ := fzL_ok ok1 (t.step st1) e2
        exact ⟨F2, ok2, st1.trans st2, .cons (rp1.ex st2.fx) rp2⟩
theorem fzL_noexc : ∀ {xs : List Vl} {ρ : Rho} {e : Xc} {r : Rho}, fzL xs ρ ≠ .exc e r
  | [], ρ, e, r => by intro h; cases h
  | x :: xs, ρ, e, r => by
    unfold fzL M.bnd
    cases e1 : fz x ρ with
    | bad => simp
    | exc q r => exact absurd e1 fz_noexc
    | ok y r1 =>
      simp only
      cases e2 : fzL xs r1 with
      | bad => simp
      | exc q r => exact absurd e2 fzL_noexc
      | ok ys r2 => simp
end

/-! ### displays -/
def fTup (fa : M (List Vl)) : M Vl := M.bnd fa fun xs => M.bnd (fzL xs) fun ys ρ => if ys.length ≤ 1000 then .ok (.d (.tup ys)) ρ else .bad
def fLst (fa : M (List Vl)) : M Vl := M.bnd fa fun xs => M.bnd (fzL xs) fun ys ρ => if ys.length ≤ 1000 then .ok (.d (.lst ys)) ρ else .bad
section
variable {K : PySem.W.Frag} {E : XW} {ta : TA} {fa : M (List Vl)}
theorem line1000 {n : Nat} (h : n ≤ 1000) : n ≤ sizeLine := Nat.le_trans h (by decide)
theorem ev_tup (ha : EvA K E ta fa) : EvE K E (tTup ta) (fTup fa) := by
  intro C F H σ ρ Q hK ok h
  subst hK
  refine ha C F H σ ρ _ rfl ok (Post.bnd h fun xs r1 F1 H1 vs e1 ok1 st1 vo1 h1 => ?_)
  cases e2 : fzL xs r1 with
  | bad => unfold M.bnd at h1; rw [e2] at h1; exact h1.elim
  | exc q r => exact absurd e2 fzL_noexc
  | ok ys r2 =>
    unfold M.bnd at h1
    rw [e2] at h1
    obtain ⟨F2, ok2, st2, rp⟩ := fzL_ok ok1 vo1 e2
    by_cases hl : ys.length ≤ 1000
    · simp only [hl, if_true] at h1
      refine ⟨by rw [rp.length]; exact line1000 hl, fun p hp => ?_⟩
      have al : Alloc F2 H1 (upd F2 p (.tup vs)) (upd H1 p (.tup vs)) := .new hp ok2.sub
      exact h1 _ _ _ (ok2.alloc al) (st2.trans (.of_alloc al)) (.tup upd_same (rp.ex al.fx))
    · simp only [hl, if_false] at h1
      exact h1.elim
theorem ev_lst (ha : EvA K E ta fa) : EvE K E (tLst ta) (fLst fa) := by
  intro C F H σ ρ Q hK ok h
  subst hK
  refine ha C F H σ ρ _ rfl ok (Post.bnd h fun xs r1 F1 H1 vs e1 ok1 st1 vo1 h1 => ?_)
  cases e2 : fzL xs r1 with
  | bad => unfold M.bnd at h1; rw [e2] at h1; exact h1.elim
  | exc q r => exact absurd e2 fzL_noexc
  | ok ys r2 =>
    unfold M.bnd at h1
    rw [e2] at h1
    obtain ⟨F2, ok2, st2, rp⟩ := fzL_ok ok1 vo1 e2
    by_cases hl : ys.length ≤ 1000
    · simp only [hl, if_true] at h1
      refine ⟨by rw [rp.length]; exact line1000 hl, fun p hp => ?_⟩
      have al : Alloc F2 H1 (upd F2 p (.lst vs)) (upd H1 p (.lst vs)) := .new hp ok2.sub
      exact h1 _ _ _ (ok2.alloc al) (st2.trans (.of_alloc al)) (.lst upd_same (rp.ex al.fx))
    · simp only [hl, if_false] at h1
      exact h1.elim
end
section
variable {X : Cx} {E : XW} {pos : Pos} {es : List Expr} {t : TA} {fr : M (List Vl)}
theorem pf_tup {x1 : Nat} (h : PFa X es t E fr) : PF X (.Tuple es x1 pos) (tTup t) E (fTup fr) := ⟨pe_tup h.pa, ev_tup h.ev⟩
theorem pf_lst (h : PFa X es t E fr) : PF X (.List es pos) (tLst t) E (fLst fr) := ⟨pe_lst h.pa, ev_lst h.ev⟩
end

/-! ### tests -/
def truD : D → Option Bool
  | .non => some false
  | .bl b => some b
  | .int i => some (i != 0)
  | .str x => if x.length ≤ 1000000 then some ((x.length : Int) != 0) else none
  | .tup xs => some (!xs.isEmpty)
  | .lst xs => some (!xs.isEmpty)
  | _ => none
def fTru (fa : M Vl) : M Bool := M.bnd fa fun x ρ => match look ρ x with
  | some a => match truD a with
    | some b => .ok b ρ
    | none => .bad
  | none => .bad
def fB (fa : M Vl) : M Bool := M.bnd fa fun x ρ => match look ρ x with
  | some (.bl b) => .ok b ρ
  | _ => .bad
def fAndT (fa fb : M Bool) : M Bool := M.bnd fa fun a => if a = true then fb else fun ρ => .ok false ρ
def fOrT (fa fb : M Bool) : M Bool := M.bnd fa fun a => if a = true then (fun ρ => .ok true ρ) else fb
def fNotT (fa : M Bool) : M Bool := M.bnd fa fun a ρ => .ok (!a) ρ
def fAndV (fa fb : M Vl) : M Vl := M.bnd (fB fa) fun a => if a = true then fb else fC (.bl false)
def fOrV (fa fb : M Vl) : M Vl := M.bnd (fB fa) fun a => if a = true then fC (.bl true) else fb
def fNotV (fa : M Vl) : M Vl := M.bnd (fB fa) fun a => fC (.bl (!a))
def fIf (ft : M Bool) (fa fb : M Vl) : M Vl := M.bnd ft fun c => if c = true then fa else fb
section
variable {K : PySem.W.Frag} {E : XW} {ta tb : TE} {fa fb : M Vl} {t u : TT} {ft fu : M Bool}
theorem isEmpty_rep {F : Hp} {vs : List V} {xs : List D} (r : RepL K F vs xs) : vs.isEmpty = xs.isEmpty := by
  cases r <;> rfl
theorem truV_of {F H : Hp} {v : V} {a : D} {b : Bool} (e : Ex F H) (h : RepH K F H v a) (hb : truD a = some b) : TruV K v H b := by
  cases a with
  | non => cases h.non; cases hb; rfl
  | bl c => cases h.bl; cases hb; rfl
  | int i => cases h.int; cases hb; rfl
  | str x =>
    cases h.str
    unfold truD at hb
    by_cases hx : x.length ≤ 1000000
    · simp only [hx, if_true, Option.some.injEq] at hb
      exact ⟨Nat.le_trans hx (by decide), hb.symm⟩
    · simp only [hx, if_false] at hb; cases hb
  | tup xs =>
    obtain ⟨a, vs, rfl, q, r⟩ := h.tup e
    cases hb
    exact .inr (.inl ⟨vs, q, by rw [isEmpty_rep r]⟩)
  | lst xs =>
    obtain ⟨a, vs, rfl, q, r⟩ := h.lst e
    cases hb
    exact .inl ⟨vs, SqL.of q, by rw [isEmpty_rep r]⟩
  | _ => cases hb
def tTruK (K : PySem.W.Frag) (ta : TE) : TT := fun σ H Q => ta σ H fun x H' => ∃ k, TruV K x H' k ∧ Q k H'
theorem ev_tru (ha : EvE K E ta fa) : EvT K E (tTruK K ta) (fTru fa) := by
  intro C F H σ ρ Q hK ok h
  subst hK
  refine ha C F H σ ρ _ rfl ok (Post.bnd h fun x r1 F1 H1 v e1 ok1 st1 vo1 h1 => ?_)
  cases e2 : look r1 x with
  | none => simp only [e2] at h1; exact h1.elim
  | some a =>
    simp only [e2] at h1
    cases e3 : truD a with
    | none => simp only [e3] at h1; exact h1.elim
    | some b =>
      simp only [e3] at h1
      exact ⟨b, truV_of ok1.sub (vo1.read ok1 e2) e3, h1 F1 H1 b ok1 .refl rfl⟩
theorem fB_ok {C : Ctx} {F H : Hp} {σ : L2.St} {ρ : Rho} {v : V} {x : Vl} {b : Bool} (ok : Ok C F H σ ρ) (h : VlOk C F σ ρ v x) (e : look ρ x = some (.bl b)) : v = .bl b := (h.read ok e).bl
/-- the value is a bool: what follows with it -/
theorem ev_b {α β : Type} {VR : Hp → Hp → Rho → β → α → Prop} {Q : β → Hp → Prop} (ha : EvE K E ta fa) {C : Ctx} {F H : Hp} {σ : L2.St} {ρ : Rho} {k : Bool → M α} (hK : C.K = K) (ok : Ok C F H σ ρ) (h : Post C E σ ρ F H VR Q (M.bnd (fB fa) k ρ)) {Q1 : VK}
    (q : ∀ b r F1 H1, Ok C F1 H1 σ r → Step σ ρ r F H F1 H1 → Post C E σ r F1 H1 VR Q (k b r) → Q1 (.bl b) H1) : ta σ H Q1 := by
  subst hK
  have h' : Post C E σ ρ F H VR Q (M.bnd fa (fun x => M.bnd (fun ρ => match look ρ x with | some (.bl b) => R.ok b ρ | _ => .bad) k) ρ) := by
    have e : M.bnd (fB fa) k ρ = M.bnd fa (fun x => M.bnd (fun ρ => match look ρ x with | some (.bl b) => R.ok b ρ | _ => .bad) k) ρ := by
      unfold fB M.bnd
      cases fa ρ with
      | bad => rfl
      | exc e r => rfl
      | ok a r => rfl
    rw [← e]; exact h
  refine ha C F H σ ρ _ rfl ok (Post.bnd h' fun x r1 F1 H1 v e1 ok1 st1 vo1 h1 => ?_)
  unfold M.bnd at h1
  cases e2 : look r1 x with
  | none => simp only [e2] at h1; exact h1.elim
  | some a =>
    cases a with
    | bl b =>
      simp only [e2] at h1
      rw [fB_ok ok1 vo1 e2]
      exact q b r1 F1 H1 ok1 st1 h1
    | _ => simp only [e2] at h1; exact h1.elim
theorem M.bnd_pure {α : Type} (m : M α) (ρ : Rho) : M.bnd m (fun a ρ => .ok a ρ) ρ = m ρ := by
  unfold M.bnd; cases m ρ <;> rfl
theorem ev_B (ha : EvE K E ta fa) : EvT K E (tB ta) (fB fa) := by
  intro C F H σ ρ Q hK ok h
  refine ev_b (VR := fun _ _ _ (b c : Bool) => b = c) (Q := Q) (k := fun a ρ => .ok a ρ) ha hK ok (by rw [M.bnd_pure]; exact h) fun b r F1 H1 ok1 st1 h1 => ⟨b, rfl, h1 F1 H1 b ok1 .refl rfl⟩
theorem ev_test (ha : EvE K E ta fa) : EvT K E (tTest ta) (fB fa) := ev_B ha
theorem ev_andT (ha : EvT K E t ft) (hb : EvT K E u fu) : EvT K E (tAnd t u) (fAndT ft fu) := by
  intro C F H σ ρ Q hK ok h
  subst hK
  refine ha C F H σ ρ _ rfl ok (Post.bnd h fun a r1 F1 H1 b e1 ok1 st1 vo1 h1 => ?_)
  cases vo1
  cases a with
  | true => exact hb C F1 H1 σ r1 Q rfl ok1 h1
  | false => exact h1 F1 H1 false ok1 .refl rfl
theorem ev_orT (ha : EvT K E t ft) (hb : EvT K E u fu) : EvT K E (tOr t u) (fOrT ft fu) := by
  intro C F H σ ρ Q hK ok h
  subst hK
  refine ha C F H σ ρ _ rfl ok (Post.bnd h fun a r1 F1 H1 b e1 ok1 st1 vo1 h1 => ?_)
  cases vo1
  cases a with
  | false => exact hb C F1 H1 σ r1 Q rfl ok1 h1
  | true => exact h1 F1 H1 true ok1 .refl rfl
theorem ev_notT (ha : EvT K E t ft) : EvT K E (tNot t) (fNotT ft) := by
  intro C F H σ ρ Q hK ok h
  subst hK
  refine ha C F H σ ρ _ rfl ok (Post.bnd h fun a r1 F1 H1 b e1 ok1 st1 vo1 h1 => ?_)
  cases vo1
  exact h1 F1 H1 (!a) ok1 .refl rfl
theorem ev_andV (ha : EvE K E ta fa) (hb : EvE K E tb fb) : EvE K E (tAndV ta tb) (fAndV fa fb) := by
  intro C F H σ ρ Q hK ok h
  refine ev_b ha hK ok h fun b r1 F1 H1 ok1 st1 h1 => ⟨b, rfl, ?_⟩
  cases b with
  | true => exact hb C F1 H1 σ r1 Q hK ok1 h1
  | false => exact h1 F1 H1 (.bl false) ok1 .refl (.bl false)
theorem ev_orV (ha : EvE K E ta fa) (hb : EvE K E tb fb) : EvE K E (tOrV ta tb) (fOrV fa fb) := by
  intro C F H σ ρ Q hK ok h
  refine ev_b ha hK ok h fun b r1 F1 H1 ok1 st1 h1 => ⟨b, rfl, ?_⟩
  cases b with
  | false => exact hb C F1 H1 σ r1 Q hK ok1 h1
  | true => exact h1 F1 H1 (.bl true) ok1 .refl (.bl true)
theorem ev_notV (ha : EvE K E ta fa) : EvE K E (tNotV ta) (fNotV fa) := by
  intro C F H σ ρ Q hK ok h
  exact ev_b ha hK ok h fun b r1 F1 H1 ok1 st1 h1 => ⟨b, rfl, h1 F1 H1 (.bl (!b)) ok1 .refl (.bl (!b))⟩
theorem ev_if (ht : EvT K E t ft) (ha : EvE K E ta fa) (hb : EvE K E tb fb) : EvE K E (tIf t ta tb) (fIf ft fa fb) := by
  intro C F H σ ρ Q hK ok h
  subst hK
  refine ht C F H σ ρ _ rfl ok (Post.bnd h fun a r1 F1 H1 b e1 ok1 st1 vo1 h1 => ?_)
  cases vo1
  cases a with
  | true => exact ha C F1 H1 σ r1 Q rfl ok1 h1
  | false => exact hb C F1 H1 σ r1 Q rfl ok1 h1
end
section
variable {X : Cx} {E : XW} {pos : Pos} {a b c : Expr} {ta tb : TE} {fa fb : M Vl} {tt tu : TT} {ft fu : M Bool} {rest : List Expr}
/-- an expression as a test, by its value's truth -/
theorem pft_tru (h : PF X a ta E fa) (he : ∀ whole, isTrue a X.env whole = (do let v ← whole; standAt a.pos; holding [v] (truthy v)) := by intro _; rfl) : PFt X a (tTruK X.K ta) E (fTru fa) := ⟨pt_truth h.pe he, ev_tru h.ev⟩
theorem pft_val (h : PF X a ta E fa) (he : ∀ whole, isTrue a X.env whole = (do let v ← whole; standAt a.pos; holding [v] (truthy v)) := by intro _; rfl) : PFt X a (tB ta) E (fB fa) := ⟨pt_val h.pe he, ev_B h.ev⟩
theorem pft_cmp {op : CmpOp} {r : R2} {g : D → D → Option D} (ho : OpR X (compareOp op) r) (p : P2 X.K r g) (ha : PF X a ta E fa) (hb : PF X b tb E fb) (hm : behindInMarks op b = false := by first | exact nobehind _ (by decide) (by decide) | rfl) :
    PFt X (.Compare a [op] [b] pos) (tTest (tOp r ta tb)) E (fB (fOp g fa fb)) := ⟨pt_cmpR ho ha.pe hb.pe hm, ev_test (ev_op p ha.ev hb.ev)⟩
theorem pft_w {e : Expr} (h : PFw X e tt E ft) : PFt X e tt E ft := ⟨PW.pt h.pw, h.ev⟩
theorem pfw_and1 (h : PFt X a tt E ft) : PFw X (.BoolOp .And [a] pos) tt E ft := ⟨pw_and1 h.pt, h.ev⟩
theorem pfw_or1 (h : PFt X a tt E ft) : PFw X (.BoolOp .Or [a] pos) tt E ft := ⟨pw_or1 h.pt, h.ev⟩
theorem pfw_and (h : PFt X a tt E ft) (h2 : PFw X (.BoolOp .And (b :: rest) pos) tu E fu) : PFw X (.BoolOp .And (a :: b :: rest) pos) (tAnd tt tu) E (fAndT ft fu) := ⟨pw_and h.pt h2.pw, ev_andT h.ev h2.ev⟩
theorem pfw_or (h : PFt X a tt E ft) (h2 : PFw X (.BoolOp .Or (b :: rest) pos) tu E fu) : PFw X (.BoolOp .Or (a :: b :: rest) pos) (tOr tt tu) E (fOrT ft fu) := ⟨pw_or h.pt h2.pw, ev_orT h.ev h2.ev⟩
theorem pft_not (h : PFt X a tt E ft) : PFt X (.UnaryOp .Not a pos) (tNot tt) E (fNotT ft) := ⟨pt_not h.pt, ev_notT h.ev⟩
theorem pf_one {op} (h : PF X a ta E fa) : PF X (.BoolOp op [a] pos) ta E fa := ⟨pe_one h.pe, h.ev⟩
theorem pf_and (ha : PF X a ta E fa) (hb : PF X (.BoolOp .And (b :: rest) pos) tb E fb) : PF X (.BoolOp .And (a :: b :: rest) pos) (tAndV ta tb) E (fAndV fa fb) := ⟨pe_and ha.pe hb.pe, ev_andV ha.ev hb.ev⟩
theorem pf_or (ha : PF X a ta E fa) (hb : PF X (.BoolOp .Or (b :: rest) pos) tb E fb) : PF X (.BoolOp .Or (a :: b :: rest) pos) (tOrV ta tb) E (fOrV fa fb) := ⟨pe_or ha.pe hb.pe, ev_orV ha.ev hb.ev⟩
theorem pf_not (ha : PF X a ta E fa) : PF X (.UnaryOp .Not a pos) (tNotV ta) E (fNotV fa) := ⟨pe_not ha.pe, ev_notV ha.ev⟩
theorem pf_if (hc : PFt X c tt E ft) (ha : PF X a ta E fa) (hb : PF X b tb E fb) : PF X (.IfExp c a b pos) (tIf tt ta tb) E (fIf ft fa fb) := ⟨pe_ifExp hc.pt ha.pe hb.pe, ev_if hc.ev ha.ev hb.ev⟩
end
end DL

namespace DL
open PySem PySem.Spec PyProof.Rows L2

/-! ### the state behind a store, a change -/
section
variable {C : Ctx} {F H F' H' : Hp} {σ : L2.St} {ρ ρ' : Rho} {v : V} {x m : D} {i : Nat}
theorem Ok.set (ok : Ok C F H σ ρ) (r : Rep C.K F v x) : Ok C F H (σ.set i (some v)) (ρ.set i (.d x)) where
  sub := ok.sub
  len := by rw [List.length_set, List.length_set]; exact ok.len
  sl := fun j s e => by
    rcases get_set e with ⟨rfl, rfl⟩ | ⟨hj, e⟩
    · have hl : j < σ.length := by
        rw [ok.len]
        have := (List.getElem?_eq_some_iff.mp e).1
        rwa [List.length_set] at this
      exact ⟨v, List.getElem?_set_self hl, r⟩
    · rw [List.getElem?_set_ne (Ne.symm hj)]
      exact ok.sl j s e
  dj := fun j k b hjk h1 h2 q => by
    obtain ⟨n1, o1⟩ := own_set h1
    obtain ⟨n2, o2⟩ := own_set h2
    rw [List.getElem?_set_ne (Ne.symm n1)] at q
    rw [List.getElem?_set_ne (Ne.symm n2)]
    exact ok.dj j k b hjk o1 o2 q
  fx := ok.fx
  own0 := ok.own0
  there := ok.there
  keep := ok.keep
theorem own_set2 {ρ : Rho} {i j : Nat} {m : D} {l : Bool} (h : isOwn (ρ.set i (.own m l))[j]? = true) : j = i ∨ isOwn ρ[j]? = true := by
  cases e : (ρ.set i (Sl.own m l))[j]? with
  | none => rw [e] at h; cases h
  | some s =>
    rw [e] at h
    rcases get_set e with ⟨e1, e2⟩ | ⟨e1, e2⟩
    · exact .inl e1
    · exact .inr (by rw [e2]; exact h)
/-- a new object, kept by the slot alone -/
theorem Ok.setOwn {p : Addr} {o : HO} (ok : Ok C F H σ ρ) (h1 : F p = none) (h2 : H p = some o) (c : Cont C.K F o m) (h0 : C.H0 p = none) (n : ¬ OwnA σ ρ p) : Ok C F H (σ.set i (some (.ref p))) (ρ.set i (.own m true)) where
  sub := ok.sub
  len := by rw [List.length_set, List.length_set]; exact ok.len
  sl := fun j s e => by
    rcases get_set e with ⟨rfl, rfl⟩ | ⟨hj, e⟩
    · have hl : j < σ.length := by
        rw [ok.len]
        have := (List.getElem?_eq_some_iff.mp e).1
        rwa [List.length_set] at this
      exact ⟨p, o, List.getElem?_set_self hl, h1, h2, c, by simpa using h0⟩
    · rw [List.getElem?_set_ne (Ne.symm hj)]
      exact ok.sl j s e
  dj := fun j k b hjk w1 w2 q z => by
    by_cases hj : j = i
    · subst hj
      have hl : j < σ.length := by
        by_cases hl : j < σ.length
        · exact hl
        · rw [List.getElem?_eq_none (by rw [List.length_set]; omega)] at q; cases q
      rw [List.getElem?_set_self hl] at q
      cases q
      have hk : k ≠ j := Ne.symm hjk
      rw [List.getElem?_set_ne (Ne.symm hk)] at z
      rcases own_set2 w2 with w2 | w2
      · exact hk w2
      · exact n ⟨k, w2, z⟩
    · rw [List.getElem?_set_ne (Ne.symm hj)] at q
      rcases own_set2 w1 with w3 | w3
      · exact hj w3
      · by_cases hk : k = i
        · subst hk
          have hl : k < σ.length := by
            by_cases hl : k < σ.length
            · exact hl
            · rw [List.getElem?_eq_none (by rw [List.length_set]; omega)] at z; cases z
          rw [List.getElem?_set_self hl] at z
          cases z
          exact n ⟨j, w3, q⟩
        · rw [List.getElem?_set_ne (Ne.symm hk)] at z
          rcases own_set2 w2 with w2 | w2
          · exact hk w2
          · exact ok.dj j k b hjk w3 w2 q z
  fx := ok.fx
  own0 := ok.own0
  there := ok.there
  keep := ok.keep
/-- an own object changes -/
theorem Ok.mut {a : Addr} {o' : HO} {m' : D} {l : Bool} (ok : Ok C F H σ ρ) (h : ρ[i]? = some (.own m l)) (hs : σ[i]? = some (some (.ref a))) (c : Cont C.K F o' m') : Ok C F (upd H a o') σ (ρ.set i (.own m' l)) := by
  obtain ⟨b, o, e1, e2, e3, _, l0⟩ := ok.sl i _ h
  rw [hs] at e1; cases e1
  have hi : isOwn ρ[i]? = true := by rw [h]; rfl
  refine ⟨fun b u q => ?_, by rw [List.length_set]; exact ok.len, fun j s e => ?_, fun j k b hjk w1 w2 => ok.dj j k b hjk ?_ ?_, ok.fx, ok.own0, fun b hb => ?_, fun b u q n => ?_⟩
  · have hb : b ≠ a := fun z => by subst z; rw [e2] at q; cases q
    rw [upd_ne hb]; exact ok.sub _ _ q
  · rcases get_set e with ⟨rfl, rfl⟩ | ⟨hj, e⟩
    · exact ⟨a, o', hs, e2, upd_same, c, l0⟩
    · have z := ok.sl j s e
      cases s with
      | un => trivial
      | d x => exact z
      | own m2 l2 =>
        obtain ⟨b, o2, w1, w2, w3, w4, w5⟩ := z
        have hb : b ≠ a := fun q => by
          subst q
          exact ok.dj i j b (Ne.symm hj) hi (by rw [e]; rfl) hs w1
        exact ⟨b, o2, w1, w2, by rw [upd_ne hb]; exact w3, w4, w5⟩
  · rcases own_set2 w1 with w1 | w1
    · rw [w1]; exact hi
    · exact w1
  · rcases own_set2 w2 with w2 | w2
    · rw [w2]; exact hi
    · exact w2
  · by_cases z : b = a
    · subst z; rw [upd_same]; exact fun z => by cases z
    · rw [upd_ne z]; exact ok.there b hb
  · by_cases z : b = a
    · subst z
      cases l with
      | true =>
        have l0 : C.H0 b = none := by simpa using l0
        rw [l0] at q; cases q
      | false =>
        have l0 : C.s0[i]? = some (some (V.ref b)) ∧ C.pa b := by simpa using l0
        exact absurd l0.2 n
    · rw [upd_ne z]; exact ok.keep b u q n
end

/-! ### statements -/
abbrev FS := Rho → Oc
def PostS (C : Ctx) (E : XW) (F : Hp) (D : Ends) : Oc → Prop
  | .nx r => ∀ F' H' σ', Ok C F' H' σ' r → Ex F F' → D.nx σ' H'
  | .rt x r => ∀ F' H' σ' v, Ok C F' H' σ' r → Ex F F' → Rep C.K F' v x → D.rt v H'
  | .bk r => ∀ F' H' σ', Ok C F' H' σ' r → Ex F F' → D.bk σ' H'
  | .ct r => ∀ F' H' σ', Ok C F' H' σ' r → Ex F F' → D.ct σ' H'
  | .exc e r => ∀ F' H' σ' cls d, Ok C F' H' σ' r → Ex F F' → XRep C.K F' H' e cls d → E σ' cls d H'
  | .bad => False
def EvS (K : PySem.W.Frag) (E : XW) (ts : TS) (g : FS) : Prop := ∀ (C : Ctx) (F H : Hp) (σ : L2.St) (ρ : Rho) (D : Ends), C.K = K → Ok C F H σ ρ → PostS C E F D (g ρ) → ts D σ H
structure PFs (X : Cx) (st : Stmt) (ts : TS) (E : XW) (g : FS) : Prop where
  ps : PS X st ts
  ev : EvS X.K E ts g
structure PFb (X : Cx) (st : List Stmt) (ts : TS) (E : XW) (g : FS) : Prop where
  pss : PSs X st ts
  ev : EvS X.K E ts g
section
variable {C : Ctx} {E : XW} {F F' : Hp} {D D' : Ends} {o : Oc}
theorem PostS.weak (h : PostS C E F D o) (e : Ex F F') : PostS C E F' D o := by
  cases o with
  | nx r => exact fun F2 H2 σ2 ok ex => h F2 H2 σ2 ok (e.trans ex)
  | rt x r => exact fun F2 H2 σ2 v ok ex => h F2 H2 σ2 v ok (e.trans ex)
  | bk r => exact fun F2 H2 σ2 ok ex => h F2 H2 σ2 ok (e.trans ex)
  | ct r => exact fun F2 H2 σ2 ok ex => h F2 H2 σ2 ok (e.trans ex)
  | exc x r => exact fun F2 H2 σ2 cls d ok ex xr => h F2 H2 σ2 cls d ok (e.trans ex) xr
  | bad => exact h
end
/-- an expression first -/
def sBnd {α : Type} (m : M α) (k : α → FS) : FS := fun ρ => match m ρ with
  | .ok a r => k a r
  | .exc e r => .exc e r
  | .bad => .bad
theorem PostS.bnd {α β : Type} {C : Ctx} {E : XW} {σ : L2.St} {F H : Hp} {D : Ends} {ρ : Rho} {VR : Hp → Hp → Rho → β → α → Prop} {m : M α} {k : α → FS} {Q1 : β → Hp → Prop} (h : PostS C E F D (sBnd m k ρ))
    (q : ∀ a r F' H' b, m ρ = .ok a r → Ok C F' H' σ r → Step σ ρ r F H F' H' → VR F' H' r b a → PostS C E F' D (k a r) → Q1 b H') : Post C E σ ρ F H VR Q1 (m ρ) := by
  unfold sBnd at h
  cases e : m ρ with
  | bad => rw [e] at h; exact h
  | exc x r => rw [e] at h; exact fun F' H' cls d ok ex xr => h F' H' σ cls d ok ex xr
  | ok a r =>
    rw [e] at h
    exact fun F' H' b ok st vr => q a r F' H' b e ok st vr (PostS.weak h st.fx)
def fNext : FS := fun ρ => .nx ρ
def fSeq (g1 g2 : FS) : FS := fun ρ => match g1 ρ with
  | .nx r => g2 r
  | o => o
def fRet (fe : M Vl) : FS := sBnd fe fun x => sBnd (fz x) fun y ρ => .rt y ρ
def fRetN : FS := fun ρ => .rt .non ρ
def fDrop (fe : M Vl) : FS := sBnd fe fun _ ρ => .nx ρ
def fIfS (ft : M Bool) (g1 g2 : FS) : FS := sBnd ft fun b => if b = true then g1 else g2
def fBrk : FS := fun ρ => .bk ρ
def fCnt : FS := fun ρ => .ct ρ
def fNever : FS := fun _ => .bad
def fRaise (c : Addr) : FS := fun ρ => .exc ⟨c, none⟩ ρ
/-- targets -/
abbrev FG := D → Rho → Option Rho
def gN (i : Nat) : FG := fun x ρ => some (ρ.set i (.d x))
def gsNil : List D → Rho → Option Rho := fun xs ρ => match xs with
  | [] => some ρ
  | _ => none
def gsCons (g : FG) (gs : List D → Rho → Option Rho) : List D → Rho → Option Rho := fun xs ρ => match xs with
  | x :: r => match g x ρ with
    | some ρ' => gs r ρ'
    | none => none
  | [] => none
def gT (n : Nat) (gs : List D → Rho → Option Rho) : FG := fun x ρ => match x with
  | .tup ys => if ys.length = n then gs ys ρ else none
  | _ => none
def fAsg (fg : FG) (fe : M Vl) : FS := sBnd fe fun x => sBnd (fz x) fun y ρ => match fg y ρ with
  | some r => .nx r
  | none => .bad
def EvG (K : PySem.W.Frag) (g : TG) (fg : FG) : Prop := ∀ (C : Ctx) (F H : Hp) (σ : L2.St) (ρ ρ' : Rho) (v : V) (x : D) (Q : L2.St → Hp → Prop), C.K = K → Ok C F H σ ρ → Rep K F v x → fg x ρ = some ρ' → (∀ σ', Ok C F H σ' ρ' → Q σ' H) → g v σ H Q
def EvGs (K : PySem.W.Frag) (g : TGs) (fg : List D → Rho → Option Rho) : Prop := ∀ (C : Ctx) (F H : Hp) (σ : L2.St) (ρ ρ' : Rho) (vs : List V) (xs : List D) (Q : L2.St → Hp → Prop), C.K = K → Ok C F H σ ρ → RepL K F vs xs → fg xs ρ = some ρ' → (∀ σ', Ok C F H σ' ρ' → Q σ' H) → g vs σ H Q
structure PFg (X : Cx) (e : Expr) (g : TG) (fg : FG) : Prop where
  pg : PG X e g
  ev : EvG X.K g fg
structure PFgs (X : Cx) (es : List Expr) (g : TGs) (fg : List D → Rho → Option Rho) : Prop where
  pg : PGs X es g
  ev : EvGs X.K g fg
section
variable {K : PySem.W.Frag} {E : XW} {ts tu : TS} {g1 g2 : FS} {te : TE} {fe : M Vl} {tt : TT} {ft : M Bool} {g : TG} {fg : FG}
theorem ev_next : EvS K E tNext fNext := fun C F H σ ρ D hK ok h => h F H σ ok (.refl _)
theorem ev_seq (h1 : EvS K E ts g1) (h2 : EvS K E tu g2) : EvS K E (tSeq ts tu) (fSeq g1 g2) := by
  intro C F H σ ρ D hK ok h
  refine h1 C F H σ ρ _ hK ok ?_
  unfold fSeq at h
  cases e : g1 ρ with
  | nx r =>
    rw [e] at h
    exact fun F' H' σ' ok' ex => h2 C F' H' σ' r D hK ok' (PostS.weak h ex)
  | rt x r => rw [e] at h; exact h
  | bk r => rw [e] at h; exact h
  | ct r => rw [e] at h; exact h
  | exc x r => rw [e] at h; exact h
  | bad => rw [e] at h; exact h
theorem fz_bnd {C : Ctx} {F H : Hp} {σ : L2.St} {ρ : Rho} {De : Ends} {v : V} {x : Vl} {k : D → FS} (ok : Ok C F H σ ρ) (h : VlOk C F σ ρ v x) (p : PostS C E F De (sBnd (fz x) k ρ)) {P : Prop}
    (q : ∀ y r F', Ok C F' H σ r → Ex F F' → Rep C.K F' v y → PostS C E F' De (k y r) → P) : P := by
  unfold sBnd at p
  cases e : fz x ρ with
  | bad => rw [e] at p; exact p.elim
  | exc z r => exact absurd e fz_noexc
  | ok y r =>
    rw [e] at p
    obtain ⟨F', ok', st, rp⟩ := fz_ok ok h e
    exact q y r F' ok' st.fx rp (PostS.weak p st.fx)
theorem ev_ret (he : EvE K E te fe) : EvS K E (tRet te) (fRet fe) := by
  intro C F H σ ρ D hK ok h
  subst hK
  refine he C F H σ ρ _ rfl ok (PostS.bnd h fun x r1 F1 H1 v e1 ok1 st1 vo1 h1 => ?_)
  exact fz_bnd ok1 vo1 h1 fun y r F' ok' ex rp p => p F' H1 σ v ok' (.refl _) rp
theorem ev_retN : EvS K E tRetN fRetN := fun C F H σ ρ D hK ok h => h F H σ .non ok (.refl _) .non
theorem ev_drop (he : EvE K E te fe) : EvS K E (tDrop te) (fDrop fe) := by
  intro C F H σ ρ D hK ok h
  subst hK
  exact he C F H σ ρ _ rfl ok (PostS.bnd h fun x r1 F1 H1 v e1 ok1 st1 vo1 h1 => h1 F1 H1 σ ok1 (.refl _))
theorem ev_ifS (ht : EvT K E tt ft) (h1 : EvS K E ts g1) (h2 : EvS K E tu g2) : EvS K E (tIfS tt ts tu) (fIfS ft g1 g2) := by
  intro C F H σ ρ D hK ok h
  subst hK
  refine ht C F H σ ρ _ rfl ok (PostS.bnd h fun b r1 F1 H1 c e1 ok1 st1 vo1 q => ?_)
  cases vo1
  cases b with
  | true => exact h1 C F1 H1 σ r1 D rfl ok1 q
  | false => exact h2 C F1 H1 σ r1 D rfl ok1 q
theorem ev_brk : EvS K E tBreak fBrk := fun C F H σ ρ D hK ok h => h F H σ ok (.refl _)
theorem ev_cnt : EvS K E tCont fCnt := fun C F H σ ρ D hK ok h => h F H σ ok (.refl _)
theorem ev_never : EvS K E tNever fNever := fun C F H σ ρ D hK ok h => h
theorem ev_raise {c : Addr} : EvS K E (fun _ σ H => E σ (.ref c) none H) (fRaise c) := fun C F H σ ρ D hK ok h => h F H σ (.ref c) none ok (.refl _) ⟨rfl, rfl⟩
theorem eg_n {i : Nat} : EvG K (gName i) (gN i) := by
  intro C F H σ ρ ρ' v x Q hK ok r e q
  subst hK
  cases e
  exact q _ (ok.set r)
theorem eg_nil : EvGs K gNil gsNil := by
  intro C F H σ ρ ρ' vs xs Q hK ok r e q
  cases r with
  | nil => cases e; exact ⟨rfl, q σ ok⟩
  | cons _ _ => cases e
theorem eg_cons {t : TGs} {fs : List D → Rho → Option Rho} (h1 : EvG K g fg) (h2 : EvGs K t fs) : EvGs K (gCons g t) (gsCons fg fs) := by
  intro C F H σ ρ ρ' vs xs Q hK ok r e q
  cases r with
  | nil => cases e
  | cons r rr =>
    unfold gsCons at e
    rename_i v vs' x xs'
    cases e1 : fg x ρ with
    | none => simp [e1] at e
    | some r1 =>
      simp only [e1] at e
      exact ⟨_, _, rfl, h1 C F H σ ρ r1 _ _ _ hK ok r e1 fun σ' ok' => h2 C F H σ' r1 ρ' _ _ Q hK ok' rr e q⟩
theorem eg_tup {n : Nat} {t : TGs} {fs : List D → Rho → Option Rho} (h : EvGs K t fs) : EvG K (gTup K n t) (gT n fs) := by
  intro C F H σ ρ ρ' v x Q hK ok r e q
  cases x with
  | tup ys =>
    simp only [gT] at e
    by_cases hn : ys.length = n
    · simp only [hn, if_true] at e
      obtain ⟨a, vs, rfl, hs, rl⟩ := RepH.tup ok.sub (.inl r : RepH K F H v (.tup ys))
      exact ⟨a, vs, rfl, hs, by rw [rl.length]; exact hn, h C F H σ ρ ρ' vs ys Q hK ok rl e q⟩
    · simp only [hn, if_false] at e; cases e
  | _ => cases e
theorem ev_asg (he : EvE K E te fe) (hg : EvG K g fg) : EvS K E (tAsg te g) (fAsg fg fe) := by
  intro C F H σ ρ D hK ok h
  subst hK
  refine he C F H σ ρ _ rfl ok (PostS.bnd h fun x r1 F1 H1 v e1 ok1 st1 vo1 h1 => ?_)
  refine fz_bnd ok1 vo1 h1 fun y r F' ok' ex rp p => ?_
  cases e : fg y r with
  | none => rw [e] at p; exact p.elim
  | some r2 =>
    rw [e] at p
    exact hg C F' H1 σ r r2 v y _ rfl ok' rp e fun σ' ok2 => p F' H1 σ' ok2 (.refl _)
end
section
variable {X : Cx} {E : XW} {pos pos' : Pos} {st : Stmt} {rest a b : List Stmt} {ts tu : TS} {g1 g2 : FS} {e c tg : Expr} {te : TE} {fe : M Vl} {tt : TT} {ft : M Bool} {g : TG} {fg : FG} {es : List Expr} {gs : TGs} {fs : List D → Rho → Option Rho}
theorem pfb_nil : PFb X [] tNext E fNext := ⟨pss_nil, ev_next⟩
theorem pfb_cons (h1 : PFs X st ts E g1) (h2 : PFb X rest tu E g2) : PFb X (st :: rest) (tSeq ts tu) E (fSeq g1 g2) := ⟨pss_cons h1.ps h2.pss, ev_seq h1.ev h2.ev⟩
theorem pfb_one (h1 : PFs X st ts E g1) : PFb X [st] ts E g1 := ⟨pss_one h1.ps, h1.ev⟩
theorem pfb_never {sts : List Stmt} : PFb X sts tNever E fNever := ⟨pss_never, ev_never⟩
theorem pfs_never : PFs X st tNever E fNever := ⟨ps_never, ev_never⟩
theorem pfs_pass : PFs X (.Pass pos) tNext E fNext := ⟨ps_pass, ev_next⟩
theorem pfs_brk : PFs X (.Break pos) tBreak E fBrk := ⟨ps_break, ev_brk⟩
theorem pfs_cnt : PFs X (.Continue pos) tCont E fCnt := ⟨ps_continue, ev_cnt⟩
theorem pfs_doc {x : Str} {j : Nat} : PFs X (.Expr (.Constant (.str x) j pos) pos') tNext E fNext := ⟨ps_doc, ev_next⟩
theorem pfs_ret (he : PF X e te E fe) : PFs X (.Return (some e) pos) (tRet te) E (fRet fe) := ⟨ps_ret he.pe, ev_ret he.ev⟩
theorem pfs_retN : PFs X (.Return none pos) tRetN E fRetN := ⟨ps_retN, ev_retN⟩
theorem pfs_drop (he : PF X e te E fe) (hs : swapsWith e none pos.line X.env = pure false := by rfl) : PFs X (.Expr e pos) (tDrop te) E (fDrop fe) := ⟨ps_expr he.pe hs, ev_drop he.ev⟩
theorem pfs_if (hc : PFt X c tt E ft) (ha : PFb X a ts E g1) (hb : PFb X b tu E g2) : PFs X (.If c a b pos) (tIfS tt ts tu) E (fIfS ft g1 g2) := ⟨ps_if hc.pt ha.pss hb.pss, ev_ifS hc.ev ha.ev hb.ev⟩
theorem pfg_n {i : Nat} {x : Str} (hN : X.N.Nodup) (hi : X.N[i]? = some x := by rfl) (hx : Loc X.env.scope x := by first | exact .inl rfl | exact .inr rfl) (hf : X.fn x = true ∨ X.env.scope.names.lookup x = some .local := by first | exact .inl rfl | exact .inr rfl) :
    PFg X (.Name x pos) (gName i) (gN i) := ⟨pg_name hN hi hx hf, eg_n⟩
theorem pfgs_nil : PFgs X [] gNil gsNil := ⟨pgs_nil, eg_nil⟩
theorem pfgs_cons (h1 : PFg X e g fg) (h2 : PFgs X es gs fs) (hs : (assignEach (e :: es) X.env).map (·.2) = assign e X.env :: (assignEach es X.env).map (·.2) := by rfl) : PFgs X (e :: es) (gCons g gs) (gsCons fg fs) := ⟨pgs_cons h1.pg h2.pg hs, eg_cons h1.ev h2.ev⟩
theorem pfg_t {k n : Nat} (h : PFgs X es gs fs) (hc : X.calm = true := by rfl) (hn : (assignEach es X.env).length = n := by rfl) (hst : (assignEach es X.env).findIdx? (·.1) = none := by rfl) : PFg X (.Tuple es k pos) (gTup X.K n gs) (gT n fs) := ⟨pg_tup hc h.pg hn hst, eg_tup h.ev⟩
theorem pfs_set {i : Nat} {x : Str} (hN : X.N.Nodup) (he : PF X e te E fe) (hi : X.N[i]? = some x := by rfl) (hx : Loc X.env.scope x := by first | exact .inl rfl | exact .inr rfl) (hs : swapsWith e (some (.Name x pos')) pos.line X.env = pure false := by rfl)
    (hf : X.fn x = true ∨ X.env.scope.names.lookup x = some .local := by first | exact .inl rfl | exact .inr rfl) : PFs X (.Assign [.Name x pos'] e pos) (tAsg te (gName i)) E (fAsg (gN i) fe) := ⟨ps_set hN hi hx he.pe hs hf, ev_asg he.ev eg_n⟩
theorem pfs_asg (he : PF X e te E fe) (hg : PFg X tg g fg) (hs : swapsWithSole [tg] e pos.line X.env = pure false := by rfl) (hw : swappedStores [tg] e X.env = pure none := by rfl) (h1 : (assignEach [tg] X.env).map (·.2) = [assign tg X.env] := by rfl) :
    PFs X (.Assign [tg] e pos) (tAsg te g) E (fAsg fg fe) := ⟨ps_asg he.pe hg.pg hs hw h1, ev_asg he.ev hg.ev⟩
end

/-! ### new objects for a name alone -/
/-- the expression gives an object that is new (H: ahead of it) and known to nobody else -/
def NewO (C : Ctx) (H F' H' : Hp) (v : V) (m : D) : Prop := ∃ (p : Addr) (o : HO), v = V.ref p ∧ H p = none ∧ F' p = none ∧ H' p = some o ∧ Cont C.K F' o m
abbrev PostN (C : Ctx) (E : XW) (σ : L2.St) (ρ : Rho) (F H : Hp) (Q : VK) (r : R D) : Prop := Post C E σ ρ F H (fun F' H' _ v m => NewO C H F' H' v m) Q r
def EvN (K : PySem.W.Frag) (E : XW) (te : TE) (f : M D) : Prop := ∀ (C : Ctx) (F H : Hp) (σ : L2.St) (ρ : Rho) (Q : VK), C.K = K → Ok C F H σ ρ → PostN C E σ ρ F H Q (f ρ) → te σ H Q
structure PN (X : Cx) (e : Expr) (te : TE) (E : XW) (f : M D) : Prop where
  pe : PE X e te
  ev : EvN X.K E te f
def fOfN (f : M D) : M Vl := M.bnd f fun m ρ => .ok (.d m) ρ
def fAsgN (i : Nat) (f : M D) : FS := sBnd f fun m ρ => .nx (ρ.set i (.own m true))
section
variable {K : PySem.W.Frag} {E : XW} {te : TE} {f : M D} {C : Ctx} {F H F' H' : Hp} {σ : L2.St} {ρ r : Rho} {v : V} {m : D} {i : Nat}
theorem H0_none (ok : Ok C F H σ ρ) {p : Addr} (h : H p = none) : C.H0 p = none := by
  cases e : C.H0 p with
  | none => rfl
  | some o => exact absurd h (ok.there p (by rw [e]; exact fun z => by cases z))
theorem own_held (ok : Ok C F H σ ρ) {p : Addr} (h : OwnA σ ρ p) : H p ≠ none := by
  obtain ⟨i, hi, e⟩ := h
  cases q : ρ[i]? with
  | none => rw [q] at hi; cases hi
  | some s =>
    cases s with
    | own m l =>
      obtain ⟨a, o, e1, _, e3, _⟩ := ok.sl i _ q
      rw [e] at e1; cases e1
      rw [e3]; exact fun z => by cases z
    | _ => rw [q] at hi; cases hi
theorem notOwn (ok : Ok C F H σ ρ) {p : Addr} (h : H p = none) : ¬ OwnA σ ρ p := fun z => own_held ok z h
/-- what is free behind was free ahead -/
theorem Step.free (st : Step σ ρ r F H F' H') {p : Addr} (h : H' p = none) : H p = none := by
  cases e : H p with
  | none => rfl
  | some o => exact absurd h (st.th p (by rw [e]; exact fun z => by cases z))
theorem NewO.frozen (ok : Ok C F H σ ρ) (st : Step σ ρ r F H F' H') (ok' : Ok C F' H' σ r) (h : NewO C H F' H' v m) : ∃ F2, Ok C F2 H' σ r ∧ Step σ ρ r F H F2 H' ∧ Rep C.K F2 v m := by
  obtain ⟨p, o, rfl, h0, h1, h2, c⟩ := h
  have n : ¬ OwnA σ r p := fun ⟨j, w, z⟩ => notOwn ok h0 ⟨j, st.ow j w, z⟩
  have ex : Ex F' (upd F' p o) := .new h1
  refine ⟨upd F' p o, ⟨fun b u q => ?_, ok'.len, fun j s e => ?_, ok'.dj, ok'.fx.trans ex, fun b hb => ?_, ok'.there, ok'.keep⟩, ⟨st.fx.trans ex, fun b u q nb => ?_, st.ow, st.th⟩, Cont.rep upd_same (c.ex ex)⟩
  · by_cases hb : b = p
    · subst hb; rw [upd_same] at q; cases q; exact h2
    · rw [upd_ne hb] at q; exact ok'.sub _ _ q
  · have z := ok'.sl j s e
    cases s with
    | un => trivial
    | d x => obtain ⟨u, w1, r⟩ := z; exact ⟨u, w1, r.ex ex⟩
    | own m' l =>
      obtain ⟨b, o', w1, w2, w3, w4, w5⟩ := z
      have hb : b ≠ p := fun q => by
        subst q
        exact n ⟨j, by rw [e]; rfl, w1⟩
      exact ⟨b, o', w1, by rw [upd_ne hb]; exact w2, w3, w4.ex ex, w5⟩
  · have hb' : b ≠ p := fun q => by subst q; exact hb (H0_none ok h0)
    rw [upd_ne hb']; exact ok'.own0 b hb
  · obtain ⟨q1, q2⟩ := st.fr b u q nb
    have hb : b ≠ p := fun z => by rw [z, h0] at q; cases q
    exact ⟨q1, by rw [upd_ne hb]; exact q2⟩
theorem ev_ofN (h : EvN K E te f) : EvE K E te (fOfN f) := by
  intro C F H σ ρ Q hK ok p
  subst hK
  refine h C F H σ ρ Q rfl ok ?_
  unfold fOfN M.bnd at p
  cases e : f ρ with
  | bad => rw [e] at p; exact p
  | exc x r => rw [e] at p; exact p
  | ok m r =>
    rw [e] at p
    intro F' H' v ok' st nw
    obtain ⟨F2, ok2, st2, rp⟩ := nw.frozen ok st ok'
    exact p F2 H' v ok2 st2 rp
theorem ev_asgN (h : EvN K E te f) : EvS K E (tAsg te (gName i)) (fAsgN i f) := by
  intro C F H σ ρ D hK ok p
  subst hK
  refine h C F H σ ρ _ rfl ok ?_
  unfold fAsgN sBnd at p
  cases e : f ρ with
  | bad => rw [e] at p; exact p
  | exc x r => rw [e] at p; exact fun F' H' cls d ok ex xr => p F' H' σ cls d ok ex xr
  | ok m r =>
    rw [e] at p
    intro F' H' v ok' st nw
    obtain ⟨a, o, rfl, h0, h1, h2, c⟩ := nw
    have n : ¬ OwnA σ r a := fun ⟨j, w, z⟩ => notOwn ok h0 ⟨j, st.ow j w, z⟩
    exact p F' H' _ (ok'.setOwn h1 h2 c (H0_none ok h0) n) st.fx
end
section
variable {X : Cx} {E : XW} {pos pos' : Pos} {e : Expr} {te : TE} {f : M D}
theorem PN.pf (h : PN X e te E f) : PF X e te E (fOfN f) := ⟨h.pe, ev_ofN h.ev⟩
theorem pfs_setN {i : Nat} {x : Str} (hN : X.N.Nodup) (he : PN X e te E f) (hi : X.N[i]? = some x := by rfl) (hx : Loc X.env.scope x := by first | exact .inl rfl | exact .inr rfl) (hs : swapsWith e (some (.Name x pos')) pos.line X.env = pure false := by rfl)
    (hf : X.fn x = true ∨ X.env.scope.names.lookup x = some .local := by first | exact .inl rfl | exact .inr rfl) : PFs X (.Assign [.Name x pos'] e pos) (tAsg te (gName i)) E (fAsgN i f) := ⟨ps_set hN hi hx he.pe hs hf, ev_asgN he.ev⟩
end
def fLstN (fa : M (List Vl)) : M D := M.bnd fa fun xs => M.bnd (fzL xs) fun ys ρ => if ys.length ≤ 1000 then .ok (.lst ys) ρ else .bad
section
variable {K : PySem.W.Frag} {E : XW} {ta : TA} {fa : M (List Vl)} {X : Cx} {pos : Pos} {es : List Expr}
theorem ev_lstN (ha : EvA K E ta fa) : EvN K E (tLst ta) (fLstN fa) := by
  intro C F H σ ρ Q hK ok h
  subst hK
  refine ha C F H σ ρ _ rfl ok (Post.bnd h fun xs r1 F1 H1 vs e1 ok1 st1 vo1 h1 => ?_)
  cases e2 : fzL xs r1 with
  | bad => unfold M.bnd at h1; rw [e2] at h1; exact h1.elim
  | exc q r => exact absurd e2 fzL_noexc
  | ok ys r2 =>
    unfold M.bnd at h1
    rw [e2] at h1
    obtain ⟨F2, ok2, st2, rp⟩ := fzL_ok ok1 vo1 e2
    by_cases hl : ys.length ≤ 1000
    · simp only [hl, if_true] at h1
      refine ⟨by rw [rp.length]; exact line1000 hl, fun p hp => ?_⟩
      have al : Alloc F2 H1 F2 (upd H1 p (.lst vs)) := .raw hp ok2.sub
      exact h1 _ _ _ (ok2.alloc al) (st2.trans (.of_alloc al)) ⟨p, _, rfl, st1.free hp, ok2.sub.free hp, upd_same, .lst rp⟩
    · simp only [hl, if_false] at h1
      exact h1.elim
theorem pn_lst {t : TA} {fr : M (List Vl)} (h : PFa X es t E fr) : PN X (.List es pos) (tLst t) E (fLstN fr) := ⟨pe_lst h.pa, ev_lstN h.ev⟩
end
end DL

namespace DL
open PySem PySem.Spec PyProof.Rows L2

/-! ### loops -/
/-- the iterator J gives xs, whatever the heaps that grow from F0 -/
def Serves (K : PySem.W.Frag) (F0 : Hp) (J : It) (xs : List D) : Prop := ∃ (G : Hp → Prop) (Y : Nat → Hp → V → Hp → Prop), Walk J xs.length G Y ∧ (∀ F H, Ex F0 F → Ex F H → G H) ∧
  ∀ i F H v H', i < xs.length → Ex F0 F → Ex F H → Y i H v H' → ∃ F', Alloc F H F' H' ∧ ∃ x, xs[i]? = some x ∧ Rep K F' v x
def EvI (K : PySem.W.Frag) (E : XW) (ti : TI) (fi : M (List D)) : Prop := ∀ (C : Ctx) (F H : Hp) (σ : L2.St) (ρ : Rho) (Q : It → Hp → Prop), C.K = K → Ok C F H σ ρ → Post C E σ ρ F H (fun F' _ _ (J : It) xs => Serves K F' J xs) Q (fi ρ) → ti σ H Q
structure PFi (X : Cx) (tg e : Expr) (ti : TI) (E : XW) (fi : M (List D)) : Prop where
  pi : PI X tg e ti
  ev : EvI X.K E ti fi
def forL (fg : FG) (g : FS) : List D → Rho → Oc
  | [], ρ => .nx ρ
  | x :: xs, ρ => match fg x ρ with
    | none => .bad
    | some r => match g r with
      | .nx r' => forL fg g xs r'
      | .ct r' => forL fg g xs r'
      | .bk r' => .nx r'
      | .rt y r' => .rt y r'
      | .exc e r' => .exc e r'
      | .bad => .bad
def fFor (fi : M (List D)) (fg : FG) (g : FS) : FS := sBnd fi fun xs => forL fg g xs
def whileF (n : Nat) (ft : M Bool) (g : FS) : Rho → Oc := fun ρ => match n with
  | 0 => .bad
  | n + 1 => match ft ρ with
    | .ok b r => if b = true then (match g r with
      | .nx r' => whileF n ft g r'
      | .ct r' => whileF n ft g r'
      | .bk r' => .nx r'
      | .rt y r' => .rt y r'
      | .exc e r' => .exc e r'
      | .bad => .bad) else .nx r
    | .exc e r => .exc e r
    | .bad => .bad
def fWhile (mu : Rho → Nat) (ft : M Bool) (g : FS) : FS := fun ρ => whileF (mu ρ) ft g ρ
section
variable {K : PySem.W.Frag} {E : XW} {ti : TI} {fi : M (List D)} {g : TG} {fg : FG} {tb : TS} {gb : FS} {tt : TT} {ft : M Bool}
theorem PostS.turn {C : Ctx} {F : Hp} {De : Ends} {o : Oc} {k : Rho → Oc} {N : L2.St → Hp → Prop} (h : PostS C E F De (match o with
      | .nx r' => k r'
      | .ct r' => k r'
      | .bk r' => .nx r'
      | .rt y r' => .rt y r'
      | .exc e r' => .exc e r'
      | .bad => .bad)) (hN : ∀ r F' H' σ', Ok C F' H' σ' r → Ex F F' → PostS C E F' De (k r) → N σ' H') : PostS C E F { De with nx := N, ct := N, bk := De.nx } o := by
  cases o with
  | nx r => exact fun F' H' σ' ok ex => hN r F' H' σ' ok ex (PostS.weak h ex)
  | ct r => exact fun F' H' σ' ok ex => hN r F' H' σ' ok ex (PostS.weak h ex)
  | bk r => exact h
  | rt y r => exact h
  | exc e r => exact h
  | bad => exact h
theorem ev_for (hi : EvI K E ti fi) (hg : EvG K g fg) (hb : EvS K E tb gb) : EvS K E (tFor ti g tb) (fFor fi fg gb) := by
  intro C F H σ ρ De hK ok h
  subst hK
  refine hi C F H σ ρ _ rfl ok (PostS.bnd h fun xs r1 F1 H1 J e1 ok1 st1 sv h1 => ?_)
  obtain ⟨G, Y, wk, hG, hY⟩ := sv
  refine for_it wk (fun i σ H => ∃ F r, Ok C F H σ r ∧ Ex F1 F ∧ PostS C E F De (forL fg gb (xs.drop i) r)) ⟨F1, r1, ok1, .refl _, h1⟩ (fun i σ H hi ⟨F2, r, ok2, ex, _⟩ => hG F2 H ex ok2.sub) ?_ ?_
  · rintro i v σ2 H2 H3 hi ⟨F2, r, ok2, ex, p⟩ y
    obtain ⟨F3, al, x, hx, rp⟩ := hY i F2 H2 v H3 hi ex ok2.sub y
    have e : xs.drop i = x :: xs.drop (i + 1) := by
      obtain ⟨hl, hx'⟩ := List.getElem?_eq_some_iff.mp hx
      rw [List.drop_eq_getElem_cons hl, hx']
    rw [e] at p
    unfold forL at p
    cases eg : fg x r with
    | none => rw [eg] at p; exact p.elim
    | some r' =>
      simp only [eg] at p
      refine hg C F3 H3 σ2 r r' v x _ rfl (ok2.alloc al) rp eg fun σ3 ok3 => ?_
      refine hb C F3 H3 σ3 r' _ rfl ok3 (PostS.turn (PostS.weak p al.fx) fun r4 F4 H4 σ4 ok4 ex4 p4 => ?_)
      exact ⟨F4, r4, ok4, ex.trans (al.fx.trans ex4), p4⟩
  · rintro σ2 H2 ⟨F2, r, ok2, ex, p⟩
    rw [List.drop_length] at p
    exact p F2 H2 σ2 ok2 (.refl _)
theorem ev_while (mu : Rho → Nat) (ht : EvT K E tt ft) (hb : EvS K E tb gb) : EvS K E (tWhile tt tb) (fWhile mu ft gb) := by
  intro C F H σ ρ De hK ok h
  subst hK
  refine ⟨fun m σ H => ∃ F r, Ok C F H σ r ∧ PostS C E F De (whileF m ft gb r), ⟨mu ρ, F, ρ, ok, h⟩, ?_⟩
  rintro m σ1 H1 ⟨F1, r1, ok1, p⟩
  cases m with
  | zero => exact p.elim
  | succ m =>
    refine ht C F1 H1 σ1 r1 _ rfl ok1 ?_
    unfold whileF at p
    cases e : ft r1 with
    | bad => rw [e] at p; exact p
    | exc x r => rw [e] at p; exact fun F' H' cls d ok' ex xr => p F' H' σ1 cls d ok' ex xr
    | ok b r =>
      simp only [e] at p
      intro F2 H2 c ok2 st2 hc
      cases hc
      cases b with
      | false =>
        simp only [Bool.false_eq_true, if_false] at p ⊢
        exact p F2 H2 σ1 ok2 st2.fx
      | true =>
        simp only [if_true] at p ⊢
        refine ⟨_, fun σ' H' z => z, hb C F2 H2 σ1 r _ rfl ok2 (PostS.turn (PostS.weak p st2.fx) fun r4 F4 H4 σ4 ok4 ex4 p4 => ?_)⟩
        exact ⟨m, Nat.lt_succ_self m, F4, r4, ok4, p4⟩
end

/-! ### what is walked -/
def asList : D → Option (List D)
  | .lst xs => some xs
  | .tup xs => some xs
  | .scr xs => some xs
  | _ => none
def fItS (fe : M Vl) (p : D → Option (List D)) : M (List D) := M.bnd fe fun x => M.bnd (fz x) fun y ρ => match p y with
  | some xs => .ok xs ρ
  | none => .bad
def pLst : D → Option (List D)
  | .lst xs => some xs
  | .scr xs => some xs
  | _ => none
def pTup : D → Option (List D)
  | .tup xs => some xs
  | _ => none
def pStr : D → Option (List D)
  | .str z => some (z.cps.toList.map fun c => .str ⟨#[c]⟩)
  | _ => none
def rngD (lo : Int) (n : Nat) : List D := (List.range n).map fun (i : Nat) => D.int (lo + (i : Int))
def rngOk : Int → Bool
  | .ofNat n => Nat.ble n 4611686018427387903
  | .negSucc n => Nat.ble n 4611686018427387903
theorem rngOk_i {j : Int} (h : rngOk j = true) : -(2 ^ 62) ≤ j ∧ j < 2 ^ 62 := by
  cases j with
  | ofNat n =>
    have : n ≤ 4611686018427387903 := Nat.le_of_ble_eq_true h
    have e : Int.ofNat n = (n : Int) := rfl
    rw [e]; omega
  | negSucc n =>
    have : n ≤ 4611686018427387903 := Nat.le_of_ble_eq_true h
    omega
def fRng1 (fa : M (List Vl)) : M (List D) := M.bnd fa fun vs ρ => match vs with
  | [x] => match look ρ x with
    | some (.int j) => if rngOk j = true then .ok (rngD 0 j.toNat) ρ else .bad
    | _ => .bad
  | _ => .bad
def fRng2 (fa : M (List Vl)) : M (List D) := M.bnd fa fun vs ρ => match vs with
  | [x, y] => match look ρ x, look ρ y with
    | some (.int i), some (.int j) => if rngOk i = true ∧ rngOk j = true then .ok (rngD i (j - i).toNat) ρ else .bad
    | _, _ => .bad
  | _ => .bad
section
variable {K : PySem.W.Frag} {E : XW} {te : TE} {fe : M Vl} {ta : TA} {fa : M (List Vl)}
theorem fz_post {α β : Type} {C : Ctx} {F H : Hp} {σ : L2.St} {ρ : Rho} {VR : Hp → Hp → Rho → β → α → Prop} {Q : β → Hp → Prop} {v : V} {x : Vl} {k : D → M α} (ok : Ok C F H σ ρ) (h : VlOk C F σ ρ v x) (p : Post C E σ ρ F H VR Q (M.bnd (fz x) k ρ)) {P : Prop}
    (q : ∀ y r F', Ok C F' H σ r → Step σ ρ r F H F' H → Rep C.K F' v y → Post C E σ r F' H VR Q (k y r) → P) : P := by
  unfold M.bnd at p
  cases e : fz x ρ with
  | bad => rw [e] at p; exact p.elim
  | exc z r => exact absurd e fz_noexc
  | ok y r =>
    rw [e] at p
    obtain ⟨F', ok', st, rp⟩ := fz_ok ok h e
    refine q y r F' ok' st rp ?_
    have p : Post C E σ ρ F H VR Q (k y r) := p
    cases e2 : k y r with
    | bad => rw [e2] at p; exact p
    | exc z r2 => rw [e2] at p; exact fun F2 H2 cls d ok2 ex2 xr => p F2 H2 cls d ok2 (st.fx.trans ex2) xr
    | ok c r2 =>
      rw [e2] at p
      exact fun F2 H2 d ok2 st2 wr => p F2 H2 d ok2 (st.trans st2) wr
theorem serves_list {F : Hp} {a : Addr} {vs : List V} {xs : List D} (h : SqL K F a vs) (r : RepL K F vs xs) : Serves K F (Itl K a) xs := by
  refine ⟨fun H => SqL K H a vs, YAt vs, by rw [← r.length]; exact walk_list, fun F2 H e1 e2 => e2.le.l (e1.le.l h), ?_⟩
  rintro i F2 H v H' hi e1 e2 ⟨rfl, hv⟩
  obtain ⟨x, hx, rp⟩ := r.getV hv
  exact ⟨F2, .refl, x, hx, rp.ex e1⟩
theorem serves_tup {F : Hp} {a : Addr} {vs : List V} {xs : List D} (h : SqT K F a vs) (r : RepL K F vs xs) : Serves K F (Itt K a) xs := by
  refine ⟨fun H => SqT K H a vs, YAt vs, by rw [← r.length]; exact walk_tup, fun F2 H e1 e2 => e2.le.t (e1.le.t h), ?_⟩
  rintro i F2 H v H' hi e1 e2 ⟨rfl, hv⟩
  obtain ⟨x, hx, rp⟩ := r.getV hv
  exact ⟨F2, .refl, x, hx, rp.ex e1⟩
theorem serves_rng {F : Hp} {lo : Int} {n : Nat} : Serves K F (Itr lo n) (rngD lo n) := by
  have hl : (rngD lo n).length = n := by simp [rngD]
  refine ⟨fun _ => True, YFn fun i => .int (lo + i), by rw [hl]; exact walk_range, fun _ _ _ _ => trivial, ?_⟩
  rintro i F2 H v H' hi e1 e2 ⟨rfl, rfl⟩
  rw [hl] at hi
  exact ⟨F2, .refl, .int (lo + i), by simp [rngD, hi], .int _⟩
theorem ei_list (he : EvE K E te fe) : EvI K E (iList K te) (fItS fe pLst) := by
  intro C F H σ ρ Q hK ok h
  subst hK
  refine he C F H σ ρ _ rfl ok (Post.bnd h fun x r1 F1 H1 v e1 ok1 st1 vo1 h1 => ?_)
  refine fz_post ok1 vo1 h1 fun y r F' ok' st rp p => ?_
  cases y with
  | lst xs =>
    cases rp with
    | lst q rl => exact ⟨_, rfl, ⟨_, SqL.of (ok'.sub _ _ q)⟩, p F' H1 _ ok' .refl (serves_list (SqL.of q) rl)⟩
  | scr xs =>
    cases rp with
    | scr q rl => exact ⟨_, rfl, ⟨_, ok'.sub.le.l q⟩, p F' H1 _ ok' .refl (serves_list q rl)⟩
  | _ => exact p.elim
theorem ei_tup (he : EvE K E te fe) : EvI K E (iTup K te) (fItS fe pTup) := by
  intro C F H σ ρ Q hK ok h
  subst hK
  refine he C F H σ ρ _ rfl ok (Post.bnd h fun x r1 F1 H1 v e1 ok1 st1 vo1 h1 => ?_)
  refine fz_post ok1 vo1 h1 fun y r F' ok' st rp p => ?_
  cases y with
  | tup xs =>
    cases rp with
    | tup q rl => exact ⟨_, rfl, ⟨_, SqT.of (ok'.sub _ _ q)⟩, p F' H1 _ ok' .refl (serves_tup (SqT.of q) rl)⟩
  | _ => exact p.elim
theorem ei_rng1 (ha : EvA K E ta fa) : EvI K E (iRng1 ta) (fRng1 fa) := by
  intro C F H σ ρ Q hK ok h
  subst hK
  refine ha C F H σ ρ _ rfl ok (Post.bnd h fun xs r1 F1 H1 vs e1 ok1 st1 vo1 h1 => ?_)
  cases vo1 with
  | nil => exact h1.elim
  | cons vo t =>
    cases t with
    | cons _ _ => exact h1.elim
    | nil =>
      rename_i v x
      simp only at h1
      cases e2 : look r1 x with
      | none => simp only [e2] at h1; exact h1.elim
      | some y =>
        cases y with
        | int j =>
          simp only [e2] at h1
          have ev : v = .int j := (vo.read ok1 e2).int
          subst ev
          by_cases hj : rngOk j = true
          · rw [if_pos hj] at h1
            exact ⟨j, rfl, (rngOk_i hj).1, (rngOk_i hj).2, h1 F1 H1 _ ok1 .refl serves_rng⟩
          · rw [if_neg hj] at h1; exact h1.elim
        | _ => simp only [e2] at h1; exact h1.elim
theorem ei_rng2 (ha : EvA K E ta fa) : EvI K E (iRng2 ta) (fRng2 fa) := by
  intro C F H σ ρ Q hK ok h
  subst hK
  refine ha C F H σ ρ _ rfl ok (Post.bnd h fun xs r1 F1 H1 vs e1 ok1 st1 vo1 h1 => ?_)
  cases vo1 with
  | nil => exact h1.elim
  | cons vo t =>
    cases t with
    | nil => exact h1.elim
    | cons vo2 t2 =>
      cases t2 with
      | cons _ _ => exact h1.elim
      | nil =>
        rename_i v x w y
        simp only at h1
        cases e2 : look r1 x with
        | none => simp only [e2] at h1; exact h1.elim
        | some a =>
          cases e3 : look r1 y with
          | none => cases a <;> (simp only [e2, e3] at h1; exact h1.elim)
          | some b =>
            cases a with
            | int i =>
              cases b with
              | int j =>
                simp only [e2, e3] at h1
                have ev : v = .int i := (vo.read ok1 e2).int
                have ew : w = .int j := (vo2.read ok1 e3).int
                subst ev; subst ew
                by_cases hj : rngOk i = true ∧ rngOk j = true
                · rw [if_pos hj] at h1
                  exact ⟨i, j, rfl, ⟨(rngOk_i hj.1).1, (rngOk_i hj.1).2, (rngOk_i hj.2).1, (rngOk_i hj.2).2⟩, h1 F1 H1 _ ok1 .refl serves_rng⟩
                · rw [if_neg hj] at h1; exact h1.elim
              | _ => simp only [e2, e3] at h1; exact h1.elim
            | _ => simp only [e2, e3] at h1; exact h1.elim
end
section
variable {X : Cx} {E : XW} {tg e a b : Expr} {te : TE} {fe : M Vl} {ta : TA} {fa : M (List Vl)} {p pos : Pos} {body : List Stmt} {ti : TI} {fi : M (List D)} {g : TG} {fg : FG} {tb : TS} {gb : FS} {c : Expr} {tt : TT} {ft : M Bool}
theorem pfi_list (he : PF X e te E fe) : PFi X tg e (iList X.K te) E (fItS fe pLst) := ⟨pi_list he.pe, ei_list he.ev⟩
theorem pfi_tup (he : PF X e te E fe) : PFi X tg e (iTup X.K te) E (fItS fe pTup) := ⟨pi_tup he.pe, ei_tup he.ev⟩
theorem pfi_rng1 (hm : X.mg "range" = none) (ha : PFa X [a] ta E fa) (hg : Gl X "range" := by rfl) (hs : starEach [a] X.env = [(false, eval a X.env)] := by rfl) : PFi X tg (.Call (.Name "range" p) [a] [] pos) (iRng1 ta) E (fRng1 fa) := ⟨pi_range1 hg hm ha.pa hs, ei_rng1 ha.ev⟩
theorem pfi_rng2 (hm : X.mg "range" = none) (ha : PFa X [a, b] ta E fa) (hg : Gl X "range" := by rfl) (hs : starEach [a, b] X.env = [(false, eval a X.env), (false, eval b X.env)] := by rfl) (hs2 : starEach [b] X.env = [(false, eval b X.env)] := by rfl) : PFi X tg (.Call (.Name "range" p) [a, b] [] pos) (iRng2 ta) E (fRng2 fa) := ⟨pi_range2 hg hm ha.pa hs hs2, ei_rng2 ha.ev⟩
theorem pfs_for (hp : PassesOwn (model X.prog X.w) X.A X.env X.xe) (hi : PFi X tg e ti E fi) (hg : PFg X tg g fg) (hb : PFb X body tb E gb) (hc : X.calm = true := by rfl) (hs : ∀ x, foldedSetIterable e X.env x = pure x := by intro _; rfl) :
    PFs X (.For tg e body [] pos) (tFor ti g tb) E (fFor fi fg gb) := ⟨ps_for hp hc hi.pi hg.pg hb.pss hs, ev_for hi.ev hg.ev hb.ev⟩
theorem pfs_while (mu : Rho → Nat) (hp : PassesOwn (model X.prog X.w) X.A X.env X.xe) (hc : PFt X c tt E ft) (hb : PFb X body tb E gb) : PFs X (.While c body [] pos) (tWhile tt tb) E (fWhile mu ft gb) := ⟨ps_while hp hc.pt hb.pss, ev_while mu hc.ev hb.ev⟩
end

/-! ### comprehensions -/
/-- the block's own slots forgotten, and given back -/
def wipeR (ρ : Rho) : List Nat → Rho
  | [] => ρ
  | v :: vs => (wipeR ρ vs).set v .un
def backR (ρ ρ0 : Rho) : List Nat → Rho
  | [] => ρ
  | v :: vs => match ρ0[v]? with
    | some s => (backR ρ ρ0 vs).set v s
    | none => backR ρ ρ0 vs
def lcF (fg : FG) (ft : M Bool) (fe : M Vl) (vs : List Nat) : List D → List D → M (List D)
  | [], acc, ρ => .ok acc ρ
  | x :: xs, acc, ρ => match fg x ρ with
    | none => .bad
    | some r => match ft r with
      | .ok b r1 => if b = true then (match M.bnd fe fz r1 with
        | .ok y r2 => if acc.length < 1000000 then lcF fg ft fe vs xs (acc ++ [y]) (wipeR r2 vs) else .bad
        | .exc _ _ => .bad
        | .bad => .bad) else lcF fg ft fe vs xs acc (wipeR r1 vs)
      | .exc _ _ => .bad
      | .bad => .bad
def fLc (fi : M (List D)) (fg : FG) (ft : M Bool) (fe : M Vl) (vs : List Nat) : M D := M.bnd fi fun xs ρ => match lcF fg ft fe vs xs [] (wipeR ρ vs) with
  | .ok ys r => .ok (.lst ys) (backR r ρ vs)
  | .exc _ _ => .bad
  | .bad => .bad

theorem wipe_get (σ : L2.St) (i : Nat) : ∀ vs : List Nat, (wipe σ vs)[i]? = if i ∈ vs then (σ[i]?).map (fun _ => none) else σ[i]?
  | [] => by simp [wipe]
  | v :: vs => by
    have ih := wipe_get σ i vs
    unfold wipe
    by_cases hi : v = i
    · subst hi
      rw [if_pos List.mem_cons_self]
      by_cases hl : v < σ.length
      · rw [List.getElem?_set_self (by rw [wipe_length]; exact hl), List.getElem?_eq_getElem hl]; rfl
      · rw [List.getElem?_eq_none (by rw [List.length_set, wipe_length]; omega), List.getElem?_eq_none (by omega)]; rfl
    · rw [List.getElem?_set_ne hi, ih]
      by_cases hv : i ∈ vs
      · rw [if_pos hv, if_pos (List.mem_cons_of_mem _ hv)]
      · rw [if_neg hv, if_neg (fun z => (List.mem_cons.mp z).elim (fun z => hi z.symm) hv)]
theorem wipe_wipe (σ : L2.St) (vs : List Nat) : wipe (wipe σ vs) vs = wipe σ vs := List.ext_getElem? fun i => by
  rw [wipe_get, wipe_get]
  by_cases hv : i ∈ vs
  · rw [if_pos hv, if_pos hv]; cases σ[i]? <;> rfl
  · rw [if_neg hv, if_neg hv]
theorem wipe_set {σ : L2.St} {i : Nat} {a : Option V} {vs : List Nat} (h : i ∈ vs) : wipe (σ.set i a) vs = wipe σ vs := List.ext_getElem? fun j => by
  rw [wipe_get, wipe_get]
  by_cases hv : j ∈ vs
  · rw [if_pos hv, if_pos hv]
    by_cases hj : i = j
    · subst hj
      by_cases hl : i < σ.length
      · rw [List.getElem?_set_self hl, List.getElem?_eq_getElem hl]; rfl
      · rw [List.getElem?_eq_none (by rw [List.length_set]; omega), List.getElem?_eq_none (by omega)]
    · rw [List.getElem?_set_ne hj]
  · rw [if_neg hv, if_neg hv, List.getElem?_set_ne (fun z => hv (by rw [← z]; exact h))]
theorem wipeR_length (ρ : Rho) : ∀ vs : List Nat, (wipeR ρ vs).length = ρ.length
  | [] => rfl
  | v :: vs => by unfold wipeR; rw [List.length_set, wipeR_length ρ vs]
theorem wipeR_get (ρ : Rho) (i : Nat) : ∀ vs : List Nat, (wipeR ρ vs)[i]? = if i ∈ vs then (ρ[i]?).map (fun _ => Sl.un) else ρ[i]?
  | [] => by simp [wipeR]
  | v :: vs => by
    have ih := wipeR_get ρ i vs
    unfold wipeR
    by_cases hi : v = i
    · subst hi
      rw [if_pos List.mem_cons_self]
      by_cases hl : v < ρ.length
      · rw [List.getElem?_set_self (by rw [wipeR_length]; exact hl), List.getElem?_eq_getElem hl]; rfl
      · rw [List.getElem?_eq_none (by rw [List.length_set, wipeR_length]; omega), List.getElem?_eq_none (by omega)]; rfl
    · rw [List.getElem?_set_ne hi, ih]
      by_cases hv : i ∈ vs
      · rw [if_pos hv, if_pos (List.mem_cons_of_mem _ hv)]
      · rw [if_neg hv, if_neg (fun z => (List.mem_cons.mp z).elim (fun z => hi z.symm) hv)]
theorem wipeR_own {ρ : Rho} {i : Nat} {vs : List Nat} (h : isOwn (wipeR ρ vs)[i]? = true) : i ∉ vs ∧ isOwn ρ[i]? = true := by
  rw [wipeR_get] at h
  by_cases hv : i ∈ vs
  · rw [if_pos hv] at h
    cases q : ρ[i]? with
    | none => rw [q] at h; cases h
    | some s => rw [q] at h; cases h
  · rw [if_neg hv] at h; exact ⟨hv, h⟩
theorem backR_length (ρ ρ0 : Rho) : ∀ vs : List Nat, (backR ρ ρ0 vs).length = ρ.length
  | [] => rfl
  | v :: vs => by
    unfold backR
    cases ρ0[v]? with
    | none => exact backR_length ρ ρ0 vs
    | some s => rw [List.length_set]; exact backR_length ρ ρ0 vs
theorem backR_get {ρ ρ0 : Rho} (hl : ρ.length = ρ0.length) (i : Nat) : ∀ vs : List Nat, (backR ρ ρ0 vs)[i]? = if i ∈ vs then ρ0[i]? else ρ[i]?
  | [] => by simp [backR]
  | v :: vs => by
    have ih := backR_get hl i vs
    unfold backR
    cases q : ρ0[v]? with
    | none =>
      simp only
      rw [ih]
      by_cases hi : i = v
      · subst hi
        have hn : ρ[i]? = none := List.getElem?_eq_none (by rw [hl]; exact List.getElem?_eq_none_iff.mp q)
        rw [q, hn]; simp
      · by_cases hv : i ∈ vs
        · rw [if_pos hv, if_pos (List.mem_cons_of_mem _ hv)]
        · rw [if_neg hv, if_neg (fun z => (List.mem_cons.mp z).elim hi hv)]
    | some s =>
      simp only
      have hlt : v < ρ0.length := (List.getElem?_eq_some_iff.mp q).1
      by_cases hi : v = i
      · subst hi
        rw [if_pos List.mem_cons_self, List.getElem?_set_self (by rw [backR_length, hl]; exact hlt), q]
      · rw [List.getElem?_set_ne hi, ih]
        by_cases hv : i ∈ vs
        · rw [if_pos hv, if_pos (List.mem_cons_of_mem _ hv)]
        · rw [if_neg hv, if_neg (fun z => (List.mem_cons.mp z).elim (fun z => hi z.symm) hv)]
/-- a target whose slots are the block's own -/
structure EvGc (K : PySem.W.Frag) (vs : List Nat) (g : TG) (fg : FG) : Prop where
  sh : ∀ x ρ ρ', fg x ρ = some ρ' → ∀ j : Nat, isOwn ρ'[j]? = true → isOwn ρ[j]? = true
  run : ∀ (C : Ctx) (F H : Hp) (σ : L2.St) (ρ ρ' : Rho) (v : V) (x : D) (Q : L2.St → Hp → Prop), C.K = K → Ok C F H σ ρ → Rep K F v x → fg x ρ = some ρ' → (∀ σ', Ok C F H σ' ρ' → wipe σ' vs = wipe σ vs → Q σ' H) → g v σ H Q
structure EvGcs (K : PySem.W.Frag) (vs : List Nat) (g : TGs) (fg : List D → Rho → Option Rho) : Prop where
  sh : ∀ x ρ ρ', fg x ρ = some ρ' → ∀ j : Nat, isOwn ρ'[j]? = true → isOwn ρ[j]? = true
  run : ∀ (C : Ctx) (F H : Hp) (σ : L2.St) (ρ ρ' : Rho) (v : List V) (x : List D) (Q : L2.St → Hp → Prop), C.K = K → Ok C F H σ ρ → RepL K F v x → fg x ρ = some ρ' → (∀ σ', Ok C F H σ' ρ' → wipe σ' vs = wipe σ vs → Q σ' H) → g v σ H Q
section
variable {K : PySem.W.Frag} {vs : List Nat} {g : TG} {fg : FG}
theorem egc_n {i : Nat} (h : i ∈ vs) : EvGc K vs (gName i) (gN i) where
  sh := fun x ρ ρ' e j hj => by cases e; exact (own_set hj).2
  run := fun C F H σ ρ ρ' v x Q hK ok r e q => by
    subst hK
    cases e
    exact q _ (ok.set r) (wipe_set h)
theorem egc_nil : EvGcs K vs gNil gsNil where
  sh := fun x ρ ρ' e j hj => by cases x <;> cases e; exact hj
  run := fun C F H σ ρ ρ' v x Q hK ok r e q => by
    cases r with
    | nil => cases e; exact ⟨rfl, q σ ok rfl⟩
    | cons _ _ => cases e
theorem egc_cons {t : TGs} {fs : List D → Rho → Option Rho} (h1 : EvGc K vs g fg) (h2 : EvGcs K vs t fs) : EvGcs K vs (gCons g t) (gsCons fg fs) where
  sh := fun x ρ ρ' e j hj => by
    cases x with
    | nil => cases e
    | cons x xs =>
      unfold gsCons at e
      cases e1 : fg x ρ with
      | none => simp [e1] at e
      | some r1 =>
        simp only [e1] at e
        exact h1.sh _ _ _ e1 j (h2.sh _ _ _ e j hj)
  run := fun C F H σ ρ ρ' v x Q hK ok r e q => by
    cases r with
    | nil => cases e
    | cons r rr =>
      unfold gsCons at e
      rename_i v vs' x xs'
      cases e1 : fg x ρ with
      | none => simp [e1] at e
      | some r1 =>
        simp only [e1] at e
        exact ⟨_, _, rfl, h1.run C F H σ ρ r1 _ _ _ hK ok r e1 fun σ' ok' w1 => h2.run C F H σ' r1 ρ' _ _ Q hK ok' rr e fun σ2 ok2 w2 => q σ2 ok2 (w2.trans w1)⟩
theorem egc_tup {n : Nat} {t : TGs} {fs : List D → Rho → Option Rho} (h : EvGcs K vs t fs) : EvGc K vs (gTup K n t) (gT n fs) where
  sh := fun x ρ ρ' e j hj => by
    cases x with
    | tup ys =>
      simp only [gT] at e
      by_cases hn : ys.length = n
      · simp only [hn, if_true] at e; exact h.sh _ _ _ e j hj
      · simp only [hn, if_false] at e; cases e
    | _ => cases e
  run := fun C F H σ ρ ρ' v x Q hK ok r e q => by
    cases x with
    | tup ys =>
      simp only [gT] at e
      by_cases hn : ys.length = n
      · simp only [hn, if_true] at e
        obtain ⟨a, vs, rfl, hs, rl⟩ := RepH.tup ok.sub (.inl r : RepH K F H v (.tup ys))
        exact ⟨a, vs, rfl, hs, by rw [rl.length]; exact hn, h.run C F H σ ρ ρ' vs ys Q hK ok rl e q⟩
      · simp only [hn, if_false] at e; cases e
    | _ => cases e
end
section
variable {C : Ctx} {F H F' H' F1 H1 : Hp} {σ σ' : L2.St} {ρ ρ' r r1 : Rho} {vs : List Nat}
theorem Ok.wipe (ok : Ok C F H σ ρ) : Ok C F H (wipe σ vs) (wipeR ρ vs) where
  sub := ok.sub
  len := by rw [wipe_length, wipeR_length]; exact ok.len
  sl := fun j s e => by
    rw [wipeR_get] at e
    by_cases hv : j ∈ vs
    · rw [if_pos hv] at e
      cases q : ρ[j]? with
      | none => rw [q] at e; cases e
      | some u => rw [q] at e; cases e; trivial
    · rw [if_neg hv] at e
      rw [wipe_get, if_neg hv]
      exact ok.sl j s e
  dj := fun i j a hij h1 h2 q => by
    obtain ⟨n1, o1⟩ := wipeR_own h1
    obtain ⟨n2, o2⟩ := wipeR_own h2
    rw [wipe_get, if_neg n1] at q
    rw [wipe_get, if_neg n2]
    exact ok.dj i j a hij o1 o2 q
  fx := ok.fx
  own0 := ok.own0
  there := ok.there
  keep := ok.keep
theorem own_wipe {a : Addr} (h : OwnA (L2.wipe σ vs) (wipeR ρ vs) a) : OwnA σ ρ a := by
  obtain ⟨i, hi, e⟩ := h
  obtain ⟨n, o⟩ := wipeR_own hi
  rw [wipe_get, if_neg n] at e
  exact ⟨i, o, e⟩
/-- behind the block: the slots given back -/
theorem Ok.back (ok1 : Ok C F1 H1 σ r1) (ok : Ok C F H (L2.wipe σ vs) r) (st : Step (L2.wipe σ vs) (wipeR r1 vs) r F1 H1 F H) : Ok C F H σ (backR r r1 vs) ∧ Step σ r1 (backR r r1 vs) F1 H1 F H := by
  have hl : r.length = r1.length := by rw [← ok.len, wipe_length]; exact ok1.len
  have get := backR_get hl
  have notA : ∀ j a, j ∈ vs → isOwn r1[j]? = true → σ[j]? = some (some (V.ref a)) → ¬ OwnA (L2.wipe σ vs) (wipeR r1 vs) a := fun j a hj h1 h2 ⟨k, hk, e⟩ => by
    obtain ⟨n, o⟩ := wipeR_own hk
    rw [wipe_get, if_neg n] at e
    exact ok1.dj j k a (fun z => n (z ▸ hj)) h1 o h2 e
  have own : ∀ j : Nat, isOwn (backR r r1 vs)[j]? = true → isOwn r1[j]? = true ∧ (j ∉ vs → isOwn r[j]? = true) := fun j h => by
    rw [get j vs] at h
    by_cases hv : j ∈ vs
    · rw [if_pos hv] at h; exact ⟨h, fun n => absurd hv n⟩
    · rw [if_neg hv] at h; exact ⟨(wipeR_own (st.ow j h)).2, fun _ => h⟩
  refine ⟨⟨ok.sub, by rw [backR_length, hl]; exact ok1.len, fun j s e => ?_, fun i j a hij h1 h2 q => ok1.dj i j a hij (own i h1).1 (own j h2).1 q, ok.fx, ok.own0, ok.there, ok.keep⟩,
    ⟨st.fx, fun a o h n => st.fr a o h fun z => n (own_wipe z), fun j h => (own j h).1, st.th⟩⟩
  rw [get j vs] at e
  by_cases hv : j ∈ vs
  · rw [if_pos hv] at e
    have z := ok1.sl j s e
    cases s with
    | un => trivial
    | d x => obtain ⟨u, w1, rp⟩ := z; exact ⟨u, w1, rp.ex st.fx⟩
    | own m l =>
      obtain ⟨a, o, w1, w2, w3, w4, w5⟩ := z
      obtain ⟨q1, q2⟩ := st.fr a o w3 (notA j a hv (by rw [e]; rfl) w1)
      exact ⟨a, o, w1, q2.trans w2, q1, w4.ex st.fx, w5⟩
  · rw [if_neg hv] at e
    have z := ok.sl j s e
    rw [wipe_get, if_neg hv] at z
    exact z
theorem Ok.poke {p : Addr} {o : HO} (ok : Ok C F H σ ρ) (h : H p ≠ none) (hF : F p = none) (h0 : C.H0 p = none) (n : ¬ OwnA σ ρ p) : Ok C F (upd H p o) σ ρ where
  sub := fun b u q => by
    have hb : b ≠ p := fun z => by subst z; rw [hF] at q; cases q
    rw [upd_ne hb]; exact ok.sub _ _ q
  len := ok.len
  sl := fun j s e => by
    have z := ok.sl j s e
    cases s with
    | un => trivial
    | d x => exact z
    | own m l =>
      obtain ⟨b, o2, w1, w2, w3, w4, w5⟩ := z
      have hb : b ≠ p := fun q => by subst q; exact n ⟨j, by rw [e]; rfl, w1⟩
      exact ⟨b, o2, w1, w2, by rw [upd_ne hb]; exact w3, w4, w5⟩
  dj := ok.dj
  fx := ok.fx
  own0 := ok.own0
  there := fun b hb => by
    by_cases z : b = p
    · subst z; rw [upd_same]; exact fun z => by cases z
    · rw [upd_ne z]; exact ok.there b hb
  keep := fun b u q nb => by
    have hb : b ≠ p := fun z => by subst z; rw [h0] at q; cases q
    rw [upd_ne hb]; exact ok.keep b u q nb
theorem Step.poke {p : Addr} {o : HO} (st : Step σ ρ ρ' F1 H1 F H) (h : H1 p = none) : Step σ ρ ρ' F1 H1 F (upd H p o) :=
  ⟨st.fx, fun a u q n => by
    obtain ⟨q1, q2⟩ := st.fr a u q n
    have ha : a ≠ p := fun z => by subst z; rw [h] at q; cases q
    exact ⟨by rw [upd_ne ha]; exact q1, q2⟩, st.ow, fun a ha => by
    by_cases z : a = p
    · subst z; rw [upd_same]; exact fun z => by cases z
    · rw [upd_ne z]; exact st.th a ha⟩
end
abbrev XE0 : XW := fun _ _ _ _ => False
theorem line6 {n : Nat} (h : n < 1000000) : n < sizeLine := Nat.lt_of_lt_of_le h (by decide)
section
variable {K : PySem.W.Frag} {E : XW} {ti : TI} {fi : M (List D)} {g : TG} {fg : FG} {tt : TT} {ft : M Bool} {te : TE} {fe : M Vl} {vs : List Nat}
theorem ev_lc (hi : EvI K E ti fi) (hg : EvGc K vs g fg) (ht : EvT K XE0 tt ft) (he : EvE K XE0 te fe) : EvN K E (tLc ti g tt te vs) (fLc fi fg ft fe vs) := by
  intro C F H σ ρ Q hK ok h
  subst hK
  refine hi C F H σ ρ _ rfl ok (Post.bnd h fun xs r1 F1 H1 J e1 ok1 st1 sv h1 => fun Dl hD => ?_)
  obtain ⟨G, Y, wk, hG, hY⟩ := sv
  have hDF : F1 Dl = none := ok1.sub.free hD
  have hD0 : C.H0 Dl = none := H0_none ok1 hD
  have hDo : ¬ OwnA (wipe σ vs) (wipeR r1 vs) Dl := fun z => notOwn ok1 hD (own_wipe z)
  have okw : Ok C F1 H1 (wipe σ vs) (wipeR r1 vs) := ok1.wipe
  refine lc_it wk (fun i H2 => ∃ F2 r accV acc, Ok C F2 H2 (wipe σ vs) r ∧ Step (wipe σ vs) (wipeR r1 vs) r F1 H1 F2 H2 ∧ H2 Dl = some (.lst accV) ∧ RepL C.K F2 accV acc ∧ F2 Dl = none ∧
    Post C E σ r1 F1 H1 (fun F' H' _ v m => NewO C H F' H' v m) Q (match lcF fg ft fe vs (xs.drop i) acc r with
      | .ok ys r => .ok (.lst ys) (backR r r1 vs)
      | .exc _ _ => .bad
      | .bad => .bad)) ?_ ?_ ?_ ?_
  · have al : Alloc F1 H1 F1 (upd H1 Dl (.lst [])) := .raw hD ok1.sub
    exact ⟨F1, wipeR r1 vs, [], [], okw.alloc al, .of_alloc al, upd_same, .nil, hDF, h1⟩
  · rintro i H2 hi ⟨F2, r, accV, acc, ok2, st2, _⟩
    exact hG F2 H2 st2.fx ok2.sub
  · rintro i v H2 H3 hi ⟨F2, r, accV, acc, ok2, st2, hDl, hacc, hDF2, p⟩ y
    obtain ⟨F3, al, x, hx, rp⟩ := hY i F2 H2 v H3 hi st2.fx ok2.sub y
    have e : xs.drop i = x :: xs.drop (i + 1) := by
      obtain ⟨hl, hx'⟩ := List.getElem?_eq_some_iff.mp hx
      rw [List.drop_eq_getElem_cons hl, hx']
    rw [e] at p
    unfold lcF at p
    cases eg : fg x r with
    | none => simp only [eg] at p; exact p.elim
    | some r' =>
      simp only [eg] at p
      have ok3 := ok2.alloc al
      refine hg.run C F3 H3 (wipe σ vs) r r' v x _ rfl ok3 rp eg fun σ3 okg hw => ?_
      rw [wipe_wipe] at hw
      -- own slots of the block's state are own slots of the state ahead
      have ow3 : ∀ {q : Rho} {a : Addr}, (∀ j : Nat, isOwn q[j]? = true → isOwn r'[j]? = true) → OwnA σ3 q a → OwnA (wipe σ vs) r a := fun {q a} hq ⟨j, hj, ea⟩ => by
        have o1 := hg.sh x r r' eg j (hq j hj)
        obtain ⟨n, _⟩ := wipeR_own (st2.ow j o1)
        refine ⟨j, o1, ?_⟩
        rw [← hw, wipe_get, if_neg n]
        exact ea
      have noD : ¬ OwnA (wipe σ vs) r Dl := fun ⟨j, w, z⟩ => hDo ⟨j, st2.ow j w, z⟩
      -- a step from the block's state
      have step : ∀ {F4 H4 : Hp} {q : Rho}, Step σ3 r' q F3 H3 F4 H4 → Step (wipe σ vs) (wipeR r1 vs) (wipeR q vs) F1 H1 F4 H4 := fun {F4 H4 q} s4 =>
        ⟨st2.fx.trans (al.fx.trans s4.fx), fun a o ha n => by
          obtain ⟨q1, q2⟩ := st2.fr a o ha n
          have q3 := al.hx _ _ q1
          have q4 := al.own a (by rw [q1]; exact fun z => by cases z)
          obtain ⟨q5, q6⟩ := s4.fr a o q3 fun z => n (by
            obtain ⟨j, w, z'⟩ := ow3 (fun _ h => h) z
            exact ⟨j, st2.ow j w, z'⟩)
          exact ⟨q5, q6.trans (q4.trans q2)⟩, fun j hj => st2.ow j (hg.sh x r r' eg j (s4.ow j (wipeR_own hj).2)), fun a ha => s4.th a (by
            have := st2.th a ha
            cases q : H2 a with
            | none => exact absurd q this
            | some o => rw [al.hx a o q]; exact fun z => by cases z)⟩
      have atD : ∀ {F4 H4 : Hp} {q : Rho}, Step σ3 r' q F3 H3 F4 H4 → H4 Dl = some (.lst accV) ∧ F4 Dl = none := fun {F4 H4 q} s4 => by
        obtain ⟨q5, q6⟩ := s4.fr Dl _ (al.hx _ _ hDl) fun z => noD (ow3 (fun _ h => h) z)
        exact ⟨q5, q6.trans ((al.own Dl (by rw [hDl]; exact fun z => by cases z)).trans hDF2)⟩
      refine ⟨hw, ht C F3 H3 σ3 r' _ rfl okg ?_⟩
      cases et : ft r' with
      | bad => simp only [et] at p; exact p.elim
      | exc _ _ => simp only [et] at p; exact p.elim
      | ok b r4 =>
        simp only [et] at p
        intro F4 H4 c ok4 st4 hc
        cases hc
        cases b with
        | false =>
          simp only [Bool.false_eq_true, if_false] at p ⊢
          obtain ⟨d1, d2⟩ := atD st4
          refine ⟨F4, wipeR r4 vs, accV, acc, ?_, step st4, d1, hacc.ex (al.fx.trans st4.fx), d2, p⟩
          rw [← hw]
          exact ok4.wipe
        | true =>
          simp only [if_true] at p ⊢
          unfold M.bnd at p
          refine he C F4 H4 σ3 r4 _ rfl ok4 ?_
          cases ee : fe r4 with
          | bad => simp only [ee] at p; exact p.elim
          | exc _ _ => simp only [ee] at p; exact p.elim
          | ok vl r5 =>
            simp only [ee] at p
            intro F5 H5 u ok5 st5 vo
            cases ez : fz vl r5 with
            | bad => simp only [ez] at p; exact p.elim
            | exc _ _ => exact absurd ez fz_noexc
            | ok y r6 =>
              simp only [ez] at p
              obtain ⟨F6, ok6, st6, rp6⟩ := fz_ok ok5 vo ez
              have s6 := st4.trans (st5.trans st6)
              obtain ⟨d1, d2⟩ := atD s6
              by_cases hl : acc.length < 1000000
              · rw [if_pos hl] at p
                have hr : RepL C.K F6 (accV ++ [u]) (acc ++ [y]) := (hacc.ex (al.fx.trans s6.fx)).snoc rp6
                have okW : Ok C F6 H5 (wipe σ vs) (wipeR r6 vs) := by rw [← hw]; exact ok6.wipe
                have nD : ¬ OwnA (wipe σ vs) (wipeR r6 vs) Dl := fun ⟨j, w, z⟩ => hDo ⟨j, (step s6).ow j w, z⟩
                refine ⟨accV, d1, by rw [hacc.length]; exact line6 hl, F6, wipeR r6 vs, accV ++ [u], acc ++ [y], okW.poke (by rw [d1]; exact fun z => by cases z) d2 hD0 nD, (step s6).poke hD, upd_same, hr, d2, p⟩
              · rw [if_neg hl] at p; exact p.elim
  · rintro H2 ⟨F2, r, accV, acc, ok2, st2, hDl, hacc, hDF2, p⟩
    rw [List.drop_length] at p
    obtain ⟨ok', st'⟩ := ok1.back ok2 st2
    exact p F2 H2 _ ok' st' ⟨Dl, _, rfl, st1.free hD, hDF2, hDl, .lst hacc⟩
end
section
variable {X : Cx} {E : XW} {elt tg iter : Expr} {ifs : List Expr} {scope : Scope} {own : List (Str × Nat)} {pos spos py : Pos} {ti : TI} {fi : M (List D)} {g : TG} {fg : FG} {tt : TT} {ft : M Bool} {te : TE} {fe : M Vl}
structure PGc (X : Cx) (vs : List Nat) (e : Expr) (g : TG) (fg : FG) : Prop where
  pg : PG X e g
  ev : EvGc X.K vs g fg
structure PGcs (X : Cx) (vs : List Nat) (e : List Expr) (g : TGs) (fg : List D → Rho → Option Rho) : Prop where
  pg : PGs X e g
  ev : EvGcs X.K vs g fg
structure PTf (X : Cx) (ifs : List Expr) (tt : TT) (ft : M Bool) : Prop where
  pt : PTs X ifs tt
  ev : EvT X.K XE0 tt ft
theorem ptf_nil : PTf X [] tYes (fun ρ => .ok true ρ) := ⟨pts_nil, fun C F H σ ρ Q hK ok h => h F H true ok .refl rfl⟩
theorem ptf_one {c : Expr} (h : PFt X c tt XE0 ft) : PTf X [c] tt ft := ⟨pts_one h.pt, h.ev⟩
theorem pgc_n {vs : List Nat} {i : Nat} {x : Str} (hN : X.N.Nodup) (hi : X.N[i]? = some x := by rfl) (h : i ∈ vs := by decide) (hx : Loc X.env.scope x := by first | exact .inl rfl | exact .inr rfl) (hf : X.fn x = true ∨ X.env.scope.names.lookup x = some .local := by first | exact .inl rfl | exact .inr rfl) :
    PGc X vs (.Name x pos) (gName i) (gN i) := ⟨pg_name hN hi hx hf, egc_n h⟩
theorem pgcs_nil {vs : List Nat} : PGcs X vs [] gNil gsNil := ⟨pgs_nil, egc_nil⟩
theorem pgcs_cons {vs : List Nat} {e : Expr} {es : List Expr} {gs : TGs} {fs : List D → Rho → Option Rho} (h1 : PGc X vs e g fg) (h2 : PGcs X vs es gs fs) (hs : (assignEach (e :: es) X.env).map (·.2) = assign e X.env :: (assignEach es X.env).map (·.2) := by rfl) :
    PGcs X vs (e :: es) (gCons g gs) (gsCons fg fs) := ⟨pgs_cons h1.pg h2.pg hs, egc_cons h1.ev h2.ev⟩
theorem pgc_t {vs : List Nat} {k n : Nat} {es : List Expr} {gs : TGs} {fs : List D → Rho → Option Rho} (h : PGcs X vs es gs fs) (hc : X.calm = true := by rfl) (hn : (assignEach es X.env).length = n := by rfl) (hst : (assignEach es X.env).findIdx? (·.1) = none := by rfl) :
    PGc X vs (.Tuple es k pos) (gTup X.K n gs) (gT n fs) := ⟨pg_tup hc h.pg hn hst, egc_tup h.ev⟩
/-! what a meaning wants at least -/
def tFe (K : PySem.W.Frag) (E : XW) (f : M Vl) : TE := fun σ H Q => ∃ (C : Ctx) (F : Hp) (ρ : Rho), C.K = K ∧ Ok C F H σ ρ ∧ PostE C E σ ρ F H Q (f ρ)
def tFt (K : PySem.W.Frag) (E : XW) (f : M Bool) : TT := fun σ H Q => ∃ (C : Ctx) (F : Hp) (ρ : Rho), C.K = K ∧ Ok C F H σ ρ ∧ PostT C E σ ρ F H Q (f ρ)
def tFs (K : PySem.W.Frag) (E : XW) (g : FS) : TS := fun De σ H => ∃ (C : Ctx) (F : Hp) (ρ : Rho), C.K = K ∧ Ok C F H σ ρ ∧ PostS C E F De (g ρ)
def tFgc (K : PySem.W.Frag) (vs : List Nat) (fg : FG) : TG := fun v σ H Q => ∃ (C : Ctx) (F : Hp) (ρ ρ' : Rho) (x : D), C.K = K ∧ Ok C F H σ ρ ∧ Rep K F v x ∧ fg x ρ = some ρ' ∧ ∀ σ', Ok C F H σ' ρ' → L2.wipe σ' vs = L2.wipe σ vs → Q σ' H
def tFi (K : PySem.W.Frag) (E : XW) (fi : M (List D)) : TI := fun σ H Q => ∃ (C : Ctx) (F : Hp) (ρ : Rho), C.K = K ∧ Ok C F H σ ρ ∧ Post C E σ ρ F H (fun F' _ _ (J : It) xs => Serves K F' J xs) Q (fi ρ)
theorem can_e {X : Cx} {e : Expr} {te : TE} {E : XW} {f : M Vl} (h : PF X e te E f) : PE X e (tFe X.K E f) := ⟨fun pins s σ H Q I ⟨C, F, ρ, hK, ok, p⟩ => h.pe.run pins s σ H Q I (h.ev C F H σ ρ Q hK ok p)⟩
theorem can_ev {K : PySem.W.Frag} {E : XW} {f : M Vl} : EvE K E (tFe K E f) f := fun C F H σ ρ Q hK ok p => ⟨C, F, ρ, hK, ok, p⟩
theorem can_t {X : Cx} {ifs : List Expr} {tt : TT} {f : M Bool} (h : PTf X ifs tt f) : PTs X ifs (tFt X.K XE0 f) := ⟨fun pins s σ H Q I ⟨C, F, ρ, hK, ok, p⟩ => h.pt.run pins s σ H Q I (h.ev C F H σ ρ Q hK ok p)⟩
theorem can_tv {K : PySem.W.Frag} {E : XW} {f : M Bool} : EvT K E (tFt K E f) f := fun C F H σ ρ Q hK ok p => ⟨C, F, ρ, hK, ok, p⟩
theorem can_s {X : Cx} {st : List Stmt} {ts : TS} {E : XW} {g : FS} (h : PFb X st ts E g) : PSs X st (tFs X.K E g) := ⟨fun pins s σ H De I ⟨C, F, ρ, hK, ok, p⟩ => h.pss.run pins s σ H De I (h.ev C F H σ ρ De hK ok p)⟩
theorem can_sv {K : PySem.W.Frag} {E : XW} {g : FS} : EvS K E (tFs K E g) g := fun C F H σ ρ De hK ok p => ⟨C, F, ρ, hK, ok, p⟩
theorem can_g {X : Cx} {vs : List Nat} {e : Expr} {g : TG} {fg : FG} (h : PGc X vs e g fg) : PG X e (tFgc X.K vs fg) := ⟨fun pins s σ H v u Q I r ⟨C, F, ρ, ρ', x, hK, ok, rp, e, p⟩ => h.pg.run pins s σ H v u Q I r (h.ev.run C F H σ ρ ρ' v x Q hK ok rp e p)⟩
theorem can_gv {K : PySem.W.Frag} {vs : List Nat} {g : TG} {fg : FG} (h : EvGc K vs g fg) : EvGc K vs (tFgc K vs fg) fg := ⟨h.sh, fun C F H σ ρ ρ' v x Q hK ok rp e p => ⟨C, F, ρ, ρ', x, hK, ok, rp, e, p⟩⟩
theorem can_i {X : Cx} {tg e : Expr} {ti : TI} {E : XW} {fi : M (List D)} (h : PFi X tg e ti E fi) : PI X tg e (tFi X.K E fi) := ⟨fun pins s σ H Q I ⟨C, F, ρ, hK, ok, p⟩ => h.pi.run pins s σ H Q I (h.ev C F H σ ρ Q hK ok p)⟩
theorem can_iv {K : PySem.W.Frag} {E : XW} {fi : M (List D)} : EvI K E (tFi K E fi) fi := fun C F H σ ρ Q hK ok p => ⟨C, F, ρ, hK, ok, p⟩
/-- [elt for tg in iter if ..] -/
theorem pn_lc (hN : X.N.Nodup) (hi : PFi X tg iter ti E fi) (ok : BlkOk X.N X.env.scope scope own)
    (hg : ∀ (s : Shared) (H : Hp) (C : Addr) (cl : List (Str × Addr)) (fp : List Addr), ∃ g, PGc (X.blk s H scope (compEnvC scope cl C X.env) fp) (own.map (·.2)) tg g fg)
    (ht : ∀ (s : Shared) (H : Hp) (C : Addr) (cl : List (Str × Addr)) (fp : List Addr), ∃ tt, PTf (X.blk s H scope (compEnvC scope cl C X.env) fp) ifs tt ft)
    (he : ∀ (s : Shared) (H : Hp) (C : Addr) (cl : List (Str × Addr)) (fp : List Addr), ∃ te, PF (X.blk s H scope (compEnvC scope cl C X.env) fp) elt te XE0 fe) (hc : X.calm = true := by rfl) (hs : ∀ x, foldedSetIterable iter X.env x = pure x := by intro _; rfl) :
    PN X (.ListComp elt [⟨tg, iter, ifs, 0⟩] scope pos) (tLc ti (tFgc X.K (own.map (·.2)) fg) (tFt X.K XE0 ft) (tFe X.K XE0 fe) (own.map (·.2))) E (fLc fi fg ft fe (own.map (·.2))) := by
  refine ⟨pe_lc hc hN hi.pi ok (fun s H C cl fp => ?_) (fun s H C cl fp => ?_) (fun s H C cl fp => ?_) hs, ?_⟩
  · obtain ⟨g, h⟩ := hg s H C cl fp; exact can_g h
  · obtain ⟨g, h⟩ := ht s H C cl fp; exact can_t h
  · obtain ⟨g, h⟩ := he s H C cl fp; exact can_e h
  · obtain ⟨g, h⟩ := hg X.s_0 X.H_0 0 [] []
    exact ev_lc hi.ev (can_gv h.ev) can_tv can_ev
end
end DL

namespace DL
open PySem PySem.Spec PyProof.Rows L2

/-! ### a def's promise -/
/-- vs, in H, mean the slots ρa: data, or objects that the callee may change -/
structure Args (K : PySem.W.Frag) (F H : Hp) (vs : List V) (ρa : Rho) : Prop where
  sub : Ex F H
  len : vs.length = ρa.length
  da : ∀ (i : Nat) (x : D), ρa[i]? = some (.d x) → ∃ v, vs[i]? = some v ∧ Rep K F v x
  oa : ∀ (i : Nat) (m : D) (l : Bool), ρa[i]? = some (.own m l) → l = false ∧ ∃ (a : Addr) (o : HO), vs[i]? = some (V.ref a) ∧ F a = none ∧ H a = some o ∧ Cont K F o m
  dj : ∀ (i j : Nat) (a : Addr), i ≠ j → isOwn ρa[i]? = true → isOwn ρa[j]? = true → vs[i]? = some (V.ref a) → vs[j]? ≠ some (V.ref a)
def ArgA (vs : List V) (ρa : Rho) (a : Addr) : Prop := ∃ i : Nat, isOwn ρa[i]? = true ∧ vs[i]? = some (V.ref a)
structure Kept (F H F' H' : Hp) (vs : List V) (ρa : Rho) : Prop where
  fx : Ex F F'
  sub : Ex F' H'
  fr : ∀ a o, H a = some o → ¬ ArgA vs ρa a → H' a = some o ∧ F' a = F a
  th : ∀ a, H a ≠ none → H' a ≠ none
structure Back (K : PySem.W.Frag) (F H F' H' : Hp) (vs : List V) (ρa r : Rho) : Prop extends Kept F H F' H' vs ρa where
  outs : ∀ i : Nat, isOwn ρa[i]? = true → ∃ (m : D) (a : Addr) (o : HO), r[i]? = some (.own m false) ∧ vs[i]? = some (V.ref a) ∧ F' a = none ∧ H' a = some o ∧ Cont K F' o m
abbrev Fn := Rho → R D
def PostF (K : PySem.W.Frag) (F H : Hp) (vs : List V) (ρa : Rho) (Q : VK) (E : XK) : R D → Prop
  | .ok x r => ∀ F' H' v, Back K F H F' H' vs ρa r → Rep K F' v x → Q v H'
  | .exc e r => ∀ F' H' cls d, Kept F H F' H' vs ρa → XRep K F' H' e cls d → E cls d H'
  | .bad => False
def spD (K : PySem.W.Frag) (np : Nat) (fn : Fn) : Sp := fun vs H Q E => ∃ F ρa, Args K F H vs ρa ∧ ρa.length = np ∧ PostF K F H vs ρa Q E (fn ρa)
def isPar : Option Sl → Bool
  | some (.own _ false) => true
  | _ => false
def outsOk (ρa r : Rho) : Bool := (List.range ρa.length).all fun i => !isOwn ρa[i]? || isPar r[i]?
/-- the function of a body with n slots -/
def fnOf (n : Nat) (g : FS) : Fn := fun ρa => match g (ρa ++ List.replicate (n - ρa.length) .un) with
  | .nx r => if outsOk ρa r = true then .ok .non r else .bad
  | .rt x r => if outsOk ρa r = true then .ok x r else .bad
  | .exc e r => .exc e r
  | _ => .bad
section
variable {P : Program} {w : World} {K : PySem.W.Frag} {mg : Str → Option Value} {base : Heap}
theorem get_app_left {α : Type} {l m : List α} {i : Nat} {x : α} (h : l[i]? = some x) : (l ++ m)[i]? = some x := by
  rw [List.getElem?_append_left (List.getElem?_eq_some_iff.mp h).1]; exact h
theorem Args.ok {F H : Hp} {vs : List V} {ρa : Rho} {N : List Str} (h : Args K F H vs ρa) (hn : ρa.length ≤ N.length) :
    Ok ⟨K, F, H, L2.start N vs, ArgA vs ρa⟩ F H (L2.start N vs) (ρa ++ List.replicate (N.length - ρa.length) .un) := by
  have gs : ∀ {i : Nat} {v : V}, vs[i]? = some v → (L2.start N vs)[i]? = some (some v) := fun {i v} e => by
    unfold L2.start
    exact get_app_left (by rw [List.getElem?_map, e]; rfl)
  have gv : ∀ {i : Nat} {v : V}, (L2.start N vs)[i]? = some (some v) → vs[i]? = some v := fun {i v} e => by
    unfold L2.start at e
    by_cases hi : i < vs.length
    · rw [List.getElem?_append_left (by rw [List.length_map]; exact hi), List.getElem?_map, List.getElem?_eq_getElem hi] at e
      rw [List.getElem?_eq_getElem hi]
      simpa using e
    · rw [List.getElem?_append_right (by rw [List.length_map]; omega)] at e
      have := List.mem_of_getElem? e
      rw [List.mem_replicate] at this
      cases this.2
  have ow : ∀ {i : Nat}, isOwn (ρa ++ List.replicate (N.length - ρa.length) .un)[i]? = true → isOwn ρa[i]? = true := fun {i} e => by
    by_cases hi : i < ρa.length
    · rw [List.getElem?_append_left hi] at e; exact e
    · rw [List.getElem?_append_right (by omega)] at e
      cases q : (List.replicate (N.length - ρa.length) Sl.un)[i - ρa.length]? with
      | none => rw [q] at e; cases e
      | some s =>
        rw [q] at e
        have := List.mem_of_getElem? q
        rw [List.mem_replicate] at this
        rw [this.2] at e; cases e
  refine ⟨h.sub, ?_, fun i s e => ?_, fun i j a hij h1 h2 q z => h.dj i j a hij (ow h1) (ow h2) (gv q) (gv z), .refl _, fun _ _ => rfl, fun _ h => h, fun _ _ e _ => e⟩
  · unfold L2.start
    rw [List.length_append, List.length_append, List.length_map, List.length_replicate, List.length_replicate, h.len]
  · by_cases hi : i < ρa.length
    · rw [List.getElem?_append_left hi] at e
      cases s with
      | un => trivial
      | d x =>
        obtain ⟨v, e1, r⟩ := h.da i x e
        exact ⟨v, gs e1, r⟩
      | own m l =>
        obtain ⟨rfl, a, o, e1, e2, e3, c⟩ := h.oa i m l e
        exact ⟨a, o, gs e1, e2, e3, c, by simpa using ⟨gs e1, i, by rw [e]; rfl, e1⟩⟩
    · rw [List.getElem?_append_right (by omega)] at e
      have := List.mem_of_getElem? e
      rw [List.mem_replicate] at this
      rw [this.2]; trivial
theorem kept_of {F H F' H' : Hp} {vs : List V} {ρa r : Rho} {σ' : L2.St} {N : List Str} (ok : Ok ⟨K, F, H, L2.start N vs, ArgA vs ρa⟩ F' H' σ' r) : Kept F H F' H' vs ρa :=
  ⟨ok.fx, ok.sub, fun a o h n => ⟨ok.keep a o h n, ok.own0 a (by
    show H a ≠ none
    rw [h]; exact fun z => by cases z)⟩, ok.there⟩
theorem back_of {F H F' H' : Hp} {vs : List V} {ρa r : Rho} {σ' : L2.St} {N : List Str} (ok : Ok ⟨K, F, H, L2.start N vs, ArgA vs ρa⟩ F' H' σ' r) (ho : outsOk ρa r = true) (hl : vs.length = ρa.length) : Back K F H F' H' vs ρa r := by
  refine ⟨kept_of ok, fun i hi => ?_⟩
  have hlt : i < ρa.length := by
    by_cases hl : i < ρa.length
    · exact hl
    · rw [List.getElem?_eq_none (by omega)] at hi; cases hi
  have z := List.all_eq_true.mp ho i (List.mem_range.mpr hlt)
  rw [hi] at z
  simp only [Bool.not_true, Bool.false_or] at z
  cases q : r[i]? with
  | none => rw [q] at z; cases z
  | some s =>
    rw [q] at z
    cases s with
    | own m l =>
      cases l with
      | true => cases z
      | false =>
        obtain ⟨a, o, e1, e2, e3, c, l0⟩ := ok.sl i _ q
        have l0 : (L2.start N vs)[i]? = some (some (V.ref a)) ∧ ArgA vs ρa a := by simpa using l0
        refine ⟨m, a, o, rfl, ?_, e2, e3, c⟩
        have e := l0.1
        unfold L2.start at e
        rw [List.getElem?_append_left (by rw [List.length_map, hl]; exact hlt), List.getElem?_map, List.getElem?_eq_getElem (by omega)] at e
        rw [List.getElem?_eq_getElem (by omega)]
        simpa using e
    | _ => cases z
/-- THE RULE for a def -/
theorem def_ok {x qual : Str} {st : Stmt} {f : Addr} {fd : FuncData} {N ps : List Str} {k : Nat} {g : FS} (Fu : Fun K x qual st f fd) (S : FnScope N ps (defScope st)) (hn : ps.length ≤ N.length)
    (hb : ∀ (cdv : Value) (A : Around) (outer : List Env) (s : Shared) (H : Hp) (E : XK), Room k (A.deeper (envOfC qual (defScope st) s.heap.objs.size f cdv)) →
      ∃ t, PFb (cxOf (L2.CX P w) P w K mg base N qual (defScope st) f cdv A outer s H E) (defBody st) t (fun _ => E) g) :
    FnOk P w K mg base (L2.CX P w) (k + 1) f fd ps (spD K ps.length (fnOf N.length g)) := by
  refine Fu.okX S (fun vs H Q E h => ?_) (fun cdv A outer s H vs Q E hr h => ?_)
  · obtain ⟨F, ρa, ha, hl, _⟩ := h
    rw [ha.len, hl]
  · obtain ⟨F, ρa, ha, hl, hp⟩ := h
    obtain ⟨t, pb⟩ := hb cdv A outer s H E hr
    refine ⟨t, pb.pss, ?_⟩
    refine pb.ev ⟨K, F, H, L2.start N vs, ArgA vs ρa⟩ F H (L2.start N vs) _ _ rfl (ha.ok (by omega)) ?_
    unfold fnOf at hp
    cases e : g (ρa ++ List.replicate (N.length - ρa.length) Sl.un) with
    | nx r =>
      rw [e] at hp
      by_cases ho : outsOk ρa r = true
      · simp only [ho, if_true] at hp
        exact fun F' H' σ' ok ex => hp F' H' .non (back_of ok ho ha.len) .non
      · simp only [ho, if_false] at hp; exact hp.elim
    | rt y r =>
      rw [e] at hp
      by_cases ho : outsOk ρa r = true
      · simp only [ho, if_true] at hp
        exact fun F' H' σ' v ok ex rp => hp F' H' v (back_of ok ho ha.len) rp
      · simp only [ho, if_false] at hp; exact hp.elim
    | exc y r =>
      rw [e] at hp
      exact fun F' H' σ' cls d ok ex xr => hp F' H' cls d (kept_of ok) xr
    | bk r => rw [e] at hp; exact hp.elim
    | ct r => rw [e] at hp; exact hp.elim
    | bad => rw [e] at hp; exact hp.elim
end

/-! ### calls -/
/-- how an argument goes over: as data, or as an own object -/
inductive Pa where
  | d (x : D) | sl (i : Nat)
def passF : List Bool → List Vl → M (List Pa)
  | [], [] => fun ρ => .ok [] ρ
  | false :: ms, v :: vs => M.bnd (fz v) fun x => M.bnd (passF ms vs) fun ps ρ => .ok (.d x :: ps) ρ
  | true :: ms, .sl i :: vs => M.bnd (passF ms vs) fun ps ρ => .ok (.sl i :: ps) ρ
  | _, _ => fun _ => .bad
def argSl (ρ : Rho) : Pa → Option Sl
  | .d x => some (.d x)
  | .sl i => match ρ[i]? with
    | some (.own m _) => some (.own m false)
    | _ => none
def argsSl (ρ : Rho) : List Pa → Option Rho
  | [] => some []
  | p :: ps => match argSl ρ p, argsSl ρ ps with
    | some s, some r => some (s :: r)
    | _, _ => none
def slots : List Pa → List Nat
  | [] => []
  | .d _ :: ps => slots ps
  | .sl i :: ps => i :: slots ps
/-- the own objects as the callee left them -/
def putOuts (r : Rho) : Nat → List Pa → Rho → Rho
  | _, [], ρ => ρ
  | k, .d _ :: ps, ρ => putOuts r (k + 1) ps ρ
  | k, .sl i :: ps, ρ => putOuts r (k + 1) ps (match r[k]?, ρ[i]? with
    | some (.own m _), some (.own _ l) => ρ.set i (.own m l)
    | _, _ => ρ)
def runFn (fn : Fn) (ps : List Pa) : M D := fun ρ => match argsSl ρ ps with
  | none => .bad
  | some ρa => if (slots ps).Nodup then (match fn ρa with
    | .ok x r => .ok x (putOuts r 0 ps ρ)
    | .exc e _ => if (slots ps).isEmpty = true then .exc e ρ else .bad
    | .bad => .bad) else .bad
def fCall (np : Nat) (ms : List Bool) (fn : Fn) (fa : M (List Vl)) : M Vl := M.bnd fa fun vs => M.bnd (passF ms vs) fun ps => if ps.length = np then M.bnd (runFn fn ps) (fun x ρ => .ok (.d x) ρ) else fun _ => .bad
/-- the arguments' values -/
inductive PasOk (C : Ctx) (F : Hp) (σ : L2.St) : List V → List Pa → Prop
  | nil : PasOk C F σ [] []
  | d {v : V} {vs : List V} {x : D} {ps : List Pa} : Rep C.K F v x → PasOk C F σ vs ps → PasOk C F σ (v :: vs) (.d x :: ps)
  | sl {v : V} {vs : List V} {i : Nat} {ps : List Pa} : σ[i]? = some (some v) → PasOk C F σ vs ps → PasOk C F σ (v :: vs) (.sl i :: ps)
section
variable {C : Ctx} {F H F' H' : Hp} {σ : L2.St} {ρ ρ' r : Rho} {vs : List V} {ps : List Pa}
theorem PasOk.ex (h : PasOk C F σ vs ps) (e : Ex F F') : PasOk C F' σ vs ps := by
  induction h with
  | nil => exact .nil
  | d r _ ih => exact .d (r.ex e) ih
  | sl z _ ih => exact .sl z ih
theorem passF_ok : ∀ {ms : List Bool} {vs : List V} {xs : List Vl} {ps : List Pa} {ρ ρ' : Rho} {F : Hp}, Ok C F H σ ρ → VlsOk C F σ ρ vs xs → passF ms xs ρ = .ok ps ρ' → ∃ F', Ok C F' H σ ρ' ∧ Step σ ρ ρ' F H F' H ∧ PasOk C F' σ vs ps
  | [], _, [], _, _, _, _, ok, h, e => by
    cases h
    cases e
    exact ⟨_, ok, .refl, .nil⟩
  | [], _, _ :: _, _, _, _, _, _, _, e => by simp [passF] at e
  | true :: _, _, [], _, _, _, _, _, _, e => by simp [passF] at e
  | false :: _, _, [], _, _, _, _, _, _, e => by simp [passF] at e
  | true :: _, _, .d _ :: _, _, _, _, _, _, _, e => by simp [passF] at e
  | false :: ms, _, x :: xs, _, ρ, ρ', _, ok, .cons h t, e => by
    unfold passF M.bnd at e
    cases e1 : fz x ρ with
    | bad => rw [e1] at e; cases e
    | exc q r => exact absurd e1 fz_noexc
    | ok y r1 =>
      rw [e1] at e
      obtain ⟨F1, ok1, st1, rp1⟩ := fz_ok ok h e1
      simp only at e
      cases e2 : passF ms xs r1 with
      | bad => rw [e2] at e; cases e
      | exc q r => rw [e2] at e; cases e
      | ok ys r2 =>
        rw [e2] at e
        cases e
        obtain ⟨F2, ok2, st2, rp2⟩ := passF_ok ok1 (t.step st1) e2
        exact ⟨F2, ok2, st1.trans st2, .d (rp1.ex st2.fx) rp2⟩
  | true :: ms, _, .sl i :: xs, _, ρ, ρ', _, ok, .cons h t, e => by
    unfold passF M.bnd at e
    cases e2 : passF ms xs ρ with
    | bad => rw [e2] at e; cases e
    | exc q r => rw [e2] at e; cases e
    | ok ys r2 =>
      rw [e2] at e
      cases e
      obtain ⟨F2, ok2, st2, rp2⟩ := passF_ok ok t e2
      exact ⟨F2, ok2, st2, .sl h rp2⟩
theorem passF_noexc : ∀ {ms : List Bool} {xs : List Vl} {ρ : Rho} {e : Xc} {r : Rho}, passF ms xs ρ ≠ .exc e r
  | [], [], _, _, _ => by simp [passF]
  | [], _ :: _, _, _, _ => by simp [passF]
  | true :: _, [], _, _, _ => by simp [passF]
  | false :: _, [], _, _, _ => by simp [passF]
  | true :: _, .d _ :: _, _, _, _ => by simp [passF]
  | false :: ms, x :: xs, ρ, e, r => by
    unfold passF M.bnd
    cases e1 : fz x ρ with
    | bad => simp
    | exc q r => exact absurd e1 fz_noexc
    | ok y r1 =>
      simp only
      cases e2 : passF ms xs r1 with
      | bad => simp
      | exc q r => exact absurd e2 passF_noexc
      | ok ys r2 => simp
  | true :: ms, .sl i :: xs, ρ, e, r => by
    unfold passF M.bnd
    cases e2 : passF ms xs ρ with
    | bad => simp
    | exc q r => exact absurd e2 passF_noexc
    | ok ys r2 => simp
theorem argsSl_get : ∀ {ps : List Pa} {ρa : Rho} {i : Nat} {p : Pa}, argsSl ρ ps = some ρa → ps[i]? = some p → ∃ s, argSl ρ p = some s ∧ ρa[i]? = some s
  | [], _, _, _, _, e => by simp at e
  | p :: ps, ρa, i, q, h, e => by
    unfold argsSl at h
    cases e1 : argSl ρ p with
    | none => simp [e1] at h
    | some s =>
      cases e2 : argsSl ρ ps with
      | none => simp [e1, e2] at h
      | some r =>
        simp [e1, e2] at h
        subst h
        cases i with
        | zero => simp at e; subst e; exact ⟨s, e1, rfl⟩
        | succ i =>
          obtain ⟨s', z1, z2⟩ := argsSl_get e2 (show ps[i]? = some q by simpa using e)
          exact ⟨s', z1, by simpa using z2⟩
theorem argsSl_len : ∀ {ps : List Pa} {ρa : Rho}, argsSl ρ ps = some ρa → ρa.length = ps.length
  | [], _, h => by cases h; rfl
  | p :: ps, ρa, h => by
    unfold argsSl at h
    cases e1 : argSl ρ p with
    | none => simp [e1] at h
    | some s =>
      cases e2 : argsSl ρ ps with
      | none => simp [e1, e2] at h
      | some r =>
        simp [e1, e2] at h
        subst h
        simp [argsSl_len e2]
theorem PasOk.get : ∀ {vs : List V} {ps : List Pa} {i : Nat} {p : Pa}, PasOk C F σ vs ps → ps[i]? = some p → ∃ v, vs[i]? = some v ∧ (match p with | .d x => Rep C.K F v x | .sl j => σ[j]? = some (some v))
  | _, _, _, _, .nil, e => by simp at e
  | _, _, 0, _, .d r _, e => by simp at e; subst e; exact ⟨_, rfl, r⟩
  | _, _, 0, _, .sl r _, e => by simp at e; subst e; exact ⟨_, rfl, r⟩
  | _, _, i + 1, p, .d _ t, e => by
    obtain ⟨v, h1, h2⟩ := PasOk.get (i := i) (p := p) t (by simpa using e)
    exact ⟨v, by simpa using h1, h2⟩
  | _, _, i + 1, p, .sl _ t, e => by
    obtain ⟨v, h1, h2⟩ := PasOk.get (i := i) (p := p) t (by simpa using e)
    exact ⟨v, by simpa using h1, h2⟩
theorem PasOk.length : ∀ {vs : List V} {ps : List Pa}, PasOk C F σ vs ps → vs.length = ps.length
  | _, _, .nil => rfl
  | _, _, .d _ t => by simp [PasOk.length t]
  | _, _, .sl _ t => by simp [PasOk.length t]
theorem slots_mem : ∀ {ps : List Pa} {i j : Nat}, ps[i]? = some (.sl j) → j ∈ slots ps
  | [], i, j, h => by simp at h
  | .d x :: ps, 0, j, h => by simp at h
  | .d x :: ps, i + 1, j, h => slots_mem (ps := ps) (i := i) (by simpa using h)
  | .sl k :: ps, 0, j, h => by simp at h; subst h; exact List.mem_cons_self
  | .sl k :: ps, i + 1, j, h => List.mem_cons_of_mem _ (slots_mem (ps := ps) (i := i) (by simpa using h))
theorem slots_nodup : ∀ {ps : List Pa} {i i' j : Nat}, (slots ps).Nodup → ps[i]? = some (.sl j) → ps[i']? = some (.sl j) → i = i'
  | [], i, i', j, _, h, _ => by simp at h
  | .d x :: ps, i, i', j, nd, h, h' => by
    cases i with
    | zero => simp at h
    | succ i => cases i' with
      | zero => simp at h'
      | succ i' => rw [slots_nodup (ps := ps) (i := i) (i' := i') nd (by simpa using h) (by simpa using h')]
  | .sl k :: ps, i, i', j, nd, h, h' => by
    have nd' : k ∉ slots ps ∧ (slots ps).Nodup := by simpa [slots] using nd
    cases i with
    | zero =>
      simp at h; subst h
      cases i' with
      | zero => rfl
      | succ i' => exact absurd (slots_mem (ps := ps) (i := i') (by simpa using h')) nd'.1
    | succ i =>
      cases i' with
      | zero =>
        simp at h'; subst h'
        exact absurd (slots_mem (ps := ps) (i := i) (by simpa using h)) nd'.1
      | succ i' => rw [slots_nodup (ps := ps) (i := i) (i' := i') nd'.2 (by simpa using h) (by simpa using h')]
theorem argsSl_own {ρa : Rho} {i : Nat} (h : argsSl ρ ps = some ρa) (w : isOwn ρa[i]? = true) : ∃ (j : Nat) (m : D) (l : Bool), ps[i]? = some (Pa.sl j) ∧ ρ[j]? = some (Sl.own m l) ∧ ρa[i]? = some (Sl.own m false) := by
  have hl := argsSl_len h
  have hi : i < ps.length := by
    by_cases hi : i < ps.length
    · exact hi
    · rw [List.getElem?_eq_none (by omega)] at w; cases w
  obtain ⟨s, e1, e2⟩ := argsSl_get h (List.getElem?_eq_getElem hi)
  rw [e2] at w
  cases q : ps[i] with
  | d x => rw [q] at e1; cases e1; cases w
  | sl j =>
    rw [q] at e1
    unfold argSl at e1
    cases z : ρ[j]? with
    | none => simp [z] at e1
    | some t =>
      cases t with
      | own m l =>
        simp [z] at e1
        subst e1
        exact ⟨j, m, l, by rw [List.getElem?_eq_getElem hi, q], z, e2⟩
      | _ => simp [z] at e1
/-- the arguments as the callee wants them -/
theorem args_of {ρa : Rho} (ok : Ok C F H σ ρ) (h : PasOk C F σ vs ps) (e : argsSl ρ ps = some ρa) (nd : (slots ps).Nodup) : Args C.K F H vs ρa ∧ ∀ a, ArgA vs ρa a → ∃ i j : Nat, ps[i]? = some (Pa.sl j) ∧ isOwn ρ[j]? = true ∧ σ[j]? = some (some (V.ref a)) ∧ vs[i]? = some (V.ref a) := by
  have hl := argsSl_len e
  have at_ : ∀ i : Nat, isOwn ρa[i]? = true → ∃ (j : Nat) (m : D) (l : Bool) (a : Addr) (o : HO), ps[i]? = some (Pa.sl j) ∧ ρ[j]? = some (Sl.own m l) ∧ ρa[i]? = some (Sl.own m false) ∧ vs[i]? = some (V.ref a) ∧ σ[j]? = some (some (V.ref a)) ∧ F a = none ∧ H a = some o ∧ Cont C.K F o m := fun i w => by
    obtain ⟨j, m, l, p1, p2, p3⟩ := argsSl_own e w
    obtain ⟨v, q1, q2⟩ := h.get p1
    have q2 : σ[j]? = some (some v) := q2
    obtain ⟨a, o, e1, e2, e3, c, _⟩ := ok.sl j _ p2
    rw [q2] at e1; cases e1
    exact ⟨j, m, l, a, o, p1, p2, p3, q1, q2, e2, e3, c⟩
  refine ⟨⟨ok.sub, by rw [h.length, hl], fun i x ex => ?_, fun i m l eo => ?_, fun i i' a hii w1 w2 q z => ?_⟩, fun a ⟨i, w, q⟩ => ?_⟩
  · have hi : i < ps.length := by
      have := (List.getElem?_eq_some_iff.mp ex).1
      omega
    obtain ⟨s, e1, e2⟩ := argsSl_get e (List.getElem?_eq_getElem hi)
    obtain ⟨v, q1, q2⟩ := h.get (List.getElem?_eq_getElem hi)
    rw [ex] at e2; cases e2
    cases q : ps[i] with
    | d y => rw [q] at e1 q2; cases e1; exact ⟨v, q1, q2⟩
    | sl j =>
      rw [q] at e1
      unfold argSl at e1
      cases z : ρ[j]? with
      | none => simp [z] at e1
      | some t => cases t <;> simp [z] at e1
  · obtain ⟨j, m', l', a, o, p1, p2, p3, q1, q2, e2, e3, c⟩ := at_ i (by rw [eo]; rfl)
    rw [eo] at p3; cases p3
    exact ⟨rfl, a, o, q1, e2, e3, c⟩
  · obtain ⟨j, m, l, a1, o, p1, p2, p3, q1, q2, _⟩ := at_ i w1
    obtain ⟨j', m', l', a2, o', p1', p2', p3', q1', q2', _⟩ := at_ i' w2
    rw [q] at q1; cases q1
    rw [z] at q1'; cases q1'
    by_cases hj : j = j'
    · subst hj; exact hii (slots_nodup nd p1 p1')
    · exact ok.dj j j' a hj (by rw [p2]; rfl) (by rw [p2']; rfl) q2 q2'
  · obtain ⟨j, m, l, a1, o, p1, p2, p3, q1, q2, _⟩ := at_ i w
    rw [q] at q1; cases q1
    exact ⟨i, j, p1, by rw [p2]; rfl, q2, q⟩

theorem putOuts_len {r : Rho} : ∀ {ps : List Pa} {k : Nat} {ρ : Rho}, (putOuts r k ps ρ).length = ρ.length
  | [], _, _ => rfl
  | .d _ :: ps, k, ρ => putOuts_len (ps := ps) (k := k + 1)
  | .sl i :: ps, k, ρ => by
    unfold putOuts
    rw [putOuts_len (ps := ps) (k := k + 1)]
    split
    · rw [List.length_set]
    · rfl
theorem put_step_ne {r : Rho} {k i j : Nat} {ρ : Rho} (h : j ≠ i) : (match r[k]?, ρ[i]? with
    | some (.own m _), some (.own _ l) => ρ.set i (.own m l)
    | _, _ => ρ)[j]? = ρ[j]? := by
  split
  · rw [List.getElem?_set_ne (Ne.symm h)]
  · rfl
theorem putOuts_out {r : Rho} {j : Nat} : ∀ {ps : List Pa} {k : Nat} {ρ : Rho}, j ∉ slots ps → (putOuts r k ps ρ)[j]? = ρ[j]?
  | [], _, _, _ => rfl
  | .d _ :: ps, k, ρ, h => putOuts_out (ps := ps) (k := k + 1) h
  | .sl i :: ps, k, ρ, h => by
    have h' : j ≠ i ∧ j ∉ slots ps := by simpa [slots] using h
    unfold putOuts
    rw [putOuts_out (ps := ps) (k := k + 1) h'.2]
    exact put_step_ne h'.1
theorem putOuts_in {r : Rho} {j : Nat} {m m0 : D} {l l' : Bool} : ∀ {ps : List Pa} {k i : Nat} {ρ : Rho}, (slots ps).Nodup → ps[i]? = some (Pa.sl j) → ρ[j]? = some (Sl.own m0 l) → r[k + i]? = some (Sl.own m l') → (putOuts r k ps ρ)[j]? = some (Sl.own m l)
  | [], _, _, _, _, h, _, _ => by simp at h
  | .d _ :: ps, k, 0, ρ, nd, h, _, _ => by simp at h
  | .d _ :: ps, k, i + 1, ρ, nd, h, e1, e2 => putOuts_in (ps := ps) (k := k + 1) (i := i) nd (by simpa using h) e1 (by rw [← e2]; congr 1; omega)
  | .sl i' :: ps, k, 0, ρ, nd, h, e1, e2 => by
    have nd' : i' ∉ slots ps ∧ (slots ps).Nodup := by simpa [slots] using nd
    simp at h; subst h
    unfold putOuts
    rw [putOuts_out (ps := ps) (k := k + 1) nd'.1]
    have e2 : r[k]? = some (Sl.own m l') := e2
    rw [e2, e1]
    exact List.getElem?_set_self (List.getElem?_eq_some_iff.mp e1).1
  | .sl i' :: ps, k, i + 1, ρ, nd, h, e1, e2 => by
    have nd' : i' ∉ slots ps ∧ (slots ps).Nodup := by simpa [slots] using nd
    have h : ps[i]? = some (Pa.sl j) := by simpa using h
    have hj : j ≠ i' := fun z => nd'.1 (z ▸ slots_mem h)
    unfold putOuts
    exact putOuts_in (ps := ps) (k := k + 1) (i := i) nd'.2 h ((put_step_ne hj).trans e1) (by rw [← e2]; congr 1; omega)
theorem put_step_own {r : Rho} {k i j : Nat} {ρ : Rho} : isOwn (match r[k]?, ρ[i]? with
    | some (.own m _), some (.own _ l) => ρ.set i (.own m l)
    | _, _ => ρ)[j]? = isOwn ρ[j]? := by
  split
  · rename_i m x m' l h1 h2
    by_cases h : i = j
    · subst h
      rw [List.getElem?_set_self (List.getElem?_eq_some_iff.mp h2).1, h2]; rfl
    · rw [List.getElem?_set_ne h]
  · rfl
theorem putOuts_own {r : Rho} {j : Nat} : ∀ {ps : List Pa} {k : Nat} {ρ : Rho}, isOwn (putOuts r k ps ρ)[j]? = isOwn ρ[j]?
  | [], _, _ => rfl
  | .d _ :: ps, k, ρ => putOuts_own (ps := ps) (k := k + 1)
  | .sl i :: ps, k, ρ => by
    unfold putOuts
    rw [putOuts_own (ps := ps) (k := k + 1)]
    exact put_step_own
theorem mem_slots : ∀ {ps : List Pa} {j : Nat}, j ∈ slots ps → ∃ i : Nat, ps[i]? = some (Pa.sl j)
  | [], _, h => by simp [slots] at h
  | .d _ :: ps, j, h => by
    obtain ⟨i, e⟩ := mem_slots (ps := ps) h
    exact ⟨i + 1, by simpa using e⟩
  | .sl k :: ps, j, h => by
    rcases List.mem_cons.mp (show j ∈ k :: slots ps from h) with e | h
    · exact ⟨0, by simp [e]⟩
    · obtain ⟨i, e⟩ := mem_slots (ps := ps) h
      exact ⟨i + 1, by simpa using e⟩
/-- behind a call -/
theorem Ok.called {ρa : Rho} (ok : Ok C F H σ ρ) (h : PasOk C F σ vs ps) (e : argsSl ρ ps = some ρa) (nd : (slots ps).Nodup) (b : Back C.K F H F' H' vs ρa r) : Ok C F' H' σ (putOuts r 0 ps ρ) ∧ Step σ ρ (putOuts r 0 ps ρ) F H F' H' := by
  obtain ⟨_, adr⟩ := args_of ok h e nd
  -- an own argument's slot
  have own_at : ∀ {i j : Nat}, ps[i]? = some (Pa.sl j) → ∃ m l, ρ[j]? = some (Sl.own m l) ∧ isOwn ρa[i]? = true := fun {i j} hp => by
    obtain ⟨s, e1, e2⟩ := argsSl_get e hp
    unfold argSl at e1
    cases z : ρ[j]? with
    | none => simp [z] at e1
    | some t =>
      cases t with
      | own m l => simp [z] at e1; subst e1; exact ⟨m, l, rfl, by rw [e2]; rfl⟩
      | _ => simp [z] at e1
  have notArg : ∀ {j : Nat} {a : Addr}, j ∉ slots ps → isOwn ρ[j]? = true → σ[j]? = some (some (V.ref a)) → ¬ ArgA vs ρa a := fun {j a} hj ho hs hA => by
    obtain ⟨i, j', p1, p2, p3, _⟩ := adr a hA
    have hne : j ≠ j' := fun z => hj (z ▸ slots_mem p1)
    exact ok.dj j j' a hne ho p2 hs p3
  have argOwn : ∀ {a : Addr}, ArgA vs ρa a → OwnA σ ρ a := fun {a} hA => by
    obtain ⟨i, j', p1, p2, p3, _⟩ := adr a hA
    exact ⟨j', p2, p3⟩
  refine ⟨⟨b.sub, by rw [putOuts_len]; exact ok.len, fun j s es => ?_, fun i j a hij h1 h2 => ok.dj i j a hij (by rw [← putOuts_own (r := r) (ps := ps) (k := 0)]; exact h1) (by rw [← putOuts_own (r := r) (ps := ps) (k := 0)]; exact h2), ok.fx.trans b.fx, fun a ha => ?_, fun a ha => b.th a (ok.there a ha), fun a o ha na => ?_⟩,
    ⟨b.fx, fun a o ha na => b.fr a o ha fun z => na (argOwn z), fun j hj => by rw [← putOuts_own (r := r) (ps := ps) (k := 0)]; exact hj, b.th⟩⟩
  · by_cases hj : j ∈ slots ps
    · obtain ⟨i, hp⟩ := mem_slots hj
      obtain ⟨m0, l, q1, q2⟩ := own_at hp
      obtain ⟨m, a, o, w1, w2, w3, w4, w5⟩ := b.outs i q2
      have z := putOuts_in (k := 0) nd hp q1 (by rw [Nat.zero_add]; exact w1)
      rw [z] at es; cases es
      obtain ⟨v, v1, v2⟩ := h.get hp
      rw [w2] at v1; cases v1
      obtain ⟨a', o', x1, x2, x3, x4, x5⟩ := ok.sl j _ q1
      have v2 : σ[j]? = some (some (V.ref a)) := v2
      rw [v2] at x1; cases x1
      exact ⟨a, o, v2, w3, w4, w5, x5⟩
    · rw [putOuts_out hj] at es
      have z := ok.sl j s es
      cases s with
      | un => trivial
      | d x => obtain ⟨u, w1, rp⟩ := z; exact ⟨u, w1, rp.ex b.fx⟩
      | own m l =>
        obtain ⟨a, o, w1, w2, w3, w4, w5⟩ := z
        obtain ⟨q1, q2⟩ := b.fr a o w3 (notArg hj (by rw [es]; rfl) w1)
        exact ⟨a, o, w1, q2.trans w2, q1, w4.ex b.fx, w5⟩
  · by_cases hA : ArgA vs ρa a
    · obtain ⟨i, w, q⟩ := hA
      obtain ⟨m, a', o, w1, w2, w3, _⟩ := b.outs i w
      rw [q] at w2; cases w2
      obtain ⟨_, j, p1, p2, p3, p4⟩ := adr a ⟨i, w, q⟩
      have : F a = none := by
        cases z : ρ[j]? with
        | none => rw [z] at p2; cases p2
        | some s =>
          cases s with
          | own m l =>
            obtain ⟨a2, o2, x1, x2, _⟩ := ok.sl j _ z
            rw [p3] at x1; cases x1
            exact x2
          | _ => rw [z] at p2; cases p2
      rw [w3, ← ok.own0 a ha, this]
    · cases z : H a with
      | none => exact absurd z (ok.there a ha)
      | some o => exact (b.fr a o z hA).2.trans (ok.own0 a ha)
  · refine (b.fr a o (ok.keep a o ha na) fun hA => ?_).1
    obtain ⟨_, j, p1, p2, p3, p4⟩ := adr a hA
    cases z : ρ[j]? with
    | none => rw [z] at p2; cases p2
    | some s =>
      cases s with
      | own m l =>
        obtain ⟨a2, o2, x1, x2, x3, x4, x5⟩ := ok.sl j _ z
        rw [p3] at x1; cases x1
        cases l with
        | true =>
          have x5 : C.H0 a = none := by simpa using x5
          rw [x5] at ha; cases ha
        | false =>
          have x5 : C.s0[j]? = some (some (V.ref a)) ∧ C.pa a := by simpa using x5
          exact na x5.2
      | _ => rw [z] at p2; cases p2
/-- behind a call without own arguments that let an exception out -/
theorem Ok.kept0 {ρa : Rho} (ok : Ok C F H σ ρ) (b : Kept F H F' H' vs ρa) (hn : ∀ a, ¬ ArgA vs ρa a) : Ok C F' H' σ ρ where
  sub := b.sub
  len := ok.len
  sl := fun j s es => by
    have z := ok.sl j s es
    cases s with
    | un => trivial
    | d x => obtain ⟨u, w1, rp⟩ := z; exact ⟨u, w1, rp.ex b.fx⟩
    | own m l =>
      obtain ⟨a, o, w1, w2, w3, w4, w5⟩ := z
      obtain ⟨q1, q2⟩ := b.fr a o w3 (hn a)
      exact ⟨a, o, w1, q2.trans w2, q1, w4.ex b.fx, w5⟩
  dj := ok.dj
  fx := ok.fx.trans b.fx
  own0 := fun a ha => by
    cases z : H a with
    | none => exact absurd z (ok.there a ha)
    | some o => exact (b.fr a o z (hn a)).2.trans (ok.own0 a ha)
  there := fun a ha => b.th a (ok.there a ha)
  keep := fun a o ha na => (b.fr a o (ok.keep a o ha na) (hn a)).1
/-- the callee's promise is asked for from what the caller knows -/
theorem runFn_sp {E : XW} {Q : VK} {np : Nat} {fn : Fn} (ok : Ok C F H σ ρ) (h : PasOk C F σ vs ps) (hl : ps.length = np) (p : PostE C E σ ρ F H Q (M.bnd (runFn fn ps) (fun x ρ => .ok (.d x) ρ) ρ)) : spD C.K np fn vs H Q (E σ) := by
  unfold M.bnd runFn at p
  cases e : argsSl ρ ps with
  | none => simp only [e] at p; exact p.elim
  | some ρa =>
    simp only [e] at p
    by_cases nd : (slots ps).Nodup
    · simp only [nd, if_true] at p
      obtain ⟨ar, adr⟩ := args_of ok h e nd
      refine ⟨F, ρa, ar, by rw [argsSl_len e]; exact hl, ?_⟩
      cases ef : fn ρa with
      | bad => simp only [ef] at p; exact p.elim
      | ok x r =>
        simp only [ef] at p
        intro F' H' v b rp
        obtain ⟨ok', st'⟩ := ok.called h e nd b
        exact p F' H' v ok' st' rp
      | exc x r =>
        simp only [ef] at p
        by_cases hs : (slots ps).isEmpty = true
        · simp only [hs, if_true] at p
          intro F' H' cls d b xr
          refine p F' H' cls d (ok.kept0 b fun a hA => ?_) b.fx xr
          obtain ⟨i, j, p1, _⟩ := adr a hA
          have := slots_mem p1
          rw [List.isEmpty_iff.mp hs] at this
          cases this
        · simp only [hs, if_false] at p; exact p.elim
    · simp only [nd, if_false] at p; exact p.elim
end
section
variable {K : PySem.W.Frag} {E : XW} {ta : TA} {fa : M (List Vl)}
theorem passF_post {α β : Type} {C : Ctx} {F H : Hp} {σ : L2.St} {ρ : Rho} {VR : Hp → Hp → Rho → β → α → Prop} {Q : β → Hp → Prop} {ms : List Bool} {vs : List V} {xs : List Vl} {k : List Pa → M α} (ok : Ok C F H σ ρ) (h : VlsOk C F σ ρ vs xs) (p : Post C E σ ρ F H VR Q (M.bnd (passF ms xs) k ρ)) {P : Prop}
    (q : ∀ ps r F', Ok C F' H σ r → Step σ ρ r F H F' H → PasOk C F' σ vs ps → Post C E σ r F' H VR Q (k ps r) → P) : P := by
  unfold M.bnd at p
  cases e : passF ms xs ρ with
  | bad => rw [e] at p; exact p.elim
  | exc z r => exact absurd e passF_noexc
  | ok y r =>
    rw [e] at p
    obtain ⟨F', ok', st, rp⟩ := passF_ok ok h e
    refine q y r F' ok' st rp ?_
    have p : Post C E σ ρ F H VR Q (k y r) := p
    cases e2 : k y r with
    | bad => rw [e2] at p; exact p
    | exc z r2 => rw [e2] at p; exact fun F2 H2 cls d ok2 ex2 xr => p F2 H2 cls d ok2 (st.fx.trans ex2) xr
    | ok c r2 =>
      rw [e2] at p
      exact fun F2 H2 d ok2 st2 wr => p F2 H2 d ok2 (st.trans st2) wr
theorem ev_call {np : Nat} {ms : List Bool} {fn : Fn} (ha : EvA K E ta fa) : EvE K E (tCallS (spD K np fn) E ta) (fCall np ms fn fa) := by
  intro C F H σ ρ Q hK ok h
  subst hK
  refine ha C F H σ ρ _ rfl ok (Post.bnd h fun xs r1 F1 H1 vs e1 ok1 st1 vo1 h1 => ?_)
  refine passF_post ok1 vo1 h1 fun ps r F' ok' st po p => ?_
  by_cases hl : ps.length = np
  · simp only [hl, if_true] at p
    exact runFn_sp ok' po hl p
  · simp only [hl, if_false] at p; exact p.elim
end
section
variable {X : Cx} {E : XW} {k : Nat} {f : Addr} {fd : FuncData} {ps : List Str} {np : Nat} {fn : Fn} {x : Str} {p pos : Pos} {e : Expr} {es : List Expr} {ta : TA} {fa : M (List Vl)}
/-- f(e, ..) of a def; ms: which arguments go over as own objects -/
theorem pf_call (ms : List Bool) (G : FnOk X.prog X.w X.K X.mg X.base (L2.CX X.prog X.w) k f fd ps (spD X.K np fn)) (hr : Room k X.A) (hm : X.mg x = some (.ref f)) (hk : PySem.W.keepIn X.K (.ref f) = true) (hb : Binds X.K fd ps []) (hx : ∀ σ, PassesAt (L2.CX X.prog X.w) X σ (E σ))
    (ha : PFa X (e :: es) ta E fa) (hg : Gl X x := by rfl) (hdb : (x == ("__debug__" : Str)) = false := by decide) (he : starEach (e :: es) X.env = (false, eval e X.env) :: starEach es X.env := by rfl) (hpl : (backTo pos (starEach es X.env)).any (·.1) = false := by rfl) :
    PF X (.Call (.Name x p) (e :: es) [] pos) (tCallS (spD X.K np fn) E ta) E (fCall np ms fn fa) :=
  ⟨pe_callS G hr hg hm hk hb hx ha.pa hdb he hpl, ev_call ha.ev⟩
/-- nothing leaves a comprehension -/
theorem passE0 (σ : L2.St) : PassesAt (L2.CX X.prog X.w) X σ (XE0 σ) := fun _ _ _ _ _ _ h => by
  obtain ⟨_, _, _, _, _, _, _, _, _, _, _, _, z⟩ := h
  exact z.elim
end
end DL

namespace DL
open PySem PySem.Spec PyProof.Rows L2

/-! ### data as the library's data; == -/
def good : Nat → D → Bool
  | _, .non => true
  | _, .bl _ => true
  | _, .int _ => true
  | _, .str x => PyData.strOk x
  | n + 1, .tup xs => xs.all (good n)
  | n + 1, .lst xs => xs.all (good n)
  | _, _ => false
def pyN : Nat → D → PyData
  | _, .bl b => .bool b
  | _, .int i => .int i
  | _, .str x => .str x
  | n + 1, .tup xs => .tuple (xs.map (pyN n))
  | n + 1, .lst xs => .list (xs.map (pyN n))
  | _, _ => .none
def all2 {α β : Type} (f : α → β → Bool) : List α → List β → Bool
  | [], [] => true
  | x :: xs, y :: ys => f x y && all2 f xs ys
  | _, _ => false
def deqN : Nat → D → D → Bool
  | _, .non, .non => true
  | _, .bl a, .bl b => a == b
  | _, .bl a, .int j => (if a then 1 else 0) == j
  | _, .int i, .bl b => i == (if b then 1 else 0)
  | _, .int i, .int j => i == j
  | _, .str x, .str y => x == y
  | n + 1, .tup xs, .tup ys => all2 (deqN n) xs ys
  | n + 1, .lst xs, .lst ys => all2 (deqN n) xs ys
  | _, _, _ => false
abbrev deq := deqN 40
section
variable {K : PySem.W.Frag} {F H : Hp} {v : V} {x : D}
theorem RepH.rep (e : Ex F H) (h : RepH K F H v x) : Rep K H v x := by
  rcases h with h | ⟨a, o, rfl, ha, c⟩
  · exact h.ex e
  · exact Cont.rep ha (c.ex e)
mutual
theorem dp_of : ∀ {n : Nat} {v : V} {x : D}, Rep K H v x → good n x = true → Dp K H v (pyN n x)
  | n, _, _, .non, _ => by cases n <;> exact .non
  | n, _, _, .bl b, _ => by cases n <;> exact .bl b
  | n, _, _, .int i, _ => by cases n <;> exact .int i
  | n, _, _, .str y, _ => by cases n <;> exact .str y
  | n, _, _, .ty s, g => by cases n <;> cases g
  | n, _, _, .ref a, g => by cases n <;> cases g
  | 0, _, _, .tup h r, g => by cases g
  | n + 1, _, _, .tup h r, g => .tup (SqT.of h) (dps_of r (by simpa [good] using g))
  | 0, _, _, .lst h r, g => by cases g
  | n + 1, _, _, .lst h r, g => .lst (SqL.of h) (dps_of r (by simpa [good] using g))
  | n, _, _, .scr h r, g => by cases n <;> cases g
  | n, _, _, .dK h k r, g => by cases n <;> cases g
  | n, _, _, .dT h k r, g => by cases n <;> cases g
  | n, _, _, .ins h c m k r, g => by cases n <;> cases g
theorem dps_of : ∀ {n : Nat} {vs : List V} {xs : List D}, RepL K H vs xs → (∀ x ∈ xs, good n x = true) → DpAll K H vs (xs.map (pyN n))
  | _, _, _, .nil, _ => .nil
  | n, _, _, .cons r t, g => .cons (dp_of r (g _ List.mem_cons_self)) (dps_of t fun y hy => g y (List.mem_cons_of_mem _ hy))
end
end
theorem lay_all {l : List PyData} (h : ∀ d ∈ l, d.canLay0 = true) : PyData.canLayAll0 l = true := by
  induction l with
  | nil => simp [PyData.canLayAll0]
  | cons d l ih =>
    rw [PyData.canLayAll0, h d List.mem_cons_self, ih fun x hx => h x (List.mem_cons_of_mem _ hx)]; rfl
theorem depth_all {l : List PyData} {n : Nat} (h : ∀ d ∈ l, d.depth ≤ n) : PyData.depthAll l ≤ n := by
  induction l with
  | nil => simp [PyData.depthAll]
  | cons d l ih =>
    rw [PyData.depthAll]
    exact Nat.max_le.mpr ⟨h d List.mem_cons_self, ih fun x hx => h x (List.mem_cons_of_mem _ hx)⟩
theorem good_lay : ∀ {n : Nat} {x : D}, good n x = true → (pyN n x).canLay0 = true ∧ (pyN n x).depth ≤ n
  | 0, x, h => by
    cases x <;> first | (simp [pyN, PyData.canLay0, PyData.depth]; done) | (simp [good] at h; done) | (simp [good] at h; simp [pyN, PyData.canLay0, PyData.depth, h])
  | n + 1, x, h => by
    cases x with
    | tup xs =>
      have h' : ∀ y ∈ xs, good n y = true := by simpa [good] using h
      refine ⟨?_, ?_⟩
      · show PyData.canLayAll0 (xs.map (pyN n)) = true
        refine lay_all fun d hd => ?_
        obtain ⟨y, hy, rfl⟩ := List.mem_map.mp hd
        exact (good_lay (h' y hy)).1
      · show PyData.depthAll (xs.map (pyN n)) + 1 ≤ n + 1
        refine Nat.succ_le_succ (depth_all fun d hd => ?_)
        obtain ⟨y, hy, rfl⟩ := List.mem_map.mp hd
        exact (good_lay (h' y hy)).2
    | lst xs =>
      have h' : ∀ y ∈ xs, good n y = true := by simpa [good] using h
      refine ⟨?_, ?_⟩
      · show PyData.canLayAll0 (xs.map (pyN n)) = true
        refine lay_all fun d hd => ?_
        obtain ⟨y, hy, rfl⟩ := List.mem_map.mp hd
        exact (good_lay (h' y hy)).1
      · show PyData.depthAll (xs.map (pyN n)) + 1 ≤ n + 1
        refine Nat.succ_le_succ (depth_all fun d hd => ?_)
        obtain ⟨y, hy, rfl⟩ := List.mem_map.mp hd
        exact (good_lay (h' y hy)).2
    | _ => first | (simp [pyN, PyData.canLay0, PyData.depth]; done) | (simp [good] at h; done) | (simp [good] at h; simp [pyN, PyData.canLay0, PyData.depth, h])
theorem eqvAll_all2 {n : Nat} {f : D → D → Bool} : ∀ {xs ys : List D}, (∀ x ∈ xs, ∀ y, y ∈ ys → PyData.eqv (pyN n x) (pyN n y) = f x y) → PyData.eqvAll (xs.map (pyN n)) (ys.map (pyN n)) = all2 f xs ys
  | [], [], _ => rfl
  | [], _ :: _, _ => by simp [PyData.eqvAll, all2]
  | _ :: _, [], _ => by simp [PyData.eqvAll, all2]
  | x :: xs, y :: ys, h => by
    rw [List.map_cons, List.map_cons, PyData.eqvAll, all2, h x List.mem_cons_self y List.mem_cons_self, eqvAll_all2 fun a ha b hb => h a (List.mem_cons_of_mem _ ha) b (List.mem_cons_of_mem _ hb)]
theorem eqv_deq : ∀ {n : Nat} {x y : D}, good n x = true → good n y = true → PyData.eqv (pyN n x) (pyN n y) = deqN n x y
  | 0, x, y, hx, hy => by
    cases x <;> cases y <;> first | (simp [pyN, PyData.eqv, deqN]; done) | (simp [good] at hx; done) | (simp [good] at hy; done)
  | n + 1, x, y, hx, hy => by
    cases x with
    | tup xs =>
      cases y with
      | tup ys =>
        have hx' : ∀ z ∈ xs, good n z = true := by simpa [good] using hx
        have hy' : ∀ z ∈ ys, good n z = true := by simpa [good] using hy
        show PyData.eqvAll (xs.map (pyN n)) (ys.map (pyN n)) = all2 (deqN n) xs ys
        exact eqvAll_all2 fun a ha b hb => eqv_deq (hx' a ha) (hy' b hb)
      | _ => first | (simp [pyN, PyData.eqv, deqN]; done) | (simp [good] at hy; done)
    | lst xs =>
      cases y with
      | lst ys =>
        have hx' : ∀ z ∈ xs, good n z = true := by simpa [good] using hx
        have hy' : ∀ z ∈ ys, good n z = true := by simpa [good] using hy
        show PyData.eqvAll (xs.map (pyN n)) (ys.map (pyN n)) = all2 (deqN n) xs ys
        exact eqvAll_all2 fun a ha b hb => eqv_deq (hx' a ha) (hy' b hb)
      | _ => first | (simp [pyN, PyData.eqv, deqN]; done) | (simp [good] at hy; done)
    | _ => cases y <;> first | (simp [pyN, PyData.eqv, deqN]; done) | (simp [good] at hx; done) | (simp [good] at hy; done)
theorem good_shaped {x : D} (h : good 40 x = true) : SeqAt.shaped (pyN 40 x) = true := by
  obtain ⟨h1, h2⟩ := good_lay h
  unfold SeqAt.shaped
  rw [h1, Bool.true_and]
  exact decide_eq_true (by omega)
def gEq (a b : D) : Option D := if good 40 a = true ∧ good 40 b = true then some (.bl (deq a b)) else none
def gNe (a b : D) : Option D := if good 40 a = true ∧ good 40 b = true then some (.bl (!deq a b)) else none
section
variable {K : PySem.W.Frag}
theorem p_eq : P2 K (rEqD K) gEq := by
  intro F H v w a b z Q e ha hb hz q
  unfold gEq at hz
  by_cases h : good 40 a = true ∧ good 40 b = true
  · rw [if_pos h] at hz
    cases hz
    refine ⟨pyN 40 a, pyN 40 b, dp_of (ha.rep e) h.1, dp_of (hb.rep e) h.2, good_shaped h.1, good_shaped h.2, ?_⟩
    rw [eqv_deq h.1 h.2]
    exact q F H _ .refl (.bl _)
  · rw [if_neg h] at hz; cases hz
theorem p_ne : P2 K (rNeD K) gNe := by
  intro F H v w a b z Q e ha hb hz q
  unfold gNe at hz
  by_cases h : good 40 a = true ∧ good 40 b = true
  · rw [if_pos h] at hz
    cases hz
    refine ⟨pyN 40 a, pyN 40 b, dp_of (ha.rep e) h.1, dp_of (hb.rep e) h.2, good_shaped h.1, good_shaped h.2, ?_⟩
    rw [eqv_deq h.1 h.2]
    exact q F H _ .refl (.bl _)
  · rw [if_neg h] at hz; cases hz
end

/-! ### x in c, of data -/
def gIn (a c : D) : Option D := match c with
  | .lst ys => if good 39 a = true ∧ ys.all (good 39) = true then some (.bl (ys.any fun y => deqN 39 y a)) else none
  | .tup ys => if good 39 a = true ∧ ys.all (good 39) = true then some (.bl (ys.any fun y => deqN 39 y a)) else none
  | _ => none
def gNotIn (a c : D) : Option D := match gIn a c with
  | some (.bl b) => some (.bl (!b))
  | _ => none
def rInT (K : PySem.W.Frag) : R2 := fun x y H Q => ∃ d ds, Dp K H x d ∧ (Dp K H y (.list ds) ∨ Dp K H y (.tuple ds)) ∧ SeqAt.shaped d = true ∧ SeqAt.shaped (.list ds) = true ∧ Q (.bl (ds.any fun z => PyData.eqv z d)) H
def rNotInT (K : PySem.W.Frag) : R2 := fun x y H Q => ∃ d ds, Dp K H x d ∧ (Dp K H y (.list ds) ∨ Dp K H y (.tuple ds)) ∧ SeqAt.shaped d = true ∧ SeqAt.shaped (.list ds) = true ∧ Q (.bl (!ds.any fun z => PyData.eqv z d)) H
section
variable {X : Cx}
theorem op_inT (hu : X.A.units + 65 < cLine) : OpR X (compareOp .In) (rInT X.K) := by
  intro pins s σ H x y v u Q I rx ry h
  obtain ⟨d, ds, hd, he, sd, se, q⟩ := h
  obtain ⟨as, r1⟩ := Dp.reads I d x v hd rx
  rcases he with he | he
  · obtain ⟨bs, r2⟩ := Dp.reads I (.list ds) y u he ry
    exact SeqAt.in_list_reads r2 r1 (SeqAt.canLay_of_shaped se) (SeqAt.canLay_of_shaped sd) (room_in_shaped sd hu) ⟨.bl _, H, I, rfl, q⟩
  · obtain ⟨bs, r2⟩ := Dp.reads I (.tuple ds) y u he ry
    exact SeqAt.in_tuple_reads r2 r1 (SeqAt.canLay_of_shaped se) (SeqAt.canLay_of_shaped sd) (room_in_shaped sd hu) ⟨.bl _, H, I, rfl, q⟩
theorem op_notInT (hu : X.A.units + 65 < cLine) : OpR X (compareOp .NotIn) (rNotInT X.K) := by
  intro pins s σ H x y v u Q I rx ry h
  obtain ⟨d, ds, hd, he, sd, se, q⟩ := h
  obtain ⟨as, r1⟩ := Dp.reads I d x v hd rx
  rcases he with he | he
  · obtain ⟨bs, r2⟩ := Dp.reads I (.list ds) y u he ry
    exact SeqAt.notIn_list_reads r2 r1 (SeqAt.canLay_of_shaped se) (SeqAt.canLay_of_shaped sd) (room_in_shaped sd hu) ⟨.bl _, H, I, rfl, q⟩
  · obtain ⟨bs, r2⟩ := Dp.reads I (.tuple ds) y u he ry
    exact SeqAt.notIn_tuple_reads r2 r1 (SeqAt.canLay_of_shaped se) (SeqAt.canLay_of_shaped sd) (room_in_shaped sd hu) ⟨.bl _, H, I, rfl, q⟩
end
section
variable {K : PySem.W.Frag}
theorem good39 {x : D} (h : good 39 x = true) : SeqAt.shaped (pyN 39 x) = true := by
  obtain ⟨h1, h2⟩ := good_lay h
  unfold SeqAt.shaped
  rw [h1, Bool.true_and]
  exact decide_eq_true (by omega)
theorem any_deq {a : D} {ys : List D} (ha : good 39 a = true) (hy : ys.all (good 39) = true) : ((ys.map (pyN 39)).any fun z => PyData.eqv z (pyN 39 a)) = ys.any fun y => deqN 39 y a := by
  rw [List.any_map]
  induction ys with
  | nil => rfl
  | cons y ys ih =>
    have h : good 39 y = true ∧ ys.all (good 39) = true := by simpa using hy
    rw [List.any_cons, List.any_cons, ih h.2]
    congr 1
    exact eqv_deq h.1 ha
theorem in_core {F H : Hp} {v w : V} {a b : D} {z : Bool} (e : Ex F H) (ha : RepH K F H v a) (hb : RepH K F H w b) (hz : gIn a b = some (.bl z)) :
    ∃ d ds, Dp K H v d ∧ (Dp K H w (.list ds) ∨ Dp K H w (.tuple ds)) ∧ SeqAt.shaped d = true ∧ SeqAt.shaped (.list ds) = true ∧ (ds.any fun z => PyData.eqv z d) = z := by
  unfold gIn at hz
  cases b with
  | lst ys =>
    simp only at hz
    by_cases h : good 39 a = true ∧ ys.all (good 39) = true
    · rw [if_pos h] at hz
      cases hz
      have g : good 40 (.lst ys) = true := h.2
      exact ⟨pyN 39 a, ys.map (pyN 39), dp_of (ha.rep e) h.1, .inl (dp_of (n := 40) (hb.rep e) g), good39 h.1, good_shaped g, any_deq h.1 h.2⟩
    · rw [if_neg h] at hz; cases hz
  | tup ys =>
    simp only at hz
    by_cases h : good 39 a = true ∧ ys.all (good 39) = true
    · rw [if_pos h] at hz
      cases hz
      have g : good 40 (.lst ys) = true := h.2
      exact ⟨pyN 39 a, ys.map (pyN 39), dp_of (ha.rep e) h.1, .inr (dp_of (n := 40) (hb.rep e) h.2), good39 h.1, good_shaped g, any_deq h.1 h.2⟩
    · rw [if_neg h] at hz; cases hz
  | _ => cases hz
theorem gIn_bl {a b z : D} (h : gIn a b = some z) : ∃ c, z = .bl c := by
  unfold gIn at h
  cases b with
  | lst ys => simp only at h; split at h <;> cases h; exact ⟨_, rfl⟩
  | tup ys => simp only at h; split at h <;> cases h; exact ⟨_, rfl⟩
  | _ => cases h
theorem p_in : P2 K (rInT K) gIn := by
  intro F H v w a b z Q e ha hb hz q
  obtain ⟨c, rfl⟩ := gIn_bl hz
  obtain ⟨d, ds, h1, h2, h3, h4, h5⟩ := in_core e ha hb hz
  exact ⟨d, ds, h1, h2, h3, h4, by rw [h5]; exact q F H _ .refl (.bl _)⟩
theorem p_notIn : P2 K (rNotInT K) gNotIn := by
  intro F H v w a b z Q e ha hb hz q
  unfold gNotIn at hz
  cases hg : gIn a b with
  | none => rw [hg] at hz; cases hz
  | some y =>
    obtain ⟨c, rfl⟩ := gIn_bl hg
    rw [hg] at hz
    cases hz
    obtain ⟨d, ds, h1, h2, h3, h4, h5⟩ := in_core e ha hb hg
    exact ⟨d, ds, h1, h2, h3, h4, by rw [h5]; exact q F H _ .refl (.bl _)⟩
end

/-! ### arithmetic -/
def bound (n : Nat) : Bool := decide (n ≤ 1000000)
theorem bound_line {n : Nat} (h : bound n = true) : n ≤ sizeLine := Nat.le_trans (of_decide_eq_true h) (by decide)
def rAddAny (K : PySem.W.Frag) : R2 := fun x y H Q => rI0 (fun i j => .int (i + j)) x y H Q ∨ (∃ i j, x = .str i ∧ y = .str j ∧ i.length + j.length ≤ sizeLine ∧ Q (.str (i ++ j)) H) ∨ rCatA K x y H Q ∨ rCat x y H Q
def gAdd : D → D → Option D
  | .int i, .int j => some (.int (i + j))
  | .str x, .str y => if bound (x.length + y.length) = true then some (.str (x ++ y)) else none
  | .tup xs, .tup ys => if bound (xs.length + ys.length) = true then some (.tup (xs ++ ys)) else none
  | .lst xs, .lst ys => if bound (xs.length + ys.length) = true then some (.lst (xs ++ ys)) else none
  | _, _ => none
def gI (f : Int → Int → D) : D → D → Option D
  | .int i, .int j => some (f i j)
  | _, _ => none
def gIc (c : Int → Int → Bool) (f : Int → Int → D) : D → D → Option D
  | .int i, .int j => if c i j = true then some (f i j) else none
  | _, _ => none
section
variable {X : Cx} {K : PySem.W.Frag}
theorem op_addAny : OpR X (binaryOp .Add) (rAddAny X.K) := OpR.or op_add (OpR.or op_add_str (OpR.or op_catA op_cat))
theorem p_add : P2 K (rAddAny K) gAdd := by
  intro F H v w a b z Q e ha hb hz q
  unfold gAdd at hz
  split at hz
  · rename_i i j
    cases hz
    exact .inl ⟨i, j, ha.int, hb.int, q F H _ .refl (.int _)⟩
  · rename_i x y
    split at hz
    · rename_i hl
      cases hz
      exact .inr (.inl ⟨x, y, ha.str, hb.str, bound_line hl, q F H _ .refl (.str _)⟩)
    · cases hz
  · rename_i xs ys
    split at hz
    · rename_i hl
      cases hz
      obtain ⟨p, vs, rfl, h1, r1⟩ := ha.tup e
      obtain ⟨p2, ws, rfl, h2, r2⟩ := hb.tup e
      obtain ⟨p3, vs', e3, h3, r3⟩ := ha.tupX
      cases e3
      obtain ⟨p4, ws', e4, h4, r4⟩ := hb.tupX
      cases e4
      refine .inr (.inr (.inl ⟨p, p2, vs, ws, rfl, rfl, h1, h2, by rw [r1.length, r2.length]; exact bound_line hl, fun h0 => ?_, fun _ h0 => ?_, fun _ _ p3 hp => ?_⟩))
      · subst h0
        cases r1
        exact q F H _ .refl (.tup h4 r4)
      · subst h0
        cases r2
        rw [List.append_nil] at q
        exact q F H _ .refl (.tup h3 r3)
      · have al : Alloc F H (upd F p3 (.tup (vs ++ ws))) (upd H p3 (.tup (vs ++ ws))) := .new hp e
        exact q _ _ _ al (.tup upd_same ((r1.append r2).ex al.fx))
    · cases hz
  · rename_i xs ys
    split at hz
    · rename_i hl
      cases hz
      obtain ⟨p, vs, rfl, h1, r1⟩ := ha.lst e
      obtain ⟨p2, ws, rfl, h2, r2⟩ := hb.lst e
      refine .inr (.inr (.inr ⟨p, p2, vs, ws, rfl, rfl, h1, h2, by rw [r1.length, r2.length]; exact bound_line hl, fun p3 hp => ?_⟩))
      have al : Alloc F H (upd F p3 (.lst (vs ++ ws))) (upd H p3 (.lst (vs ++ ws))) := .new hp e
      exact q _ _ _ al (.lst upd_same ((r1.append r2).ex al.fx))
    · cases hz
  · cases hz
theorem p_I0 {g : Int → Int → V} {f : Int → Int → D} (h : ∀ F i j, Rep K F (g i j) (f i j)) : P2 K (rI0 g) (gI f) := by
  intro F H v w a b z Q e ha hb hz q
  unfold gI at hz
  split at hz
  · rename_i i j
    cases hz
    exact ⟨i, j, ha.int, hb.int, q F H _ .refl (h F i j)⟩
  · cases hz
theorem p_I {C : Int → Int → Prop} {c : Int → Int → Bool} {g : Int → Int → V} {f : Int → Int → D} (hc : ∀ i j, c i j = true → C i j) (h : ∀ F i j, Rep K F (g i j) (f i j)) : P2 K (rI C g) (gIc c f) := by
  intro F H v w a b z Q e ha hb hz q
  unfold gIc at hz
  split at hz
  · rename_i i j
    split at hz
    · rename_i hl
      cases hz
      exact ⟨i, j, ha.int, hb.int, hc i j hl, q F H _ .refl (h F i j)⟩
    · cases hz
  · cases hz
def cMul (i j : Int) : Bool := decide (-(2 ^ 64) < j ∧ j < 2 ^ 64) || decide (-(2 ^ 64) < i ∧ i < 2 ^ 64)
def cDiv (_ j : Int) : Bool := decide (0 < j ∧ j < 1073741824)
def cMod (_ j : Int) : Bool := decide (0 < j)
def cPow (i j : Int) : Bool := decide (0 ≤ j ∧ j ≤ 1000000 ∧ i.natAbs < 2 ^ 64)
def gSub := gI fun i j => .int (i - j)
def gMul := gIc cMul fun i j => .int (i * j)
def gDiv := gIc cDiv fun i j => .int (i / j)
def gMod := gIc cMod fun i j => .int (i % j)
def gPow := gIc cPow fun i j => .int (i ^ j.toNat)
def gShl := gIc cPow fun i j => .int (i * 2 ^ j.toNat)
def gAnd := gI fun i j => .int (Builtin.bitAnd i j)
def gLt := gI fun i j => .bl (decide (i < j))
def gLe := gI fun i j => .bl (decide (i ≤ j))
def gGt := gI fun i j => .bl (decide (j < i))
def gGe := gI fun i j => .bl (decide (j ≤ i))
theorem p_sub : P2 K (rI0 fun i j => .int (i - j)) gSub := p_I0 fun _ _ _ => .int _
theorem p_mul : P2 K (rI CMul fun i j => .int (i * j)) gMul := p_I (fun i j h => by
  unfold cMul at h
  rcases Bool.or_eq_true_iff.mp h with h | h
  · exact .inr (of_decide_eq_true h)
  · exact .inl (of_decide_eq_true h)) fun _ _ _ => .int _
theorem p_div : P2 K (rI CDiv fun i j => .int (i / j)) gDiv := p_I (fun i j h => (of_decide_eq_true h : 0 < j ∧ j < 1073741824)) fun _ _ _ => .int _
theorem p_mod : P2 K (rI (fun _ j => 0 < j) fun i j => .int (i % j)) gMod := p_I (fun i j h => of_decide_eq_true h) fun _ _ _ => .int _
theorem p_pow : P2 K (rI CPow fun i j => .int (i ^ j.toNat)) gPow := p_I (fun i j h => (of_decide_eq_true h : 0 ≤ j ∧ j ≤ 1000000 ∧ i.natAbs < 2 ^ 64)) fun _ _ _ => .int _
theorem p_shl : P2 K (rI CPow fun i j => .int (i * 2 ^ j.toNat)) gShl := p_I (fun i j h => (of_decide_eq_true h : 0 ≤ j ∧ j ≤ 1000000 ∧ i.natAbs < 2 ^ 64)) fun _ _ _ => .int _
theorem p_and : P2 K (rI0 fun i j => .int (Builtin.bitAnd i j)) gAnd := p_I0 fun _ _ _ => .int _
theorem p_lt : P2 K (rI0 fun i j => .bl (decide (i < j))) gLt := p_I0 fun _ _ _ => .bl _
theorem p_le : P2 K (rI0 fun i j => .bl (decide (i ≤ j))) gLe := p_I0 fun _ _ _ => .bl _
theorem p_gt : P2 K (rI0 fun i j => .bl (decide (j < i))) gGt := p_I0 fun _ _ _ => .bl _
theorem p_ge : P2 K (rI0 fun i j => .bl (decide (j ≤ i))) gGe := p_I0 fun _ _ _ => .bl _
def gNeg : D → Option D
  | .int i => some (.int (-i))
  | _ => none
theorem p_neg : P1 K (rU fun i => .int (-i)) gNeg := by
  intro F H v a z Q e ha hz q
  unfold gNeg at hz
  split at hz
  · rename_i i
    cases hz
    exact ⟨i, ha.int, q F H _ .refl (.int _)⟩
  · cases hz
/-- is None -/
def isNon : D → Bool
  | .non => true
  | _ => false
def gIsN : D → D → Option D
  | a, .non => some (.bl (isNon a))
  | _, _ => none
def gNotN : D → D → Option D
  | a, .non => some (.bl (!isNon a))
  | _, _ => none
theorem isNon_iff {F H : Hp} {v : V} {a : D} (h : RepH K F H v a) : decide (v = .non) = isNon a := by
  rcases h with h | ⟨p, o, rfl, _, c⟩
  · cases h <;> rfl
  · cases c <;> rfl
theorem p_isN : P2 K (fun x y H Q => y = .non ∧ Q (.bl (decide (x = .non))) H) gIsN := by
  intro F H v w a b z Q e ha hb hz q
  cases b with
  | non =>
    cases hz
    exact ⟨hb.non, by rw [isNon_iff ha]; exact q F H _ .refl (.bl _)⟩
  | _ => cases hz
theorem p_notN : P2 K (fun x y H Q => y = .non ∧ Q (.bl (!decide (x = .non))) H) gNotN := by
  intro F H v w a b z Q e ha hb hz q
  cases b with
  | non =>
    cases hz
    exact ⟨hb.non, by rw [isNon_iff ha]; exact q F H _ .refl (.bl _)⟩
  | _ => cases hz
def gIsB : D → D → Option D
  | .bl a, .bl b => some (.bl (decide (a = b)))
  | _, _ => none
def gNotB : D → D → Option D
  | .bl a, .bl b => some (.bl (!decide (a = b)))
  | _, _ => none
theorem p_isB : P2 K (fun x y H Q => ∃ a b, x = .bl a ∧ y = .bl b ∧ Q (.bl (decide (a = b))) H) gIsB := by
  intro F H v w a b z Q e ha hb hz q
  unfold gIsB at hz
  split at hz
  · cases hz; exact ⟨_, _, ha.bl, hb.bl, q F H _ .refl (.bl _)⟩
  · cases hz
theorem p_notB : P2 K (fun x y H Q => ∃ a b, x = .bl a ∧ y = .bl b ∧ Q (.bl (!decide (a = b))) H) gNotB := by
  intro F H v w a b z Q e ha hb hz q
  unfold gNotB at hz
  split at hz
  · cases hz; exact ⟨_, _, ha.bl, hb.bl, q F H _ .refl (.bl _)⟩
  · cases hz
end

/-! ### x[i], x[lo:hi] -/
def gIx : D → D → Option D
  | .lst xs, .int i => atI xs i
  | .scr xs, .int i => atI xs i
  | .tup xs, .int i => atI xs i
  | .str z, .int i => if bound z.length = true then (atI z.cps.toList i).map fun c => .str ⟨#[c]⟩ else none
  | _, _ => none
theorem ixN_atI {K : PySem.W.Frag} {F : Hp} {vs : List V} {xs : List D} {i : Int} {x : D} (r : RepL K F vs xs) (h : atI xs i = some x) : ∃ v, atI vs i = some v ∧ Rep K F v x := by
  unfold atI at h ⊢
  rw [r.length]
  cases e : ixN xs.length i with
  | none => rw [e] at h; cases h
  | some j =>
    rw [e] at h
    exact r.get h
theorem p_ix {K : PySem.W.Frag} : P2 K (rIx K) gIx := by
  intro F H v w a b z Q e ha hb hz q
  unfold gIx at hz
  split at hz
  · rename_i xs i
    obtain ⟨p, vs, rfl, h1, r1⟩ := ha.lst e
    obtain ⟨u, hu, ru⟩ := ixN_atI r1 hz
    exact .inl ⟨p, vs, i, u, rfl, hb.int, SqL.of h1, hu, q F H _ .refl ru⟩
  · rename_i xs i
    obtain ⟨p, vs, rfl, h1, r1⟩ := ha.scr e
    obtain ⟨u, hu, ru⟩ := ixN_atI r1 hz
    exact .inl ⟨p, vs, i, u, rfl, hb.int, h1, hu, q F H _ .refl ru⟩
  · rename_i xs i
    obtain ⟨p, vs, rfl, h1, r1⟩ := ha.tup e
    obtain ⟨u, hu, ru⟩ := ixN_atI r1 hz
    exact .inr (.inl ⟨p, vs, i, u, rfl, hb.int, h1, hu, q F H _ .refl ru⟩)
  · rename_i x i
    split at hz
    · rename_i hl
      cases hc : atI x.cps.toList i with
      | none => rw [hc] at hz; cases hz
      | some c =>
        rw [hc] at hz; cases hz
        exact .inr (.inr ⟨x, i, c, ha.str, hb.int, bound_line hl, hc, q F H _ .refl (.str _)⟩)
    · cases hz
  · cases hz
/-- the bounds of a slice -/
def fNoPart : M (Option Int) := fun ρ => .ok none ρ
def fPart (fe : M Vl) : M (Option Int) := M.bnd fe fun x ρ => match look ρ x with
  | some (.int i) => .ok (some i) ρ
  | _ => .bad
def EvO (K : PySem.W.Frag) (E : XW) (to : TO) (f : M (Option Int)) : Prop := ∀ (C : Ctx) (F H : Hp) (σ : L2.St) (ρ : Rho) (Q : Option Int → Hp → Prop), C.K = K → Ok C F H σ ρ → Post C E σ ρ F H (fun _ _ _ (b c : Option Int) => b = c) Q (f ρ) → to σ H Q
structure PFo (X : Cx) (e : Option Expr) (to : TO) (E : XW) (f : M (Option Int)) : Prop where
  po : PO X e to
  ev : EvO X.K E to f
/-- the items from lo to hi -/
def cutD (xs : List D) (lo hi : Option Int) : List D := (xs.drop (HT.sIx xs.length 0 lo)).take (HT.sIx xs.length xs.length hi - HT.sIx xs.length 0 lo)
def gSl (x : D) (lo hi : Option Int) : Option D := match x with
  | .lst xs => some (.lst (cutD xs lo hi))
  | .scr xs => some (.lst (cutD xs lo hi))
  | .tup xs => some (.tup (cutD xs lo hi))
  | .str z => if bound z.length = true then some (.str (cutS z lo hi)) else none
  | _ => none
def fSl (fe : M Vl) (fl fh : M (Option Int)) : M Vl := M.bnd fe fun x => M.bnd fl fun lo => M.bnd fh fun hi ρ => match look ρ x with
  | some a => match gSl a lo hi with
    | some z => .ok (.d z) ρ
    | none => .bad
  | none => .bad
def rSlAny (K : PySem.W.Frag) : V → Option Int → Option Int → Hp → VK → Prop := fun x lo hi H Q => rSlL K x lo hi H Q ∨ rSlA K x lo hi H Q ∨ rSlS x lo hi H Q
theorem cut_rep {K : PySem.W.Frag} {F : Hp} {vs : List V} {xs : List D} {lo hi : Option Int} (r : RepL K F vs xs) : RepL K F (cutV vs lo hi) (cutD xs lo hi) := by
  unfold cutV cutD
  rw [r.length]
  exact (r.drop _).take _
theorem cut_all {xs : List D} {lo hi : Option Int} (h : HT.sIx xs.length 0 lo = 0 ∧ HT.sIx xs.length xs.length hi = xs.length) : cutD xs lo hi = xs := by
  unfold cutD
  rw [h.1, h.2]
  simp
section
variable {X : Cx} {K : PySem.W.Frag} {E : XW} {te : TE} {fe : M Vl} {tl th : TO} {fl fh : M (Option Int)}
theorem sl_any : SlR X (rSlAny X.K) := SlR.or sl_list (SlR.or sl_tupA sl_str)
theorem eo_none : EvO K E tNoPart fNoPart := fun C F H σ ρ Q hK ok h => h F H none ok .refl rfl
theorem eo_some (he : EvE K E te fe) : EvO K E (tPart te) (fPart fe) := by
  intro C F H σ ρ Q hK ok h
  subst hK
  refine he C F H σ ρ _ rfl ok (Post.bnd h fun x r1 F1 H1 v e1 ok1 st1 vo1 h1 => ?_)
  cases e2 : look r1 x with
  | none => simp only [e2] at h1; exact h1.elim
  | some a =>
    cases a with
    | int i =>
      simp only [e2] at h1
      exact ⟨i, (vo1.read ok1 e2).int, h1 F1 H1 (some i) ok1 .refl rfl⟩
    | _ => simp only [e2] at h1; exact h1.elim
theorem ev_sl (he : EvE K E te fe) (hl : EvO K E tl fl) (hh : EvO K E th fh) : EvE K E (tSl (rSlAny K) te tl th) (fSl fe fl fh) := by
  intro C F H σ ρ Q hK ok h
  subst hK
  refine he C F H σ ρ _ rfl ok (Post.bnd h fun x r1 F1 H1 v e1 ok1 st1 vo1 h1 => ?_)
  refine hl C F1 H1 σ r1 _ rfl ok1 (Post.bnd h1 fun lo r2 F2 H2 lo' e2 ok2 st2 el h2 => ?_)
  cases el
  refine hh C F2 H2 σ r2 _ rfl ok2 (Post.bnd h2 fun hi r3 F3 H3 hi' e3 ok3 st3 eh h3 => ?_)
  cases eh
  cases e4 : look r3 x with
  | none => simp only [e4] at h3; exact h3.elim
  | some a =>
    simp only [e4] at h3
    have rh : RepH C.K F3 H3 v a := ((vo1.step st2).step st3).read ok3 e4
    cases e5 : gSl a lo hi with
    | none => simp only [e5] at h3; exact h3.elim
    | some z =>
      simp only [e5] at h3
      have fin : ∀ F' H' u, Alloc F3 H3 F' H' → Rep C.K F' u z → Q u H' := fun F' H' u al rp => h3 F' H' u (ok3.alloc al) (.of_alloc al) rp
      unfold gSl at e5
      split at e5
      · cases e5
        obtain ⟨p, vs, rfl, q1, r⟩ := rh.lst ok3.sub
        refine .inl ⟨p, vs, rfl, SqL.of q1, fun p2 hp => ?_⟩
        have al : Alloc F3 H3 (upd F3 p2 (.lst (cutV vs lo hi))) (upd H3 p2 (.lst (cutV vs lo hi))) := .new hp ok3.sub
        exact fin _ _ _ al (.lst upd_same ((cut_rep r).ex al.fx))
      · cases e5
        obtain ⟨p, vs, rfl, q1, r⟩ := rh.scr ok3.sub
        refine .inl ⟨p, vs, rfl, q1, fun p2 hp => ?_⟩
        have al : Alloc F3 H3 (upd F3 p2 (.lst (cutV vs lo hi))) (upd H3 p2 (.lst (cutV vs lo hi))) := .new hp ok3.sub
        exact fin _ _ _ al (.lst upd_same ((cut_rep r).ex al.fx))
      · rename_i xs
        cases e5
        obtain ⟨p, vs, rfl, q1, r⟩ := rh.tupX
        refine .inr (.inl ⟨p, vs, rfl, SqT.of (ok3.sub _ _ q1), fun hw => ?_, fun hw p2 hp => ?_⟩)
        · rw [r.length] at hw
          refine fin F3 H3 _ .refl ?_
          rw [cut_all hw]
          exact .tup q1 r
        · have al : Alloc F3 H3 (upd F3 p2 (.tup (cutV vs lo hi))) (upd H3 p2 (.tup (cutV vs lo hi))) := .new hp ok3.sub
          exact fin _ _ _ al (.tup upd_same ((cut_rep r).ex al.fx))
      · rename_i x
        split at e5
        · rename_i hl
          cases e5
          exact .inr (.inr ⟨x, rh.str, bound_line hl, fin F3 H3 _ .refl (.str _)⟩)
        · cases e5
      · cases e5
end
section
variable {X : Cx} {E : XW} {pos p2 : Pos} {e a b : Expr} {te ta tb : TE} {fe fa fb : M Vl} {lo hi : Option Expr} {tl th : TO} {fl fh : M (Option Int)}
theorem pfo_none : PFo X none tNoPart E fNoPart := ⟨po_none, eo_none⟩
theorem pfo_some (he : PF X e te E fe) : PFo X (some e) (tPart te) E (fPart fe) := ⟨po_some he.pe, eo_some he.ev⟩
theorem pf_sl (he : PF X e te E fe) (hl : PFo X lo tl E fl) (hh : PFo X hi th E fh) : PF X (.Subscript e (.Slice lo hi none p2) pos) (tSl (rSlAny X.K) te tl th) E (fSl fe fl fh) := ⟨pe_slice sl_any he.pe hl.po hh.po, ev_sl he.ev hl.ev hh.ev⟩
theorem pf_ix (ha : PF X a ta E fa) (hb : PF X b tb E fb) (hs : PlainIx b := by intro _ _; rfl) : PF X (.Subscript a b pos) (tOp (rIx X.K) ta tb) E (fOp gIx fa fb) := ⟨pe_ix ix_seq ha.pe hb.pe hs, ev_op p_ix ha.ev hb.ev⟩
end
end DL

namespace DL
open PySem PySem.Spec PyProof.Rows L2

/-! ### calls of built-ins -/
inductive RepHL (K : PySem.W.Frag) (F H : Hp) : List V → List D → Prop
  | nil : RepHL K F H [] []
  | cons {v : V} {vs : List V} {x : D} {xs : List D} : RepH K F H v x → RepHL K F H vs xs → RepHL K F H (v :: vs) (x :: xs)
def lookL (ρ : Rho) : List Vl → Option (List D)
  | [] => some []
  | x :: xs => match look ρ x, lookL ρ xs with
    | some a, some as => some (a :: as)
    | _, _ => none
def PC (K : PySem.W.Frag) (r : List V → Hp → VK → Prop) (g : List D → Option D) : Prop := ∀ (F H : Hp) (vs : List V) (xs : List D) (z : D) (Q : VK), Ex F H → RepHL K F H vs xs → g xs = some z →
  (∀ F' H' u, Alloc F H F' H' → Rep K F' u z → Q u H') → r vs H Q
def liftL (g : List D → Option D) (vls : List Vl) : M Vl := fun ρ => match lookL ρ vls with
  | some xs => match g xs with
    | some z => .ok (.d z) ρ
    | none => .bad
  | none => .bad
def fCB (g : List D → Option D) (fa : M (List Vl)) : M Vl := M.bnd fa fun vs => liftL g vs
section
variable {K : PySem.W.Frag} {E : XW} {ta : TA} {fa : M (List Vl)} {r : List V → Hp → VK → Prop} {g : List D → Option D}
theorem VlsOk.read {C : Ctx} {F H : Hp} {σ : L2.St} {ρ : Rho} (ok : Ok C F H σ ρ) : ∀ {vs : List V} {vls : List Vl} {xs : List D}, VlsOk C F σ ρ vs vls → lookL ρ vls = some xs → RepHL C.K F H vs xs
  | _, _, _, .nil, e => by cases e; exact .nil
  | _, _, _, .cons (x := x) (xs := ys) h t, e => by
    unfold lookL at e
    cases e1 : look ρ x with
    | none => simp [e1] at e
    | some a =>
      cases e2 : lookL ρ ys with
      | none => simp [e1, e2] at e
      | some as =>
        simp [e1, e2] at e
        subst e
        exact .cons (h.read ok e1) (VlsOk.read ok t e2)
theorem ev_cb (p : PC K r g) (ha : EvA K E ta fa) : EvE K E (tCB r ta) (fCB g fa) := by
  intro C F H σ ρ Q hK ok h
  subst hK
  refine ha C F H σ ρ _ rfl ok (Post.bnd h fun vls r1 F1 H1 vs e1 ok1 st1 vo1 h1 => ?_)
  unfold liftL at h1
  cases e2 : lookL r1 vls with
  | none => simp only [e2] at h1; exact h1.elim
  | some xs =>
    simp only [e2] at h1
    cases e3 : g xs with
    | none => simp only [e3] at h1; exact h1.elim
    | some z =>
      simp only [e3] at h1
      exact p F1 H1 vs xs z Q ok1.sub (VlsOk.read ok1 vo1 e2) e3 fun F' H' u al rp => h1 F' H' u (ok1.alloc al) (.of_alloc al) rp
/-- .. that gives a new object for a name alone -/
def PCN (K : PySem.W.Frag) (r : List V → Hp → VK → Prop) (g : List D → Option D) : Prop := ∀ (F H : Hp) (vs : List V) (xs : List D) (m : D) (Q : VK), Ex F H → RepHL K F H vs xs → g xs = some m →
  (∀ p o, H p = none → Cont K F o m → Q (.ref p) (upd H p o)) → r vs H Q
def fCBN (g : List D → Option D) (fa : M (List Vl)) : M D := M.bnd fa fun vs ρ => match lookL ρ vs with
  | some xs => match g xs with
    | some m => .ok m ρ
    | none => .bad
  | none => .bad
theorem ev_cbN (p : PCN K r g) (ha : EvA K E ta fa) : EvN K E (tCB r ta) (fCBN g fa) := by
  intro C F H σ ρ Q hK ok h
  subst hK
  refine ha C F H σ ρ _ rfl ok (Post.bnd h fun vls r1 F1 H1 vs e1 ok1 st1 vo1 h1 => ?_)
  cases e2 : lookL r1 vls with
  | none => simp only [e2] at h1; exact h1.elim
  | some xs =>
    simp only [e2] at h1
    cases e3 : g xs with
    | none => simp only [e3] at h1; exact h1.elim
    | some m =>
      simp only [e3] at h1
      refine p F1 H1 vs xs m Q ok1.sub (VlsOk.read ok1 vo1 e2) e3 fun q o hq c => ?_
      have al : Alloc F1 H1 F1 (upd H1 q o) := .raw hq ok1.sub
      exact h1 F1 _ _ (ok1.alloc al) (.of_alloc al) ⟨q, o, rfl, st1.free hq, ok1.sub.free hq, upd_same, c⟩
end
section
variable {X : Cx} {E : XW} {x : Str} {id T : String} {p pos : Pos} {e : Expr} {es : List Expr} {ta : TA} {fa : M (List Vl)} {r : List V → Hp → VK → Prop} {g : List D → Option D}
theorem pf_cb (hc : CallR X (.builtin id) r) (pc : PC X.K r g) (hm : X.mg x = none) (ha : PFa X (e :: es) ta E fa) (hg : Gl X x := by rfl) (hv : bootBuiltins x = some (.builtin id) := by decide +kernel) (hn : x ≠ "__name__" := by decide) (hdb : (x == ("__debug__" : Str)) = false := by decide)
    (he : starEach (e :: es) X.env = (false, eval e X.env) :: starEach es X.env := by rfl) (hpl : (backTo pos (starEach es X.env)).any (·.1) = false := by rfl) : PF X (.Call (.Name x p) (e :: es) [] pos) (tCB r ta) E (fCB g fa) :=
  ⟨pe_callB hc hg hm hv ha.pa hn hdb he hpl, ev_cb pc ha.ev⟩
theorem pf_cty (hc : CallR X (.type T) r) (pc : PC X.K r g) (hm : X.mg x = none) (ha : PFa X (e :: es) ta E fa) (hg : Gl X x := by rfl) (hv : bootBuiltins x = some (.type T) := by decide +kernel) (hn : x ≠ "__name__" := by decide) (hdb : (x == ("__debug__" : Str)) = false := by decide)
    (he : starEach (e :: es) X.env = (false, eval e X.env) :: starEach es X.env := by rfl) (hpl : (backTo pos (starEach es X.env)).any (·.1) = false := by rfl) : PF X (.Call (.Name x p) (e :: es) [] pos) (tCB r ta) E (fCB g fa) :=
  ⟨pe_callTy hc hg hm hv ha.pa hn hdb he hpl, ev_cb pc ha.ev⟩
theorem pn_cty (hc : CallR X (.type T) r) (pc : PCN X.K r g) (hm : X.mg x = none) (ha : PFa X (e :: es) ta E fa) (hg : Gl X x := by rfl) (hv : bootBuiltins x = some (.type T) := by decide +kernel) (hn : x ≠ "__name__" := by decide) (hdb : (x == ("__debug__" : Str)) = false := by decide)
    (he : starEach (e :: es) X.env = (false, eval e X.env) :: starEach es X.env := by rfl) (hpl : (backTo pos (starEach es X.env)).any (·.1) = false := by rfl) : PN X (.Call (.Name x p) (e :: es) [] pos) (tCB r ta) E (fCBN g fa) :=
  ⟨pe_callTy hc hg hm hv ha.pa hn hdb he hpl, ev_cbN pc ha.ev⟩
end
section
variable {K : PySem.W.Frag} {F H : Hp} {vs : List V} {a b : D}
theorem RepHL.one (h : RepHL K F H vs [a]) : ∃ v, vs = [v] ∧ RepH K F H v a := by
  cases h with
  | cons h t => cases t; exact ⟨_, rfl, h⟩
theorem RepHL.two (h : RepHL K F H vs [a, b]) : ∃ v w, vs = [v, w] ∧ RepH K F H v a ∧ RepH K F H w b := by
  cases h with
  | cons h t =>
    obtain ⟨w, rfl, h2⟩ := t.one
    exact ⟨_, _, rfl, h, h2⟩
end

/-! ### len, int, str, tuple, list, isinstance -/
def gLen : List D → Option D
  | [.lst xs] => some (.int xs.length)
  | [.tup xs] => some (.int xs.length)
  | [.scr xs] => some (.int xs.length)
  | [.str z] => if bound z.length = true then some (.int z.length) else none
  | [.dK kvs] => some (.int kvs.length)
  | [.dT kvs] => some (.int kvs.length)
  | _ => none
def rLenTR : List V → Hp → VK → Prop := fun xs H Q => ∃ (p : Addr) (kvs : List (List Key × V)), xs = [.ref p] ∧ Rd H p (.dT kvs) ∧ Q (.int ((kvs.length : Nat) : Int)) H
theorem call_len_dTR {X : Cx} : CallR X (.builtin "len") rLenTR := by
  intro pins s σ H xs us Q I r h
  obtain ⟨p, kvs, rfl, hp, q⟩ := h
  obtain ⟨u, rfl, rx⟩ := vals1 r
  obtain rfl : u = .ref p := rx
  obtain ⟨z, hd, ys, rel, dd⟩ := dt_rd I.hok hp
  have hl : kvs.length = ys.length := Paired.length rel
  refine call_len_dictH hd dd (by rw [← hl]; rw [sizeLine_eq] at z; omega) ?_
  rw [← hl]
  exact ⟨.int ((kvs.length : Nat) : Int), H, I.tok _, ⟨_, rfl⟩, q⟩
def rLenAny (K : PySem.W.Frag) : List V → Hp → VK → Prop := fun xs H Q => (∃ x n, xs = [x] ∧ LenV K x H n ∧ Q (.int n) H) ∨ (∃ (a : Addr) (kvs : List (Key × V)), xs = [V.ref a] ∧ Rd H a (.dK kvs) ∧ Q (.int kvs.length) H) ∨ rLenTR xs H Q
theorem call_lenAny {X : Cx} : CallR X (.builtin "len") (rLenAny X.K) := by
  intro pins s σ H xs us Q I r h
  rcases h with h | ⟨a, kvs, rfl, ha, q⟩ | h
  · exact call_len pins s σ H xs us Q I r h
  · obtain ⟨u, rfl, ru⟩ := vals1 r
    cases ru
    exact d_len I ha fun t s' I' => ⟨.int kvs.length, H, I', ⟨t, rfl⟩, q⟩
  · exact call_len_dTR pins s σ H xs us Q I r h
theorem keys_len {α β κ : Type} {l : List (κ × α)} {m : List (κ × β)} (h : l.map (·.1) = m.map (·.1)) : l.length = m.length := by
  have := congrArg List.length h
  simpa using this
theorem p_len {K : PySem.W.Frag} : PC K (rLenAny K) gLen := by
  intro F H vs xs z Q e hx hz q
  unfold gLen at hz
  split at hz
  · obtain ⟨v, rfl, h⟩ := hx.one
    cases hz
    obtain ⟨p, vs, rfl, h1, r⟩ := h.lst e
    exact .inl ⟨_, vs.length, rfl, .inl ⟨vs, SqL.of h1, rfl⟩, by rw [r.length]; exact q F H _ .refl (.int _)⟩
  · obtain ⟨v, rfl, h⟩ := hx.one
    cases hz
    obtain ⟨p, vs, rfl, h1, r⟩ := h.tup e
    exact .inl ⟨_, vs.length, rfl, .inr ⟨vs, h1, rfl⟩, by rw [r.length]; exact q F H _ .refl (.int _)⟩
  · obtain ⟨v, rfl, h⟩ := hx.one
    cases hz
    obtain ⟨p, vs, rfl, h1, r⟩ := h.scr e
    exact .inl ⟨_, vs.length, rfl, .inl ⟨vs, h1, rfl⟩, by rw [r.length]; exact q F H _ .refl (.int _)⟩
  · rename_i y
    obtain ⟨v, rfl, h⟩ := hx.one
    split at hz
    · rename_i hl
      cases hz
      cases h.str
      exact .inl ⟨_, y.length, rfl, ⟨bound_line hl, rfl⟩, q F H _ .refl (.int _)⟩
    · cases hz
  · obtain ⟨v, rfl, h⟩ := hx.one
    cases hz
    obtain ⟨p, kvs, rfl, h1, k, r⟩ := h.dK e
    exact .inr (.inl ⟨p, kvs, rfl, h1, by rw [keys_len k]; exact q F H _ .refl (.int _)⟩)
  · obtain ⟨v, rfl, h⟩ := hx.one
    cases hz
    obtain ⟨p, kvs, rfl, h1, k, r⟩ := h.dT e
    exact .inr (.inr ⟨p, kvs, rfl, h1, by rw [keys_len k]; exact q F H _ .refl (.int _)⟩)
  · cases hz
def gInt : List D → Option D
  | [.int i] => some (.int i)
  | [.bl b] => some (.int (if b then 1 else 0))
  | [.str a] => if decide (a.length ≤ 640) = true then (PySem.intText? a).map D.int else none
  | _ => none
def rIntAny : List V → Hp → VK → Prop := fun xs H Q => ((∃ i, xs = [.int i] ∧ Q (.int i) H) ∨ ∃ k, xs = [.bl k] ∧ Q (.int (if k then 1 else 0)) H) ∨ (∃ a n, xs = [.str a] ∧ PySem.intText? a = some n ∧ a.length ≤ 640 ∧ Q (.int n) H)
theorem call_intAny {X : Cx} : CallR X (.type "int") rIntAny := CallR.or call_int1 call_int_str
theorem p_int {K : PySem.W.Frag} : PC K rIntAny gInt := by
  intro F H vs xs z Q e hx hz q
  unfold gInt at hz
  split at hz
  · obtain ⟨v, rfl, h⟩ := hx.one
    cases hz
    cases h.int
    exact .inl (.inl ⟨_, rfl, q F H _ .refl (.int _)⟩)
  · obtain ⟨v, rfl, h⟩ := hx.one
    cases hz
    cases h.bl
    exact .inl (.inr ⟨_, rfl, q F H _ .refl (.int _)⟩)
  · rename_i a
    obtain ⟨v, rfl, h⟩ := hx.one
    split at hz
    · rename_i hl
      cases h.str
      cases hn : PySem.intText? a with
      | none => rw [hn] at hz; cases hz
      | some n =>
        rw [hn] at hz; cases hz
        exact .inr ⟨a, n, rfl, hn, of_decide_eq_true hl, q F H _ .refl (.int _)⟩
    · cases hz
  · cases hz
def gStr : List D → Option D
  | [.int i] => if decide (i.natAbs < 2 ^ 1000) = true then some (.str (toString i)) else none
  | _ => none
theorem log_small {i : Int} (h : i.natAbs < 2 ^ 1000) : i.natAbs.log2 < 1920 := by
  by_cases h0 : i.natAbs = 0
  · rw [h0]; decide
  · have := (Nat.log2_lt h0).mpr h
    omega
theorem p_str {K : PySem.W.Frag} : PC K (fun xs H Q => ∃ i, xs = [.int i] ∧ i.natAbs.log2 < 1920 ∧ Q (.str (toString i)) H) gStr := by
  intro F H vs xs z Q e hx hz q
  unfold gStr at hz
  split at hz
  · obtain ⟨v, rfl, h⟩ := hx.one
    split at hz
    · rename_i hl
      cases hz
      cases h.int
      exact ⟨_, rfl, log_small (of_decide_eq_true hl), q F H _ .refl (.str _)⟩
    · cases hz
  · cases hz
def gTuple : List D → Option D
  | [.lst xs] => some (.tup xs)
  | [.tup xs] => some (.tup xs)
  | [.scr xs] => some (.tup xs)
  | _ => none
theorem p_tuple {K : PySem.W.Frag} : PC K (fun xs H Q => ∃ p ys, xs = [.ref p] ∧ ((SqL K H p ys ∧ ∀ l, H l = none → Q (.ref l) (upd H l (.tup ys))) ∨ (SqT K H p ys ∧ Q (.ref p) H))) gTuple := by
  intro F H vs xs z Q e hx hz q
  unfold gTuple at hz
  split at hz
  · obtain ⟨v, rfl, h⟩ := hx.one
    cases hz
    obtain ⟨p, vs, rfl, h1, r⟩ := h.lst e
    refine ⟨p, vs, rfl, .inl ⟨SqL.of h1, fun l hl => ?_⟩⟩
    have al : Alloc F H (upd F l (.tup vs)) (upd H l (.tup vs)) := .new hl e
    exact q _ _ _ al (.tup upd_same (r.ex al.fx))
  · obtain ⟨v, rfl, h⟩ := hx.one
    cases hz
    obtain ⟨p, vs, rfl, h1, r⟩ := h.tupX
    exact ⟨p, vs, rfl, .inr ⟨SqT.of (e _ _ h1), q F H _ .refl (.tup h1 r)⟩⟩
  · obtain ⟨v, rfl, h⟩ := hx.one
    cases hz
    obtain ⟨p, vs, rfl, h1, r⟩ := h.scr e
    refine ⟨p, vs, rfl, .inl ⟨h1, fun l hl => ?_⟩⟩
    have al : Alloc F H (upd F l (.tup vs)) (upd H l (.tup vs)) := .new hl e
    exact q _ _ _ al (.tup upd_same (r.ex al.fx))
  · cases hz
def gList : List D → Option D
  | [.lst xs] => some (.lst xs)
  | [.tup xs] => some (.lst xs)
  | [.scr xs] => some (.lst xs)
  | _ => none
theorem pn_list {K : PySem.W.Frag} : PCN K (fun xs H Q => ∃ p ys, xs = [.ref p] ∧ (SqL K H p ys ∨ SqT K H p ys) ∧ ∀ l, H l = none → Q (.ref l) (upd H l (.lst ys))) gList := by
  intro F H vs xs z Q e hx hz q
  unfold gList at hz
  split at hz
  · obtain ⟨v, rfl, h⟩ := hx.one
    cases hz
    obtain ⟨p, vs, rfl, h1, r⟩ := h.lst e
    exact ⟨p, vs, rfl, .inl (SqL.of h1), fun l hl => q l _ hl (.lst r)⟩
  · obtain ⟨v, rfl, h⟩ := hx.one
    cases hz
    obtain ⟨p, vs, rfl, h1, r⟩ := h.tup e
    exact ⟨p, vs, rfl, .inr h1, fun l hl => q l _ hl (.lst r)⟩
  · obtain ⟨v, rfl, h⟩ := hx.one
    cases hz
    obtain ⟨p, vs, rfl, h1, r⟩ := h.scr e
    exact ⟨p, vs, rfl, .inl h1, fun l hl => q l _ hl (.lst r)⟩
  · cases hz
/-- the built-in type of a value -/
def tyName : D → Option String
  | .non => some "NoneType"
  | .bl _ => some "bool"
  | .int _ => some "int"
  | .str _ => some "str"
  | .tup _ => some "tuple"
  | .lst _ => some "list"
  | _ => none
def isiT (a T : String) : Option Bool :=
  if T = "int" then some (a == "int" || a == "bool")
  else if T = "bool" then some (a == "bool")
  else if T = "str" then some (a == "str")
  else if T = "tuple" then some (a == "tuple")
  else if T = "list" then some (a == "list")
  else none
def gIsi : List D → Option D
  | [x, .ty T] => match tyName x with
    | some a => (isiT a T).map D.bl
    | none => none
  | _ => none
theorem isiT_kit {a T : String} {b : Bool} (ha : a = "NoneType" ∨ a = "bool" ∨ a = "int" ∨ a = "str" ∨ a = "tuple" ∨ a = "list") (h : isiT a T = some b) : kitB a T = some b := by
  unfold isiT at h
  split at h
  · rename_i e; subst e
    rcases ha with rfl | rfl | rfl | rfl | rfl | rfl <;> (cases h; decide +kernel)
  · split at h
    · rename_i e; subst e
      rcases ha with rfl | rfl | rfl | rfl | rfl | rfl <;> (cases h; decide +kernel)
    · split at h
      · rename_i e; subst e
        rcases ha with rfl | rfl | rfl | rfl | rfl | rfl <;> (cases h; decide +kernel)
      · split at h
        · rename_i e; subst e
          rcases ha with rfl | rfl | rfl | rfl | rfl | rfl <;> (cases h; decide +kernel)
        · split at h
          · rename_i e; subst e
            rcases ha with rfl | rfl | rfl | rfl | rfl | rfl <;> (cases h; decide +kernel)
          · cases h
theorem tyX_of {K : PySem.W.Frag} {F H : Hp} {v : V} {x : D} {a : String} (e : Ex F H) (h : RepH K F H v x) (ha : tyName x = some a) : TyX K H v (.type a) ∧ (a = "NoneType" ∨ a = "bool" ∨ a = "int" ∨ a = "str" ∨ a = "tuple" ∨ a = "list") := by
  cases x with
  | non => cases ha; cases h.non; exact ⟨.base .non, by simp⟩
  | bl b => cases ha; cases h.bl; exact ⟨.base (.bl b), by simp⟩
  | int i => cases ha; cases h.int; exact ⟨.base (.int i), by simp⟩
  | str y => cases ha; cases h.str; exact ⟨.base (.str y), by simp⟩
  | tup xs =>
    cases ha
    obtain ⟨p, vs, rfl, h1, r⟩ := h.tup e
    refine ⟨?_, by simp⟩
    rcases h1 with (h1 | ⟨o, h1⟩) | ⟨o, its, n, hk, hc, _⟩
    · exact .base (.tup h1)
    · exact .fTuple h1
    · exact .kTuple hk hc
  | lst xs =>
    cases ha
    obtain ⟨p, vs, rfl, h1, r⟩ := h.lst e
    exact ⟨.base (.lst h1), by simp⟩
  | _ => cases ha
theorem p_isi {K : PySem.W.Frag} : PC K (rIsi K) gIsi := by
  intro F H vs xs z Q e hx hz q
  unfold gIsi at hz
  split at hz
  · rename_i x T
    obtain ⟨v, w, rfl, h1, h2⟩ := hx.two
    cases ht : tyName x with
    | none => rw [ht] at hz; cases hz
    | some a =>
      rw [ht] at hz
      cases hb : isiT a T with
      | none => simp [hb] at hz
      | some b =>
        simp [hb] at hz
        subst hz
        cases h2.ty
        obtain ⟨ty, hs⟩ := tyX_of e h1 ht
        exact ⟨v, .ty T, .type a, .type T, b, rfl, .ty T, ty, kit_ty (isiT_kit hs hb), q F H _ .refl (.bl b)⟩
  · cases hz

/-! ### all, any, sum, max, min -/
def blsOf : List D → Option (List Bool)
  | [] => some []
  | .bl b :: xs => (blsOf xs).map (b :: ·)
  | _ => none
def intsOf : List D → Option (List Int)
  | [] => some []
  | .int b :: xs => (intsOf xs).map (b :: ·)
  | _ => none
section
variable {K : PySem.W.Frag} {F : Hp}
theorem bls_rep : ∀ {vs : List V} {xs : List D} {bs : List Bool}, RepL K F vs xs → blsOf xs = some bs → vs = bs.map V.bl
  | _, [], _, .nil, e => by cases e; rfl
  | _, x :: xs, bs, .cons r t, e => by
    cases x with
    | bl b =>
      simp only [blsOf] at e
      cases e2 : blsOf xs with
      | none => rw [e2] at e; cases e
      | some cs =>
        rw [e2] at e; cases e
        cases r
        rw [bls_rep t e2]; rfl
    | _ => cases e
theorem ints_rep : ∀ {vs : List V} {xs : List D} {bs : List Int}, RepL K F vs xs → intsOf xs = some bs → vs = bs.map V.int
  | _, [], _, .nil, e => by cases e; rfl
  | _, x :: xs, bs, .cons r t, e => by
    cases x with
    | int b =>
      simp only [intsOf] at e
      cases e2 : intsOf xs with
      | none => rw [e2] at e; cases e
      | some cs =>
        rw [e2] at e; cases e
        cases r
        rw [ints_rep t e2]; rfl
    | _ => cases e
end
theorem blsOf_map {α : Type} (f : α → Bool) (l : List α) : blsOf (l.map fun x => D.bl (f x)) = some (l.map f) := by
  induction l with
  | nil => rfl
  | cons x l ih => simp only [List.map_cons, blsOf, ih, Option.map_some]
theorem intsOf_map {α : Type} (f : α → Int) (l : List α) : intsOf (l.map fun x => D.int (f x)) = some (l.map f) := by
  induction l with
  | nil => rfl
  | cons x l ih => simp only [List.map_cons, intsOf, ih, Option.map_some]
def gAll : List D → Option D
  | [.lst xs] => (blsOf xs).map fun bs => .bl (bs.all id)
  | _ => none
def gAny : List D → Option D
  | [.lst xs] => (blsOf xs).map fun bs => .bl (bs.any id)
  | _ => none
def gSum : List D → Option D
  | [.lst xs] => (intsOf xs).map fun bs => .int bs.sum
  | _ => none
section
variable {K : PySem.W.Frag}
theorem p_all : PC K (rAll K) gAll := by
  intro F H vs xs z Q e hx hz q
  unfold gAll at hz
  split at hz
  · rename_i ys
    obtain ⟨v, rfl, h⟩ := hx.one
    obtain ⟨p, vs, rfl, h1, r⟩ := h.lst e
    cases hb : blsOf ys with
    | none => rw [hb] at hz; cases hz
    | some bs =>
      rw [hb] at hz; cases hz
      exact ⟨p, bs, rfl, SqL.of (by rw [← bls_rep r hb]; exact h1), q F H _ .refl (.bl _)⟩
  · cases hz
theorem p_any : PC K (rAny K) gAny := by
  intro F H vs xs z Q e hx hz q
  unfold gAny at hz
  split at hz
  · rename_i ys
    obtain ⟨v, rfl, h⟩ := hx.one
    obtain ⟨p, vs, rfl, h1, r⟩ := h.lst e
    cases hb : blsOf ys with
    | none => rw [hb] at hz; cases hz
    | some bs =>
      rw [hb] at hz; cases hz
      exact ⟨p, bs, rfl, SqL.of (by rw [← bls_rep r hb]; exact h1), q F H _ .refl (.bl _)⟩
  · cases hz
theorem p_sum : PC K (rSum K) gSum := by
  intro F H vs xs z Q e hx hz q
  unfold gSum at hz
  split at hz
  · rename_i ys
    obtain ⟨v, rfl, h⟩ := hx.one
    obtain ⟨p, vs, rfl, h1, r⟩ := h.lst e
    cases hb : intsOf ys with
    | none => rw [hb] at hz; cases hz
    | some bs =>
      rw [hb] at hz; cases hz
      exact ⟨p, bs, rfl, SqL.of (by rw [← ints_rep r hb]; exact h1), q F H _ .refl (.int _)⟩
  · cases hz
end
def gMax2 : List D → Option D
  | [.int i, .int j] => some (.int (if j > i then j else i))
  | _ => none
def gMin2 : List D → Option D
  | [.int i, .int j] => some (.int (if j < i then j else i))
  | _ => none
def gAbs : List D → Option D
  | [.int i] => some (.int (if i < 0 then -i else i))
  | _ => none
section
variable {K : PySem.W.Frag}
theorem p_max2 : PC K (fun xs H Q => ∃ i j, xs = [.int i, .int j] ∧ Q (.int (if j > i then j else i)) H) gMax2 := by
  intro F H vs xs z Q e hx hz q
  unfold gMax2 at hz
  split at hz
  · obtain ⟨v, w, rfl, h1, h2⟩ := hx.two
    cases hz
    cases h1.int; cases h2.int
    exact ⟨_, _, rfl, q F H _ .refl (.int _)⟩
  · cases hz
theorem p_min2 : PC K (fun xs H Q => ∃ i j, xs = [.int i, .int j] ∧ Q (.int (if j < i then j else i)) H) gMin2 := by
  intro F H vs xs z Q e hx hz q
  unfold gMin2 at hz
  split at hz
  · obtain ⟨v, w, rfl, h1, h2⟩ := hx.two
    cases hz
    cases h1.int; cases h2.int
    exact ⟨_, _, rfl, q F H _ .refl (.int _)⟩
  · cases hz
theorem p_abs : PC K (fun xs H Q => ∃ i, xs = [.int i] ∧ Q (.int (if i < 0 then -i else i)) H) gAbs := by
  intro F H vs xs z Q e hx hz q
  unfold gAbs at hz
  split at hz
  · obtain ⟨v, rfl, h1⟩ := hx.one
    cases hz
    cases h1.int
    exact ⟨_, rfl, q F H _ .refl (.int _)⟩
  · cases hz
end
end DL

namespace DL
open PySem PySem.Spec PyProof.Rows L2

/-! ### attributes -/
def gFld (f : Str) : D → Option D
  | .ins _ gs => gs.lookup f
  | _ => none
/-- what is read of a value: held by what stands, no new object -/
def liftR (g : D → Option D) (x : Vl) : M Vl := lift1 g x
def fFld (f : Str) (fo : M Vl) : M Vl := fUn (gFld f) fo
theorem lookup_mem {κ α : Type} [BEq κ] [LawfulBEq κ] : ∀ {l : List (κ × α)} {k : κ} {x : α}, l.lookup k = some x → (k, x) ∈ l
  | (a, y) :: l, k, x, h => by
    simp only [List.lookup] at h
    by_cases e : (k == a) = true
    · rw [e] at h; cases h; rw [eq_of_beq e]; exact List.mem_cons_self
    · have e' : (k == a) = false := by simpa using e
      rw [e'] at h
      exact List.mem_cons_of_mem _ (lookup_mem h)
def rFld (K : PySem.W.Frag) (f : Str) : V → Hp → VK → Prop := fun x H Q => ∃ a C dx fs v, x = .ref a ∧ H a = some (.ins C dx fs) ∧ Cls K C ∧ NoAttr K C f ∧ fs.lookup f = some v ∧ Q v H
theorem p_fld {K : PySem.W.Frag} {f : Str} : P1 K (rFld K f) (gFld f) := by
  intro F H v a z Q e h hz q
  cases a with
  | ins C gs =>
    have hz : gs.lookup f = some z := hz
    rcases h with h | ⟨b, o, rfl, hb, c⟩
    · cases h with
      | ins hF cl na k r =>
        rcases look_of (k := f) k r with ⟨h1, h2⟩ | ⟨v', x', h1, h2, h3⟩
        · rw [hz] at h2; cases h2
        · rw [hz] at h2; cases h2
          exact ⟨_, C, _, _, v', rfl, e _ _ hF, cl, na _ (lookup_mem hz), h1, q F H v' .refl h3⟩
    · cases c with
      | ins cl na k r =>
        rcases look_of (k := f) k r with ⟨h1, h2⟩ | ⟨v', x', h1, h2, h3⟩
        · rw [hz] at h2; cases h2
        · rw [hz] at h2; cases h2
          exact ⟨b, C, _, _, v', rfl, hb, cl, na _ (lookup_mem hz), h1, q F H v' .refl h3⟩
  | _ => cases hz
section
variable {X : Cx} {E : XW} {o e : Expr} {to te : TE} {fo fe : M Vl} {f : Str} {pos pos' : Pos}
theorem pf_fld (ho : PF X o to E fo) (hb : attributeBase o f X.env (eval o X.env) = eval o X.env := by rfl) : PF X (.Attribute o f pos) (tUn (rFld X.K f) to) E (fFld f fo) :=
  ⟨pe_fld ho.pe hb, ev_un p_fld ho.ev⟩
end

/-! ### stores into own objects -/
theorem Step.mut {F H : Hp} {σ : L2.St} {ρ : Rho} {i : Nat} {a : Addr} {m m' : D} {l : Bool} {o' : HO} (h : ρ[i]? = some (.own m l)) (hs : σ[i]? = some (some (.ref a))) : Step σ ρ (ρ.set i (.own m' l)) F H F (upd H a o') where
  fx := .refl _
  fr := fun b o e n => by
    have hb : b ≠ a := fun z => n ⟨i, by rw [h]; rfl, by rw [z]; exact hs⟩
    exact ⟨by rw [upd_ne hb]; exact e, rfl⟩
  ow := fun j hj => by
    rcases own_set2 hj with e | e
    · rw [e, h]; rfl
    · exact e
  th := fun b hb => by
    by_cases z : b = a
    · subst z; rw [upd_same]; exact fun z => by cases z
    · rw [upd_ne z]; exact hb
/-- the own object behind a value -/
def ownAt (ρ : Rho) : Vl → Option (Nat × D × Bool)
  | .sl i => match ρ[i]? with
    | some (.own m l) => some (i, m, l)
    | _ => none
  | _ => none
theorem ownAt_ok {C : Ctx} {F H : Hp} {σ : L2.St} {ρ : Rho} {v : V} {x : Vl} {i : Nat} {m : D} {l : Bool} (ok : Ok C F H σ ρ) (h : VlOk C F σ ρ v x) (e : ownAt ρ x = some (i, m, l)) :
    ∃ (a : Addr) (o : HO), v = .ref a ∧ ρ[i]? = some (.own m l) ∧ σ[i]? = some (some (.ref a)) ∧ F a = none ∧ H a = some o ∧ Cont C.K F o m := by
  cases x with
  | d x => cases e
  | sl j =>
    have z : σ[j]? = some (some v) := h
    unfold ownAt at e
    cases q : ρ[j]? with
    | none => simp [q] at e
    | some s =>
      cases s with
      | own m' l' =>
        simp [q] at e
        obtain ⟨rfl, rfl, rfl⟩ := e
        obtain ⟨a, o, e1, e2, e3, c, _⟩ := ok.sl j _ q
        rw [z] at e1; cases e1
        exact ⟨a, o, rfl, q, z, e2, e3, c⟩
      | _ => simp [q] at e
def putG (f : Str) (x : D) : List (Str × D) → List (Str × D)
  | [] => [(f, x)]
  | (g, y) :: r => if g = f then (g, x) :: r else (g, y) :: putG f x r
theorem putG_ok {K : PySem.W.Frag} {F : Hp} {f : Str} {v : V} {x : D} (r : Rep K F v x) : ∀ {fs : List (Str × V)} {gs : List (Str × D)}, fs.map (·.1) = gs.map (·.1) → RepL K F (fs.map (·.2)) (gs.map (·.2)) →
    (putF f v fs).map (·.1) = (putG f x gs).map (·.1) ∧ RepL K F ((putF f v fs).map (·.2)) ((putG f x gs).map (·.2))
  | [], [], _, _ => ⟨rfl, .cons r .nil⟩
  | [], _ :: _, e, _ => by simp at e
  | _ :: _, [], e, _ => by simp at e
  | (a, u) :: fs, (b, y) :: gs, e, t => by
    simp only [List.map_cons, List.cons.injEq] at e t
    obtain ⟨e1, e2⟩ := e
    subst e1
    cases t with
    | cons t1 t2 =>
      obtain ⟨i1, i2⟩ := putG_ok (f := f) r e2 t2
      unfold putF putG
      by_cases h : a = f
      · rw [if_pos h, if_pos h]
        exact ⟨by simp [e2], .cons r t2⟩
      · rw [if_neg h, if_neg h]
        exact ⟨by simp [i1], .cons t1 i2⟩
theorem putG_mem {f : Str} {x : D} : ∀ {gs : List (Str × D)} {g : Str × D}, g ∈ putG f x gs → g.1 = f ∨ g.1 ∈ gs.map (·.1)
  | [], g, h => by
    unfold putG at h
    rw [List.mem_singleton] at h
    exact .inl (by rw [h])
  | (a, y) :: gs, g, h => by
    unfold putG at h
    by_cases e : a = f
    · rw [if_pos e] at h
      rcases List.mem_cons.mp h with h | h
      · exact .inl (by rw [h]; exact e)
      · exact .inr (List.mem_map.mpr ⟨g, List.mem_cons_of_mem _ h, rfl⟩)
    · rw [if_neg e] at h
      rcases List.mem_cons.mp h with h | h
      · exact .inr (by rw [h]; simp)
      · rcases putG_mem h with h | h
        · exact .inl h
        · exact .inr (List.mem_cons_of_mem _ h)
/-- o.f = e, of an own instance of the class C0 -/
def fFldSet (C0 : Addr) (f : Str) (fo fe : M Vl) : FS := sBnd fe fun x => sBnd (fz x) fun y => sBnd fo fun o ρ => match ownAt ρ o with
  | some (i, .ins C gs, l) => if C = C0 ∧ gs.length < 1000 then .nx (ρ.set i (.own (.ins C (putG f y gs)) l)) else .bad
  | _ => .bad
theorem ev_fldSet {K : PySem.W.Frag} {E : XW} {C0 : Addr} {f : Str} {to te : TE} {fo fe : M Vl} (hn : NoAttr K C0 f) (ho : EvE K E to fo) (he : EvE K E te fe) : EvS K E (sFld K to te f) (fFldSet C0 f fo fe) := by
  intro C F H σ ρ De hK ok h
  subst hK
  refine he C F H σ ρ _ rfl ok (PostS.bnd h fun x r1 F1 H1 v e1 ok1 st1 vo1 h1 => ?_)
  refine fz_bnd ok1 vo1 h1 fun y r2 F2 ok2 ex2 rp2 h2 => ?_
  refine ho C F2 H1 σ r2 _ rfl ok2 (PostS.bnd h2 fun o r3 F3 H3 w e3 ok3 st3 vo3 h3 => ?_)
  cases e : ownAt r3 o with
  | none => rw [e] at h3; exact h3.elim
  | some t =>
    obtain ⟨i, m, l⟩ := t
    rw [e] at h3
    cases m with
    | ins D0 gs =>
      simp only at h3
      by_cases hc : D0 = C0 ∧ gs.length < 1000
      · rw [if_pos hc] at h3
        obtain ⟨rfl, hl⟩ := hc
        obtain ⟨a, ob, rfl, hr, hs, hF, hH, c⟩ := ownAt_ok ok3 vo3 e
        cases c with
        | ins cl na k r =>
          rename_i dx fs
          have hlen : fs.length = gs.length := keys_len k
          obtain ⟨k', r'⟩ := putG_ok (f := f) (rp2.ex st3.fx) k r
          refine ⟨a, D0, dx, fs, rfl, hH, cl, hn, by omega, ?_⟩
          refine h3 F3 _ σ (ok3.mut hr hs (.ins cl (fun g hg => ?_) k' r')) (.refl _)
          rcases putG_mem hg with e | hm
          · rw [e]; exact hn
          · obtain ⟨g', hg', e⟩ := List.mem_map.mp hm
            rw [← e]; exact na g' hg'
      · rw [if_neg hc] at h3; exact h3.elim
    | _ => exact h3.elim
section
variable {X : Cx} {E : XW} {o e : Expr} {to te : TE} {fo fe : M Vl} {f : Str} {pos pos' : Pos}
theorem pfs_fld {C0 : Addr} (hn : NoAttr X.K C0 f) (ho : PF X o to E fo) (he : PF X e te E fe) (hs : swapsWith e (some (.Attribute o f pos')) pos.line X.env = pure false := by rfl) :
    PFs X (.Assign [.Attribute o f pos'] e pos) (sFld X.K to te f) E (fFldSet C0 f fo fe) := ⟨ps_fld ho.pe he.pe hs, ev_fldSet hn ho.ev he.ev⟩
end

/-! ### list methods on an own list -/
def ownL (ρ : Rho) (o : Vl) : Bool := match ownAt ρ o with
  | some (_, .lst _, _) => true
  | _ => false
theorem ownL_ok {C : Ctx} {F H : Hp} {σ : L2.St} {ρ : Rho} {v : V} {x : Vl} (ok : Ok C F H σ ρ) (h : VlOk C F σ ρ v x) (e : ownL ρ x = true) : tyV C.K "list" v H := by
  unfold ownL at e
  cases q : ownAt ρ x with
  | none => rw [q] at e; cases e
  | some t =>
    obtain ⟨i, m, l⟩ := t
    obtain ⟨a, o, rfl, _, _, _, h2, c⟩ := ownAt_ok ok h q
    rw [q] at e
    cases c with
    | lst r => exact .inl ⟨rfl, _, SqL.of h2⟩
    | _ => cases e
def withL (o : Vl) (k : M Vl) : M Vl := fun ρ => if ownL ρ o = true then k ρ else .bad
/-- o.append(e) -/
def fAppend (fo : M Vl) (fa : M (List Vl)) : M Vl := M.bnd fo fun o => withL o (M.bnd fa fun vs => match vs with
  | [x] => M.bnd (fz x) fun y ρ => match ownAt ρ o with
    | some (i, .lst xs, l) => if xs.length < 1000000 then .ok (.d .non) (ρ.set i (.own (.lst (xs ++ [y])) l)) else .bad
    | _ => .bad
  | _ => fun _ => .bad)
/-- o.extend(e) -/
def fExtend (fo : M Vl) (fa : M (List Vl)) : M Vl := M.bnd fo fun o => withL o (M.bnd fa fun vs => match vs with
  | [x] => fun ρ => match ownAt ρ o, look ρ x with
    | some (i, .lst xs, l), some (.lst ys) => if xs.length + ys.length ≤ 1000000 then .ok (.d .non) (ρ.set i (.own (.lst (xs ++ ys)) l)) else .bad
    | _, _ => .bad
  | _ => fun _ => .bad)
theorem VlsOk.one {C : Ctx} {F : Hp} {σ : L2.St} {ρ : Rho} {vs : List V} {x : Vl} (h : VlsOk C F σ ρ vs [x]) : ∃ v, vs = [v] ∧ VlOk C F σ ρ v x := by
  cases h with
  | cons h t => cases t; exact ⟨_, rfl, h⟩
theorem withL_post {C : Ctx} {E : XW} {F H : Hp} {σ : L2.St} {ρ : Rho} {Q : VK} {o : Vl} {v : V} {k : M Vl} (ok : Ok C F H σ ρ) (h : VlOk C F σ ρ v o) (p : PostE C E σ ρ F H Q (withL o k ρ)) : tyV C.K "list" v H ∧ PostE C E σ ρ F H Q (k ρ) := by
  unfold withL at p
  by_cases e : ownL ρ o = true
  · rw [if_pos e] at p; exact ⟨ownL_ok ok h e, p⟩
  · rw [if_neg e] at p; exact p.elim
theorem ev_append {K : PySem.W.Frag} {E : XW} {to : TE} {ta : TA} {fo : M Vl} {fa : M (List Vl)} (ho : EvE K E to fo) (ha : EvA K E ta fa) : EvE K E (tBM K "list" rAppend to ta) (fAppend fo fa) := by
  intro C F H σ ρ Q hK ok h
  subst hK
  refine ho C F H σ ρ _ rfl ok (Post.bnd h fun o r1 F1 H1 v e1 ok1 st1 vo1 h1 => ?_)
  obtain ⟨ty, h1⟩ := withL_post ok1 vo1 h1
  refine ⟨ty, ha C F1 H1 σ r1 _ rfl ok1 (Post.bnd h1 fun vs r2 F2 H2 us e2 ok2 st2 vo2 h2 => ?_)⟩
  match vs, h2, vo2 with
  | [], h2, _ => exact h2.elim
  | _ :: _ :: _, h2, _ => exact h2.elim
  | [x], h2, vo2 =>
    obtain ⟨w, rfl, vw⟩ := vo2.one
    refine fz_post ok2 vw h2 fun y r3 F3 ok3 st3 rp3 h3 => ?_
    have vo3 : VlOk C F3 σ r3 v o := (vo1.step st2).step st3
    cases e : ownAt r3 o with
    | none => rw [e] at h3; exact h3.elim
    | some t =>
      obtain ⟨i, m, l⟩ := t
      rw [e] at h3
      cases m with
      | lst xs =>
        simp only at h3
        by_cases hl : xs.length < 1000000
        · rw [if_pos hl] at h3
          obtain ⟨a, ob, rfl, hr, hs, hF, hH, c⟩ := ownAt_ok ok3 vo3 e
          cases c with
          | lst rl =>
            refine ⟨a, _, w, rfl, rfl, hH, by rw [rl.length]; exact line6 hl, ?_⟩
            exact h3 F3 _ .non (ok3.mut hr hs (.lst (rl.snoc rp3))) (.mut hr hs) .non
        · rw [if_neg hl] at h3; exact h3.elim
      | _ => exact h3.elim
theorem ev_extend {K : PySem.W.Frag} {E : XW} {to : TE} {ta : TA} {fo : M Vl} {fa : M (List Vl)} (ho : EvE K E to fo) (ha : EvA K E ta fa) : EvE K E (tBM K "list" rExtend to ta) (fExtend fo fa) := by
  intro C F H σ ρ Q hK ok h
  subst hK
  refine ho C F H σ ρ _ rfl ok (Post.bnd h fun o r1 F1 H1 v e1 ok1 st1 vo1 h1 => ?_)
  obtain ⟨ty, h1⟩ := withL_post ok1 vo1 h1
  refine ⟨ty, ha C F1 H1 σ r1 _ rfl ok1 (Post.bnd h1 fun vs r3 F3 H3 us e2 ok3 st2 vo2 h3 => ?_)⟩
  match vs, h3, vo2 with
  | [], h2, _ => exact h2.elim
  | _ :: _ :: _, h2, _ => exact h2.elim
  | [x], h3, vo2 =>
    obtain ⟨w, rfl, vw⟩ := vo2.one
    have vo3 : VlOk C F3 σ r3 v o := vo1.step st2
    simp only at h3
    cases e : ownAt r3 o with
    | none => rw [e] at h3; exact h3.elim
    | some t =>
      obtain ⟨i, m, l⟩ := t
      cases e2 : look r3 x with
      | none => cases m <;> (rw [e, e2] at h3; exact h3.elim)
      | some y =>
        cases m with
        | lst xs =>
          cases y with
          | lst ys =>
            rw [e, e2] at h3
            simp only at h3
            by_cases hl : xs.length + ys.length ≤ 1000000
            · rw [if_pos hl] at h3
              obtain ⟨a, ob, rfl, hr, hs, hF, hH, c⟩ := ownAt_ok ok3 vo3 e
              obtain ⟨b, zs, rfl, hb, rz⟩ := (vw.read ok3 e2).lst ok3.sub
              cases c with
              | lst rl =>
                refine ⟨a, b, _, zs, rfl, rfl, hH, hb, by rw [rl.length, rz.length]; exact Nat.le_trans hl (by decide), ?_⟩
                exact h3 F3 _ .non (ok3.mut hr hs (.lst (rl.append rz))) (.mut hr hs) .non
            · rw [if_neg hl] at h3; exact h3.elim
          | _ => rw [e, e2] at h3; exact h3.elim
        | _ => rw [e, e2] at h3; exact h3.elim
section
variable {X : Cx} {E : XW} {o e : Expr} {to : TE} {ta : TA} {fo : M Vl} {fa : M (List Vl)} {apos cpos : Pos}
theorem pf_append (ho : PF X o to E fo) (ha : PFa X [e] ta E fa) (hbase : attributeBase o "append" X.env (eval o X.env) = eval o X.env := by rfl)
    (hfew : ((backTo cpos (starEach [e] X.env)).all (fun x => !x.1) && (backToKw cpos (keywordEach [] X.env)).all (fun x => x.1.isSome)
      && decide (([e] : List Expr).length + ([] : List Keyword).length + (if ([] : List Keyword).isEmpty then 0 else 1) < 30)) = true := by rfl)
    (hline : (apos.endLine == cpos.line) = true := by rfl) (hs : starEach [e] X.env = (false, eval e X.env) :: starEach [] X.env := by rfl) (hplain : (backTo cpos (starEach [] X.env)).any (·.1) = false := by rfl) :
    PF X (.Call (.Attribute o "append" apos) [e] [] cpos) (tBM X.K "list" rAppend to ta) E (fAppend fo fa) :=
  ⟨pe_bm PySem.F.plainAttrs_list PySem.F.slot_list_append PySem.F.type_list_append mt_append ho.pe ha.pa hbase hfew hline hs hplain, ev_append ho.ev ha.ev⟩
theorem pf_extend (ho : PF X o to E fo) (ha : PFa X [e] ta E fa) (hbase : attributeBase o "extend" X.env (eval o X.env) = eval o X.env := by rfl)
    (hfew : ((backTo cpos (starEach [e] X.env)).all (fun x => !x.1) && (backToKw cpos (keywordEach [] X.env)).all (fun x => x.1.isSome)
      && decide (([e] : List Expr).length + ([] : List Keyword).length + (if ([] : List Keyword).isEmpty then 0 else 1) < 30)) = true := by rfl)
    (hline : (apos.endLine == cpos.line) = true := by rfl) (hs : starEach [e] X.env = (false, eval e X.env) :: starEach [] X.env := by rfl) (hplain : (backTo cpos (starEach [] X.env)).any (·.1) = false := by rfl) :
    PF X (.Call (.Attribute o "extend" apos) [e] [] cpos) (tBM X.K "list" rExtend to ta) E (fExtend fo fa) :=
  ⟨pe_bm PySem.F.plainAttrs_list PySem.F.slot_list_extend PySem.F.type_list_extend mt_extend ho.pe ha.pa hbase hfew hline hs hplain, ev_extend ho.ev ha.ev⟩
end

/-! ### x[i] = e -/
section
variable {κ α β : Type} [DecidableEq κ]
def putA (kvs : List (κ × α)) (k : κ) (v : α) : List (κ × α) :=
  if (kvs.any fun kv => decide (kv.1 = k)) = true then kvs.map (fun kv => if kv.1 = k then (kv.1, v) else kv) else kvs ++ [(k, v)]
def valA (kvs : List (κ × α)) (k : κ) : Option α := (kvs.find? fun kv => decide (kv.1 = k)).map (·.2)
theorem any_keys {l : List (κ × α)} {m : List (κ × β)} {k : κ} (h : l.map (·.1) = m.map (·.1)) : (l.any fun kv => decide (kv.1 = k)) = m.any fun kv => decide (kv.1 = k) := by
  have e1 : (l.any fun kv => decide (kv.1 = k)) = (l.map (·.1)).any fun z => decide (z = k) := by rw [List.any_map]; rfl
  have e2 : (m.any fun kv => decide (kv.1 = k)) = (m.map (·.1)).any fun z => decide (z = k) := by rw [List.any_map]; rfl
  rw [e1, e2, h]
theorem valA_ok {K : PySem.W.Frag} {F : Hp} : ∀ {fs : List (κ × V)} {gs : List (κ × D)} {k : κ}, fs.map (·.1) = gs.map (·.1) → RepL K F (fs.map (·.2)) (gs.map (·.2)) →
    (valV fs k = none ∧ valA gs k = none) ∨ ∃ v x, valV fs k = some v ∧ valA gs k = some x ∧ Rep K F v x
  | [], [], _, _, _ => .inl ⟨rfl, rfl⟩
  | [], _ :: _, _, e, _ => by simp at e
  | _ :: _, [], _, e, _ => by simp at e
  | (a, v) :: fs, (b, x) :: gs, k, e, r => by
    simp only [List.map_cons, List.cons.injEq] at e r
    obtain ⟨e1, e2⟩ := e
    subst e1
    cases r with
    | cons r t =>
      by_cases h : a = k
      · exact .inr ⟨v, x, by simp [valV, h], by simp [valA, h], r⟩
      · rcases valA_ok (k := k) e2 t with ⟨h1, h2⟩ | ⟨v', x', h1, h2, h3⟩
        · exact .inl ⟨by simpa [valV, h] using h1, by simpa [valA, h] using h2⟩
        · exact .inr ⟨v', x', by simpa [valV, h] using h1, by simpa [valA, h] using h2, h3⟩
theorem mapA_ok {K : PySem.W.Frag} {F : Hp} {v : V} {x : D} (r : Rep K F v x) (k : κ) : ∀ {fs : List (κ × V)} {gs : List (κ × D)}, fs.map (·.1) = gs.map (·.1) → RepL K F (fs.map (·.2)) (gs.map (·.2)) →
    (fs.map fun kv => if kv.1 = k then (kv.1, v) else kv).map (·.1) = (gs.map fun kv => if kv.1 = k then (kv.1, x) else kv).map (·.1) ∧ RepL K F ((fs.map fun kv => if kv.1 = k then (kv.1, v) else kv).map (·.2)) ((gs.map fun kv => if kv.1 = k then (kv.1, x) else kv).map (·.2))
  | [], [], _, _ => ⟨rfl, .nil⟩
  | [], _ :: _, e, _ => by simp at e
  | _ :: _, [], e, _ => by simp at e
  | (a, u) :: fs, (b, y) :: gs, e, t => by
    simp only [List.map_cons, List.cons.injEq] at e t
    obtain ⟨e1, e2⟩ := e
    subst e1
    cases t with
    | cons t1 t2 =>
      obtain ⟨i1, i2⟩ := mapA_ok r k e2 t2
      by_cases h : a = k
      · simp only [List.map_cons, h, if_true]
        exact ⟨by rw [i1], .cons r i2⟩
      · simp only [List.map_cons, h, if_false]
        exact ⟨by rw [i1], .cons t1 i2⟩
theorem putA_ok {K : PySem.W.Frag} {F : Hp} {v : V} {x : D} (r : Rep K F v x) (k : κ) {fs : List (κ × V)} {gs : List (κ × D)} (e : fs.map (·.1) = gs.map (·.1)) (t : RepL K F (fs.map (·.2)) (gs.map (·.2))) :
    (putK fs k v).map (·.1) = (putA gs k x).map (·.1) ∧ RepL K F ((putK fs k v).map (·.2)) ((putA gs k x).map (·.2)) := by
  unfold putK putA
  rw [any_keys (k := k) e]
  by_cases h : (gs.any fun kv => decide (kv.1 = k)) = true
  · rw [if_pos h, if_pos h]; exact mapA_ok r k e t
  · rw [if_neg h, if_neg h]
    refine ⟨by simp [e], ?_⟩
    rw [List.map_append, List.map_append]
    exact t.append (.cons r .nil)
end
def keyOf : D → Option Key
  | .int i => some (.inl i)
  | .str x => some (.inr x)
  | _ => none
def keysOf : List D → Option (List Key)
  | [] => some []
  | x :: xs => match keyOf x, keysOf xs with
    | some k, some ks => some (k :: ks)
    | _, _ => none
theorem keyOf_ok {K : PySem.W.Frag} {F : Hp} {v : V} {x : D} {k : Key} (r : Rep K F v x) (e : keyOf x = some k) : v = kV k := by
  cases x with
  | int i => cases e; cases r; rfl
  | str y => cases e; cases r; rfl
  | _ => cases e
theorem keysOf_ok {K : PySem.W.Frag} {F : Hp} : ∀ {vs : List V} {xs : List D} {ks : List Key}, RepL K F vs xs → keysOf xs = some ks → vs = ks.map kV
  | _, _, _, .nil, e => by cases e; rfl
  | _, x :: xs, ks, .cons r t, e => by
    unfold keysOf at e
    cases e1 : keyOf x with
    | none => simp [e1] at e
    | some k =>
      cases e2 : keysOf xs with
      | none => simp [e1, e2] at e
      | some ks' =>
        simp [e1, e2] at e
        subst e
        rw [keyOf_ok r e1, keysOf_ok t e2]; rfl
def putD (m k y : D) : Option D := match m with
  | .lst xs => match k with
    | .int i => (ixN xs.length i).map fun j => .lst (xs.set j y)
    | _ => none
  | .dK kvs => match keyOf k with
    | some q => if kvs.length < 1000000 then some (.dK (putA kvs q y)) else none
    | none => none
  | .dT kvs => match k with
    | .tup ks => match keysOf ks with
      | some q => if kvs.length < 1000000 then some (.dT (putA kvs q y)) else none
      | none => none
    | _ => none
  | _ => none
def rSetAny : TSet := fun o i v H Q => rSetL o i v H Q ∨ rSetD o i v H Q
theorem set_any {X : Cx} (hu : X.A.units + 1 < cLine) : PSet X rSetAny := by
  intro pins s σ H o i v ov iv u Q I ro ri rv h
  rcases h with h | h
  · exact set_list pins s σ H o i v ov iv u Q I ro ri rv h
  · exact set_dict hu pins s σ H o i v ov iv u Q I ro ri rv h
/-- o[i] = e -/
def fPut (fe fo fi : M Vl) : FS := sBnd fe fun x => sBnd (fz x) fun y => sBnd fo fun o => sBnd fi fun k ρ => match ownAt ρ o, look ρ k with
  | some (i, m, l), some kd => match putD m kd y with
    | some m' => .nx (ρ.set i (.own m' l))
    | none => .bad
  | _, _ => .bad
theorem putD_ok {K : PySem.W.Frag} {F H : Hp} {a : Addr} {o : HO} {m k y m' : D} {w v : V} (ex : Ex F H) (hF : F a = none) (hH : H a = some o) (c : Cont K F o m) (rk : RepH K F H w k) (ry : Rep K F v y) (e : putD m k y = some m') {Q : Hp → Prop}
    (q : ∀ o', Cont K F o' m' → Q (upd H a o')) : rSetAny (.ref a) w v H Q := by
  cases c with
  | lst rl =>
    unfold putD at e
    simp only at e
    cases k with
    | int i =>
      simp only at e
      cases e1 : ixN _ i with
      | none => rw [e1] at e; cases e
      | some j =>
        rw [e1] at e; cases e
        cases rk.int
        exact .inl ⟨a, _, i, j, rfl, rfl, hH, by rw [rl.length]; exact e1, q _ (.lst (rl.set ry j))⟩
    | _ => cases e
  | dK kk r =>
    unfold putD at e
    simp only at e
    cases e1 : keyOf k with
    | none => rw [e1] at e; cases e
    | some kq =>
      rw [e1] at e
      simp only at e
      split at e
      · rename_i hl
        cases e
        have ek : w = kV kq := by
          rcases rk with rk | ⟨b, ob, rfl, hb, cb⟩
          · exact keyOf_ok rk e1
          · cases cb <;> cases e1
        subst ek
        obtain ⟨p1, p2⟩ := putA_ok ry kq kk r
        exact .inr ⟨a, _, rfl, DPut.k hH (by rw [keys_len kk]; exact line6 hl), q _ (.dK p1 p2)⟩
      · cases e
  | dT kk r =>
    unfold putD at e
    simp only at e
    cases k with
    | tup ks =>
      simp only at e
      cases e1 : keysOf ks with
      | none => rw [e1] at e; cases e
      | some kq =>
        rw [e1] at e
        simp only at e
        split at e
        · rename_i hl
          cases e
          obtain ⟨b, vs, rfl, hb, rl⟩ := rk.tupX
          have ek := keysOf_ok rl e1
          subst ek
          obtain ⟨p1, p2⟩ := putA_ok ry kq kk r
          exact .inr ⟨a, _, rfl, DPut.t hH (ex _ _ hb) (by rw [keys_len kk]; exact line6 hl), q _ (.dT p1 p2)⟩
        · cases e
    | _ => cases e
  | ins _ _ _ _ => cases e
theorem ev_put {K : PySem.W.Frag} {E : XW} {te to ti : TE} {fe fo fi : M Vl} (he : EvE K E te fe) (ho : EvE K E to fo) (hi : EvE K E ti fi) : EvS K E (tAsg te (L2.gSub to ti rSetAny)) (fPut fe fo fi) := by
  intro C F H σ ρ De hK ok h
  subst hK
  refine he C F H σ ρ _ rfl ok (PostS.bnd h fun x r1 F1 H1 v e1 ok1 st1 vo1 h1 => ?_)
  refine fz_bnd ok1 vo1 h1 fun y r2 F2 ok2 ex2 rp2 h2 => ?_
  refine ho C F2 H1 σ r2 _ rfl ok2 (PostS.bnd h2 fun o r3 F3 H3 w e3 ok3 st3 vo3 h3 => ?_)
  refine hi C F3 H3 σ r3 _ rfl ok3 (PostS.bnd h3 fun k r4 F4 H4 z e4 ok4 st4 vo4 h4 => ?_)
  cases e : ownAt r4 o with
  | none => simp only [e] at h4; exact h4.elim
  | some t =>
    obtain ⟨i, m, l⟩ := t
    cases e2 : look r4 k with
    | none => simp only [e, e2] at h4; exact h4.elim
    | some kd =>
      simp only [e, e2] at h4
      cases ep : putD m kd y with
      | none => rw [ep] at h4; exact h4.elim
      | some m' =>
        rw [ep] at h4
        obtain ⟨a, ob, rfl, hr, hs, hF, hH, c⟩ := ownAt_ok ok4 (vo3.step st4) e
        exact putD_ok ok4.sub hF hH c (vo4.read ok4 e2) ((rp2.ex st3.fx).ex st4.fx) ep fun o' co => h4 F4 _ σ (ok4.mut hr hs co) (.refl _)
section
variable {X : Cx} {E : XW} {o e i : Expr} {to te ti : TE} {fo fe fi : M Vl} {pos pos' : Pos}
theorem pfs_put (hu : X.A.units + 1 < cLine) (he : PF X e te E fe) (ho : PF X o to E fo) (hi : PF X i ti E fi)
    (ha : ∀ v, assign (.Subscript o i pos') X.env v = (do
      let ov ← holding [v] (eval o X.env)
      let iv ← holding [v, ov] (eval i X.env)
      standAt pos'
      holding [v, ov, iv] (setItem ov iv v)
      release [v, ov, iv] []) := by intro _; rfl)
    (hs : swapsWithSole [.Subscript o i pos'] e pos.line X.env = pure false := by rfl) (hw : swappedStores [.Subscript o i pos'] e X.env = pure none := by rfl) (h1 : (assignEach [.Subscript o i pos'] X.env).map (·.2) = [assign (.Subscript o i pos') X.env] := by rfl) :
    PFs X (.Assign [.Subscript o i pos'] e pos) (tAsg te (L2.gSub to ti rSetAny)) E (fPut fe fo fi) := ⟨ps_asg he.pe (pg_sub ho.pe hi.pe (set_any hu) ha) hs hw h1, ev_put he.ev ho.ev hi.ev⟩
end

/-! ### dicts read -/
def getD' (m k : D) : Option (Option D) := match m with
  | .dK kvs => match keyOf k with
    | some q => some (valA kvs q)
    | none => none
  | .dT kvs => match k with
    | .tup ks => match keysOf ks with
      | some q => some (valA kvs q)
      | none => none
    | _ => none
  | _ => none
theorem getD_ok {K : PySem.W.Frag} {F H : Hp} {m k : D} {z : Option D} {v w : V} (ex : Ex F H) (rm : RepH K F H v m) (rk : RepH K F H w k) (e : getD' m k = some z) :
    ∃ (a : Addr) (o : Option V), v = .ref a ∧ DGet H a w o ∧ IsD H a ∧ ((o = none ∧ z = none) ∨ ∃ u x, o = some u ∧ z = some x ∧ Rep K F u x) := by
  unfold getD' at e
  cases m with
  | dK kvs =>
    simp only at e
    cases e1 : keyOf k with
    | none => rw [e1] at e; cases e
    | some q =>
      rw [e1] at e; cases e
      have ek : w = kV q := by
        rcases rk with rk | ⟨b, ob, rfl, hb, cb⟩
        · exact keyOf_ok rk e1
        · cases cb <;> cases e1
      obtain ⟨a, vs, rfl, h1, kk, r⟩ := rm.dK ex
      exact ⟨a, _, rfl, .inl ⟨vs, q, h1, ek, rfl⟩, .inl ⟨vs, h1⟩, valA_ok kk r⟩
  | dT kvs =>
    cases k with
    | tup ks =>
      simp only at e
      cases e1 : keysOf ks with
      | none => rw [e1] at e; cases e
      | some q =>
        rw [e1] at e; cases e
        obtain ⟨b, us, rfl, hb, rl⟩ := rk.tupX
        have ek := keysOf_ok rl e1
        subst ek
        obtain ⟨a, vs, rfl, h1, kk, r⟩ := rm.dT ex
        exact ⟨a, _, rfl, .inr ⟨vs, q, b, h1, rfl, ex _ _ hb, rfl⟩, .inr ⟨vs, h1⟩, valA_ok kk r⟩
    | _ => cases e
  | _ => cases e
/-- d[k] -/
def gDix (m k : D) : Option D := match getD' m k with
  | some (some x) => some x
  | _ => none
def rDix : R2 := fun x y H Q => ∃ a v, x = .ref a ∧ DGet H a y (some v) ∧ Q v H
theorem ix_dget {X : Cx} (hu : X.A.units + 1 < cLine) : IxR X rDix := by
  intro value slice pins s σ H x y v u Q I rx ry h hs
  obtain ⟨a, w, rfl, g, q⟩ := h
  obtain rfl : v = Value.ref a := rx
  exact tail_any (dict_typeIs I g) PySem.F.slot_dict_getitem.lookup (d_getItem hu I g ry fun w' s3 I3 rw' => ⟨w, H, I3, rw', q⟩) hs
theorem p_dix {K : PySem.W.Frag} : P2 K rDix gDix := by
  intro F H v w a b z Q e ha hb hz q
  unfold gDix at hz
  cases e1 : getD' a b with
  | none => rw [e1] at hz; cases hz
  | some o =>
    cases o with
    | none => rw [e1] at hz; cases hz
    | some x =>
      rw [e1] at hz; cases hz
      obtain ⟨p, o, rfl, g, _, h⟩ := getD_ok e ha hb e1
      rcases h with ⟨_, h2⟩ | ⟨u, x, h1, h2, r⟩
      · cases h2
      · cases h2; subst h1
        exact ⟨p, u, rfl, g, q F H u .refl r⟩
/-- k in d, k not in d -/
def gDin (k m : D) : Option D := match getD' m k with
  | some o => some (.bl o.isSome)
  | none => none
def gDnotIn (k m : D) : Option D := match getD' m k with
  | some o => some (.bl (!o.isSome))
  | none => none
def rDin : R2 := fun y x H Q => ∃ a o, x = .ref a ∧ DGet H a y o ∧ Q (.bl o.isSome) H
def rDnotIn : R2 := fun y x H Q => ∃ a o, x = .ref a ∧ DGet H a y o ∧ Q (.bl (!o.isSome)) H
theorem op_din {X : Cx} (hu : X.A.units + 1 < cLine) : OpR X (compareOp .In) rDin := by
  intro pins s σ H x y v u Q I rx ry h
  obtain ⟨a, o, rfl, g, q⟩ := h
  obtain rfl : u = Value.ref a := ry
  exact d_in hu I g rx fun s3 I3 => ⟨.bl o.isSome, H, I3, rfl, q⟩
theorem op_dnotIn {X : Cx} (hu : X.A.units + 1 < cLine) : OpR X (compareOp .NotIn) rDnotIn := by
  intro pins s σ H x y v u Q I rx ry h
  obtain ⟨a, o, rfl, g, q⟩ := h
  obtain rfl : u = Value.ref a := ry
  exact d_notIn hu I g rx fun s3 I3 => ⟨.bl (!o.isSome), H, I3, rfl, q⟩
theorem p_din {K : PySem.W.Frag} : P2 K rDin gDin := by
  intro F H v w a b z Q e ha hb hz q
  unfold gDin at hz
  cases e1 : getD' b a with
  | none => rw [e1] at hz; cases hz
  | some o =>
    rw [e1] at hz; cases hz
    obtain ⟨p, o', rfl, g, _, h⟩ := getD_ok e hb ha e1
    have eo : o'.isSome = o.isSome := by
      rcases h with ⟨h1, h2⟩ | ⟨u, x, h1, h2, r⟩
      · rw [h1, h2]; rfl
      · rw [h1, h2]; rfl
    exact ⟨p, o', rfl, g, by rw [eo]; exact q F H _ .refl (.bl _)⟩
theorem p_dnotIn {K : PySem.W.Frag} : P2 K rDnotIn gDnotIn := by
  intro F H v w a b z Q e ha hb hz q
  unfold gDnotIn at hz
  cases e1 : getD' b a with
  | none => rw [e1] at hz; cases hz
  | some o =>
    rw [e1] at hz; cases hz
    obtain ⟨p, o', rfl, g, _, h⟩ := getD_ok e hb ha e1
    have eo : o'.isSome = o.isSome := by
      rcases h with ⟨h1, h2⟩ | ⟨u, x, h1, h2, r⟩
      · rw [h1, h2]; rfl
      · rw [h1, h2]; rfl
    exact ⟨p, o', rfl, g, by rw [eo]; exact q F H _ .refl (.bl _)⟩
theorem P2.or {K : PySem.W.Frag} {r r' : R2} {g g' : D → D → Option D} (h : P2 K r g) (h' : P2 K r' g') : P2 K (fun x y H Q => r x y H Q ∨ r' x y H Q) (fun a b => match g a b with | some z => some z | none => g' a b) := by
  intro F H v w a b z Q e ha hb hz q
  simp only at hz
  cases e1 : g a b with
  | none => rw [e1] at hz; exact .inr (h' F H v w a b z Q e ha hb hz q)
  | some y =>
    rw [e1] at hz; cases hz
    exact .inl (h F H v w a b _ Q e ha hb e1 q)
end DL

namespace DL
open PySem PySem.Spec PyProof.Rows L2

/-! ### method calls -/
/-- the class that the value has, none of its attributes hiding m -/
def insOf (m : Str) (ρ : Rho) (o : Vl) : Option Addr := match look ρ o with
  | some (.ins C gs) => if gs.lookup m = none then some C else none
  | _ => none
def tMethS (C : Addr) (m : Str) (sp : Sp) (E : XW) (to : TE) (t : TA) : TE := fun σ H Q => to σ H fun x H1 => ∃ a dx fs, x = .ref a ∧ H1 a = some (.ins C dx fs) ∧ fs.lookup m = none ∧ t σ H1 fun vs H2 => sp (.ref a :: vs) H2 Q (E σ)
section
variable {X : Cx} {E : XW} {k : Nat} {C f : Addr} {fd : FuncData} {ps : List Str} {sp : Sp} {m x : Str} {p pos apos : Pos} {o e : Expr} {es : List Expr} {ta : TE} {t : TA}
theorem pe_methS {pl : Sem Bool} (he : PE X o ta) (c : Cls X.K C) (hm : Meth X.K C m f) (F : FnOk X.prog X.w X.K X.mg X.base (L2.CX X.prog X.w) k f fd ps sp) (hr : Room k X.A) (hb : Binds X.K fd ps []) (hx : ∀ σ, PassesAt (L2.CX X.prog X.w) X σ (E σ)) (ha : PA X (e :: es) t)
    (hst : starEach (e :: es) X.env = (false, eval e X.env) :: starEach es X.env := by rfl) (hpl : (backTo pos (starEach es X.env)).any (·.1) = false := by rfl)
    (ht : eval (.Call (.Attribute o m apos) (e :: es) [] pos) X.env = (do
      let ov ← eval o X.env
      standAt apos.atName
      let (f, first) ← holding [ov] (getMethod ov m pl)
      callWith pos f first (backTo pos (starEach (e :: es) X.env)) (backToKw pos (keywordEach [] X.env))) := by rfl) :
    PE X (.Call (.Attribute o m apos) (e :: es) [] pos) (tMethS C m sp E ta t) := by
  refine ⟨fun pins s σ H Q I h => ?_⟩
  refine PySem.W.methodCall_KW (pl := pl) (thn (he.run pins s σ H _ I h) fun u s1 ⟨x, H1, I1, rx, a, dx, fs, ex, ea, l, q⟩ => ?_) ht
  subst ex
  obtain rfl : u = Value.ref a := rx
  refine getmeth_ok I1 ea c hm l ?_
  refine PySem.W.callWith_K (first := [.ref a]) (h₀ := X.base) I.ok.mod.kin hm.kp (thn (ha.run pos pins s1 σ H1 _ I1 q) fun us s2 ⟨vs, H2, I2, r, q2⟩ => ⟨I2.kIn, ?_⟩) hst hpl
  exact run_fnS (us := .ref a :: us) (vs := .ref a :: vs) F hr hb (hx σ) I2 (.cons rfl r) q2
theorem pe_methS0 {pl : Sem Bool} (he : PE X o ta) (c : Cls X.K C) (hm : Meth X.K C m f) (F : FnOk X.prog X.w X.K X.mg X.base (L2.CX X.prog X.w) k f fd ps sp) (hr : Room k X.A) (hb : Binds X.K fd ps []) (hx : ∀ σ, PassesAt (L2.CX X.prog X.w) X σ (E σ))
    (ht : eval (.Call (.Attribute o m apos) [] [] pos) X.env = (do
      let ov ← eval o X.env
      standAt apos.atName
      let (f, first) ← holding [ov] (getMethod ov m pl)
      callWith pos f first (backTo pos (starEach [] X.env)) (backToKw pos (keywordEach [] X.env))) := by rfl) :
    PE X (.Call (.Attribute o m apos) [] [] pos) (tMethS C m sp E ta tNil) := by
  refine ⟨fun pins s σ H Q I h => ?_⟩
  refine PySem.W.methodCall_KW (pl := pl) (thn (he.run pins s σ H _ I h) fun u s1 ⟨x, H1, I1, rx, a, dx, fs, ex, ea, l, q⟩ => ?_) ht
  subst ex
  obtain rfl : u = Value.ref a := rx
  refine getmeth_ok I1 ea c hm l ?_
  exact PySem.W.callWith_K0 (first := [.ref a]) I1.kIn hm.kp (run_fnS (us := [.ref a]) (vs := [.ref a]) F hr hb (hx σ) I1 (.cons rfl .nil) q)
/-- f() of a def -/
theorem pe_callS0 (F : FnOk X.prog X.w X.K X.mg X.base (L2.CX X.prog X.w) k f fd ps sp) (hr : Room k X.A) (hg : Gl X x) (hm : X.mg x = some (.ref f)) (hk : PySem.W.keepIn X.K (.ref f) = true) (hb : Binds X.K fd ps []) (hx : ∀ σ, PassesAt (L2.CX X.prog X.w) X σ (E σ))
    (hdb : (x == ("__debug__" : Str)) = false := by decide) : PE X (.Call (.Name x p) [] [] pos) (tCallS sp E tNil) := by
  refine ⟨fun pins s σ H Q I h => ?_⟩
  refine wpAny_Call_Name_kw (ld_glob I hg hm ?_ hdb)
  exact PySem.W.callWith_K0 I.kIn hk (run_fnS (us := []) F hr hb (hx σ) I .nil h)
end
/-- o.m(..); ms: how the receiver and the arguments go over -/
def fMeth (C0 : Addr) (m : Str) (np : Nat) (ms : List Bool) (fn : Fn) (fo : M Vl) (fa : M (List Vl)) : M Vl := M.bnd fo fun o ρ =>
  if insOf m ρ o = some C0 then (M.bnd fa fun vs => M.bnd (passF ms (o :: vs)) fun ps => if ps.length = np then M.bnd (runFn fn ps) (fun x ρ => .ok (.d x) ρ) else fun _ => .bad) ρ else .bad
section
variable {K : PySem.W.Frag} {E : XW} {to : TE} {ta : TA} {fo : M Vl} {fa : M (List Vl)}
theorem ev_meth {C0 : Addr} {m : Str} {np : Nat} {ms : List Bool} {fn : Fn} (ho : EvE K E to fo) (ha : EvA K E ta fa) : EvE K E (tMethS C0 m (spD K np fn) E to ta) (fMeth C0 m np ms fn fo fa) := by
  intro C F H σ ρ Q hK ok h
  subst hK
  refine ho C F H σ ρ _ rfl ok (Post.bnd h fun o r1 F1 H1 v e1 ok1 st1 vo1 h1 => ?_)
  by_cases e : insOf m r1 o = some C0
  · rw [if_pos e] at h1
    unfold insOf at e
    cases el : look r1 o with
    | none => rw [el] at e; cases e
    | some d =>
      rw [el] at e
      cases d with
      | ins D0 gs =>
        simp only at e
        by_cases hl : gs.lookup m = none
        · rw [if_pos hl] at e
          cases e
          obtain ⟨a, dx, fs, rfl, hH, cl, na, kk, rl⟩ := (vo1.read ok1 el).ins ok1.sub
          have hm : fs.lookup m = none := by
            rcases look_of (k := m) kk rl with ⟨h1, _⟩ | ⟨_, _, _, h2, _⟩
            · exact h1
            · rw [hl] at h2; cases h2
          refine ⟨a, dx, fs, rfl, hH, hm, ?_⟩
          refine ha C F1 H1 σ r1 _ rfl ok1 (Post.bnd h1 fun vs r2 F2 H2 us e2 ok2 st2 vo2 h2 => ?_)
          refine passF_post ok2 (.cons (vo1.step st2) vo2) h2 fun ps r F' ok' st po p => ?_
          by_cases hl : ps.length = np
          · simp only [hl, if_true] at p
            exact runFn_sp ok' po hl p
          · simp only [hl, if_false] at p; exact p.elim
        · rw [if_neg hl] at e; cases e
      | _ => cases e
  · rw [if_neg e] at h1; exact h1.elim
end
section
variable {X : Cx} {E : XW} {k : Nat} {C f : Addr} {fd : FuncData} {ps : List Str} {np : Nat} {fn : Fn} {m x : Str} {p pos apos : Pos} {o e : Expr} {es : List Expr} {to : TE} {ta : TA} {fo : M Vl} {fa : M (List Vl)}
theorem pf_meth {pl : Sem Bool} (ms : List Bool) (ho : PF X o to E fo) (c : Cls X.K C) (hm : Meth X.K C m f) (G : FnOk X.prog X.w X.K X.mg X.base (L2.CX X.prog X.w) k f fd ps (spD X.K np fn)) (hr : Room k X.A) (hb : Binds X.K fd ps []) (hx : ∀ σ, PassesAt (L2.CX X.prog X.w) X σ (E σ)) (ha : PFa X (e :: es) ta E fa)
    (hst : starEach (e :: es) X.env = (false, eval e X.env) :: starEach es X.env := by rfl) (hpl : (backTo pos (starEach es X.env)).any (·.1) = false := by rfl)
    (ht : eval (.Call (.Attribute o m apos) (e :: es) [] pos) X.env = (do
      let ov ← eval o X.env
      standAt apos.atName
      let (f, first) ← holding [ov] (getMethod ov m pl)
      callWith pos f first (backTo pos (starEach (e :: es) X.env)) (backToKw pos (keywordEach [] X.env))) := by rfl) :
    PF X (.Call (.Attribute o m apos) (e :: es) [] pos) (tMethS C m (spD X.K np fn) E to ta) E (fMeth C m np ms fn fo fa) := ⟨pe_methS ho.pe c hm G hr hb hx ha.pa hst hpl ht, ev_meth ho.ev ha.ev⟩
theorem pf_meth0 {pl : Sem Bool} (ms : List Bool) (ho : PF X o to E fo) (c : Cls X.K C) (hm : Meth X.K C m f) (G : FnOk X.prog X.w X.K X.mg X.base (L2.CX X.prog X.w) k f fd ps (spD X.K np fn)) (hr : Room k X.A) (hb : Binds X.K fd ps []) (hx : ∀ σ, PassesAt (L2.CX X.prog X.w) X σ (E σ))
    (ht : eval (.Call (.Attribute o m apos) [] [] pos) X.env = (do
      let ov ← eval o X.env
      standAt apos.atName
      let (f, first) ← holding [ov] (getMethod ov m pl)
      callWith pos f first (backTo pos (starEach [] X.env)) (backToKw pos (keywordEach [] X.env))) := by rfl) :
    PF X (.Call (.Attribute o m apos) [] [] pos) (tMethS C m (spD X.K np fn) E to tNil) E (fMeth C m np ms fn fo fNil) := ⟨pe_methS0 ho.pe c hm G hr hb hx ht, ev_meth ho.ev ev_nil⟩
theorem pf_call0 (G : FnOk X.prog X.w X.K X.mg X.base (L2.CX X.prog X.w) k f fd ps (spD X.K np fn)) (hr : Room k X.A) (hm : X.mg x = some (.ref f)) (hk : PySem.W.keepIn X.K (.ref f) = true) (hb : Binds X.K fd ps []) (hx : ∀ σ, PassesAt (L2.CX X.prog X.w) X σ (E σ))
    (hg : Gl X x := by rfl) (hdb : (x == ("__debug__" : Str)) = false := by decide) : PF X (.Call (.Name x p) [] [] pos) (tCallS (spD X.K np fn) E tNil) E (fCall np [] fn fNil) :=
  ⟨pe_callS0 G hr hg hm hk hb hx hdb, ev_call ev_nil⟩
end

/-! ### classes called -/
def tMakeS (C : Addr) (sp : Sp) (E : XW) (t : TA) : TE := fun σ H Q => t σ H fun vs H1 => ∀ x dx, H1 x = none → H1 dx = none → dx ≠ x → sp (.ref x :: vs) (upd (upd H1 dx (.own x)) x (.ins C dx [])) (fun v H2 => v = .non ∧ Q (.ref x) H2) (E σ)
section
variable {X : Cx} {E : XW} {k : Nat} {C f : Addr} {fd : FuncData} {ps : List Str} {sp : Sp} {x : Str} {p pos : Pos} {e : Expr} {es : List Expr} {t : TA}
theorem run_makeS {pins : List (Addr × Obj)} {σ : L2.St} {H : Hp} {s : Shared} {Q : VK} {us : List Value} {vs : List V} (M : Mk X.K C f) (F : FnOk X.prog X.w X.K X.mg X.base (L2.CX X.prog X.w) k f fd ps sp) (hr : Room (k + 1) X.A) (hb : Binds X.K fd ps [])
    (hx : ∀ σ, PassesAt (L2.CX X.prog X.w) X σ (E σ)) (I : Inv X pins σ H s) (r : Vals vs us)
    (h : ∀ x dx, H x = none → H dx = none → dx ≠ x → sp (.ref x :: vs) (upd (upd H dx (.own x)) x (.ins C dx [])) (fun v H2 => v = .non ∧ Q (.ref x) H2) (E σ)) :
    wpAny (model X.prog X.w) X.A (call (.ref C) us) (EP X pins σ Q) X.xe s := by
  have hq := h (s.heap.objs.size + 1) s.heap.objs.size (I.hok.fresh (Nat.le_succ _)) (I.hok.fresh (Nat.le_refl _)) (Nat.ne_of_lt (Nat.lt_succ_self _))
  have I2 := Inv.made (C := C) I
  have r2 : Vals (V.ref (s.heap.objs.size + 1) :: vs) (Value.ref (s.heap.objs.size + 1) :: us) := .cons rfl r
  have hl : (Value.ref (s.heap.objs.size + 1) :: us).length = ps.length := by
    have e := r2.length
    rw [F.len _ _ _ _ hq] at e
    exact e.symm
  have b := hb _ (Value.ref (s.heap.objs.size + 1) :: us) I2.kIn (by rw [List.append_nil]; exact hl)
  rw [List.append_nil] at b
  refine wpAny_call (make_map (f := f) I.kIn M.makes M.init (beq_iff_eq.mp M.fn) (codeAny_mono (F.run _ X.stack _ _ ⟨Value.ref (s.heap.objs.size + 1) :: us, []⟩ (Value.ref (s.heap.objs.size + 1) :: us) _ _ (E σ) (hr.make C us [])
    (I2.env0.make C us []) b r2 hq) fun r s' hq' => ?_))
  cases r with
  | error e => exact hx σ pins _ _ e s' I2 hq'
  | ok fl =>
    cases fl with
    | ret u =>
      obtain ⟨v, H', I3, rv, ev, q3⟩ := I2.after hq'
      subst ev
      exact ⟨rv, ⟨V.ref (s.heap.objs.size + 1), H', I3, rfl, q3⟩⟩
    | next => exact False.elim hq'
    | brk => exact False.elim hq'
    | cont => exact False.elim hq'
theorem pe_makeS (M : Mk X.K C f) (F : FnOk X.prog X.w X.K X.mg X.base (L2.CX X.prog X.w) k f fd ps sp) (hr : Room (k + 1) X.A) (hg : Gl X x) (hm : X.mg x = some (.ref C)) (hb : Binds X.K fd ps []) (hx : ∀ σ, PassesAt (L2.CX X.prog X.w) X σ (E σ))
    (ha : PA X (e :: es) t) (hdb : (x == ("__debug__" : Str)) = false := by decide) (he : starEach (e :: es) X.env = (false, eval e X.env) :: starEach es X.env := by rfl) (hpl : (backTo pos (starEach es X.env)).any (·.1) = false := by rfl) :
    PE X (.Call (.Name x p) (e :: es) [] pos) (tMakeS C sp E t) := by
  refine ⟨fun pins s σ H Q I h => ?_⟩
  refine wpAny_Call_Name_kw (ld_glob I hg hm ?_ hdb)
  refine PySem.W.callWith_K (h₀ := X.base) I.ok.mod.kin M.kp (thn (ha.run pos pins s σ H _ I h) fun us s1 ⟨vs, H1, I1, r, q⟩ => ⟨I1.kIn, ?_⟩) he hpl
  exact run_makeS M F hr hb hx I1 r q
end
/-- C(..): the new instance -/
def fMake (C0 : Addr) (np : Nat) (ms : List Bool) (fn : Fn) (fa : M (List Vl)) : M D := M.bnd fa fun vs => M.bnd (passF ms vs) fun ps ρ =>
  match argsSl ρ ps with
  | none => .bad
  | some ρa => if (slots ps).Nodup ∧ ps.length + 1 = np then (match fn (Sl.own (.ins C0 []) false :: ρa) with
    | .ok .non r => (match r[0]? with
      | some (Sl.own m _) => .ok m (putOuts r 1 ps ρ)
      | _ => .bad)
    | .exc e _ => if (slots ps).isEmpty = true then .exc e ρ else .bad
    | _ => .bad) else .bad
section
variable {K : PySem.W.Frag} {C : Ctx} {F H F' H' : Hp} {σ : L2.St} {ρ r : Rho} {vs : List V} {ps : List Pa} {ρa : Rho}
theorem putOuts_shift {s : Sl} : ∀ {ps : List Pa} {k : Nat} {ρ : Rho}, putOuts (s :: r) (k + 1) ps ρ = putOuts r k ps ρ
  | [], _, _ => rfl
  | .d _ :: ps, k, ρ => putOuts_shift (ps := ps) (k := k + 1)
  | .sl i :: ps, k, ρ => by
    unfold putOuts
    rw [putOuts_shift (ps := ps) (k := k + 1)]
    rfl
theorem ev_make {E : XW} {ta : TA} {fa : M (List Vl)} {C0 : Addr} {np : Nat} {ms : List Bool} {fn : Fn} (cl : Cls K C0) (ha : EvA K E ta fa) : EvN K E (tMakeS C0 (spD K np fn) E ta) (fMake C0 np ms fn fa) := by
  intro C F H σ ρ Q hK ok h
  subst hK
  refine ha C F H σ ρ _ rfl ok (Post.bnd h fun xs r1 F1 H1 vs e1 ok1 st1 vo1 h1 => ?_)
  refine passF_post ok1 vo1 h1 fun ps r2 F2 ok2 st2 po p => ?_
  intro x dx hx hdx hne
  cases ea : argsSl r2 ps with
  | none => simp only [ea] at p; exact p.elim
  | some ρa =>
    simp only [ea] at p
    by_cases hc : (slots ps).Nodup ∧ ps.length + 1 = np
    · rw [if_pos hc] at p
      obtain ⟨nd, hnp⟩ := hc
      obtain ⟨ar, adr⟩ := args_of ok2 po ea nd
      have hF : ∀ {b : Addr}, H1 b = none → F2 b = none := fun hb => ok2.sub.free hb
      -- the heap with the new instance
      have hget : (upd (upd H1 dx (.own x)) x (.ins C0 dx [])) x = some (.ins C0 dx []) := upd_same
      have hold : ∀ {b : Addr} {o : HO}, H1 b = some o → (upd (upd H1 dx (.own x)) x (.ins C0 dx [])) b = some o := fun {b o} e => by
        have n1 : b ≠ x := fun z => by subst z; rw [hx] at e; cases e
        have n2 : b ≠ dx := fun z => by subst z; rw [hdx] at e; cases e
        rw [upd_ne n1, upd_ne n2]; exact e
      have exH : Ex H1 (upd (upd H1 dx (.own x)) x (.ins C0 dx [])) := fun b o e => hold e
      have vsx : ∀ {i : Nat} {a : Addr}, isOwn ρa[i]? = true → vs[i]? = some (V.ref a) → H1 a ≠ none := fun {i a} w q => by
        cases z : ρa[i]? with
        | none => rw [z] at w; cases w
        | some s =>
          cases s with
          | own m l =>
            obtain ⟨_, b, o, q1, q2, q3, _⟩ := ar.oa i m l z
            rw [q] at q1; cases q1
            rw [q3]; exact fun z => by cases z
          | _ => rw [z] at w; cases w
      have ar2 : Args C.K F2 (upd (upd H1 dx (.own x)) x (.ins C0 dx [])) (V.ref x :: vs) (.own (.ins C0 []) false :: ρa) := by
        refine ⟨ar.sub.trans exH, by simp [ar.len], fun i y e => ?_, fun i m l e => ?_, fun i j a hij w1 w2 q z => ?_⟩
        · cases i with
          | zero => simp at e
          | succ i => exact ar.da i y (by simpa using e)
        · cases i with
          | zero =>
            simp at e
            obtain ⟨rfl, rfl⟩ := e
            exact ⟨rfl, x, _, rfl, hF hx, hget, .ins cl (fun g hg => by cases hg) rfl .nil⟩
          | succ i =>
            obtain ⟨q1, a, o, q2, q3, q4, q5⟩ := ar.oa i m l (by simpa using e)
            exact ⟨q1, a, o, by simpa using q2, q3, hold q4, q5⟩
        · cases i with
          | zero =>
            cases j with
            | zero => exact hij rfl
            | succ j =>
              simp at q
              subst q
              exact vsx (by simpa using w2) (by simpa using z) hx
          | succ i =>
            cases j with
            | zero =>
              simp at z
              subst z
              exact vsx (by simpa using w1) (by simpa using q) hx
            | succ j => exact ar.dj i j a (by omega) (by simpa using w1) (by simpa using w2) (by simpa using q) (by simpa using z)
      refine ⟨F2, _, ar2, by simp [argsSl_len ea]; omega, ?_⟩
      have argA : ∀ {b : Addr}, ArgA (V.ref x :: vs) (.own (.ins C0 []) false :: ρa) b → b = x ∨ ArgA vs ρa b := fun {b} hA => by
        obtain ⟨i, w, q⟩ := hA
        cases i with
        | zero => simp at q; exact .inl q.symm
        | succ i => exact .inr ⟨i, by simpa using w, by simpa using q⟩
      have kept : ∀ {F' H' : Hp}, Kept F2 (upd (upd H1 dx (.own x)) x (.ins C0 dx [])) F' H' (V.ref x :: vs) (.own (.ins C0 []) false :: ρa) → Kept F2 H1 F' H' vs ρa := fun {F' H'} k =>
        ⟨k.fx, k.sub, fun a o ha n => k.fr a o (hold ha) fun hA => by
          rcases argA hA with e | e
          · rw [e, hx] at ha; cases ha
          · exact n e, fun a ha => k.th a (by
            cases z : H1 a with
            | none => exact absurd z ha
            | some o => rw [hold z]; exact fun z => by cases z)⟩
      cases ef : fn (.own (.ins C0 []) false :: ρa) with
      | bad => rw [ef] at p; exact p.elim
      | exc e r =>
        rw [ef] at p
        simp only at p
        by_cases hs : (slots ps).isEmpty = true
        · rw [if_pos hs] at p
          intro F' H' cls d b xr
          refine p F' H' cls d (ok2.kept0 (kept b) fun a hA => ?_) b.fx xr
          obtain ⟨i, j, p1, _⟩ := adr a hA
          have := slots_mem p1
          rw [List.isEmpty_iff.mp hs] at this
          cases this
        · rw [if_neg hs] at p; exact p.elim
      | ok y r =>
        rw [ef] at p
        cases y with
        | non =>
          simp only at p
          intro F' H' v b rv
          cases rv
          refine ⟨rfl, ?_⟩
          obtain ⟨m, a, o, q1, q2, q3, q4, q5⟩ := b.outs 0 rfl
          have q2 : V.ref x = V.ref a := by simpa using q2
          cases q2
          rw [q1] at p
          simp only at p
          cases r with
          | nil => simp at q1
          | cons s0 r =>
            rw [putOuts_shift] at p
            have bk : Back C.K F2 H1 F' H' vs ρa r := ⟨kept b.toKept, fun i hi => by
              obtain ⟨m, a, o, w1, w2, w3⟩ := b.outs (i + 1) (by simpa using hi)
              exact ⟨m, a, o, by simpa using w1, by simpa using w2, w3⟩⟩
            obtain ⟨ok', st'⟩ := ok2.called po ea nd bk
            exact p F' H' _ ok' st' ⟨x, o, rfl, st1.free hx, q3, q4, q5⟩
        | _ => exact p.elim
    · rw [if_neg hc] at p; exact p.elim
end
section
variable {X : Cx} {E : XW} {k : Nat} {C f : Addr} {fd : FuncData} {ps : List Str} {np : Nat} {fn : Fn} {x : Str} {p pos : Pos} {e : Expr} {es : List Expr} {ta : TA} {fa : M (List Vl)}
theorem pn_make (ms : List Bool) (Mc : Mk X.K C f) (cl : Cls X.K C) (G : FnOk X.prog X.w X.K X.mg X.base (L2.CX X.prog X.w) k f fd ps (spD X.K np fn)) (hr : Room (k + 1) X.A) (hm : X.mg x = some (.ref C)) (hb : Binds X.K fd ps []) (hx : ∀ σ, PassesAt (L2.CX X.prog X.w) X σ (E σ))
    (ha : PFa X (e :: es) ta E fa) (hg : Gl X x := by rfl) (hdb : (x == ("__debug__" : Str)) = false := by decide) (he : starEach (e :: es) X.env = (false, eval e X.env) :: starEach es X.env := by rfl) (hpl : (backTo pos (starEach es X.env)).any (·.1) = false := by rfl) :
    PN X (.Call (.Name x p) (e :: es) [] pos) (tMakeS C (spD X.K np fn) E ta) E (fMake C np ms fn fa) := ⟨pe_makeS Mc G hr hg hm hb hx ha.pa hdb he hpl, ev_make cl ha.ev⟩
end

/-! ### raise -/
section
variable {X : Cx} {W : WX} {C : Addr} {bmB : List Value} {B newId initId : String} {x m : Str} {j : Nat} {p p2 pos pos' : Pos}
/-- raise X('m'), X a class without own __init__ -/
theorem pfs_raise (hc : X.calm = true) (tk : Takes X W) (F : ExcBaseFacts B newId initId bmB) (q : PySem.W.excIn X.K C bmB newId = true) (gC : X.mg x = some (.ref C)) (kC : PySem.W.keepIn X.K (.ref C) = true) (r : Raises X (.ref C)) (hg : Gl X x := by rfl)
    (hdb : (x == ("__debug__" : Str)) = false := by decide) : PFs X (.Raise (some (.Call (.Name x p) [.Constant (.str m) j p2] [] pos)) none pos') (fun _ σ H => W (.ref C) none σ H) (WE W) (fRaise C) :=
  ⟨ps_raise hc tk (pmk_own F q gC kC r hg hdb), ev_raise⟩
end

/-! ### try -/
/-- except x as n: the suite gs (a: the exception, e: its class and fields); exm: whether it is the clause's; slot i is n's -/
def undo (i : Nat) : Oc → Oc
  | .nx r => .nx (r.set i .un)
  | .rt x r => .rt x (r.set i .un)
  | .bk r => .bk (r.set i .un)
  | .ct r => .ct (r.set i .un)
  | _ => .bad
/-- except x as n, of a body that raises exceptions of the class c0 alone, without fields: the suite gs -/
def fTryAs (c0 : Addr) (i : Nat) (gb : FS) (gs : FS) : FS := fun ρ => match gb ρ with
  | .exc e r => if e.cls = c0 ∧ e.fs.isNone = true then gs r else .bad
  | o => o
def tsOf (c0 : Addr) (t0 : Addr → TS) (a : Addr) (cls : Value) (d : Option Addr) : TS := match cls, d with
  | .ref c, none => if c = c0 then t0 a else tNever
  | _, _ => tNever
section
variable {C : Ctx} {F H : Hp} {σ : L2.St} {ρ : Rho}
theorem Ok.forget (ok : Ok C F H σ ρ) (i : Nat) : Ok C F H (σ.set i none) (ρ.set i .un) := by
  have h := ok.wipe (vs := [i])
  exact h
theorem undo_ok {i : Nat} {De : Ends} {o : Oc} {E : XW} (h : PostS C E F De (undo i o)) : PostS C XE0 F { nx := fun σ' H' => De.nx (σ'.set i none) H', rt := De.rt, bk := fun σ' H' => De.bk (σ'.set i none) H', ct := fun σ' H' => De.ct (σ'.set i none) H' } o := by
  cases o with
  | nx r => exact fun F' H' σ' ok ex => h F' H' _ (ok.forget i) ex
  | rt x r => exact fun F' H' σ' v ok ex rp => h F' H' (σ'.set i none) v (ok.forget i) ex rp
  | bk r => exact fun F' H' σ' ok ex => h F' H' _ (ok.forget i) ex
  | ct r => exact fun F' H' σ' ok ex => h F' H' _ (ok.forget i) ex
  | exc _ _ => exact h.elim
  | bad => exact h.elim
theorem undo_set {o : Rho} : True := trivial
end
section
variable {X : Cx} {x n : Str} {c : Value} {i : Nat} {body suite : List Stmt} {b₀ : Stmt} {np pos pos' : Pos} {W0 : WX} {c0 : Addr} {gb gs : FS} {gsA : Addr → FS}
theorem pfs_tryAs (hs : X.stack = X.env :: X.outer) (hf : X.env.frame = some X.env.locals) (hN : X.N.Nodup) (hc : Names X x c) (tk : Takes X W0) (hexm : PySem.W.exmOne X.K (.ref c0) c = some true)
    (hb : ∀ (W : WX) (pn : List (Addr × Obj)) (xe : Value → Shared → Prop), Takes (X.tr pn xe) W → ∃ t, PFb (X.tr pn xe) body t (WE W) gb)
    (hsu : ∀ (a : Addr) (oe : Obj) (pn : List (Addr × Obj)), Zc (.ref c0) none oe → (∃ vs, oe.data = .fields vs) → ∃ t, PFb (X.suite a ((a, oe) :: pn)) (b₀ :: suite) t XE0 (gsA a))
    (hg : ∀ a ρ, undo i (gsA a (ρ.set i (.d (.ref a)))) = gs ρ)
    (hi : X.N[i]? = some n := by rfl) (hln : X.env.kindOf n = some .local := by rfl) :
    PFs X (.Try body [.ExceptHandler (some (.Name x np)) (some n) (b₀ :: suite) pos'] [] [] pos) (fun D σ H => tFs X.K (WE (wAs X.K c i (tsOf c0 fun a => tFs X.K XE0 (gsA a)) W0 D)) gb D σ H) (WE W0) (fTryAs c0 i gb gs) := by
  refine ⟨ps_try_as (tb := fun W => tFs X.K (WE W) gb) hs hf hN hi hln hc tk (fun W pn xe h _ => ?_) (fun a oe cls d pn hz hd => ?_), ?_⟩
  · obtain ⟨t, p⟩ := hb W pn xe h
    exact can_s p
  · unfold tsOf
    split
    · rename_i c1
      by_cases e : c1 = c0
      · subst e
        rw [if_pos rfl]
        obtain ⟨t, p⟩ := hsu a oe pn hz hd
        exact can_s p
      · rw [if_neg e]; exact pss_never
    · exact pss_never
  · intro C F H σ ρ De hK ok h
    refine can_sv C F H σ ρ De hK ok ?_
    unfold fTryAs at h
    cases e : gb ρ with
    | nx r => rw [e] at h; exact h
    | rt y r => rw [e] at h; exact h
    | bk r => rw [e] at h; exact h
    | ct r => rw [e] at h; exact h
    | bad => rw [e] at h; exact h
    | exc xc r =>
      rw [e] at h
      simp only at h
      by_cases hx : xc.cls = c0 ∧ xc.fs.isNone = true
      · rw [if_pos hx] at h
        obtain ⟨h1, h2⟩ := hx
        intro F' H' σ' cls d ok' fx xr
        obtain ⟨e1, e2⟩ := xr
        cases hfs : xc.fs with
        | some gs => rw [hfs] at h2; cases h2
        | none =>
          rw [hfs] at e2
          simp only at e2
          subst e2
          rw [h1] at e1
          subst e1
          refine ⟨true, hexm, fun _ a na => ?_, fun z => by cases z⟩
          rw [show (tsOf c0 fun a => tFs X.K XE0 (gsA a)) a (.ref c0) none = tFs X.K XE0 (gsA a) from if_pos rfl]
          refine can_sv C F' H' _ (r.set i (.d (.ref a))) _ hK (ok'.set (.ref a)) (undo_ok (E := WE W0) ?_)
          rw [hg a r]
          exact PostS.weak h fx
      · rw [if_neg hx] at h; exact h.elim
end
end DL

namespace DL
open PySem PySem.Spec PyProof.Rows L2

/-! ### sorted of lists of data, of any length -/
def ltD (n : Nat) (a b : D) : Bool := PySem.W.dataLt (pyN n a) (pyN n b)
def leD (n : Nat) (a b : D) : Bool := !ltD n b a
def isTupNe : D → Bool
  | .tup (_ :: _) => true
  | _ => false
def notTupNon : D → Bool
  | .tup _ => false
  | .non => false
  | _ => true
def sortOk (xs : List D) : Bool := xs.all (good 39) && (xs.all fun x => xs.all fun y => PySem.W.alike (pyN 39 x) (pyN 39 y)) && (xs.all isTupNe || xs.all notTupNon) && bound xs.length
def gSorted : List D → Option D
  | [.lst xs] => if sortOk xs = true then some (.lst (xs.mergeSort (leD 39))) else none
  | _ => none
section
open PySem.W
def rSortD (K : PySem.W.Frag) : List V → Hp → VK → Prop := fun vs H Q => ∃ (a : Addr) (xs : List V) (ds : List PyData), vs = [V.ref a] ∧ SqL K H a xs ∧ DpAll K H xs ds ∧ AllAlike ds ∧ Sortable ds ∧ (∀ d ∈ ds, d.depth ≤ 63) ∧ xs.length ≤ sizeLine ∧
  ∀ p, H p = none → Q (.ref p) (upd H p (.lst (((xs.zip ds).mergeSort (dataLe false (fun q : V × PyData => q.2))).map Prod.fst)))
theorem each_of {X : Cx} {pins : List (Addr × Obj)} {σ : L2.St} {H : Hp} {s : Shared} (I : Inv X pins σ H s) : ∀ {vs : List V} {ds : List PyData} {us : List Value}, DpAll X.K H vs ds → Vals vs us →
    EachIs (fun u (p : V × PyData) => RelV p.1 u) us (vs.zip ds) ∧ EachIs (fun u (p : V × PyData) => ∃ as, Reads s.heap u p.2 as) us (vs.zip ds)
  | [], _, _, h, r => by cases h; cases r; exact ⟨.nil, .nil⟩
  | v :: vs, _, _, h, r => by
    cases h with
    | cons h t =>
      cases r with
      | cons r rt =>
        obtain ⟨i1, i2⟩ := each_of I t rt
        exact ⟨.cons r i1, .cons (Dp.reads I _ _ _ h r) i2⟩
theorem vals_of_each {us : List Value} {ps : List (V × PyData)} (h : EachIs (fun u (p : V × PyData) => RelV p.1 u) us ps) : Vals (ps.map Prod.fst) us := by
  induction h with
  | nil => exact .nil
  | cons h _ ih => exact .cons h ih
theorem dpAll_len {K : PySem.W.Frag} {H : Hp} : ∀ {vs : List V} {ds : List PyData}, DpAll K H vs ds → vs.length = ds.length
  | [], _, h => by cases h; rfl
  | v :: vs, _, h => by
    cases h with
    | cons _ t => rw [List.length_cons, List.length_cons, dpAll_len t]
theorem zip_snd {α β : Type} : ∀ {l : List α} {m : List β}, l.length = m.length → (l.zip m).map Prod.snd = m
  | [], [], _ => rfl
  | _ :: l, _ :: m, h => by simp [zip_snd (l := l) (m := m) (by simpa using h)]
  | [], _ :: _, h => by simp at h
  | _ :: _, [], h => by simp at h
theorem cr_sortD {X : Cx} (hu : X.A.units + 70 < cLine) : CallR X (.builtin "sorted") (rSortD X.K) := by
  intro pins s σ H vs us Q I r h
  obtain ⟨a, xs, ds, rfl, hs, hd, al, so, dp, hl0, q⟩ := h
  obtain ⟨its, rv, hl, hz⟩ := I.list hs
  rw [Vals.ref1 r]
  obtain ⟨e1, e2⟩ := each_of I hd rv
  have hlen := dpAll_len hd
  have hsnd : (xs.zip ds).map (fun q : V × PyData => q.2) = ds := zip_snd hlen
  have hzl : (xs.zip ds).length = xs.length := by rw [List.length_zip, ← hlen, Nat.min_self]
  refine sorted_data (bs := xs.zip ds) (enc := fun q : V × PyData => q.2) hl.isList e1 e2 (by rw [hsnd]; exact al) (by rw [hsnd]; exact so) (by rw [hzl]; exact hl0) (fun b hb => ?_) fun out ho eo => ?_
  · have : b.2 ∈ ds := by rw [← hsnd]; exact List.mem_map.mpr ⟨b, hb, rfl⟩
    have := dp _ this
    omega
  · obtain ⟨ep, he'⟩ := PyProof.Rows.sortedAll_at s.heap its out.toArray
    have vo := vals_of_each eo
    have hlen2 : (((xs.zip ds).mergeSort (dataLe false (fun q : V × PyData => q.2))).map Prod.fst).length ≤ sizeLine := by
      rw [List.length_map, List.length_mergeSort, hzl]; exact hl0
    exact ⟨.ref _, upd H (s.heap.objs.size + 1) (.lst _), I.laid (t' := s.toks) (fun _ _ => PyProof.Rows.sortedAll_old) (Nat.le_succ _) ⟨hlen2, out, ep, vo, he'⟩, rfl, q _ (I.hok.fresh (Nat.le_succ _))⟩
theorem repL_zip {K : PySem.W.Frag} {F : Hp} : ∀ {L : List (V × D)}, (∀ p ∈ L, Rep K F p.1 p.2) → RepL K F (L.map Prod.fst) (L.map Prod.snd)
  | [], _ => .nil
  | p :: L, h => .cons (h p List.mem_cons_self) (repL_zip fun q hq => h q (List.mem_cons_of_mem _ hq))
theorem rep_of_zip {K : PySem.W.Frag} {F : Hp} : ∀ {vs : List V} {xs : List D}, RepL K F vs xs → ∀ p ∈ vs.zip xs, Rep K F p.1 p.2
  | _, _, .nil, p, h => by simp at h
  | _, _, .cons r t, p, h => by
    rcases List.mem_cons.mp (show p ∈ (_, _) :: _ from h) with e | h
    · rw [e]; exact r
    · exact rep_of_zip t p h
/-- the sorted values mean the sorted data -/
theorem rep_sorted {K : PySem.W.Frag} {F : Hp} {vs : List V} {xs : List D} (r : RepL K F vs xs) :
    RepL K F (((vs.zip (xs.map (pyN 39))).mergeSort (dataLe false (fun q : V × PyData => q.2))).map Prod.fst) (xs.mergeSort (leD 39)) := by
  have hl := r.length
  have e1 : vs.zip (xs.map (pyN 39)) = (vs.zip xs).map fun p => (p.1, pyN 39 p.2) := by
    rw [List.zip_map_right]
    rfl
  have e2 : (vs.zip (xs.map (pyN 39))).mergeSort (dataLe false (fun q : V × PyData => q.2)) = ((vs.zip xs).mergeSort (fun p q => leD 39 p.2 q.2)).map fun p => (p.1, pyN 39 p.2) := by
    rw [e1]
    exact (List.map_mergeSort (f := fun p : V × D => (p.1, pyN 39 p.2)) (r := fun p q : V × D => leD 39 p.2 q.2) (s := dataLe false (fun q : V × PyData => q.2)) (fun a _ b _ => rfl)).symm
  have e3 : xs.mergeSort (leD 39) = ((vs.zip xs).mergeSort (fun p q => leD 39 p.2 q.2)).map Prod.snd := by
    rw [List.map_mergeSort (s := leD 39) (fun a _ b _ => rfl), zip_snd hl]
  rw [e2, e3, List.map_map]
  have e4 : (Prod.fst ∘ fun p : V × D => (p.1, pyN 39 p.2)) = Prod.fst := rfl
  rw [e4]
  exact repL_zip fun p hp => rep_of_zip r p (List.mem_mergeSort.mp hp)
theorem sortOk_of {xs : List D} (h : sortOk xs = true) : (∀ x ∈ xs, good 39 x = true) ∧ AllAlike (xs.map (pyN 39)) ∧ Sortable (xs.map (pyN 39)) ∧ xs.length ≤ sizeLine := by
  unfold sortOk at h
  simp only [Bool.and_eq_true, Bool.or_eq_true] at h
  obtain ⟨⟨⟨h1, h2⟩, h3⟩, h4⟩ := h
  refine ⟨List.all_eq_true.mp h1, ?_, ?_, bound_line h4⟩
  · intro d hd d' hd'
    obtain ⟨x, hx, rfl⟩ := List.mem_map.mp hd
    obtain ⟨y, hy, rfl⟩ := List.mem_map.mp hd'
    exact List.all_eq_true.mp (List.all_eq_true.mp h2 x hx) y hy
  · rcases h3 with h3 | h3
    · refine .inl fun d hd => ?_
      obtain ⟨x, hx, rfl⟩ := List.mem_map.mp hd
      have := List.all_eq_true.mp h3 x hx
      cases x with
      | tup ys =>
        cases ys with
        | nil => cases this
        | cons y ys => exact ⟨_, _, rfl⟩
      | _ => cases this
    · refine .inr fun d hd => ?_
      obtain ⟨x, hx, rfl⟩ := List.mem_map.mp hd
      have h5 := List.all_eq_true.mp h3 x hx
      have h6 := List.all_eq_true.mp h1 x hx
      cases x <;> first | (cases h5; done) | (cases h6; done) | exact ⟨(fun z => by cases z), (fun _ z => by cases z)⟩
theorem pn_sorted {K : PySem.W.Frag} : PCN K (rSortD K) gSorted := by
  intro F H vs xs m Q e hx hm q
  unfold gSorted at hm
  split at hm
  · rename_i ys
    split at hm
    · rename_i hok
      cases hm
      obtain ⟨v, rfl, h⟩ := hx.one
      obtain ⟨p, us, rfl, h1, r⟩ := h.lst e
      obtain ⟨g, al, so, hl⟩ := sortOk_of hok
      refine ⟨p, us, ys.map (pyN 39), rfl, SqL.of h1, dps_of (RepL.ex r e) g, al, so, fun d hd => ?_, by rw [r.length]; exact hl, fun p' hp => q p' _ hp (.lst (rep_sorted r))⟩
      obtain ⟨x, hx, rfl⟩ := List.mem_map.mp hd
      have := (good_lay (g x hx)).2
      omega
    · cases hm
  · cases hm
end
section
variable {X : Cx} {E : XW} {x : Str} {id T : String} {p pos : Pos} {e : Expr} {es : List Expr} {ta : TA} {fa : M (List Vl)} {r : List V → Hp → VK → Prop} {g : List D → Option D}
theorem pn_cb (hc : CallR X (.builtin id) r) (pc : PCN X.K r g) (hm : X.mg x = none) (ha : PFa X (e :: es) ta E fa) (hg : Gl X x := by rfl) (hv : bootBuiltins x = some (.builtin id) := by decide +kernel) (hn : x ≠ "__name__" := by decide) (hdb : (x == ("__debug__" : Str)) = false := by decide)
    (he : starEach (e :: es) X.env = (false, eval e X.env) :: starEach es X.env := by rfl) (hpl : (backTo pos (starEach es X.env)).any (·.1) = false := by rfl) : PN X (.Call (.Name x p) (e :: es) [] pos) (tCB r ta) E (fCBN g fa) :=
  ⟨pe_callB hc hg hm hv ha.pa hn hdb he hpl, ev_cbN pc ha.ev⟩
end
end DL

namespace DL
open PySem PySem.Spec PyProof.Rows L2

/-! ### globals -/
def GV (mg : Str → Option Value) (x : Str) (v : V) : Prop := ∃ u, mg x = some u ∧ RelV v u
section
variable {X : Cx} {E : XW} {pos : Pos}
theorem pf_gv {x : Str} {v : V} {y : D} (h : GV X.mg x v) (hr : ∀ F, Rep X.K F v y) (hg : Gl X x := by rfl) (hd : (x == ("__debug__" : Str)) = false := by decide) : PF X (.Name x pos) (tC v) E (fC y) := by
  obtain ⟨u, h1, h2⟩ := h
  exact pf_glob h1 h2 hr hg hd
end

/-! ### what is walked: a list, a tuple, a str -/
def pAny : D → Option (List D)
  | .lst xs => some xs
  | .scr xs => some xs
  | .tup xs => some xs
  | .str z => some (z.cps.toList.map fun c => .str ⟨#[c]⟩)
  | _ => none
def iAny (K : PySem.W.Frag) (te : TE) : TI := fun σ H R => te σ H fun x H1 => (∃ a, x = .ref a ∧ (∃ xs, SqL K H1 a xs) ∧ R (Itl K a) H1) ∨ (∃ a, x = .ref a ∧ (∃ xs, SqT K H1 a xs) ∧ R (Itt K a) H1) ∨ (∃ z, x = .str z ∧ R (Its z) H1)
theorem serves_str {K : PySem.W.Frag} {F : Hp} {z : Str} : Serves K F (Its z) (z.cps.toList.map fun c => .str ⟨#[c]⟩) := by
  have hl : (z.cps.toList.map fun c => D.str ⟨#[c]⟩).length = z.cps.size := by simp
  refine ⟨fun _ => True, _, by rw [hl]; exact walk_str, fun _ _ _ _ => trivial, ?_⟩
  rintro i F2 H v H' hi e1 e2 ⟨rfl, c, hc, rfl⟩
  exact ⟨F2, .refl, .str ⟨#[c]⟩, by simp [hc], .str _⟩
section
variable {X : Cx} {K : PySem.W.Frag} {E : XW} {tg e : Expr} {te : TE} {fe : M Vl}
theorem pi_any (hl : PE X e te) : PI X tg e (iAny X.K te) := by
  refine ⟨fun pins s σ H R I h => ?_⟩
  refine thn (hl.run pins s σ H _ I h) fun v s1 ⟨x, H1, I1, r1, q1⟩ => ?_
  have fp : ∀ (b : Addr), b ∈ [s1.heap.objs.size] → FpOk X pins H1 b := fun b hb => by
    have e : b = s1.heap.objs.size := by simpa using hb
    subst e
    exact I1.fpOk (Nat.le_refl _) (I1.hok.fresh (Nat.le_refl _))
  rcases q1 with ⟨a, e, ⟨xs, hq⟩, q⟩ | ⟨a, e, ⟨xs, hq⟩, q⟩ | ⟨z, e, q⟩
  · subst e
    cases r1
    obtain ⟨its, rv, p, hz⟩ := I1.list hq
    refine wpAny_pyIter_list p.isList ?_
    exact ⟨s1.heap.objs.size, [s1.heap.objs.size], _, _, H1, rfl, I1.kept (t' := s1.toks) fun b o e => Heap.get?_push_of_some _ e, turn_list a _, ⟨_, Heap.get?_push_size _ rfl, rfl, rfl⟩, fp, q⟩
  · subst e
    cases r1
    obtain ⟨its, rv, p, hz⟩ := I1.tuple hq
    refine wpAny_pyIter_tuple (show s1.heap.IsTuple a its.toArray from p) ?_
    exact ⟨s1.heap.objs.size, [s1.heap.objs.size], _, _, H1, rfl, I1.kept (t' := s1.toks) fun b o e => Heap.get?_push_of_some _ e, turn_tuple a _, ⟨_, Heap.get?_push_size _ rfl, rfl, rfl⟩, fp, q⟩
  · subst e
    obtain ⟨t, rfl⟩ := r1
    cases ha : z.cps.all (· < 128)
    · exact wpAny_pyIter_wide ha (pi_one (tk := s1.toks) I1 _ (turn_str _ z t "str_iterator" (.inr rfl)) ⟨_, Heap.get?_push_size _ rfl, rfl, rfl⟩ q)
    · exact wpAny_pyIter_ascii ha (pi_one (tk := s1.toks) I1 _ (turn_str _ z t "str_ascii_iterator" (.inl rfl)) ⟨_, Heap.get?_push_size _ rfl, rfl, rfl⟩ q)
theorem ei_any (he : EvE K E te fe) : EvI K E (iAny K te) (fItS fe pAny) := by
  intro C F H σ ρ Q hK ok h
  subst hK
  refine he C F H σ ρ _ rfl ok (Post.bnd h fun x r1 F1 H1 v e1 ok1 st1 vo1 h1 => ?_)
  refine fz_post ok1 vo1 h1 fun y r F' ok' st rp p => ?_
  cases y with
  | lst xs =>
    cases rp with
    | lst q rl => exact .inl ⟨_, rfl, ⟨_, SqL.of (ok'.sub _ _ q)⟩, p F' H1 _ ok' .refl (serves_list (SqL.of q) rl)⟩
  | scr xs =>
    cases rp with
    | scr q rl => exact .inl ⟨_, rfl, ⟨_, ok'.sub.le.l q⟩, p F' H1 _ ok' .refl (serves_list q rl)⟩
  | tup xs =>
    cases rp with
    | tup q rl => exact .inr (.inl ⟨_, rfl, ⟨_, SqT.of (ok'.sub _ _ q)⟩, p F' H1 _ ok' .refl (serves_tup (SqT.of q) rl)⟩)
  | str z =>
    cases rp
    exact .inr (.inr ⟨z, rfl, p F' H1 _ ok' .refl serves_str⟩)
  | _ => exact p.elim
theorem pfi_any (he : PF X e te E fe) : PFi X tg e (iAny X.K te) E (fItS fe pAny) := ⟨pi_any he.pe, ei_any he.ev⟩
end

/-! ### x[i], x in y, of any kind -/
def gOr (g g' : D → D → Option D) (a b : D) : Option D := match g a b with
  | some z => some z
  | none => g' a b
def gIxA : D → D → Option D := gOr gIx gDix
def rIxA (K : PySem.W.Frag) : R2 := fun x y H Q => rIx K x y H Q ∨ rDix x y H Q
def gInS : D → D → Option D
  | .str i, .str j => some (.bl (!(Builtin.Str.occurrences j i 0 j.length 1).isEmpty))
  | _, _ => none
def gNotInS : D → D → Option D
  | .str i, .str j => some (.bl (!(!(Builtin.Str.occurrences j i 0 j.length 1).isEmpty)))
  | _, _ => none
def rInS : R2 := fun x y H Q => ∃ i j, x = .str i ∧ y = .str j ∧ Q (.bl (!(Builtin.Str.occurrences j i 0 j.length 1).isEmpty)) H
def rNotInS : R2 := fun x y H Q => ∃ i j, x = .str i ∧ y = .str j ∧ Q (.bl (!(!(Builtin.Str.occurrences j i 0 j.length 1).isEmpty))) H
theorem p_inS {K : PySem.W.Frag} : P2 K rInS gInS := by
  intro F H v w a b z Q e ha hb hz q
  unfold gInS at hz
  split at hz
  · cases hz; exact ⟨_, _, ha.str, hb.str, q F H _ .refl (.bl _)⟩
  · cases hz
theorem p_notInS {K : PySem.W.Frag} : P2 K rNotInS gNotInS := by
  intro F H v w a b z Q e ha hb hz q
  unfold gNotInS at hz
  split at hz
  · cases hz; exact ⟨_, _, ha.str, hb.str, q F H _ .refl (.bl _)⟩
  · cases hz
def gInA : D → D → Option D := gOr gIn (gOr gDin gInS)
def gNotInA : D → D → Option D := gOr gNotIn (gOr gDnotIn gNotInS)
def rInA (K : PySem.W.Frag) : R2 := fun x y H Q => rInT K x y H Q ∨ rDin x y H Q ∨ rInS x y H Q
def rNotInA (K : PySem.W.Frag) : R2 := fun x y H Q => rNotInT K x y H Q ∨ rDnotIn x y H Q ∨ rNotInS x y H Q
section
variable {X : Cx} {E : XW} {a b c : Expr} {ta tb tc : TE} {fa fb fc : M Vl} {pos : Pos}
theorem op_inA (hu : X.A.units + 200 < cLine) : OpR X (compareOp .In) (rInA X.K) := OpR.or (op_inT (by omega)) (OpR.or (op_din (by omega)) op_in_str)
theorem op_notInA (hu : X.A.units + 200 < cLine) : OpR X (compareOp .NotIn) (rNotInA X.K) := OpR.or (op_notInT (by omega)) (OpR.or (op_dnotIn (by omega)) op_notin_str)
theorem p_inA {K : PySem.W.Frag} : P2 K (rInA K) gInA := P2.or p_in (P2.or p_din p_inS)
theorem p_notInA {K : PySem.W.Frag} : P2 K (rNotInA K) gNotInA := P2.or p_notIn (P2.or p_dnotIn p_notInS)
theorem pf_ixA (hu : X.A.units + 200 < cLine) (ha : PF X a ta E fa) (hb : PF X b tb E fb) (hs : PlainIx b := by intro _ _; rfl) : PF X (.Subscript a b pos) (tOp (rIxA X.K) ta tb) E (fOp gIxA fa fb) :=
  ⟨pe_ix (ix_seq.or (ix_dget (by omega))) ha.pe hb.pe hs, ev_op (P2.or p_ix p_dix) ha.ev hb.ev⟩

/-! ### a < b < c -/
def fChain (g g' : D → D → Option D) (fa fb fc : M Vl) : M Vl := M.bnd fa fun x => M.bnd fb fun y => M.bnd (lift2 g x y) fun z ρ => match z with
  | .d (.bl k) => if k = true then M.bnd fc (fun w => lift2 g' y w) ρ else .ok (.d (.bl false)) ρ
  | _ => .bad
theorem lift2_post {r : R2} {g : D → D → Option D} {C : Ctx} {F H : Hp} {σ : L2.St} {ρ : Rho} {v w : V} {x y : Vl} {Q : VK} {α β : Type} {VR : Hp → Hp → Rho → β → α → Prop} {Q0 : β → Hp → Prop} {k : Vl → M α} (p : P2 C.K r g) (ok : Ok C F H σ ρ) (hx : ∀ a, look ρ x = some a → RepH C.K F H v a) (hy : ∀ b, look ρ y = some b → RepH C.K F H w b)
    (h : Post C E σ ρ F H VR Q0 (M.bnd (lift2 g x y) k ρ)) (q : ∀ z F' H' u, Alloc F H F' H' → Ok C F' H' σ ρ → Rep C.K F' u z → Post C E σ ρ F' H' VR Q0 (k (.d z) ρ) → Q u H') : r v w H Q := by
  unfold M.bnd lift2 at h
  cases e1 : look ρ x with
  | none => simp only [e1] at h; exact h.elim
  | some a =>
    cases e2 : look ρ y with
    | none => simp only [e1, e2] at h; exact h.elim
    | some b =>
      simp only [e1, e2] at h
      cases e3 : g a b with
      | none => simp only [e3] at h; exact h.elim
      | some z =>
        simp only [e3] at h
        refine p F H v w a b z Q ok.sub (hx a e1) (hy b e2) e3 fun F' H' u al rp => q z F' H' u al (ok.alloc al) rp ?_
        have st : Step σ ρ ρ F H F' H' := .of_alloc al
        cases e4 : k (.d z) ρ with
        | bad => rw [e4] at h; exact h
        | exc z r2 => rw [e4] at h; exact fun F2 H2 cls d ok2 ex2 xr => h F2 H2 cls d ok2 (st.fx.trans ex2) xr
        | ok c r2 => rw [e4] at h; exact fun F2 H2 d ok2 st2 wr => h F2 H2 d ok2 (st.trans st2) wr
theorem ev_chain {K : PySem.W.Frag} {r r' : R2} {g g' : D → D → Option D} (p : P2 K r g) (p' : P2 K r' g') (ha : EvE K E ta fa) (hb : EvE K E tb fb) (hc : EvE K E tc fc) : EvE K E (tChain r r' ta tb tc) (fChain g g' fa fb fc) := by
  intro C F H σ ρ Q hK ok h
  subst hK
  refine ha C F H σ ρ _ rfl ok (Post.bnd h fun x r1 F1 H1 v e1 ok1 st1 vo1 h1 => ?_)
  refine hb C F1 H1 σ r1 _ rfl ok1 (Post.bnd h1 fun y r2 F2 H2 w e2 ok2 st2 vo2 h2 => ?_)
  refine lift2_post p ok2 (fun a e => vo1.held st2 ok2 e) (fun b e => vo2.read ok2 e) h2 fun z F3 H3 u al ok3 rp h3 => ?_
  cases z with
  | bl k =>
    cases rp
    refine ⟨k, rfl, ?_⟩
    simp only at h3
    cases k with
    | false => exact h3 F3 H3 (.bl false) ok3 .refl (.bl false)
    | true =>
      simp only [if_true] at h3 ⊢
      refine hc C F3 H3 σ r2 _ rfl ok3 (Post.bnd h3 fun w' r4 F4 H4 v4 e4 ok4 st4 vo4 h4 => ?_)
      have st3 : Step σ r2 r2 F2 H2 F3 H3 := .of_alloc al
      exact lift2_ok p' ok4 (fun b e => ((vo2.step st3).step st4).read ok4 e) (fun c e => vo4.read ok4 e) h4
  | _ => exact h3.elim
theorem pf_chain {op op' : CmpOp} {r r' : R2} {g g' : D → D → Option D} (ho : OpR X (compareOp op) r) (p : P2 X.K r g) (ho' : OpR X (compareOp op') r') (p' : P2 X.K r' g') (ha : PF X a ta E fa) (hb : PF X b tb E fb) (hc : PF X c tc E fc)
    (hm : lastMarks [op, op'] [b, c] = false := by with_unfolding_all rfl) : PF X (.Compare a [op, op'] [b, c] pos) (tChain r r' ta tb tc) E (fChain g g' fa fb fc) := ⟨pe_chain ho ho' ha.pe hb.pe hc.pe hm, ev_chain p p' ha.ev hb.ev hc.ev⟩
theorem pft_chain {op op' : CmpOp} {r r' : R2} {g g' : D → D → Option D} (ho : OpR X (compareOp op) r) (p : P2 X.K r g) (ho' : OpR X (compareOp op') r') (p' : P2 X.K r' g') (ha : PF X a ta E fa) (hb : PF X b tb E fb) (hc : PF X c tc E fc)
    (hm : lastMarks [op, op'] [b, c] = false := by with_unfolding_all rfl) : PFt X (.Compare a [op, op'] [b, c] pos) (tTest (tChain r r' ta tb tc)) E (fB (fChain g g' fa fb fc)) := ⟨pt_chain ho ho' ha.pe hb.pe hc.pe hm, ev_test (ev_chain p p' ha.ev hb.ev hc.ev)⟩
end

/-! ### new dicts -/
def fDict (m : D) : M D := fun ρ => .ok m ρ
section
variable {K : PySem.W.Frag} {E : XW} {X : Cx} {pos : Pos}
theorem ev_dnewK : EvN K E tDNewK (fDict (.dK [])) := by
  intro C F H σ ρ Q hK ok h
  subst hK
  intro p hp
  have al : Alloc F H F (upd H p (.dK [])) := .raw hp ok.sub
  exact h F _ _ (ok.alloc al) (.of_alloc al) ⟨p, _, rfl, hp, ok.sub.free hp, upd_same, .dK rfl .nil⟩
theorem ev_dnewT : EvN K E tDNewT (fDict (.dT [])) := by
  intro C F H σ ρ Q hK ok h
  subst hK
  intro p hp
  have al : Alloc F H F (upd H p (.dT [])) := .raw hp ok.sub
  exact h F _ _ (ok.alloc al) (.of_alloc al) ⟨p, _, rfl, hp, ok.sub.free hp, upd_same, .dT rfl .nil⟩
theorem pn_dK : PN X (.Dict [] [] pos) tDNewK E (fDict (.dK [])) := ⟨pe_dnewK, ev_dnewK⟩
theorem pn_dT : PN X (.Dict [] [] pos) tDNewT E (fDict (.dT [])) := ⟨pe_dnewT, ev_dnewT⟩
end

/-! ### y = [.. for ..] -/
section
variable {X : Cx} {E : XW} {i : Nat} {y : Str} {py : Pos} {elt tg iter : Expr} {ifs : List Expr} {scope : Scope} {own : List (Str × Nat)} {pos spos : Pos} {ti : TI} {fi : M (List D)} {g : TG} {fg : FG} {tt : TT} {ft : M Bool} {te : TE} {fe : M Vl}
theorem pfs_setLcN (hN : X.N.Nodup) (hsw : swapsWith (.ListComp elt [⟨tg, iter, ifs, 0⟩] scope pos) (some (.Name y py)) spos.line X.env = pure true) (hi : PFi X tg iter ti E fi) (ok : BlkOk X.N X.env.scope scope own)
    (hg : ∀ (s : Shared) (H : Hp) (C : Addr) (cl : List (Str × Addr)) (fp : List Addr), ∃ g, PGc (X.blk s H scope (compEnvC scope cl C X.env) fp) (own.map (·.2)) tg g fg)
    (ht : ∀ (s : Shared) (H : Hp) (C : Addr) (cl : List (Str × Addr)) (fp : List Addr), ∃ tt, PTf (X.blk s H scope (compEnvC scope cl C X.env) fp) ifs tt ft)
    (he : ∀ (s : Shared) (H : Hp) (C : Addr) (cl : List (Str × Addr)) (fp : List Addr), ∃ te, PF (X.blk s H scope (compEnvC scope cl C X.env) fp) elt te XE0 fe) (hy : X.N[i]? = some y := by rfl) (hyl : X.env.scope.names.lookup y = some .local := by rfl)
    (hc : X.calm = true := by rfl) (hs : ∀ x, foldedSetIterable iter X.env x = pure x := by intro _; rfl) :
    PFs X (.Assign [.Name y py] (.ListComp elt [⟨tg, iter, ifs, 0⟩] scope pos) spos) (tAsg (tLc ti (tFgc X.K (own.map (·.2)) fg) (tFt X.K XE0 ft) (tFe X.K XE0 fe) (own.map (·.2))) (gName i)) E (fAsgN i (fLc fi fg ft fe (own.map (·.2)))) := by
  refine ⟨ps_setLc hc hN hy hyl hsw hi.pi ok (fun s H C cl fp => ?_) (fun s H C cl fp => ?_) (fun s H C cl fp => ?_) hs, ?_⟩
  · obtain ⟨g, h⟩ := hg s H C cl fp; exact can_g h
  · obtain ⟨g, h⟩ := ht s H C cl fp; exact can_t h
  · obtain ⟨g, h⟩ := he s H C cl fp; exact can_e h
  · obtain ⟨g, h⟩ := hg X.s_0 X.H_0 0 [] []
    exact ev_asgN (ev_lc hi.ev (can_gv h.ev) can_tv can_ev)
theorem pfs_setLc (hN : X.N.Nodup) (hsw : swapsWith (.ListComp elt [⟨tg, iter, ifs, 0⟩] scope pos) (some (.Name y py)) spos.line X.env = pure true) (hi : PFi X tg iter ti E fi) (ok : BlkOk X.N X.env.scope scope own)
    (hg : ∀ (s : Shared) (H : Hp) (C : Addr) (cl : List (Str × Addr)) (fp : List Addr), ∃ g, PGc (X.blk s H scope (compEnvC scope cl C X.env) fp) (own.map (·.2)) tg g fg)
    (ht : ∀ (s : Shared) (H : Hp) (C : Addr) (cl : List (Str × Addr)) (fp : List Addr), ∃ tt, PTf (X.blk s H scope (compEnvC scope cl C X.env) fp) ifs tt ft)
    (he : ∀ (s : Shared) (H : Hp) (C : Addr) (cl : List (Str × Addr)) (fp : List Addr), ∃ te, PF (X.blk s H scope (compEnvC scope cl C X.env) fp) elt te XE0 fe) (hy : X.N[i]? = some y := by rfl) (hyl : X.env.scope.names.lookup y = some .local := by rfl)
    (hc : X.calm = true := by rfl) (hs : ∀ x, foldedSetIterable iter X.env x = pure x := by intro _; rfl) :
    PFs X (.Assign [.Name y py] (.ListComp elt [⟨tg, iter, ifs, 0⟩] scope pos) spos) (tAsg (tLc ti (tFgc X.K (own.map (·.2)) fg) (tFt X.K XE0 ft) (tFe X.K XE0 fe) (own.map (·.2))) (gName i)) E (fAsg (gN i) (fOfN (fLc fi fg ft fe (own.map (·.2))))) := by
  refine ⟨ps_setLc hc hN hy hyl hsw hi.pi ok (fun s H C cl fp => ?_) (fun s H C cl fp => ?_) (fun s H C cl fp => ?_) hs, ?_⟩
  · obtain ⟨g, h⟩ := hg s H C cl fp; exact can_g h
  · obtain ⟨g, h⟩ := ht s H C cl fp; exact can_t h
  · obtain ⟨g, h⟩ := he s H C cl fp; exact can_e h
  · obtain ⟨g, h⟩ := hg X.s_0 X.H_0 0 [] []
    exact ev_asg (ev_ofN (ev_lc hi.ev (can_gv h.ev) can_tv can_ev)) eg_n
end

/-! ### x += e -/
def fAug (i : Nat) (g : D → D → Option D) (fe : M Vl) : FS := fun ρ => match ρ[i]? with
  | some (.d x) => sBnd fe (fun y ρ => match look ρ y with
    | some b => match g x b with
      | some z => .nx (ρ.set i (.d z))
      | none => .bad
    | none => .bad) ρ
  | _ => .bad
def gAddI : D → D → Option D
  | .int i, .int j => some (.int (i + j))
  | _, _ => none
def gSubI : D → D → Option D
  | .int i, .int j => some (.int (i - j))
  | _, _ => none
section
variable {K : PySem.W.Frag} {E : XW} {te : TE} {fe : M Vl} {i : Nat} {f : Int → Int → Int} {g : D → D → Option D}
theorem ev_aug (hg : ∀ x y z, g x y = some z → ∃ i j, x = .int i ∧ y = .int j ∧ z = .int (f i j)) (he : EvE K E te fe) : EvS K E (tAug i te (ipI f)) (fAug i g fe) := by
  intro C F H σ ρ De hK ok h
  subst hK
  unfold fAug at h
  cases e0 : ρ[i]? with
  | none => rw [e0] at h; exact h.elim
  | some s =>
    rw [e0] at h
    cases s with
    | d x =>
      obtain ⟨u, z1, r⟩ := ok.sl i _ e0
      refine ⟨u, z1, ?_⟩
      simp only at h
      refine he C F H σ ρ _ rfl ok (PostS.bnd h fun y r1 F1 H1 v e1 ok1 st1 vo1 h1 => ?_)
      cases e2 : look r1 y with
      | none => simp only [e2] at h1; exact h1.elim
      | some b =>
        simp only [e2] at h1
        cases e3 : g x b with
        | none => simp only [e3] at h1; exact h1.elim
        | some z =>
          simp only [e3] at h1
          obtain ⟨a, c, rfl, rfl, rfl⟩ := hg x b z e3
          have ev := (vo1.read ok1 e2).int
          subst ev
          cases r
          exact ⟨a, c, rfl, rfl, h1 F1 H1 _ (ok1.set (.int _)) (.refl _)⟩
    | _ => exact h.elim
theorem gAddI_ok : ∀ x y z, gAddI x y = some z → ∃ i j, x = .int i ∧ y = .int j ∧ z = .int (i + j) := by
  intro x y z h
  unfold gAddI at h
  split at h
  · cases h; exact ⟨_, _, rfl, rfl, rfl⟩
  · cases h
theorem gSubI_ok : ∀ x y z, gSubI x y = some z → ∃ i j, x = .int i ∧ y = .int j ∧ z = .int (i - j) := by
  intro x y z h
  unfold gSubI at h
  split at h
  · cases h; exact ⟨_, _, rfl, rfl, rfl⟩
  · cases h
end
section
variable {X : Cx} {E : XW} {e : Expr} {te : TE} {fe : M Vl} {i : Nat} {x : Str} {pos pos' : Pos}
theorem pfs_augAdd (hN : X.N.Nodup) (he : PF X e te E fe) (hi : X.N[i]? = some x := by rfl) (hx : Loc X.env.scope x := by first | exact .inl rfl | exact .inr rfl) (hf : X.fn x = true ∨ X.env.scope.names.lookup x = some .local := by first | exact .inl rfl | exact .inr rfl) :
    PFs X (.AugAssign (.Name x pos') .Add e pos) (tAug i te (ipI fun i j => i + j)) E (fAug i gAddI fe) := ⟨ps_aug hN hi hx he.pe ip_add hf, ev_aug gAddI_ok he.ev⟩
theorem pfs_augSub (hN : X.N.Nodup) (he : PF X e te E fe) (hi : X.N[i]? = some x := by rfl) (hx : Loc X.env.scope x := by first | exact .inl rfl | exact .inr rfl) (hf : X.fn x = true ∨ X.env.scope.names.lookup x = some .local := by first | exact .inl rfl | exact .inr rfl) :
    PFs X (.AugAssign (.Name x pos') .Sub e pos) (tAug i te (ipI fun i j => i - j)) E (fAug i gSubI fe) := ⟨ps_aug hN hi hx he.pe ip_sub hf, ev_aug gSubI_ok he.ev⟩
end
end DL

namespace DL
open PySem PySem.Spec PyProof.Rows L2 PySem.W

/-! ### sorted of a dict's keys -/
section
variable {X : Cx} {pins : List (Addr × Obj)} {σ : L2.St} {H : Hp} {s : Shared} {κ : Type} [DecidableEq κ] {knd : PySem.KeyKind X.prog X.w κ} {kvs : List (κ × Value)} {ep : Nat} {a : Addr} {dec : κ → V} {enc : κ → PyData}
theorem each_at {h : Heap} {S : Addr} (hdec : ∀ k u, knd.is k u = true → RelV (dec k) u ∧ ∀ h, Reads h u (enc k) []) : ∀ {us : List Value} {ks : List κ}, us.length = ks.length → (∀ (j : Nat) (v : Value), us[j]? = some v → ∃ k, ks[j]? = some k ∧ knd.is k v = true) →
    EachIs (fun u (k : κ) => RelV (dec k) u) us ks ∧ EachIs (fun u (k : κ) => ∃ as, Reads h u (enc k) as ∧ S ∉ as) us ks
  | [], [], _, _ => ⟨.nil, .nil⟩
  | u :: us, k :: ks, hl, hj => by
    obtain ⟨k', e, q⟩ := hj 0 u rfl
    have e : k = k' := by simpa using e
    subst e
    obtain ⟨i1, i2⟩ := each_at hdec (us := us) (ks := ks) (by simpa using hl) fun j v e => by
      obtain ⟨k2, e2, q2⟩ := hj (j + 1) v (by simpa using e)
      exact ⟨k2, by simpa using e2, q2⟩
    obtain ⟨q1, q2⟩ := hdec k u q
    exact ⟨.cons q1 i1, .cons ⟨[], q2 _, by simp⟩ i2⟩
  | [], _ :: _, hl, _ => by simp at hl
  | _ :: _, [], hl, _ => by simp at hl
theorem vals_dec {us : List Value} {ks : List κ} (h : EachIs (fun u (k : κ) => RelV (dec k) u) us ks) : Vals (ks.map dec) us := by
  induction h with
  | nil => exact .nil
  | cons h _ ih => exact .cons h ih
theorem sorted_at {Q : VK} (hcalm : X.calm = true) (hu : X.A.units + 70 < cLine) (I : Inv X pins σ H s) (lo : (a == sysModules) = false) (hat : s.heap.DictAt knd a kvs ep) (hl : kvs.length ≤ sizeLine)
    (hdec : ∀ k u, knd.is k u = true → RelV (dec k) u ∧ ∀ h, Reads h u (enc k) []) (hal : AllAlike ((kvs.map (·.1)).map enc)) (hk : Sortable ((kvs.map (·.1)).map enc)) (hd : ∀ k, (enc k).depth ≤ 60)
    (q : ∀ p, H p = none → Q (.ref p) (upd H p (.lst (((kvs.map (·.1)).mergeSort (dataLe false enc)).map dec)))) : wpAny (model X.prog X.w) X.A (call (.builtin "sorted") [.ref a]) (EP X pins σ Q) X.xe s := by
  have hL2 := hl
  rw [sizeLine_eq] at hL2
  refine Calls.call_function_entry PyProof.Rows.kind_sorted PyProof.Rows.plain_sorted PyProof.Rows.entry_sorted (PyProof.Rows.args_sorted1 _) ?_
  unfold Builtin.«sorted»
  refine wpAny_bind (m := checkCount "sorted" 1 1 _) (wpAny_pure ?_)
  refine wpAny_bind (PySem.W.kdu_collect (A := X.A.in1) (PySem.W.kdl_dict (knd := knd) (kvs := kvs) (ep := ep) lo) (I.ok.hd hcalm) hat hl fun h' tk acc hk' hacc => ?_)
  have hal' : acc.toList.length = (kvs.map (·.1)).length := by rw [Array.length_toList, hacc.1, List.length_map]
  obtain ⟨e1, e2⟩ := each_at (dec := dec) (enc := enc) (h := h'.push (seqObj "list" acc.toList.toArray 0)) (S := h'.objs.size) hdec hal' fun j v e => by
    obtain ⟨k, x, e1, e2⟩ := hacc.2 j v (by rw [← Array.getElem?_toList]; exact e)
    exact ⟨k, by rw [List.getElem?_map, e1]; rfl, e2⟩
  have I1 : Inv X pins σ H { s with heap := h', toks := tk } := I.kept hk'
  refine wpAny_bind (wpAny_newList ?_ (by rw [hal', List.length_map, sizeLine_eq]; omega))
  have hoL : (h'.push (seqObj "list" acc.toList.toArray 0)).get? h'.objs.size = some (seqObj "list" acc.toList.toArray 0) := Heap.get?_push_size _ rfl
  show wpAny _ _ _ _ _ { s with heap := h'.push (seqObj "list" acc.toList.toArray 0), toks := tk }
  refine wpAny_bind (wpAny_holding (list_sort_data (R := fun u (k : κ) => RelV (dec k) u) (enc := enc) (bs := kvs.map (·.1)) (A := X.A.in1) (s := { s with heap := h'.push (seqObj "list" acc.toList.toArray 0), toks := tk }) hoL e1 e2 hal hk (by rw [List.length_map, sizeLine_eq]; omega) (fun b _ => ?_) fun out ho eo => ?_))
  · have := hd b
    show X.A.units + 1 + 1 + _ < _
    omega
  · have vo := vals_dec eo
    obtain ⟨e', he'⟩ := PyProof.Rows.sortedHeap_at (vs := acc.toList) (out := out.toArray) hoL
    have hlen : (((kvs.map (·.1)).mergeSort (dataLe false enc)).map dec).length ≤ sizeLine := by
      rw [List.length_map, List.length_mergeSort, List.length_map]; exact hl
    refine wpAny_pure ⟨_, rfl, .ref h'.objs.size, upd H h'.objs.size (.lst _), I1.laid (t' := tk) (fun b u e => ?_) (Nat.le_refl _)
      (show ObjOk X.prog X.w _ _ _ (.lst _) from ⟨hlen, out, e', vo, he'⟩), rfl, q _ (I1.hok.fresh (Nat.le_refl _))⟩
    have hb : b < h'.objs.size := Heap.lt_size e
    rw [PyProof.Rows.sortedHeap_old (Nat.ne_of_lt hb) (by rw [size_push']; exact Nat.lt_succ_of_lt hb)]
    exact Heap.get?_push_of_some _ e
end
/-! ### .. as a rule -/
def keyD : Key → D
  | .inl i => .int i
  | .inr x => .str x
def keyP : Key → PyData
  | .inl i => .int i
  | .inr x => .str x
theorem pyN_keyD (n : Nat) (k : Key) : pyN n (keyD k) = keyP k := by
  cases k <;> cases n <;> rfl
theorem keyP_depth (k : Key) : (keyP k).depth ≤ 60 := by
  cases k <;> simp [keyP, PyData.depth]
theorem rep_keyD {K : PySem.W.Frag} {F : Hp} (k : Key) : Rep K F (kV k) (keyD k) := by
  cases k with
  | inl i => exact .int i
  | inr x => exact .str x
theorem repL_keys {K : PySem.W.Frag} {F : Hp} : ∀ ks : List Key, RepL K F (ks.map kV) (ks.map keyD)
  | [] => .nil
  | k :: ks => .cons (rep_keyD k) (repL_keys ks)
theorem dec_mix {P : Program} {w : World} (k : Key) (u : Value) (h : (mixKind P w).is k u = true) : RelV (kV k) u ∧ ∀ h, Reads h u (keyP k) [] := by
  rcases keyIs_shape (show keyIs k u = true from h) with ⟨i, t, rfl, rfl⟩ | ⟨x, t, rfl, rfl⟩
  · exact ⟨⟨t, rfl⟩, fun h => .int i t⟩
  · exact ⟨⟨t, rfl⟩, fun h => .str x t⟩
/-- sorted(x), a list or a dict -/
def gSortedA : List D → Option D
  | [.lst xs] => if sortOk xs = true then some (.lst (xs.mergeSort (leD 39))) else none
  | [.dK kvs] => if sortOk (kvs.map fun p => keyD p.1) = true then some (.lst ((kvs.map fun p => keyD p.1).mergeSort (leD 39))) else none
  | _ => none
def rSortK : List V → Hp → VK → Prop := fun vs H Q => ∃ (a : Addr) (kvs : List (Key × V)), vs = [V.ref a] ∧ Rd H a (.dK kvs) ∧ AllAlike ((kvs.map (·.1)).map keyP) ∧ Sortable ((kvs.map (·.1)).map keyP) ∧
  ∀ p, H p = none → Q (.ref p) (upd H p (.lst (((kvs.map (·.1)).mergeSort (dataLe false keyP)).map kV)))
theorem cr_sortK {X : Cx} (hcalm : X.calm = true) (hu : X.A.units + 200 < cLine) : CallR X (.builtin "sorted") rSortK := by
  intro pins s σ H vs us Q I r h
  obtain ⟨a, kvs, rfl, hd, al, so, q⟩ := h
  obtain ⟨u, rfl, rx⟩ := vals1 r
  cases rx
  obtain ⟨z, lo, ws, rel, dd⟩ := dk_rd I.hok hd
  obtain ⟨ep, hat⟩ := dd.dictAt
  have hkeys : kvs.map (·.1) = ws.map (·.1) := rel.keys
  exact sorted_at (dec := kV) (enc := keyP) hcalm (by omega) I lo hat (by rw [← rel.length]; exact z) dec_mix (by rw [← hkeys]; exact al) (by rw [← hkeys]; exact so) keyP_depth (by rw [← hkeys]; exact q)
def rSortA (K : PySem.W.Frag) : List V → Hp → VK → Prop := fun vs H Q => rSortD K vs H Q ∨ rSortK vs H Q
theorem cr_sortA {X : Cx} (hu : X.A.units + 200 < cLine) (hcalm : X.calm = true := by rfl) : CallR X (.builtin "sorted") (rSortA X.K) := CallR.or (cr_sortD (by omega)) (cr_sortK hcalm hu)
theorem keys_sorted (ks : List Key) : (ks.mergeSort (dataLe false keyP)).map keyD = (ks.map keyD).mergeSort (leD 39) :=
  List.map_mergeSort fun a _ b _ => by
    show (!dataLt (keyP b) (keyP a)) = !dataLt (pyN 39 (keyD b)) (pyN 39 (keyD a))
    rw [pyN_keyD, pyN_keyD]
theorem pn_sortA {K : PySem.W.Frag} : PCN K (rSortA K) gSortedA := by
  intro F H vs xs m Q e hx hm q
  unfold gSortedA at hm
  split at hm
  · exact .inl (pn_sorted F H vs _ m Q e hx hm q)
  · rename_i kvs
    split at hm
    · rename_i hok
      cases hm
      obtain ⟨v, rfl, h⟩ := hx.one
      obtain ⟨p, ws, rfl, h1, kk, r⟩ := h.dK e
      obtain ⟨g, al, so, hl⟩ := sortOk_of hok
      have em : (kvs.map fun p => keyD p.1).map (pyN 39) = (ws.map (·.1)).map keyP := by
        rw [kk, List.map_map, List.map_map]
        exact List.map_congr_left fun p _ => pyN_keyD 39 p.1
      rw [em] at al so
      refine .inr ⟨p, ws, rfl, h1, al, so, fun l hl' => q l _ hl' (.lst ?_)⟩
      have : ((kvs.map fun p => keyD p.1).mergeSort (leD 39)) = ((ws.map (·.1)).mergeSort (dataLe false keyP)).map keyD := by
        rw [keys_sorted, kk, List.map_map]; rfl
      rw [this]
      exact repL_keys _
    · cases hm
  · cases hm

/-! ### dicts of the module, text keys -/
def keyStr (e : DictEntry) : Option Str := match e.key with
  | .str x _ => some x
  | _ => none
def KTab (K : PySem.W.Frag) (w : World) (mg : Str → Option Value) (a : Addr) (x : Str) (tbl : List (Str × D)) : Prop :=
  ∃ (es : Array DictEntry) (n : Nat), mg x = some (.ref a) ∧ K.lookup a = some ⟨.type "dict", none, .dict es n, #[]⟩ ∧ KeysLit w.params es.toList ∧ (a == sysModules) = false ∧ es.toList.map keyStr = tbl.map (fun p => some p.1) ∧ (tbl.map (·.1)).Nodup ∧
    ∀ z y, tbl.lookup z = some y → ∃ v u, nsIn K a z = some (some u) ∧ RelV v u ∧ ∀ F, Rep K F v y
def fKd (tbl : List (Str × D)) (fi : M Vl) : M Vl := M.bnd fi fun k ρ => match look ρ k with
  | some (.str z) => match tbl.lookup z with
    | some y => .ok (.d y) ρ
    | none => .bad
  | _ => .bad
theorem pf_kd {X : Cx} {E : XW} {x : Str} {tbl : List (Str × D)} {p pos : Pos} {b : Expr} {tb : TE} {fb : M Vl} {a : Addr} (T : KTab X.K X.w X.mg a x tbl) (hb : PF X b tb E fb) (hg : Gl X x := by rfl) (hd : (x == ("__debug__" : Str)) = false := by decide) (hs : PlainIx b := by intro _ _; rfl) :
    PF X (.Subscript (.Name x p) b pos) (tOp (rIxD X.K X.w) (tC (.ref a)) tb) E (fKd tbl fb) := by
  obtain ⟨es, n, hm, hl, lit, lo, hk, nd, hv⟩ := T
  refine ⟨pe_ix ix_kdict (pe_glob (v := .ref a) hg hm rfl hd) hb.pe hs, ?_⟩
  intro C F H σ ρ Q hK ok h
  show tb σ H _
  refine hb.ev C F H σ ρ _ hK ok (Post.bnd h fun k r1 F1 H1 v e1 ok1 st1 vo1 h1 => ?_)
  cases e2 : look r1 k with
  | none => simp only [e2] at h1; exact h1.elim
  | some y =>
    cases y with
    | str z =>
      simp only [e2] at h1
      have ev := (vo1.read ok1 e2).str
      subst ev
      cases e3 : tbl.lookup z with
      | none => simp only [e3] at h1; exact h1.elim
      | some y =>
        simp only [e3] at h1
        obtain ⟨v, u, h3, h4, h5⟩ := hv z y e3
        exact ⟨a, z, v, rfl, rfl, ⟨es, n, u, hl, lit, h3, h4⟩, h1 F1 H1 v ok1 .refl (by show Rep C.K F1 v y; rw [hK]; exact h5 F1)⟩
    | _ => simp only [e2] at h1; exact h1.elim
/-- sorted(d) -/
theorem pairs_of {P : Program} {w : World} : ∀ {es : List DictEntry} {tbl : List (Str × D)}, KeysLit w.params es → es.map keyStr = tbl.map (fun p => some p.1) → Pairs (strKind P w) es ((es.zip tbl).map fun p => (p.2.1, p.1.val))
  | [], [], _, _ => .nil
  | [], _ :: _, _, h => by simp at h
  | _ :: _, [], _, h => by simp at h
  | e :: es, q :: tbl, l, h => by
    obtain ⟨⟨x, t, h1, h2⟩, l'⟩ := l
    simp only [List.map_cons, List.cons.injEq] at h
    obtain ⟨h3, h4⟩ := h
    have : x = q.1 := by
      unfold keyStr at h3
      rw [h1] at h3
      simpa using h3
    subst this
    refine .cons ?_ rfl (pairs_of l' h4)
    rw [h1]
    exact PySem.strKind_is P w q.1 t
theorem dec_str {P : Program} {w : World} (k : Str) (u : Value) (h : (PySem.strKind P w).is k u = true) : RelV (.str k) u ∧ ∀ h, Reads h u (.str k) [] := by
  obtain ⟨t, rfl⟩ := Value.isStrOf_shape h
  exact ⟨⟨t, rfl⟩, fun h => .str k t⟩
theorem zip_fst2 : ∀ {es : List DictEntry} {tbl : List (Str × D)}, es.map keyStr = tbl.map (fun p => some p.1) → ((es.zip tbl).map fun p => (p.2.1, p.1.val)).map (·.1) = tbl.map (·.1)
  | [], [], _ => rfl
  | [], _ :: _, h => by simp at h
  | _ :: _, [], h => by simp at h
  | e :: es, q :: tbl, h => by
    simp only [List.map_cons, List.cons.injEq] at h
    have := zip_fst2 (es := es) (tbl := tbl) h.2
    simpa using this
def strsOf (tbl : List (Str × D)) : List D := tbl.map fun p => .str p.1
theorem repL_strs {K : PySem.W.Frag} {F : Hp} : ∀ ks : List Str, RepL K F (ks.map V.str) (ks.map D.str)
  | [] => .nil
  | k :: ks => .cons (.str k) (repL_strs ks)
theorem pn_sortKT {X : Cx} {E : XW} {x : Str} {tbl : List (Str × D)} {p p2 pos : Pos} {a : Addr} (hu : X.A.units + 200 < cLine) (hs : X.mg "sorted" = none) (T : KTab X.K X.w X.mg a x tbl) (hso : sortOk (strsOf tbl) = true) (hcalm : X.calm = true := by rfl) (hg2 : Gl X "sorted" := by rfl) (hg : Gl X x := by rfl) (hd : (x == ("__debug__" : Str)) = false := by decide)
    (he : starEach [.Name x p2] X.env = (false, eval (.Name x p2) X.env) :: starEach [] X.env := by rfl) :
    PN X (.Call (.Name "sorted" p) [.Name x p2] [] pos) (fun σ H Q => ∀ p, H p = none → Q (.ref p) (upd H p (.lst (((tbl.map (·.1)).mergeSort (dataLe false PyData.str)).map V.str)))) E (fDict (.lst ((strsOf tbl).mergeSort (leD 39)))) := by
  obtain ⟨es, n, hm, hl, lit, lo, hk, nd, hv⟩ := T
  obtain ⟨g, al, so, hlen⟩ := sortOk_of hso
  have em : (strsOf tbl).map (pyN 39) = (tbl.map (·.1)).map PyData.str := by
    unfold strsOf
    rw [List.map_map, List.map_map]; rfl
  have efst : ((es.toList.zip tbl).map fun p => (p.2.1, p.1.val)).map (·.1) = tbl.map (·.1) := zip_fst2 hk
  have cr : CallR X (.builtin "sorted") (fun vs H Q => vs = [V.ref a] ∧ ∀ p, H p = none → Q (.ref p) (upd H p (.lst (((tbl.map (·.1)).mergeSort (dataLe false PyData.str)).map V.str)))) := by
    intro pins s σ H vs us Q I r h
    obtain ⟨rfl, q⟩ := h
    obtain ⟨u, rfl, rx⟩ := vals1 r
    cases rx
    have hat : s.heap.DictAt (PySem.strKind X.prog X.w) a ((es.toList.zip tbl).map fun p => (p.2.1, p.1.val)) n := by
      refine ⟨_, es, I.kIn _ _ hl, ⟨rfl, rfl, rfl⟩, rfl, fun e he => ?_, pairs_of lit hk, by rw [efst]; exact nd⟩
      obtain ⟨x, t, e1, e2⟩ := lit.all e (Array.mem_toList_iff.mpr he)
      exact ⟨x, by rw [e1]; exact PySem.strKind_is X.prog X.w x t, e2⟩
    refine sorted_at (dec := V.str) (enc := PyData.str) hcalm (by omega) I lo hat ?_ dec_str (by rw [efst, ← em]; exact al) (by rw [efst, ← em]; exact so) (fun k => by simp [PyData.depth]) (by rw [efst]; exact q)
    have e2 := congrArg List.length efst
    rw [List.length_map] at e2
    rw [List.length_map] at e2
    rw [List.length_map]
    rw [List.length_map] at e2
    rw [e2]
    unfold strsOf at hlen
    rw [List.length_map] at hlen
    exact hlen
  have pe := pe_callB (pos := pos) (p := p) cr hg2 hs (by decide +kernel) (pa_cons (pe_glob (pos := p2) (v := .ref a) hg hm rfl hd) pa_nil) (by decide) (by decide) he
  refine ⟨⟨fun pins s σ H Q I h => pe.run pins s σ H Q I ⟨rfl, h⟩⟩, ?_⟩
  intro C F H σ ρ Q hK ok h q hq
  have al2 : Alloc F H F (upd H q (.lst (((tbl.map (·.1)).mergeSort (dataLe false PyData.str)).map V.str))) := .raw hq ok.sub
  refine h F _ _ (ok.alloc al2) (.of_alloc al2) ⟨q, _, rfl, hq, ok.sub.free hq, upd_same, .lst ?_⟩
  have : (strsOf tbl).mergeSort (leD 39) = ((tbl.map (·.1)).mergeSort (dataLe false PyData.str)).map D.str := by
    rw [List.map_mergeSort (f := D.str) (r := dataLe false PyData.str) (s := leD 39) (fun a _ b _ => rfl)]
    unfold strsOf
    rw [List.map_map]; rfl
  rw [this]
  exact repL_strs _
end DL

namespace DL
open PySem PySem.Spec PyProof.Rows L2

/-! ### {k: v, ..} -/
inductive VpOk (C : Ctx) (F : Hp) (σ : L2.St) (ρ : Rho) : List (V × V) → List (Vl × Vl) → Prop
  | nil : VpOk C F σ ρ [] []
  | cons {v w : V} {vs : List (V × V)} {x y : Vl} {xs : List (Vl × Vl)} : VlOk C F σ ρ v x → VlOk C F σ ρ w y → VpOk C F σ ρ vs xs → VpOk C F σ ρ ((v, w) :: vs) ((x, y) :: xs)
def EvP (K : PySem.W.Frag) (E : XW) (trs : List (TE × TE)) (f : M (List (Vl × Vl))) : Prop := ∀ (C : Ctx) (F H : Hp) (σ : L2.St) (ρ : Rho) (Q : List (V × V) → Hp → Prop), C.K = K → Ok C F H σ ρ →
  Post C E σ ρ F H (fun F' _ r vs vls => VpOk C F' σ r vs vls) Q (f ρ) → tPairs trs σ H Q
structure PFp (X : Cx) (pos : Pos) (keys : List (Option Expr)) (values : List Expr) (trs : List (TE × TE)) (E : XW) (f : M (List (Vl × Vl))) : Prop where
  pps : PPs X pos keys values trs
  ev : EvP X.K E trs f
def fpNil : M (List (Vl × Vl)) := fun ρ => .ok [] ρ
def fpCons (fk fv : M Vl) (fr : M (List (Vl × Vl))) : M (List (Vl × Vl)) := M.bnd fk fun x => M.bnd fv fun y => M.bnd fr fun xs ρ => .ok ((x, y) :: xs) ρ
def fzP : List (Vl × Vl) → M (List (Key × D))
  | [] => fun ρ => .ok [] ρ
  | (x, y) :: xs => fun ρ => match look ρ x with
    | some a => match keyOf a with
      | some k => M.bnd (fz y) (fun d => M.bnd (fzP xs) fun ys ρ => .ok ((k, d) :: ys) ρ) ρ
      | none => .bad
    | none => .bad
def mergeA (kvs more : List (Key × D)) : List (Key × D) := more.foldl (fun acc kv => putA acc kv.1 kv.2) kvs
def fDisp (fp : M (List (Vl × Vl))) : M D := M.bnd fp fun xs => M.bnd (fzP xs) fun ys ρ => if ys.length ≤ 15 then .ok (.dK (mergeA [] ys)) ρ else .bad
section
variable {C : Ctx} {F H F' H' : Hp} {σ : L2.St} {ρ ρ' : Rho}
theorem VpOk.step (s : Step σ ρ ρ' F H F' H') : ∀ {vs : List (V × V)} {xs : List (Vl × Vl)}, VpOk C F σ ρ vs xs → VpOk C F' σ ρ' vs xs
  | _, _, .nil => .nil
  | _, _, .cons h1 h2 t => .cons (h1.step s) (h2.step s) (VpOk.step s t)
theorem keyOf_h {K : PySem.W.Frag} {w : V} {k : D} {kq : Key} (rk : RepH K F H w k) (e1 : keyOf k = some kq) : w = kV kq := by
  rcases rk with rk | ⟨b, ob, rfl, hb, cb⟩
  · exact keyOf_ok rk e1
  · cases cb <;> cases e1
theorem fzP_ok : ∀ {vs : List (V × V)} {xs : List (Vl × Vl)} {ys : List (Key × D)} {ρ ρ' : Rho} {F : Hp}, Ok C F H σ ρ → VpOk C F σ ρ vs xs → fzP xs ρ = .ok ys ρ' →
    ∃ (F' : Hp) (ws : List (Key × V)), Ok C F' H σ ρ' ∧ Step σ ρ ρ' F H F' H ∧ vs = ws.map (fun kv : Key × V => (kV kv.1, kv.2)) ∧ ws.map (·.1) = ys.map (·.1) ∧ RepL C.K F' (ws.map (·.2)) (ys.map (·.2))
  | _, _, _, _, _, _, ok, .nil, e => by cases e; exact ⟨_, [], ok, .refl, rfl, rfl, .nil⟩
  | _, _, _, ρ, ρ', F, ok, .cons (x := x) (y := y) (xs := xs) h1 h2 t, e => by
    unfold fzP at e
    cases e0 : look ρ x with
    | none => simp only [e0] at e; cases e
    | some a =>
      cases ek : keyOf a with
      | none => simp only [e0, ek] at e; cases e
      | some k =>
        simp only [e0, ek] at e
        have hk := keyOf_h (h1.read ok e0) ek
        subst hk
        unfold M.bnd at e
        cases e1 : fz y ρ with
        | bad => rw [e1] at e; cases e
        | exc q r => exact absurd e1 fz_noexc
        | ok d r1 =>
          rw [e1] at e
          obtain ⟨F1, ok1, st1, rp1⟩ := fz_ok ok h2 e1
          simp only at e
          cases e2 : fzP xs r1 with
          | bad => rw [e2] at e; cases e
          | exc q r => rw [e2] at e; cases e
          | ok ys r2 =>
            rw [e2] at e
            cases e
            obtain ⟨F2, ws, ok2, st2, ew, ek2, rl⟩ := fzP_ok ok1 (t.step st1) e2
            exact ⟨F2, (k, _) :: ws, ok2, st1.trans st2, by rw [ew]; rfl, by simp [ek2], .cons (rp1.ex st2.fx) rl⟩
theorem fzP_noexc : ∀ {xs : List (Vl × Vl)} {ρ : Rho} {e : Xc} {r : Rho}, fzP xs ρ ≠ .exc e r
  | [], ρ, e, r => by intro h; cases h
  | (x, y) :: xs, ρ, e, r => by
    unfold fzP
    cases e0 : look ρ x with
    | none => simp
    | some a =>
      cases ek : keyOf a with
      | none => simp [ek]
      | some k =>
        simp only [ek]
        unfold M.bnd
        cases e1 : fz y ρ with
        | bad => simp
        | exc q r => exact absurd e1 fz_noexc
        | ok d r1 =>
          simp only
          cases e2 : fzP xs r1 with
          | bad => simp
          | exc q r => exact absurd e2 fzP_noexc
          | ok ys r2 => simp
theorem mergeA_ok {K : PySem.W.Frag} : ∀ {more : List (Key × V)} {ds : List (Key × D)} {kvs : List (Key × V)} {gs : List (Key × D)}, more.map (·.1) = ds.map (·.1) → RepL K F (more.map (·.2)) (ds.map (·.2)) → kvs.map (·.1) = gs.map (·.1) → RepL K F (kvs.map (·.2)) (gs.map (·.2)) →
    (mergeK kvs more).map (·.1) = (mergeA gs ds).map (·.1) ∧ RepL K F ((mergeK kvs more).map (·.2)) ((mergeA gs ds).map (·.2))
  | [], [], _, _, _, _, e, r => ⟨e, r⟩
  | [], _ :: _, _, _, e, _, _, _ => by simp at e
  | _ :: _, [], _, _, e, _, _, _ => by simp at e
  | (k, v) :: more, (k', x) :: ds, kvs, gs, e, r, e2, r2 => by
    simp only [List.map_cons, List.cons.injEq] at e r
    obtain ⟨rfl, e⟩ := e
    cases r with
    | cons rv r =>
      obtain ⟨p1, p2⟩ := putA_ok rv k e2 r2
      exact mergeA_ok (more := more) (ds := ds) e r p1 p2
end
theorem Post.alloc {C : Ctx} {E : XW} {σ : L2.St} {ρ : Rho} {F H F1 H1 : Hp} {α β : Type} {VR : Hp → Hp → Rho → β → α → Prop} {Q : β → Hp → Prop} {o : R α} (al : Alloc F H F1 H1) (h : Post C E σ ρ F H VR Q o) : Post C E σ ρ F1 H1 VR Q o := by
  cases o with
  | bad => exact h
  | exc z r => exact fun F2 H2 cls d ok2 ex2 xr => h F2 H2 cls d ok2 (al.fx.trans ex2) xr
  | ok c r => exact fun F2 H2 d ok2 st2 wr => h F2 H2 d ok2 ((Step.of_alloc al).trans st2) wr
section
variable {K : PySem.W.Frag} {E : XW} {trs : List (TE × TE)} {fp : M (List (Vl × Vl))} {tk tv : TE} {fk fv : M Vl}
theorem ep_nil : EvP K E [] fpNil := fun C F H σ ρ Q hK ok h => h F H [] ok .refl .nil
theorem ep_cons (hk : EvE K E tk fk) (hv : EvE K E tv fv) (hr : EvP K E trs fp) : EvP K E ((tk, tv) :: trs) (fpCons fk fv fp) := by
  intro C F H σ ρ Q hK ok h
  subst hK
  refine hk C F H σ ρ _ rfl ok (Post.bnd h fun x r1 F1 H1 v e1 ok1 st1 vo1 h1 => ?_)
  refine hv C F1 H1 σ r1 _ rfl ok1 (Post.bnd h1 fun y r2 F2 H2 w e2 ok2 st2 vo2 h2 => ?_)
  refine hr C F2 H2 σ r2 _ rfl ok2 (Post.bnd h2 fun xs r3 F3 H3 vs e3 ok3 st3 vo3 h3 => ?_)
  exact h3 F3 H3 _ ok3 .refl (.cons ((vo1.step st2).step st3) (vo2.step st3) vo3)
theorem ev_disp (hp : EvP K E trs fp) : EvN K E (tDisp trs) (fDisp fp) := by
  intro C F H σ ρ Q hK ok h
  subst hK
  intro p hp0
  have al : Alloc F H F (upd H p (.dK [])) := .raw hp0 ok.sub
  have ok0 := ok.alloc al
  have no : ¬ OwnA σ ρ p := notOwn ok hp0
  refine hp C F (upd H p (.dK [])) σ ρ _ rfl ok0 ?_
  unfold fDisp M.bnd at h
  cases e1 : fp ρ with
  | bad => rw [e1] at h; exact h
  | exc z r => rw [e1] at h; exact h
  | ok xs r1 =>
    rw [e1] at h
    intro F1 H1 vs ok1 st1 vo1
    simp only at h
    cases e2 : fzP xs r1 with
    | bad => rw [e2] at h; exact h.elim
    | exc q r => exact absurd e2 fzP_noexc
    | ok ys r2 =>
      rw [e2] at h
      obtain ⟨F2, ws, ok2, st2, ew, ek, rl⟩ := fzP_ok ok1 vo1 e2
      simp only at h
      by_cases hl : ys.length ≤ 15
      · rw [if_pos hl] at h
        have st := st1.trans st2
        obtain ⟨hd, hF⟩ := st.fr p _ upd_same no
        have hF2 : F2 p = none := hF.trans (ok.sub.free hp0)
        have no2 : ¬ OwnA σ r2 p := fun ⟨j, w, z⟩ => no ⟨j, st.ow j w, z⟩
        refine ⟨hd, ws, ew, by rw [keys_len ek]; exact hl, ?_⟩
        obtain ⟨m1, m2⟩ := mergeA_ok (kvs := []) (gs := []) ek rl rfl .nil
        have okp : Ok C F2 (upd H1 p (.dK (mergeK [] ws))) σ r2 := ok2.poke (by rw [hd]; exact fun z => by cases z) hF2 (H0_none ok hp0) no2
        exact h F2 _ _ okp (((Step.of_alloc al).trans st).poke hp0) ⟨p, _, rfl, hp0, hF2, upd_same, .dK m1 m2⟩
      · rw [if_neg hl] at h; exact h.elim
end
section
variable {X : Cx} {E : XW} {pos : Pos} {k v : Expr} {ks : List (Option Expr)} {vs : List Expr} {tk tv : TE} {trs : List (TE × TE)} {fk fv : M Vl} {fp : M (List (Vl × Vl))}
theorem pfp_nil : PFp X pos [] [] [] E fpNil := ⟨pps_nil, ep_nil⟩
theorem pfp_cons (hk : PF X k tk E fk) (hv : PF X v tv E fv) (hr : PFp X pos ks vs trs E fp) : PFp X pos (some k :: ks) (v :: vs) ((tk, tv) :: trs) E (fpCons fk fv fp) := ⟨pps_cons hk.pe hv.pe hr.pps, ep_cons hk.ev hv.ev hr.ev⟩
theorem pn_disp (h : PFp X pos ks vs trs E fp) (hall : ks.all (·.isSome) = true := by rfl) (hl : ks.length = vs.length := by rfl) (h0 : ks ≠ [] := by exact List.cons_ne_nil _ _) (h15 : ks.length ≤ 15 := by decide) : PN X (.Dict ks vs pos) (tDisp trs) E (fDisp fp) := ⟨pe_disp h.pps hall hl h0 h15, ev_disp h.ev⟩
end

/-! ### THE RULE for a def, its sizes as numerals -/
theorem def_ok2 {P : Program} {w : World} {K : PySem.W.Frag} {mg : Str → Option Value} {base : Heap} {x qual : Str} {st : Stmt} {f : Addr} {fd : FuncData} {N ps : List Str} {k nN np : Nat} {g : FS} (Fu : Fun K x qual st f fd) (S : FnScope N ps (defScope st)) (hN : N.length = nN) (hp : ps.length = np) (hn : np ≤ nN)
    (hb : ∀ (cdv : Value) (A : Around) (outer : List Env) (s : Shared) (H : Hp) (E : XK), Room k (A.deeper (envOfC qual (defScope st) s.heap.objs.size f cdv)) →
      ∃ t, PFb (cxOf (L2.CX P w) P w K mg base N qual (defScope st) f cdv A outer s H E) (defBody st) t (fun _ => E) g) :
    FnOk P w K mg base (L2.CX P w) (k + 1) f fd ps (spD K np (fnOf nN g)) := by
  subst hN hp
  exact def_ok Fu S hn hb
end DL

namespace DL
open PySem PySem.Spec PyProof.Rows L2

/-! ### running a meaning, by simp -/
section
variable {α β : Type} {m : M α} {f : α → M β} {k : α → FS} {ρ r : Rho} {a : α} {e : Xc} {x y : D} {i j : Int} {n : Nat} {g g1 g2 : FS} {v : Vl} {fa fb fe fo fi : M Vl} {gg : D → D → Option D}
@[simp] theorem e_bnd : M.bnd m f ρ = (match m ρ with | .ok a r => f a r | .exc e r => .exc e r | .bad => .bad) := rfl
@[simp] theorem e_sbnd : sBnd m k ρ = (match m ρ with | .ok a r => k a r | .exc e r => .exc e r | .bad => .bad) := rfl
@[simp] theorem e_seq : fSeq g1 g2 ρ = (match g1 ρ with | .nx r => g2 r | o => o) := rfl
@[simp] theorem e_next : fNext ρ = .nx ρ := rfl
@[simp] theorem e_ret : fRet fe ρ = sBnd fe (fun x => sBnd (fz x) fun y ρ => .rt y ρ) ρ := rfl
@[simp] theorem e_retN : fRetN ρ = .rt .non ρ := rfl
@[simp] theorem e_drop : fDrop fe ρ = sBnd fe (fun _ ρ => .nx ρ) ρ := rfl
@[simp] theorem e_ifs {ft : M Bool} : fIfS ft g1 g2 ρ = sBnd ft (fun b => if b = true then g1 else g2) ρ := rfl
@[simp] theorem e_brk : fBrk ρ = .bk ρ := rfl
@[simp] theorem e_cnt : fCnt ρ = .ct ρ := rfl
@[simp] theorem e_never : fNever ρ = .bad := rfl
@[simp] theorem e_raise {c : Addr} : fRaise c ρ = .exc ⟨c, none⟩ ρ := rfl
@[simp] theorem e_asg {fg : FG} : fAsg fg fe ρ = sBnd fe (fun x => sBnd (fz x) fun y ρ => match fg y ρ with | some r => .nx r | none => .bad) ρ := rfl
@[simp] theorem e_asgN {f : M D} : fAsgN n f ρ = sBnd f (fun m ρ => .nx (ρ.set n (.own m true))) ρ := rfl
@[simp] theorem e_ofN {f : M D} : fOfN f ρ = M.bnd f (fun m ρ => .ok (.d m) ρ) ρ := rfl
@[simp] theorem e_gn : gN n x ρ = some (ρ.set n (.d x)) := rfl
@[simp] theorem e_gsnil : gsNil [] ρ = some ρ := rfl
@[simp] theorem e_gscons {fg : FG} {gs : List D → Rho → Option Rho} {xs : List D} : gsCons fg gs (x :: xs) ρ = (match fg x ρ with | some ρ' => gs xs ρ' | none => none) := rfl
@[simp] theorem e_gt {gs : List D → Rho → Option Rho} {xs : List D} : gT n gs (.tup xs) ρ = if xs.length = n then gs xs ρ else none := rfl
@[simp] theorem e_fzd : fz (.d x) ρ = .ok x ρ := rfl
@[simp] theorem e_fzs : fz (.sl n) ρ = (match ρ[n]? with | some (.d m) => .ok m ρ | some (.own m true) => .ok m (ρ.set n (.d m)) | _ => .bad) := rfl
@[simp] theorem e_var : fVar n ρ = (match ρ[n]? with | some (.d x) => .ok (.d x) ρ | some (.own _ _) => .ok (.sl n) ρ | _ => .bad) := rfl
@[simp] theorem e_c : fC x ρ = .ok (.d x) ρ := rfl
@[simp] theorem e_lookd : look ρ (.d x) = some x := rfl
@[simp] theorem e_looks : look ρ (.sl n) = (match ρ[n]? with | some (.own m _) => some m | some (.d m) => some m | _ => none) := rfl
@[simp] theorem e_op : fOp gg fa fb ρ = M.bnd fa (fun x => M.bnd fb fun y => lift2 gg x y) ρ := rfl
@[simp] theorem e_un {g1 : D → Option D} : fUn g1 fa ρ = M.bnd fa (fun x => lift1 g1 x) ρ := rfl
@[simp] theorem e_lift2 {v w : Vl} : lift2 gg v w ρ = (match look ρ v, look ρ w with | some a, some b => (match gg a b with | some z => .ok (.d z) ρ | none => .bad) | _, _ => .bad) := rfl
@[simp] theorem e_lift1 {g1 : D → Option D} : lift1 g1 v ρ = (match look ρ v with | some a => (match g1 a with | some z => .ok (.d z) ρ | none => .bad) | _ => .bad) := rfl
@[simp] theorem e_nil : fNil ρ = .ok [] ρ := rfl
@[simp] theorem e_cons {fr : M (List Vl)} : fCons fa fr ρ = M.bnd fa (fun x => M.bnd fr fun xs ρ => .ok (x :: xs) ρ) ρ := rfl
@[simp] theorem e_fzl0 : fzL [] ρ = .ok [] ρ := rfl
@[simp] theorem e_fzl1 {vs : List Vl} : fzL (v :: vs) ρ = M.bnd (fz v) (fun y => M.bnd (fzL vs) fun ys ρ => .ok (y :: ys) ρ) ρ := rfl
@[simp] theorem e_tup {fr : M (List Vl)} : fTup fr ρ = M.bnd fr (fun xs => M.bnd (fzL xs) fun ys ρ => if ys.length ≤ 1000 then .ok (.d (.tup ys)) ρ else .bad) ρ := rfl
@[simp] theorem e_lst {fr : M (List Vl)} : fLst fr ρ = M.bnd fr (fun xs => M.bnd (fzL xs) fun ys ρ => if ys.length ≤ 1000 then .ok (.d (.lst ys)) ρ else .bad) ρ := rfl
@[simp] theorem e_lstN {fr : M (List Vl)} : fLstN fr ρ = M.bnd fr (fun xs => M.bnd (fzL xs) fun ys ρ => if ys.length ≤ 1000 then .ok (.lst ys) ρ else .bad) ρ := rfl
@[simp] theorem e_tru : fTru fa ρ = M.bnd fa (fun x ρ => match look ρ x with | some a => (match truD a with | some b => .ok b ρ | none => .bad) | none => .bad) ρ := rfl
@[simp] theorem e_fb : fB fa ρ = M.bnd fa (fun x ρ => match look ρ x with | some (.bl b) => .ok b ρ | _ => .bad) ρ := rfl
@[simp] theorem e_andT {t u : M Bool} : fAndT t u ρ = M.bnd t (fun a => if a = true then u else fun ρ => .ok false ρ) ρ := rfl
@[simp] theorem e_orT {t u : M Bool} : fOrT t u ρ = M.bnd t (fun a => if a = true then (fun ρ => .ok true ρ) else u) ρ := rfl
@[simp] theorem e_notT {t : M Bool} : fNotT t ρ = M.bnd t (fun a ρ => .ok (!a) ρ) ρ := rfl
@[simp] theorem e_andV : fAndV fa fb ρ = M.bnd (fB fa) (fun a => if a = true then fb else fC (.bl false)) ρ := rfl
@[simp] theorem e_orV : fOrV fa fb ρ = M.bnd (fB fa) (fun a => if a = true then fC (.bl true) else fb) ρ := rfl
@[simp] theorem e_notV : fNotV fa ρ = M.bnd (fB fa) (fun a => fC (.bl (!a))) ρ := rfl
@[simp] theorem e_if {t : M Bool} : fIf t fa fb ρ = M.bnd t (fun c => if c = true then fa else fb) ρ := rfl
@[simp] theorem e_for {fi : M (List D)} {fg : FG} : fFor fi fg g ρ = sBnd fi (fun xs => forL fg g xs) ρ := rfl
@[simp] theorem e_for0 {fg : FG} : forL fg g [] ρ = .nx ρ := rfl
@[simp] theorem e_cb {g : List D → Option D} {fr : M (List Vl)} : fCB g fr ρ = M.bnd fr (fun vs => liftL g vs) ρ := rfl
@[simp] theorem e_liftL {g : List D → Option D} {vs : List Vl} : liftL g vs ρ = (match lookL ρ vs with | some xs => (match g xs with | some z => .ok (.d z) ρ | none => .bad) | none => .bad) := rfl
@[simp] theorem e_lookL0 : lookL ρ [] = some [] := rfl
@[simp] theorem e_lookL1 {vs : List Vl} : lookL ρ (v :: vs) = (match look ρ v, lookL ρ vs with | some a, some as => some (a :: as) | _, _ => none) := rfl
@[simp] theorem e_cbn {g : List D → Option D} {fr : M (List Vl)} : fCBN g fr ρ = M.bnd fr (fun vs ρ => match lookL ρ vs with | some xs => (match g xs with | some m => .ok m ρ | none => .bad) | none => .bad) ρ := rfl
@[simp] theorem e_its {p : D → Option (List D)} : fItS fe p ρ = M.bnd fe (fun x => M.bnd (fz x) fun y ρ => match p y with | some xs => .ok xs ρ | none => .bad) ρ := rfl
@[simp] theorem e_pl {xs : List D} : pAny (.lst xs) = some xs := rfl
@[simp] theorem e_pt {xs : List D} : pAny (.tup xs) = some xs := rfl
@[simp] theorem e_pr {xs : List D} : pAny (.scr xs) = some xs := rfl
@[simp] theorem e_ps {z : Str} : pAny (.str z) = some (z.cps.toList.map fun c => .str ⟨#[c]⟩) := rfl
@[simp] theorem e_rng1 {fr : M (List Vl)} : fRng1 fr ρ = M.bnd fr (fun vs ρ => match vs with
  | [x] => (match look ρ x with
    | some (.int j) => if rngOk j = true then .ok (rngD 0 j.toNat) ρ else .bad
    | _ => .bad)
  | _ => .bad) ρ := rfl
@[simp] theorem e_rng2 {fr : M (List Vl)} : fRng2 fr ρ = M.bnd fr (fun vs ρ => match vs with
  | [x, y] => (match look ρ x, look ρ y with
    | some (.int i), some (.int j) => if rngOk i = true ∧ rngOk j = true then .ok (rngD i (j - i).toNat) ρ else .bad
    | _, _ => .bad)
  | _ => .bad) ρ := rfl
@[simp] theorem e_call {np : Nat} {ms : List Bool} {fn : Fn} {fr : M (List Vl)} : fCall np ms fn fr ρ = M.bnd fr (fun vs => M.bnd (passF ms vs) fun ps => if ps.length = np then M.bnd (runFn fn ps) (fun x ρ => .ok (.d x) ρ) else fun _ => .bad) ρ := rfl
@[simp] theorem e_pass0 : passF [] [] ρ = .ok [] ρ := rfl
@[simp] theorem e_passF {ms : List Bool} {vs : List Vl} : passF (false :: ms) (v :: vs) ρ = M.bnd (fz v) (fun x => M.bnd (passF ms vs) fun ps ρ => .ok (.d x :: ps) ρ) ρ := rfl
@[simp] theorem e_passT {ms : List Bool} {vs : List Vl} : passF (true :: ms) (.sl n :: vs) ρ = M.bnd (passF ms vs) (fun ps ρ => .ok (.sl n :: ps) ρ) ρ := rfl
@[simp] theorem e_runFn {fn : Fn} {ps : List Pa} : runFn fn ps ρ = (match argsSl ρ ps with
  | none => .bad
  | some ρa => if (slots ps).Nodup then (match fn ρa with
    | .ok x r => .ok x (putOuts r 0 ps ρ)
    | .exc e _ => if (slots ps).isEmpty = true then .exc e ρ else .bad
    | .bad => .bad) else .bad) := rfl
@[simp] theorem e_args0 : argsSl ρ [] = some [] := rfl
@[simp] theorem e_args1 {p : Pa} {ps : List Pa} : argsSl ρ (p :: ps) = (match argSl ρ p, argsSl ρ ps with | some s, some r => some (s :: r) | _, _ => none) := rfl
@[simp] theorem e_argd : argSl ρ (.d x) = some (.d x) := rfl
@[simp] theorem e_args : argSl ρ (.sl n) = (match ρ[n]? with | some (.own m _) => some (.own m false) | _ => none) := rfl
@[simp] theorem e_sl0 : slots [] = [] := rfl
@[simp] theorem e_sld {ps : List Pa} : slots (.d x :: ps) = slots ps := rfl
@[simp] theorem e_sls {ps : List Pa} : slots (.sl n :: ps) = n :: slots ps := rfl
@[simp] theorem e_put0 {k : Nat} : putOuts r k [] ρ = ρ := rfl
@[simp] theorem e_putd {k : Nat} {ps : List Pa} : putOuts r k (.d x :: ps) ρ = putOuts r (k + 1) ps ρ := rfl
@[simp] theorem e_puts {k : Nat} {ps : List Pa} : putOuts r k (.sl n :: ps) ρ = putOuts r (k + 1) ps (match r[k]?, ρ[n]? with | some (.own m _), some (.own _ l) => ρ.set n (.own m l) | _, _ => ρ) := rfl
@[simp] theorem e_ownAts : ownAt ρ (.sl n) = (match ρ[n]? with | some (.own m l) => some (n, m, l) | _ => none) := rfl
@[simp] theorem e_ownAtd : ownAt ρ (.d x) = none := rfl
@[simp] theorem e_withL {o : Vl} {k : M Vl} : withL o k ρ = if ownL ρ o = true then k ρ else .bad := rfl
@[simp] theorem e_ownL {o : Vl} : ownL ρ o = (match ownAt ρ o with | some (_, .lst _, _) => true | _ => false) := rfl
@[simp] theorem e_append {fr : M (List Vl)} : fAppend fo fr ρ = M.bnd fo (fun o => withL o (M.bnd fr fun vs => match vs with
  | [x] => M.bnd (fz x) fun y ρ => match ownAt ρ o with
    | some (i, .lst xs, l) => if xs.length < 1000000 then .ok (.d .non) (ρ.set i (.own (.lst (xs ++ [y])) l)) else .bad
    | _ => .bad
  | _ => fun _ => .bad)) ρ := rfl
@[simp] theorem e_extend {fr : M (List Vl)} : fExtend fo fr ρ = M.bnd fo (fun o => withL o (M.bnd fr fun vs => match vs with
  | [x] => fun ρ => match ownAt ρ o, look ρ x with
    | some (i, .lst xs, l), some (.lst ys) => if xs.length + ys.length ≤ 1000000 then .ok (.d .non) (ρ.set i (.own (.lst (xs ++ ys)) l)) else .bad
    | _, _ => .bad
  | _ => fun _ => .bad)) ρ := rfl
@[simp] theorem e_put : fPut fe fo fi ρ = sBnd fe (fun x => sBnd (fz x) fun y => sBnd fo fun o => sBnd fi fun k ρ => match ownAt ρ o, look ρ k with
  | some (i, m, l), some kd => (match putD m kd y with
    | some m' => .nx (ρ.set i (.own m' l))
    | none => .bad)
  | _, _ => .bad) ρ := rfl
@[simp] theorem e_dict : fDict x ρ = .ok x ρ := rfl
@[simp] theorem e_nopart : fNoPart ρ = .ok none ρ := rfl
@[simp] theorem e_fld {f : Str} : fFld f fo ρ = M.bnd fo (fun x => lift1 (gFld f) x) ρ := rfl
@[simp] theorem e_gfld {f : Str} {C : Addr} {gs : List (Str × D)} : gFld f (.ins C gs) = gs.lookup f := rfl
@[simp] theorem e_fldset {C0 : Addr} {f : Str} : fFldSet C0 f fo fe ρ = sBnd fe (fun x => sBnd (fz x) fun y => sBnd fo fun o ρ => match ownAt ρ o with
  | some (i, .ins C gs, l) => if C = C0 ∧ gs.length < 1000 then .nx (ρ.set i (.own (.ins C (putG f y gs)) l)) else .bad
  | _ => .bad) ρ := rfl
@[simp] theorem e_aug {g : D → D → Option D} : fAug n g fe ρ = (match ρ[n]? with
  | some (.d x) => sBnd fe (fun y ρ => match look ρ y with
    | some b => (match g x b with
      | some z => .nx (ρ.set n (.d z))
      | none => .bad)
    | none => .bad) ρ
  | _ => .bad) := rfl
@[simp] theorem e_chain {g g' : D → D → Option D} {fc : M Vl} : fChain g g' fa fb fc ρ = M.bnd fa (fun x => M.bnd fb fun y => M.bnd (lift2 g x y) fun z ρ => match z with
  | .d (.bl k) => if k = true then M.bnd fc (fun w => lift2 g' y w) ρ else .ok (.d (.bl false)) ρ
  | _ => .bad) ρ := rfl
theorem rngOk_nat {n : Nat} (h : n ≤ 1000000) : rngOk (n : Int) = true := Nat.ble_eq_true_of_le (Nat.le_trans h (by decide))
theorem rngOk_of {j : Int} (h1 : 0 ≤ j) (h2 : j ≤ 1000000) : rngOk j = true := by
  cases j with
  | ofNat n => exact rngOk_nat (by have e : Int.ofNat n = (n : Int) := rfl; rw [e] at h2; omega)
  | negSucc n => omega
@[simp] theorem rngOk_lit {n : Nat} : rngOk (no_index (OfNat.ofNat n)) = Nat.ble n 4611686018427387903 := rfl
@[simp] theorem e_meth {C0 : Addr} {m : Str} {np : Nat} {ms : List Bool} {fn : Fn} {fr : M (List Vl)} : fMeth C0 m np ms fn fo fr ρ = M.bnd fo (fun o ρ =>
  if insOf m ρ o = some C0 then (M.bnd fr fun vs => M.bnd (passF ms (o :: vs)) fun ps => if ps.length = np then M.bnd (runFn fn ps) (fun x ρ => .ok (.d x) ρ) else fun _ => .bad) ρ else .bad) ρ := rfl
@[simp] theorem e_make {C0 : Addr} {np : Nat} {ms : List Bool} {fn : Fn} {fr : M (List Vl)} : fMake C0 np ms fn fr ρ = M.bnd fr (fun vs => M.bnd (passF ms vs) fun ps ρ =>
  match argsSl ρ ps with
  | none => .bad
  | some ρa => if (slots ps).Nodup ∧ ps.length + 1 = np then (match fn (Sl.own (.ins C0 []) false :: ρa) with
    | .ok .non r => (match r[0]? with
      | some (Sl.own m _) => .ok m (putOuts r 1 ps ρ)
      | _ => .bad)
    | .exc e _ => if (slots ps).isEmpty = true then .exc e ρ else .bad
    | _ => .bad) else .bad) ρ := rfl
theorem e_insOf {m : Str} {C0 : Addr} {gs : List (Str × D)} (h : gs.lookup m = none) : insOf m ρ (.d (.ins C0 gs)) = some C0 := if_pos h
@[simp] theorem e_lc {fi : M (List D)} {fg : FG} {ft : M Bool} {vs : List Nat} : fLc fi fg ft fe vs ρ = M.bnd fi (fun xs ρ => match lcF fg ft fe vs xs [] (wipeR ρ vs) with
  | .ok ys r => .ok (.lst ys) (backR r ρ vs)
  | .exc _ _ => .bad
  | .bad => .bad) ρ := rfl
@[simp] theorem e_kd {tbl : List (Str × D)} : fKd tbl fi ρ = M.bnd fi (fun k ρ => match look ρ k with
  | some (.str z) => (match tbl.lookup z with
    | some y => .ok (.d y) ρ
    | none => .bad)
  | _ => .bad) ρ := rfl
/-! arithmetic -/
@[simp] theorem e_add : gAdd (.int i) (.int j) = some (.int (i + j)) := rfl
@[simp] theorem e_sub : gSub (.int i) (.int j) = some (.int (i - j)) := rfl
@[simp] theorem e_mul : gMul (.int i) (.int j) = if cMul i j = true then some (.int (i * j)) else none := rfl
@[simp] theorem e_div : gDiv (.int i) (.int j) = if cDiv i j = true then some (.int (i / j)) else none := rfl
@[simp] theorem e_mod : gMod (.int i) (.int j) = if cMod i j = true then some (.int (i % j)) else none := rfl
@[simp] theorem e_pow : gPow (.int i) (.int j) = if cPow i j = true then some (.int (i ^ j.toNat)) else none := rfl
@[simp] theorem e_cdiv : cDiv i j = decide (0 < j ∧ j < 1073741824) := rfl
@[simp] theorem e_cmod : cMod i j = decide (0 < j) := rfl
@[simp] theorem e_cpow : cPow i j = decide (0 ≤ j ∧ j ≤ 1000000 ∧ i.natAbs < 2 ^ 64) := rfl
@[simp] theorem e_lt : gLt (.int i) (.int j) = some (.bl (decide (i < j))) := rfl
@[simp] theorem e_le : gLe (.int i) (.int j) = some (.bl (decide (i ≤ j))) := rfl
@[simp] theorem e_gt' : gGt (.int i) (.int j) = some (.bl (decide (j < i))) := rfl
@[simp] theorem e_ge : gGe (.int i) (.int j) = some (.bl (decide (j ≤ i))) := rfl
@[simp] theorem e_neg : gNeg (.int i) = some (.int (-i)) := rfl
@[simp] theorem e_eqI : gEq (.int i) (.int j) = some (.bl (i == j)) := rfl
@[simp] theorem e_neI : gNe (.int i) (.int j) = some (.bl (!(i == j))) := rfl
@[simp] theorem e_addI : gAddI (.int i) (.int j) = some (.int (i + j)) := rfl
@[simp] theorem e_subI : gSubI (.int i) (.int j) = some (.int (i - j)) := rfl
@[simp] theorem e_truI : truD (.int i) = some (i != 0) := rfl
@[simp] theorem e_truB {b : Bool} : truD (.bl b) = some b := rfl
@[simp] theorem e_lenL {xs : List D} : gLen [.lst xs] = some (.int xs.length) := rfl
@[simp] theorem e_lenT {xs : List D} : gLen [.tup xs] = some (.int xs.length) := rfl
@[simp] theorem e_lenR {xs : List D} : gLen [.scr xs] = some (.int xs.length) := rfl
@[simp] theorem e_lenD {xs : List (Key × D)} : gLen [.dK xs] = some (.int xs.length) := rfl
@[simp] theorem e_intI : gInt [.int i] = some (.int i) := rfl
@[simp] theorem e_abs : gAbs [.int i] = some (.int (if i < 0 then -i else i)) := rfl
@[simp] theorem e_tupL {xs : List D} : gTuple [.lst xs] = some (.tup xs) := rfl
@[simp] theorem e_listL {xs : List D} : gList [.lst xs] = some (.lst xs) := rfl
@[simp] theorem e_listT {xs : List D} : gList [.tup xs] = some (.lst xs) := rfl
theorem ixA_lst {xs : List D} {n : Nat} {x : D} (h : xs[n]? = some x) : gIxA (.lst xs) (.int n) = some x := by
  unfold gIxA gOr
  rw [show gIx (.lst xs) (.int n) = some x from L2.atI_nat h]
theorem ixA_tup {xs : List D} {n : Nat} {x : D} (h : xs[n]? = some x) : gIxA (.tup xs) (.int n) = some x := by
  unfold gIxA gOr
  rw [show gIx (.tup xs) (.int n) = some x from L2.atI_nat h]
theorem ixA_scr {xs : List D} {n : Nat} {x : D} (h : xs[n]? = some x) : gIxA (.scr xs) (.int n) = some x := by
  unfold gIxA gOr
  rw [show gIx (.scr xs) (.int n) = some x from L2.atI_nat h]
/-- one turn of a loop -/
theorem for_step {fg : FG} {xs : List D} {r' : Rho} (h1 : fg x ρ = some r) (h2 : g r = .nx r') : forL fg g (x :: xs) ρ = forL fg g xs r' := by
  show (match fg x ρ with | none => _ | some r => _) = _
  rw [h1]
  simp only [h2]
/-- a loop that keeps an invariant -/
theorem for_inv {fg : FG} {I : Nat → Rho → Prop} : ∀ (xs : List D) (i0 : Nat) (ρ : Rho), (∀ (i : Nat) (x : D) (ρ : Rho), xs[i]? = some x → I (i0 + i) ρ → ∃ r r', fg x ρ = some r ∧ (g r = .nx r' ∨ g r = .ct r') ∧ I (i0 + i + 1) r') → I i0 ρ → ∃ r, forL fg g xs ρ = .nx r ∧ I (i0 + xs.length) r
  | [], i0, ρ, _, hI => ⟨ρ, rfl, hI⟩
  | x :: xs, i0, ρ, h, hI => by
    obtain ⟨r, r', e1, e2, hI'⟩ := h 0 x ρ rfl hI
    obtain ⟨q, e3, hq⟩ := for_inv (I := I) xs (i0 + 1) r' (fun i y ρ' hy hi => by
      obtain ⟨a, b, c, d, e⟩ := h (i + 1) y ρ' (by simpa using hy) (by rw [show i0 + (i + 1) = i0 + 1 + i by omega]; exact hi)
      exact ⟨a, b, c, d, by rw [show i0 + 1 + i + 1 = i0 + (i + 1) + 1 by omega]; exact e⟩) hI'
    refine ⟨q, ?_, by rw [List.length_cons, show i0 + (xs.length + 1) = i0 + 1 + xs.length by omega]; exact hq⟩
    show (match fg x ρ with | none => _ | some r => _) = _
    rw [e1]
    rcases e2 with e2 | e2 <;> (simp only [e2]; exact e3)
theorem rngD_get {lo : Int} {n i : Nat} {x : D} (h : (rngD lo n)[i]? = some x) : i < n ∧ x = .int (lo + i) := by
  unfold rngD at h
  rw [List.getElem?_map] at h
  by_cases hi : i < n
  · rw [List.getElem?_range hi] at h
    simp at h
    exact ⟨hi, h.symm⟩
  · rw [List.getElem?_eq_none (by simpa using hi)] at h
    cases h
@[simp] theorem rngD_len {lo : Int} {n : Nat} : (rngD lo n).length = n := by simp [rngD]
@[simp high] theorem e_1018 : fOp gPow (fC (.int 10)) (fC (.int 18)) ρ = .ok (.d (.int 1000000000000000000)) ρ := rfl
/-! slices -/
@[simp] theorem e_sl {fl fh : M (Option Int)} : fSl fe fl fh ρ = M.bnd fe (fun x => M.bnd fl fun lo => M.bnd fh fun hi ρ => match look ρ x with
  | some a => (match gSl a lo hi with
    | some z => .ok (.d z) ρ
    | none => .bad)
  | none => .bad) ρ := rfl
@[simp] theorem e_part : fPart fe ρ = M.bnd fe (fun x ρ => match look ρ x with | some (.int i) => .ok (some i) ρ | _ => .bad) ρ := rfl
@[simp] theorem e_gslL {xs : List D} {lo hi : Option Int} : gSl (.lst xs) lo hi = some (.lst (cutD xs lo hi)) := rfl
@[simp] theorem e_gslT {xs : List D} {lo hi : Option Int} : gSl (.tup xs) lo hi = some (.tup (cutD xs lo hi)) := rfl
@[simp] theorem e_gslR {xs : List D} {lo hi : Option Int} : gSl (.scr xs) lo hi = some (.lst (cutD xs lo hi)) := rfl
theorem cut_to {xs : List D} {k : Nat} : cutD xs none (some (k : Int)) = xs.take k := by
  unfold cutD
  rw [HT.sIx_none, HT.sIx_nat, List.drop_zero, Nat.sub_zero]
  exact (List.take_eq_take_min (l := xs) (i := k)).symm
@[simp] theorem cut_toL {xs : List D} {k : Nat} : cutD xs none (some (no_index (OfNat.ofNat k))) = xs.take k := cut_to
theorem cut_from {xs : List D} {k : Nat} : cutD xs (some (k : Int)) none = xs.drop k := by
  unfold cutD
  rw [HT.sIx_none, HT.sIx_nat]
  by_cases h : k ≤ xs.length
  · rw [Nat.min_eq_left h]
    exact List.take_of_length_le (by rw [List.length_drop]; omega)
  · rw [Nat.min_eq_right (by omega), List.drop_of_length_le (Nat.le_refl _), List.drop_of_length_le (by omega)]; simp
@[simp] theorem cut_fromL {xs : List D} {k : Nat} : cutD xs (some (no_index (OfNat.ofNat k))) none = xs.drop k := cut_from
theorem cut_ft {xs : List D} {k m : Nat} : cutD xs (some (k : Int)) (some (m : Int)) = (xs.take m).drop k := by
  unfold cutD
  rw [HT.sIx_nat, HT.sIx_nat, List.drop_take]
  by_cases h : k ≤ xs.length
  · rw [Nat.min_eq_left h]
    by_cases h2 : m ≤ xs.length
    · rw [Nat.min_eq_left h2]
    · rw [Nat.min_eq_right (by omega), List.take_of_length_le (by rw [List.length_drop]; omega), List.take_of_length_le (by rw [List.length_drop]; omega)]
  · rw [List.drop_of_length_le (l := xs) (i := k) (by omega), show min k xs.length = xs.length from Nat.min_eq_right (by omega), List.drop_of_length_le (Nat.le_refl _)]; simp
/-! the order of sorted -/
theorem ltD_irrefl {n : Nat} (a : D) : ltD n a a = false := lex_irrefl _
theorem leD_trans {n : Nat} (a b c : D) (h1 : leD n a b = true) (h2 : leD n b c = true) : leD n a c = true := by
  unfold leD at *
  cases h : ltD n c a with
  | false => rfl
  | true =>
    have h1 : ltD n b a = false := by simpa using h1
    have h2 : ltD n c b = false := by simpa using h2
    rcases lex_negTrans (O := itemOrd) _ (PySem.W.keyToks (pyN n b)) _ h with q | q
    · have : ltD n c b = true := q
      rw [h2] at this; cases this
    · have : ltD n b a = true := q
      rw [h1] at this; cases this
theorem leD_total {n : Nat} (a b : D) : (leD n a b || leD n b a) = true := by
  unfold leD
  cases h : ltD n b a with
  | false => rfl
  | true =>
    cases h2 : ltD n a b with
    | false => rfl
    | true =>
      have : ltD n a a = true := lex_trans _ _ _ h2 h
      rw [ltD_irrefl] at this; cases this
theorem sortD_pairwise {n : Nat} (xs : List D) : (xs.mergeSort (leD n)).Pairwise fun a b => leD n a b = true := List.pairwise_mergeSort leD_trans leD_total xs
theorem sort_strs {xs ys : List Str} (hp : ys.Perm xs) (hs : ys.Pairwise fun a b => (!decide (b.cps.toList < a.cps.toList)) = true) : (xs.map D.str).mergeSort (leD 39) = ys.map D.str := by
  have lt : ∀ a b : Str, ltD 39 (.str a) (.str b) = decide (a.cps.toList < b.cps.toList) := fun a b => PySem.W.dataLt_str a b
  refine List.Perm.eq_of_pairwise (le := fun a b => leD 39 a b = true) (fun a b ha hb h1 h2 => ?_) (sortD_pairwise _) (List.pairwise_map.mpr (hs.imp fun {a b} h => ?_)) ((List.mergeSort_perm _ _).trans (hp.symm.map _))
  · obtain ⟨x, _, rfl⟩ := List.mem_map.mp (List.mem_mergeSort.mp ha)
    obtain ⟨y, _, rfl⟩ := List.mem_map.mp hb
    unfold leD at h1 h2
    rw [lt] at h1 h2
    have h1 : ¬ y.cps.toList < x.cps.toList := by simpa using h1
    have h2 : ¬ x.cps.toList < y.cps.toList := by simpa using h2
    have : x.cps.toList = y.cps.toList := List.le_antisymm (List.not_lt.mp h1) (List.not_lt.mp h2)
    rw [PySem.W.str_of_cps this]
  · show (!ltD 39 (.str b) (.str a)) = true
    rw [lt]; exact h
/-! == -/
theorem all2_refl {f : D → D → Bool} : ∀ {xs : List D}, (∀ x ∈ xs, f x x = true) → all2 f xs xs = true
  | [], _ => rfl
  | x :: xs, h => by
    show (f x x && all2 f xs xs) = true
    rw [h x List.mem_cons_self, all2_refl fun y hy => h y (List.mem_cons_of_mem _ hy)]; rfl
theorem deq_refl : ∀ {n : Nat} {x : D}, good n x = true → deqN n x x = true
  | 0, x, h => by
    cases x <;> first | (simp [good] at h; done) | simp [deqN]
  | n + 1, x, h => by
    cases x with
    | tup xs =>
      have h' : ∀ y ∈ xs, good n y = true := by simpa [good] using h
      exact all2_refl fun y hy => deq_refl (h' y hy)
    | lst xs =>
      have h' : ∀ y ∈ xs, good n y = true := by simpa [good] using h
      exact all2_refl fun y hy => deq_refl (h' y hy)
    | _ => first | (simp [good] at h; done) | simp [deqN]
theorem gEq_refl {x : D} (h : good 40 x = true) : gEq x x = some (.bl true) := by
  unfold gEq
  rw [if_pos ⟨h, h⟩, show deq x x = true from deq_refl h]
theorem good_sorted {xs : List D} {n k : Nat} (h : ∀ x ∈ xs, good n x = true) : good (n + 1) (.lst (xs.mergeSort (leD k))) = true := by
  show (xs.mergeSort (leD k)).all (good n) = true
  rw [List.all_eq_true]
  exact fun x hx => h x (List.mem_mergeSort.mp hx)
/-! ### results, told by a wish -/
inductive NxI (P : Rho → Prop) : Oc → Prop
  | nx {r : Rho} : P r → NxI P (.nx r)
  | ct {r : Rho} : P r → NxI P (.ct r)
inductive GoI (P : Rho → Prop) : Option Rho → Prop
  | mk {r : Rho} : P r → GoI P (some r)
inductive OkI (P : D → Rho → Prop) : R D → Prop
  | mk {x : D} {r : Rho} : P x r → OkI P (.ok x r)
@[simp] theorem nxi_nx {P : Rho → Prop} : NxI P (.nx ρ) ↔ P ρ := ⟨fun h => by cases h; assumption, .nx⟩
@[simp] theorem nxi_ct {P : Rho → Prop} : NxI P (.ct ρ) ↔ P ρ := ⟨fun h => by cases h; assumption, .ct⟩
@[simp] theorem goi_some {P : Rho → Prop} : GoI P (some ρ) ↔ P ρ := ⟨fun h => by cases h; assumption, .mk⟩
@[simp] theorem oki_ok {P : D → Rho → Prop} : OkI P (.ok x ρ) ↔ P x ρ := ⟨fun h => by cases h; assumption, .mk⟩
theorem OkI.ex {P : D → Rho → Prop} {o : R D} (h : OkI P o) : ∃ x r, o = .ok x r ∧ P x r := by
  cases h with
  | mk h => exact ⟨_, _, rfl, h⟩
theorem for_wish {fg : FG} {I : Nat → Rho → Prop} (xs : List D) (ρ : Rho) (h : ∀ (i : Nat) (x : D) (ρ : Rho), xs[i]? = some x → I i ρ → GoI (fun r => NxI (I (i + 1)) (g r)) (fg x ρ)) (h0 : I 0 ρ) : ∃ r, forL fg g xs ρ = .nx r ∧ I xs.length r := by
  have := for_inv (g := g) (fg := fg) (I := I) xs 0 ρ (fun i x ρ hx hI => by
    have q := h i x ρ hx (by rwa [Nat.zero_add] at hI)
    cases e : fg x ρ with
    | none => rw [e] at q; cases q
    | some r =>
      rw [e, goi_some] at q
      cases e2 : g r with
      | nx r' => rw [e2, nxi_nx] at q; exact ⟨r, r', rfl, .inl e2, by rw [Nat.zero_add]; exact q⟩
      | ct r' => rw [e2, nxi_ct] at q; exact ⟨r, r', rfl, .inr e2, by rw [Nat.zero_add]; exact q⟩
      | _ => rw [e2] at q; cases q) h0
  simpa using this
end
end DL

namespace DL
open PySem PySem.Spec PyProof.Rows L2

/-! ### methods of texts -/
def PM (K : PySem.W.Frag) (r : V → List V → Hp → VK → Prop) (g : D → List D → Option D) : Prop := ∀ (F H : Hp) (v : V) (vs : List V) (a : D) (as : List D) (z : D) (Q : VK), Ex F H → RepH K F H v a → RepHL K F H vs as → g a as = some z →
  (∀ F' H' u, Alloc F H F' H' → Rep K F' u z → Q u H') → r v vs H Q
def liftM (g : D → List D → Option D) (o : Vl) (vls : List Vl) : M Vl := fun ρ => match look ρ o, lookL ρ vls with
  | some a, some xs => (match g a xs with
    | some z => .ok (.d z) ρ
    | none => .bad)
  | _, _ => .bad
def isStr (ρ : Rho) (o : Vl) : Bool := match look ρ o with
  | some (.str _) => true
  | _ => false
def fM (g : D → List D → Option D) (fo : M Vl) (fa : M (List Vl)) : M Vl := M.bnd fo fun o ρ => if isStr ρ o = true then M.bnd fa (fun vs => liftM g o vs) ρ else .bad
section
variable {K : PySem.W.Frag} {E : XW} {to te : TE} {ta : TA} {fo fe : M Vl} {fa : M (List Vl)} {r : V → List V → Hp → VK → Prop} {g : D → List D → Option D}
theorem isStr_ok {C : Ctx} {F H : Hp} {σ : L2.St} {ρ : Rho} {v : V} {o : Vl} (ok : Ok C F H σ ρ) (h : VlOk C F σ ρ v o) (e : isStr ρ o = true) : ∃ a, v = .str a := by
  unfold isStr at e
  cases e1 : look ρ o with
  | none => rw [e1] at e; cases e
  | some a =>
    rw [e1] at e
    cases a with
    | str z => exact ⟨z, (h.read ok e1).str⟩
    | _ => cases e
theorem liftM_ok {C : Ctx} {F H : Hp} {σ : L2.St} {ρ : Rho} {v : V} {vs : List V} {o : Vl} {vls : List Vl} {Q : VK} (p : PM C.K r g) (ok : Ok C F H σ ρ) (hv : VlOk C F σ ρ v o) (hs : VlsOk C F σ ρ vs vls) (h : PostE C E σ ρ F H Q (liftM g o vls ρ)) : r v vs H Q := by
  unfold liftM at h
  cases e1 : look ρ o with
  | none => simp only [e1] at h; exact h.elim
  | some a =>
    cases e2 : lookL ρ vls with
    | none => simp only [e1, e2] at h; exact h.elim
    | some xs =>
      simp only [e1, e2] at h
      cases e3 : g a xs with
      | none => simp only [e3] at h; exact h.elim
      | some z =>
        simp only [e3] at h
        exact p F H v vs a xs z Q ok.sub (hv.read ok e1) (VlsOk.read ok hs e2) e3 fun F' H' u al rp => h F' H' u (ok.alloc al) (.of_alloc al) rp
theorem ev_m1 (p : PM K r g) (ho : EvE K E to fo) (he : EvE K E te fe) : EvE K E (tM1 r to te) (fM g fo (fCons fe fNil)) := by
  intro C F H σ ρ Q hK ok h
  subst hK
  refine ho C F H σ ρ _ rfl ok (Post.bnd h fun o r1 F1 H1 v e1 ok1 st1 vo1 h1 => ?_)
  by_cases hs : isStr r1 o = true
  · rw [if_pos hs] at h1
    refine ⟨isStr_ok ok1 vo1 hs, ?_⟩
    have hc := ev_cons (E := E) he (ev_nil (K := C.K) (E := E))
    have := hc C F1 H1 σ r1 (fun vs H2 => r v vs H2 Q) rfl ok1 (Post.bnd h1 fun vs r2 F2 H2 us e2 ok2 st2 vo2 h2 => liftM_ok p ok2 (vo1.step st2) vo2 h2)
    exact this
  · rw [if_neg hs] at h1; exact h1.elim
theorem ev_m0 (p : PM K r g) (ho : EvE K E to fo) : EvE K E (tM0 r to) (fM g fo fNil) := by
  intro C F H σ ρ Q hK ok h
  subst hK
  refine ho C F H σ ρ _ rfl ok (Post.bnd h fun o r1 F1 H1 v e1 ok1 st1 vo1 h1 => ?_)
  by_cases hs : isStr r1 o = true
  · rw [if_pos hs] at h1
    exact ⟨isStr_ok ok1 vo1 hs, liftM_ok (vs := []) (vls := []) p ok1 vo1 .nil h1⟩
  · rw [if_neg hs] at h1; exact h1.elim
theorem ev_mN (p : PM K r g) (ho : EvE K E to fo) (ha : EvA K E ta fa) : EvE K E (tBM K "str" r to ta) (fM g fo fa) := by
  intro C F H σ ρ Q hK ok h
  subst hK
  refine ho C F H σ ρ _ rfl ok (Post.bnd h fun o r1 F1 H1 v e1 ok1 st1 vo1 h1 => ?_)
  by_cases hs : isStr r1 o = true
  · rw [if_pos hs] at h1
    obtain ⟨z, rfl⟩ := isStr_ok ok1 vo1 hs
    exact ⟨rfl, ha C F1 H1 σ r1 _ rfl ok1 (Post.bnd h1 fun vs r2 F2 H2 us e2 ok2 st2 vo2 h2 => liftM_ok p ok2 (vo1.step st2) vo2 h2)⟩
  · rw [if_neg hs] at h1; exact h1.elim
end
section
variable {X : Cx} {E : XW} {o e : Expr} {es : List Expr} {to te : TE} {ta : TA} {fo fe : M Vl} {fa : M (List Vl)} {r : V → List V → Hp → VK → Prop} {g : D → List D → Option D} {id : String} {name : Str} {apos pos cpos : Pos}
theorem pf_m1 (slot : Slot "str" name id) (ty : typeOf (.builtin id) = pure (.type "method_descriptor")) (rule : MtR X id r) (p : PM X.K r g) (ho : PF X o to E fo) (he : PF X e te E fe)
    (hs : starEach [e] X.env = [(false, eval e X.env)] := by rfl) (hbase : attributeBase o name X.env (eval o X.env) = eval o X.env := by rfl) (hline : (apos.endLine == pos.line) = true := by rfl) :
    PF X (.Call (.Attribute o name apos) [e] [] pos) (tM1 r to te) E (fM g fo (fCons fe fNil)) := ⟨pe_m1 slot ty rule ho.pe he.pe hs hbase hline, ev_m1 p ho.ev he.ev⟩
theorem pf_m0 (slot : Slot "str" name id) (ty : typeOf (.builtin id) = pure (.type "method_descriptor")) (rule : MtR X id r) (p : PM X.K r g) (ho : PF X o to E fo)
    (hbase : attributeBase o name X.env (eval o X.env) = eval o X.env := by rfl) (hline : (apos.endLine == pos.line) = true := by rfl) :
    PF X (.Call (.Attribute o name apos) [] [] pos) (tM0 r to) E (fM g fo fNil) := ⟨pe_m0 slot ty rule ho.pe hbase hline, ev_m0 p ho.ev⟩
end
section
variable {K : PySem.W.Frag} {F H : Hp}
def gFind : D → List D → Option D
  | .str a, [.str b] => some (.int (Txt.find a b))
  | _, _ => none
theorem p_find : PM K (fun x xs H Q => ∃ a b, x = .str a ∧ xs = [.str b] ∧ Q (.int (Txt.find a b)) H) gFind := by
  intro F H v vs a as z Q e ha hs hz q
  unfold gFind at hz
  split at hz
  · obtain ⟨w, rfl, h⟩ := hs.one
    cases hz
    cases ha.str; cases h.str
    exact ⟨_, _, rfl, rfl, q F H _ .refl (.int _)⟩
  · cases hz
def gFind3 : D → List D → Option D
  | .str a, [.str b, .int i] => some (.int (Txt.find3 a b i))
  | _, _ => none
theorem p_find3 : PM K (fun x xs H Q => ∃ (a b : Str) (i : Int), x = .str a ∧ xs = [.str b, .int i] ∧ Q (.int (Txt.find3 a b i)) H) gFind3 := by
  intro F H v vs a as z Q e ha hs hz q
  unfold gFind3 at hz
  split at hz
  · obtain ⟨w, u, rfl, h, h2⟩ := hs.two
    cases hz
    cases ha.str; cases h.str; cases h2.int
    exact ⟨_, _, _, rfl, rfl, q F H _ .refl (.int _)⟩
  · cases hz
def gCount : D → List D → Option D
  | .str a, [.str b] => some (.int (Txt.count a b))
  | _, _ => none
theorem p_count : PM K (fun x xs H Q => ∃ a b, x = .str a ∧ xs = [.str b] ∧ Q (.int (Txt.count a b)) H) gCount := by
  intro F H v vs a as z Q e ha hs hz q
  unfold gCount at hz
  split at hz
  · obtain ⟨w, rfl, h⟩ := hs.one
    cases hz
    cases ha.str; cases h.str
    exact ⟨_, _, rfl, rfl, q F H _ .refl (.int _)⟩
  · cases hz
def strsL : List D → Option (List Str)
  | [] => some []
  | .str b :: xs => (strsL xs).map (b :: ·)
  | _ => none
theorem strs_rep : ∀ {vs : List V} {xs : List D} {bs : List Str}, RepL K F vs xs → strsL xs = some bs → vs = bs.map V.str
  | _, [], _, .nil, e => by cases e; rfl
  | _, x :: xs, bs, .cons r t, e => by
    cases x with
    | str b =>
      simp only [strsL] at e
      cases e2 : strsL xs with
      | none => rw [e2] at e; cases e
      | some cs =>
        rw [e2] at e; cases e
        cases r
        rw [strs_rep t e2]; rfl
    | _ => cases e
theorem strsL_map {α : Type} (f : α → Str) (l : List α) : strsL (l.map fun x => D.str (f x)) = some (l.map f) := by
  induction l with
  | nil => rfl
  | cons x l ih => simp only [List.map_cons, strsL, ih, Option.map_some]
def joinOk (a : Str) (ys : List Str) : Bool := decide ((ys.map (·.length)).sum + ys.length * a.length ≤ 1000000)
def gJoin : D → List D → Option D
  | .str a, [.lst xs] => match strsL xs with
    | some ys => if joinOk a ys = true then some (.str (Txt.join a ys)) else none
    | none => none
  | _, _ => none
theorem p_join : PM K (fun x xs H Q => ∃ a p, ∃ ys : List Str, x = .str a ∧ xs = [.ref p] ∧ (SqL K H p (ys.map V.str) ∨ SqT K H p (ys.map V.str)) ∧
    (ys.map (·.length)).sum + ys.length * a.length ≤ 16777216 ∧ Q (.str (Txt.join a ys)) H) gJoin := by
  intro F H v vs a as z Q e ha hs hz q
  unfold gJoin at hz
  split at hz
  · rename_i sep xs
    obtain ⟨w, rfl, h⟩ := hs.one
    cases e1 : strsL xs with
    | none => rw [e1] at hz; cases hz
    | some ys =>
      rw [e1] at hz
      simp only at hz
      split at hz
      · rename_i hl
        cases hz
        cases ha.str
        obtain ⟨p, us, rfl, h1, r⟩ := h.lst e
        have hl : (ys.map (·.length)).sum + ys.length * sep.length ≤ 1000000 := of_decide_eq_true hl
        exact ⟨_, p, ys, rfl, rfl, .inl (SqL.of (by rw [← strs_rep r e1]; exact h1)), by omega, q F H _ .refl (.str _)⟩
      · cases hz
  · cases hz
end
end DL

namespace DL
open PySem PySem.Spec PyProof.Rows L2

abbrev exList : List Value := [.type "ValueError", .type "Exception", .type "BaseException", .type "object"]
/-! ### isinstance of the exception that a suite holds -/
def gIsER (a C : Addr) (b : Bool) : List D → Option D
  | [.ref a', .ref C'] => if a' = a ∧ C' = C then some (.bl b) else none
  | _ => none
def gIsET (a : Addr) (n : String) (b : Bool) : List D → Option D
  | [.ref a', .ty n'] => if a' = a ∧ n' = n then some (.bl b) else none
  | _ => none
theorem p_isER {K : PySem.W.Frag} {a D0 C : Addr} {b : Bool} (h : PySem.W.kitOne K (.ref D0) (.ref C) = some b) : PC K (rIsE K D0 a) (gIsER a C b) := by
  intro F H vs xs z Q e hx hz q
  unfold gIsER at hz
  split at hz
  · split at hz
    · rename_i hc
      obtain ⟨rfl, rfl⟩ := hc
      cases hz
      obtain ⟨v, w, rfl, h1, h2⟩ := hx.two
      cases h1.refl_ref
      cases h2.refl_ref
      exact ⟨_, .ref _, b, rfl, fun u r => r, h, q F H _ .refl (.bl _)⟩
    · cases hz
  · cases hz
theorem p_isET {K : PySem.W.Frag} {a D0 : Addr} {n : String} {b : Bool} (h : PySem.W.kitOne K (.ref D0) (.type n) = some b) : PC K (rIsE K D0 a) (gIsET a n b) := by
  intro F H vs xs z Q e hx hz q
  unfold gIsET at hz
  split at hz
  · split at hz
    · rename_i hc
      obtain ⟨rfl, rfl⟩ := hc
      cases hz
      obtain ⟨v, w, rfl, h1, h2⟩ := hx.two
      cases h1.refl_ref
      cases h2.ty
      exact ⟨_, .type _, b, rfl, fun u r => r, h, q F H _ .refl (.bl _)⟩
    · cases hz
  · cases hz
section
variable {X : Cx} {E : XW} {o e : Expr} {es : List Expr} {to te : TE} {ta : TA} {fo fe : M Vl} {fa : M (List Vl)} {r : V → List V → Hp → VK → Prop} {g : D → List D → Option D} {id : String} {name : Str} {apos pos cpos : Pos}
theorem pf_mN (slot : Slot "str" name id) (ty : typeOf (.builtin id) = pure (.type "method_descriptor")) (rule : MtR X id r) (p : PM X.K r g) (ho : PF X o to E fo) (ha : PFa X (e :: es) ta E fa)
    (hbase : attributeBase o name X.env (eval o X.env) = eval o X.env := by rfl)
    (hfew : ((backTo cpos (starEach (e :: es) X.env)).all (fun x => !x.1) && (backToKw cpos (keywordEach [] X.env)).all (fun x => x.1.isSome)
      && decide ((e :: es).length + ([] : List Keyword).length + (if ([] : List Keyword).isEmpty then 0 else 1) < 30)) = true := by rfl)
    (hline : (apos.endLine == cpos.line) = true := by rfl) (hs : starEach (e :: es) X.env = (false, eval e X.env) :: starEach es X.env := by rfl) (hplain : (backTo cpos (starEach es X.env)).any (·.1) = false := by rfl) :
    PF X (.Call (.Attribute o name apos) (e :: es) [] cpos) (tBM X.K "str" r to ta) E (fM g fo fa) := ⟨pe_bm PySem.F.plainAttrs_str slot ty rule ho.pe ha.pa hbase hfew hline hs hplain, ev_mN p ho.ev ha.ev⟩
end
end DL

namespace DL
open PySem PySem.Spec PyProof.Rows L2

/-! ### the end -/
def spLaw (K : PySem.W.Frag) : Sp := fun vs H Q _ => ∃ (a : Addr) (ns : List Int), vs = [.ref a] ∧ SqL K H a (ns.map V.int) ∧ ns.length ≤ 63 ∧ ∀ H', Q (.bl true) H'
theorem repL_ints {K : PySem.W.Frag} {F : Hp} : ∀ ns : List Int, RepL K F (ns.map V.int) (ns.map D.int)
  | [] => .nil
  | n :: ns => .cons (.int n) (repL_ints ns)
theorem law_end {P : Program} {w : World} {K : PySem.W.Frag} {mg : Str → Option Value} {base : Heap} {CX : CXT} {k : Nat} {f : Addr} {fd : FuncData} {ps : List Str} {fn : Fn} (F : FnOk P w K mg base CX k f fd ps (spD K 1 fn))
    (h : ∀ xs : List Int, xs.length ≤ 63 → ∃ r, fn [.d (.scr (xs.map D.int))] = .ok (.bl true) r) : FnOk P w K mg base CX k f fd ps (spLaw K) := by
  refine F.imp fun vs H Q E hs => ?_
  obtain ⟨a, ns, rfl, hS, hl, hq⟩ := hs
  obtain ⟨r, e⟩ := h ns hl
  refine ⟨H, [.d (.scr (ns.map D.int))], ⟨.refl _, rfl, fun i x e => ?_, fun i m l e => ?_, fun i j a _ h1 => ?_⟩, rfl, ?_⟩
  · cases i with
    | zero => cases e; exact ⟨_, rfl, .scr hS (repL_ints ns)⟩
    | succ i => simp at e
  · cases i with
    | zero => cases e
    | succ i => simp at e
  · cases i with
    | zero => cases h1
    | succ i => simp [isOwn] at h1
  · rw [e]
    intro F' H' v _ rv
    cases rv
    exact hq H'
theorem tab_vals {K : PySem.W.Frag} {a : Addr} : ∀ (l : List (Str × Str)), PySem.Paired (fun (p : Str × Str) (_ : Unit) => ∃ t, PySem.W.nsIn K a p.1 = some (some (.str p.2 t))) l (l.map fun _ => ()) →
    ∀ z y, (l.map fun p => (p.1, D.str p.2)).lookup z = some y → ∃ v u, PySem.W.nsIn K a z = some (some u) ∧ RelV v u ∧ ∀ F, Rep K F v y
  | [], _, z, y, h => by cases h
  | p :: l, hp, z, y, h => by
    cases hp with
    | cons h1 h2 =>
      simp only [List.map_cons, List.lookup] at h
      by_cases e : (z == p.1) = true
      · rw [e] at h
        cases h
        obtain ⟨t, ht⟩ := h1
        rw [eq_of_beq e]
        exact ⟨.str p.2, _, ht, ⟨t, rfl⟩, fun F => .str _⟩
      · have e' : (z == p.1) = false := by simpa using e
        rw [e'] at h
        exact tab_vals l h2 z y h
end DL

namespace LW
open PySem PySem.Spec PyProof.Rows L2 DL
/-! ### the text by places -/
def top (i : Nat) : Stmt := PySem.Challenge.pw_stepdown_k65_strings_that_are_reached.main.body.getD i (.Pass ⟨0, 0, 0, 0⟩)
abbrev s__law_draws : Stmt := top 12
abbrev s__law_string : Stmt := top 13
abbrev s__is_rule : Stmt := top 9
abbrev s_Rules___init__ : Stmt := inClass (top 10) 0
abbrev s_Rules_places : Stmt := inClass (top 10) 2
abbrev s_Rules__replaced : Stmt := inClass (top 10) 4
abbrev s_Rules_reached : Stmt := inClass (top 10) 5
abbrev s__law_next : Stmt := top 14
abbrev s__law_many : Stmt := top 15
abbrev s_law : Stmt := top 16
abbrev N__law_draws : List Str := ["_law_script", "_law_many_here", "_law_draws_here", "_law_seed", "_law_cell", "_law_k", "_law_number"]
abbrev P__law_draws : List Str := ["_law_script", "_law_many_here"]
abbrev N__law_string : List Str := ["_law_draw", "_law_most", "_law_j"]
abbrev P__law_string : List Str := ["_law_draw", "_law_most"]
abbrev N__is_rule : List Str := ["value"]
abbrev P__is_rule : List Str := ["value"]
abbrev N_Rules___init__ : List Str := ["self", "rules", "rule"]
abbrev P_Rules___init__ : List Str := ["self", "rules"]
abbrev N_Rules_places : List Str := ["self", "configuration", "found", "rule", "at"]
abbrev P_Rules_places : List Str := ["self", "configuration"]
abbrev N_Rules__replaced : List Str := ["self", "configuration", "rule", "at", "old", "new"]
abbrev P_Rules__replaced : List Str := ["self", "configuration", "rule", "at"]
abbrev N_Rules_reached : List Str := ["self", "configuration", "steps", "strings", "_", "following", "string", "rule", "at"]
abbrev P_Rules_reached : List Str := ["self", "configuration", "steps"]
abbrev N__law_next : List Str := ["_law_rules", "_law_strings", "_law_found", "_law_string_here", "_law_old", "_law_new", "_law_at"]
abbrev P__law_next : List Str := ["_law_rules", "_law_strings"]
abbrev N__law_many : List Str := ["_law_count", "_law_machine", "_law_found", "e", "_law_k"]
abbrev P__law_many : List Str := ["_law_count"]
abbrev N_law : List Str := ["_law_script", "_law_draws_here", "_law_rules", "_law_k", "_law_string_here", "_law_steps", "_law_strings", "_law_machine", "_law_found"]
abbrev P_law : List Str := ["_law_script"]
/-! ### the classes' places -/
structure Cs where
  c_BadMachine : Addr
  c_Rules : Addr
  c_StairError : Addr
  c_TooMany : Addr
/-! ### what the defs mean -/
def L1__law_draws (c : Cs) : FS :=
 (fIfS (fB (fOp gGt (fVar 6) (fC (.int 0))))
 (fSeq (fDrop (fAppend (fVar 2) (fCons (fOp gMod (fCB gInt (fCons (fVar 6) fNil)) (fC (.int 1009))) fNil)))
 (fAsg (gN 6) (fOp gDiv (fVar 6) (fC (.int 1009)))))
 fNext)
def L2__law_draws (c : Cs) : FS :=
 (fSeq (fAsg (gN 6) (fCB gAbs (fCons (fVar 4) fNil)))
 (fSeq (fAsg (gN 3) (fOp gMod (fCB gInt (fCons (fOp gAdd (fOp gAdd (fOp gMul (fVar 3) (fC (.int 48271))) (fVar 6)) (fC (.int 11))) fNil)) (fC (.int 2147483647))))
 (fIfS (fB (fOp gGe (fVar 6) (fOp gPow (fC (.int 10)) (fC (.int 18)))))
 (fFor (fRng1 (fCons (fC (.int 60)) fNil)) (gN 5)
 (L1__law_draws c))
 (fDrop (fAppend (fVar 2) (fCons (fOp gMod (fOp gDiv (fCB gInt (fCons (fOp gAdd (fOp gMul (fVar 3) (fC (.int 16807))) (fC (.int 5))) fNil)) (fC (.int 3))) (fC (.int 65521))) fNil))))))
def L3__law_draws (c : Cs) : FS :=
 (fIfS (fB (fOp gLt (fCB gLen (fCons (fVar 2) fNil)) (fVar 1)))
 (fSeq (fAsg (gN 3) (fOp gMod (fCB gInt (fCons (fOp gAdd (fOp gAdd (fOp gMul (fVar 3) (fC (.int 69621))) (fVar 5)) (fC (.int 1))) fNil)) (fC (.int 2147483647))))
 (fDrop (fAppend (fVar 2) (fCons (fOp gMod (fOp gDiv (fCB gInt (fCons (fVar 3) fNil)) (fC (.int 7))) (fC (.int 65521))) fNil))))
 fNext)
def g__law_draws (c : Cs) : FS :=
 (fSeq (fAsgN 2 (fLstN fNil))
 (fSeq (fAsg (gN 3) (fC (.int 7)))
 (fSeq (fFor (fItS (fSl (fVar 0) fNoPart (fPart (fC (.int 63)))) pAny) (gN 4)
 (L2__law_draws c))
 (fSeq (fFor (fRng1 (fCons (fVar 1) fNil)) (gN 5)
 (L3__law_draws c))
 (fRet (fSl (fVar 2) fNoPart (fPart (fVar 1))))))))
abbrev fn__law_draws (c : Cs) : Fn := fnOf 7 (g__law_draws c)
def g__law_string (c : Cs) : FS :=
 (fRet (fM gJoin (fC (.str "")) (fCons (fOfN (fLc (fRng1 (fCons (fOp gMod (fCB gInt (fCons (fVar 0) fNil)) (fOp gAdd (fVar 1) (fC (.int 1)))) fNil)) (gN 2) (fun ρ => .ok true ρ) (fOp gIxA (fC (.str "ab")) (fOp gMod (fCB gInt (fCons (fOp gDiv (fVar 0) (fOp gAdd (fOp gAdd (fC (.int 1)) (fOp gMul (fC (.int 5)) (fVar 2))) (fOp gMul (fVar 2) (fVar 2)))) fNil)) (fC (.int 2)))) [2])) fNil)))
abbrev fn__law_string (c : Cs) : Fn := fnOf 3 (g__law_string c)
def g__is_rule (c : Cs) : FS :=
 (fSeq (fIfS (fOrT (fNotT (fTru (fCB gIsi (fCons (fVar 0) (fCons (fC (.ty "tuple")) fNil))))) (fB (fOp gNe (fCB gLen (fCons (fVar 0) fNil)) (fC (.int 2)))))
 (fRet (fC (.bl false)))
 fNext)
 (fRet (fAndV (fCB gIsi (fCons (fOp gIxA (fVar 0) (fC (.int 0))) (fCons (fC (.ty "str")) fNil))) (fAndV (fCB gIsi (fCons (fOp gIxA (fVar 0) (fC (.int 1))) (fCons (fC (.ty "str")) fNil))) (fOp gNe (fOp gIxA (fVar 0) (fC (.int 0))) (fC (.str "")))))))
abbrev fn__is_rule (c : Cs) : Fn := fnOf 1 (g__is_rule c)
def g_Rules___init__ (c : Cs) : FS :=
 (fSeq (fIfS (fOrT (fB (fOp gGt (fCB gLen (fCons (fVar 1) fNil)) (fC (.int 20000)))) (fNotT (fTru (fCB gAll (fCons (fOfN (fLc (fItS (fVar 1) pAny) (gN 2) (fun ρ => .ok true ρ) (fCall 1 [false] (fn__is_rule c) (fCons (fVar 2) fNil)) [2])) fNil)))))
 (fRaise c.c_BadMachine)
 fNext)
 (fFldSet c.c_Rules "_rules" (fVar 0) (fOfN (fCBN gList (fCons (fVar 1) fNil)))))
abbrev fn_Rules___init__ (c : Cs) : Fn := fnOf 3 (g_Rules___init__ c)
def L1_Rules_places (c : Cs) : FS :=
 (fSeq (fDrop (fAppend (fVar 2) (fCons (fTup (fCons (fVar 3) (fCons (fVar 4) fNil))) fNil)))
 (fAsg (gN 4) (fM gFind3 (fVar 1) (fCons (fOp gIxA (fOp gIxA (fFld "_rules" (fVar 0)) (fVar 3)) (fC (.int 0))) (fCons (fOp gAdd (fVar 4) (fC (.int 1))) fNil)))))
def L2_Rules_places (c : Cs) : FS :=
 (fSeq (fAsg (gN 4) (fM gFind (fVar 1) (fCons (fOp gIxA (fOp gIxA (fFld "_rules" (fVar 0)) (fVar 3)) (fC (.int 0))) fNil)))
 (fWhile (fun _ => 1000000) (fB (fOp gGe (fVar 4) (fC (.int 0))))
 (L1_Rules_places c)))
def g_Rules_places (c : Cs) : FS :=
 (fSeq (fAsgN 2 (fLstN fNil))
 (fSeq (fFor (fRng1 (fCons (fCB gLen (fCons (fFld "_rules" (fVar 0)) fNil)) fNil)) (gN 3)
 (L2_Rules_places c))
 (fRet (fVar 2))))
abbrev fn_Rules_places (c : Cs) : Fn := fnOf 5 (g_Rules_places c)
def g_Rules__replaced (c : Cs) : FS :=
 (fSeq (fAsg (gT 2 (gsCons (gN 4) (gsCons (gN 5) gsNil))) (fOp gIxA (fFld "_rules" (fVar 0)) (fVar 2)))
 (fRet (fOp gAdd (fOp gAdd (fSl (fVar 1) fNoPart (fPart (fVar 3))) (fVar 5)) (fSl (fVar 1) (fPart (fOp gAdd (fVar 3) (fCB gLen (fCons (fVar 4) fNil)))) fNoPart))))
abbrev fn_Rules__replaced (c : Cs) : Fn := fnOf 6 (g_Rules__replaced c)
def L1_Rules_reached (c : Cs) : FS :=
 (fSeq (fPut (fC (.bl true)) (fVar 5) (fMeth c.c_Rules "_replaced" 4 [false, false, false, false] (fn_Rules__replaced c) (fVar 0) (fCons (fVar 6) (fCons (fVar 7) (fCons (fVar 8) fNil)))))
 (fIfS (fB (fOp gGt (fCB gLen (fCons (fVar 5) fNil)) (fC (.int 2000))))
 (fRaise c.c_TooMany)
 fNext))
def L2_Rules_reached (c : Cs) : FS :=
 (fFor (fItS (fMeth c.c_Rules "places" 2 [false, false] (fn_Rules_places c) (fVar 0) (fCons (fVar 6) fNil)) pAny) (gT 2 (gsCons (gN 7) (gsCons (gN 8) gsNil)))
 (L1_Rules_reached c))
def L3_Rules_reached (c : Cs) : FS :=
 (fSeq (fAsgN 5 (fDict (.dK [])))
 (fSeq (fFor (fItS (fVar 3) pAny) (gN 6)
 (L2_Rules_reached c))
 (fAsg (gN 3) (fOfN (fCBN gSortedA (fCons (fVar 5) fNil))))))
def g_Rules_reached (c : Cs) : FS :=
 (fSeq (fAsg (gN 3) (fLst (fCons (fVar 1) fNil)))
 (fSeq (fFor (fRng1 (fCons (fVar 2) fNil)) (gN 4)
 (L3_Rules_reached c))
 (fRet (fVar 3))))
abbrev fn_Rules_reached (c : Cs) : Fn := fnOf 9 (g_Rules_reached c)
def L1__law_next (c : Cs) : FS :=
 (fIfS (fB (fOp gEq (fSl (fVar 3) (fPart (fVar 6)) (fPart (fOp gAdd (fVar 6) (fCB gLen (fCons (fVar 4) fNil))))) (fVar 4)))
 (fPut (fC (.bl true)) (fVar 2) (fOp gAdd (fOp gAdd (fSl (fVar 3) fNoPart (fPart (fVar 6))) (fVar 5)) (fSl (fVar 3) (fPart (fOp gAdd (fVar 6) (fCB gLen (fCons (fVar 4) fNil)))) fNoPart)))
 fNext)
def L2__law_next (c : Cs) : FS :=
 (fFor (fRng1 (fCons (fCB gLen (fCons (fVar 3) fNil)) fNil)) (gN 6)
 (L1__law_next c))
def L3__law_next (c : Cs) : FS :=
 (fFor (fItS (fVar 0) pAny) (gT 2 (gsCons (gN 4) (gsCons (gN 5) gsNil)))
 (L2__law_next c))
def g__law_next (c : Cs) : FS :=
 (fSeq (fAsgN 2 (fDict (.dK [])))
 (fSeq (fFor (fItS (fVar 1) pAny) (gN 3)
 (L3__law_next c))
 (fRet (fOfN (fCBN gSortedA (fCons (fVar 2) fNil))))))
abbrev fn__law_next (c : Cs) : Fn := fnOf 7 (g__law_next c)
def S1__law_many (c : Cs) (ae : Addr) : FS :=
 (fRet (fAndV (fCB (gIsER ae c.c_TooMany true) (fCons (fVar 3) (fCons (fC (.ref c.c_TooMany)) fNil))) (fOp gGt (fVar 0) (fC (.int 2000)))))
def U1__law_many (c : Cs) : FS := fun ρ => undo 3 (S1__law_many c 0 (ρ.set 3 (.d (.ref 0))))
theorem V1__law_many (c : Cs) (ae : Addr) (ρ : Rho) : undo 3 (S1__law_many c ae (ρ.set 3 (.d (.ref ae)))) = U1__law_many c ρ := by
  unfold U1__law_many S1__law_many
  by_cases h : 3 < ρ.length
  · rcases e : ρ[0]? with _ | (_ | x | ⟨m, l⟩)
    · simp [h, undo, gIsER, gIsET, List.getElem?_set, e]
    · simp [h, undo, gIsER, gIsET, List.getElem?_set, e]
    · cases x <;> simp [h, undo, gIsER, gIsET, List.getElem?_set, e, gGt, gI]
    · cases m <;> simp [h, undo, gIsER, gIsET, List.getElem?_set, e, gGt, gI]
  · simp [h, undo, gIsER, gIsET, List.getElem?_set]
def g__law_many (c : Cs) : FS :=
 (fSeq (fAsg (gN 1) (fOfN (fMake c.c_Rules 2 [false] (fn_Rules___init__ c) (fCons (fOfN (fLc (fRng1 (fCons (fVar 0) fNil)) (gN 4) (fun ρ => .ok true ρ) (fTup (fCons (fC (.str "a")) (fCons (fOp gAdd (fC (.str "b")) (fCB gStr (fCons (fVar 4) fNil))) fNil))) [4])) fNil))))
 (fSeq (fTryAs c.c_TooMany 3 (fAsg (gN 2) (fMeth c.c_Rules "reached" 3 [false, false, false] (fn_Rules_reached c) (fVar 1) (fCons (fC (.str "a")) (fCons (fC (.int 1)) fNil)))) (U1__law_many c))
 (fRet (fAndV (fOp gEq (fVar 0) (fC (.int 2000))) (fOp gEq (fVar 2) (fOfN (fCBN gSortedA (fCons (fOfN (fLc (fRng1 (fCons (fVar 0) fNil)) (gN 4) (fun ρ => .ok true ρ) (fOp gAdd (fC (.str "b")) (fCB gStr (fCons (fVar 4) fNil))) [4])) fNil))))))))
abbrev fn__law_many (c : Cs) : Fn := fnOf 5 (g__law_many c)
def L1_law (c : Cs) : FS :=
 (fDrop (fAppend (fVar 2) (fCons (fTup (fCons (fOp gAdd (fOp gIxA (fC (.str "ab")) (fOp gMod (fCB gInt (fCons (fOp gDiv (fOp gIxA (fVar 1) (fOp gAdd (fC (.int 1)) (fOp gMul (fC (.int 2)) (fVar 3)))) (fC (.int 5))) fNil)) (fC (.int 2)))) (fCall 2 [false, false] (fn__law_string c) (fCons (fOp gIxA (fVar 1) (fOp gAdd (fC (.int 1)) (fOp gMul (fC (.int 2)) (fVar 3)))) (fCons (fC (.int 2)) fNil)))) (fCons (fCall 2 [false, false] (fn__law_string c) (fCons (fOp gIxA (fVar 1) (fOp gAdd (fC (.int 2)) (fOp gMul (fC (.int 2)) (fVar 3)))) (fCons (fC (.int 3)) fNil))) fNil))) fNil)))
def L2_law (c : Cs) : FS :=
 (fSeq (fIfS (fB (fOp gGt (fCB gLen (fCons (fVar 6) fNil)) (fC (.int 2000))))
 (fRet (fC (.bl true)))
 fNext)
 (fSeq (fAsg (gN 8) (fMeth c.c_Rules "reached" 3 [false, false, false] (fn_Rules_reached c) (fVar 7) (fCons (fVar 4) (fCons (fVar 3) fNil))))
 (fSeq (fIfS (fOrT (fNotT (fTru (fCB gIsi (fCons (fVar 8) (fCons (fC (.ty "list")) fNil))))) (fB (fOp gNe (fVar 8) (fVar 6))))
 (fRet (fC (.bl false)))
 fNext)
 (fAsg (gN 6) (fCall 2 [false, false] (fn__law_next c) (fCons (fVar 2) (fCons (fVar 6) fNil)))))))
def g_law (c : Cs) : FS :=
 (fSeq (fAsg (gN 1) (fCall 2 [false, false] (fn__law_draws c) (fCons (fVar 0) (fCons (fC (.int 30)) fNil))))
 (fSeq (fAsgN 2 (fLstN fNil))
 (fSeq (fFor (fRng1 (fCons (fOp gMod (fCB gInt (fCons (fOp gIxA (fVar 1) (fC (.int 0))) fNil)) (fC (.int 6))) fNil)) (gN 3)
 (L1_law c))
 (fSeq (fAsg (gN 4) (fOp gAdd (fCall 2 [false, false] (fn__law_string c) (fCons (fOp gIxA (fVar 1) (fC (.int 20))) (fCons (fC (.int 4)) fNil))) (fCall 2 [false, false] (fn__law_string c) (fCons (fOp gIxA (fVar 1) (fC (.int 21))) (fCons (fC (.int 4)) fNil)))))
 (fSeq (fAsg (gN 5) (fOp gMod (fCB gInt (fCons (fOp gIxA (fVar 1) (fC (.int 22))) fNil)) (fC (.int 5))))
 (fSeq (fAsg (gN 6) (fLst (fCons (fVar 4) fNil)))
 (fSeq (fAsg (gN 7) (fOfN (fMake c.c_Rules 2 [false] (fn_Rules___init__ c) (fCons (fVar 2) fNil))))
 (fSeq (fFor (fRng1 (fCons (fOp gAdd (fVar 5) (fC (.int 1))) fNil)) (gN 3)
 (L2_law c))
 (fRet (fOrV (fOp gGt (fOp gMod (fCB gInt (fCons (fOp gIxA (fVar 1) (fC (.int 23))) fNil)) (fC (.int 40))) (fC (.int 0))) (fCall 1 [false] (fn__law_many c) (fCons (fOp gAdd (fC (.int 2000)) (fOp gMod (fCB gInt (fCons (fOp gIxA (fVar 1) (fC (.int 24))) fNil)) (fC (.int 2)))) fNil))))))))))))
abbrev fn_law (c : Cs) : Fn := fnOf 9 (g_law c)
-- END OF MEANINGS
/-! ### what the top has written -/
structure Ad extends Cs where
  f__law_draws : Addr
  fd__law_draws : FuncData
  f__law_string : Addr
  fd__law_string : FuncData
  f__is_rule : Addr
  fd__is_rule : FuncData
  f_Rules___init__ : Addr
  fd_Rules___init__ : FuncData
  f_Rules_places : Addr
  fd_Rules_places : FuncData
  f_Rules__replaced : Addr
  fd_Rules__replaced : FuncData
  f_Rules_reached : Addr
  fd_Rules_reached : FuncData
  f__law_next : Addr
  fd__law_next : FuncData
  f__law_many : Addr
  fd__law_many : FuncData
  f_law : Addr
  fd_law : FuncData
structure Txt (w : World) (K : PySem.W.Frag) (mg : Str → Option Value) (a : Ad) : Prop where
  m__law_draws : mg "_law_draws" = some (.ref a.f__law_draws)
  F__law_draws : Fun K "_law_draws" "_law_draws" s__law_draws a.f__law_draws a.fd__law_draws
  B__law_draws : Binds K a.fd__law_draws P__law_draws []
  m__law_string : mg "_law_string" = some (.ref a.f__law_string)
  F__law_string : Fun K "_law_string" "_law_string" s__law_string a.f__law_string a.fd__law_string
  B__law_string : Binds K a.fd__law_string P__law_string []
  m__is_rule : mg "_is_rule" = some (.ref a.f__is_rule)
  F__is_rule : Fun K "_is_rule" "_is_rule" s__is_rule a.f__is_rule a.fd__is_rule
  B__is_rule : Binds K a.fd__is_rule P__is_rule []
  F_Rules___init__ : Fun K "__init__" "Rules.__init__" s_Rules___init__ a.f_Rules___init__ a.fd_Rules___init__
  B_Rules___init__ : Binds K a.fd_Rules___init__ P_Rules___init__ []
  M_Rules_places : Meth K a.c_Rules "places" a.f_Rules_places
  F_Rules_places : Fun K "places" "Rules.places" s_Rules_places a.f_Rules_places a.fd_Rules_places
  B_Rules_places : Binds K a.fd_Rules_places P_Rules_places []
  M_Rules__replaced : Meth K a.c_Rules "_replaced" a.f_Rules__replaced
  F_Rules__replaced : Fun K "_replaced" "Rules._replaced" s_Rules__replaced a.f_Rules__replaced a.fd_Rules__replaced
  B_Rules__replaced : Binds K a.fd_Rules__replaced P_Rules__replaced []
  M_Rules_reached : Meth K a.c_Rules "reached" a.f_Rules_reached
  F_Rules_reached : Fun K "reached" "Rules.reached" s_Rules_reached a.f_Rules_reached a.fd_Rules_reached
  B_Rules_reached : Binds K a.fd_Rules_reached P_Rules_reached []
  m__law_next : mg "_law_next" = some (.ref a.f__law_next)
  F__law_next : Fun K "_law_next" "_law_next" s__law_next a.f__law_next a.fd__law_next
  B__law_next : Binds K a.fd__law_next P__law_next []
  m__law_many : mg "_law_many" = some (.ref a.f__law_many)
  F__law_many : Fun K "_law_many" "_law_many" s__law_many a.f__law_many a.fd__law_many
  B__law_many : Binds K a.fd__law_many P__law_many []
  m_law : mg "law" = some (.ref a.f_law)
  F_law : Fun K "law" "law" s_law a.f_law a.fd_law
  B_law : Binds K a.fd_law P_law []
  c_BadMachine : mg "BadMachine" = some (.ref a.c_BadMachine)
  x_BadMachine : PySem.W.excIn K a.c_BadMachine exList "ValueError.__new__" = true
  p_BadMachine : PySem.W.keepIn K (.ref a.c_BadMachine) = true
  s_BadMachine : PySem.W.subIn K (.ref a.c_BadMachine) (.type "BaseException") = some true
  y_BadMachine : PySem.W.typeIn K (.ref a.c_BadMachine) = some (.type "type")
  c_Rules : mg "Rules" = some (.ref a.c_Rules)
  k_Rules : Cls K a.c_Rules
  K_Rules : Mk K a.c_Rules a.f_Rules___init__
  n_Rules__rules : NoAttr K a.c_Rules "_rules"
  c_StairError : mg "StairError" = some (.ref a.c_StairError)
  x_StairError : PySem.W.excIn K a.c_StairError exList "ValueError.__new__" = true
  p_StairError : PySem.W.keepIn K (.ref a.c_StairError) = true
  s_StairError : PySem.W.subIn K (.ref a.c_StairError) (.type "BaseException") = some true
  y_StairError : PySem.W.typeIn K (.ref a.c_StairError) = some (.type "type")
  c_TooMany : mg "TooMany" = some (.ref a.c_TooMany)
  x_TooMany : PySem.W.excIn K a.c_TooMany exList "ValueError.__new__" = true
  p_TooMany : PySem.W.keepIn K (.ref a.c_TooMany) = true
  s_TooMany : PySem.W.subIn K (.ref a.c_TooMany) (.type "BaseException") = some true
  y_TooMany : PySem.W.typeIn K (.ref a.c_TooMany) = some (.type "type")
  E_TooMany : ExcC K a.c_TooMany
  m_TooMany_StairError : PySem.W.exmOne K (.ref a.c_TooMany) (.ref a.c_StairError) = some true
  q_TooMany_TooMany : PySem.W.kitOne K (.ref a.c_TooMany) (.ref a.c_TooMany) = some true
  b_abs : mg "abs" = none
  b_all : mg "all" = none
  b_int : mg "int" = none
  b_isinstance : mg "isinstance" = none
  b_len : mg "len" = none
  b_list : mg "list" = none
  b_range : mg "range" = none
  b_sorted : mg "sorted" = none
  b_str : mg "str" = none
  b_tuple : mg "tuple" = none
  g_MOST_RULES : GV mg "MOST_RULES" (.int 20000)
  g_MOST_STRINGS : GV mg "MOST_STRINGS" (.int 2000)
section
variable {P : Program} {w : World} {K : PySem.W.Frag} {mg : Str → Option Value} {base : Heap} {a : Ad}
theorem sc__law_draws : FnScope N__law_draws P__law_draws (defScope s__law_draws) := ⟨rfl, rfl, rfl, by decide +kernel, rfl, by decide +kernel, by decide +kernel⟩
theorem ok__law_draws (T : Txt w K mg a) : FnOk P w K mg base (L2.CX P w) 1 a.f__law_draws a.fd__law_draws P__law_draws (spD K 2 (fn__law_draws a.toCs)) := by
  have sc := sc__law_draws
  refine def_ok2 (k := 0) (g := g__law_draws a.toCs) T.F__law_draws sc__law_draws rfl rfl (by decide) fun cdv A outer s H E hr => ?_
  have hu : (cxOf (L2.CX P w) P w K mg base N__law_draws "_law_draws" (defScope s__law_draws) a.f__law_draws cdv A outer s H E).A.units + 200 < cLine := by
    have := hr.un
    show (A.deeper _).units + 200 < cLine
    omega
  have tk : Takes (cxOf (L2.CX P w) P w K mg base N__law_draws "_law_draws" (defScope s__law_draws) a.f__law_draws cdv A outer s H E) (fun cls d _ H => E cls d H) := takes_of rfl rfl rfl rfl
  have hx := fun σ => passAt tk σ
  have po : PassesOwn (model (cxOf (L2.CX P w) P w K mg base N__law_draws "_law_draws" (defScope s__law_draws) a.f__law_draws cdv A outer s H E).prog (cxOf (L2.CX P w) P w K mg base N__law_draws "_law_draws" (defScope s__law_draws) a.f__law_draws cdv A outer s H E).w) (cxOf (L2.CX P w) P w K mg base N__law_draws "_law_draws" (defScope s__law_draws) a.f__law_draws cdv A outer s H E).A (cxOf (L2.CX P w) P w K mg base N__law_draws "_law_draws" (defScope s__law_draws) a.f__law_draws cdv A outer s H E).env (cxOf (L2.CX P w) P w K mg base N__law_draws "_law_draws" (defScope s__law_draws) a.f__law_draws cdv A outer s H E).xe := passes_of rfl
  exact ⟨_, (pfb_cons (pfs_setN (i := 2) sc.nd (pn_lst pfa_nil))
 (pfb_cons (pfs_set (i := 3) sc.nd pf_int)
 (pfb_cons (pfs_for po (pfi_any (pf_sl (pf_var 0) pfo_none (pfo_some pf_int))) (pfg_n sc.nd)
 (pfb_cons (pfs_set (i := 6) sc.nd (pf_cb call_abs p_abs T.b_abs (pfa_cons (pf_var 4) pfa_nil)))
 (pfb_cons (pfs_set (i := 3) sc.nd (pf_op op_mod p_mod (pf_cty call_intAny p_int T.b_int (pfa_cons (pf_op op_addAny p_add (pf_op op_addAny p_add (pf_op op_mul p_mul (pf_var 3) pf_int) (pf_var 6)) pf_int) pfa_nil)) pf_int))
 (pfb_one (pfs_if (pft_cmp op_ge p_ge (pf_var 6) (pf_op op_pow p_pow pf_int pf_int))
 (pfb_one (pfs_for po (pfi_rng1 T.b_range (pfa_cons pf_int pfa_nil)) (pfg_n sc.nd)
 (pfb_one (pfs_if (pft_cmp op_gt p_gt (pf_var 6) pf_int)
 (pfb_cons (pfs_drop (pf_append (pf_var 2) (pfa_cons (pf_op op_mod p_mod (pf_cty call_intAny p_int T.b_int (pfa_cons (pf_var 6) pfa_nil)) pf_int) pfa_nil)))
 (pfb_one (pfs_set (i := 6) sc.nd (pf_op op_fdiv p_div (pf_var 6) pf_int))))
 pfb_nil))))
 (pfb_one (pfs_drop (pf_append (pf_var 2) (pfa_cons (pf_op op_mod p_mod (pf_op op_fdiv p_div (pf_cty call_intAny p_int T.b_int (pfa_cons (pf_op op_addAny p_add (pf_op op_mul p_mul (pf_var 3) pf_int) pf_int) pfa_nil)) pf_int) pf_int) pfa_nil)))))))))
 (pfb_cons (pfs_for po (pfi_rng1 T.b_range (pfa_cons (pf_var 1) pfa_nil)) (pfg_n sc.nd)
 (pfb_one (pfs_if (pft_cmp op_lt p_lt (pf_cb call_lenAny p_len T.b_len (pfa_cons (pf_var 2) pfa_nil)) (pf_var 1))
 (pfb_cons (pfs_set (i := 3) sc.nd (pf_op op_mod p_mod (pf_cty call_intAny p_int T.b_int (pfa_cons (pf_op op_addAny p_add (pf_op op_addAny p_add (pf_op op_mul p_mul (pf_var 3) pf_int) (pf_var 5)) pf_int) pfa_nil)) pf_int))
 (pfb_one (pfs_drop (pf_append (pf_var 2) (pfa_cons (pf_op op_mod p_mod (pf_op op_fdiv p_div (pf_cty call_intAny p_int T.b_int (pfa_cons (pf_var 3) pfa_nil)) pf_int) pf_int) pfa_nil)))))
 pfb_nil)))
 (pfb_one (pfs_ret (pf_sl (pf_var 2) pfo_none (pfo_some (pf_var 1)))))))))⟩
theorem sc__law_string : FnScope N__law_string P__law_string (defScope s__law_string) := ⟨rfl, rfl, rfl, by decide +kernel, rfl, by decide +kernel, by decide +kernel⟩
theorem ok__law_string (T : Txt w K mg a) : FnOk P w K mg base (L2.CX P w) 1 a.f__law_string a.fd__law_string P__law_string (spD K 2 (fn__law_string a.toCs)) := by
  have sc := sc__law_string
  refine def_ok2 (k := 0) (g := g__law_string a.toCs) T.F__law_string sc__law_string rfl rfl (by decide) fun cdv A outer s H E hr => ?_
  have hu : (cxOf (L2.CX P w) P w K mg base N__law_string "_law_string" (defScope s__law_string) a.f__law_string cdv A outer s H E).A.units + 200 < cLine := by
    have := hr.un
    show (A.deeper _).units + 200 < cLine
    omega
  have tk : Takes (cxOf (L2.CX P w) P w K mg base N__law_string "_law_string" (defScope s__law_string) a.f__law_string cdv A outer s H E) (fun cls d _ H => E cls d H) := takes_of rfl rfl rfl rfl
  have hx := fun σ => passAt tk σ
  have po : PassesOwn (model (cxOf (L2.CX P w) P w K mg base N__law_string "_law_string" (defScope s__law_string) a.f__law_string cdv A outer s H E).prog (cxOf (L2.CX P w) P w K mg base N__law_string "_law_string" (defScope s__law_string) a.f__law_string cdv A outer s H E).w) (cxOf (L2.CX P w) P w K mg base N__law_string "_law_string" (defScope s__law_string) a.f__law_string cdv A outer s H E).A (cxOf (L2.CX P w) P w K mg base N__law_string "_law_string" (defScope s__law_string) a.f__law_string cdv A outer s H E).env (cxOf (L2.CX P w) P w K mg base N__law_string "_law_string" (defScope s__law_string) a.f__law_string cdv A outer s H E).xe := passes_of rfl
  exact ⟨_, (pfb_one (pfs_ret (pf_m1 PySem.F.slot_str_join PySem.F.type_str_join mt_join p_join pf_str (PN.pf (pn_lc (own := [("_law_j", 2)]) sc.nd (pfi_rng1 T.b_range (pfa_cons (pf_op op_mod p_mod (pf_cty call_intAny p_int T.b_int (pfa_cons (pf_var 0) pfa_nil)) (pf_op op_addAny p_add (pf_var 1) pf_int)) pfa_nil)) (blkOk_by (N := N__law_string) (sc := defScope s__law_string) (by decide +kernel)) (fun _ _ _ _ _ => ⟨_, (pgc_n sc.nd)⟩) (fun _ _ _ _ _ => ⟨_, ptf_nil⟩) (fun _ _ _ _ _ => ⟨_, (pf_ixA hu pf_str (pf_op op_mod p_mod (pf_cty call_intAny p_int T.b_int (pfa_cons (pf_op op_fdiv p_div (pf_var 0) (pf_op op_addAny p_add (pf_op op_addAny p_add pf_int (pf_op op_mul p_mul pf_int (pf_var 2))) (pf_op op_mul p_mul (pf_var 2) (pf_var 2)))) pfa_nil)) pf_int))⟩))))))⟩
theorem sc__is_rule : FnScope N__is_rule P__is_rule (defScope s__is_rule) := ⟨rfl, rfl, rfl, by decide +kernel, rfl, by decide +kernel, by decide +kernel⟩
theorem ok__is_rule (T : Txt w K mg a) : FnOk P w K mg base (L2.CX P w) 1 a.f__is_rule a.fd__is_rule P__is_rule (spD K 1 (fn__is_rule a.toCs)) := by
  have sc := sc__is_rule
  refine def_ok2 (k := 0) (g := g__is_rule a.toCs) T.F__is_rule sc__is_rule rfl rfl (by decide) fun cdv A outer s H E hr => ?_
  have hu : (cxOf (L2.CX P w) P w K mg base N__is_rule "_is_rule" (defScope s__is_rule) a.f__is_rule cdv A outer s H E).A.units + 200 < cLine := by
    have := hr.un
    show (A.deeper _).units + 200 < cLine
    omega
  have tk : Takes (cxOf (L2.CX P w) P w K mg base N__is_rule "_is_rule" (defScope s__is_rule) a.f__is_rule cdv A outer s H E) (fun cls d _ H => E cls d H) := takes_of rfl rfl rfl rfl
  have hx := fun σ => passAt tk σ
  have po : PassesOwn (model (cxOf (L2.CX P w) P w K mg base N__is_rule "_is_rule" (defScope s__is_rule) a.f__is_rule cdv A outer s H E).prog (cxOf (L2.CX P w) P w K mg base N__is_rule "_is_rule" (defScope s__is_rule) a.f__is_rule cdv A outer s H E).w) (cxOf (L2.CX P w) P w K mg base N__is_rule "_is_rule" (defScope s__is_rule) a.f__is_rule cdv A outer s H E).A (cxOf (L2.CX P w) P w K mg base N__is_rule "_is_rule" (defScope s__is_rule) a.f__is_rule cdv A outer s H E).env (cxOf (L2.CX P w) P w K mg base N__is_rule "_is_rule" (defScope s__is_rule) a.f__is_rule cdv A outer s H E).xe := passes_of rfl
  exact ⟨_, (pfb_cons (pfs_if (pft_w (pfw_or (pft_not (pft_tru (pf_cb call_isi p_isi T.b_isinstance (pfa_cons (pf_var 0) (pfa_cons (pf_ty T.b_tuple) pfa_nil))))) (pfw_or1 (pft_cmp (op_neD (by omega)) p_ne (pf_cb call_lenAny p_len T.b_len (pfa_cons (pf_var 0) pfa_nil)) pf_int))))
 (pfb_one (pfs_ret pf_bl))
 pfb_nil)
 (pfb_one (pfs_ret (pf_and (pf_cb call_isi p_isi T.b_isinstance (pfa_cons (pf_ixA hu (pf_var 0) pf_int) (pfa_cons (pf_ty T.b_str) pfa_nil))) (pf_and (pf_cb call_isi p_isi T.b_isinstance (pfa_cons (pf_ixA hu (pf_var 0) pf_int) (pfa_cons (pf_ty T.b_str) pfa_nil))) (pf_one (pf_cmp (op_neD (by omega)) p_ne (pf_ixA hu (pf_var 0) pf_int) pf_str)))))))⟩
theorem sc_Rules___init__ : FnScope N_Rules___init__ P_Rules___init__ (defScope s_Rules___init__) := ⟨rfl, rfl, rfl, by decide +kernel, rfl, by decide +kernel, by decide +kernel⟩
theorem ok_Rules___init__ (T : Txt w K mg a) : FnOk P w K mg base (L2.CX P w) 2 a.f_Rules___init__ a.fd_Rules___init__ P_Rules___init__ (spD K 2 (fn_Rules___init__ a.toCs)) := by
  have G__is_rule : FnOk P w K mg base (L2.CX P w) 1 a.f__is_rule a.fd__is_rule P__is_rule (spD K 1 (fn__is_rule a.toCs)) := ok__is_rule T
  have sc := sc_Rules___init__
  refine def_ok2 (k := 1) (g := g_Rules___init__ a.toCs) T.F_Rules___init__ sc_Rules___init__ rfl rfl (by decide) fun cdv A outer s H E hr => ?_
  have hu : (cxOf (L2.CX P w) P w K mg base N_Rules___init__ "Rules.__init__" (defScope s_Rules___init__) a.f_Rules___init__ cdv A outer s H E).A.units + 200 < cLine := by
    have := hr.un
    show (A.deeper _).units + 200 < cLine
    omega
  have tk : Takes (cxOf (L2.CX P w) P w K mg base N_Rules___init__ "Rules.__init__" (defScope s_Rules___init__) a.f_Rules___init__ cdv A outer s H E) (fun cls d _ H => E cls d H) := takes_of rfl rfl rfl rfl
  have hx := fun σ => passAt tk σ
  have po : PassesOwn (model (cxOf (L2.CX P w) P w K mg base N_Rules___init__ "Rules.__init__" (defScope s_Rules___init__) a.f_Rules___init__ cdv A outer s H E).prog (cxOf (L2.CX P w) P w K mg base N_Rules___init__ "Rules.__init__" (defScope s_Rules___init__) a.f_Rules___init__ cdv A outer s H E).w) (cxOf (L2.CX P w) P w K mg base N_Rules___init__ "Rules.__init__" (defScope s_Rules___init__) a.f_Rules___init__ cdv A outer s H E).A (cxOf (L2.CX P w) P w K mg base N_Rules___init__ "Rules.__init__" (defScope s_Rules___init__) a.f_Rules___init__ cdv A outer s H E).env (cxOf (L2.CX P w) P w K mg base N_Rules___init__ "Rules.__init__" (defScope s_Rules___init__) a.f_Rules___init__ cdv A outer s H E).xe := passes_of rfl
  exact ⟨_, (pfb_cons (pfs_if (pft_w (pfw_or (pft_cmp op_gt p_gt (pf_cb call_lenAny p_len T.b_len (pfa_cons (pf_var 1) pfa_nil)) (pf_gv T.g_MOST_RULES fun _ => .int _)) (pfw_or1 (pft_not (pft_tru (pf_cb (cr_all rfl) p_all T.b_all (pfa_cons (PN.pf (pn_lc (own := [("rule", 2)]) sc.nd (pfi_any (pf_var 1)) (blkOk_by (N := N_Rules___init__) (sc := defScope s_Rules___init__) (by decide +kernel)) (fun _ _ _ _ _ => ⟨_, (pgc_n sc.nd)⟩) (fun _ _ _ _ _ => ⟨_, ptf_nil⟩) (fun _ _ _ _ _ => ⟨_, (pf_call [false] G__is_rule (hr.mono (by decide)) T.m__is_rule (T.F__is_rule).kp T.B__is_rule passE0 (pfa_cons (pf_var 2) pfa_nil))⟩))) pfa_nil)))))))
 (pfb_one (pfs_raise rfl tk PySem.F.excBase_ValueError T.x_BadMachine T.c_BadMachine T.p_BadMachine (raises_own T.s_BadMachine T.y_BadMachine)))
 pfb_nil)
 (pfb_one (pfs_fld T.n_Rules__rules (pf_var 0) (PN.pf (pn_cty call_list_of pn_list T.b_list (pfa_cons (pf_var 1) pfa_nil))))))⟩
theorem sc_Rules_places : FnScope N_Rules_places P_Rules_places (defScope s_Rules_places) := ⟨rfl, rfl, rfl, by decide +kernel, rfl, by decide +kernel, by decide +kernel⟩
theorem ok_Rules_places (T : Txt w K mg a) : FnOk P w K mg base (L2.CX P w) 1 a.f_Rules_places a.fd_Rules_places P_Rules_places (spD K 2 (fn_Rules_places a.toCs)) := by
  have sc := sc_Rules_places
  refine def_ok2 (k := 0) (g := g_Rules_places a.toCs) T.F_Rules_places sc_Rules_places rfl rfl (by decide) fun cdv A outer s H E hr => ?_
  have hu : (cxOf (L2.CX P w) P w K mg base N_Rules_places "Rules.places" (defScope s_Rules_places) a.f_Rules_places cdv A outer s H E).A.units + 200 < cLine := by
    have := hr.un
    show (A.deeper _).units + 200 < cLine
    omega
  have tk : Takes (cxOf (L2.CX P w) P w K mg base N_Rules_places "Rules.places" (defScope s_Rules_places) a.f_Rules_places cdv A outer s H E) (fun cls d _ H => E cls d H) := takes_of rfl rfl rfl rfl
  have hx := fun σ => passAt tk σ
  have po : PassesOwn (model (cxOf (L2.CX P w) P w K mg base N_Rules_places "Rules.places" (defScope s_Rules_places) a.f_Rules_places cdv A outer s H E).prog (cxOf (L2.CX P w) P w K mg base N_Rules_places "Rules.places" (defScope s_Rules_places) a.f_Rules_places cdv A outer s H E).w) (cxOf (L2.CX P w) P w K mg base N_Rules_places "Rules.places" (defScope s_Rules_places) a.f_Rules_places cdv A outer s H E).A (cxOf (L2.CX P w) P w K mg base N_Rules_places "Rules.places" (defScope s_Rules_places) a.f_Rules_places cdv A outer s H E).env (cxOf (L2.CX P w) P w K mg base N_Rules_places "Rules.places" (defScope s_Rules_places) a.f_Rules_places cdv A outer s H E).xe := passes_of rfl
  exact ⟨_, (pfb_cons (pfs_setN (i := 2) sc.nd (pn_lst pfa_nil))
 (pfb_cons (pfs_for po (pfi_rng1 T.b_range (pfa_cons (pf_cb call_lenAny p_len T.b_len (pfa_cons (pf_fld (pf_var 0)) pfa_nil)) pfa_nil)) (pfg_n sc.nd)
 (pfb_cons (pfs_set (i := 4) sc.nd (pf_m1 PySem.F.slot_str_find PySem.F.type_str_find mt_find p_find (pf_var 1) (pf_ixA hu (pf_ixA hu (pf_fld (pf_var 0)) (pf_var 3)) pf_int)))
 (pfb_one (pfs_while (fun _ => 1000000) po (pft_cmp op_ge p_ge (pf_var 4) pf_int)
 (pfb_cons (pfs_drop (pf_append (pf_var 2) (pfa_cons (pf_tup (pfa_cons (pf_var 3) (pfa_cons (pf_var 4) pfa_nil))) pfa_nil)))
 (pfb_one (pfs_set (i := 4) sc.nd (pf_mN PySem.F.slot_str_find PySem.F.type_str_find mt_find3 p_find3 (pf_var 1) (pfa_cons (pf_ixA hu (pf_ixA hu (pf_fld (pf_var 0)) (pf_var 3)) pf_int) (pfa_cons (pf_op op_addAny p_add (pf_var 4) pf_int) pfa_nil))))))))))
 (pfb_one (pfs_ret (pf_var 2)))))⟩
theorem sc_Rules__replaced : FnScope N_Rules__replaced P_Rules__replaced (defScope s_Rules__replaced) := ⟨rfl, rfl, rfl, by decide +kernel, rfl, by decide +kernel, by decide +kernel⟩
theorem ok_Rules__replaced (T : Txt w K mg a) : FnOk P w K mg base (L2.CX P w) 1 a.f_Rules__replaced a.fd_Rules__replaced P_Rules__replaced (spD K 4 (fn_Rules__replaced a.toCs)) := by
  have sc := sc_Rules__replaced
  refine def_ok2 (k := 0) (g := g_Rules__replaced a.toCs) T.F_Rules__replaced sc_Rules__replaced rfl rfl (by decide) fun cdv A outer s H E hr => ?_
  have hu : (cxOf (L2.CX P w) P w K mg base N_Rules__replaced "Rules._replaced" (defScope s_Rules__replaced) a.f_Rules__replaced cdv A outer s H E).A.units + 200 < cLine := by
    have := hr.un
    show (A.deeper _).units + 200 < cLine
    omega
  have tk : Takes (cxOf (L2.CX P w) P w K mg base N_Rules__replaced "Rules._replaced" (defScope s_Rules__replaced) a.f_Rules__replaced cdv A outer s H E) (fun cls d _ H => E cls d H) := takes_of rfl rfl rfl rfl
  have hx := fun σ => passAt tk σ
  have po : PassesOwn (model (cxOf (L2.CX P w) P w K mg base N_Rules__replaced "Rules._replaced" (defScope s_Rules__replaced) a.f_Rules__replaced cdv A outer s H E).prog (cxOf (L2.CX P w) P w K mg base N_Rules__replaced "Rules._replaced" (defScope s_Rules__replaced) a.f_Rules__replaced cdv A outer s H E).w) (cxOf (L2.CX P w) P w K mg base N_Rules__replaced "Rules._replaced" (defScope s_Rules__replaced) a.f_Rules__replaced cdv A outer s H E).A (cxOf (L2.CX P w) P w K mg base N_Rules__replaced "Rules._replaced" (defScope s_Rules__replaced) a.f_Rules__replaced cdv A outer s H E).env (cxOf (L2.CX P w) P w K mg base N_Rules__replaced "Rules._replaced" (defScope s_Rules__replaced) a.f_Rules__replaced cdv A outer s H E).xe := passes_of rfl
  exact ⟨_, (pfb_cons (pfs_asg (pf_ixA hu (pf_fld (pf_var 0)) (pf_var 2)) (pfg_t (pfgs_cons (pfg_n sc.nd) (pfgs_cons (pfg_n sc.nd) pfgs_nil))))
 (pfb_one (pfs_ret (pf_op op_addAny p_add (pf_op op_addAny p_add (pf_sl (pf_var 1) pfo_none (pfo_some (pf_var 3))) (pf_var 5)) (pf_sl (pf_var 1) (pfo_some (pf_op op_addAny p_add (pf_var 3) (pf_cb call_lenAny p_len T.b_len (pfa_cons (pf_var 4) pfa_nil)))) pfo_none)))))⟩
theorem sc_Rules_reached : FnScope N_Rules_reached P_Rules_reached (defScope s_Rules_reached) := ⟨rfl, rfl, rfl, by decide +kernel, rfl, by decide +kernel, by decide +kernel⟩
theorem ok_Rules_reached (T : Txt w K mg a) : FnOk P w K mg base (L2.CX P w) 2 a.f_Rules_reached a.fd_Rules_reached P_Rules_reached (spD K 3 (fn_Rules_reached a.toCs)) := by
  have G_Rules__replaced : FnOk P w K mg base (L2.CX P w) 1 a.f_Rules__replaced a.fd_Rules__replaced P_Rules__replaced (spD K 4 (fn_Rules__replaced a.toCs)) := ok_Rules__replaced T
  have G_Rules_places : FnOk P w K mg base (L2.CX P w) 1 a.f_Rules_places a.fd_Rules_places P_Rules_places (spD K 2 (fn_Rules_places a.toCs)) := ok_Rules_places T
  have sc := sc_Rules_reached
  refine def_ok2 (k := 1) (g := g_Rules_reached a.toCs) T.F_Rules_reached sc_Rules_reached rfl rfl (by decide) fun cdv A outer s H E hr => ?_
  have hu : (cxOf (L2.CX P w) P w K mg base N_Rules_reached "Rules.reached" (defScope s_Rules_reached) a.f_Rules_reached cdv A outer s H E).A.units + 200 < cLine := by
    have := hr.un
    show (A.deeper _).units + 200 < cLine
    omega
  have tk : Takes (cxOf (L2.CX P w) P w K mg base N_Rules_reached "Rules.reached" (defScope s_Rules_reached) a.f_Rules_reached cdv A outer s H E) (fun cls d _ H => E cls d H) := takes_of rfl rfl rfl rfl
  have hx := fun σ => passAt tk σ
  have po : PassesOwn (model (cxOf (L2.CX P w) P w K mg base N_Rules_reached "Rules.reached" (defScope s_Rules_reached) a.f_Rules_reached cdv A outer s H E).prog (cxOf (L2.CX P w) P w K mg base N_Rules_reached "Rules.reached" (defScope s_Rules_reached) a.f_Rules_reached cdv A outer s H E).w) (cxOf (L2.CX P w) P w K mg base N_Rules_reached "Rules.reached" (defScope s_Rules_reached) a.f_Rules_reached cdv A outer s H E).A (cxOf (L2.CX P w) P w K mg base N_Rules_reached "Rules.reached" (defScope s_Rules_reached) a.f_Rules_reached cdv A outer s H E).env (cxOf (L2.CX P w) P w K mg base N_Rules_reached "Rules.reached" (defScope s_Rules_reached) a.f_Rules_reached cdv A outer s H E).xe := passes_of rfl
  exact ⟨_, (pfb_cons (pfs_set (i := 3) sc.nd (pf_lst (pfa_cons (pf_var 1) pfa_nil)))
 (pfb_cons (pfs_for po (pfi_rng1 T.b_range (pfa_cons (pf_var 2) pfa_nil)) (pfg_n sc.nd)
 (pfb_cons (pfs_setN (i := 5) sc.nd pn_dK)
 (pfb_cons (pfs_for po (pfi_any (pf_var 3)) (pfg_n sc.nd)
 (pfb_one (pfs_for po (pfi_any (pf_meth [false, false] (pf_var 0) T.k_Rules T.M_Rules_places G_Rules_places (hr.mono (by decide)) T.B_Rules_places hx (pfa_cons (pf_var 6) pfa_nil))) (pfg_t (pfgs_cons (pfg_n sc.nd) (pfgs_cons (pfg_n sc.nd) pfgs_nil)))
 (pfb_cons (pfs_put (by omega) pf_bl (pf_var 5) (pf_meth [false, false, false, false] (pf_var 0) T.k_Rules T.M_Rules__replaced G_Rules__replaced (hr.mono (by decide)) T.B_Rules__replaced hx (pfa_cons (pf_var 6) (pfa_cons (pf_var 7) (pfa_cons (pf_var 8) pfa_nil)))))
 (pfb_one (pfs_if (pft_cmp op_gt p_gt (pf_cb call_lenAny p_len T.b_len (pfa_cons (pf_var 5) pfa_nil)) (pf_gv T.g_MOST_STRINGS fun _ => .int _))
 (pfb_one (pfs_raise rfl tk PySem.F.excBase_ValueError T.x_TooMany T.c_TooMany T.p_TooMany (raises_own T.s_TooMany T.y_TooMany)))
 pfb_nil))))))
 (pfb_one (pfs_set (i := 3) sc.nd (PN.pf (pn_cb (cr_sortA hu) pn_sortA T.b_sorted (pfa_cons (pf_var 5) pfa_nil))))))))
 (pfb_one (pfs_ret (pf_var 3)))))⟩
theorem sc__law_next : FnScope N__law_next P__law_next (defScope s__law_next) := ⟨rfl, rfl, rfl, by decide +kernel, rfl, by decide +kernel, by decide +kernel⟩
theorem ok__law_next (T : Txt w K mg a) : FnOk P w K mg base (L2.CX P w) 1 a.f__law_next a.fd__law_next P__law_next (spD K 2 (fn__law_next a.toCs)) := by
  have sc := sc__law_next
  refine def_ok2 (k := 0) (g := g__law_next a.toCs) T.F__law_next sc__law_next rfl rfl (by decide) fun cdv A outer s H E hr => ?_
  have hu : (cxOf (L2.CX P w) P w K mg base N__law_next "_law_next" (defScope s__law_next) a.f__law_next cdv A outer s H E).A.units + 200 < cLine := by
    have := hr.un
    show (A.deeper _).units + 200 < cLine
    omega
  have tk : Takes (cxOf (L2.CX P w) P w K mg base N__law_next "_law_next" (defScope s__law_next) a.f__law_next cdv A outer s H E) (fun cls d _ H => E cls d H) := takes_of rfl rfl rfl rfl
  have hx := fun σ => passAt tk σ
  have po : PassesOwn (model (cxOf (L2.CX P w) P w K mg base N__law_next "_law_next" (defScope s__law_next) a.f__law_next cdv A outer s H E).prog (cxOf (L2.CX P w) P w K mg base N__law_next "_law_next" (defScope s__law_next) a.f__law_next cdv A outer s H E).w) (cxOf (L2.CX P w) P w K mg base N__law_next "_law_next" (defScope s__law_next) a.f__law_next cdv A outer s H E).A (cxOf (L2.CX P w) P w K mg base N__law_next "_law_next" (defScope s__law_next) a.f__law_next cdv A outer s H E).env (cxOf (L2.CX P w) P w K mg base N__law_next "_law_next" (defScope s__law_next) a.f__law_next cdv A outer s H E).xe := passes_of rfl
  exact ⟨_, (pfb_cons (pfs_setN (i := 2) sc.nd pn_dK)
 (pfb_cons (pfs_for po (pfi_any (pf_var 1)) (pfg_n sc.nd)
 (pfb_one (pfs_for po (pfi_any (pf_var 0)) (pfg_t (pfgs_cons (pfg_n sc.nd) (pfgs_cons (pfg_n sc.nd) pfgs_nil)))
 (pfb_one (pfs_for po (pfi_rng1 T.b_range (pfa_cons (pf_cb call_lenAny p_len T.b_len (pfa_cons (pf_var 3) pfa_nil)) pfa_nil)) (pfg_n sc.nd)
 (pfb_one (pfs_if (pft_cmp (op_eqD (by omega)) p_eq (pf_sl (pf_var 3) (pfo_some (pf_var 6)) (pfo_some (pf_op op_addAny p_add (pf_var 6) (pf_cb call_lenAny p_len T.b_len (pfa_cons (pf_var 4) pfa_nil))))) (pf_var 4))
 (pfb_one (pfs_put (by omega) pf_bl (pf_var 2) (pf_op op_addAny p_add (pf_op op_addAny p_add (pf_sl (pf_var 3) pfo_none (pfo_some (pf_var 6))) (pf_var 5)) (pf_sl (pf_var 3) (pfo_some (pf_op op_addAny p_add (pf_var 6) (pf_cb call_lenAny p_len T.b_len (pfa_cons (pf_var 4) pfa_nil)))) pfo_none))))
 pfb_nil)))))))
 (pfb_one (pfs_ret (PN.pf (pn_cb (cr_sortA hu) pn_sortA T.b_sorted (pfa_cons (pf_var 2) pfa_nil)))))))⟩
theorem sc__law_many : FnScope N__law_many P__law_many (defScope s__law_many) := ⟨rfl, rfl, rfl, by decide +kernel, rfl, by decide +kernel, by decide +kernel⟩
theorem ok__law_many (T : Txt w K mg a) : FnOk P w K mg base (L2.CX P w) 4 a.f__law_many a.fd__law_many P__law_many (spD K 1 (fn__law_many a.toCs)) := by
  have G_Rules___init__ : FnOk P w K mg base (L2.CX P w) 2 a.f_Rules___init__ a.fd_Rules___init__ P_Rules___init__ (spD K 2 (fn_Rules___init__ a.toCs)) := ok_Rules___init__ T
  have G_Rules_reached : FnOk P w K mg base (L2.CX P w) 2 a.f_Rules_reached a.fd_Rules_reached P_Rules_reached (spD K 3 (fn_Rules_reached a.toCs)) := ok_Rules_reached T
  have sc := sc__law_many
  refine def_ok2 (k := 3) (g := g__law_many a.toCs) T.F__law_many sc__law_many rfl rfl (by decide) fun cdv A outer s H E hr => ?_
  have hu : (cxOf (L2.CX P w) P w K mg base N__law_many "_law_many" (defScope s__law_many) a.f__law_many cdv A outer s H E).A.units + 200 < cLine := by
    have := hr.un
    show (A.deeper _).units + 200 < cLine
    omega
  have tk : Takes (cxOf (L2.CX P w) P w K mg base N__law_many "_law_many" (defScope s__law_many) a.f__law_many cdv A outer s H E) (fun cls d _ H => E cls d H) := takes_of rfl rfl rfl rfl
  have hx := fun σ => passAt tk σ
  have po : PassesOwn (model (cxOf (L2.CX P w) P w K mg base N__law_many "_law_many" (defScope s__law_many) a.f__law_many cdv A outer s H E).prog (cxOf (L2.CX P w) P w K mg base N__law_many "_law_many" (defScope s__law_many) a.f__law_many cdv A outer s H E).w) (cxOf (L2.CX P w) P w K mg base N__law_many "_law_many" (defScope s__law_many) a.f__law_many cdv A outer s H E).A (cxOf (L2.CX P w) P w K mg base N__law_many "_law_many" (defScope s__law_many) a.f__law_many cdv A outer s H E).env (cxOf (L2.CX P w) P w K mg base N__law_many "_law_many" (defScope s__law_many) a.f__law_many cdv A outer s H E).xe := passes_of rfl
  exact ⟨_, (pfb_cons (pfs_set (i := 1) sc.nd (PN.pf (pn_make [false] T.K_Rules T.k_Rules G_Rules___init__ (hr.mono (by decide)) T.c_Rules T.B_Rules___init__ hx (pfa_cons (PN.pf (pn_lc (own := [("_law_k", 4)]) sc.nd (pfi_rng1 T.b_range (pfa_cons (pf_var 0) pfa_nil)) (blkOk_by (N := N__law_many) (sc := defScope s__law_many) (by decide +kernel)) (fun _ _ _ _ _ => ⟨_, (pgc_n sc.nd)⟩) (fun _ _ _ _ _ => ⟨_, ptf_nil⟩) (fun _ _ _ _ _ => ⟨_, (pf_tup (pfa_cons pf_str (pfa_cons (pf_op op_addAny p_add pf_str (pf_cty call_str_int p_str T.b_str (pfa_cons (pf_var 4) pfa_nil))) pfa_nil)))⟩))) pfa_nil))))
 (pfb_cons (pfs_tryAs (c0 := a.c_TooMany) (i := 3) (gsA := S1__law_many a.toCs) (gs := U1__law_many a.toCs) rfl rfl sc.nd ⟨rfl, by decide, .inl T.c_StairError⟩ tk T.m_TooMany_StairError (fun W pn xe tk2 => ⟨_, (pfb_one (pfs_set (i := 2) sc.nd (pf_meth [false, false, false] (pf_var 1) T.k_Rules T.M_Rules_reached G_Rules_reached (hr.mono (by decide)) T.B_Rules_reached (fun σ => passAt tk2 σ) (pfa_cons pf_str (pfa_cons pf_int pfa_nil)))))⟩)
 (fun ae oe pn hz hd => ⟨_, (pfb_one (pfs_ret (pf_and (pf_cb (call_isE T.E_TooMany hz hd) (p_isER T.q_TooMany_TooMany) T.b_isinstance (pfa_cons (pf_var 3) (pfa_cons (pf_gv (v := .ref a.c_TooMany) ⟨_, T.c_TooMany, rfl⟩ fun _ => .ref _) pfa_nil))) (pf_one (pf_cmp op_gt p_gt (pf_var 0) pf_int)))))⟩) (V1__law_many a.toCs))
 (pfb_one (pfs_ret (pf_and (pf_cmp (op_eqD (by omega)) p_eq (pf_var 0) pf_int) (pf_one (pf_cmp (op_eqD (by omega)) p_eq (pf_var 2) (PN.pf (pn_cb (cr_sortA hu) pn_sortA T.b_sorted (pfa_cons (PN.pf (pn_lc (own := [("_law_k", 4)]) sc.nd (pfi_rng1 T.b_range (pfa_cons (pf_var 0) pfa_nil)) (blkOk_by (N := N__law_many) (sc := defScope s__law_many) (by decide +kernel)) (fun _ _ _ _ _ => ⟨_, (pgc_n sc.nd)⟩) (fun _ _ _ _ _ => ⟨_, ptf_nil⟩) (fun _ _ _ _ _ => ⟨_, (pf_op op_addAny p_add pf_str (pf_cty call_str_int p_str T.b_str (pfa_cons (pf_var 4) pfa_nil)))⟩))) pfa_nil))))))))))⟩
theorem sc_law : FnScope N_law P_law (defScope s_law) := ⟨rfl, rfl, rfl, by decide +kernel, rfl, by decide +kernel, by decide +kernel⟩
theorem ok_law (T : Txt w K mg a) : FnOk P w K mg base (L2.CX P w) 5 a.f_law a.fd_law P_law (spD K 1 (fn_law a.toCs)) := by
  have G_Rules___init__ : FnOk P w K mg base (L2.CX P w) 2 a.f_Rules___init__ a.fd_Rules___init__ P_Rules___init__ (spD K 2 (fn_Rules___init__ a.toCs)) := ok_Rules___init__ T
  have G_Rules_reached : FnOk P w K mg base (L2.CX P w) 2 a.f_Rules_reached a.fd_Rules_reached P_Rules_reached (spD K 3 (fn_Rules_reached a.toCs)) := ok_Rules_reached T
  have G__law_draws : FnOk P w K mg base (L2.CX P w) 1 a.f__law_draws a.fd__law_draws P__law_draws (spD K 2 (fn__law_draws a.toCs)) := ok__law_draws T
  have G__law_many : FnOk P w K mg base (L2.CX P w) 4 a.f__law_many a.fd__law_many P__law_many (spD K 1 (fn__law_many a.toCs)) := ok__law_many T
  have G__law_next : FnOk P w K mg base (L2.CX P w) 1 a.f__law_next a.fd__law_next P__law_next (spD K 2 (fn__law_next a.toCs)) := ok__law_next T
  have G__law_string : FnOk P w K mg base (L2.CX P w) 1 a.f__law_string a.fd__law_string P__law_string (spD K 2 (fn__law_string a.toCs)) := ok__law_string T
  have sc := sc_law
  refine def_ok2 (k := 4) (g := g_law a.toCs) T.F_law sc_law rfl rfl (by decide) fun cdv A outer s H E hr => ?_
  have hu : (cxOf (L2.CX P w) P w K mg base N_law "law" (defScope s_law) a.f_law cdv A outer s H E).A.units + 200 < cLine := by
    have := hr.un
    show (A.deeper _).units + 200 < cLine
    omega
  have tk : Takes (cxOf (L2.CX P w) P w K mg base N_law "law" (defScope s_law) a.f_law cdv A outer s H E) (fun cls d _ H => E cls d H) := takes_of rfl rfl rfl rfl
  have hx := fun σ => passAt tk σ
  have po : PassesOwn (model (cxOf (L2.CX P w) P w K mg base N_law "law" (defScope s_law) a.f_law cdv A outer s H E).prog (cxOf (L2.CX P w) P w K mg base N_law "law" (defScope s_law) a.f_law cdv A outer s H E).w) (cxOf (L2.CX P w) P w K mg base N_law "law" (defScope s_law) a.f_law cdv A outer s H E).A (cxOf (L2.CX P w) P w K mg base N_law "law" (defScope s_law) a.f_law cdv A outer s H E).env (cxOf (L2.CX P w) P w K mg base N_law "law" (defScope s_law) a.f_law cdv A outer s H E).xe := passes_of rfl
  exact ⟨_, (pfb_cons (pfs_set (i := 1) sc.nd (pf_call [false, false] G__law_draws (hr.mono (by decide)) T.m__law_draws (T.F__law_draws).kp T.B__law_draws hx (pfa_cons (pf_var 0) (pfa_cons pf_int pfa_nil))))
 (pfb_cons (pfs_setN (i := 2) sc.nd (pn_lst pfa_nil))
 (pfb_cons (pfs_for po (pfi_rng1 T.b_range (pfa_cons (pf_op op_mod p_mod (pf_cty call_intAny p_int T.b_int (pfa_cons (pf_ixA hu (pf_var 1) pf_int) pfa_nil)) pf_int) pfa_nil)) (pfg_n sc.nd)
 (pfb_one (pfs_drop (pf_append (pf_var 2) (pfa_cons (pf_tup (pfa_cons (pf_op op_addAny p_add (pf_ixA hu pf_str (pf_op op_mod p_mod (pf_cty call_intAny p_int T.b_int (pfa_cons (pf_op op_fdiv p_div (pf_ixA hu (pf_var 1) (pf_op op_addAny p_add pf_int (pf_op op_mul p_mul pf_int (pf_var 3)))) pf_int) pfa_nil)) pf_int)) (pf_call [false, false] G__law_string (hr.mono (by decide)) T.m__law_string (T.F__law_string).kp T.B__law_string hx (pfa_cons (pf_ixA hu (pf_var 1) (pf_op op_addAny p_add pf_int (pf_op op_mul p_mul pf_int (pf_var 3)))) (pfa_cons pf_int pfa_nil)))) (pfa_cons (pf_call [false, false] G__law_string (hr.mono (by decide)) T.m__law_string (T.F__law_string).kp T.B__law_string hx (pfa_cons (pf_ixA hu (pf_var 1) (pf_op op_addAny p_add pf_int (pf_op op_mul p_mul pf_int (pf_var 3)))) (pfa_cons pf_int pfa_nil))) pfa_nil))) pfa_nil)))))
 (pfb_cons (pfs_set (i := 4) sc.nd (pf_op op_addAny p_add (pf_call [false, false] G__law_string (hr.mono (by decide)) T.m__law_string (T.F__law_string).kp T.B__law_string hx (pfa_cons (pf_ixA hu (pf_var 1) pf_int) (pfa_cons pf_int pfa_nil))) (pf_call [false, false] G__law_string (hr.mono (by decide)) T.m__law_string (T.F__law_string).kp T.B__law_string hx (pfa_cons (pf_ixA hu (pf_var 1) pf_int) (pfa_cons pf_int pfa_nil)))))
 (pfb_cons (pfs_set (i := 5) sc.nd (pf_op op_mod p_mod (pf_cty call_intAny p_int T.b_int (pfa_cons (pf_ixA hu (pf_var 1) pf_int) pfa_nil)) pf_int))
 (pfb_cons (pfs_set (i := 6) sc.nd (pf_lst (pfa_cons (pf_var 4) pfa_nil)))
 (pfb_cons (pfs_set (i := 7) sc.nd (PN.pf (pn_make [false] T.K_Rules T.k_Rules G_Rules___init__ (hr.mono (by decide)) T.c_Rules T.B_Rules___init__ hx (pfa_cons (pf_var 2) pfa_nil))))
 (pfb_cons (pfs_for po (pfi_rng1 T.b_range (pfa_cons (pf_op op_addAny p_add (pf_var 5) pf_int) pfa_nil)) (pfg_n sc.nd)
 (pfb_cons (pfs_if (pft_cmp op_gt p_gt (pf_cb call_lenAny p_len T.b_len (pfa_cons (pf_var 6) pfa_nil)) pf_int)
 (pfb_one (pfs_ret pf_bl))
 pfb_nil)
 (pfb_cons (pfs_set (i := 8) sc.nd (pf_meth [false, false, false] (pf_var 7) T.k_Rules T.M_Rules_reached G_Rules_reached (hr.mono (by decide)) T.B_Rules_reached hx (pfa_cons (pf_var 4) (pfa_cons (pf_var 3) pfa_nil))))
 (pfb_cons (pfs_if (pft_w (pfw_or (pft_not (pft_tru (pf_cb call_isi p_isi T.b_isinstance (pfa_cons (pf_var 8) (pfa_cons (pf_ty T.b_list) pfa_nil))))) (pfw_or1 (pft_cmp (op_neD (by omega)) p_ne (pf_var 8) (pf_var 6)))))
 (pfb_one (pfs_ret pf_bl))
 pfb_nil)
 (pfb_one (pfs_set (i := 6) sc.nd (pf_call [false, false] G__law_next (hr.mono (by decide)) T.m__law_next (T.F__law_next).kp T.B__law_next hx (pfa_cons (pf_var 2) (pfa_cons (pf_var 6) pfa_nil)))))))))
 (pfb_one (pfs_ret (pf_or (pf_cmp op_gt p_gt (pf_op op_mod p_mod (pf_cty call_intAny p_int T.b_int (pfa_cons (pf_ixA hu (pf_var 1) pf_int) pfa_nil)) pf_int) pf_int) (pf_one (pf_call [false] G__law_many (hr.mono (by decide)) T.m__law_many (T.F__law_many).kp T.B__law_many hx (pfa_cons (pf_op op_addAny p_add pf_int (pf_op op_mod p_mod (pf_cty call_intAny p_int T.b_int (pfa_cons (pf_ixA hu (pf_var 1) pf_int) pfa_nil)) pf_int)) pfa_nil))))))))))))))⟩
end

end LW

namespace LW
open PySem PySem.Spec PyProof.Rows L2 DL Builtin Builtin.Str PySem.StrLaws
variable {c : Cs}
/-! ### the places of a text in another -/
def hit (s o : Str) (i : Nat) : Bool := decide (i + o.length ≤ s.length) && subAt s o i
def hits (s o : Str) (lo : Nat) : List Nat := (List.range' lo (s.length + 1 - lo)).filter (hit s o)
theorem occ_full (s sub : Str) (hi : Nat) : ∀ (l : List Nat) (st : Array Nat × Nat), 1 ≤ st.fst.size → (forIn l st (occBody s sub hi 1)).run.fst = st.fst
  | [], st, _ => rfl
  | a :: l, st, h => by
    rw [List.forIn_cons]
    unfold occBody
    rw [if_neg (fun z => absurd z.1.1.1 (by omega))]
    exact occ_full s sub hi l _ h
theorem occ_first (s sub : Str) : ∀ (l : List Nat) (free : Nat), (∀ i ∈ l, free ≤ i) → (forIn l ((#[] : Array Nat), free) (occBody s sub s.length 1)).run.fst.toList = (l.filter (hit s sub)).take 1
  | [], free, _ => rfl
  | a :: l, free, hf => by
    rw [List.forIn_cons]
    have ha : free ≤ a := hf a List.mem_cons_self
    unfold occBody
    by_cases hc : hit s sub a = true
    · have hc' : a + sub.length ≤ s.length ∧ subAt s sub a = true := by simpa [hit] using hc
      rw [if_pos ⟨⟨⟨by simp, ha⟩, hc'.1⟩, hc'.2⟩, List.filter_cons_of_pos hc]
      have := occ_full s sub s.length l (#[a], a + sub.length) (by simp)
      show (forIn l ((#[] : Array Nat).push a, a + sub.length) (occBody s sub s.length 1)).run.fst.toList = _
      rw [show ((#[] : Array Nat).push a, a + sub.length) = (#[a], a + sub.length) from rfl, this]
      rfl
    · have hc' : ¬ (a + sub.length ≤ s.length ∧ subAt s sub a = true) := by simpa [hit] using hc
      rw [if_neg (fun z => hc' ⟨z.1.2, z.2⟩), List.filter_cons_of_neg hc]
      exact occ_first s sub l free fun i hi => hf i (List.mem_cons_of_mem _ hi)
theorem occ1 (s sub : Str) (lo : Nat) : occurrences s sub lo s.length 1 = (hits s sub lo).take 1 := by
  rw [occ_eq]
  exact occ_first s sub _ lo fun i hi => by
    have := List.mem_range'.mp hi
    obtain ⟨k, _, rfl⟩ := this
    omega
def headI : List Nat → Int
  | k :: _ => k
  | [] => -1
theorem find_hits (s o : Str) : Txt.find s o = headI (hits s o 0) := by
  show (match occurrences s o 0 s.length 1 with | i :: _ => (i : Int) | [] => -1) = _
  rw [occ1]
  cases hits s o 0 <;> rfl
theorem find3_hits (s o : Str) (i : Nat) : Txt.find3 s o (i : Int) = headI (hits s o i) := by
  show (match occurrences s o (fromIndex s.length (i : Int)) s.length 1 with | k :: _ => (k : Int) | [] => -1) = _
  have e : fromIndex s.length (i : Int) = i := by
    unfold fromIndex
    rw [if_neg (by omega), Int.max_eq_right (by omega)]
    exact Int.toNat_natCast i
  rw [e, occ1]
  cases hits s o i <;> rfl
theorem filter_next (p : Nat → Bool) : ∀ (n lo k : Nat) (rest : List Nat), (List.range' lo n).filter p = k :: rest → lo ≤ k ∧ k < lo + n ∧ rest = (List.range' (k + 1) (lo + n - (k + 1))).filter p
  | 0, lo, k, rest, h => by simp at h
  | n + 1, lo, k, rest, h => by
    rw [List.range'_succ] at h
    by_cases hp : p lo = true
    · rw [List.filter_cons_of_pos hp] at h
      simp only [List.cons.injEq] at h
      obtain ⟨rfl, rfl⟩ := h
      exact ⟨Nat.le_refl _, by omega, by congr 2; omega⟩
    · rw [List.filter_cons_of_neg hp] at h
      obtain ⟨h1, h2, h3⟩ := filter_next p n (lo + 1) k rest h
      exact ⟨by omega, by omega, by rw [h3]; congr 2; omega⟩
theorem hits_next {s o : Str} {lo k : Nat} {rest : List Nat} (h : hits s o lo = k :: rest) : lo ≤ k ∧ k ≤ s.length ∧ rest = hits s o (k + 1) := by
  obtain ⟨h1, h2, h3⟩ := filter_next _ _ _ _ _ h
  refine ⟨h1, by omega, ?_⟩
  rw [h3]
  unfold hits
  congr 2; omega
theorem hits_len (s o : Str) (lo : Nat) : (hits s o lo).length ≤ s.length + 1 := by
  unfold hits
  refine Nat.le_trans (List.length_filter_le _ _) ?_
  rw [List.length_range']; omega

/-! ### places -/
def rsD (rs : List (Str × Str)) : List D := rs.map fun p => .tup [.str p.1, .str p.2]
def inst (c : Cs) (rs : List (Str × Str)) : D := .ins c.c_Rules [("_rules", .lst (rsD rs))]
theorem rules_get {rs : List (Str × Str)} : (inst c rs) = .ins c.c_Rules [("_rules", .lst (rsD rs))] := rfl
theorem gfld_rules {rs : List (Str × Str)} : gFld "_rules" (inst c rs) = some (.lst (rsD rs)) := by
  unfold inst; rw [e_gfld]; rfl
theorem rs_get {rs : List (Str × Str)} {j : Nat} {o n : Str} (h : rs[j]? = some (o, n)) : gIxA (.lst (rsD rs)) (.int (j : Int)) = some (.tup [.str o, .str n]) := ixA_lst (by simp [rsD, h])
theorem tup0 {a b : D} : gIxA (.tup [a, b]) (.int 0) = some a := ixA_tup (n := 0) rfl
theorem tup1 {a b : D} : gIxA (.tup [a, b]) (.int 1) = some b := ixA_tup (n := 1) rfl
def tags (j : Nat) (l : List Nat) : List D := l.map fun (k : Nat) => .tup [.int (j : Int), .int (k : Int)]
@[simp] theorem e_fM {g : D → List D → Option D} {fo : M Vl} {fa : M (List Vl)} {ρ : Rho} : fM g fo fa ρ = M.bnd fo (fun o ρ => if isStr ρ o = true then M.bnd fa (fun vs => liftM g o vs) ρ else .bad) ρ := rfl
@[simp] theorem e_isStr {ρ : Rho} {o : Vl} : isStr ρ o = (match look ρ o with | some (.str _) => true | _ => false) := rfl
@[simp] theorem e_liftM {g : D → List D → Option D} {ρ : Rho} {o : Vl} {vls : List Vl} : liftM g o vls ρ = (match look ρ o, lookL ρ vls with
  | some a, some xs => (match g a xs with | some z => .ok (.d z) ρ | none => .bad)
  | _, _ => .bad) := rfl
theorem places_while {rs : List (Str × Str)} {s o n : Str} {j : Nat} (hr : rs[j]? = some (o, n)) : ∀ (l : List Nat) (fuel lo : Nat) (F : List D), hits s o lo = l → l.length < fuel → F.length + l.length ≤ 500000 →
    ∃ x, whileF fuel (fB (fOp gGe (fVar 4) (fC (.int 0)))) (L1_Rules_places c) [.d (inst c rs), .d (.str s), .own (.lst F) true, .d (.int j), .d (.int (headI l))] = .nx [.d (inst c rs), .d (.str s), .own (.lst (F ++ tags j l)) true, .d (.int j), .d (.int x)]
  | [], fuel + 1, lo, F, h, hf, hF => by
    refine ⟨-1, ?_⟩
    unfold whileF
    simp [headI, tags]
  | k :: l, fuel + 1, lo, F, h, hf, hF => by
    obtain ⟨h1, h2, h3⟩ := hits_next h
    obtain ⟨x, ih⟩ := places_while hr l fuel (k + 1) (F ++ [.tup [.int j, .int k]]) h3.symm (by simp at hf; omega) (by simp at hF ⊢; omega)
    refine ⟨x, ?_⟩
    have hk : (0 : Int) ≤ (k : Int) := by omega
    have hF' : F.length < 1000000 := by simp at hF; omega
    have e1 : gFld "_rules" (inst c rs) = some (.lst (rsD rs)) := gfld_rules
    have e2 := rs_get hr
    have e3 : gFind3 (.str s) [.str o, .int ((k : Int) + 1)] = some (.int (headI l)) := by
      show some (D.int (Txt.find3 s o ((k : Int) + 1))) = _
      rw [show ((k : Int) + 1) = ((k + 1 : Nat) : Int) by omega, find3_hits, ← h3]
    have turn : L1_Rules_places c [.d (inst c rs), .d (.str s), .own (.lst F) true, .d (.int j), .d (.int (k : Int))] = .nx [.d (inst c rs), .d (.str s), .own (.lst (F ++ [.tup [.int j, .int k]])) true, .d (.int j), .d (.int (headI l))] := by
      simp [L1_Rules_places, hF', e1, e2, tup0, e3]
    have et : F ++ tags j (k :: l) = (F ++ [.tup [.int j, .int k]]) ++ tags j l := by simp [tags]
    rw [et, ← ih]
    show whileF (fuel + 1) _ _ [.d (inst c rs), .d (.str s), .own (.lst F) true, .d (.int j), .d (.int (k : Int))] = _
    conv => lhs; unfold whileF
    simp [hk, turn]
def allTags (s : Str) : Nat → List (Str × Str) → List D
  | _, [] => []
  | j, (o, _) :: rs => tags j (hits s o 0) ++ allTags s (j + 1) rs
theorem allTags_snoc (s : Str) : ∀ (rs : List (Str × Str)) (j : Nat) (o n : Str), allTags s j (rs ++ [(o, n)]) = allTags s j rs ++ tags (j + rs.length) (hits s o 0)
  | [], j, o, n => by simp [allTags]
  | (o', n') :: rs, j, o, n => by simp [allTags, allTags_snoc s rs (j + 1) o n, Nat.add_comm, Nat.add_left_comm]
def plI (c : Cs) (rs : List (Str × Str)) (s : Str) (i : Nat) (ρ : Rho) : Prop := ∃ a b, ρ = [.d (inst c rs), .d (.str s), .own (.lst (allTags s 0 (rs.take i))) true, a, b] ∧ (allTags s 0 (rs.take i)).length ≤ i * (s.length + 1)
theorem places_ok {rs : List (Str × Str)} {s : Str} (hb : rs.length * (s.length + 1) ≤ 400000) (hs : s.length ≤ 1000) : ∃ r, fn_Rules_places c [.d (inst c rs), .d (.str s)] = .ok (.lst (allTags s 0 rs)) r := by
  have turn : ∀ (i : Nat) (x : D) (ρ : Rho), (rngD 0 rs.length)[i]? = some x → plI c rs s i ρ → GoI (fun r => NxI (plI c rs s (i + 1)) (L2_Rules_places c r)) (gN 3 x ρ) := by
    intro i x ρ hx ⟨a, b, e, hl⟩
    subst e
    obtain ⟨hi, rfl⟩ := rngD_get hx
    rw [Int.zero_add]
    cases hr : rs[i]? with
    | none => rw [List.getElem?_eq_none_iff] at hr; omega
    | some p =>
      obtain ⟨o, n⟩ := p
      have e1 : gFld "_rules" (inst c rs) = some (.lst (rsD rs)) := gfld_rules
      have e2 := rs_get hr
      have e3 : gFind (.str s) [.str o] = some (.int (headI (hits s o 0))) := by
        show some (D.int (Txt.find s o)) = _
        rw [find_hits]
      have hm : (i + 1) * (s.length + 1) ≤ rs.length * (s.length + 1) := Nat.mul_le_mul_right _ (by omega)
      have hm2 : (i + 1) * (s.length + 1) = i * (s.length + 1) + (s.length + 1) := Nat.succ_mul _ _
      have hh := hits_len s o 0
      obtain ⟨y, ew⟩ := places_while (c := c) hr (hits s o 0) 1000000 0 (allTags s 0 (rs.take i)) rfl (by omega) (by omega)
      have et : allTags s 0 (rs.take (i + 1)) = allTags s 0 (rs.take i) ++ tags i (hits s o 0) := by
        rw [List.take_succ, hr]
        simp only [Option.toList]
        rw [allTags_snoc, List.length_take, Nat.min_eq_left (by omega), Nat.zero_add]
      simp only [e_gn, goi_some, List.set_cons_succ, List.set_cons_zero]
      unfold L2_Rules_places
      rw [e_seq]
      have e4 : fAsg (gN 4) (fM gFind (fVar 1) (fCons (fOp gIxA (fOp gIxA (fFld "_rules" (fVar 0)) (fVar 3)) (fC (.int 0))) fNil)) [.d (inst c rs), .d (.str s), .own (.lst (allTags s 0 (rs.take i))) true, .d (.int i), b] = .nx [.d (inst c rs), .d (.str s), .own (.lst (allTags s 0 (rs.take i))) true, .d (.int i), .d (.int (headI (hits s o 0)))] := by
        simp [e1, e2, tup0, e3]
      rw [e4]
      show NxI _ (fWhile _ _ _ _)
      unfold fWhile
      rw [ew, nxi_nx]
      refine ⟨_, _, by rw [et], ?_⟩
      rw [et, List.length_append]
      have : (tags i (hits s o 0)).length = (hits s o 0).length := by simp [tags]
      omega
  obtain ⟨r, er, a, b, e, hl⟩ := for_wish (I := plI c rs s) (rngD 0 rs.length) _ turn ⟨.un, .un, rfl, by simp [allTags]⟩
  subst e
  have e1 : gFld "_rules" (inst c rs) = some (.lst (rsD rs)) := gfld_rules
  have hl : rngOk (rs.length : Int) = true := rngOk_nat (by
    have := Nat.le_mul_of_pos_right rs.length (show 0 < s.length + 1 by omega)
    omega)
  have hlen : (rsD rs).length = rs.length := by simp [rsD]
  rw [rngD_len, List.take_length, List.take_zero, show allTags s 0 [] = [] from rfl] at er
  simp [fn_Rules_places, fnOf, g_Rules_places, e1, hlen, hl, er, outsOk, List.range, List.range.loop, isOwn, isPar]
/-! ### one application -/
def repl (s o n : Str) (k : Nat) : Str := cutS s none (some (k : Int)) ++ n ++ cutS s (some ((k : Int) + (o.length : Int))) none
theorem str_len (x y : Str) : (x ++ y).length = x.length + y.length := by
  show (x.cps ++ y.cps).size = _
  rw [Array.size_append]; rfl
theorem bound_of {n : Nat} (h : n ≤ 1000000) : bound n = true := decide_eq_true h
theorem gSl_str {z : Str} {lo hi : Option Int} (h : z.length ≤ 1000000) : gSl (.str z) lo hi = some (.str (cutS z lo hi)) := if_pos (bound_of h)
theorem gAdd_str {x y : Str} (h : x.length + y.length ≤ 1000000) : gAdd (.str x) (.str y) = some (.str (x ++ y)) := if_pos (bound_of h)
theorem gLen_str {x : Str} (h : x.length ≤ 1000000) : gLen [.str x] = some (.int x.length) := if_pos (bound_of h)
theorem repl_ok {rs : List (Str × Str)} {s o n : Str} {j k : Nat} (hr : rs[j]? = some (o, n)) (hs : s.length ≤ 1000) (ho : o.length ≤ 1000) (hn : n.length ≤ 1000) :
    ∃ r, fn_Rules__replaced c [.d (inst c rs), .d (.str s), .d (.int j), .d (.int k)] = .ok (.str (repl s o n k)) r := by
  have e1 : gFld "_rules" (inst c rs) = some (.lst (rsD rs)) := gfld_rules
  have e2 := rs_get hr
  have c1 := cutS_length s none (some (k : Int))
  have c2 := cutS_length s (some ((k : Int) + (o.length : Int))) none
  have e3 : ∀ lo hi, gSl (.str s) lo hi = some (.str (cutS s lo hi)) := fun lo hi => gSl_str (by omega)
  have e4 : gLen [.str o] = some (.int o.length) := gLen_str (by omega)
  have e5 : gAdd (.str (cutS s none (some (k : Int)))) (.str n) = some (.str (cutS s none (some (k : Int)) ++ n)) := gAdd_str (by omega)
  have e6 : gAdd (.str (cutS s none (some (k : Int)) ++ n)) (.str (cutS s (some ((k : Int) + (o.length : Int))) none)) = some (.str (repl s o n k)) := gAdd_str (by rw [str_len]; omega)
  simp [fn_Rules__replaced, fnOf, g_Rules__replaced, e1, e2, e3, e4, e5, e6, outsOk, List.range, List.range.loop, isOwn, isPar]
def ins' (d : List (Key × D)) (x : Str) : List (Key × D) := putA d (.inr x) (.bl true)
def allQ (s : Str) : Nat → List (Str × Str) → List (Nat × Nat × Str)
  | _, [] => []
  | j, (o, n) :: rs => (hits s o 0).map (fun (k : Nat) => (j, k, repl s o n k)) ++ allQ s (j + 1) rs
theorem allQ_tags (s : Str) : ∀ (rs : List (Str × Str)) (j : Nat), allTags s j rs = (allQ s j rs).map fun q => .tup [.int (q.1 : Int), .int (q.2.1 : Int)]
  | [], _ => rfl
  | (o, n) :: rs, j => by simp [allTags, allQ, tags, allQ_tags s rs (j + 1)]
theorem allQ_ok (s : Str) : ∀ (rs : List (Str × Str)) (j0 : Nat) (q : Nat × Nat × Str), q ∈ allQ s j0 rs → ∃ (i : Nat) (o n : Str), q.1 = j0 + i ∧ rs[i]? = some (o, n) ∧ q.2.2 = repl s o n q.2.1
  | [], _, _, h => by cases h
  | (o, n) :: rs, j0, q, h => by
    rcases List.mem_append.mp h with h | h
    · obtain ⟨k, _, rfl⟩ := List.mem_map.mp h
      exact ⟨0, o, n, rfl, rfl, rfl⟩
    · obtain ⟨i, o', n', h1, h2, h3⟩ := allQ_ok s rs (j0 + 1) q h
      exact ⟨i + 1, o', n', by omega, by simpa using h2, h3⟩
def outs (rs : List (Str × Str)) (s : Str) : List Str := rs.flatMap fun p => (hits s p.1 0).map (repl s p.1 p.2)
theorem allQ_outs (s : Str) : ∀ (rs : List (Str × Str)) (j : Nat), (allQ s j rs).map (fun q => q.2.2) = outs rs s
  | [], _ => rfl
  | (o, n) :: rs, j => by
    have := allQ_outs s rs (j + 1)
    simp [allQ, outs, this] at this ⊢
theorem ins_len (d : List (Key × D)) (x : Str) : d.length ≤ (ins' d x).length := by
  unfold ins' putA
  split
  · simp
  · simp
theorem fold_len : ∀ (xs : List Str) (d : List (Key × D)), d.length ≤ (xs.foldl ins' d).length
  | [], d => Nat.le_refl _
  | x :: xs, d => Nat.le_trans (ins_len d x) (fold_len xs (ins' d x))

structure RsOk (rs : List (Str × Str)) : Prop where
  len : ∀ o n, (o, n) ∈ rs → o.length ≤ 1000 ∧ n.length ≤ 1000
theorem foldl_take {xs : List Str} {i : Nat} {x : Str} {d : List (Key × D)} (h : xs[i]? = some x) : (xs.take (i + 1)).foldl ins' d = ins' ((xs.take i).foldl ins' d) x := by
  rw [List.take_succ, h, List.foldl_append]; rfl
def reI (c : Cs) (rs : List (Str × Str)) (s : Str) (d : List (Key × D)) (a1 a2 a3 a4 : Sl) (i : Nat) (ρ : Rho) : Prop := ∃ e7 e8, ρ = [.d (inst c rs), a1, a2, a3, a4, .own (.dK (((outs rs s).take i).foldl ins' d)) true, .d (.str s), e7, e8]
theorem reach_turn {rs : List (Str × Str)} (hrs : RsOk rs) {s : Str} (hs : s.length ≤ 1000) {d : List (Key × D)} {a1 a2 a3 a4 : Sl} (hd : ((outs rs s).foldl ins' d).length ≤ 2000) (i : Nat) (x : D) (ρ : Rho) (hx : (allTags s 0 rs)[i]? = some x) (h : reI c rs s d a1 a2 a3 a4 i ρ) :
    GoI (fun r => NxI (reI c rs s d a1 a2 a3 a4 (i + 1)) (L1_Rules_reached c r)) (gT 2 (gsCons (gN 7) (gsCons (gN 8) gsNil)) x ρ) := by
  obtain ⟨e7, e8, rfl⟩ := h
  rw [allQ_tags, List.getElem?_map] at hx
  cases hq : (allQ s 0 rs)[i]? with
  | none => rw [hq] at hx; cases hx
  | some q =>
    rw [hq] at hx
    obtain ⟨j, k, z⟩ := q
    simp at hx
    subst hx
    obtain ⟨j', o, n, h1, h2, h3⟩ := allQ_ok s rs 0 _ (List.mem_of_getElem? hq)
    simp at h1 h3
    subst h1 h3
    obtain ⟨l1, l2⟩ := hrs.len o n (List.mem_of_getElem? h2)
    obtain ⟨r, er⟩ := repl_ok (c := c) (k := k) h2 hs l1 l2
    have ho : (outs rs s)[i]? = some (repl s o n k) := by
      rw [← allQ_outs s rs 0, List.getElem?_map, hq]; rfl
    have ef := foldl_take (d := d) ho
    have hlt : (((outs rs s).take (i + 1)).foldl ins' d).length ≤ 2000 := by
      have e : (outs rs s).foldl ins' d = ((outs rs s).drop (i + 1)).foldl ins' (((outs rs s).take (i + 1)).foldl ins' d) := by
        rw [← List.foldl_append, List.take_append_drop]
      rw [e] at hd
      exact Nat.le_trans (fold_len _ _) hd
    rw [ef] at hlt
    have hlt0 := ins_len (((outs rs s).take i).foldl ins' d) (repl s o n k)
    have ei : ∀ ρ, insOf "_replaced" ρ (.d (inst c rs)) = some c.c_Rules := fun ρ => e_insOf rfl
    have ep : putD (.dK (((outs rs s).take i).foldl ins' d)) (.str (repl s o n k)) (.bl true) = some (.dK (ins' (((outs rs s).take i).foldl ins' d) (repl s o n k))) := if_pos (show (((outs rs s).take i).foldl ins' d).length < 1000000 by omega)
    have hg : ¬ ((2000 : Int) < ((ins' (((outs rs s).take i).foldl ins' d) (repl s o n k)).length : Int)) := by omega
    simp [L1_Rules_reached, ei, er, ep, hg]
    exact ⟨_, _, by rw [ef]⟩
/-- the dict behind all strings of a level -/
def dictOf (rs : List (Str × Str)) (L : List Str) : List (Key × D) := L.foldl (fun d s => (outs rs s).foldl ins' d) []
theorem dict_len (rs : List (Str × Str)) : ∀ (L : List Str) (d : List (Key × D)), d.length ≤ (L.foldl (fun d s => (outs rs s).foldl ins' d) d).length
  | [], d => Nat.le_refl _
  | s :: L, d => Nat.le_trans (fold_len (outs rs s) d) (dict_len rs L _)
def seI (c : Cs) (rs : List (Str × Str)) (L : List Str) (a1 a2 a3 a4 : Sl) (i : Nat) (ρ : Rho) : Prop := ∃ e6 e7 e8, ρ = [.d (inst c rs), a1, a2, a3, a4, .own (.dK (dictOf rs (L.take i))) true, e6, e7, e8]
theorem level_turn {rs : List (Str × Str)} (hrs : RsOk rs) {L : List Str} (hL : ∀ s ∈ L, s.length ≤ 1000) {a1 a2 a3 a4 : Sl} (hd : (dictOf rs L).length ≤ 2000) (hb2 : ∀ s ∈ L, rs.length * (s.length + 1) ≤ 400000) (i : Nat) (x : D) (ρ : Rho) (hx : (L.map D.str)[i]? = some x) (h : seI c rs L a1 a2 a3 a4 i ρ) :
    GoI (fun r => NxI (seI c rs L a1 a2 a3 a4 (i + 1)) (L2_Rules_reached c r)) (gN 6 x ρ) := by
  obtain ⟨e6, e7, e8, rfl⟩ := h
  rw [List.getElem?_map] at hx
  cases hq : L[i]? with
  | none => rw [hq] at hx; cases hx
  | some s =>
    rw [hq] at hx
    simp at hx
    subst hx
    have hs := hL s (List.mem_of_getElem? hq)
    have et : dictOf rs (L.take (i + 1)) = (outs rs s).foldl ins' (dictOf rs (L.take i)) := by
      unfold dictOf
      rw [List.take_succ, hq, List.foldl_append]; rfl
    have hlt : (dictOf rs (L.take (i + 1))).length ≤ 2000 := by
      have e : dictOf rs L = (L.drop (i + 1)).foldl (fun d s => (outs rs s).foldl ins' d) (dictOf rs (L.take (i + 1))) := by
        unfold dictOf
        rw [← List.foldl_append, List.take_append_drop]
      rw [e] at hd
      exact Nat.le_trans (dict_len rs _ _) hd
    rw [et] at hlt
    obtain ⟨r, er⟩ := places_ok (c := c) (rs := rs) (s := s) (hb2 s (List.mem_of_getElem? hq)) (by omega)
    have ei : ∀ ρ, insOf "places" ρ (.d (inst c rs)) = some c.c_Rules := fun ρ => e_insOf rfl
    obtain ⟨r2, er2, e7', e8', rfl⟩ := for_wish (I := reI c rs s (dictOf rs (L.take i)) a1 a2 a3 a4) (allTags s 0 rs) [.d (inst c rs), a1, a2, a3, a4, .own (.dK (dictOf rs (L.take i))) true, .d (.str s), e7, e8]
      (reach_turn hrs (by omega) hlt) ⟨e7, e8, by simp⟩
    have hl : (allTags s 0 rs).length = (outs rs s).length := by rw [allQ_tags, ← allQ_outs s rs 0]; simp
    rw [hl, List.take_length] at er2
    simp [L2_Rules_reached, ei, er, er2]
    exact ⟨_, _, _, by rw [et]⟩

/-! ### the levels -/
theorem putA_keys {d : List (Key × D)} {k : Key} {v : D} : (k ∈ d.map (·.1) → (putA d k v).map (·.1) = d.map (·.1)) ∧ (¬ k ∈ d.map (·.1) → (putA d k v).map (·.1) = d.map (·.1) ++ [k]) := by
  unfold putA
  refine ⟨fun hm => ?_, fun hm => ?_⟩
  · obtain ⟨p, hp, e⟩ := List.mem_map.mp hm
    rw [if_pos (List.any_eq_true.mpr ⟨p, hp, by simpa using e⟩), List.map_map]
    apply List.map_congr_left
    intro p hp
    simp only [Function.comp]
    by_cases e : p.1 = k <;> simp [e]
  · rw [if_neg (fun h => hm (by
      obtain ⟨p, hp, e⟩ := List.any_eq_true.mp h
      exact List.mem_map.mpr ⟨p, hp, by simpa using e⟩))]
    simp
def insS (ks : List Str) (x : Str) : List Str := if x ∈ ks then ks else ks ++ [x]
theorem ins_keys {d : List (Key × D)} {ks : List Str} (h : d.map (·.1) = ks.map Sum.inr) (x : Str) : (ins' d x).map (·.1) = (insS ks x).map Sum.inr := by
  unfold ins' insS
  by_cases e : x ∈ ks
  · rw [if_pos e, putA_keys.1 (by rw [h]; exact List.mem_map.mpr ⟨x, e, rfl⟩), h]
  · rw [if_neg e, putA_keys.2 (by rw [h]; exact fun z => by obtain ⟨y, hy, e2⟩ := List.mem_map.mp z; cases e2; exact e hy), h]
    simp
theorem fold_keys : ∀ (xs : List Str) {d : List (Key × D)} {ks : List Str}, d.map (·.1) = ks.map Sum.inr → (xs.foldl ins' d).map (·.1) = (xs.foldl insS ks).map Sum.inr
  | [], _, _, h => h
  | x :: xs, _, _, h => fold_keys xs (ins_keys h x)
def levS (rs : List (Str × Str)) (L : List Str) : List Str := L.foldl (fun ks s => (outs rs s).foldl insS ks) []
theorem dict_keys (rs : List (Str × Str)) : ∀ (L : List Str) {d : List (Key × D)} {ks : List Str}, d.map (·.1) = ks.map Sum.inr → (L.foldl (fun d s => (outs rs s).foldl ins' d) d).map (·.1) = (L.foldl (fun ks s => (outs rs s).foldl insS ks) ks).map Sum.inr
  | [], _, _, h => h
  | s :: L, _, _, h => dict_keys rs L (fold_keys (outs rs s) h)
theorem dictOf_keys (rs : List (Str × Str)) (L : List Str) : (dictOf rs L).map (·.1) = (levS rs L).map Sum.inr := dict_keys rs L (d := []) (ks := []) rfl
def sortS (ks : List Str) : List Str := ks.mergeSort fun a b => leD 39 (.str a) (.str b)
theorem sortS_eq (ks : List Str) : (ks.map D.str).mergeSort (leD 39) = (sortS ks).map D.str := (List.map_mergeSort (f := D.str) (fun a _ b _ => rfl)).symm
def next (rs : List (Str × Str)) (L : List Str) : List Str := sortS (levS rs L)
def lv (rs : List (Str × Str)) (s0 : Str) : Nat → List Str
  | 0 => [s0]
  | k + 1 => next rs (lv rs s0 k)
def strsOk (L : List Str) : Prop := ∀ x ∈ L, PyData.strOk x = true
theorem sortOk_strs {L : List Str} (h : strsOk L) (hl : L.length ≤ 1000000) : sortOk (L.map D.str) = true := by
  unfold sortOk
  have h1 : (L.map D.str).all (good 39) = true := by
    rw [List.all_map, List.all_eq_true]
    exact fun x hx => h x hx
  have h2 : ((L.map D.str).all fun x => (L.map D.str).all fun y => PySem.W.alike (pyN 39 x) (pyN 39 y)) = true := by
    rw [List.all_map, List.all_eq_true]
    intro x _
    show ((L.map D.str).all fun y => _) = true
    rw [List.all_map, List.all_eq_true]
    intro y _
    show PySem.W.alike (.str x) (.str y) = true
    simp [PySem.W.alike]
  have h3 : (L.map D.str).all notTupNon = true := by
    rw [List.all_map, List.all_eq_true]
    exact fun x _ => rfl
  rw [h1, h2, h3, bound_of (by rw [List.length_map]; exact hl)]
  simp
theorem gSorted_dict {d : List (Key × D)} {ks : List Str} (h : d.map (·.1) = ks.map Sum.inr) (hs : strsOk ks) (hl : ks.length ≤ 1000000) : gSortedA [.dK d] = some (.lst ((sortS ks).map D.str)) := by
  have e : (d.map fun p => keyD p.1) = ks.map D.str := by
    have : (d.map (·.1)).map keyD = (ks.map Sum.inr).map keyD := by rw [h]
    rw [List.map_map, List.map_map] at this
    exact this
  show (if sortOk (d.map fun p => keyD p.1) = true then some (D.lst ((d.map fun p => keyD p.1).mergeSort (leD 39))) else none) = _
  rw [e, if_pos (sortOk_strs hs hl), sortS_eq]
theorem keys_len' {d : List (Key × D)} {ks : List Str} (h : d.map (·.1) = ks.map Sum.inr) : d.length = ks.length := by
  have := congrArg List.length h
  simpa using this
def rkI (c : Cs) (rs : List (Str × Str)) (s0 : Str) (K : Nat) (i : Nat) (ρ : Rho) : Prop := ∃ e4 e5 e6 e7 e8, ρ = [.d (inst c rs), .d (.str s0), .d (.int K), .d (.lst ((lv rs s0 i).map D.str)), e4, e5, e6, e7, e8]
structure LvOk (rs : List (Str × Str)) (s0 : Str) (k : Nat) : Prop where
  cnt : ∀ j ≤ k, (lv rs s0 j).length ≤ 2000
  len : ∀ j < k, ∀ s ∈ lv rs s0 j, s.length ≤ 1000
  hb : ∀ j < k, ∀ s ∈ lv rs s0 j, rs.length * (s.length + 1) ≤ 400000
  ok : ∀ j ≤ k, strsOk (lv rs s0 j)
theorem sortS_mem {ks : List Str} {x : Str} : x ∈ sortS ks ↔ x ∈ ks := List.mem_mergeSort
theorem sortS_len {ks : List Str} : (sortS ks).length = ks.length := List.length_mergeSort _
theorem reached_ok {rs : List (Str × Str)} (hrs : RsOk rs) {s0 : Str} {K : Nat} (hK : K ≤ 1000) (h : LvOk rs s0 K) : ∃ r, fn_Rules_reached c [.d (inst c rs), .d (.str s0), .d (.int K)] = .ok (.lst ((lv rs s0 K).map D.str)) r := by
  have turn : ∀ (i : Nat) (x : D) (ρ : Rho), (rngD 0 K)[i]? = some x → rkI c rs s0 K i ρ → GoI (fun r => NxI (rkI c rs s0 K (i + 1)) (L3_Rules_reached c r)) (gN 4 x ρ) := by
    rintro i x ρ hx ⟨e4, e5, e6, e7, e8, rfl⟩
    obtain ⟨hi, rfl⟩ := rngD_get hx
    rw [Int.zero_add]
    have hk := dictOf_keys rs (lv rs s0 i)
    have hc : (dictOf rs (lv rs s0 i)).length ≤ 2000 := by
      rw [keys_len' hk, ← sortS_len]
      exact h.cnt (i + 1) (by omega)
    obtain ⟨r2, er2, f6, f7, f8, rfl⟩ := for_wish (I := seI c rs (lv rs s0 i) (.d (.str s0)) (.d (.int K)) (.d (.lst ((lv rs s0 i).map D.str))) (.d (.int i))) ((lv rs s0 i).map D.str) [.d (inst c rs), .d (.str s0), .d (.int K), .d (.lst ((lv rs s0 i).map D.str)), .d (.int i), .own (.dK []) true, e6, e7, e8]
      (level_turn hrs (h.len i hi) hc (h.hb i hi)) ⟨e6, e7, e8, rfl⟩
    rw [List.length_map, List.take_length] at er2
    have es : gSortedA [.dK (dictOf rs (lv rs s0 i))] = some (.lst ((lv rs s0 (i + 1)).map D.str)) := gSorted_dict hk (fun x hx => h.ok (i + 1) (by omega) x (sortS_mem.mpr hx)) (by rw [← keys_len' hk]; omega)
    simp [L3_Rules_reached, er2, es]
    exact ⟨_, _, _, _, _, rfl⟩
  obtain ⟨r, er, e4, e5, e6, e7, e8, rfl⟩ := for_wish (I := rkI c rs s0 K) (rngD 0 K) [.d (inst c rs), .d (.str s0), .d (.int K), .d (.lst [.str s0]), .un, .un, .un, .un, .un] turn ⟨_, _, _, _, _, rfl⟩
  have hl : rngOk (K : Int) = true := rngOk_nat (by omega)
  rw [rngD_len] at er
  simp [fn_Rules_reached, fnOf, g_Rules_reached, hl, er, outsOk, List.range, List.range.loop, isOwn, isPar]
end LW

namespace LW
open PySem PySem.Spec PyProof.Rows L2 DL Builtin Builtin.Str PySem.StrLaws
variable {c : Cs}
theorem len_list (s : Str) : s.cps.toList.length = s.length := Array.length_toList
theorem cps_to (s : Str) (k : Nat) : (cutS s none (some (k : Int))).cps.toList = s.cps.toList.take k := by
  show ((s.cps.toList.drop (HT.sIx s.length 0 none)).take (HT.sIx s.length s.length (some (k : Int)) - HT.sIx s.length 0 none)) = _
  rw [HT.sIx_none, HT.sIx_nat, List.drop_zero, Nat.sub_zero, ← len_list]
  exact (List.take_eq_take_min (l := s.cps.toList) (i := k)).symm
theorem cps_from (s : Str) (k : Nat) : (cutS s (some (k : Int)) none).cps.toList = s.cps.toList.drop k := by
  show ((s.cps.toList.drop (HT.sIx s.length 0 (some (k : Int)))).take (HT.sIx s.length s.length none - HT.sIx s.length 0 (some (k : Int)))) = _
  rw [HT.sIx_none, HT.sIx_nat, ← len_list]
  by_cases h : k ≤ s.cps.toList.length
  · rw [Nat.min_eq_left h]
    exact List.take_of_length_le (by rw [List.length_drop]; omega)
  · rw [Nat.min_eq_right (by omega), List.drop_of_length_le (Nat.le_refl _), List.drop_of_length_le (by omega)]; simp
theorem cps_ft (s : Str) (k m : Nat) (h : k ≤ s.length) : (cutS s (some (k : Int)) (some (m : Int))).cps.toList = (s.cps.toList.drop k).take (m - k) := by
  show ((s.cps.toList.drop (HT.sIx s.length 0 (some (k : Int)))).take (HT.sIx s.length s.length (some (m : Int)) - HT.sIx s.length 0 (some (k : Int)))) = _
  rw [HT.sIx_nat, HT.sIx_nat, Nat.min_eq_left h]
  by_cases h2 : m ≤ s.length
  · rw [Nat.min_eq_left h2]
  · rw [Nat.min_eq_right (by omega), List.take_of_length_le (by rw [List.length_drop, len_list]; omega), List.take_of_length_le (by rw [List.length_drop, len_list]; omega)]
theorem strOk_iff {x : Str} : PyData.strOk x = true ↔ ∀ a ∈ x.cps.toList, a < 0x110000 := by
  unfold PyData.strOk
  rw [← Array.all_toList, List.all_eq_true]
  exact ⟨fun h a ha => by simpa using h a ha, fun h a ha => by simpa using h a ha⟩
theorem strOk_app {x y : Str} (h1 : PyData.strOk x = true) (h2 : PyData.strOk y = true) : PyData.strOk (x ++ y) = true := by
  rw [strOk_iff] at *
  intro a ha
  have ha : a ∈ (x.cps ++ y.cps).toList := ha
  rw [Array.toList_append] at ha
  rcases List.mem_append.mp ha with h | h
  · exact h1 a h
  · exact h2 a h
theorem strOk_to {s : Str} {k : Nat} (h : PyData.strOk s = true) : PyData.strOk (cutS s none (some (k : Int))) = true := by
  rw [strOk_iff] at *
  intro a ha
  rw [cps_to] at ha
  exact h a (List.mem_of_mem_take ha)
theorem strOk_from {s : Str} {k : Nat} (h : PyData.strOk s = true) : PyData.strOk (cutS s (some (k : Int)) none) = true := by
  rw [strOk_iff] at *
  intro a ha
  rw [cps_from] at ha
  exact h a (List.mem_of_mem_drop ha)
theorem strOk_ft {s : Str} {k m : Nat} (hk : k ≤ s.length) (h : PyData.strOk s = true) : PyData.strOk (cutS s (some (k : Int)) (some (m : Int))) = true := by
  rw [strOk_iff] at *
  intro a ha
  rw [cps_ft _ _ _ hk] at ha
  exact h a (List.mem_of_mem_drop (List.mem_of_mem_take ha))
theorem repl_strOk {s o n : Str} {k : Nat} (h : PyData.strOk s = true) (h2 : PyData.strOk n = true) : PyData.strOk (repl s o n k) = true := strOk_app (strOk_app (strOk_to h) h2) (by rw [show ((k : Int) + (o.length : Int)) = ((k + o.length : Nat) : Int) by omega]; exact strOk_from h)
theorem repl_len {s o n : Str} {k : Nat} (h : k + o.length ≤ s.length) : (repl s o n k).length = s.length - o.length + n.length := by
  unfold repl
  rw [str_len, str_len, show ((k : Int) + (o.length : Int)) = ((k + o.length : Nat) : Int) by omega, ← len_list (cutS _ _ _), ← len_list (cutS s _ none), cps_to, cps_from, List.length_take, List.length_drop, len_list]
  omega
theorem hits_mem {s o : Str} {lo k : Nat} (h : k ∈ hits s o lo) : k + o.length ≤ s.length := by
  have := (List.mem_filter.mp h).2
  simp [hit] at this
  exact this.1
theorem cut_hit {s o : Str} {k : Nat} (hk : k < s.length) : (cutS s (some (k : Int)) (some ((k : Int) + (o.length : Int))) == o) = hit s o k := by
  rw [show ((k : Int) + (o.length : Int)) = ((k + o.length : Nat) : Int) by omega]
  have e := cps_ft s k (k + o.length) (by omega)
  rw [show k + o.length - k = o.length by omega] at e
  by_cases h : hit s o k = true
  · rw [h]
    have h' : k + o.length ≤ s.length ∧ subAt s o k = true := by simpa [hit] using h
    have h2 := h'.2
    rw [subAt_eq, ← e] at h2
    rw [beq_iff_eq]
    exact PySem.W.str_of_cps (by simpa using h2)
  · rw [Bool.eq_false_iff.mpr h]
    rw [Bool.eq_false_iff]
    intro h3
    apply h
    rw [beq_iff_eq] at h3
    have h4 : (s.cps.toList.drop k).take o.length = o.cps.toList := by rw [← e, h3]
    have h5 : k + o.length ≤ s.length := by
      have := congrArg List.length h4
      rw [List.length_take, List.length_drop, len_list, len_list] at this
      omega
    simp [hit, h5]
    rw [subAt_eq, h4]; simp
theorem gEq_str {a b : Str} (h1 : PyData.strOk a = true) (h2 : PyData.strOk b = true) : gEq (.str a) (.str b) = some (.bl (a == b)) := by
  unfold gEq
  rw [if_pos ⟨h1, h2⟩]; rfl
theorem hits0 {s o : Str} (h : 1 ≤ o.length) : hits s o 0 = (List.range s.length).filter (hit s o) := by
  unfold hits
  rw [Nat.sub_zero, ← List.range_eq_range', List.range_succ, List.filter_append]
  have : hit s o s.length = false := by
    unfold hit
    rw [show decide (s.length + o.length ≤ s.length) = false by simp; omega]; rfl
  simp [this]
/-! ### the law's own next -/
theorem ins_up (d : List (Key × D)) (x : Str) : (ins' d x).length ≤ d.length + 1 := by
  unfold ins' putA
  split
  · simp
  · simp
theorem fold_up : ∀ (xs : List Str) (d : List (Key × D)), (xs.foldl ins' d).length ≤ d.length + xs.length
  | [], d => Nat.le_refl _
  | x :: xs, d => by
    have := fold_up xs (ins' d x)
    have := ins_up d x
    simp only [List.foldl_cons, List.length_cons]; omega
def someH (s o n : Str) (i : Nat) : List Str := ((List.range i).filter (hit s o)).map (repl s o n)
theorem someH_succ (s o n : Str) (i : Nat) : someH s o n (i + 1) = someH s o n i ++ (if hit s o i = true then [repl s o n i] else []) := by
  unfold someH
  rw [List.range_succ, List.filter_append, List.map_append]
  by_cases h : hit s o i = true <;> simp [h]
theorem someH_len (s o n : Str) (i : Nat) : (someH s o n i).length ≤ i := by
  unfold someH
  rw [List.length_map]
  exact Nat.le_trans (List.length_filter_le _ _) (by simp)
def nxA (a0 a1 : Sl) (s o n : Str) (d : List (Key × D)) (i : Nat) (ρ : Rho) : Prop := ∃ e6, ρ = [a0, a1, .own (.dK ((someH s o n i).foldl ins' d)) true, .d (.str s), .d (.str o), .d (.str n), e6]
theorem nx_turn {a0 a1 : Sl} {s o n : Str} {d : List (Key × D)} (hs : s.length ≤ 1000) (ho : o.length ≤ 1000) (hn : n.length ≤ 1000) (ks : PyData.strOk s = true) (ko : PyData.strOk o = true) (hd : d.length + s.length < 1000000)
    (i : Nat) (x : D) (ρ : Rho) (hx : (rngD 0 s.length)[i]? = some x) (h : nxA a0 a1 s o n d i ρ) : GoI (fun r => NxI (nxA a0 a1 s o n d (i + 1)) (L1__law_next c r)) (gN 6 x ρ) := by
  obtain ⟨e6, rfl⟩ := h
  obtain ⟨hi, rfl⟩ := rngD_get hx
  rw [Int.zero_add]
  have c1 := cutS_length s none (some (i : Int))
  have c2 := cutS_length s (some ((i : Int) + (o.length : Int))) none
  have e3 : ∀ lo hi, gSl (.str s) lo hi = some (.str (cutS s lo hi)) := fun lo hi => gSl_str (by omega)
  have e4 : gLen [.str o] = some (.int o.length) := gLen_str (by omega)
  have e5 : gAdd (.str (cutS s none (some (i : Int)))) (.str n) = some (.str (cutS s none (some (i : Int)) ++ n)) := gAdd_str (by omega)
  have e6 : gAdd (.str (cutS s none (some (i : Int)) ++ n)) (.str (cutS s (some ((i : Int) + (o.length : Int))) none)) = some (.str (repl s o n i)) := gAdd_str (by rw [str_len]; omega)
  have e7 : gEq (.str (cutS s (some (i : Int)) (some ((i : Int) + (o.length : Int))))) (.str o) = some (.bl (hit s o i)) := by
    rw [gEq_str (by rw [show ((i : Int) + (o.length : Int)) = ((i + o.length : Nat) : Int) by omega]; exact strOk_ft (by omega) ks) ko, cut_hit hi]
  have hl := fold_up (someH s o n i) d
  have hl2 := someH_len s o n i
  have ep : putD (.dK ((someH s o n i).foldl ins' d)) (.str (repl s o n i)) (.bl true) = some (.dK (ins' ((someH s o n i).foldl ins' d) (repl s o n i))) := if_pos (by omega)
  by_cases hh : hit s o i = true
  · simp [L1__law_next, e3, e4, e5, e6, e7, ep, hh]
    exact ⟨_, by rw [someH_succ, if_pos hh, List.foldl_append]; rfl⟩
  · simp [L1__law_next, e3, e4, e7, hh]
    exact ⟨_, by rw [someH_succ, if_neg hh, List.append_nil]⟩
structure R5 (rs : List (Str × Str)) : Prop where
  few : rs.length ≤ 5
  rule : ∀ o n, (o, n) ∈ rs → 1 ≤ o.length ∧ o.length ≤ 3 ∧ n.length ≤ 3 ∧ PyData.strOk o = true ∧ PyData.strOk n = true
theorem outs_snoc (rs : List (Str × Str)) (s o n : Str) : outs (rs ++ [(o, n)]) s = outs rs s ++ (hits s o 0).map (repl s o n) := by
  unfold outs
  rw [List.flatMap_append]; simp
theorem outs_len : ∀ (rs : List (Str × Str)) (s : Str), (outs rs s).length ≤ rs.length * (s.length + 1)
  | [], s => by simp [outs]
  | (o, n) :: rs, s => by
    have h1 := outs_len rs s
    have h2 := hits_len s o 0
    show (((hits s o 0).map (repl s o n)) ++ outs rs s).length ≤ (rs.length + 1) * (s.length + 1)
    rw [List.length_append, List.length_map, Nat.succ_mul]; omega
def nxB (c : Cs) (rs : List (Str × Str)) (a1 : Sl) (s : Str) (d : List (Key × D)) (i : Nat) (ρ : Rho) : Prop := ∃ e4 e5 e6, ρ = [.d (.lst (rsD rs)), a1, .own (.dK ((outs (rs.take i) s).foldl ins' d)) true, .d (.str s), e4, e5, e6]
theorem nx_rules {rs : List (Str × Str)} (R : R5 rs) {a1 : Sl} {s : Str} {d : List (Key × D)} (hs : s.length ≤ 1000) (ks : PyData.strOk s = true) (hd : d.length ≤ 900000)
    (i : Nat) (x : D) (ρ : Rho) (hx : (rsD rs)[i]? = some x) (h : nxB c rs a1 s d i ρ) : GoI (fun r => NxI (nxB c rs a1 s d (i + 1)) (L2__law_next c r)) (gT 2 (gsCons (gN 4) (gsCons (gN 5) gsNil)) x ρ) := by
  obtain ⟨e4, e5, e6, rfl⟩ := h
  unfold rsD at hx
  rw [List.getElem?_map] at hx
  cases hq : rs[i]? with
  | none => rw [hq] at hx; cases hx
  | some p =>
    obtain ⟨o, n⟩ := p
    rw [hq] at hx
    simp at hx
    subst hx
    obtain ⟨r1, r2, r3, r4, r5⟩ := R.rule o n (List.mem_of_getElem? hq)
    have hl := fold_up (outs (rs.take i) s) d
    have hl2 := outs_len (rs.take i) s
    have hl3 : (rs.take i).length * (s.length + 1) ≤ 5 * 1001 := Nat.mul_le_mul (by rw [List.length_take]; have := R.few; omega) (by omega)
    obtain ⟨r, er, e6', rfl⟩ := for_wish (I := nxA (.d (.lst (rsD rs))) a1 s o n ((outs (rs.take i) s).foldl ins' d)) (rngD 0 s.length) [.d (.lst (rsD rs)), a1, .own (.dK ((outs (rs.take i) s).foldl ins' d)) true, .d (.str s), .d (.str o), .d (.str n), e6]
      (nx_turn (c := c) hs (by omega) (by omega) ks r4 (by omega)) ⟨e6, rfl⟩
    have hr : rngOk (s.length : Int) = true := rngOk_nat (by omega)
    have e7 : gLen [.str s] = some (.int s.length) := gLen_str (by omega)
    have et : outs (rs.take (i + 1)) s = outs (rs.take i) s ++ someH s o n s.length := by
      rw [List.take_succ, hq]
      simp only [Option.toList]
      rw [outs_snoc, hits0 r1]; rfl
    rw [rngD_len, ← List.foldl_append, ← et] at er
    simp [L2__law_next, hr, e7, er]
    exact ⟨_, _, _, rfl⟩
def nxC (c : Cs) (rs : List (Str × Str)) (L : List Str) (i : Nat) (ρ : Rho) : Prop := ∃ e3 e4 e5 e6, ρ = [.d (.lst (rsD rs)), .d (.lst (L.map D.str)), .own (.dK (dictOf rs (L.take i))) true, e3, e4, e5, e6]
theorem dict_up (rs : List (Str × Str)) (B : Nat) : ∀ (L : List Str) (d : List (Key × D)), (∀ s ∈ L, (outs rs s).length ≤ B) → (L.foldl (fun d s => (outs rs s).foldl ins' d) d).length ≤ d.length + L.length * B
  | [], d, _ => by simp
  | s :: L, d, h => by
    have h1 := dict_up rs B L ((outs rs s).foldl ins' d) fun x hx => h x (List.mem_cons_of_mem _ hx)
    have h2 := fold_up (outs rs s) d
    have h3 := h s List.mem_cons_self
    simp only [List.foldl_cons, List.length_cons, Nat.succ_mul]; omega
theorem outs_b {rs : List (Str × Str)} (R : R5 rs) {s : Str} (h : s.length ≤ 60) : (outs rs s).length ≤ 305 :=
  Nat.le_trans (outs_len rs s) (Nat.le_trans (Nat.mul_le_mul R.few (show s.length + 1 ≤ 61 by omega)) (by decide))
theorem nx_strings {rs : List (Str × Str)} (R : R5 rs) {L : List Str} (hL : ∀ s ∈ L, s.length ≤ 60) (kL : strsOk L) (hn : L.length ≤ 2000)
    (i : Nat) (x : D) (ρ : Rho) (hx : (L.map D.str)[i]? = some x) (h : nxC c rs L i ρ) : GoI (fun r => NxI (nxC c rs L (i + 1)) (L3__law_next c r)) (gN 3 x ρ) := by
  obtain ⟨e3, e4, e5, e6, rfl⟩ := h
  rw [List.getElem?_map] at hx
  cases hq : L[i]? with
  | none => rw [hq] at hx; cases hx
  | some s =>
    rw [hq] at hx
    simp at hx
    subst hx
    have hm := List.mem_of_getElem? hq
    have hs := hL s hm
    have et : dictOf rs (L.take (i + 1)) = (outs rs s).foldl ins' (dictOf rs (L.take i)) := by
      unfold dictOf
      rw [List.take_succ, hq, List.foldl_append]; rfl
    have hd : (dictOf rs (L.take i)).length ≤ 0 + (L.take i).length * 305 := dict_up rs 305 (L.take i) [] fun s hs => outs_b R (hL s (List.mem_of_mem_take hs))
    have hl : (L.take i).length ≤ 2000 := by rw [List.length_take]; omega
    obtain ⟨r, er, f4, f5, f6, rfl⟩ := for_wish (I := nxB c rs (.d (.lst (L.map D.str))) s (dictOf rs (L.take i))) (rsD rs) [.d (.lst (rsD rs)), .d (.lst (L.map D.str)), .own (.dK (dictOf rs (L.take i))) true, .d (.str s), e4, e5, e6]
      (nx_rules (c := c) R (by omega) (kL s hm) (by omega)) ⟨e4, e5, e6, by simp [outs]⟩
    have hlen : (rsD rs).length = rs.length := by simp [rsD]
    rw [hlen, List.take_length, ← et] at er
    simp [L3__law_next, er]
    exact ⟨_, _, _, _, rfl⟩
theorem insS_mem {ks : List Str} {x y : Str} : y ∈ insS ks x ↔ y ∈ ks ∨ y = x := by
  unfold insS
  by_cases h : x ∈ ks
  · rw [if_pos h]
    exact ⟨.inl, fun q => q.elim id fun e => e ▸ h⟩
  · rw [if_neg h]; simp
theorem foldS_mem : ∀ (xs : List Str) {ks : List Str} {y : Str}, y ∈ xs.foldl insS ks ↔ y ∈ ks ∨ y ∈ xs
  | [], ks, y => by simp
  | x :: xs, ks, y => by
    rw [List.foldl_cons, foldS_mem xs, insS_mem, List.mem_cons]
    exact ⟨fun h => by rcases h with (h | h) | h <;> simp [h], fun h => by rcases h with h | h | h <;> simp [h]⟩
theorem lev_mem' (rs : List (Str × Str)) : ∀ (L : List Str) {ks : List Str} {y : Str}, y ∈ L.foldl (fun ks s => (outs rs s).foldl insS ks) ks → y ∈ ks ∨ ∃ s ∈ L, y ∈ outs rs s
  | [], ks, y, h => .inl h
  | s :: L, ks, y, h => by
    rcases lev_mem' rs L h with h | ⟨z, hz, h⟩
    · rcases (foldS_mem _).mp h with h | h
      · exact .inl h
      · exact .inr ⟨s, List.mem_cons_self, h⟩
    · exact .inr ⟨z, List.mem_cons_of_mem _ hz, h⟩
theorem lev_mem {rs : List (Str × Str)} {L : List Str} {y : Str} (h : y ∈ next rs L) : ∃ s ∈ L, ∃ o n k, (o, n) ∈ rs ∧ k + o.length ≤ s.length ∧ y = repl s o n k := by
  rcases lev_mem' rs L (sortS_mem.mp h) with h | ⟨s, hs, h⟩
  · cases h
  · obtain ⟨p, hp, h⟩ := List.mem_flatMap.mp h
    obtain ⟨k, hk, rfl⟩ := List.mem_map.mp h
    exact ⟨s, hs, p.1, p.2, k, hp, hits_mem hk, rfl⟩
theorem next_ok {rs : List (Str × Str)} (R : R5 rs) {L : List Str} (hL : ∀ s ∈ L, s.length ≤ 60) (kL : strsOk L) (hn : L.length ≤ 2000) :
    ∃ r, fn__law_next c [.d (.lst (rsD rs)), .d (.lst (L.map D.str))] = .ok (.lst ((next rs L).map D.str)) r := by
  obtain ⟨r, er, e3, e4, e5, e6, rfl⟩ := for_wish (I := nxC c rs L) (L.map D.str) [.d (.lst (rsD rs)), .d (.lst (L.map D.str)), .own (.dK []) true, .un, .un, .un, .un] (nx_strings (c := c) R hL kL hn) ⟨_, _, _, _, rfl⟩
  have hk := dictOf_keys rs L
  have hd : (dictOf rs L).length ≤ 0 + L.length * 305 := dict_up rs 305 L [] fun s hs => outs_b R (hL s hs)
  have es : gSortedA [.dK (dictOf rs L)] = some (.lst ((next rs L).map D.str)) := gSorted_dict hk (fun x hx => by
    obtain ⟨s, hs, o, n, k, ho, _, rfl⟩ := lev_mem (rs := rs) (L := L) (sortS_mem.mpr hx)
    exact repl_strOk (kL s hs) (R.rule o n ho).2.2.2.2) (by rw [← keys_len' hk]; omega)
  rw [List.length_map, List.take_length] at er
  simp [fn__law_next, fnOf, g__law_next, er, es, outsOk, List.range, List.range.loop, isOwn, isPar]
/-! ### the levels' bounds -/
theorem lv_ok {rs : List (Str × Str)} (R : R5 rs) {s0 : Str} (h0 : s0.length ≤ 8) (k0 : PyData.strOk s0 = true) : ∀ k, (∀ s ∈ lv rs s0 k, s.length ≤ 8 + 2 * k) ∧ strsOk (lv rs s0 k)
  | 0 => by
    refine ⟨fun s hs => ?_, fun s hs => ?_⟩
    · rw [List.mem_singleton.mp hs]; omega
    · rw [List.mem_singleton.mp hs]; exact k0
  | k + 1 => by
    obtain ⟨h1, h2⟩ := lv_ok R h0 k0 k
    refine ⟨fun y hy => ?_, fun y hy => ?_⟩
    · obtain ⟨s, hs, o, n, j, ho, hj, rfl⟩ := lev_mem hy
      obtain ⟨r1, r2, r3, r4, r5⟩ := R.rule o n ho
      have := h1 s hs
      rw [repl_len hj]; omega
    · obtain ⟨s, hs, o, n, j, ho, hj, rfl⟩ := lev_mem hy
      exact repl_strOk (h2 s hs) (R.rule o n ho).2.2.2.2
theorem lvOk {rs : List (Str × Str)} (R : R5 rs) {s0 : Str} (h0 : s0.length ≤ 8) (k0 : PyData.strOk s0 = true) {k : Nat} (hk : k ≤ 4) (hc : ∀ j ≤ k, (lv rs s0 j).length ≤ 2000) : LvOk rs s0 k := by
  refine ⟨hc, fun j hj s hs => ?_, fun j hj s hs => ?_, fun j hj => (lv_ok R h0 k0 j).2⟩
  · have := (lv_ok R h0 k0 j).1 s hs; omega
  · have := (lv_ok R h0 k0 j).1 s hs
    exact Nat.le_trans (Nat.mul_le_mul R.few (show s.length + 1 ≤ 17 by omega)) (by decide)
end LW

namespace LW
open PySem PySem.Spec PyProof.Rows L2 DL Builtin Builtin.Str PySem.StrLaws
variable {c : Cs}
/-! ### displays of loops -/
theorem lc_map {fg : FG} {ft : M Bool} {fe : M Vl} {vs : List Nat} (f : D → D) {ρ : Rho} : ∀ (xs acc : List D), (∀ x ∈ xs, ∃ r r2, fg x ρ = some r ∧ ft r = .ok true r ∧ M.bnd fe fz r = .ok (f x) r2 ∧ wipeR r2 vs = ρ) → acc.length + xs.length ≤ 1000000 → lcF fg ft fe vs xs acc ρ = .ok (acc ++ xs.map f) ρ
  | [], acc, _, _ => by simp [lcF]
  | x :: xs, acc, h, hl => by
    obtain ⟨r, r2, h1, h2, h3, h4⟩ := h x List.mem_cons_self
    have ih := lc_map f (ρ := ρ) xs (acc ++ [f x]) (fun y hy => h y (List.mem_cons_of_mem _ hy)) (by simp at hl ⊢; omega)
    simp only [List.length_cons] at hl
    unfold lcF
    simp only [h1, h2, h3, if_true]
    rw [if_pos (by omega), h4, ih]
    simp
/-! ### the rules are made -/
structure RI (rs : List (Str × Str)) : Prop where
  few : rs.length ≤ 20000
  rule : ∀ o n, (o, n) ∈ rs → 1 ≤ o.length ∧ PyData.strOk o = true
theorem is_rule {o n : Str} (h1 : 1 ≤ o.length) (h2 : PyData.strOk o = true) : ∃ r, fn__is_rule c [.d (.tup [.str o, .str n])] = .ok (.bl true) r := by
  have e1 : gNe (.str o) (.str "") = some (.bl true) := by
    unfold gNe
    rw [if_pos ⟨h2, (by show PyData.strOk "" = true; decide +kernel)⟩]
    have : deq (.str o) (.str "") = false := by
      show (o == "") = false
      rw [beq_eq_false_iff_ne]
      rintro rfl
      exact absurd h1 (by decide)
    rw [this]; rfl
  have e2 : gIsi [.tup [.str o, .str n], .ty "tuple"] = some (.bl true) := rfl
  have e3 : ∀ z : Str, gIsi [.str z, .ty "str"] = some (.bl true) := fun _ => rfl
  simp [fn__is_rule, fnOf, g__is_rule, e1, e2, e3, tup0, tup1, outsOk, List.range, List.range.loop, isOwn, isPar]
theorem blsOf_true {α : Type} (l : List α) : blsOf (l.map fun _ => D.bl true) = some (l.map fun _ => true) := by
  induction l with
  | nil => rfl
  | cons x l ih => simp only [List.map_cons, blsOf, ih, Option.map_some]
theorem init_ok {rs : List (Str × Str)} (R : RI rs) : ∃ r, fn_Rules___init__ c [.own (.ins c.c_Rules []) false, .d (.lst (rsD rs))] = .ok .non (.own (inst c rs) false :: r) := by
  have hl : (rsD rs).length = rs.length := by simp [rsD]
  have h1 : ¬ ((20000 : Int) < (rs.length : Int)) := by have := R.few; omega
  have h2 : lcF (gN 2) (fun ρ => .ok true ρ) (fCall 1 [false] (fn__is_rule c) (fCons (fVar 2) fNil)) [2] (rsD rs) [] [.own (.ins c.c_Rules []) false, .d (.lst (rsD rs)), .un] = .ok ([] ++ (rsD rs).map fun _ => .bl true) [.own (.ins c.c_Rules []) false, .d (.lst (rsD rs)), .un] := by
    refine lc_map _ _ _ (fun x hx => ?_) (by rw [hl]; have := R.few; simp; omega)
    obtain ⟨p, hp, rfl⟩ := List.mem_map.mp hx
    obtain ⟨q1, q2⟩ := R.rule p.1 p.2 hp
    obtain ⟨r, er⟩ := is_rule (c := c) (n := p.2) q1 q2
    refine ⟨_, [.own (.ins c.c_Rules []) false, .d (.lst (rsD rs)), .d (.tup [.str p.1, .str p.2])], rfl, rfl, ?_, ?_⟩
    · simp [er]
    · rfl
  rw [List.nil_append] at h2
  have h3 : gAll [.lst ((rsD rs).map fun _ => .bl true)] = some (.bl true) := by
    show (blsOf _).map _ = _
    rw [blsOf_true]
    simp
  refine ⟨[.d (.lst (rsD rs)), .un], ?_⟩
  simp [fn_Rules___init__, fnOf, g_Rules___init__, hl, h1, wipeR, backR, h2, h3, outsOk, List.range, List.range.loop, isOwn, isPar]
  rfl
/-! ### texts of a and b -/
def abc (x : Int) : Str := if x % 2 = 0 then "a" else "b"
theorem abc_or (x : Int) : abc x = "a" ∨ abc x = "b" := by
  unfold abc
  split
  · exact .inl rfl
  · exact .inr rfl
theorem e_ab (x : Int) : gIxA (.str "ab") (.int (x % 2)) = some (.str (abc x)) := by
  unfold abc
  rcases Int.emod_two_eq x with h | h <;> rw [h] <;> rfl
theorem abs_ok : ∀ l : List Str, (∀ x ∈ l, x = "a" ∨ x = "b") → l.length ≤ 4 → PyData.strOk (Txt.join "" l) = true ∧ (Txt.join "" l).length = l.length
  | [], _, _ => ⟨by decide +kernel, by decide +kernel⟩
  | [a], h, _ => by
    rcases h a (by simp) with rfl | rfl <;> exact ⟨by decide +kernel, by decide +kernel⟩
  | [a, b], h, _ => by
    rcases h a (by simp) with rfl | rfl <;> rcases h b (by simp) with rfl | rfl <;> exact ⟨by decide +kernel, by decide +kernel⟩
  | [a, b, d], h, _ => by
    rcases h a (by simp) with rfl | rfl <;> rcases h b (by simp) with rfl | rfl <;> rcases h d (by simp) with rfl | rfl <;> exact ⟨by decide +kernel, by decide +kernel⟩
  | [a, b, d, e], h, _ => by
    rcases h a (by simp) with rfl | rfl <;> rcases h b (by simp) with rfl | rfl <;> rcases h d (by simp) with rfl | rfl <;> rcases h e (by simp) with rfl | rfl <;> exact ⟨by decide +kernel, by decide +kernel⟩
  | _ :: _ :: _ :: _ :: _ :: _, _, h => by simp at h <;> omega
def bitF (d : Int) : D → D
  | .int j => .str (abc (d / (1 + 5 * j + j * j)))
  | _ => .non
theorem cm_small {i : Int} {j : Nat} (h : j ≤ 3) : cMul i (j : Int) = true := by
  have : j = 0 ∨ j = 1 ∨ j = 2 ∨ j = 3 := by omega
  rcases this with rfl | rfl | rfl | rfl <;> rfl
theorem bit_ok {d m : Int} {j : Nat} (h : j ≤ 3) : M.bnd (fOp gIxA (fC (.str "ab")) (fOp gMod (fCB gInt (fCons (fOp gDiv (fVar 0) (fOp gAdd (fOp gAdd (fC (.int 1)) (fOp gMul (fC (.int 5)) (fVar 2))) (fOp gMul (fVar 2) (fVar 2)))) fNil)) (fC (.int 2)))) fz [.d (.int d), .d (.int m), .d (.int (0 + j))] = .ok (bitF d (.int (0 + j))) [.d (.int d), .d (.int m), .d (.int (0 + j))] := by
  have c0 : cMul 5 0 = true ∧ cMul 0 0 = true := ⟨rfl, rfl⟩
  have c1 : cMul 5 1 = true ∧ cMul 1 1 = true := ⟨rfl, rfl⟩
  have c2 : cMul 5 2 = true ∧ cMul 2 2 = true := ⟨rfl, rfl⟩
  have c3 : cMul 5 3 = true ∧ cMul 3 3 = true := ⟨rfl, rfl⟩
  have : j = 0 ∨ j = 1 ∨ j = 2 ∨ j = 3 := by omega
  rcases this with rfl | rfl | rfl | rfl <;> simp [c0, c1, c2, c3, e_ab, bitF]
theorem ab_sum : ∀ l : List Str, (∀ x ∈ l, x = "a" ∨ x = "b") → (l.map (·.length)).sum = l.length
  | [], _ => rfl
  | x :: l, h => by
    have := ab_sum l fun y hy => h y (List.mem_cons_of_mem _ hy)
    have hx : x.length = 1 := by rcases h x List.mem_cons_self with rfl | rfl <;> decide
    simp only [List.map_cons, List.sum_cons, List.length_cons, this, hx]; omega
theorem strsL_strs (l : List Str) : strsL (l.map D.str) = some l := by
  have := strsL_map (fun x : Str => x) l
  rw [List.map_id'] at this
  exact this
theorem ab_join {l : List Str} (h : ∀ x ∈ l, x = "a" ∨ x = "b") (hl : l.length ≤ 4) : gJoin (.str "") [.lst (l.map D.str)] = some (.str (Txt.join "" l)) := by
  unfold gJoin
  simp only [strsL_strs]
  have : joinOk "" l = true := by
    unfold joinOk
    have z : ("" : Str).length = 0 := by decide
    rw [ab_sum l h, z, Nat.mul_zero]
    exact decide_eq_true (by omega)
  rw [if_pos this]
def ss (d : Int) (n : Nat) : List Str := (List.range n).map fun (j : Nat) => abc (d / (1 + 5 * (0 + (j : Int)) + (0 + (j : Int)) * (0 + (j : Int))))
theorem ss_ab {d : Int} {n : Nat} : ∀ x ∈ ss d n, x = "a" ∨ x = "b" := fun x hx => by
  obtain ⟨j, _, rfl⟩ := List.mem_map.mp hx
  exact abc_or _
theorem ss_len {d : Int} {n : Nat} : (ss d n).length = n := by simp [ss]
theorem ss_bit {d : Int} {n : Nat} : (rngD 0 n).map (bitF d) = (ss d n).map D.str := by
  unfold rngD ss
  rw [List.map_map, List.map_map]; rfl
theorem string_ok {d : Int} {m : Nat} (hm : m ≤ 4) : ∃ (z : Str) (r : Rho), fn__law_string c [.d (.int d), .d (.int m)] = .ok (.str z) r ∧ PyData.strOk z = true ∧ z.length ≤ m := by
  have h0 : (0 : Int) < (m : Int) + 1 := by omega
  have h1 := Int.emod_nonneg d (b := (m : Int) + 1) (by omega)
  have h2 := Int.emod_lt_of_pos d h0
  obtain ⟨n, hn⟩ : ∃ n : Nat, d % ((m : Int) + 1) = n := ⟨_, (Int.toNat_of_nonneg h1).symm⟩
  have hr : rngOk (n : Int) = true := rngOk_nat (by omega)
  have h3 : lcF (gN 2) (fun ρ => .ok true ρ) (fOp gIxA (fC (.str "ab")) (fOp gMod (fCB gInt (fCons (fOp gDiv (fVar 0) (fOp gAdd (fOp gAdd (fC (.int 1)) (fOp gMul (fC (.int 5)) (fVar 2))) (fOp gMul (fVar 2) (fVar 2)))) fNil)) (fC (.int 2)))) [2] (rngD 0 n) [] [.d (.int d), .d (.int m), .un] = .ok ([] ++ (rngD 0 n).map (bitF d)) [.d (.int d), .d (.int m), .un] := by
    refine lc_map _ _ _ (fun x hx => ?_) (by rw [rngD_len, List.length_nil]; omega)
    obtain ⟨j, hj⟩ := List.getElem?_of_mem hx
    obtain ⟨hj, rfl⟩ := rngD_get hj
    exact ⟨_, [.d (.int d), .d (.int m), .d (.int (0 + j))], rfl, rfl, bit_ok (by omega), rfl⟩
  rw [List.nil_append, ss_bit] at h3
  have h5 := abs_ok (ss d n) ss_ab (by rw [ss_len]; omega)
  have h6 := ab_join (l := ss d n) ss_ab (by rw [ss_len]; omega)
  rw [ss_len] at h5
  generalize Txt.join "" (ss d n) = z at h5 h6
  refine ⟨z, [.d (.int d), .d (.int m), .un], ?_, h5.1, by omega⟩
  simp [fn__law_string, fnOf, g__law_string, h0, hn, hr, wipeR, backR, h3, h6, outsOk, List.range, List.range.loop, isOwn, isPar]
/-! ### the draws -/
def il (ys : List Int) : List D := ys.map D.int
theorem il_len {ys : List Int} : (il ys).length = ys.length := by simp [il]
theorem il_snoc {ys : List Int} {y : Int} : il ys ++ [D.int y] = il (ys ++ [y]) := by simp [il]
def inR (ys : List Int) : Prop := ∀ y ∈ ys, 0 ≤ y ∧ y < 65521
theorem inR_snoc {ys : List Int} {y : Int} (h : inR ys) (h1 : 0 ≤ y ∧ y < 65521) : inR (ys ++ [y]) := by
  intro z hz
  rcases List.mem_append.mp hz with hz | hz
  · exact h z hz
  · rw [List.mem_singleton.mp hz]; exact h1
theorem mod65 (x : Int) : 0 ≤ x % 65521 ∧ x % 65521 < 65521 := ⟨Int.emod_nonneg _ (by decide), Int.emod_lt_of_pos _ (by decide)⟩
theorem mod1009 (x : Int) : 0 ≤ x % 1009 ∧ x % 1009 < 65521 := ⟨Int.emod_nonneg _ (by decide), by have := Int.emod_lt_of_pos x (b := 1009) (by decide); omega⟩
def drA (S : List D) (sd : Int) (a4 : Sl) (n0 i : Nat) (ρ : Rho) : Prop := ∃ (ys : List Int) (z : Int) (e5 : Sl), ρ = [.d (.scr S), .d (.int 30), .own (.lst (il ys)) true, .d (.int sd), a4, e5, .d (.int z)] ∧ inR ys ∧ ys.length ≤ n0 + i
theorem drA_turn {S : List D} {sd : Int} {a4 : Sl} {n0 : Nat} (hn : n0 ≤ 5000) (i : Nat) (x : D) (ρ : Rho) (hx : (rngD 0 60)[i]? = some x) (h : drA S sd a4 n0 i ρ) : GoI (fun r => NxI (drA S sd a4 n0 (i + 1)) (L1__law_draws c r)) (gN 5 x ρ) := by
  obtain ⟨ys, z, e5, rfl, hr, hl⟩ := h
  have hi := (rngD_get hx).1
  have h3 : ys.length < 1000000 := by omega
  by_cases h1 : 0 < z
  · simp [L1__law_draws, h1, h3, il_len, il_snoc]
    exact ⟨_, _, _, rfl, inR_snoc hr (mod1009 _), by simp; omega⟩
  · simp [L1__law_draws, h1]
    exact ⟨_, _, _, rfl, hr, by omega⟩
def drB (S : List D) (i : Nat) (ρ : Rho) : Prop := ∃ (ys : List Int) (sd : Int) (e4 e5 e6 : Sl), ρ = [.d (.scr S), .d (.int 30), .own (.lst (il ys)) true, .d (.int sd), e4, e5, e6] ∧ inR ys ∧ ys.length ≤ 60 * i
theorem drB_turn {xs : List Int} (hx : xs.length ≤ 63) {S : List D} (i : Nat) (x : D) (ρ : Rho) (hg : (il xs)[i]? = some x) (h : drB S i ρ) : GoI (fun r => NxI (drB S (i + 1)) (L2__law_draws c r)) (gN 4 x ρ) := by
  obtain ⟨ys, sd, e4, e5, e6, rfl, hr, hl⟩ := h
  have hi : i < xs.length := by
    have := (List.getElem?_eq_some_iff.mp hg).1
    rwa [il_len] at this
  obtain ⟨v, rfl⟩ : ∃ v : Int, x = .int v := by
    obtain ⟨v, _, rfl⟩ := List.mem_map.mp (List.mem_of_getElem? hg)
    exact ⟨v, rfl⟩
  have h3 : ys.length < 1000000 := by omega
  have m1 : ∀ x, cMul x 48271 = true := fun _ => rfl
  have m3 : ∀ x, cMul x 16807 = true := fun _ => rfl
  generalize hz : (if v < 0 then -v else v) = z
  by_cases h1 : (1000000000000000000 : Int) ≤ z
  · obtain ⟨r, hr', ys', z', e', rfl, hr2, hl2⟩ := for_wish (g := L1__law_draws c) (I := drA S ((sd * 48271 + z + 11) % 2147483647) (.d (.int v)) (60 * i)) (rngD 0 60) [.d (.scr S), .d (.int 30), .own (.lst (il ys)) true, .d (.int ((sd * 48271 + z + 11) % 2147483647)), .d (.int v), e5, .d (.int z)]
      (drA_turn (by omega)) ⟨ys, z, e5, rfl, hr, by omega⟩
    simp only [rngD_len] at hl2
    simp [L2__law_draws, hz, m1, h1, hr']
    exact ⟨ys', _, _, _, _, rfl, hr2, by omega⟩
  · simp [L2__law_draws, hz, m1, m3, h1, h3, il_len, il_snoc]
    exact ⟨_, _, _, _, _, rfl, inR_snoc hr (mod65 _), by simp; omega⟩
def drC (S : List D) (i : Nat) (ρ : Rho) : Prop := ∃ (ys : List Int) (sd : Int) (e4 e5 e6 : Sl), ρ = [.d (.scr S), .d (.int 30), .own (.lst (il ys)) true, .d (.int sd), e4, e5, e6] ∧ inR ys ∧ ys.length ≤ 4000 + i ∧ min 30 i ≤ ys.length
theorem drC_turn {S : List D} (i : Nat) (x : D) (ρ : Rho) (hg : (rngD 0 30)[i]? = some x) (h : drC S i ρ) : GoI (fun r => NxI (drC S (i + 1)) (L3__law_draws c r)) (gN 5 x ρ) := by
  obtain ⟨ys, sd, e4, e5, e6, rfl, hr, hl, hm⟩ := h
  obtain ⟨hi, rfl⟩ := rngD_get hg
  rw [Int.zero_add]
  have h3 : ys.length < 1000000 := by omega
  have m1 : ∀ x, cMul x 69621 = true := fun _ => rfl
  by_cases h1 : (ys.length : Int) < 30
  · simp [L3__law_draws, m1, h1, h3, il_len, il_snoc]
    exact ⟨_, _, _, _, _, rfl, inR_snoc hr (mod65 _), by simp; omega, by simp; omega⟩
  · simp [L3__law_draws, h1, il_len]
    exact ⟨_, _, _, _, _, rfl, hr, by omega, by omega⟩
theorem draws_ok (xs : List Int) (hx : xs.length ≤ 63) : ∃ (ys : List Int) (r : Rho), fn__law_draws c [.d (.scr (il xs)), .d (.int 30)] = .ok (.lst (il ys)) r ∧ inR ys ∧ ys.length = 30 := by
  obtain ⟨r1, er1, ys, sd, e4, e5, e6, rfl, hr, hl⟩ := for_wish (g := L2__law_draws c) (fg := gN 4) (I := drB (il xs)) (il xs) [.d (.scr (il xs)), .d (.int 30), .own (.lst []) true, .d (.int 7), .un, .un, .un] (drB_turn hx) ⟨[], 7, _, _, _, rfl, (fun y hy => by cases hy), by simp⟩
  rw [il_len] at hl
  obtain ⟨r2, er2, ys2, sd2, f4, f5, f6, rfl, hr2, hl2, hm2⟩ := for_wish (g := L3__law_draws c) (fg := gN 5) (I := drC (il xs)) (rngD 0 30) [.d (.scr (il xs)), .d (.int 30), .own (.lst (il ys)) true, .d (.int sd), e4, e5, e6] (drC_turn) ⟨ys, sd, e4, e5, e6, rfl, hr, by omega, by omega⟩
  rw [rngD_len] at hm2
  have ht : (il xs).take 63 = il xs := List.take_of_length_le (by rw [il_len]; exact hx)
  have h2 : (il ys2).take 30 = il (ys2.take 30) := by simp [il]
  refine ⟨ys2.take 30, [.d (.scr (il xs)), .d (.int 30), .own (.lst (il ys2)) true, .d (.int sd2), f4, f5, f6], ?_, fun y hy => hr2 y (List.mem_of_mem_take hy), by rw [List.length_take]; omega⟩
  simp [fn__law_draws, fnOf, g__law_draws, ht, er1, er2, h2, outsOk, List.range, List.range.loop, isOwn, isPar]
end LW

namespace LW
open PySem PySem.Spec PyProof.Rows L2 DL Builtin Builtin.Str PySem.StrLaws
variable {c : Cs}
/-! ### many rules -/
def bk (k : Nat) : Str := "b" ++ Str.ofString (toString (k : Int))
theorem bk_len {k : Nat} (h : k < 10000) : (Str.ofString (toString (k : Int))).length ≤ 10 := PySem.W.KT.len_num (by omega) (by omega)
theorem bk_inj {i j : Nat} (hi : i < 10000) (hj : j < 10000) (h : bk i = bk j) : i = j := by
  have h1 : (("b" : Str).cps ++ (Str.ofString (toString (i : Int))).cps).toList = (("b" : Str).cps ++ (Str.ofString (toString (j : Int))).cps).toList := congrArg (fun z : Str => z.cps.toList) h
  rw [Array.toList_append, Array.toList_append] at h1
  have h2 := PySem.W.str_of_cps (List.append_cancel_left h1)
  have e1 := PySem.W.KIN.num_reads (n := (i : Int)) (by omega) (by omega)
  have e2 := PySem.W.KIN.num_reads (n := (j : Int)) (by omega) (by omega)
  rw [h2, e2] at e1
  simp at e1
  omega
theorem ok_of_string (z : String) : PyData.strOk (Str.ofString z) = true := by
  rw [strOk_iff]
  intro a ha
  have : a ∈ z.toList.map Char.toNat := by
    have e : (Str.ofString z).cps.toList = z.toList.map Char.toNat := by rw [Str.ofString_eq_toList]
    rw [← e]; exact ha
  obtain ⟨ch, _, rfl⟩ := List.mem_map.mp this
  have := ch.valid
  have h := ch.val.toNat
  rcases ch.valid with h | h
  · show ch.val.toNat < _
    omega
  · show ch.val.toNat < _
    omega
theorem bk_ok (k : Nat) : PyData.strOk (bk k) = true := strOk_app (ok_of_string _) (ok_of_string _)
def rsM (n : Nat) : List (Str × Str) := (List.range n).map fun k => ("a", bk k)
theorem rsM_mem {n : Nat} {o z : Str} (h : (o, z) ∈ rsM n) : ∃ k, k < n ∧ o = "a" ∧ z = bk k := by
  obtain ⟨k, hk, e⟩ := List.mem_map.mp h
  cases e
  exact ⟨k, List.mem_range.mp hk, rfl, rfl⟩
theorem rsM_RI {n : Nat} (h : n ≤ 2001) : RI (rsM n) := ⟨by simp [rsM]; omega, fun o z hz => by
  obtain ⟨k, _, rfl, rfl⟩ := rsM_mem hz
  exact ⟨by decide, by decide +kernel⟩⟩
theorem rsM_ok {n : Nat} (h : n ≤ 2001) : RsOk (rsM n) := ⟨fun o z hz => by
  obtain ⟨k, hk, rfl, rfl⟩ := rsM_mem hz
  have := bk_len (k := k) (by omega)
  have e : ("b" : Str).length = 1 := by decide
  have e2 : ("a" : Str).length = 1 := by decide
  unfold bk
  rw [str_len]; omega⟩
theorem hits_a : hits "a" "a" 0 = [0] := by decide +kernel
theorem repl_a (z : Str) : repl "a" "a" z 0 = z := by
  refine PySem.W.str_of_cps ?_
  show (((cutS "a" none (some ((0 : Nat) : Int))).cps ++ z.cps) ++ (cutS "a" (some (((0 : Nat) : Int) + ((("a" : Str).length : Nat) : Int))) none).cps).toList = z.cps.toList
  have e : ((0 : Nat) : Int) + ((("a" : Str).length : Nat) : Int) = ((1 : Nat) : Int) := by decide
  rw [e, Array.toList_append, Array.toList_append, cps_to, cps_from]
  have e2 : ("a" : Str).cps.toList = [97] := by decide +kernel
  rw [e2]
  simp
theorem outs_M (n : Nat) : outs (rsM n) "a" = (List.range n).map bk := by
  unfold outs rsM
  rw [List.flatMap_map]
  have : ∀ l : List Nat, (l.flatMap fun k => (hits "a" "a" 0).map (repl "a" "a" (bk k))) = l.map bk := by
    intro l
    induction l with
    | nil => rfl
    | cons k l ih => rw [List.flatMap_cons, ih, hits_a, List.map_cons, List.map_nil, repl_a]; rfl
  exact this _
theorem bk_nodup {n : Nat} (h : n ≤ 2001) : ((List.range n).map bk).Nodup := by
  unfold List.Nodup
  rw [List.pairwise_map]
  refine List.Pairwise.imp_of_mem (fun {a b} ha hb hne e => hne ?_) (List.nodup_range (n := n))
  exact bk_inj (by have := List.mem_range.mp ha; omega) (by have := List.mem_range.mp hb; omega) e
theorem foldS_nodup : ∀ (xs ks : List Str), (ks ++ xs).Nodup → xs.foldl insS ks = ks ++ xs
  | [], ks, _ => by simp
  | x :: xs, ks, h => by
    have hx : x ∉ ks := fun hm => by
      have := (List.nodup_append.mp h).2.2 x hm x List.mem_cons_self
      exact this rfl
    rw [List.foldl_cons]
    unfold insS
    rw [if_neg hx]
    have e : ks ++ x :: xs = (ks ++ [x]) ++ xs := by simp
    rw [e] at h ⊢
    exact foldS_nodup xs (ks ++ [x]) h
theorem lv1 {n : Nat} (h : n ≤ 2001) : lv (rsM n) "a" 1 = sortS ((List.range n).map bk) := by
  show sortS (levS (rsM n) ["a"]) = _
  have : levS (rsM n) ["a"] = (List.range n).map bk := by
    show (outs (rsM n) "a").foldl insS [] = _
    rw [outs_M, foldS_nodup _ _ (by simpa using bk_nodup h)]; rfl
  rw [this]
theorem lvOk_M {n : Nat} (h : n ≤ 2000) : LvOk (rsM n) "a" 1 := by
  have e1 := lv1 (n := n) (by omega)
  have e2 : ("a" : Str).length = 1 := by decide
  have k : ∀ j ≤ 1, j = 0 ∨ j = 1 := fun j hj => by omega
  refine ⟨fun j hj => ?_, fun j hj s hs => ?_, fun j hj s hs => ?_, fun j hj s hs => ?_⟩
  · rcases k j hj with rfl | rfl
    · show 1 ≤ 2000
      omega
    · rw [e1, sortS_len]; simp; omega
  · rcases k j (by omega) with rfl | rfl
    · rw [List.mem_singleton.mp hs, e2]; omega
    · omega
  · rcases k j (by omega) with rfl | rfl
    · rw [List.mem_singleton.mp hs, e2]; simp [rsM]; omega
    · omega
  · rcases k j hj with rfl | rfl
    · rw [List.mem_singleton.mp hs]; decide +kernel
    · rw [e1] at hs
      obtain ⟨j, _, rfl⟩ := List.mem_map.mp (sortS_mem.mp hs)
      exact bk_ok j
/-! ### a loop that ends in an exception -/
theorem for_raise {fg : FG} {g : FS} {e : Xc} {y : D} : ∀ (n : Nat) (I : Nat → Rho → Prop) (xs : List D) (ρ : Rho), (∀ (i : Nat) (x : D) (ρ : Rho), i < n → xs[i]? = some x → I i ρ → GoI (fun r => NxI (I (i + 1)) (g r)) (fg x ρ)) → xs[n]? = some y → (∀ ρ, I n ρ → ∃ r r2, fg y ρ = some r ∧ g r = .exc e r2) → I 0 ρ → ∃ r2, forL fg g xs ρ = .exc e r2
  | n, I, [], ρ, h, hy, hr, h0 => by cases hy
  | 0, I, x :: xs, ρ, h, hy, hr, h0 => by
    cases hy
    obtain ⟨r, r2, e1, e2⟩ := hr ρ h0
    refine ⟨r2, ?_⟩
    show (match fg y ρ with | none => _ | some r => _) = _
    rw [e1]
    simp only [e2]
  | n + 1, I, x :: xs, ρ, h, hy, hr, h0 => by
    have q := h 0 x ρ (by omega) rfl h0
    cases e1 : fg x ρ with
    | none => rw [e1] at q; cases q
    | some r =>
      rw [e1, goi_some] at q
      have go : ∀ r', I 1 r' → ∃ r2, forL fg g xs r' = .exc e r2 := fun r' h1 =>
        for_raise n (fun i => I (i + 1)) xs r' (fun i x ρ hi hx => h (i + 1) x ρ (by omega) hx) hy hr h1
      cases e2 : g r with
      | nx r' =>
        rw [e2, nxi_nx] at q
        obtain ⟨r2, h2⟩ := go r' q
        refine ⟨r2, ?_⟩
        show (match fg x ρ with | none => _ | some r => _) = _
        rw [e1]
        simp only [e2]
        exact h2
      | ct r' =>
        rw [e2, nxi_ct] at q
        obtain ⟨r2, h2⟩ := go r' q
        refine ⟨r2, ?_⟩
        show (match fg x ρ with | none => _ | some r => _) = _
        rw [e1]
        simp only [e2]
        exact h2
      | _ => rw [e2] at q; cases q
/-! ### the level that is too wide -/
theorem reach_both {rs : List (Str × Str)} (hrs : RsOk rs) {s : Str} (hs : s.length ≤ 1000) {d : List (Key × D)} {a1 a2 a3 a4 : Sl} (i : Nat) (x : D) (ρ : Rho) (hx : (allTags s 0 rs)[i]? = some x) (hb : (((outs rs s).take i).foldl ins' d).length ≤ 2000) (h : reI c rs s d a1 a2 a3 a4 i ρ) :
    ((((outs rs s).take (i + 1)).foldl ins' d).length ≤ 2000 → GoI (fun r => NxI (reI c rs s d a1 a2 a3 a4 (i + 1)) (L1_Rules_reached c r)) (gT 2 (gsCons (gN 7) (gsCons (gN 8) gsNil)) x ρ)) ∧
    (2000 < (((outs rs s).take (i + 1)).foldl ins' d).length → ∃ r r2, gT 2 (gsCons (gN 7) (gsCons (gN 8) gsNil)) x ρ = some r ∧ L1_Rules_reached c r = .exc ⟨c.c_TooMany, none⟩ r2) := by
  obtain ⟨e7, e8, rfl⟩ := h
  rw [allQ_tags, List.getElem?_map] at hx
  cases hq : (allQ s 0 rs)[i]? with
  | none => rw [hq] at hx; cases hx
  | some q =>
    rw [hq] at hx
    obtain ⟨j, k, z⟩ := q
    simp at hx
    subst hx
    obtain ⟨j', o, n, h1, h2, h3⟩ := allQ_ok s rs 0 _ (List.mem_of_getElem? hq)
    simp at h1 h3
    subst h1 h3
    obtain ⟨l1, l2⟩ := hrs.len o n (List.mem_of_getElem? h2)
    obtain ⟨r, er⟩ := repl_ok (c := c) (k := k) h2 hs l1 l2
    have ho : (outs rs s)[i]? = some (repl s o n k) := by
      rw [← allQ_outs s rs 0, List.getElem?_map, hq]; rfl
    have ef := foldl_take (d := d) ho
    rw [ef]
    have ei : ∀ ρ, insOf "_replaced" ρ (.d (inst c rs)) = some c.c_Rules := fun ρ => e_insOf rfl
    have ep : putD (.dK (((outs rs s).take i).foldl ins' d)) (.str (repl s o n k)) (.bl true) = some (.dK (ins' (((outs rs s).take i).foldl ins' d) (repl s o n k))) := if_pos (show (((outs rs s).take i).foldl ins' d).length < 1000000 by omega)
    refine ⟨fun hlt => ?_, fun hgt => ?_⟩
    · have hg : ¬ ((2000 : Int) < ((ins' (((outs rs s).take i).foldl ins' d) (repl s o n k)).length : Int)) := by omega
      simp [L1_Rules_reached, ei, er, ep, hg]
      exact ⟨_, _, by rw [ef]⟩
    · have hg : ((2000 : Int) < ((ins' (((outs rs s).take i).foldl ins' d) (repl s o n k)).length : Int)) := by omega
      refine ⟨_, [.d (inst c rs), a1, a2, a3, a4, .own (.dK (ins' (((outs rs s).take i).foldl ins' d) (repl s o n k))) true, .d (.str s), .d (.int (j : Int)), .d (.int (k : Int))], rfl, ?_⟩
      · simp [L1_Rules_reached, ei, er, ep, hg]
theorem keys_take {n i : Nat} (hi : i ≤ n) (hn : n ≤ 2001) : (((outs (rsM n) "a").take i).foldl ins' []).length = i := by
  have h := fold_keys ((outs (rsM n) "a").take i) (d := []) (ks := []) rfl
  rw [keys_len' h, outs_M]
  have e : ((List.range n).map bk).take i = (List.range i).map bk := by
    rw [← List.map_take, List.take_range, Nat.min_eq_left hi]
  rw [e, foldS_nodup _ _ (by simpa using bk_nodup (n := i) (by omega))]
  simp
theorem wide_raise {n m : Nat} (hn : n = m + 1) (hm : m = 2000) : ∃ r, fn_Rules_reached c [.d (inst c (rsM n)), .d (.str "a"), .d (.int 1)] = .exc ⟨c.c_TooMany, none⟩ r := by
  have e2 : ("a" : Str).length = 1 := by decide
  have hl0 : (allTags "a" 0 (rsM n)).length = n := by
    rw [allQ_tags, List.length_map, ← List.length_map (f := fun q : Nat × Nat × Str => q.2.2), allQ_outs, outs_M]; simp
  obtain ⟨rp, erp⟩ := places_ok (c := c) (rs := rsM n) (s := "a") (by rw [e2]; simp [rsM]; omega) (by omega)
  have hb := rsM_ok (n := n) (by omega)
  obtain ⟨y, hy⟩ : ∃ y, (allTags "a" 0 (rsM n))[m]? = some y := ⟨_, List.getElem?_eq_getElem (by omega)⟩
  obtain ⟨r2, er2⟩ := for_raise (g := L1_Rules_reached c) (e := ⟨c.c_TooMany, none⟩) m (reI c (rsM n) "a" [] (.d (.str "a")) (.d (.int 1)) (.d (.lst [.str "a"])) (.d (.int 0))) (allTags "a" 0 (rsM n))
    [.d (inst c (rsM n)), .d (.str "a"), .d (.int 1), .d (.lst [.str "a"]), .d (.int 0), .own (.dK []) true, .d (.str "a"), .un, .un]
    (fun i x ρ hi hx h => (reach_both hb (by omega) i x ρ hx (by rw [keys_take] <;> omega) h).1 (by rw [keys_take] <;> omega)) hy
    (fun ρ h => (reach_both hb (by omega) m y ρ hy (by rw [keys_take] <;> omega) h).2 (by rw [keys_take] <;> omega)) ⟨_, _, rfl⟩
  have ei : ∀ ρ, insOf "places" ρ (.d (inst c (rsM n))) = some c.c_Rules := fun ρ => e_insOf rfl
  have hr1 : rngD 0 1 = [.int 0] := rfl
  refine ⟨r2, ?_⟩
  simp [fn_Rules_reached, fnOf, g_Rules_reached, L3_Rules_reached, L2_Rules_reached, hr1, forL, ei, erp, er2, outsOk, List.range, List.range.loop, isOwn, isPar]
end LW

namespace LW
open PySem PySem.Spec PyProof.Rows L2 DL Builtin Builtin.Str PySem.StrLaws
variable {c : Cs}
theorem fnOf_rt {n : Nat} {g : FS} {ρa r : Rho} {x : D} (h : g (ρa ++ List.replicate (n - ρa.length) .un) = .rt x r) (h2 : outsOk ρa r = true) : fnOf n g ρa = .ok x r := by
  unfold fnOf
  rw [h]
  simp only [h2, if_true]
theorem gStr_nat {k : Nat} (h : k < 10000) : gStr [.int (k : Int)] = some (.str (Str.ofString (toString (k : Int)))) := by
  refine if_pos (decide_eq_true ?_)
  exact Nat.lt_of_lt_of_le (show ((k : Nat) : Int).natAbs < 2 ^ 20 by rw [Int.natAbs_natCast]; omega) (Nat.pow_le_pow_right (by omega) (by omega))
theorem gAdd_b {k : Nat} (h : k < 10000) : gAdd (.str "b") (.str (Str.ofString (toString (k : Int)))) = some (.str (bk k)) := by
  have e : ("b" : Str).length = 1 := by decide
  have := bk_len (k := k) (by omega)
  exact gAdd_str (by omega)
def rulF : D → D
  | .int k => .tup [.str "a", .str (bk k.toNat)]
  | _ => .non
def strF : D → D
  | .int k => .str (bk k.toNat)
  | _ => .non
theorem rng_rul (n : Nat) : (rngD 0 n).map rulF = rsD (rsM n) := by
  unfold rngD rsD rsM
  rw [List.map_map, List.map_map]
  apply List.map_congr_left
  intro k _
  show D.tup [.str "a", .str (bk (0 + (k : Int)).toNat)] = D.tup [.str "a", .str (bk k)]
  rw [Int.zero_add, Int.toNat_natCast]
theorem rng_str (n : Nat) : (rngD 0 n).map strF = ((List.range n).map bk).map D.str := by
  unfold rngD
  rw [List.map_map, List.map_map]
  apply List.map_congr_left
  intro k _
  show D.str (bk (0 + (k : Int)).toNat) = D.str (bk k)
  rw [Int.zero_add, Int.toNat_natCast]
theorem lc_rul {n : Nat} (hn : n ≤ 2001) : lcF (gN 4) (fun ρ => .ok true ρ) (fTup (fCons (fC (.str "a")) (fCons (fOp gAdd (fC (.str "b")) (fCB gStr (fCons (fVar 4) fNil))) fNil))) [4] (rngD 0 n) [] [.d (.int n), .un, .un, .un, .un] = .ok (rsD (rsM n)) [.d (.int n), .un, .un, .un, .un] := by
  have := lc_map (fg := gN 4) (ft := fun ρ => .ok true ρ) (fe := fTup (fCons (fC (.str "a")) (fCons (fOp gAdd (fC (.str "b")) (fCB gStr (fCons (fVar 4) fNil))) fNil))) (vs := [4]) rulF (ρ := [.d (.int n), .un, .un, .un, .un]) (rngD 0 n) [] (fun x hx => by
    obtain ⟨j, hj⟩ := List.getElem?_of_mem hx
    obtain ⟨hj, rfl⟩ := rngD_get hj
    rw [Int.zero_add]
    refine ⟨_, [.d (.int n), .un, .un, .un, .d (.int j)], rfl, rfl, ?_, rfl⟩
    have e1 := gStr_nat (k := j) (by omega)
    have e2 := gAdd_b (k := j) (by omega)
    generalize Str.ofString (toString (j : Int)) = z at e1 e2
    simp [e1, e2, rulF]) (by rw [rngD_len, List.length_nil]; omega)
  rw [List.nil_append, rng_rul] at this
  exact this
theorem lc_str {n : Nat} (hn : n ≤ 2001) (a1 a2 a3 : Sl) : lcF (gN 4) (fun ρ => .ok true ρ) (fOp gAdd (fC (.str "b")) (fCB gStr (fCons (fVar 4) fNil))) [4] (rngD 0 n) [] [.d (.int n), a1, a2, a3, .un] = .ok (((List.range n).map bk).map D.str) [.d (.int n), a1, a2, a3, .un] := by
  have := lc_map (fg := gN 4) (ft := fun ρ => .ok true ρ) (fe := fOp gAdd (fC (.str "b")) (fCB gStr (fCons (fVar 4) fNil))) (vs := [4]) strF (ρ := [.d (.int n), a1, a2, a3, .un]) (rngD 0 n) [] (fun x hx => by
    obtain ⟨j, hj⟩ := List.getElem?_of_mem hx
    obtain ⟨hj, rfl⟩ := rngD_get hj
    rw [Int.zero_add]
    refine ⟨_, [.d (.int n), a1, a2, a3, .d (.int j)], rfl, rfl, ?_, rfl⟩
    have e1 := gStr_nat (k := j) (by omega)
    have e2 := gAdd_b (k := j) (by omega)
    generalize Str.ofString (toString (j : Int)) = z at e1 e2
    simp [e1, e2, strF]) (by rw [rngD_len, List.length_nil]; omega)
  rw [List.nil_append, rng_str] at this
  exact this
theorem good_strs {L : List Str} (h : strsOk L) : good 40 (.lst (L.map D.str)) = true := by
  show (L.map D.str).all (good 39) = true
  rw [List.all_map, List.all_eq_true]
  exact fun x hx => h x hx
theorem many2000 {n : Nat} (hn : n = 2000) : ∃ r, fn__law_many c [.d (.int n)] = .ok (.bl true) r := by
  have hr : rngOk (n : Int) = true := rngOk_nat (by omega)
  obtain ⟨r1, e1⟩ := init_ok (c := c) (rsM_RI (n := n) (by omega))
  obtain ⟨r2, e2⟩ := reached_ok (c := c) (rsM_ok (n := n) (by omega)) (s0 := "a") (K := 1) (by omega) (lvOk_M (by omega))
  have e3 := lc_rul (n := n) (by omega)
  have ei : ∀ ρ, insOf "reached" ρ (.d (inst c (rsM n))) = some c.c_Rules := fun ρ => e_insOf rfl
  have hi : (n : Int) = 2000 := by omega
  rw [lv1 (by omega)] at e2
  have e4 := lc_str (n := n) (by omega) (.d (inst c (rsM n))) (.d (.lst ((sortS ((List.range n).map bk)).map D.str))) .un
  have hs : strsOk ((List.range n).map bk) := fun x hx => by
    obtain ⟨j, _, rfl⟩ := List.mem_map.mp hx
    exact bk_ok j
  have e5 : gSortedA [.lst (((List.range n).map bk).map D.str)] = some (.lst ((sortS ((List.range n).map bk)).map D.str)) := by
    show (if sortOk _ = true then some (D.lst _) else none) = _
    rw [if_pos (sortOk_strs hs (by simp; omega)), sortS_eq]
  have e6 : gEq (.lst ((sortS ((List.range n).map bk)).map D.str)) (.lst ((sortS ((List.range n).map bk)).map D.str)) = some (.bl true) := gEq_refl (good_strs fun x hx => hs x (sortS_mem.mp hx))
  generalize hL : (sortS ((List.range n).map bk)).map D.str = L at e2 e4 e5 e6
  generalize hM : ((List.range n).map bk).map D.str = M at e4 e5
  have e2' : fn_Rules_reached c [.d (inst c (rsM n)), .d (.str "a"), .d (.int 1)] = .ok (.lst L) r2 := e2
  have e7 : gEq (.int (n : Int)) (.int 2000) = some (.bl true) := by rw [hi]; rfl
  refine ⟨_, fnOf_rt (r := [.d (.int n), .d (inst c (rsM n)), .d (.lst L), .un, .un]) ?_ rfl⟩
  show g__law_many c [.d (.int n), .un, .un, .un, .un] = _
  simp [-e_eqI, g__law_many, hr, wipeR, backR, e3, e1, ei, fTryAs, e2', e7, e4, e5, e6]
theorem many2001 {n m : Nat} (hn : n = m + 1) (hm : m = 2000) : ∃ r, fn__law_many c [.d (.int n)] = .ok (.bl true) r := by
  have hr : rngOk (n : Int) = true := rngOk_nat (by omega)
  obtain ⟨r1, e1⟩ := init_ok (c := c) (rsM_RI (n := n) (by omega))
  obtain ⟨r2, e2⟩ := wide_raise (c := c) hn hm
  have e3 := lc_rul (n := n) (by omega)
  have ei : ∀ ρ, insOf "reached" ρ (.d (inst c (rsM n))) = some c.c_Rules := fun ρ => e_insOf rfl
  have hi : (2000 : Int) < (n : Int) := by omega
  refine ⟨_, fnOf_rt (r := [.d (.int n), .d (inst c (rsM n)), .un, .un, .un]) ?_ rfl⟩
  show g__law_many c [.d (.int n), .un, .un, .un, .un] = _
  simp [g__law_many, hr, wipeR, backR, e3, e1, ei, fTryAs, e2, U1__law_many, S1__law_many, undo, gIsER, hi]
/-! ### the law -/
theorem str_get {ys : List Int} {n : Nat} (h : n < ys.length) : gIxA (.lst (il ys)) (.int (n : Int)) = some (.int ys[n]) := ixA_lst (by simp [il, h])
theorem draw_at {ys : List Int} (h : ys.length = 30) (n : Nat) (hn : n < 30) : ∃ v : Int, gIxA (.lst (il ys)) (.int (n : Int)) = some (.int v) := ⟨_, str_get (by omega)⟩
def ruI (S : List D) (ys : List Int) (i : Nat) (ρ : Rho) : Prop := ∃ (rs : List (Str × Str)) (e3 : Sl), ρ = [.d (.scr S), .d (.lst (il ys)), .own (.lst (rsD rs)) true, e3, .un, .un, .un, .un, .un] ∧ rs.length = i ∧
  ∀ o n, (o, n) ∈ rs → 1 ≤ o.length ∧ o.length ≤ 3 ∧ n.length ≤ 3 ∧ PyData.strOk o = true ∧ PyData.strOk n = true
def L1g (f : Fn) : FS :=
 (fDrop (fAppend (fVar 2) (fCons (fTup (fCons (fOp gAdd (fOp gIxA (fC (.str "ab")) (fOp gMod (fCB gInt (fCons (fOp gDiv (fOp gIxA (fVar 1) (fOp gAdd (fC (.int 1)) (fOp gMul (fC (.int 2)) (fVar 3)))) (fC (.int 5))) fNil)) (fC (.int 2)))) (fCall 2 [false, false] f (fCons (fOp gIxA (fVar 1) (fOp gAdd (fC (.int 1)) (fOp gMul (fC (.int 2)) (fVar 3)))) (fCons (fC (.int 2)) fNil)))) (fCons (fCall 2 [false, false] f (fCons (fOp gIxA (fVar 1) (fOp gAdd (fC (.int 2)) (fOp gMul (fC (.int 2)) (fVar 3)))) (fCons (fC (.int 3)) fNil))) fNil))) fNil)))
theorem L1g_eq : L1_law c = L1g (fn__law_string c) := rfl
theorem L1g_run {f : Fn} {S rl : List D} {ys : List Int} {i : Int} {u v k : Int} {z w : Str} {r1 r2 : Rho} (m1 : gMul (.int 2) (.int i) = some (.int k)) (eu : gIxA (.lst (il ys)) (.int (1 + k)) = some (.int u)) (ev : gIxA (.lst (il ys)) (.int (2 + k)) = some (.int v))
    (e1 : f [.d (.int u), .d (.int 2)] = .ok (.str z) r1) (e2 : f [.d (.int v), .d (.int 3)] = .ok (.str w) r2) (e4 : gAdd (.str (abc (u / 5))) (.str z) = some (.str (abc (u / 5) ++ z))) (hll : rl.length < 1000000) :
    L1g f [.d (.scr S), .d (.lst (il ys)), .own (.lst rl) true, .d (.int i), .un, .un, .un, .un, .un] = .nx [.d (.scr S), .d (.lst (il ys)), .own (.lst (rl ++ [.tup [.str (abc (u / 5) ++ z), .str w]])) true, .d (.int i), .un, .un, .un, .un, .un] := by
  have e5 := e_ab (u / 5)
  simp [-e_mul, L1g, m1, eu, ev, e1, e2, e4, e5, hll]
theorem ru_turn {S : List D} {ys : List Int} (hy : ys.length = 30) {m : Nat} (hm : m ≤ 5) (i : Nat) (x : D) (ρ : Rho) (hx : (rngD 0 m)[i]? = some x) (h : ruI S ys i ρ) : GoI (fun r => NxI (ruI S ys (i + 1)) (L1_law c r)) (gN 3 x ρ) := by
  obtain ⟨rs, e3, rfl, hl, hR⟩ := h
  obtain ⟨hi, rfl⟩ := rngD_get hx
  rw [Int.zero_add]
  obtain ⟨u, eu⟩ := draw_at hy (1 + 2 * i) (by omega)
  obtain ⟨v, ev⟩ := draw_at hy (2 + 2 * i) (by omega)
  rw [show ((1 + 2 * i : Nat) : Int) = 1 + 2 * (i : Int) by omega] at eu
  rw [show ((2 + 2 * i : Nat) : Int) = 2 + 2 * (i : Int) by omega] at ev
  have m1 : gMul (.int 2) (.int (i : Int)) = some (.int (2 * (i : Int))) := by
    have : i = 0 ∨ i = 1 ∨ i = 2 ∨ i = 3 ∨ i = 4 := by omega
    rcases this with rfl | rfl | rfl | rfl | rfl <;> rfl
  obtain ⟨z, r1, e1, k1, l1⟩ := string_ok (c := c) (d := u) (m := 2) (by omega)
  obtain ⟨w, r2, e2, k2, l2⟩ := string_ok (c := c) (d := v) (m := 3) (by omega)
  have e1 : fn__law_string c [.d (.int u), .d (.int 2)] = .ok (.str z) r1 := e1
  have e2 : fn__law_string c [.d (.int v), .d (.int 3)] = .ok (.str w) r2 := e2
  have ha := abc_or (u / 5)
  have hal : (abc (u / 5)).length = 1 := by rcases ha with h | h <;> rw [h] <;> decide
  have hak : PyData.strOk (abc (u / 5)) = true := by rcases ha with h | h <;> rw [h] <;> decide +kernel
  have e4 : gAdd (.str (abc (u / 5))) (.str z) = some (.str (abc (u / 5) ++ z)) := gAdd_str (by omega)
  have hll : (rsD rs).length < 1000000 := by unfold rsD; rw [List.length_map]; omega
  rw [e_gn, goi_some, L1g_eq]
  show NxI _ (L1g (fn__law_string c) [.d (.scr S), .d (.lst (il ys)), .own (.lst (rsD rs)) true, .d (.int (i : Int)), .un, .un, .un, .un, .un])
  rw [L1g_run m1 eu ev e1 e2 e4 hll, nxi_nx]
  refine ⟨rs ++ [(abc (u / 5) ++ z, w)], .d (.int (i : Int)), by unfold rsD; rw [List.map_append]; rfl, by rw [List.length_append, hl]; rfl, fun o n ho => ?_⟩
  rcases List.mem_append.mp ho with h | h
  · exact hR o n h
  · cases List.mem_singleton.mp h
    rw [str_len, hal]
    exact ⟨by omega, by omega, l2, strOk_app hak k1, k2⟩
inductive RtI (P : Rho → Prop) : Oc → Prop
  | nx {r : Rho} : P r → RtI P (.nx r)
  | rt {r : Rho} : RtI P (.rt (.bl true) r)
theorem for_ret {fg : FG} {g : FS} : ∀ (I : Nat → Rho → Prop) (xs : List D) (ρ : Rho), (∀ (i : Nat) (x : D) (ρ : Rho), xs[i]? = some x → I i ρ → GoI (fun r => RtI (I (i + 1)) (g r)) (fg x ρ)) → I 0 ρ → RtI (I xs.length) (forL fg g xs ρ)
  | I, [], ρ, h, h0 => .nx h0
  | I, x :: xs, ρ, h, h0 => by
    have q := h 0 x ρ rfl h0
    cases e1 : fg x ρ with
    | none => rw [e1] at q; cases q
    | some r =>
      rw [e1, goi_some] at q
      cases e2 : g r with
      | nx r' =>
        rw [e2] at q
        cases q with
        | nx q =>
          have ih := for_ret (fun i => I (i + 1)) xs r' (fun i x ρ hx => h (i + 1) x ρ hx) q
          have e : forL fg g (x :: xs) ρ = forL fg g xs r' := for_step e1 e2
          rw [e]; exact ih
      | rt y r' =>
        rw [e2] at q
        cases q
        have e : forL fg g (x :: xs) ρ = .rt (.bl true) r' := by
          show (match fg x ρ with | none => _ | some r => _) = _
          rw [e1]
          simp only [e2]
        rw [e]; exact .rt
      | _ => rw [e2] at q; cases q
def lwI (c : Cs) (S : List D) (ys : List Int) (rs : List (Str × Str)) (s0 : Str) (st : Int) (i : Nat) (ρ : Rho) : Prop := ∃ e3 e8, ρ = [.d (.scr S), .d (.lst (il ys)), .d (.lst (rsD rs)), e3, .d (.str s0), .d (.int st), .d (.lst ((lv rs s0 i).map D.str)), .d (inst c rs), e8] ∧ ∀ j, j < i → (lv rs s0 j).length ≤ 2000
theorem lw_turn {S : List D} {ys : List Int} {rs : List (Str × Str)} (R : R5 rs) {s0 : Str} (h0 : s0.length ≤ 8) (k0 : PyData.strOk s0 = true) {st : Int} {m : Nat} (hm : m ≤ 5) (i : Nat) (x : D) (ρ : Rho) (hx : (rngD 0 m)[i]? = some x) (h : lwI c S ys rs s0 st i ρ) : GoI (fun r => RtI (lwI c S ys rs s0 st (i + 1)) (L2_law c r)) (gN 3 x ρ) := by
  obtain ⟨e3, e8, rfl, hc⟩ := h
  obtain ⟨hi, rfl⟩ := rngD_get hx
  rw [Int.zero_add, e_gn, goi_some]
  by_cases hw : 2000 < (lv rs s0 i).length
  · have hw' : (2000 : Int) < ((lv rs s0 i).length : Int) := by omega
    have : L2_law c (List.set [.d (.scr S), .d (.lst (il ys)), .d (.lst (rsD rs)), e3, .d (.str s0), .d (.int st), .d (.lst ((lv rs s0 i).map D.str)), .d (inst c rs), e8] 3 (.d (.int i))) = .rt (.bl true) [.d (.scr S), .d (.lst (il ys)), .d (.lst (rsD rs)), .d (.int i), .d (.str s0), .d (.int st), .d (.lst ((lv rs s0 i).map D.str)), .d (inst c rs), e8] := by
      simp [L2_law, hw']
    rw [this]; exact .rt
  · have hw' : ¬ ((2000 : Int) < ((lv rs s0 i).length : Int)) := by omega
    have hc' : ∀ j ≤ i, (lv rs s0 j).length ≤ 2000 := fun j hj => by
      by_cases h : j = i
      · rw [h]; omega
      · exact hc j (by omega)
    obtain ⟨b1, b2⟩ := lv_ok R h0 k0 i
    obtain ⟨r1, er1⟩ := reached_ok (c := c) (rs := rs) ⟨fun o n ho => by have := R.rule o n ho; omega⟩ (s0 := s0) (K := i) (by omega) (lvOk R h0 k0 (by omega) hc')
    obtain ⟨r2, er2⟩ := next_ok (c := c) R (L := lv rs s0 i) (fun s hs => by have := b1 s hs; omega) b2 (by omega)
    have ei : ∀ ρ, insOf "reached" ρ (.d (inst c rs)) = some c.c_Rules := fun ρ => e_insOf rfl
    have e4 : gNe (.lst ((lv rs s0 i).map D.str)) (.lst ((lv rs s0 i).map D.str)) = some (.bl false) := by
      have g := good_strs b2
      unfold gNe
      rw [if_pos ⟨g, g⟩, show deq _ _ = true from deq_refl g]; rfl
    have e5 : gIsi [.lst ((lv rs s0 i).map D.str), .ty "list"] = some (.bl true) := rfl
    have : L2_law c (List.set [.d (.scr S), .d (.lst (il ys)), .d (.lst (rsD rs)), e3, .d (.str s0), .d (.int st), .d (.lst ((lv rs s0 i).map D.str)), .d (inst c rs), e8] 3 (.d (.int i))) = .nx [.d (.scr S), .d (.lst (il ys)), .d (.lst (rsD rs)), .d (.int i), .d (.str s0), .d (.int st), .d (.lst ((lv rs s0 (i + 1)).map D.str)), .d (inst c rs), .d (.lst ((lv rs s0 i).map D.str))] := by
      simp [L2_law, hw', ei, er1, er2, e4, e5]
      rfl
    rw [this]
    exact .nx ⟨_, _, rfl, fun j hj => hc' j (by omega)⟩
end LW

namespace LW
open PySem PySem.Spec PyProof.Rows L2 DL Builtin Builtin.Str PySem.StrLaws
variable {c : Cs}
def gLaw (c : Cs) (fd fs fi fm : Fn) (g1 g2 : FS) : FS :=
 (fSeq (fAsg (gN 1) (fCall 2 [false, false] fd (fCons (fVar 0) (fCons (fC (.int 30)) fNil))))
 (fSeq (fAsgN 2 (fLstN fNil))
 (fSeq (fFor (fRng1 (fCons (fOp gMod (fCB gInt (fCons (fOp gIxA (fVar 1) (fC (.int 0))) fNil)) (fC (.int 6))) fNil)) (gN 3)
 g1)
 (fSeq (fAsg (gN 4) (fOp gAdd (fCall 2 [false, false] fs (fCons (fOp gIxA (fVar 1) (fC (.int 20))) (fCons (fC (.int 4)) fNil))) (fCall 2 [false, false] fs (fCons (fOp gIxA (fVar 1) (fC (.int 21))) (fCons (fC (.int 4)) fNil)))))
 (fSeq (fAsg (gN 5) (fOp gMod (fCB gInt (fCons (fOp gIxA (fVar 1) (fC (.int 22))) fNil)) (fC (.int 5))))
 (fSeq (fAsg (gN 6) (fLst (fCons (fVar 4) fNil)))
 (fSeq (fAsg (gN 7) (fOfN (fMake c.c_Rules 2 [false] fi (fCons (fVar 2) fNil))))
 (fSeq (fFor (fRng1 (fCons (fOp gAdd (fVar 5) (fC (.int 1))) fNil)) (gN 3)
 g2)
 (fRet (fOrV (fOp gGt (fOp gMod (fCB gInt (fCons (fOp gIxA (fVar 1) (fC (.int 23))) fNil)) (fC (.int 40))) (fC (.int 0))) (fCall 1 [false] fm (fCons (fOp gAdd (fC (.int 2000)) (fOp gMod (fCB gInt (fCons (fOp gIxA (fVar 1) (fC (.int 24))) fNil)) (fC (.int 2)))) fNil))))))))))))
theorem gLaw_eq : g_law c = gLaw c (fn__law_draws c) (fn__law_string c) (fn_Rules___init__ c) (fn__law_many c) (L1_law c) (L2_law c) := rfl
section
variable {fd fs fi fm : Fn} {g1 g2 : FS} {S : List D} {ys : List Int} {r1 r2 r3 r4 r5 : Rho} {v0 v20 v21 v22 v23 v24 : Int} {n0 n22 : Nat} {rl : List D} {m : D} {s1 s2 s0 : Str} {e3 : Sl} {o : Oc}
theorem gLaw_run (hd : fd [.d (.scr S), .d (.int 30)] = .ok (.lst (il ys)) r1) (i0 : gIxA (.lst (il ys)) (.int 0) = some (.int v0)) (i20 : gIxA (.lst (il ys)) (.int 20) = some (.int v20)) (i21 : gIxA (.lst (il ys)) (.int 21) = some (.int v21)) (i22 : gIxA (.lst (il ys)) (.int 22) = some (.int v22)) (i23 : gIxA (.lst (il ys)) (.int 23) = some (.int v23)) (i24 : gIxA (.lst (il ys)) (.int 24) = some (.int v24))
    (h0 : v0 % 6 = (n0 : Int)) (h22 : v22 % 5 + 1 = (n22 : Int)) (k0 : rngOk (n0 : Int) = true) (k22 : rngOk (n22 : Int) = true)
    (hl : forL (gN 3) g1 (rngD 0 n0) [.d (.scr S), .d (.lst (il ys)), .own (.lst []) true, .un, .un, .un, .un, .un, .un] = .nx [.d (.scr S), .d (.lst (il ys)), .own (.lst rl) true, e3, .un, .un, .un, .un, .un])
    (hs1 : fs [.d (.int v20), .d (.int 4)] = .ok (.str s1) r2) (hs2 : fs [.d (.int v21), .d (.int 4)] = .ok (.str s2) r3) (ha : gAdd (.str s1) (.str s2) = some (.str s0)) (hi : fi [.own (.ins c.c_Rules []) false, .d (.lst rl)] = .ok .non (.own m false :: r4)) (ho : forL (gN 3) g2 (rngD 0 n22) [.d (.scr S), .d (.lst (il ys)), .d (.lst rl), e3, .d (.str s0), .d (.int (v22 % 5)), .d (.lst [.str s0]), .d m, .un] = o)
    (hm : fm [.d (.int (2000 + v24 % 2))] = .ok (.bl true) r5) (hP : RtI (fun r => ∃ z a b, r = [.d (.scr S), .d (.lst (il ys)), .d (.lst rl), z, .d (.str s0), .d (.int (v22 % 5)), a, .d m, b]) o) : ∃ r, gLaw c fd fs fi fm g1 g2 [.d (.scr S), .un, .un, .un, .un, .un, .un, .un, .un] = .rt (.bl true) r := by
  cases hP with
  | rt =>
    exact ⟨_, by simp [gLaw, hd, i0, i20, i21, i22, h0, h22, k0, k22, hl, hs1, hs2, ha, hi, ho]; rfl⟩
  | nx h =>
    obtain ⟨z, a, b, e⟩ := h
    rw [e] at ho
    refine ⟨[.d (.scr S), .d (.lst (il ys)), .d (.lst rl), z, .d (.str s0), .d (.int (v22 % 5)), a, .d m, b], ?_⟩
    · by_cases hq : 0 < v23 % 40
      · simp [gLaw, hd, i0, i20, i21, i22, i23, i24, h0, h22, k0, k22, hl, hs1, hs2, ha, hi, ho, hq]
      · simp [gLaw, hd, i0, i20, i21, i22, i23, i24, h0, h22, k0, k22, hl, hs1, hs2, ha, hi, ho, hq, hm]
end
theorem RtI.mono {P Q : Rho → Prop} {o : Oc} (h : RtI P o) (f : ∀ r, P r → Q r) : RtI Q o := by
  cases h with
  | nx h => exact .nx (f _ h)
  | rt => exact .rt
theorem many_ok {z : Int} (h : z = 2000 ∨ z = 2001) : ∃ r, fn__law_many c [.d (.int z)] = .ok (.bl true) r := by
  rcases h with h | h
  · obtain ⟨n, hn⟩ : ∃ n : Nat, n = 2000 := ⟨_, rfl⟩
    have e : z = (n : Int) := by omega
    rw [e]; exact many2000 hn
  · obtain ⟨m, hm⟩ : ∃ m : Nat, m = 2000 := ⟨_, rfl⟩
    have e : z = ((m + 1 : Nat) : Int) := by omega
    rw [e]; exact many2001 rfl hm
theorem law_true (xs : List Int) (hx : xs.length ≤ 63) : ∃ r, fn_law c [.d (.scr (xs.map D.int))] = .ok (.bl true) r := by
  obtain ⟨ys, r1, hd, hr, hy⟩ := draws_ok (c := c) xs hx
  obtain ⟨v0, i0⟩ := draw_at hy 0 (by omega)
  obtain ⟨v20, i20⟩ := draw_at hy 20 (by omega)
  obtain ⟨v21, i21⟩ := draw_at hy 21 (by omega)
  obtain ⟨v22, i22⟩ := draw_at hy 22 (by omega)
  obtain ⟨v23, i23⟩ := draw_at hy 23 (by omega)
  obtain ⟨v24, i24⟩ := draw_at hy 24 (by omega)
  obtain ⟨n0, h0⟩ : ∃ n : Nat, v0 % 6 = n := ⟨_, (Int.toNat_of_nonneg (Int.emod_nonneg _ (by omega))).symm⟩
  have b0 := Int.emod_lt_of_pos v0 (b := 6) (by omega)
  have q22 := Int.emod_nonneg v22 (b := 5) (by omega)
  have b22 := Int.emod_lt_of_pos v22 (b := 5) (by omega)
  obtain ⟨n22, h22⟩ : ∃ n : Nat, v22 % 5 + 1 = n := ⟨_, (Int.toNat_of_nonneg (a := v22 % 5 + 1) (by omega)).symm⟩
  obtain ⟨rr, hl, rs, e3, rfl, hlen, hR⟩ := for_wish (g := L1_law c) (I := ruI (il xs) ys) (rngD 0 n0) [.d (.scr (il xs)), .d (.lst (il ys)), .own (.lst []) true, .un, .un, .un, .un, .un, .un] (ru_turn hy (by omega)) ⟨[], _, rfl, rfl, fun o n h => by cases h⟩
  rw [rngD_len] at hlen
  have R : R5 rs := ⟨by omega, hR⟩
  obtain ⟨s1, r2, hs1, ks1, ls1⟩ := string_ok (c := c) (d := v20) (m := 4) (by omega)
  obtain ⟨s2, r3, hs2, ks2, ls2⟩ := string_ok (c := c) (d := v21) (m := 4) (by omega)
  have ha : gAdd (.str s1) (.str s2) = some (.str (s1 ++ s2)) := gAdd_str (by omega)
  have h8 : (s1 ++ s2).length ≤ 8 := by rw [str_len]; omega
  have k8 := strOk_app ks1 ks2
  generalize s1 ++ s2 = s0 at ha h8 k8
  obtain ⟨r4, hi⟩ := init_ok (c := c) (rs := rs) ⟨by omega, fun o n ho => ⟨(R.rule o n ho).1, (R.rule o n ho).2.2.2.1⟩⟩
  have hP := for_ret (g := L2_law c) (fg := gN 3) (lwI c (il xs) ys rs s0 (v22 % 5)) (rngD 0 n22) [.d (.scr (il xs)), .d (.lst (il ys)), .d (.lst (rsD rs)), e3, .d (.str s0), .d (.int (v22 % 5)), .d (.lst [.str s0]), .d (inst c rs), .un] (lw_turn R h8 k8 (by omega)) ⟨e3, .un, rfl, fun j hj => by omega⟩
  obtain ⟨r5, hm⟩ := many_ok (c := c) (z := 2000 + v24 % 2) (by omega)
  obtain ⟨r, e⟩ := gLaw_run (c := c) hd i0 i20 i21 i22 i23 i24 h0 h22 (rngOk_nat (by omega)) (rngOk_nat (by omega)) hl hs1 hs2 ha hi rfl hm (hP.mono fun r h => by
    obtain ⟨z, b, e, _⟩ := h
    exact ⟨_, _, _, e⟩)
  refine ⟨r, fnOf_rt ?_ rfl⟩
  rw [gLaw_eq]
  exact e
end LW

namespace LW
open PySem PySem.Spec PyProof.Rows L2 DL
theorem all_mk {l : PySem.W.OpenLaw} {w : World} {K : PySem.W.Frag} {h : Heap} {mg : Str → Option Value} {fa c_BadMachine c_Rules c_StairError c_TooMany f__law_draws f__law_string f__is_rule f_Rules___init__ f_Rules_places f_Rules__replaced f_Rules_reached f__law_next f__law_many f_law : Addr} (X : K.In h) (G : h.Ns mainGlobals mg) (hfa : mg "law" = some (.ref fa))
    {od__law_draws an__law_draws : Option Addr} {sl__law_draws : Array (Option Value)} {oc__law_draws kV__law_draws dc__law_draws pm__law_draws cd__law_draws ct__law_draws : Value}
    {od__law_string an__law_string : Option Addr} {sl__law_string : Array (Option Value)} {oc__law_string kV__law_string dc__law_string pm__law_string cd__law_string ct__law_string : Value}
    {od__is_rule an__is_rule : Option Addr} {sl__is_rule : Array (Option Value)} {oc__is_rule kV__is_rule dc__is_rule pm__is_rule cd__is_rule ct__is_rule : Value}
    {od_Rules___init__ an_Rules___init__ : Option Addr} {sl_Rules___init__ : Array (Option Value)} {oc_Rules___init__ kV_Rules___init__ dc_Rules___init__ pm_Rules___init__ cd_Rules___init__ ct_Rules___init__ : Value}
    {od_Rules_places an_Rules_places : Option Addr} {sl_Rules_places : Array (Option Value)} {oc_Rules_places kV_Rules_places dc_Rules_places pm_Rules_places cd_Rules_places ct_Rules_places : Value}
    {od_Rules__replaced an_Rules__replaced : Option Addr} {sl_Rules__replaced : Array (Option Value)} {oc_Rules__replaced kV_Rules__replaced dc_Rules__replaced pm_Rules__replaced cd_Rules__replaced ct_Rules__replaced : Value}
    {od_Rules_reached an_Rules_reached : Option Addr} {sl_Rules_reached : Array (Option Value)} {oc_Rules_reached kV_Rules_reached dc_Rules_reached pm_Rules_reached cd_Rules_reached ct_Rules_reached : Value}
    {od__law_next an__law_next : Option Addr} {sl__law_next : Array (Option Value)} {oc__law_next kV__law_next dc__law_next pm__law_next cd__law_next ct__law_next : Value}
    {od__law_many an__law_many : Option Addr} {sl__law_many : Array (Option Value)} {oc__law_many kV__law_many dc__law_many pm__law_many cd__law_many ct__law_many : Value}
    {od_law an_law : Option Addr} {sl_law : Array (Option Value)} {oc_law kV_law dc_law pm_law cd_law ct_law : Value}
    {tk_MOST_RULES : Tok}
    {tk_MOST_STRINGS : Tok}
    (aC_BadMachine : PySem.W.nsIn K mainGlobals "BadMachine" = some (some (.ref c_BadMachine)))
    (ex_BadMachine : PySem.W.excIn K c_BadMachine exList "ValueError.__new__" = true)
    (ep_BadMachine : PySem.W.keepIn K (.ref c_BadMachine) = true)
    (es_BadMachine : PySem.W.subIn K (.ref c_BadMachine) (.type "BaseException") = some true)
    (ey_BadMachine : PySem.W.typeIn K (.ref c_BadMachine) = some (.type "type"))
    (aC_Rules : PySem.W.nsIn K mainGlobals "Rules" = some (some (.ref c_Rules)))
    (pg_Rules : PySem.W.plainGet K c_Rules Str.empty = true)
    (hd_Rules : PySem.W.hasDictIn K c_Rules = true)
    (po_Rules : PySem.W.plainOver K c_Rules = true)
    (sa_Rules : PySem.W.findIn K (.ref c_Rules) "__setattr__" = some (some (.builtin "object.__setattr__")))
    (mk_Rules : PySem.W.makesIn K c_Rules = true)
    (kc_Rules : PySem.W.keepIn K (.ref c_Rules) = true)
    (n_Rules__rules : PySem.W.findIn K (.ref c_Rules) "_rules" = some none)
    (aC_StairError : PySem.W.nsIn K mainGlobals "StairError" = some (some (.ref c_StairError)))
    (ex_StairError : PySem.W.excIn K c_StairError exList "ValueError.__new__" = true)
    (ep_StairError : PySem.W.keepIn K (.ref c_StairError) = true)
    (es_StairError : PySem.W.subIn K (.ref c_StairError) (.type "BaseException") = some true)
    (ey_StairError : PySem.W.typeIn K (.ref c_StairError) = some (.type "type"))
    (aC_TooMany : PySem.W.nsIn K mainGlobals "TooMany" = some (some (.ref c_TooMany)))
    (ex_TooMany : PySem.W.excIn K c_TooMany exList "ValueError.__new__" = true)
    (ep_TooMany : PySem.W.keepIn K (.ref c_TooMany) = true)
    (es_TooMany : PySem.W.subIn K (.ref c_TooMany) (.type "BaseException") = some true)
    (ey_TooMany : PySem.W.typeIn K (.ref c_TooMany) = some (.type "type"))
    (a__law_draws : PySem.W.nsIn K mainGlobals "_law_draws" = some (some (.ref f__law_draws)))
    (l__law_draws : K.lookup f__law_draws = some ⟨oc__law_draws, od__law_draws, .func (PySem.W.fnOf "_law_draws" "_law_draws" (defArgs s__law_draws) (defBody s__law_draws) (defScope s__law_draws) .none kV__law_draws dc__law_draws pm__law_draws an__law_draws cd__law_draws ct__law_draws), sl__law_draws⟩)
    (co__law_draws : PySem.W.codeIn K cd__law_draws "_law_draws" = true)
    (kp__law_draws : PySem.W.keepIn K (.ref f__law_draws) = true)
    (a__law_string : PySem.W.nsIn K mainGlobals "_law_string" = some (some (.ref f__law_string)))
    (l__law_string : K.lookup f__law_string = some ⟨oc__law_string, od__law_string, .func (PySem.W.fnOf "_law_string" "_law_string" (defArgs s__law_string) (defBody s__law_string) (defScope s__law_string) .none kV__law_string dc__law_string pm__law_string an__law_string cd__law_string ct__law_string), sl__law_string⟩)
    (co__law_string : PySem.W.codeIn K cd__law_string "_law_string" = true)
    (kp__law_string : PySem.W.keepIn K (.ref f__law_string) = true)
    (a__is_rule : PySem.W.nsIn K mainGlobals "_is_rule" = some (some (.ref f__is_rule)))
    (l__is_rule : K.lookup f__is_rule = some ⟨oc__is_rule, od__is_rule, .func (PySem.W.fnOf "_is_rule" "_is_rule" (defArgs s__is_rule) (defBody s__is_rule) (defScope s__is_rule) .none kV__is_rule dc__is_rule pm__is_rule an__is_rule cd__is_rule ct__is_rule), sl__is_rule⟩)
    (co__is_rule : PySem.W.codeIn K cd__is_rule "_is_rule" = true)
    (kp__is_rule : PySem.W.keepIn K (.ref f__is_rule) = true)
    (a_Rules___init__ : PySem.W.findIn K (.ref c_Rules) "__init__" = some (some (.ref f_Rules___init__)))
    (i_Rules___init__ : PySem.W.isFn K (.ref f_Rules___init__) = true)
    (l_Rules___init__ : K.lookup f_Rules___init__ = some ⟨oc_Rules___init__, od_Rules___init__, .func (PySem.W.fnOf "__init__" "Rules.__init__" (defArgs s_Rules___init__) (defBody s_Rules___init__) (defScope s_Rules___init__) .none kV_Rules___init__ dc_Rules___init__ pm_Rules___init__ an_Rules___init__ cd_Rules___init__ ct_Rules___init__), sl_Rules___init__⟩)
    (co_Rules___init__ : PySem.W.codeIn K cd_Rules___init__ "Rules.__init__" = true)
    (kp_Rules___init__ : PySem.W.keepIn K (.ref f_Rules___init__) = true)
    (a_Rules_places : PySem.W.findIn K (.ref c_Rules) "places" = some (some (.ref f_Rules_places)))
    (i_Rules_places : PySem.W.isFn K (.ref f_Rules_places) = true)
    (l_Rules_places : K.lookup f_Rules_places = some ⟨oc_Rules_places, od_Rules_places, .func (PySem.W.fnOf "places" "Rules.places" (defArgs s_Rules_places) (defBody s_Rules_places) (defScope s_Rules_places) .none kV_Rules_places dc_Rules_places pm_Rules_places an_Rules_places cd_Rules_places ct_Rules_places), sl_Rules_places⟩)
    (co_Rules_places : PySem.W.codeIn K cd_Rules_places "Rules.places" = true)
    (kp_Rules_places : PySem.W.keepIn K (.ref f_Rules_places) = true)
    (a_Rules__replaced : PySem.W.findIn K (.ref c_Rules) "_replaced" = some (some (.ref f_Rules__replaced)))
    (i_Rules__replaced : PySem.W.isFn K (.ref f_Rules__replaced) = true)
    (l_Rules__replaced : K.lookup f_Rules__replaced = some ⟨oc_Rules__replaced, od_Rules__replaced, .func (PySem.W.fnOf "_replaced" "Rules._replaced" (defArgs s_Rules__replaced) (defBody s_Rules__replaced) (defScope s_Rules__replaced) .none kV_Rules__replaced dc_Rules__replaced pm_Rules__replaced an_Rules__replaced cd_Rules__replaced ct_Rules__replaced), sl_Rules__replaced⟩)
    (co_Rules__replaced : PySem.W.codeIn K cd_Rules__replaced "Rules._replaced" = true)
    (kp_Rules__replaced : PySem.W.keepIn K (.ref f_Rules__replaced) = true)
    (a_Rules_reached : PySem.W.findIn K (.ref c_Rules) "reached" = some (some (.ref f_Rules_reached)))
    (i_Rules_reached : PySem.W.isFn K (.ref f_Rules_reached) = true)
    (l_Rules_reached : K.lookup f_Rules_reached = some ⟨oc_Rules_reached, od_Rules_reached, .func (PySem.W.fnOf "reached" "Rules.reached" (defArgs s_Rules_reached) (defBody s_Rules_reached) (defScope s_Rules_reached) .none kV_Rules_reached dc_Rules_reached pm_Rules_reached an_Rules_reached cd_Rules_reached ct_Rules_reached), sl_Rules_reached⟩)
    (co_Rules_reached : PySem.W.codeIn K cd_Rules_reached "Rules.reached" = true)
    (kp_Rules_reached : PySem.W.keepIn K (.ref f_Rules_reached) = true)
    (a__law_next : PySem.W.nsIn K mainGlobals "_law_next" = some (some (.ref f__law_next)))
    (l__law_next : K.lookup f__law_next = some ⟨oc__law_next, od__law_next, .func (PySem.W.fnOf "_law_next" "_law_next" (defArgs s__law_next) (defBody s__law_next) (defScope s__law_next) .none kV__law_next dc__law_next pm__law_next an__law_next cd__law_next ct__law_next), sl__law_next⟩)
    (co__law_next : PySem.W.codeIn K cd__law_next "_law_next" = true)
    (kp__law_next : PySem.W.keepIn K (.ref f__law_next) = true)
    (a__law_many : PySem.W.nsIn K mainGlobals "_law_many" = some (some (.ref f__law_many)))
    (l__law_many : K.lookup f__law_many = some ⟨oc__law_many, od__law_many, .func (PySem.W.fnOf "_law_many" "_law_many" (defArgs s__law_many) (defBody s__law_many) (defScope s__law_many) .none kV__law_many dc__law_many pm__law_many an__law_many cd__law_many ct__law_many), sl__law_many⟩)
    (co__law_many : PySem.W.codeIn K cd__law_many "_law_many" = true)
    (kp__law_many : PySem.W.keepIn K (.ref f__law_many) = true)
    (a_law : PySem.W.nsIn K mainGlobals "law" = some (some (.ref f_law)))
    (l_law : K.lookup f_law = some ⟨oc_law, od_law, .func (PySem.W.fnOf "law" "law" (defArgs s_law) (defBody s_law) (defScope s_law) .none kV_law dc_law pm_law an_law cd_law ct_law), sl_law⟩)
    (co_law : PySem.W.codeIn K cd_law "law" = true)
    (kp_law : PySem.W.keepIn K (.ref f_law) = true)
    (Ehg_TooMany : PySem.W.findIn K (.ref c_TooMany) "__getattribute__" = some (some (.builtin "BaseException.__getattribute__")))
    (Ehk_TooMany : PySem.W.findIn K (.ref c_TooMany) "__getattr__" = some none)
    (Ehd_TooMany : PySem.W.hasDictIn K c_TooMany = true)
    (Eha_TooMany : PySem.W.findIn K (.ref c_TooMany) "__class__" = some (some (.builtin "object.__class__")))
    (Ehm_TooMany : PySem.W.mroIn K c_TooMany (.type "object") = some true)
    (Ehn : PySem.W.specialIn K (.builtin "object.__class__") "__get__" = some (some (.builtin "getset_descriptor.__get__")))
    (Eht : PySem.W.takesIn K (.builtin "object.__class__") = some true)
    (xm_TooMany_StairError : PySem.W.exmOne K (.ref c_TooMany) (.ref c_StairError) = some true)
    (ki_TooMany_TooMany : PySem.W.kitOne K (.ref c_TooMany) (.ref c_TooMany) = some true)
    (z_abs : PySem.W.nsIn K mainGlobals "abs" = some none)
    (z_all : PySem.W.nsIn K mainGlobals "all" = some none)
    (z_int : PySem.W.nsIn K mainGlobals "int" = some none)
    (z_isinstance : PySem.W.nsIn K mainGlobals "isinstance" = some none)
    (z_len : PySem.W.nsIn K mainGlobals "len" = some none)
    (z_list : PySem.W.nsIn K mainGlobals "list" = some none)
    (z_range : PySem.W.nsIn K mainGlobals "range" = some none)
    (z_sorted : PySem.W.nsIn K mainGlobals "sorted" = some none)
    (z_str : PySem.W.nsIn K mainGlobals "str" = some none)
    (z_tuple : PySem.W.nsIn K mainGlobals "tuple" = some none)
    (gc_MOST_RULES : PySem.W.nsIn K mainGlobals "MOST_RULES" = some (some (.int 20000 tk_MOST_RULES)))
    (gc_MOST_STRINGS : PySem.W.nsIn K mainGlobals "MOST_STRINGS" = some (some (.int 2000 tk_MOST_STRINGS)))
    : ∃ fd : FuncData, (∀ (s : Shared) (v : Value), BindsTo s fd ⟨[v], []⟩ [("_law_script", v)]) ∧ ∀ base : Heap, K.In base → base.Ns mainGlobals mg → FnOk l.prog w K mg base (L2.CX l.prog w) 5 fa fd P_law (spLaw K) := by
  have e : fa = f_law := by
    have e := hfa.symm.trans (PySem.W.mg_of X G a_law)
    cases e
    rfl
  rw [e]
  have F__law_draws := fun_mk (st := s__law_draws) l__law_draws co__law_draws kp__law_draws
  have B__law_draws := F__law_draws.binds (ps := P__law_draws) fun _ _ _ _ _ _ us hl => match us, hl with | [_, _], _ => rfl
  have F__law_string := fun_mk (st := s__law_string) l__law_string co__law_string kp__law_string
  have B__law_string := F__law_string.binds (ps := P__law_string) fun _ _ _ _ _ _ us hl => match us, hl with | [_, _], _ => rfl
  have F__is_rule := fun_mk (st := s__is_rule) l__is_rule co__is_rule kp__is_rule
  have B__is_rule := F__is_rule.binds (ps := P__is_rule) fun _ _ _ _ _ _ us hl => match us, hl with | [_], _ => rfl
  have F_Rules___init__ := fun_mk (st := s_Rules___init__) l_Rules___init__ co_Rules___init__ kp_Rules___init__
  have B_Rules___init__ := F_Rules___init__.binds (ps := P_Rules___init__) fun _ _ _ _ _ _ us hl => match us, hl with | [_, _], _ => rfl
  have F_Rules_places := fun_mk (st := s_Rules_places) l_Rules_places co_Rules_places kp_Rules_places
  have B_Rules_places := F_Rules_places.binds (ps := P_Rules_places) fun _ _ _ _ _ _ us hl => match us, hl with | [_, _], _ => rfl
  have F_Rules__replaced := fun_mk (st := s_Rules__replaced) l_Rules__replaced co_Rules__replaced kp_Rules__replaced
  have B_Rules__replaced := F_Rules__replaced.binds (ps := P_Rules__replaced) fun _ _ _ _ _ _ us hl => match us, hl with | [_, _, _, _], _ => rfl
  have F_Rules_reached := fun_mk (st := s_Rules_reached) l_Rules_reached co_Rules_reached kp_Rules_reached
  have B_Rules_reached := F_Rules_reached.binds (ps := P_Rules_reached) fun _ _ _ _ _ _ us hl => match us, hl with | [_, _, _], _ => rfl
  have F__law_next := fun_mk (st := s__law_next) l__law_next co__law_next kp__law_next
  have B__law_next := F__law_next.binds (ps := P__law_next) fun _ _ _ _ _ _ us hl => match us, hl with | [_, _], _ => rfl
  have F__law_many := fun_mk (st := s__law_many) l__law_many co__law_many kp__law_many
  have B__law_many := F__law_many.binds (ps := P__law_many) fun _ _ _ _ _ _ us hl => match us, hl with | [_], _ => rfl
  have F_law := fun_mk (st := s_law) l_law co_law kp_law
  have B_law := F_law.binds (ps := P_law) fun _ _ _ _ _ _ us hl => match us, hl with | [_], _ => rfl
  have T : Txt w K mg ⟨⟨c_BadMachine, c_Rules, c_StairError, c_TooMany⟩, f__law_draws, _, f__law_string, _, f__is_rule, _, f_Rules___init__, _, f_Rules_places, _, f_Rules__replaced, _, f_Rules_reached, _, f__law_next, _, f__law_many, _, f_law, _⟩ := { c_BadMachine := PySem.W.mg_of X G aC_BadMachine, x_BadMachine := ex_BadMachine, p_BadMachine := ep_BadMachine, s_BadMachine := es_BadMachine, y_BadMachine := ey_BadMachine, c_Rules := PySem.W.mg_of X G aC_Rules, k_Rules := ⟨pg_Rules, hd_Rules, po_Rules, sa_Rules⟩, K_Rules := ⟨mk_Rules, a_Rules___init__, i_Rules___init__, kc_Rules⟩, n_Rules__rules := n_Rules__rules, c_StairError := PySem.W.mg_of X G aC_StairError, x_StairError := ex_StairError, p_StairError := ep_StairError, s_StairError := es_StairError, y_StairError := ey_StairError, c_TooMany := PySem.W.mg_of X G aC_TooMany, x_TooMany := ex_TooMany, p_TooMany := ep_TooMany, s_TooMany := es_TooMany, y_TooMany := ey_TooMany, m__law_draws := PySem.W.mg_of X G a__law_draws, F__law_draws := F__law_draws, B__law_draws := B__law_draws, m__law_string := PySem.W.mg_of X G a__law_string, F__law_string := F__law_string, B__law_string := B__law_string, m__is_rule := PySem.W.mg_of X G a__is_rule, F__is_rule := F__is_rule, B__is_rule := B__is_rule, F_Rules___init__ := F_Rules___init__, B_Rules___init__ := B_Rules___init__, M_Rules_places := ⟨a_Rules_places, i_Rules_places, kp_Rules_places⟩, F_Rules_places := F_Rules_places, B_Rules_places := B_Rules_places, M_Rules__replaced := ⟨a_Rules__replaced, i_Rules__replaced, kp_Rules__replaced⟩, F_Rules__replaced := F_Rules__replaced, B_Rules__replaced := B_Rules__replaced, M_Rules_reached := ⟨a_Rules_reached, i_Rules_reached, kp_Rules_reached⟩, F_Rules_reached := F_Rules_reached, B_Rules_reached := B_Rules_reached, m__law_next := PySem.W.mg_of X G a__law_next, F__law_next := F__law_next, B__law_next := B__law_next, m__law_many := PySem.W.mg_of X G a__law_many, F__law_many := F__law_many, B__law_many := B__law_many, m_law := PySem.W.mg_of X G a_law, F_law := F_law, B_law := B_law, E_TooMany := ⟨Ehg_TooMany, Ehk_TooMany, es_TooMany, Ehd_TooMany, Eha_TooMany, Ehn, Eht, Ehm_TooMany⟩, m_TooMany_StairError := xm_TooMany_StairError, q_TooMany_TooMany := ki_TooMany_TooMany, b_abs := PySem.W.mg_none_of X G z_abs, b_all := PySem.W.mg_none_of X G z_all, b_int := PySem.W.mg_none_of X G z_int, b_isinstance := PySem.W.mg_none_of X G z_isinstance, b_len := PySem.W.mg_none_of X G z_len, b_list := PySem.W.mg_none_of X G z_list, b_range := PySem.W.mg_none_of X G z_range, b_sorted := PySem.W.mg_none_of X G z_sorted, b_str := PySem.W.mg_none_of X G z_str, b_tuple := PySem.W.mg_none_of X G z_tuple, g_MOST_RULES := ⟨_, PySem.W.mg_of X G gc_MOST_RULES, _, rfl⟩, g_MOST_STRINGS := ⟨_, PySem.W.mg_of X G gc_MOST_STRINGS, _, rfl⟩ }
  exact ⟨_, fun s v => .of_eq rfl, fun base _ _ => law_end (ok_law T) fun xs hx => law_true xs hx⟩
theorem walk {l : PySem.W.OpenLaw} {q : Program} {loose : List Str} {XP : (Str → Option Value) → Heap → Prop} {YP : World → Heap → Prop} {d : DefRec} {K : Params → PySem.W.Frag} (hn : l.most = some 63) (hdf : d.params.defaults = [])
    (hY : ∀ (w : World) (h : Heap), YP w h → (K w.params).In h)
    (F : ∀ (w : World) (mg : Str → Option Value) (fa : Addr) (h : Heap), (K w.params).In h → h.Ns mainGlobals mg → mg d.name = some (.ref fa) →
      ∃ fd : FuncData, (∀ (s : Shared) (u : Value), BindsTo s fd ⟨[u], []⟩ [("_law_script", u)]) ∧ ∀ base : Heap, (K w.params).In base → base.Ns mainGlobals mg → FnOk l.prog w (K w.params) mg base (L2.CX l.prog w) 5 fa fd P_law (spLaw (K w.params))) :
    PySem.W.WalkO q loose XP YP l.row.toRowW d [] (fun f vs => PySem.call f vs) :=
  L2.walk_of (n := 63) (k := 5) (x := "_law_script") (CX := fun w => L2.CX l.prog w) (sp := fun w => spLaw (K w.params)) hn (by decide) hdf ⟨rfl, by decide, by decide⟩ hY F (fun _ _ a ns hl _ hS => ⟨a, ns, rfl, hS, hl, fun _ => rfl⟩) fun _ _ _ _ _ z => by
    obtain ⟨_, _, _, _, _, _, _, _, _, _, _, _, z⟩ := z
    exact z
end LW

open PySem PySem.W PyProof.Rows in
set_option maxRecDepth 100000 in
set_option maxHeartbeats 0 in
theorem PySem.Challenge.cw_stepdown_k65_strings_that_are_reached_holds : PySem.Challenge.rw_stepdown_k65_strings_that_are_reached.Holds := by
  w_on; o_law; k_head; (case hw => w_witness2)
  k_fill
  refine LW.walk (l := PySem.Challenge.rw_stepdown_k65_strings_that_are_reached) rfl rfl (fun w h Y => PySem.W.kIn_of Y) ?F
  case F =>
    intro w mg fa h KX G hmg
    refine' LW.all_mk KX G hmg ?aC_BadMachine ?ex_BadMachine ?ep_BadMachine ?es_BadMachine ?ey_BadMachine ?aC_Rules ?pg_Rules ?hd_Rules ?po_Rules ?sa_Rules ?mk_Rules ?kc_Rules ?n_Rules__rules ?aC_StairError ?ex_StairError ?ep_StairError ?es_StairError ?ey_StairError ?aC_TooMany ?ex_TooMany ?ep_TooMany ?es_TooMany ?ey_TooMany ?a__law_draws ?l__law_draws ?co__law_draws ?kp__law_draws ?a__law_string ?l__law_string ?co__law_string ?kp__law_string ?a__is_rule ?l__is_rule ?co__is_rule ?kp__is_rule ?a_Rules___init__ ?i_Rules___init__ ?l_Rules___init__ ?co_Rules___init__ ?kp_Rules___init__ ?a_Rules_places ?i_Rules_places ?l_Rules_places ?co_Rules_places ?kp_Rules_places ?a_Rules__replaced ?i_Rules__replaced ?l_Rules__replaced ?co_Rules__replaced ?kp_Rules__replaced ?a_Rules_reached ?i_Rules_reached ?l_Rules_reached ?co_Rules_reached ?kp_Rules_reached ?a__law_next ?l__law_next ?co__law_next ?kp__law_next ?a__law_many ?l__law_many ?co__law_many ?kp__law_many ?a_law ?l_law ?co_law ?kp_law ?Ehg_TooMany ?Ehk_TooMany ?Ehd_TooMany ?Eha_TooMany ?Ehm_TooMany ?Ehn ?Eht ?xm_TooMany_StairError ?ki_TooMany_TooMany ?z_abs ?z_all ?z_int ?z_isinstance ?z_len ?z_list ?z_range ?z_sorted ?z_str ?z_tuple ?gc_MOST_RULES ?gc_MOST_STRINGS
    (case aC_BadMachine => k_is)
    (case ex_BadMachine => k_exc)
    (case ep_BadMachine => k_is)
    (case es_BadMachine => k_is)
    (case ey_BadMachine => k_is)
    (case aC_Rules => k_is)
    (case pg_Rules => k_is)
    (case hd_Rules => k_is)
    (case po_Rules => k_is)
    (case sa_Rules => k_is)
    (case mk_Rules => k_is)
    (case kc_Rules => k_is)
    (case n_Rules__rules => k_is)
    (case aC_StairError => k_is)
    (case ex_StairError => k_exc)
    (case ep_StairError => k_is)
    (case es_StairError => k_is)
    (case ey_StairError => k_is)
    (case aC_TooMany => k_is)
    (case ex_TooMany => k_exc)
    (case ep_TooMany => k_is)
    (case es_TooMany => k_is)
    (case ey_TooMany => k_is)
    (case a__law_draws => k_is)
    (case l__law_draws => k_is)
    (case co__law_draws => k_is)
    (case kp__law_draws => k_is)
    (case a__law_string => k_is)
    (case l__law_string => k_is)
    (case co__law_string => k_is)
    (case kp__law_string => k_is)
    (case a__is_rule => k_is)
    (case l__is_rule => k_is)
    (case co__is_rule => k_is)
    (case kp__is_rule => k_is)
    (case a_Rules___init__ => k_is)
    (case i_Rules___init__ => k_is)
    (case l_Rules___init__ => k_is)
    (case co_Rules___init__ => k_is)
    (case kp_Rules___init__ => k_is)
    (case a_Rules_places => k_is)
    (case i_Rules_places => k_is)
    (case l_Rules_places => k_is)
    (case co_Rules_places => k_is)
    (case kp_Rules_places => k_is)
    (case a_Rules__replaced => k_is)
    (case i_Rules__replaced => k_is)
    (case l_Rules__replaced => k_is)
    (case co_Rules__replaced => k_is)
    (case kp_Rules__replaced => k_is)
    (case a_Rules_reached => k_is)
    (case i_Rules_reached => k_is)
    (case l_Rules_reached => k_is)
    (case co_Rules_reached => k_is)
    (case kp_Rules_reached => k_is)
    (case a__law_next => k_is)
    (case l__law_next => k_is)
    (case co__law_next => k_is)
    (case kp__law_next => k_is)
    (case a__law_many => k_is)
    (case l__law_many => k_is)
    (case co__law_many => k_is)
    (case kp__law_many => k_is)
    (case a_law => k_is)
    (case l_law => k_is)
    (case co_law => k_is)
    (case kp_law => k_is)
    (case Ehg_TooMany => k_is)
    (case Ehk_TooMany => k_is)
    (case Ehd_TooMany => k_is)
    (case Eha_TooMany => k_is)
    (case Ehm_TooMany => k_is)
    (case Ehn => k_is)
    (case Eht => k_is)
    (case xm_TooMany_StairError => kts_exm)
    (case ki_TooMany_TooMany => kit_is)
    (case z_abs => k_is)
    (case z_all => k_is)
    (case z_int => k_is)
    (case z_isinstance => k_is)
    (case z_len => k_is)
    (case z_list => k_is)
    (case z_range => k_is)
    (case z_sorted => k_is)
    (case z_str => k_is)
    (case z_tuple => k_is)
    (case gc_MOST_RULES => k_is)
    (case gc_MOST_STRINGS => k_is)

