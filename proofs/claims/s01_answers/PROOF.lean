import PyProof.Rows.All
import Wide.All
import OpenK.AllK
import Wide.FinOn
import Open.SpecLaws
import KE.OsGo
import HandS.ForSpec
import HandS.Comp
import HandS.NoneIn
import HandS.SetFor
import PyWideLaws
import PySem.Challenge.RW_hidelayers_s01_answers
set_option Elab.async false
set_option linter.all false
section
set_option maxRecDepth 100000
set_option maxHeartbeats 4000000
/-! # A layer without heaps over HandS: data, slots, what evaluates to what -/
namespace HL
open PySem PySem.Spec PyProof.Rows L2

/-! ### data and how it lies in a heap -/
inductive D where
  | int (i : Int) | bl (b : Bool) | lst (l : List D) | tup (l : List D)

mutual
inductive Rep (G : Hp) : V → D → Prop
  | int (i : Int) : Rep G (.int i) (.int i)
  | bl (b : Bool) : Rep G (.bl b) (.bl b)
  | lst {a : Addr} {vs : List V} {ds : List D} : G a = some (.lst vs) → RepL G vs ds → Rep G (.ref a) (.lst ds)
  | tup {a : Addr} {vs : List V} {ds : List D} : G a = some (.tup vs) → RepL G vs ds → Rep G (.ref a) (.tup ds)
inductive RepL (G : Hp) : List V → List D → Prop
  | nil : RepL G [] []
  | cons {v : V} {d : D} {vs : List V} {ds : List D} : Rep G v d → RepL G vs ds → RepL G (v :: vs) (d :: ds)
end
theorem Rep.mono {G G' : Hp} (e : Same G G') {v : V} {d : D} (h : Rep G v d) : Rep G' v d :=
  Rep.rec (motive_1 := fun v d _ => Rep G' v d) (motive_2 := fun vs ds _ => RepL G' vs ds) (fun i => .int i) (fun b => .bl b) (fun h1 _ ih => .lst (e _ _ h1) ih) (fun h1 _ ih => .tup (e _ _ h1) ih) .nil (fun _ _ i1 i2 => .cons i1 i2) h
theorem RepL.mono {G G' : Hp} (e : Same G G') {vs : List V} {ds : List D} (h : RepL G vs ds) : RepL G' vs ds :=
  RepL.rec (motive_1 := fun v d _ => Rep G' v d) (motive_2 := fun vs ds _ => RepL G' vs ds) (fun i => .int i) (fun b => .bl b) (fun h1 _ ih => .lst (e _ _ h1) ih) (fun h1 _ ih => .tup (e _ _ h1) ih) .nil (fun _ _ i1 i2 => .cons i1 i2) h
theorem RepL.len {G : Hp} : ∀ {vs : List V} {ds : List D}, RepL G vs ds → vs.length = ds.length
  | _, _, .nil => rfl
  | _, _, .cons _ t => congrArg (· + 1) t.len
theorem RepL.get {G : Hp} : ∀ {vs : List V} {ds : List D} {i : Nat} {d : D}, RepL G vs ds → ds[i]? = some d → ∃ v, vs[i]? = some v ∧ Rep G v d
  | _, _, _, _, .nil, e => by simp at e
  | _, _, 0, _, .cons r _, e => by
    simp at e
    subst e
    exact ⟨_, rfl, r⟩
  | _, _, i + 1, d, .cons _ t, e => by
    obtain ⟨v, h1, h2⟩ := RepL.get (i := i) (d := d) t (by simpa using e)
    exact ⟨v, by simpa using h1, h2⟩
theorem RepL.getV {G : Hp} : ∀ {vs : List V} {ds : List D} {i : Nat} {v : V}, RepL G vs ds → vs[i]? = some v → ∃ d, ds[i]? = some d ∧ Rep G v d
  | _, _, _, _, .nil, e => by simp at e
  | _, _, 0, _, .cons r _, e => by
    simp at e
    subst e
    exact ⟨_, rfl, r⟩
  | _, _, i + 1, d, .cons _ t, e => by
    obtain ⟨v, h1, h2⟩ := RepL.getV (i := i) (v := d) t (by simpa using e)
    exact ⟨v, by simpa using h1, h2⟩
theorem RepL.append {G : Hp} : ∀ {vs ws : List V} {ds es : List D}, RepL G vs ds → RepL G ws es → RepL G (vs ++ ws) (ds ++ es)
  | _, _, _, _, .nil, s => s
  | _, _, _, _, .cons r t, s => .cons r (t.append s)
theorem RepL.take {G : Hp} : ∀ {vs : List V} {ds : List D} (n : Nat), RepL G vs ds → RepL G (vs.take n) (ds.take n)
  | _, _, 0, _ => .nil
  | _, _, _ + 1, .nil => .nil
  | _, _, n + 1, .cons r t => .cons r (t.take n)
theorem RepL.drop {G : Hp} : ∀ {vs : List V} {ds : List D} (n : Nat), RepL G vs ds → RepL G (vs.drop n) (ds.drop n)
  | _, _, 0, r => r
  | _, _, _ + 1, .nil => .nil
  | _, _, n + 1, .cons _ t => t.drop n
theorem Rep.int_inv {G : Hp} {v : V} {i : Int} (h : Rep G v (.int i)) : v = .int i := by
  cases h
  rfl
theorem Rep.bl_inv {G : Hp} {v : V} {i : Bool} (h : Rep G v (.bl i)) : v = .bl i := by
  cases h
  rfl
theorem Rep.lst_inv {G : Hp} {v : V} {ds : List D} (h : Rep G v (.lst ds)) : ∃ a vs, v = .ref a ∧ G a = some (.lst vs) ∧ RepL G vs ds := by
  cases h with
  | lst h1 h2 => exact ⟨_, _, rfl, h1, h2⟩
theorem Rep.tup_inv {G : Hp} {v : V} {ds : List D} (h : Rep G v (.tup ds)) : ∃ a vs, v = .ref a ∧ G a = some (.tup vs) ∧ RepL G vs ds := by
  cases h with
  | tup h1 h2 => exact ⟨_, _, rfl, h1, h2⟩
theorem RepL.ints {G : Hp} : ∀ {ns : List Int} {vs : List V}, RepL G vs (ns.map D.int) → vs = ns.map V.int
  | [], _, h => by
    cases h
    rfl
  | n :: r, _, h => by
    cases h with
    | cons h1 h2 => rw [h1.int_inv, h2.ints] <;> rfl
theorem RepL.of_ints {G : Hp} : ∀ (ns : List Int), RepL G (ns.map V.int) (ns.map D.int)
  | [] => .nil
  | n :: r => .cons (.int n) (RepL.of_ints r)
theorem RepL.bls {G : Hp} : ∀ {ns : List Bool} {vs : List V}, RepL G vs (ns.map D.bl) → vs = ns.map V.bl
  | [], _, h => by
    cases h
    rfl
  | n :: r, _, h => by
    cases h with
    | cons h1 h2 => rw [h1.bl_inv, h2.bls] <;> rfl

/-! ### how heaps grow: G the data that never change, H all -/
theorem same_new {H : Hp} {p : Addr} {o : HO} (h : H p = none) : Same H (upd H p o) := fun b x e => by
  rw [upd_ne (ne_of_none e h)]
  exact e
structure Stp (X : Option Addr) (G H G' H' : Hp) : Prop where
  g : Same G G'
  h : ∀ a o, some a ≠ X → H a = some o → H' a = some o
  s : Same G' H'
  f : ∀ a o, H a = some o → G a = none → G' a = none
  k : ∀ a o, H a = some o → ∃ o', H' a = some o'
theorem Stp.refl {X : Option Addr} {G H : Hp} (s : Same G H) : Stp X G H G H := ⟨Same.refl G, fun _ _ _ h => h, s, fun _ _ _ h => h, fun _ o h => ⟨o, h⟩⟩
theorem Stp.trans {X : Option Addr} {G H G1 H1 G2 H2 : Hp} (a : Stp X G H G1 H1) (b : Stp X G1 H1 G2 H2) : Stp X G H G2 H2 :=
  ⟨a.g.trans b.g, fun c o n e => b.h c o n (a.h c o n e), b.s, fun c o e n => let ⟨o', e'⟩ := a.k c o e; b.f c o' e' (a.f c o e n), fun c o e => let ⟨o', e'⟩ := a.k c o e; b.k c o' e'⟩
theorem Stp.wide {X : Option Addr} {G H G' H' : Hp} (a : Stp none G H G' H') : Stp X G H G' H' :=
  ⟨a.g, fun c o _ e => a.h c o (by simp) e, a.s, a.f, a.k⟩
theorem Stp.same {G H G' H' : Hp} (a : Stp none G H G' H') : Same H H' := fun c o e => a.h c o (by simp) e
/-- a new thing that is data -/
theorem Stp.new {X : Option Addr} {G H : Hp} {p : Addr} {o : HO} (s : Same G H) (n : H p = none) : Stp X G H (upd G p o) (upd H p o) :=
  ⟨same_new (s.free n), fun a u _ e => same_new n a u e, fun a u e => by
    by_cases h : a = p
    · subst h
      rw [upd_same] at e ⊢
      exact e
    · rw [upd_ne h] at e ⊢
      exact s a u e, fun a u e g => by
    rw [upd_ne (ne_of_none e n)]
    exact g, fun a u e => ⟨u, same_new n a u e⟩⟩
/-- a new thing that is none -/
theorem Stp.newH {X : Option Addr} {G H : Hp} {p : Addr} {o : HO} (s : Same G H) (n : H p = none) : Stp X G H G (upd H p o) :=
  ⟨Same.refl G, fun a u _ e => same_new n a u e, s.trans (same_new n), fun _ _ _ g => g, fun a u e => ⟨u, same_new n a u e⟩⟩
/-- what is no data changes -/
theorem Stp.mut {X : Option Addr} {G0 H0 G H : Hp} {p : Addr} {o : HO} (a : Stp X G0 H0 G H) (hp : some p = X ∨ H0 p = none) (g : G p = none) : Stp X G0 H0 G (upd H p o) :=
  ⟨a.g, fun b u n e => by
    have hb : b ≠ p := fun z => by
      subst z
      rcases hp with h | h
      · exact n h
      · rw [e] at h
        cases h
    rw [upd_ne hb]
    exact a.h b u n e, fun b u e => by
    rw [upd_ne (ne_of_none e g)]
    exact a.s b u e, a.f, fun b u e => by
    by_cases hb : b = p
    · subst hb
      exact ⟨o, upd_same⟩
    · rw [upd_ne hb]
      exact a.k b u e⟩

/-! ### slots -/
inductive S where
  | no | val (d : D) | own (ds : List D) | ben (t : Bool) (ps ma : D) | rd (φ : V → Hp → Prop)
/-- the bench's attributes, as __init__ sets them -/
def bF (x vp vm : V) : List (Str × V) := [("is_there", x), ("products", vp), ("machine", vm)]
def BenAt (C b : Addr) (G H : Hp) (t : Bool) (ps ma : D) : Prop :=
  G b = none ∧ ∃ dx vp vm, H b = some (.ins C dx (bF (.bl t) vp vm)) ∧ Rep G vp ps ∧ Rep G vm ma
def SlotOk (C b : Addr) (H0 G H : Hp) (o : Option V) : S → Prop
  | .no => True
  | .val d => ∃ v, o = some v ∧ Rep G v d
  | .own ds => ∃ p vs, o = some (.ref p) ∧ H0 p = none ∧ G p = none ∧ H p = some (.lst vs) ∧ RepL G vs ds
  | .ben t ps ma => o = some (.ref b) ∧ BenAt C b G H t ps ma
  | .rd φ => ∃ v, o = some v ∧ ∀ G', Same G G' → φ v G'
inductive EnvOk (C b : Addr) (H0 G H : Hp) : L2.St → List S → Prop
  | nil : EnvOk C b H0 G H [] []
  | cons {o : Option V} {s : S} {σ : L2.St} {ρ : List S} : SlotOk C b H0 G H o s → EnvOk C b H0 G H σ ρ → EnvOk C b H0 G H (o :: σ) (s :: ρ)
theorem BenAt.mono {C b : Addr} {G H G' H' : Hp} (a : Stp none G H G' H') {t : Bool} {ps ma : D} (h : BenAt C b G H t ps ma) : BenAt C b G' H' t ps ma := by
  obtain ⟨h1, dx, vp, vm, h2, h3, h4⟩ := h
  exact ⟨a.f _ _ h2 h1, dx, vp, vm, a.same _ _ h2, h3.mono a.g, h4.mono a.g⟩
theorem SlotOk.mono {C b : Addr} {H0 G H G' H' : Hp} {o : Option V} (a : Stp none G H G' H') : ∀ {s : S}, SlotOk C b H0 G H o s → SlotOk C b H0 G' H' o s
  | .no, _ => True.intro
  | .val d, ⟨v, e, r⟩ => ⟨v, e, r.mono a.g⟩
  | .own ds, ⟨p, vs, e, h0, g, h, r⟩ => ⟨p, vs, e, h0, a.f _ _ h g, a.same _ _ h, r.mono a.g⟩
  | .ben t ps ma, ⟨e, h⟩ => ⟨e, h.mono a⟩
  | .rd φ, ⟨v, e, h⟩ => ⟨v, e, fun G' k => h G' (a.g.trans k)⟩
theorem EnvOk.mono {C b : Addr} {H0 G H G' H' : Hp} (a : Stp none G H G' H') : ∀ {σ : L2.St} {ρ : List S}, EnvOk C b H0 G H σ ρ → EnvOk C b H0 G' H' σ ρ
  | _, _, .nil => .nil
  | _, _, .cons x r => .cons (x.mono a) (r.mono a)
theorem EnvOk.get {C b : Addr} {H0 G H : Hp} : ∀ {σ : L2.St} {ρ : List S} {i : Nat} {s : S}, EnvOk C b H0 G H σ ρ → ρ[i]? = some s → ∃ o, σ[i]? = some o ∧ SlotOk C b H0 G H o s
  | _, _, _, _, .nil, e => by simp at e
  | _, _, 0, _, .cons x _, e => by
    simp at e
    subst e
    exact ⟨_, rfl, x⟩
  | _, _, i + 1, s, .cons _ t, e => by
    obtain ⟨o, h1, h2⟩ := EnvOk.get (i := i) (s := s) t (by simpa using e)
    exact ⟨o, by simpa using h1, h2⟩
theorem EnvOk.set {C b : Addr} {H0 G H : Hp} {o : Option V} {s : S} (x : SlotOk C b H0 G H o s) : ∀ {σ : L2.St} {ρ : List S} (i : Nat), EnvOk C b H0 G H σ ρ → EnvOk C b H0 G H (σ.set i o) (ρ.set i s)
  | _, _, _, .nil => .nil
  | _, _, 0, .cons _ t => .cons x t
  | _, _, i + 1, .cons y t => .cons y (t.set x i)
theorem EnvOk.len {C b : Addr} {H0 G H : Hp} : ∀ {σ : L2.St} {ρ : List S}, EnvOk C b H0 G H σ ρ → σ.length = ρ.length
  | _, _, .nil => rfl
  | _, _, .cons _ t => congrArg (· + 1) t.len
/-- slots forgotten -/
inductive Fgt : List S → List S → Prop
  | nil : Fgt [] []
  | keep {s : S} {ρ ρ' : List S} : Fgt ρ ρ' → Fgt (s :: ρ) (s :: ρ')
  | drop {s : S} {ρ ρ' : List S} : Fgt ρ ρ' → Fgt (s :: ρ) (.no :: ρ')
theorem Fgt.refl : ∀ ρ : List S, Fgt ρ ρ
  | [] => .nil
  | _ :: r => .keep (Fgt.refl r)
theorem EnvOk.fgt {C b : Addr} {H0 G H : Hp} : ∀ {σ : L2.St} {ρ ρ' : List S}, Fgt ρ ρ' → EnvOk C b H0 G H σ ρ → EnvOk C b H0 G H σ ρ'
  | _, _, _, .nil, h => h
  | _, _, _, .keep f, .cons x t => .cons x (t.fgt f)
  | _, _, _, .drop f, .cons _ t => .cons True.intro (t.fgt f)
/-- no list of one's own among the slots -/
def noOwn : List S → Bool
  | [] => true
  | .own _ :: _ => false
  | _ :: r => noOwn r
/-- a list of one's own changes: the other slots stand -/
theorem EnvOk.off {C b p : Addr} {H0 G H : Hp} {u : HO} {vs : List V} (hp : H p = some (.lst vs)) : ∀ {σ : L2.St} {ρ : List S}, noOwn ρ = true → EnvOk C b H0 G H σ ρ → EnvOk C b H0 G (upd H p u) σ ρ
  | _, _, _, .nil => .nil
  | _, .no :: _, n, .cons _ t => .cons True.intro (t.off hp n)
  | _, .val _ :: _, n, .cons x t => .cons x (t.off hp n)
  | _, .rd _ :: _, n, .cons x t => .cons x (t.off hp n)
  | _, .own _ :: _, n, .cons _ _ => nomatch (show false = true from n)
  | _, .ben _ _ _ :: _, n, .cons x t => .cons (by
      obtain ⟨e, g, dx, vp, vm, h1, h2, h3⟩ := x
      refine ⟨e, g, dx, vp, vm, ?_, h2, h3⟩
      rw [upd_ne (ne_of h1 hp (fun z => nomatch z))]
      exact h1) (t.off hp n)
/-- a list of one's own becomes data -/
theorem EnvOk.giv {C b p : Addr} {H0 G H : Hp} {vs : List V} (hp : H p = some (.lst vs)) (g : G p = none) : ∀ {σ : L2.St} {ρ : List S}, noOwn ρ = true → EnvOk C b H0 G H σ ρ → EnvOk C b H0 (upd G p (.lst vs)) H σ ρ
  | _, _, _, .nil => .nil
  | _, .no :: _, n, .cons _ t => .cons True.intro (t.giv hp g n)
  | _, .val _ :: _, n, .cons x t => .cons (by
      obtain ⟨v, e, r⟩ := x
      exact ⟨v, e, r.mono (same_new g)⟩) (t.giv hp g n)
  | _, .rd _ :: _, n, .cons x t => .cons (by
      obtain ⟨v, e, r⟩ := x
      exact ⟨v, e, fun G' k => r G' ((same_new g).trans k)⟩) (t.giv hp g n)
  | _, .own _ :: _, n, .cons _ _ => nomatch (show false = true from n)
  | _, .ben _ _ _ :: _, n, .cons x t => .cons (by
      obtain ⟨e, gb, dx, vp, vm, h1, h2, h3⟩ := x
      refine ⟨e, ?_, dx, vp, vm, h1, h2.mono (same_new g), h3.mono (same_new g)⟩
      rw [upd_ne (ne_of h1 hp (fun z => nomatch z))]
      exact gb) (t.giv hp g n)

/-! ### expressions -/
def Ev (C : Addr) (te : TE) (ρ : List S) (d : D) : Prop := ∀ (b : Addr) (H0 G H : Hp) (σ : L2.St) (Q : VK), Same G H → EnvOk C b H0 G H σ ρ → (∀ v G' H', Stp none G H G' H' → Rep G' v d → Q v H') → te σ H Q
def EvT (C : Addr) (tt : TT) (ρ : List S) (c : Bool) : Prop := ∀ (b : Addr) (H0 G H : Hp) (σ : L2.St) (Q : Bool → Hp → Prop), Same G H → EnvOk C b H0 G H σ ρ → (∀ G' H', Stp none G H G' H' → Q c H') → tt σ H Q
def EvA (C : Addr) (ta : TA) (ρ : List S) (ds : List D) : Prop := ∀ (b : Addr) (H0 G H : Hp) (σ : L2.St) (Q : List V → Hp → Prop), Same G H → EnvOk C b H0 G H σ ρ → (∀ vs G' H', Stp none G H G' H' → RepL G' vs ds → Q vs H') → ta σ H Q
/-- an operation on values; a call on values; a slice -/
def RD (r : R2) (x y z : D) : Prop := ∀ (G H : Hp) (vx vy : V) (Q : VK), Same G H → Rep G vx x → Rep G vy y → (∀ v G' H', Stp none G H G' H' → Rep G' v z → Q v H') → r vx vy H Q
def RU (r : V → Hp → VK → Prop) (x z : D) : Prop := ∀ (G H : Hp) (vx : V) (Q : VK), Same G H → Rep G vx x → (∀ v G' H', Stp none G H G' H' → Rep G' v z → Q v H') → r vx H Q
def RC (r : List V → Hp → VK → Prop) (xs : List D) (z : D) : Prop := ∀ (G H : Hp) (vs : List V) (Q : VK), Same G H → RepL G vs xs → (∀ v G' H', Stp none G H G' H' → Rep G' v z → Q v H') → r vs H Q

section
variable {K : PySem.W.Frag} {C : Addr} {ρ : List S} {ta tb te : TE} {t u : TT} {x y z d : D} {r : R2}
theorem ev_is (h : Ev C te ρ x) (e : x = y) : Ev C te ρ y := e ▸ h
theorem evt_is {a b : Bool} (h : EvT C t ρ a) (e : a = b) : EvT C t ρ b := e ▸ h
theorem ev_var {i : Nat} (h : ρ[i]? = some (.val d)) : Ev C (tVar i) ρ d := fun b H0 G H σ Q s e q => by
  obtain ⟨o, h1, v, rfl, h2⟩ := e.get h
  exact ⟨v, h1, q v G H (Stp.refl s) h2⟩
theorem ev_int {i : Int} : Ev C (tC (.int i)) ρ (.int i) := fun b H0 G H σ Q s e q => q _ G H (Stp.refl s) (.int i)
theorem ev_bl {i : Bool} : Ev C (tC (.bl i)) ρ (.bl i) := fun b H0 G H σ Q s e q => q _ G H (Stp.refl s) (.bl i)
theorem ev_op (ha : Ev C ta ρ x) (hb : Ev C tb ρ y) (hr : RD r x y z) : Ev C (tOp r ta tb) ρ z := fun b H0 G H σ Q s e q =>
  ha b H0 G H σ _ s e fun v1 G1 H1 s1 r1 => hb b H0 G1 H1 σ _ s1.s (e.mono s1) fun v2 G2 H2 s2 r2 =>
    hr G2 H2 v1 v2 Q s2.s (r1.mono s2.g) r2 fun v G3 H3 s3 r3 => q v G3 H3 ((s1.trans s2).trans s3) r3
theorem ev_un {r : V → Hp → VK → Prop} (ha : Ev C ta ρ x) (hr : RU r x z) : Ev C (tUn r ta) ρ z := fun b H0 G H σ Q s e q =>
  ha b H0 G H σ _ s e fun v1 G1 H1 s1 r1 => hr G1 H1 v1 Q s1.s r1 fun v G3 H3 s3 r3 => q v G3 H3 (s1.trans s3) r3
theorem ea_nil : EvA C tNil ρ [] := fun b H0 G H σ Q s e q => q [] G H (Stp.refl s) .nil
theorem ea_cons {tr : TA} {ds : List D} (h : Ev C ta ρ x) (hr : EvA C tr ρ ds) : EvA C (tCons ta tr) ρ (x :: ds) := fun b H0 G H σ Q s e q =>
  h b H0 G H σ _ s e fun v1 G1 H1 s1 r1 => hr b H0 G1 H1 σ _ s1.s (e.mono s1) fun vs G2 H2 s2 r2 => q _ G2 H2 (s1.trans s2) (.cons (r1.mono s2.g) r2)
theorem ev_cb {r : List V → Hp → VK → Prop} {tr : TA} {ds : List D} (h : EvA C tr ρ ds) (hr : RC r ds z) : Ev C (tCB r tr) ρ z := fun b H0 G H σ Q s e q =>
  h b H0 G H σ _ s e fun vs G1 H1 s1 r1 => hr G1 H1 vs Q s1.s r1 fun v G2 H2 s2 r2 => q v G2 H2 (s1.trans s2) r2
theorem ev_lst {tr : TA} {ds : List D} (h : EvA C tr ρ ds) (hl : ds.length ≤ sizeLine) : Ev C (tLst tr) ρ (.lst ds) := fun b H0 G H σ Q s e q =>
  h b H0 G H σ _ s e fun vs G1 H1 s1 r1 => ⟨by rw [r1.len]; exact hl, fun p n => q _ _ _ (s1.trans (Stp.new s1.s n)) (.lst upd_same (r1.mono (same_new (s1.s.free n))))⟩
theorem ev_tup {tr : TA} {ds : List D} (h : EvA C tr ρ ds) (hl : ds.length ≤ sizeLine) : Ev C (tTup tr) ρ (.tup ds) := fun b H0 G H σ Q s e q =>
  h b H0 G H σ _ s e fun vs G1 H1 s1 r1 => ⟨by rw [r1.len]; exact hl, fun p n => q _ _ _ (s1.trans (Stp.new s1.s n)) (.tup upd_same (r1.mono (same_new (s1.s.free n))))⟩
theorem ev_if {c : Bool} (h : EvT C t ρ c) (h1 : c = true → Ev C ta ρ d) (h2 : c = false → Ev C tb ρ d) : Ev C (tIf t ta tb) ρ d := fun b H0 G H σ Q s e q =>
  h b H0 G H σ _ s e fun G1 H1 s1 => by
    cases c with
    | true => exact iteT (h1 rfl b H0 G1 H1 σ Q s1.s (e.mono s1) fun v G2 H2 s2 r2 => q v G2 H2 (s1.trans s2) r2)
    | false => exact iteF (h2 rfl b H0 G1 H1 σ Q s1.s (e.mono s1) fun v G2 H2 s2 r2 => q v G2 H2 (s1.trans s2) r2)
theorem ev_andV {c k : Bool} (h1 : Ev C ta ρ (.bl c)) (h2 : c = true → Ev C tb ρ (.bl k)) : Ev C (tAndV ta tb) ρ (.bl (c && k)) := fun b H0 G H σ Q s e q =>
  h1 b H0 G H σ _ s e fun v1 G1 H1 s1 r1 => ⟨c, r1.bl_inv, by
    cases c with
    | true => exact iteT (h2 rfl b H0 G1 H1 σ Q s1.s (e.mono s1) fun v G2 H2 s2 r2 => q v G2 H2 (s1.trans s2) r2)
    | false => exact iteF (q _ G1 H1 s1 (.bl false))⟩
theorem ev_orV {c k : Bool} (h1 : Ev C ta ρ (.bl c)) (h2 : c = false → Ev C tb ρ (.bl k)) : Ev C (tOrV ta tb) ρ (.bl (c || k)) := fun b H0 G H σ Q s e q =>
  h1 b H0 G H σ _ s e fun v1 G1 H1 s1 r1 => ⟨c, r1.bl_inv, by
    cases c with
    | false => exact iteF (h2 rfl b H0 G1 H1 σ Q s1.s (e.mono s1) fun v G2 H2 s2 r2 => q v G2 H2 (s1.trans s2) r2)
    | true => exact iteT (q _ G1 H1 s1 (.bl true))⟩

/-! ### tests -/
theorem et_B {c : Bool} (h : Ev C te ρ (.bl c)) : EvT C (tB te) ρ c := fun b H0 G H σ Q s e q => h b H0 G H σ _ s e fun v1 G1 H1 s1 r1 => ⟨c, r1.bl_inv, q G1 H1 s1⟩
theorem et_test {c : Bool} (h : Ev C te ρ (.bl c)) : EvT C (tTest te) ρ c := fun b H0 G H σ Q s e q => h b H0 G H σ _ s e fun v1 G1 H1 s1 r1 => ⟨c, r1.bl_inv, q G1 H1 s1⟩
theorem et_not {c : Bool} (h : EvT C t ρ c) : EvT C (tNot t) ρ (!c) := fun b H0 G H σ Q s e q => h b H0 G H σ _ s e q
theorem et_and {a c : Bool} (h1 : EvT C t ρ a) (h2 : a = true → EvT C u ρ c) : EvT C (tAnd t u) ρ (a && c) := fun b H0 G H σ Q s e q => h1 b H0 G H σ _ s e fun G1 H1 s1 => by
  cases a with
  | true => exact iteT (h2 rfl b H0 G1 H1 σ Q s1.s (e.mono s1) fun G2 H2 s2 => q G2 H2 (s1.trans s2))
  | false => exact iteF (q G1 H1 s1)
theorem et_or {a c : Bool} (h1 : EvT C t ρ a) (h2 : a = false → EvT C u ρ c) : EvT C (tOr t u) ρ (a || c) := fun b H0 G H σ Q s e q => h1 b H0 G H σ _ s e fun G1 H1 s1 => by
  cases a with
  | false => exact iteF (h2 rfl b H0 G1 H1 σ Q s1.s (e.mono s1) fun G2 H2 s2 => q G2 H2 (s1.trans s2))
  | true => exact iteT (q G1 H1 s1)
theorem et_yes : EvT C tYes ρ true := fun b H0 G H σ Q s e q => q G H (Stp.refl s)

/-! ### operations -/
theorem rd_I0 {f : Int → Int → Int} {i j : Int} : RD (rI0 fun i j => .int (f i j)) (.int i) (.int j) (.int (f i j)) := fun G H vx vy Q s hx hy q => ⟨i, j, hx.int_inv, hy.int_inv, q _ G H (Stp.refl s) (.int _)⟩
theorem rd_B0 {f : Int → Int → Bool} {i j : Int} : RD (rI0 fun i j => .bl (f i j)) (.int i) (.int j) (.bl (f i j)) := fun G H vx vy Q s hx hy q => ⟨i, j, hx.int_inv, hy.int_inv, q _ G H (Stp.refl s) (.bl _)⟩
theorem rd_I {Cd : Int → Int → Prop} {f : Int → Int → Int} {i j : Int} (h : Cd i j) : RD (rI Cd fun i j => .int (f i j)) (.int i) (.int j) (.int (f i j)) := fun G H vx vy Q s hx hy q => ⟨i, j, hx.int_inv, hy.int_inv, h, q _ G H (Stp.refl s) (.int _)⟩
theorem rd_eq {i j : Int} : RD rEq (.int i) (.int j) (.bl (decide (i = j))) := fun G H vx vy Q s hx hy q => by
  rw [hx.int_inv, hy.int_inv]
  refine ⟨rfl, ?_⟩
  have e : decide (V.int i = V.int j) = decide (i = j) := decide_eq_decide.mpr ⟨V.int.inj, fun h => h ▸ rfl⟩
  rw [e]
  exact q _ G H (Stp.refl s) (.bl _)
theorem rd_ne {i j : Int} : RD rNe (.int i) (.int j) (.bl (!decide (i = j))) := fun G H vx vy Q s hx hy q => by
  rw [hx.int_inv, hy.int_inv]
  refine ⟨rfl, ?_⟩
  have e : decide (V.int i = V.int j) = decide (i = j) := decide_eq_decide.mpr ⟨V.int.inj, fun h => h ▸ rfl⟩
  rw [e]
  exact q _ G H (Stp.refl s) (.bl _)
theorem ru_neg {i : Int} : RU (rU fun i => .int (-i)) (.int i) (.int (-i)) := fun G H vx Q s hx q => ⟨i, hx.int_inv, q _ G H (Stp.refl s) (.int _)⟩
theorem at_rep {G : Hp} {vs : List V} {ds : List D} {i : Int} (r : RepL G vs ds) (h : atI ds i = some d) : ∃ v, atI vs i = some v ∧ Rep G v d := by
  unfold atI at h ⊢
  rw [r.len]
  cases e : ixN ds.length i with
  | none =>
    rw [e] at h
    cases h
  | some j =>
    rw [e] at h
    exact r.get h
theorem rd_ixL {ds : List D} {i : Int} (h : atI ds i = some d) : RD (rIxL K) (.lst ds) (.int i) d := fun G H vx vy Q s hx hy q => by
  obtain ⟨a, vs, rfl, hG, rl⟩ := hx.lst_inv
  obtain ⟨v, h1, h2⟩ := at_rep rl h
  exact ⟨a, vs, i, v, rfl, hy.int_inv, SqL.of (s _ _ hG), h1, q v G H (Stp.refl s) h2⟩
theorem rd_ixT {ds : List D} {i : Int} (h : atI ds i = some d) : RD (rIxT K) (.tup ds) (.int i) d := fun G H vx vy Q s hx hy q => by
  obtain ⟨a, vs, rfl, hG, rl⟩ := hx.tup_inv
  obtain ⟨v, h1, h2⟩ := at_rep rl h
  exact ⟨a, vs, i, v, rfl, hy.int_inv, SqT.of (s _ _ hG), h1, q v G H (Stp.refl s) h2⟩
theorem at0 {α : Type} {x : α} {r : List α} : atI (x :: r) 0 = some x := atI_nat (j := 0) rfl
theorem at1 {α : Type} {x y : α} {r : List α} : atI (x :: y :: r) 1 = some y := atI_nat (j := 1) rfl
theorem atM {l : List Int} {z : Int} {j : Nat} {v : Int} (e : z = (j : Int)) (h : l[j]? = some v) : atI (l.map D.int) z = some (.int v) := by
  rw [e]
  exact atI_nat (by rw [List.getElem?_map, h] <;> rfl)
theorem inV_ints (i : Int) : ∀ ns : List Int, inV (.int i) (ns.map V.int) = decide (i ∈ ns)
  | [] => by simp [inV]
  | n :: r => by
    have ih := inV_ints i r
    unfold inV at ih ⊢
    rw [List.map_cons, List.any_cons, ih]
    have e : eqV (.int n) (.int i) = decide (i = n) := by
      show (n == i) = decide (i = n)
      by_cases h : i = n
      · subst h
        simp
      · rw [decide_eq_false h]
        exact beq_eq_false_iff_ne.mpr fun z => h z.symm
    rw [e]
    simp [List.mem_cons]
theorem flat_ints (ns : List Int) : (ns.map V.int).all flatV = true := by
  rw [List.all_eq_true]
  intro x hx
  obtain ⟨n, _, rfl⟩ := List.mem_map.mp hx
  rfl
theorem rd_in {ns : List Int} {i : Int} : RD (rIn K false) (.int i) (.lst (ns.map D.int)) (.bl (decide (i ∈ ns))) := fun G H vx vy Q s hx hy q => by
  obtain ⟨a, vs, rfl, hG, rl⟩ := hy.lst_inv
  have e := rl.ints
  subst e
  rw [hx.int_inv]
  refine ⟨a, _, rfl, .inl (SqL.of (s _ _ hG)), rfl, flat_ints ns, ?_⟩
  show Q (.bl (inV (.int i) (ns.map V.int))) H
  rw [inV_ints]
  exact q _ G H (Stp.refl s) (.bl _)
theorem rd_cat {xs ys : List D} (hl : xs.length + ys.length ≤ sizeLine) : RD rCat (.lst xs) (.lst ys) (.lst (xs ++ ys)) := fun G H vx vy Q s hx hy q => by
  obtain ⟨a, vs, rfl, hG, rl⟩ := hx.lst_inv
  obtain ⟨b, ws, rfl, hG', rl'⟩ := hy.lst_inv
  refine ⟨a, b, vs, ws, rfl, rfl, s _ _ hG, s _ _ hG', by rw [rl.len, rl'.len]; exact hl, fun p n => q _ _ _ (Stp.new s n) (.lst upd_same ((rl.append rl').mono (same_new (s.free n))))⟩

/-! ### built-ins by values -/
def rLenS (K : PySem.W.Frag) : List V → Hp → VK → Prop := fun xs H Q => ∃ p ys, xs = [.ref p] ∧ (SqL K H p ys ∨ SqT K H p ys) ∧ Q (.int ys.length) H
theorem call_lenS {X : Cx} : CallR X (.builtin "len") (rLenS X.K) := call_len_seq
theorem rc_len {ds : List D} : RC (rLenS K) [.lst ds] (.int ds.length) := fun G H vs Q s h q => by
  cases h with
  | cons h1 h2 =>
    cases h2
    obtain ⟨a, us, rfl, hG, rl⟩ := h1.lst_inv
    refine ⟨a, us, rfl, .inl (SqL.of (s _ _ hG)), ?_⟩
    rw [rl.len]
    exact q _ G H (Stp.refl s) (.int _)
theorem rc_sum {ns : List Int} : RC (rSum K) [.lst (ns.map D.int)] (.int ns.sum) := fun G H vs Q s h q => by
  cases h with
  | cons h1 h2 =>
    cases h2
    obtain ⟨a, us, rfl, hG, rl⟩ := h1.lst_inv
    have e := rl.ints
    subst e
    exact ⟨a, ns, rfl, SqL.of (s _ _ hG), q _ G H (Stp.refl s) (.int _)⟩
theorem rc_max {ns : List Int} {m : Int} (h0 : ns ≠ []) (hm : ∀ k, k ∈ ns → (∀ y, y ∈ ns → y ≤ k) → k = m) : RC (rMax K) [.lst (ns.map D.int)] (.int m) := fun G H vs Q s h q => by
  cases h with
  | cons h1 h2 =>
    cases h2
    obtain ⟨a, us, rfl, hG, rl⟩ := h1.lst_inv
    have e := rl.ints
    subst e
    refine ⟨a, ns, rfl, SqL.of (s _ _ hG), List.length_pos_iff.mpr h0, fun k k1 k2 => ?_⟩
    rw [hm k k1 k2]
    exact q _ G H (Stp.refl s) (.int _)
theorem rc_all {ns : List Bool} : RC (rAll K) [.lst (ns.map D.bl)] (.bl (ns.all id)) := fun G H vs Q s h q => by
  cases h with
  | cons h1 h2 =>
    cases h2
    obtain ⟨a, us, rfl, hG, rl⟩ := h1.lst_inv
    have e := rl.bls
    subst e
    exact ⟨a, ns, rfl, SqL.of (s _ _ hG), q _ G H (Stp.refl s) (.bl _)⟩
def rMin2 : List V → Hp → VK → Prop := fun xs H Q => ∃ i j, xs = [.int i, .int j] ∧ Q (.int (if j < i then j else i)) H
theorem call_min2S {X : Cx} (hc : X.calm = true) : CallR X (.builtin "min") rMin2 := call_min2 hc
theorem rc_min2 {i j : Int} : RC rMin2 [.int i, .int j] (.int (min i j)) := fun G H vs Q s h q => by
  cases h with
  | cons h1 h2 =>
    cases h2 with
    | cons h3 h4 =>
      cases h4
      refine ⟨i, j, by rw [h1.int_inv, h3.int_inv], ?_⟩
      have e : (if j < i then j else i) = min i j := by split <;> omega
      rw [e]
      exact q _ G H (Stp.refl s) (.int _)
/-- xs.count(k) -/
theorem ev_count {ns : List Int} {k : Int} (h1 : Ev C ta ρ (.lst (ns.map D.int))) (h2 : Ev C tb ρ (.int k)) : Ev C (tBM K "list" (rCntI K) ta (tCons tb tNil)) ρ (.int ((ns.count k : Nat) : Int)) := fun b H0 G H σ Q s e q =>
  h1 b H0 G H σ _ s e fun v1 G1 H1 s1 r1 => by
    obtain ⟨a, us, rfl, hG, rl⟩ := r1.lst_inv
    have e2 := rl.ints
    subst e2
    refine ⟨Or.inl ⟨rfl, _, SqL.of (s1.s _ _ hG)⟩, h2 b H0 G1 H1 σ _ s1.s (e.mono s1) fun v2 G2 H2 s2 r2 => ?_⟩
    rw [r2.int_inv]
    exact ⟨a, ns, k, rfl, rfl, SqL.of (s2.s _ _ (s2.g _ _ hG)), q _ G2 H2 (s1.trans s2) (.int _)⟩
/-- slices -/
def EvO (C : Addr) (to : TO) (ρ : List S) (o : Option Int) : Prop := ∀ (b : Addr) (H0 G H : Hp) (σ : L2.St) (Q : Option Int → Hp → Prop), Same G H → EnvOk C b H0 G H σ ρ → (∀ G' H', Stp none G H G' H' → Q o H') → to σ H Q
theorem eo_none : EvO C tNoPart ρ none := fun b H0 G H σ Q s e q => q G H (Stp.refl s)
theorem eo_some {i : Int} (h : Ev C te ρ (.int i)) : EvO C (tPart te) ρ (some i) := fun b H0 G H σ Q s e q => h b H0 G H σ _ s e fun v1 G1 H1 s1 r1 => ⟨i, r1.int_inv, q G1 H1 s1⟩
def cutD (xs : List D) (lo hi : Option Int) : List D := (xs.drop (HT.sIx xs.length 0 lo)).take (HT.sIx xs.length xs.length hi - HT.sIx xs.length 0 lo)
theorem ev_sl {tl th : TO} {ds : List D} {lo hi : Option Int} (h : Ev C te ρ (.lst ds)) (h1 : EvO C tl ρ lo) (h2 : EvO C th ρ hi) : Ev C (tSl (rSlL K) te tl th) ρ (.lst (cutD ds lo hi)) := fun b H0 G H σ Q s e q =>
  h b H0 G H σ _ s e fun v1 G1 H1 s1 r1 => h1 b H0 G1 H1 σ _ s1.s (e.mono s1) fun G2 H2 s2 => h2 b H0 G2 H2 σ _ s2.s ((e.mono s1).mono s2) fun G3 H3 s3 => by
    obtain ⟨a, us, rfl, hG, rl⟩ := r1.lst_inv
    have hG3 := (s2.trans s3).g _ _ hG
    refine ⟨a, us, rfl, SqL.of (s3.s _ _ hG3), fun p n => q _ _ _ (((s1.trans s2).trans s3).trans (Stp.new s3.s n)) (.lst upd_same ?_)⟩
    have rl3 := (rl.mono (s2.trans s3).g).mono (same_new (s3.s.free n) (o := .lst (cutV us lo hi)))
    have e3 : cutV us lo hi = (us.drop (HT.sIx ds.length 0 lo)).take (HT.sIx ds.length ds.length hi - HT.sIx ds.length 0 lo) := by
      unfold cutV
      rw [rl.len]
    rw [e3] at rl3 ⊢
    exact (rl3.drop _).take _
/-- a field of the bench -/
theorem ev_products {i : Nat} {b : Bool} {ps ma : D} (cl : Cls K C) (n : NoAttr K C "products") (h : ρ[i]? = some (.ben b ps ma)) : Ev C (tFld K (tVar i) "products") ρ ps := fun b H0 G H σ Q s e q => by
  obtain ⟨o, h1, rfl, g, dx, vp, vm, hb, h2, h3⟩ := e.get h
  exact ⟨_, h1, b, C, dx, _, vp, rfl, hb, cl, n, rfl, q vp G H (Stp.refl s) h2⟩
theorem ev_machine {i : Nat} {b : Bool} {ps ma : D} (cl : Cls K C) (n : NoAttr K C "machine") (h : ρ[i]? = some (.ben b ps ma)) : Ev C (tFld K (tVar i) "machine") ρ ma := fun b H0 G H σ Q s e q => by
  obtain ⟨o, h1, rfl, g, dx, vp, vm, hb, h2, h3⟩ := e.get h
  exact ⟨_, h1, b, C, dx, _, vm, rfl, hb, cl, n, rfl, q vm G H (Stp.refl s) h3⟩
theorem ev_there {i : Nat} {b : Bool} {ps ma : D} (cl : Cls K C) (n : NoAttr K C "is_there") (h : ρ[i]? = some (.ben b ps ma)) : Ev C (tFld K (tVar i) "is_there") ρ (.bl b) := fun b' H0 G H σ Q s e q => by
  obtain ⟨o, h1, rfl, g, dx, vp, vm, hb, h2, h3⟩ := e.get h
  exact ⟨_, h1, b', C, dx, _, .bl b, rfl, hb, cl, n, rfl, q (.bl b) G H (Stp.refl s) (.bl b)⟩

/-! ### a list of ints that is read only (an argument of the row) -/
def ArgL (K : PySem.W.Frag) (ns : List Int) : V → Hp → Prop := fun v G => ∃ a, v = .ref a ∧ SqL K G a (ns.map V.int)
theorem ev_lenA {i : Nat} {ns : List Int} (h : ρ[i]? = some (.rd (ArgL K ns))) : Ev C (tCB (rLenS K) (tCons (tVar i) tNil)) ρ (.int (ns.length : Int)) := fun b H0 G H σ Q s e q => by
  obtain ⟨o, h1, v, rfl, h2⟩ := e.get h
  obtain ⟨a, rfl, hs⟩ := h2 H s
  refine ⟨_, h1, a, _, rfl, .inl hs, ?_⟩
  rw [List.length_map]
  exact q _ G H (Stp.refl s) (.int _)
theorem ev_ixA {i : Nat} {ns : List Int} {z k : Int} (h : ρ[i]? = some (.rd (ArgL K ns))) (hb : Ev C tb ρ (.int z)) (hz : atI ns z = some k) : Ev C (tOp (rIxL K) (tVar i) tb) ρ (.int k) := fun b H0 G H σ Q s e q => by
  obtain ⟨o, h1, v, rfl, h2⟩ := e.get h
  refine ⟨v, h1, hb b H0 G H σ _ s e fun v1 G1 H1 s1 r1 => ?_⟩
  obtain ⟨a, rfl, hs⟩ := h2 H1 (s.trans s1.same)
  rw [r1.int_inv]
  refine ⟨a, _, z, .int k, rfl, rfl, hs, ?_, q _ G1 H1 s1 (.int k)⟩
  unfold atI at hz ⊢
  rw [List.length_map]
  cases e : ixN ns.length z with
  | none =>
    rw [e] at hz
    cases hz
  | some j =>
    rw [e] at hz
    show (ns.map V.int)[j]? = _
    rw [List.getElem?_map, show ns[j]? = some k from hz] <;> rfl
theorem ev_slA {i : Nat} {ns : List Int} {tl th : TO} {lo hi : Option Int} (h : ρ[i]? = some (.rd (ArgL K ns))) (h1 : EvO C tl ρ lo) (h2 : EvO C th ρ hi) :
    Ev C (tSl (rSlL K) (tVar i) tl th) ρ (.lst (((ns.drop (HT.sIx ns.length 0 lo)).take (HT.sIx ns.length ns.length hi - HT.sIx ns.length 0 lo)).map D.int)) := fun b H0 G H σ Q s e q => by
  obtain ⟨o, g1, v, rfl, g2⟩ := e.get h
  refine ⟨v, g1, h1 b H0 G H σ _ s e fun G2 H2 s2 => h2 b H0 G2 H2 σ _ s2.s (e.mono s2) fun G3 H3 s3 => ?_⟩
  obtain ⟨a, rfl, hs⟩ := g2 H3 ((s.trans s2.same).trans s3.same)
  refine ⟨a, _, rfl, hs, fun p n => q _ _ _ ((s2.trans s3).trans (Stp.new s3.s n)) (.lst upd_same ?_)⟩
  have e3 : cutV (ns.map V.int) lo hi = ((ns.drop (HT.sIx ns.length 0 lo)).take (HT.sIx ns.length ns.length hi - HT.sIx ns.length 0 lo)).map V.int := by
    unfold cutV
    rw [List.length_map, List.map_take, List.map_drop]
  rw [e3]
  exact RepL.of_ints _

/-! ### promises -/
/-- a def that only reads: R arguments answer -/
def SpP (R : List D → D → Prop) : Sp := fun vs H Q _ => ∃ (G : Hp) (ds : List D) (d : D), Same G H ∧ RepL G vs ds ∧ R ds d ∧ ∀ v G' H', Stp none G H G' H' → Rep G' v d → Q v H'
theorem ev_call {R : List D → D → Prop} {tr : TA} {ds : List D} {E : XK} (h : EvA C tr ρ ds) (hR : R ds d) : Ev C (tCall (SpP R) [] E tr) ρ d := fun b H0 G H σ Q s e q =>
  h b H0 G H σ _ s e fun vs G1 H1 s1 r1 => by
    show SpP R (vs ++ []) H1 Q E
    rw [List.append_nil]
    exact ⟨G1, ds, d, s1.s, r1, hR, fun v G2 H2 s2 r2 => q v G2 H2 (s1.trans s2) r2⟩
structure Bs where
  t : Bool
  ps : D
  ma : D
/-- a def of the bench: R bench arguments bench answer -/
def SpB (C : Addr) (R : Bs → List D → Bs → D → Prop) : Sp := fun vs H Q _ => ∃ (G : Hp) (b : Addr) (vs' : List V) (ds : List D) (w w' : Bs) (d : D), vs = .ref b :: vs' ∧ Same G H ∧ BenAt C b G H w.t w.ps w.ma ∧ RepL G vs' ds ∧ R w ds w' d ∧
  ∀ v G' H', Stp (some b) G H G' H' → BenAt C b G' H' w'.t w'.ps w'.ma → Rep G' v d → Q v H'

/-! ### statements -/
inductive Out where
  | nx (ρ : List S) | rt (d : D) (w : Option Bs)
def BenW (C b : Addr) (G H : Hp) : Option Bs → Prop
  | none => True
  | some w => BenAt C b G H w.t w.ps w.ma
def xo (m : Bool) (b : Addr) : Option Addr := if m then some b else none
def Aft (C b : Addr) (X : Option Addr) (G0 H0 G : Hp) (Dn : Ends) : Out → Prop
  | .nx ρ' => ∀ σ' G' H', Same G G' → Stp X G0 H0 G' H' → EnvOk C b H0 G' H' σ' ρ' → Dn.nx σ' H'
  | .rt d w => ∀ v G' H', Same G G' → Stp X G0 H0 G' H' → BenW C b G' H' w → Rep G' v d → Dn.rt v H'
def Run (C : Addr) (m : Bool) (ts : TS) (ρ : List S) (out : Out) : Prop := ∀ (b : Addr) (G0 H0 G H : Hp) (σ : L2.St) (Dn : Ends), Stp (xo m b) G0 H0 G H → EnvOk C b H0 G H σ ρ → Aft C b (xo m b) G0 H0 G Dn out → ts Dn σ H
variable {m : Bool} {ts tu tw : TS} {out : Out} {ρ' ρ1 ρ2 : List S} {g : TG}
theorem Aft.up {b : Addr} {X : Option Addr} {G0 H0 G G1 : Hp} {Dn : Ends} (k : Same G G1) : ∀ {out : Out}, Aft C b X G0 H0 G Dn out → Aft C b X G0 H0 G1 Dn out
  | .nx _, a => fun σ' G' H' k' s' e' => a σ' G' H' (k.trans k') s' e'
  | .rt _ _, a => fun v G' H' k' s' w r => a v G' H' (k.trans k') s' w r
theorem run_is {out' : Out} (h : Run C m ts ρ out) (e : out = out') : Run C m ts ρ out' := e ▸ h
theorem run_pre (f : Fgt ρ ρ') (h : Run C m ts ρ' out) : Run C m ts ρ out := fun b G0 H0 G H σ Dn s e a => h b G0 H0 G H σ Dn s (e.fgt f) a
theorem run_post (h : Run C m ts ρ (.nx ρ1)) (f : Fgt ρ1 ρ2) : Run C m ts ρ (.nx ρ2) := fun b G0 H0 G H σ Dn s e a => h b G0 H0 G H σ Dn s e fun σ' G' H' k' s' e' => a σ' G' H' k' s' (e'.fgt f)
theorem run_seq (h1 : Run C m ts ρ (.nx ρ1)) (h2 : Run C m tu ρ1 out) : Run C m (tSeq ts tu) ρ out := fun b G0 H0 G H σ Dn s e a =>
  h1 b G0 H0 G H σ { Dn with nx := tu Dn } s e fun σ' G' H' k' s' e' => h2 b G0 H0 G' H' σ' Dn s' e' (a.up k')
theorem run_seqR {d : D} {w : Option Bs} (h1 : Run C m ts ρ (.rt d w)) : Run C m (tSeq ts tu) ρ (.rt d w) := fun b G0 H0 G H σ Dn s e a =>
  h1 b G0 H0 G H σ { Dn with nx := tu Dn } s e a
/-- a loop that may be left by a return -/
theorem run_seqM {o : Option D} (h1 : Run C m ts ρ (match o with | none => .nx ρ1 | some r => .rt r none)) (h2 : o = none → Run C m tu ρ1 out) (h3 : ∀ r, o = some r → out = .rt r none) : Run C m (tSeq ts tu) ρ out := by
  cases o with
  | none => exact run_seq h1 (h2 rfl)
  | some r =>
    rw [h3 r rfl]
    exact run_seqR h1
theorem run_next : Run C m tNext ρ (.nx ρ) := fun b G0 H0 G H σ Dn s e a => a σ G H (Same.refl G) s e
theorem run_seqN (h : Run C m tu ρ out) : Run C m (tSeq tNext tu) ρ out := fun b G0 H0 G H σ Dn s e a => h b G0 H0 G H σ Dn s e a
theorem run_if {c : Bool} (h : EvT C t ρ c) (h1 : c = true → Run C m ts ρ out) (h2 : c = false → Run C m tu ρ out) : Run C m (tIfS t ts tu) ρ out := fun b G0 H0 G H σ Dn s e a =>
  h b H0 G H σ _ s.s e fun G1 H1 s1 => by
    cases c with
    | true => exact iteT (h1 rfl b G0 H0 G1 H1 σ Dn (s.trans s1.wide) (e.mono s1) (a.up s1.g))
    | false => exact iteF (h2 rfl b G0 H0 G1 H1 σ Dn (s.trans s1.wide) (e.mono s1) (a.up s1.g))
theorem run_seqIf {c : Bool} (h : EvT C t ρ c) (h1 : c = true → Run C m (tSeq ts tw) ρ out) (h2 : c = false → Run C m (tSeq tu tw) ρ out) : Run C m (tSeq (tIfS t ts tu) tw) ρ out := fun b G0 H0 G H σ Dn s e a =>
  h b H0 G H σ _ s.s e fun G1 H1 s1 => by
    cases c with
    | true => exact iteT (h1 rfl b G0 H0 G1 H1 σ Dn (s.trans s1.wide) (e.mono s1) (a.up s1.g))
    | false => exact iteF (h2 rfl b G0 H0 G1 H1 σ Dn (s.trans s1.wide) (e.mono s1) (a.up s1.g))
/-- if t: return ..; the rest -/
theorem run_ifR {c : Bool} (h : EvT C t ρ c) (h1 : c = true → Run C m ts ρ out) (hr : ∀ ρ', out ≠ .nx ρ') (h2 : c = false → Run C m tw ρ out) : Run C m (tSeq (tIfS t ts tNext) tw) ρ out :=
  run_seqIf h (fun z => by
    cases out with
    | nx ρ' => exact absurd rfl (hr ρ')
    | rt d w => exact run_seqR (h1 z)) fun z => run_seqN (h2 z)
theorem run_asg {i : Nat} (h : Ev C te ρ d) : Run C m (tAsg te (gName i)) ρ (.nx (ρ.set i (.val d))) := fun b G0 H0 G H σ Dn s e a =>
  h b H0 G H σ _ s.s e fun v G1 H1 s1 r1 => a _ G1 H1 s1.g (s.trans s1.wide) ((e.mono s1).set (s := .val d) ⟨v, rfl, r1⟩ i)
theorem run_ret (h : Ev C te ρ d) : Run C m (tRet te) ρ (.rt d none) := fun b G0 H0 G H σ Dn s e a =>
  h b H0 G H σ _ s.s e fun v G1 H1 s1 r1 => a v G1 H1 s1.g (s.trans s1.wide) True.intro r1
/-- the bench stands in slot i -/
theorem run_retB {i : Nat} {t : Bool} {ps ma : D} (hi : ρ[i]? = some (.ben t ps ma)) (h : Ev C te ρ d) : Run C m (tRet te) ρ (.rt d (some ⟨t, ps, ma⟩)) := fun b G0 H0 G H σ Dn s e a =>
  h b H0 G H σ _ s.s e fun v G1 H1 s1 r1 => by
    obtain ⟨o, _, _, hb⟩ := (e.mono s1).get hi
    exact a v G1 H1 s1.g (s.trans s1.wide) hb r1
/-- xs = [..], a list of one's own -/
theorem run_own {i : Nat} {tr : TA} {ds : List D} (h : EvA C tr ρ ds) (hl : ds.length ≤ sizeLine) : Run C m (tAsg (tLst tr) (gName i)) ρ (.nx (ρ.set i (.own ds))) := fun b G0 H0 G H σ Dn s e a =>
  h b H0 G H σ _ s.s e fun vs G1 H1 s1 r1 => ⟨by rw [r1.len]; exact hl, fun p n => by
    have s2 : Stp none G1 H1 G1 (upd H1 p (.lst vs)) := Stp.newH s1.s n
    have s3 : Stp (xo m b) G0 H0 G1 H1 := s.trans s1.wide
    have h0 : H0 p = none := by
      cases q : H0 p with
      | none => rfl
      | some o =>
        obtain ⟨o', z⟩ := s3.k p o q
        rw [n] at z
        cases z
    exact a _ G1 _ s1.g (s3.trans s2.wide) (((e.mono s1).mono s2).set (s := .own ds) ⟨p, vs, rfl, h0, s1.s.free n, upd_same, r1⟩ i)⟩
theorem set_back {i : Nat} {σ : L2.St} {o : Option V} (ho : σ[i]? = some o) : σ.set i o = σ := by
  obtain ⟨hlt, hh⟩ := List.getElem?_eq_some_iff.mp ho
  rw [← hh]
  exact List.set_getElem_self hlt
/-- the own list at p changes -/
theorem EnvOk.chg {b p : Addr} {H0 G H : Hp} {σ : L2.St} {i : Nat} {vs vs' : List V} {ds' : List D} (e : EnvOk C b H0 G H σ ρ) (ho : σ[i]? = some (some (.ref p))) (hn : noOwn (ρ.set i .no) = true) (h0 : H0 p = none) (g : G p = none) (hp : H p = some (.lst vs)) (r : RepL G vs' ds') :
    EnvOk C b H0 G (upd H p (.lst vs')) σ (ρ.set i (.own ds')) := by
  have e2 : EnvOk C b H0 G (upd H p (.lst vs')) (σ.set i none) (ρ.set i .no) := EnvOk.off hp hn (EnvOk.set (s := .no) (o := none) True.intro i e)
  have e3 := EnvOk.set (C := C) (b := b) (s := .own ds') (o := some (.ref p)) (show SlotOk C b H0 G (upd H p (.lst vs')) _ _ from ⟨p, _, rfl, h0, g, upd_same, r⟩) i e2
  rw [List.set_set, List.set_set, set_back ho] at e3
  exact e3
theorem run_app {i : Nat} {ds : List D} (hi : ρ[i]? = some (.own ds)) (hn : noOwn (ρ.set i .no) = true) (h : Ev C te ρ d) (hl : ds.length < sizeLine) :
    Run C m (tDrop (tBM K "list" rAppend (tVar i) (tCons te tNil))) ρ (.nx (ρ.set i (.own (ds ++ [d])))) := fun b G0 H0 G H σ Dn s e a => by
  obtain ⟨o, ho, p, vs, rfl, h0, g, hp, r⟩ := e.get hi
  refine ⟨_, ho, Or.inl ⟨rfl, vs, SqL.of hp⟩, h b H0 G H σ _ s.s e fun v G1 H1 s1 r1 => ?_⟩
  refine ⟨p, vs, v, rfl, rfl, s1.same _ _ hp, by rw [r.len]; exact hl, ?_⟩
  have g1 := s1.f _ _ hp g
  exact a _ G1 _ s1.g ((s.trans s1.wide).mut (.inr h0) g1) ((e.mono s1).chg ho hn h0 g1 (s1.same _ _ hp) ((r.mono s1.g).append (.cons r1 .nil)))
theorem run_ext {i : Nat} {ds es : List D} (hi : ρ[i]? = some (.own ds)) (hn : noOwn (ρ.set i .no) = true) (h : Ev C te ρ (.lst es)) (hl : ds.length + es.length ≤ sizeLine) :
    Run C m (tDrop (tBM K "list" rExtend (tVar i) (tCons te tNil))) ρ (.nx (ρ.set i (.own (ds ++ es)))) := fun b G0 H0 G H σ Dn s e a => by
  obtain ⟨o, ho, p, vs, rfl, h0, g, hp, r⟩ := e.get hi
  refine ⟨_, ho, Or.inl ⟨rfl, vs, SqL.of hp⟩, h b H0 G H σ _ s.s e fun v G1 H1 s1 r1 => ?_⟩
  obtain ⟨q, ws, rfl, hq, rl⟩ := r1.lst_inv
  refine ⟨p, q, vs, ws, rfl, rfl, s1.same _ _ hp, s1.s _ _ hq, by rw [r.len, rl.len]; exact hl, ?_⟩
  have g1 := s1.f _ _ hp g
  exact a _ G1 _ s1.g ((s.trans s1.wide).mut (.inr h0) g1) ((e.mono s1).chg ho hn h0 g1 (s1.same _ _ hp) ((r.mono s1.g).append rl))
/-- the own list is given away as data -/
theorem Stp.giv {X : Option Addr} {G0 H0 G H : Hp} {p : Addr} {vs : List V} (s : Stp X G0 H0 G H) (h0 : H0 p = none) (g : G p = none) (hp : H p = some (.lst vs)) : Stp X G0 H0 (upd G p (.lst vs)) H :=
  ⟨s.g.trans (same_new g), s.h, fun c u z => by
    by_cases hc : c = p
    · subst hc
      rw [upd_same] at z
      rw [hp]
      exact z
    · rw [upd_ne hc] at z
      exact s.s _ _ z, fun c u z z2 => by
    rw [upd_ne (ne_of_none z h0)]
    exact s.f _ _ z z2, s.k⟩
/-- return xs, the list of one's own -/
theorem run_retO {i : Nat} {ds : List D} (hi : ρ[i]? = some (.own ds)) : Run C m (tRet (tVar i)) ρ (.rt (.lst ds) none) := fun b G0 H0 G H σ Dn s e a => by
  obtain ⟨o, ho, p, vs, rfl, h0, g, hp, r⟩ := e.get hi
  exact ⟨_, ho, a _ (upd G p (.lst vs)) H (same_new g) (s.giv h0 g hp) True.intro (.lst upd_same (r.mono (same_new g)))⟩
/-- .. of a def of the bench -/
theorem run_retOB {i j : Nat} {ds : List D} {t : Bool} {ps ma : D} (hi : ρ[i]? = some (.own ds)) (hj : ρ[j]? = some (.ben t ps ma)) : Run C m (tRet (tVar i)) ρ (.rt (.lst ds) (some ⟨t, ps, ma⟩)) := fun b G0 H0 G H σ Dn s e a => by
  obtain ⟨o, ho, p, vs, rfl, h0, g, hp, r⟩ := e.get hi
  obtain ⟨o2, _, _, gb, dx, vp, vm, hb, r1, r2⟩ := e.get hj
  refine ⟨_, ho, a _ (upd G p (.lst vs)) H (same_new g) (s.giv h0 g hp) ⟨?_, dx, vp, vm, hb, r1.mono (same_new g), r2.mono (same_new g)⟩ (.lst upd_same (r.mono (same_new g)))⟩
  rw [upd_ne (ne_of hb hp (fun z => nomatch z))]
  exact gb

/-! ### targets -/
/-- at most the slots of is change -/
def Only (is : List Nat) (σ σ' : L2.St) : Prop := σ'.length = σ.length ∧ ∀ j, j ∉ is → σ'[j]? = σ[j]?
theorem Only.refl (is : List Nat) (σ : L2.St) : Only is σ σ := ⟨rfl, fun _ _ => rfl⟩
theorem Only.trans {is js : List Nat} {σ σ' τ : L2.St} (a : Only is σ σ') (b : Only js σ' τ) : Only (is ++ js) σ τ :=
  ⟨b.1.trans a.1, fun j hj => (b.2 j fun z => hj (List.mem_append_right _ z)).trans (a.2 j fun z => hj (List.mem_append_left _ z))⟩
theorem Only.set {σ : L2.St} {i : Nat} {o : Option V} : Only [i] σ (σ.set i o) := ⟨List.length_set, fun j hj => List.getElem?_set_ne fun z => hj (by rw [z]; exact List.mem_singleton_self _)⟩
def GOk (C : Addr) (g : TG) (is : List Nat) (d : D) (ρ ρ1 : List S) : Prop := ∀ (b : Addr) (H0 G H : Hp) (σ : L2.St) (v : V) (Q : L2.St → Hp → Prop), Same G H → EnvOk C b H0 G H σ ρ → Rep G v d → (∀ σ', EnvOk C b H0 G H σ' ρ1 → Only is σ σ' → Q σ' H) → g v σ H Q
def GsOk (C : Addr) (g : TGs) (is : List Nat) (ds : List D) (ρ ρ1 : List S) : Prop := ∀ (b : Addr) (H0 G H : Hp) (σ : L2.St) (vs : List V) (Q : L2.St → Hp → Prop), Same G H → EnvOk C b H0 G H σ ρ → RepL G vs ds → (∀ σ', EnvOk C b H0 G H σ' ρ1 → Only is σ σ' → Q σ' H) → g vs σ H Q
theorem gok_name {i : Nat} : GOk C (gName i) [i] d ρ (ρ.set i (.val d)) := fun b H0 G H σ v Q s e r q => q _ (e.set (s := .val d) ⟨v, rfl, r⟩ i) Only.set
theorem gsok_nil : GsOk C gNil [] [] ρ ρ := fun b H0 G H σ vs Q s e r q => by
  cases r
  exact ⟨rfl, q σ e (Only.refl _ _)⟩
theorem gsok_cons {gs : TGs} {is js : List Nat} {ds : List D} (h1 : GOk C g is d ρ ρ1) (h2 : GsOk C gs js ds ρ1 ρ2) : GsOk C (gCons g gs) (is ++ js) (d :: ds) ρ ρ2 := fun b H0 G H σ vs Q s e r q => by
  cases r with
  | cons r1 r2 => exact ⟨_, _, rfl, h1 b H0 G H σ _ _ s e r1 fun σ1 e1 o1 => h2 b H0 G H σ1 _ Q s e1 r2 fun σ2 e2 o2 => q σ2 e2 (o1.trans o2)⟩
theorem gok_tup {gs : TGs} {is : List Nat} {ds : List D} {n : Nat} (hn : ds.length = n) (h : GsOk C gs is ds ρ ρ1) : GOk C (gTup K n gs) is (.tup ds) ρ ρ1 := fun b H0 G H σ v Q s e r q => by
  obtain ⟨a, vs, rfl, hG, rl⟩ := r.tup_inv
  exact ⟨a, vs, rfl, SqT.of (s _ _ hG), by rw [rl.len]; exact hn, h b H0 G H σ vs Q s e rl q⟩
theorem gok_unl {gs : TGs} {is : List Nat} {ds : List D} {n : Nat} (hn : ds.length = n) (h : GsOk C gs is ds ρ ρ1) : GOk C (gUnl K n gs) is (.lst ds) ρ ρ1 := fun b H0 G H σ v Q s e r q => by
  obtain ⟨a, vs, rfl, hG, rl⟩ := r.lst_inv
  exact ⟨a, vs, rfl, SqL.of (s _ _ hG), by rw [rl.len]; exact hn, h b H0 G H σ vs Q s e rl q⟩
theorem run_asgG {is : List Nat} (h : Ev C te ρ d) (hg : GOk C g is d ρ ρ1) : Run C m (tAsg te g) ρ (.nx ρ1) := fun b G0 H0 G H σ Dn s e a =>
  h b H0 G H σ _ s.s e fun v G1 H1 s1 r1 => hg b H0 G1 H1 σ v _ s1.s (e.mono s1) r1 fun σ' e' _ => a σ' G1 H1 s1.g (s.trans s1.wide) e'
theorem run_par {i j : Nat} {tr : TA} {d1 d2 : D} (h : EvA C tr ρ [d1, d2]) : Run C m (tPar i j tr) ρ (.nx ((ρ.set i (.val d1)).set j (.val d2))) := fun b G0 H0 G H σ Dn s e a =>
  h b H0 G H σ _ s.s e fun vs G1 H1 s1 r1 => by
    cases r1 with
    | cons r1 r2 =>
      cases r2 with
      | cons r2 r3 =>
        cases r3
        exact ⟨_, _, rfl, a _ G1 H1 s1.g (s.trans s1.wide) (((e.mono s1).set (s := .val d1) ⟨_, rfl, r1⟩ i).set (s := .val d2) ⟨_, rfl, r2⟩ j)⟩

/-! ### loops -/
inductive LoopR (C : Addr) (m : Bool) (g : TG) (tb : TS) : List D → List S → Out → Prop
  | nil {ρ ρ' : List S} : Fgt ρ ρ' → LoopR C m g tb [] ρ (.nx ρ')
  | go {d : D} {ds : List D} {ρ ρa ρ1 ρ2 : List S} {out : Out} {is : List Nat} : Fgt ρ ρa → GOk C g is d ρa ρ1 → Run C m tb ρ1 (.nx ρ2) → LoopR C m g tb ds ρ2 out → LoopR C m g tb (d :: ds) ρ out
  | rt {d : D} {ds : List D} {ρ ρa ρ1 : List S} {r : D} {w : Option Bs} {is : List Nat} : Fgt ρ ρa → GOk C g is d ρa ρ1 → Run C m tb ρ1 (.rt r w) → LoopR C m g tb (d :: ds) ρ (.rt r w)
theorem drop_of {α : Type} {l : List α} {i : Nat} {x : α} (h : l[i]? = some x) : l.drop i = x :: l.drop (i + 1) := by
  obtain ⟨hlt, hh⟩ := List.getElem?_eq_some_iff.mp h
  rw [← hh]
  exact List.drop_eq_getElem_cons hlt
/-- one turn -/
theorem loop_turn {tb : TS} {i : Nat} {b : Addr} {G0 H0 G1 : Hp} {ds : List D} {dd : D} {v : V} {Dn : Ends} {N B : L2.St → Hp → Prop} (hi : ds[i]? = some dd)
    (hN : ∀ σ' H', (∃ G' ρ', Stp (xo m b) G0 H0 G' H' ∧ Same G1 G' ∧ EnvOk C b H0 G' H' σ' ρ' ∧ LoopR C m g tb (ds.drop (i + 1)) ρ' out) → N σ' H') {σ : L2.St} {G H : Hp} (s : Stp (xo m b) G0 H0 G H) (k : Same G1 G) (e : EnvOk C b H0 G H σ ρ) (L : LoopR C m g tb (ds.drop i) ρ out)
    (rv : Rep G v dd) (a : Aft C b (xo m b) G0 H0 G1 Dn out) : g v σ H fun σ2 H2 => tb { Dn with nx := N, ct := N, bk := B } σ2 H2 := by
  rw [drop_of hi] at L
  cases L with
  | go f hg hr L' =>
    refine hg b H0 G H σ v _ s.s (e.fgt f) rv fun σ' e' _ => ?_
    exact hr b G0 H0 G H σ' _ s e' fun σ2 G2 H2 k2 s2 e2 => hN σ2 H2 ⟨G2, _, s2, k.trans k2, e2, L'⟩
  | rt f hg hr =>
    refine hg b H0 G H σ v _ s.s (e.fgt f) rv fun σ' e' _ => ?_
    exact hr b G0 H0 G H σ' _ s e' (a.up k)
theorem run_for {tb : TS} {tl : TE} {ds : List D} (hl : Ev C tl ρ (.lst ds)) (L : LoopR C m g tb ds ρ out) : Run C m (tFor (iList K tl) g tb) ρ out := fun b G0 H0 G H σ Dn s e a =>
  hl b H0 G H σ _ s.s e fun v G1 H1 s1 r1 => by
    obtain ⟨l, us, rfl, hG, rl⟩ := r1.lst_inv
    refine ⟨l, rfl, ⟨us, SqL.of (s1.s _ _ hG)⟩, for_list (xs := us) (fun i σ' H' => ∃ G' ρ', Stp (xo m b) G0 H0 G' H' ∧ Same G1 G' ∧ EnvOk C b H0 G' H' σ' ρ' ∧ LoopR C m g tb (ds.drop i) ρ' out) ⟨G1, ρ, s.trans s1.wide, Same.refl _, e.mono s1, L⟩ ?_ ?_ ?_⟩
    · rintro i σ' H' _ ⟨G', ρ', s', k', _, _⟩
      exact SqL.of (s'.s _ _ (k' _ _ hG))
    · rintro i x σ' H' hx ⟨G', ρ', s', k', e', L'⟩
      obtain ⟨dd, hd, rd⟩ := rl.getV hx
      exact loop_turn hd (fun σ2 H2 z => z) s' k' e' L' (rd.mono k') (a.up s1.g)
    · rintro σ' H' ⟨G', ρ', s', k', e', L'⟩
      rw [rl.len, List.drop_length] at L'
      cases L' with
      | nil f => exact a σ' G' H' (s1.g.trans k') s' (e'.fgt f)
theorem run_rng {tb : TS} {b : Addr} {G0 H0 G H G1 : Hp} {σ : L2.St} {Dn : Ends} {lo : Int} {n : Nat} (s : Stp (xo m b) G0 H0 G H) (k : Same G1 G) (e : EnvOk C b H0 G H σ ρ) (L : LoopR C m g tb ((List.range n).map fun k => .int (lo + (k : Nat))) ρ out) (a : Aft C b (xo m b) G0 H0 G1 Dn out) :
    ∃ W : Nat → Nat → L2.St → Hp → Prop, (∃ m, W 0 m σ H) ∧ ∀ i m σ H, W i m σ H →
      ((Itr lo n).stop i H ∧ Dn.nx σ H) ∨ ((Itr lo n).go i H ∧ ∃ N : L2.St → Hp → Prop, (∀ σ' H', N σ' H' → ∃ m', m' < m ∧ W (i + 1) m' σ' H') ∧ ∀ x H', (Itr lo n).yld i H x H' → g x σ H' fun σ2 H2 => tb { Dn with nx := N, ct := N, bk := Dn.nx } σ2 H2) := by
  refine for_range (lo := lo) (n := n) (fun i σ' H' => ∃ G' ρ', Stp (xo m b) G0 H0 G' H' ∧ Same G1 G' ∧ EnvOk C b H0 G' H' σ' ρ' ∧ LoopR C m g tb (((List.range n).map fun k => D.int (lo + (k : Nat))).drop i) ρ' out) ⟨G, ρ, s, k, e, L⟩ ?_ ?_
  · rintro i σ' H' hx ⟨G', ρ', s', k', e', L'⟩
    have hd : ((List.range n).map fun k => D.int (lo + (k : Nat)))[i]? = some (.int (lo + (i : Nat))) := by
      rw [List.getElem?_map, List.getElem?_range hx]
      rfl
    exact loop_turn hd (fun σ2 H2 z => z) s' k' e' L' (.int _) a
  · rintro σ' H' ⟨G', ρ', s', k', e', L'⟩
    rw [List.drop_of_length_le (by simp)] at L'
    cases L' with
    | nil f => exact a σ' G' H' k' s' (e'.fgt f)
theorem run_forR1 {tb : TS} {tr : TA} {n : Int} (h : EvA C tr ρ [.int n]) (hn : -(2 ^ 62) ≤ n ∧ n < 2 ^ 62) (L : LoopR C m g tb ((List.range n.toNat).map fun k => .int (0 + (k : Nat))) ρ out) : Run C m (tFor (iRng1 tr) g tb) ρ out := fun b G0 H0 G H σ Dn s e a =>
  h b H0 G H σ _ s.s e fun vs G1 H1 s1 r1 => by
    cases r1 with
    | cons r1 r2 =>
      cases r2
      exact ⟨n, by rw [r1.int_inv], hn.1, hn.2, run_rng (s.trans s1.wide) (Same.refl _) (e.mono s1) L (a.up s1.g)⟩
theorem run_forR2 {tb : TS} {tr : TA} {i j : Int} (h : EvA C tr ρ [.int i, .int j]) (hn : -(2 ^ 62) ≤ i ∧ i < 2 ^ 62 ∧ -(2 ^ 62) ≤ j ∧ j < 2 ^ 62) (L : LoopR C m g tb ((List.range (j - i).toNat).map fun k => .int (i + (k : Nat))) ρ out) : Run C m (tFor (iRng2 tr) g tb) ρ out := fun b G0 H0 G H σ Dn s e a =>
  h b H0 G H σ _ s.s e fun vs G1 H1 s1 r1 => by
    cases r1 with
    | cons r1 r2 =>
      cases r2 with
      | cons r2 r3 =>
        cases r3
        exact ⟨i, j, by rw [r1.int_inv, r2.int_inv], hn, run_rng (s.trans s1.wide) (Same.refl _) (e.mono s1) L (a.up s1.g)⟩
/-- a loop as a fold: st says the slots by the state -/
theorem loop_fold {α β : Type} {tb : TS} (F : α → β → α) (enc : β → D) (st : α → List S) (l : List β) (a0 : α)
    (hs : ∀ pre x post, l = pre ++ x :: post → ∃ ρ1 ρ2 is, GOk C g is (enc x) (st (pre.foldl F a0)) ρ1 ∧ Run C m tb ρ1 (.nx ρ2) ∧ Fgt ρ2 (st (F (pre.foldl F a0) x))) : LoopR C m g tb (l.map enc) (st a0) (.nx (st (l.foldl F a0))) := by
  have key : ∀ (post pre : List β), l = pre ++ post → ∀ ρ, Fgt ρ (st (pre.foldl F a0)) → LoopR C m g tb (post.map enc) ρ (.nx (st (l.foldl F a0))) := by
    intro post
    induction post with
    | nil =>
      intro pre h ρ f
      rw [List.append_nil] at h
      rw [h]
      exact .nil f
    | cons x post ih =>
      intro pre h ρ f
      obtain ⟨ρ1, ρ2, is, hg, hr, hf⟩ := hs pre x post h
      refine .go f hg hr (ih (pre ++ [x]) (by rw [h, List.append_assoc] <;> rfl) ρ2 ?_)
      rw [List.foldl_append]
      exact hf
  exact key l [] rfl _ (Fgt.refl _)
/-- a search: the state stands; f says what is returned -/
theorem loop_find {β : Type} {tb : TS} (enc : β → D) (st : List S) (f : β → Option D) (l : List β)
    (hs : ∀ x ∈ l, ∃ ρ1 is, GOk C g is (enc x) st ρ1 ∧ (f x = none → ∃ ρ2, Run C m tb ρ1 (.nx ρ2) ∧ Fgt ρ2 st) ∧ ∀ r, f x = some r → Run C m tb ρ1 (.rt r none)) : LoopR C m g tb (l.map enc) st (match l.findSome? f with | none => .nx st | some r => .rt r none) := by
  have key : ∀ (l : List β), (∀ x ∈ l, ∃ ρ1 is, GOk C g is (enc x) st ρ1 ∧ (f x = none → ∃ ρ2, Run C m tb ρ1 (.nx ρ2) ∧ Fgt ρ2 st) ∧ ∀ r, f x = some r → Run C m tb ρ1 (.rt r none)) → ∀ ρ, Fgt ρ st → LoopR C m g tb (l.map enc) ρ (match l.findSome? f with | none => .nx st | some r => .rt r none) := by
    intro l
    induction l with
    | nil => exact fun _ ρ h => .nil h
    | cons x l ih =>
      intro hs ρ h
      obtain ⟨ρ1, is, hg, h1, h2⟩ := hs x (List.mem_cons_self ..)
      cases e : f x with
      | none =>
        obtain ⟨ρ2, hr, hf⟩ := h1 e
        rw [List.findSome?_cons, e]
        exact .go h hg hr (ih (fun y hy => hs y (List.mem_cons_of_mem _ hy)) ρ2 hf)
      | some r =>
        rw [List.findSome?_cons, e]
        exact .rt h hg (h2 r e)
  exact key l hs _ (Fgt.refl _)
inductive WLoopR (C : Addr) (m : Bool) (c : TT) (tb : TS) : Nat → List S → Out → Prop
  | stop {n : Nat} {ρ ρa ρ' : List S} : Fgt ρ ρa → EvT C c ρa false → Fgt ρa ρ' → WLoopR C m c tb n ρ (.nx ρ')
  | go {n : Nat} {ρ ρa ρ2 : List S} {out : Out} : Fgt ρ ρa → EvT C c ρa true → Run C m tb ρa (.nx ρ2) → WLoopR C m c tb n ρ2 out → WLoopR C m c tb (n + 1) ρ out
theorem run_while {c : TT} {tb : TS} {n : Nat} (L : WLoopR C m c tb n ρ out) : Run C m (tWhile c tb) ρ out := fun b G0 H0 G H σ Dn s e a => by
  refine ⟨fun k σ' H' => ∃ G' ρ', Stp (xo m b) G0 H0 G' H' ∧ Same G G' ∧ EnvOk C b H0 G' H' σ' ρ' ∧ WLoopR C m c tb k ρ' out, ⟨n, G, ρ, s, Same.refl _, e, L⟩, ?_⟩
  rintro k σ' H' ⟨G', ρ', s', k', e', L'⟩
  cases L' with
  | stop f hc f2 => exact hc b H0 G' H' σ' _ s'.s (e'.fgt f) fun G1 H1 s1 => iteF (a σ' G1 H1 (k'.trans s1.g) (s'.trans s1.wide) (((e'.fgt f).mono s1).fgt f2))
  | go f hc hr L2 =>
    refine hc b H0 G' H' σ' _ s'.s (e'.fgt f) fun G1 H1 s1 => iteT ⟨_, fun σ2 H2 z => z, ?_⟩
    exact hr b G0 H0 G1 H1 σ' _ (s'.trans s1.wide) ((e'.fgt f).mono s1) fun σ2 G2 H2 k2 s2 e2 => ⟨_, Nat.lt_succ_self _, G2, _, s2, (k'.trans s1.g).trans k2, e2, L2⟩

/-- a while that goes down a list -/
theorem wloop_list {α : Type} {c : TT} {tb : TS} (l : List α) (st : List α → List S) (fin : List S) (hs : ∀ pre x post, l = pre ++ x :: post → ∃ ρ2, EvT C c (st pre) true ∧ Run C m tb (st pre) (.nx ρ2) ∧ Fgt ρ2 (st (pre ++ [x]))) (he : EvT C c (st l) false) (hf : Fgt (st l) fin) :
    WLoopR C m c tb l.length (st []) (.nx fin) := by
  have key : ∀ (post pre : List α), l = pre ++ post → ∀ ρ, Fgt ρ (st pre) → WLoopR C m c tb post.length ρ (.nx fin) := by
    intro post
    induction post with
    | nil =>
      intro pre h ρ f
      rw [List.append_nil] at h
      subst h
      exact .stop f he hf
    | cons x post ih =>
      intro pre h ρ f
      obtain ⟨ρ2, h1, h2, h3⟩ := hs pre x post h
      exact .go f h1 h2 (ih (pre ++ [x]) (by rw [h, List.append_assoc] <;> rfl) ρ2 h3)
  exact key l [] rfl _ (Fgt.refl _)

/-! ### comprehensions -/
def wipeS (ρ : List S) : List Nat → List S
  | [] => ρ
  | v :: vs => (wipeS ρ vs).set v .no
theorem EnvOk.wipe {b : Addr} {H0 G H : Hp} {σ : L2.St} (e : EnvOk C b H0 G H σ ρ) : ∀ vs : List Nat, EnvOk C b H0 G H (wipe σ vs) (wipeS ρ vs)
  | [] => e
  | v :: vs => (e.wipe vs).set (s := .no) True.intro v
theorem wipe_in {σ : L2.St} {j : Nat} : ∀ {vs : List Nat}, j ∈ vs → (L2.wipe σ vs)[j]? = if j < σ.length then some none else none
  | v :: vs, h => by
    unfold L2.wipe
    by_cases hv : v = j
    · subst hv
      by_cases hl : v < σ.length
      · rw [List.getElem?_set_self (by rw [wipe_length]; exact hl), if_pos hl]
      · rw [if_neg hl]
        exact List.getElem?_eq_none (by rw [List.length_set, wipe_length]; omega)
    · rw [List.getElem?_set_ne hv]
      exact wipe_in (by
        rcases List.mem_cons.mp h with z | z
        · exact absurd z.symm hv
        · exact z)
theorem wipe_keep {σ σ2 : L2.St} {vs is : List Nat} (o : Only is (L2.wipe σ vs) σ2) (h : ∀ j ∈ is, j ∈ vs) : L2.wipe σ2 vs = L2.wipe σ vs := by
  have hl : σ2.length = σ.length := o.1.trans (wipe_length σ vs)
  refine List.ext_getElem? fun j => ?_
  by_cases hj : j ∈ vs
  · rw [wipe_in hj, wipe_in hj, hl]
  · rw [wipe_out hj]
    exact o.2 j fun z => hj (h j z)
/-- what stands behind i turns of a comprehension: the new list at q -/
def LcAt (G1 H1 : Hp) (q : Addr) (ds : List D) (H' : Hp) : Prop := ∃ G' vs', Stp none G1 H1 G' H' ∧ H' q = some (.lst vs') ∧ G' q = none ∧ RepL G' vs' ds
theorem lc_turn {α : Type} {tt : TT} {te' : TE} {vs is : List Nat} {b q : Addr} {H0 G1 H1 H' : Hp} {σ : L2.St} {l : List α} {i : Nat} {x : α} {p : α → Bool} {f : α → D} {v : V} {dx : D} (hx : l[i]? = some x) (hz : l.length ≤ sizeLine) (hq : H1 q = none) (e : EnvOk C b H0 G1 H1 σ ρ)
    (his : ∀ j ∈ is, j ∈ vs) (hg : GOk C g is dx (wipeS ρ vs) ρ1) (ht : EvT C tt ρ1 (p x)) (he : p x = true → Ev C te' ρ1 (f x)) (hP : LcAt G1 H1 q (((l.take i).filter p).map f) H') (rv : Rep G1 v dx) :
    g v (L2.wipe σ vs) H' fun σ2 H2 => L2.wipe σ2 vs = L2.wipe σ vs ∧ tt σ2 H2 fun b H3 => if b = true then te' σ2 H3 fun y H4 => ∃ acc, H4 q = some (.lst acc) ∧ acc.length < sizeLine ∧ LcAt G1 H1 q (((l.take (i + 1)).filter p).map f) (upd H4 q (.lst (acc ++ [y]))) else LcAt G1 H1 q (((l.take (i + 1)).filter p).map f) H3 := by
  obtain ⟨G', vs', s', h1, h2, rl⟩ := hP
  have hlt : i < l.length := (List.getElem?_eq_some_iff.mp hx).1
  have et : l.take (i + 1) = l.take i ++ [x] := by
    rw [List.take_add_one, hx]
    rfl
  refine hg b H0 G' H' _ v _ s'.s ((e.wipe vs).mono s') (rv.mono s'.g) fun σ2 e2 o2 => ⟨wipe_keep o2 his, ?_⟩
  refine ht b H0 G' H' σ2 _ s'.s e2 fun G3 H3 s3 => ?_
  have c1 := s3.same _ _ h1
  have c2 := s3.f _ _ h1 h2
  cases hp : p x with
  | true =>
    refine iteT (he hp b H0 G3 H3 σ2 _ s3.s (e2.mono s3) fun v4 G4 H4 s4 r4 => ?_)
    have d1 := s4.same _ _ c1
    have d2 := s4.f _ _ c1 c2
    have lm : (((l.take i).filter p).map f).length ≤ i := by
      rw [List.length_map]
      refine Nat.le_trans (List.length_filter_le _ _) ?_
      rw [List.length_take]
      omega
    refine ⟨vs', d1, by rw [rl.len]; omega, G4, vs' ++ [v4], (((s'.trans s3).trans s4).mut (.inr hq) d2), upd_same, d2, ?_⟩
    rw [et, List.filter_append, List.map_append, List.filter_cons_of_pos hp]
    exact (rl.mono (s3.trans s4).g).append (.cons r4 .nil)
  | false =>
    refine iteF ⟨G3, vs', s'.trans s3, c1, c2, ?_⟩
    rw [et, List.filter_append, List.map_append, List.filter_cons_of_neg (by rw [hp]; decide)]
    show RepL G3 vs' (_ ++ [])
    rw [List.append_nil]
    exact rl.mono s3.g
theorem lc_done {H1 G1 H' : Hp} {q : Addr} {ds : List D} {Q : VK} (hq : H1 q = none) (hP : LcAt G1 H1 q ds H') (k : ∀ v G' H', Stp none G1 H1 G' H' → Rep G' v (.lst ds) → Q v H') : Q (.ref q) H' := by
  obtain ⟨G', vs', s', h1, h2, rl⟩ := hP
  exact k _ _ _ (s'.giv hq h2 h1) (.lst upd_same (rl.mono (same_new h2)))
/-- [te for g in l if tt] -/
theorem ev_lc {α : Type} {tl te' : TE} {tt : TT} {vs : List Nat} (l : List α) (enc : α → D) (p : α → Bool) (f : α → D) (hl : Ev C tl ρ (.lst (l.map enc))) (hz : l.length ≤ sizeLine)
    (hs : ∀ x ∈ l, ∃ ρ1 is, (∀ j ∈ is, j ∈ vs) ∧ GOk C g is (enc x) (wipeS ρ vs) ρ1 ∧ EvT C tt ρ1 (p x) ∧ (p x = true → Ev C te' ρ1 (f x))) : Ev C (tLc (iList K tl) g tt te' vs) ρ (.lst ((l.filter p).map f)) := fun b H0 G H σ Q s e k =>
  hl b H0 G H σ _ s e fun v G1 H1 s1 r1 => by
    obtain ⟨a, us, rfl, hG, rl⟩ := r1.lst_inv
    refine ⟨a, rfl, ⟨us, SqL.of (s1.s _ _ hG)⟩, fun q hq => lc_list (xs := us) (fun i H' => LcAt G1 H1 q (((l.take i).filter p).map f) H') ⟨G1, [], Stp.newH s1.s hq, upd_same, s1.s.free hq, .nil⟩ ?_ ?_ ?_⟩
    · rintro i H' _ ⟨G', vs', s', _⟩
      exact SqL.of (s'.s _ _ (s'.g _ _ hG))
    · intro i v H' hi hP
      obtain ⟨d, hd, rd⟩ := rl.getV hi
      rw [List.getElem?_map] at hd
      cases hx : l[i]? with
      | none =>
        rw [hx] at hd
        cases hd
      | some x =>
        rw [hx] at hd
        obtain rfl : enc x = d := Option.some.inj hd
        obtain ⟨ρ1, is, h1, h2, h3, h4⟩ := hs x (List.mem_of_getElem? hx)
        exact lc_turn hx hz hq (e.mono s1) h1 h2 h3 h4 hP rd
    · intro H' hP
      have hn : us.length = l.length := by rw [rl.len, List.length_map]
      rw [hn, List.take_length] at hP
      exact lc_done hq hP fun v G' H' s' r' => k v G' H' (s1.trans s') r'
/-- [te for g in l], what is made told by h and then e -/
theorem ev_lcM {α β : Type} {tl te' : TE} {vs : List Nat} (l : List α) (enc : α → D) (h : α → β) (e : β → D) (hl : Ev C tl ρ (.lst (l.map enc))) (hz : l.length ≤ sizeLine)
    (hs : ∀ x ∈ l, ∃ ρ1 is, (∀ j ∈ is, j ∈ vs) ∧ GOk C g is (enc x) (wipeS ρ vs) ρ1 ∧ Ev C te' ρ1 (e (h x))) : Ev C (tLc (iList K tl) g tYes te' vs) ρ (.lst ((l.map h).map e)) := by
  have z := ev_lc (K := K) (g := g) (tt := tYes) (te' := te') (vs := vs) l enc (fun _ => true) (fun x => e (h x)) hl hz fun x hx => by
    obtain ⟨ρ1, is, h1, h2, h3⟩ := hs x hx
    exact ⟨ρ1, is, h1, h2, et_yes, fun _ => h3⟩
  rw [List.filter_eq_self.mpr (fun _ _ => rfl)] at z
  rw [List.map_map]
  exact z
/-- [te for g in range(i, j)] -/
theorem ev_lcR {tr : TA} {te' : TE} {vs : List Nat} {i j : Int} (f : Int → D) (hl : EvA C tr ρ [.int i, .int j]) (hn : -(2 ^ 62) ≤ i ∧ i < 2 ^ 62 ∧ -(2 ^ 62) ≤ j ∧ j < 2 ^ 62) (hz : (j - i).toNat ≤ sizeLine)
    (hs : ∀ x : Int, i ≤ x → x < j → ∃ ρ1 is, (∀ j ∈ is, j ∈ vs) ∧ GOk C g is (.int x) (wipeS ρ vs) ρ1 ∧ Ev C te' ρ1 (f x)) : Ev C (tLc (iRng2 tr) g tYes te' vs) ρ (.lst (((List.range (j - i).toNat).map fun k => i + (k : Nat)).map f)) := fun b H0 G H σ Q s e k =>
  hl b H0 G H σ _ s e fun us G1 H1 s1 r1 => by
    cases r1 with
    | cons r1 r2 =>
      cases r2 with
      | cons r2 r3 =>
        cases r3
        refine ⟨i, j, by rw [r1.int_inv, r2.int_inv], hn, fun q hq => lc_range (lo := i) (n := (j - i).toNat) (fun t H' => LcAt G1 H1 q (((((List.range (j - i).toNat).map fun k => i + (k : Nat)).take t).filter fun _ => true).map f) H') ⟨G1, [], Stp.newH s1.s hq, upd_same, s1.s.free hq, .nil⟩ ?_ ?_⟩
        · intro t H' ht hP
          obtain ⟨ρ1, is, h1, h2, h3⟩ := hs (i + (t : Nat)) (by omega) (by omega)
          have hx : ((List.range (j - i).toNat).map fun k => i + ((k : Nat) : Int))[t]? = some (i + (t : Nat)) := by
            rw [List.getElem?_map, List.getElem?_range ht]
            rfl
          exact lc_turn (p := fun _ => true) (dx := .int (i + (t : Nat))) hx (by simpa using hz) hq (e.mono s1) h1 h2 et_yes (fun _ => h3) hP (.int _)
        · intro H' hP
          have hn2 : (j - i).toNat = ((List.range (j - i).toNat).map fun k => i + ((k : Nat) : Int)).length := by simp
          have e2 : (((List.range (j - i).toNat).map fun k => i + ((k : Nat) : Int)).take (j - i).toNat).filter (fun _ => true) = (List.range (j - i).toNat).map fun k => i + ((k : Nat) : Int) := by
            rw [List.take_of_length_le (by simp), List.filter_eq_self.mpr (fun _ _ => rfl)]
          have hP' : LcAt G1 H1 q (((List.range (j - i).toNat).map fun k => i + ((k : Nat) : Int)).map f) H' := by
            have z := hP
            simp only [e2] at z
            exact z
          exact lc_done hq hP' fun v G' H' s' r' => k v G' H' (s1.trans s') r'

/-! ### fields stored; calls that take the bench -/
def noBen : List S → Bool
  | [] => true
  | .ben _ _ _ :: _ => false
  | _ :: r => noBen r
theorem EnvOk.offB {b : Addr} {H0 G H H' : Hp} {dx : Addr} {fs : List (Str × V)} (hb : H b = some (.ins C dx fs)) (k : ∀ a o, a ≠ b → H a = some o → H' a = some o) : ∀ {σ : L2.St} {ρ : List S}, noBen ρ = true → EnvOk C b H0 G H σ ρ → EnvOk C b H0 G H' σ ρ
  | _, _, _, .nil => .nil
  | _, .no :: _, n, .cons _ t => .cons True.intro (t.offB hb k n)
  | _, .val _ :: _, n, .cons x t => .cons x (t.offB hb k n)
  | _, .rd _ :: _, n, .cons x t => .cons x (t.offB hb k n)
  | _, .ben _ _ _ :: _, n, .cons _ _ => nomatch (show false = true from n)
  | _, .own _ :: _, n, .cons x t => .cons (by
      obtain ⟨p, vs, e, h0, g, h1, h2⟩ := x
      exact ⟨p, vs, e, h0, g, k _ _ (ne_of h1 hb fun z => nomatch z) h1, h2⟩) (t.offB hb k n)
/-- the bench changes -/
theorem EnvOk.chgB {b : Addr} {H0 G H H' : Hp} {σ : L2.St} {i : Nat} {dx : Addr} {fs : List (Str × V)} {t' : Bool} {ps' ma' : D} (e : EnvOk C b H0 G H σ ρ) (ho : σ[i]? = some (some (.ref b))) (hn : noBen (ρ.set i .no) = true) (hb : H b = some (.ins C dx fs)) (k : ∀ a o, a ≠ b → H a = some o → H' a = some o)
    (w : BenAt C b G H' t' ps' ma') : EnvOk C b H0 G H' σ (ρ.set i (.ben t' ps' ma')) := by
  have e2 : EnvOk C b H0 G H' (σ.set i none) (ρ.set i .no) := EnvOk.offB hb k hn (EnvOk.set (s := .no) (o := none) True.intro i e)
  have e3 := EnvOk.set (C := C) (b := b) (s := .ben t' ps' ma') (o := some (.ref b)) (show SlotOk C b H0 G H' _ _ from ⟨rfl, w⟩) i e2
  rw [List.set_set, List.set_set, set_back ho] at e3
  exact e3
theorem run_setF {i : Nat} {f : Str} {t t' : Bool} {ps ma ps' ma' : D} (hi : ρ[i]? = some (.ben t ps ma)) (hn : noBen (ρ.set i .no) = true) (cl : Cls K C) (n : NoAttr K C f) (h : Ev C te ρ d)
    (hw : ∀ (G : Hp) (v vp vm : V), Rep G v d → Rep G vp ps → Rep G vm ma → ∃ vp' vm', putF f v (bF (.bl t) vp vm) = bF (.bl t') vp' vm' ∧ Rep G vp' ps' ∧ Rep G vm' ma') : Run C true (sFld K (tVar i) te f) ρ (.nx (ρ.set i (.ben t' ps' ma'))) := fun b G0 H0 G H σ Dn s e a =>
  h b H0 G H σ _ s.s e fun v G1 H1 s1 r1 => by
    obtain ⟨o, ho, rfl, g, dx, vp, vm, hb, r2, r3⟩ := (e.mono s1).get hi
    obtain ⟨vp', vm', ep, q1, q2⟩ := hw G1 v vp vm r1 r2 r3
    refine ⟨_, ho, b, C, dx, _, rfl, hb, cl, n, (by show 3 < 1000; decide), ?_⟩
    rw [ep]
    refine a _ G1 _ s1.g ((s.trans s1.wide).mut (.inl rfl) g) ((e.mono s1).chgB ho hn hb (fun c o hc z => by rw [upd_ne hc]; exact z) ⟨g, dx, vp', vm', upd_same, q1, q2⟩)
theorem putF_ne {f g : Str} {v x : V} {r : List (Str × V)} (h : ¬ g = f) : putF f v ((g, x) :: r) = (g, x) :: putF f v r := if_neg h
theorem putF_eq {f : Str} {v x : V} {r : List (Str × V)} : putF f v ((f, x) :: r) = (f, v) :: r := if_pos rfl
theorem bF_there {v x vp vm : V} : putF "is_there" v (bF x vp vm) = bF v vp vm := putF_eq
theorem bF_products {v x vp vm : V} : putF "products" v (bF x vp vm) = bF x v vm := (putF_ne (show ¬ (("is_there" : Str) = "products") by decide +kernel)).trans (congrArg _ putF_eq)
theorem bF_machine {v x vp vm : V} : putF "machine" v (bF x vp vm) = bF x vp v := (putF_ne (show ¬ (("is_there" : Str) = "machine") by decide +kernel)).trans (congrArg _ ((putF_ne (show ¬ (("products" : Str) = "machine") by decide +kernel)).trans (congrArg _ putF_eq)))
theorem run_setThere {i : Nat} {t : Bool} {t' : Bool} {ps ma : D} (hi : ρ[i]? = some (.ben t ps ma)) (hn : noBen (ρ.set i .no) = true) (cl : Cls K C) (n : NoAttr K C "is_there") (h : Ev C te ρ (.bl t')) : Run C true (sFld K (tVar i) te "is_there") ρ (.nx (ρ.set i (.ben t' ps ma))) :=
  run_setF hi hn cl n h fun G v vp vm r1 r2 r3 => ⟨vp, vm, by rw [r1.bl_inv]; exact bF_there, r2, r3⟩
theorem run_setProducts {i : Nat} {t : Bool} {ps ma : D} (hi : ρ[i]? = some (.ben t ps ma)) (hn : noBen (ρ.set i .no) = true) (cl : Cls K C) (n : NoAttr K C "products") (h : Ev C te ρ d) : Run C true (sFld K (tVar i) te "products") ρ (.nx (ρ.set i (.ben t d ma))) :=
  run_setF hi hn cl n h fun G v vp vm r1 r2 r3 => ⟨v, vm, bF_products, r1, r3⟩
theorem run_setMachine {i : Nat} {t : Bool} {ps ma : D} (hi : ρ[i]? = some (.ben t ps ma)) (hn : noBen (ρ.set i .no) = true) (cl : Cls K C) (n : NoAttr K C "machine") (h : Ev C te ρ d) : Run C true (sFld K (tVar i) te "machine") ρ (.nx (ρ.set i (.ben t ps d))) :=
  run_setF hi hn cl n h fun G v vp vm r1 r2 r3 => ⟨vp, v, bF_machine, r2, r1⟩
/-- f(bench, ..), whatever comes behind -/
theorem call_ben {i : Nat} {t : Bool} {ps ma : D} {tr : TA} {ds : List D} {R : Bs → List D → Bs → D → Prop} {w' : Bs} {E : XK} (hi : ρ[i]? = some (.ben t ps ma)) (hn : noBen (ρ.set i .no) = true) (h : EvA C tr ρ ds) (hR : R ⟨t, ps, ma⟩ ds w' d) {b : Addr} {G0 H0 G H : Hp} {σ : L2.St} {Q : VK}
    (s : Stp (some b) G0 H0 G H) (e : EnvOk C b H0 G H σ ρ) (k : ∀ v G' H', Same G G' → Stp (some b) G0 H0 G' H' → EnvOk C b H0 G' H' σ (ρ.set i (.ben w'.t w'.ps w'.ma)) → Rep G' v d → Q v H') : tCall (SpB C R) [] E (tCons (tVar i) tr) σ H Q := by
  obtain ⟨o, ho, rfl, _⟩ := e.get hi
  refine ⟨_, ho, h b H0 G H σ _ s.s e fun vs G1 H1 s1 r1 => ?_⟩
  show SpB C R ((V.ref b :: vs) ++ []) H1 Q E
  rw [List.append_nil]
  obtain ⟨o, _, _, w⟩ := (e.mono s1).get hi
  refine ⟨G1, b, vs, ds, ⟨t, ps, ma⟩, w', d, rfl, s1.s, w, r1, hR, fun v G2 H2 s2 w2 r2 => ?_⟩
  refine k v G2 H2 (s1.g.trans s2.g) ((s.trans s1.wide).trans s2) ?_ r2
  obtain ⟨gb, dx, vp, vm, hb, _, _⟩ := w
  -- the slots behind the call
  have e1 := e.mono s1
  have hs : ∀ a o, a ≠ b → H1 a = some o → H2 a = some o := fun a o ha z => s2.h a o (fun q => ha (Option.some.inj q)) z
  have e2 : EnvOk C b H0 G2 H2 (σ.set i none) (ρ.set i .no) := by
    have q : EnvOk C b H0 G1 H1 (σ.set i none) (ρ.set i .no) := EnvOk.set (s := .no) (o := none) True.intro i e1
    clear e e1 h hi ho
    generalize σ.set i none = σ0 at q
    generalize ρ.set i .no = ρ0 at q hn
    induction q with
    | nil => exact .nil
    | @cons o sl σr ρr x t ih =>
      cases sl with
      | no => exact .cons True.intro (ih hn)
      | val dd =>
        obtain ⟨v, ev, rv⟩ := x
        exact .cons ⟨v, ev, rv.mono s2.g⟩ (ih hn)
      | own dd =>
        obtain ⟨p, us, ep, h0, g, h1, h2⟩ := x
        exact .cons ⟨p, us, ep, h0, s2.f _ _ h1 g, hs _ _ (ne_of h1 hb fun z => nomatch z) h1, h2.mono s2.g⟩ (ih hn)
      | ben => exact nomatch (show false = true from hn)
      | rd φ =>
        obtain ⟨v, ev, rv⟩ := x
        exact .cons ⟨v, ev, fun G' k => rv G' (s2.g.trans k)⟩ (ih hn)
  have e3 := EnvOk.set (C := C) (b := b) (s := .ben w'.t w'.ps w'.ma) (o := some (.ref b)) (show SlotOk C b H0 G2 H2 _ _ from ⟨rfl, w2⟩) i e2
  rw [List.set_set, List.set_set, set_back ho] at e3
  exact e3
theorem run_retCall {i : Nat} {t : Bool} {ps ma : D} {tr : TA} {ds : List D} {R : Bs → List D → Bs → D → Prop} {w' : Bs} {E : XK} (hi : ρ[i]? = some (.ben t ps ma)) (hn : noBen (ρ.set i .no) = true) (h : EvA C tr ρ ds) (hR : R ⟨t, ps, ma⟩ ds w' d) :
    Run C true (tRet (tCall (SpB C R) [] E (tCons (tVar i) tr))) ρ (.rt d (some w')) := fun b G0 H0 G H σ Dn s e a =>
  call_ben hi hn h hR s e fun v G' H' k' s' e' r' => by
    have hlt : i < ρ.length := (List.getElem?_eq_some_iff.mp hi).1
    obtain ⟨o, _, _, w⟩ := e'.get (i := i) (List.getElem?_set_self hlt)
    exact a v G' H' k' s' w r'
theorem run_asgCall {i j : Nat} {t : Bool} {ps ma : D} {tr : TA} {ds : List D} {R : Bs → List D → Bs → D → Prop} {w' : Bs} {E : XK} (hi : ρ[i]? = some (.ben t ps ma)) (hn : noBen (ρ.set i .no) = true) (h : EvA C tr ρ ds) (hR : R ⟨t, ps, ma⟩ ds w' d) :
    Run C true (tAsg (tCall (SpB C R) [] E (tCons (tVar i) tr)) (gName j)) ρ (.nx ((ρ.set i (.ben w'.t w'.ps w'.ma)).set j (.val d))) := fun b G0 H0 G H σ Dn s e a =>
  call_ben hi hn h hR s e fun v G' H' k' s' e' r' => a _ G' H' k' s' (e'.set (s := .val d) ⟨v, rfl, r'⟩ j)
end

/-! ### defs -/
section
variable {P : Program} {w : World} {K : PySem.W.Frag} {mg : Str → Option Value} {base : Heap}
theorem env_vals {C b : Addr} {H0 G H : Hp} : ∀ {vs : List V} {ds : List D}, RepL G vs ds → ∀ n, EnvOk C b H0 G H (vs.map some ++ List.replicate n none) (ds.map S.val ++ List.replicate n .no)
  | _, _, .nil, 0 => .nil
  | _, _, .nil, n + 1 => .cons True.intro (env_vals .nil n)
  | _, _, .cons r t, n => .cons ⟨_, rfl, r⟩ (env_vals t n)
/-- a def that only reads, by its body -/
theorem fn_pure {x qual : Str} {st : Stmt} {f : Addr} {fd : FuncData} {N ps : List Str} {k n : Nat} {R : List D → D → Prop} (F : Fun K x qual st f fd) (S' : FnScope N ps (defScope st)) (hn : N.length = ps.length + n) (hlen : ∀ ds d, R ds d → ds.length = ps.length)
    (hbody : ∀ (cdv : Value) (A : Around) (outer : List Env) (s : Shared) (H : Hp) (E : XK), Room k (A.deeper (envOfC qual (defScope st) s.heap.objs.size f cdv)) →
      ∃ t, PSs (cxOf CX0 P w K mg base N qual (defScope st) f cdv A outer s H E).nox (defBody st) t ∧ ∀ ds d, R ds d → Run 0 false t (ds.map S.val ++ List.replicate n .no) (.rt d none)) : FnOk P w K mg base CX0 (k + 1) f fd ps (SpP R) := by
  refine F.ok S' (fun vs H Q E h => ?_) (fun cdv A outer s H vs Q E hr h => ?_)
  · obtain ⟨G, ds, d, _, rl, hR, _⟩ := h
    rw [rl.len]
    exact hlen ds d hR
  · obtain ⟨t, h1, h2⟩ := hbody cdv A outer s H E hr
    obtain ⟨G, ds, d, sm, rl, hR, q⟩ := h
    refine ⟨t, h1, h2 ds d hR 0 G H G H (L2.start N vs) _ (Stp.refl sm) ?_ ?_⟩
    · have e : N.length - vs.length = n := by
        rw [rl.len, hlen ds d hR]
        omega
      unfold L2.start
      rw [e]
      exact env_vals rl n
    · exact fun v G' H' _ s' _ r' => q v G' H' s' r'
/-- a def of the bench, by its body -/
theorem fn_ben {C : Addr} {x qual : Str} {st : Stmt} {f : Addr} {fd : FuncData} {N ps : List Str} {k n : Nat} {R : Bs → List D → Bs → D → Prop} (F : Fun K x qual st f fd) (S' : FnScope N ps (defScope st)) (hn : N.length = ps.length + n) (hlen : ∀ w ds w' d, R w ds w' d → ds.length + 1 = ps.length)
    (hbody : ∀ (cdv : Value) (A : Around) (outer : List Env) (s : Shared) (H : Hp) (E : XK), Room k (A.deeper (envOfC qual (defScope st) s.heap.objs.size f cdv)) →
      ∃ t, PSs (cxOf CX0 P w K mg base N qual (defScope st) f cdv A outer s H E).nox (defBody st) t ∧ ∀ w ds w' d, R w ds w' d → Run C true t (.ben w.t w.ps w.ma :: (ds.map S.val ++ List.replicate n .no)) (.rt d (some w'))) : FnOk P w K mg base CX0 (k + 1) f fd ps (SpB C R) := by
  refine F.ok S' (fun vs H Q E h => ?_) (fun cdv A outer s H vs Q E hr h => ?_)
  · obtain ⟨G, b, vs', ds, w, w', d, rfl, _, _, rl, hR, _⟩ := h
    rw [List.length_cons, rl.len]
    exact hlen w ds w' d hR
  · obtain ⟨t, h1, h2⟩ := hbody cdv A outer s H E hr
    obtain ⟨G, b, vs', ds, w, w', d, rfl, sm, wb, rl, hR, q⟩ := h
    refine ⟨t, h1, h2 w ds w' d hR b G H G H (L2.start N (.ref b :: vs')) _ (Stp.refl sm) ?_ ?_⟩
    · have e : N.length - (V.ref b :: vs').length = n := by
        rw [List.length_cons, rl.len, hlen w ds w' d hR]
        omega
      unfold L2.start
      rw [e]
      exact .cons ⟨rfl, wb⟩ (env_vals rl n)
    · exact fun v G' H' _ s' w2 r' => q v G' H' s' w2 r'
/-- a def that may be called by its name -/
structure Cal (P : Program) (w : World) (K : PySem.W.Frag) (mg : Str → Option Value) (base : Heap) (k : Nat) (x : Str) (sp : Sp) : Prop where
  ex : ∃ (f : Addr) (fd : FuncData) (ps : List Str), FnOk P w K mg base CX0 k f fd ps sp ∧ mg x = some (.ref f) ∧ PySem.W.keepIn K (.ref f) = true ∧ Binds K fd ps []
/-- a def of the module as it stands behind the top -/
structure Df (K : PySem.W.Frag) (mg : Str → Option Value) (x : Str) (st : Stmt) : Prop where
  ex : ∃ (f : Addr) (fd : FuncData), Fun K x x st f fd ∧ mg x = some (.ref f)
theorem Cal.imp {k : Nat} {x : Str} {sp sp' : Sp} (c : Cal P w K mg base k x sp) (h : ∀ vs H Q E, sp' vs H Q E → sp vs H Q E) : Cal P w K mg base k x sp' := by
  obtain ⟨f, fd, ps, F, a, b, c⟩ := c.ex
  exact ⟨f, fd, ps, F.imp h, a, b, c⟩
theorem cal_pure {x : Str} {st : Stmt} {N ps : List Str} {k n : Nat} {R : List D → D → Prop} (F : Df K mg x st)
    (hb : ∀ (kV doc pm : Value) (an : Option Addr) (cdv ct : Value) (us : List Value), us.length = ps.length → bindArgs (PySem.W.fnOf x x (defArgs st) (defBody st) (defScope st) .none kV doc pm an cdv ct) ⟨us, []⟩ = pure (ps.zip us))
    (S' : FnScope N ps (defScope st)) (hn : N.length = ps.length + n) (hlen : ∀ ds d, R ds d → ds.length = ps.length)
    (hbody : ∀ (f : Addr) (cdv : Value) (A : Around) (outer : List Env) (s : Shared) (H : Hp) (E : XK), Room k (A.deeper (envOfC x (defScope st) s.heap.objs.size f cdv)) →
      ∃ t, PSs (cxOf CX0 P w K mg base N x (defScope st) f cdv A outer s H E).nox (defBody st) t ∧ ∀ ds d, R ds d → Run 0 false t (ds.map S.val ++ List.replicate n .no) (.rt d none)) : Cal P w K mg base (k + 1) x (SpP R) := by
  obtain ⟨f, fd, F, hm⟩ := F.ex
  exact ⟨f, fd, ps, fn_pure F S' hn hlen (hbody f), hm, F.kp, F.binds hb⟩
theorem cal_ben {C : Addr} {x : Str} {st : Stmt} {N ps : List Str} {k n : Nat} {R : Bs → List D → Bs → D → Prop} (F : Df K mg x st)
    (hb : ∀ (kV doc pm : Value) (an : Option Addr) (cdv ct : Value) (us : List Value), us.length = ps.length → bindArgs (PySem.W.fnOf x x (defArgs st) (defBody st) (defScope st) .none kV doc pm an cdv ct) ⟨us, []⟩ = pure (ps.zip us))
    (S' : FnScope N ps (defScope st)) (hn : N.length = ps.length + n) (hlen : ∀ w ds w' d, R w ds w' d → ds.length + 1 = ps.length)
    (hbody : ∀ (f : Addr) (cdv : Value) (A : Around) (outer : List Env) (s : Shared) (H : Hp) (E : XK), Room k (A.deeper (envOfC x (defScope st) s.heap.objs.size f cdv)) →
      ∃ t, PSs (cxOf CX0 P w K mg base N x (defScope st) f cdv A outer s H E).nox (defBody st) t ∧ ∀ w ds w' d, R w ds w' d → Run C true t (.ben w.t w.ps w.ma :: (ds.map S.val ++ List.replicate n .no)) (.rt d (some w'))) : Cal P w K mg base (k + 1) x (SpB C R) := by
  obtain ⟨f, fd, F, hm⟩ := F.ex
  exact ⟨f, fd, ps, fn_ben F S' hn hlen (hbody f), hm, F.kp, F.binds hb⟩
/-- a def by its body, its promise as it is -/
theorem cal_gen {x : Str} {st : Stmt} {N ps : List Str} {k : Nat} {sp : Sp} (F : Df K mg x st)
    (hb : ∀ (kV doc pm : Value) (an : Option Addr) (cdv ct : Value) (us : List Value), us.length = ps.length → bindArgs (PySem.W.fnOf x x (defArgs st) (defBody st) (defScope st) .none kV doc pm an cdv ct) ⟨us, []⟩ = pure (ps.zip us))
    (S' : FnScope N ps (defScope st)) (len : ∀ vs H Q E, sp vs H Q E → vs.length = ps.length)
    (hbody : ∀ (f : Addr) (cdv : Value) (A : Around) (outer : List Env) (s : Shared) (H : Hp) (vs : List V) (Q : VK) (E : XK), Room k (A.deeper (envOfC x (defScope st) s.heap.objs.size f cdv)) → sp vs H Q E →
      ∃ t, PSs (cxOf CX0 P w K mg base N x (defScope st) f cdv A outer s H E).nox (defBody st) t ∧ t { nx := fun _ H' => Q .non H', rt := Q } (L2.start N vs) H) : Cal P w K mg base (k + 1) x sp := by
  obtain ⟨f, fd, F, hm⟩ := F.ex
  exact ⟨f, fd, ps, F.ok S' len (hbody f), hm, F.kp, F.binds hb⟩
end
section
variable {X : Cx} {k j : Nat} {x : Str} {sp : Sp} {p pos : Pos} {e : Expr} {es : List Expr} {t : TA}
theorem pe_c (c : Cal X.prog X.w X.K X.mg X.base k x sp) (hr : Room j X.A) (hk : k ≤ j) (hg : Gl X x) (ha : PA X (e :: es) t)
    (hdb : (x == ("__debug__" : Str)) = false := by decide) (he : starEach (e :: es) X.env = (false, eval e X.env) :: starEach es X.env := by rfl) (hpl : (backTo pos (starEach es X.env)).any (·.1) = false := by rfl) :
    PE X (.Call (.Name x p) (e :: es) [] pos) (tCall sp [] E0 t) := by
  obtain ⟨f, fd, ps, F, hm, kp, b⟩ := c.ex
  exact pe_call F (hr.mono hk) hg hm kp b .nil pass0 ha hdb he hpl
theorem sl_listK {K : PySem.W.Frag} (h : X.K = K) : SlR X (rSlL K) := h ▸ sl_list
theorem ix_tupK {K : PySem.W.Frag} (h : X.K = K) : IxR X (rIxT K) := h ▸ ix_tup
theorem ix_listK {K : PySem.W.Frag} (h : X.K = K) : IxR X (rIxL K) := h ▸ ix_list
theorem call_lenK {K : PySem.W.Frag} (h : X.K = K) : CallR X (.builtin "len") (rLenS K) := h ▸ call_lenS
/-- a constant of the module -/
theorem pe_gi {i : Int} (h : ∃ u, X.mg x = some u ∧ RelV (.int i) u) (hg : Gl X x) (hd : (x == ("__debug__" : Str)) = false := by decide) : PE X (.Name x pos) (tC (.int i)) := by
  obtain ⟨u, h1, h2⟩ := h
  exact pe_glob hg h1 h2 hd
end
end HL

end
section
/-! # The mirror: each def of the program as a plain Lean function -/
namespace HL.M
abbrev Prods := List (Int × Int)
def thicks (ps : Prods) : List Int := ps.map (·.1)
def has (ps : Prods) (t : Int) : Bool := decide (t ∈ thicks ps)
def price (ps : Prods) (t : Int) : Int := ps.foldl (fun a p => if p.1 = t then p.2 else a) 0
def withP (ps : Prods) (t p : Int) : Prods := ps.filter (fun q => decide (t < q.1)) ++ [(t, p)] ++ ps.filter (fun q => decide (q.1 < t))
def withoutP (ps : Prods) (t : Int) : Prods := ps.filter fun q => !decide (q.1 = t)
def withPrice (ps : Prods) (t p : Int) : Prods := withP (withoutP ps t) t p
def okThickness (n : Int) : Bool := decide (3 ≤ n) && decide (n ≤ 60)
def okPrice (n : Int) : Bool := decide (1 ≤ n) && decide (n ≤ 99)
def okMachine (a b : Int) : Bool := decide (0 ≤ a) && (decide (a ≤ 9) && (decide (0 ≤ b) && decide (b ≤ 5)))
def okHide (n : Int) : Bool := decide (0 ≤ n) && decide (n ≤ 60)
def okValue (n : Int) : Bool := decide (0 ≤ n) && decide (n ≤ 999)
def falling : List Int → Bool
  | a :: b :: r => decide (b ≤ a) && falling (b :: r)
  | _ => true
def isPlan (ps : Prods) (l : List Int) : Bool := if 6 < l.length then false else falling l && (l.map (has ps)).all id
def value (ps : Prods) (l : List Int) : Int := (l.map (price ps)).sum
def used (l : List Int) (loss : Int) : Int := if (l.length : Int) = 0 then 0 else l.sum + loss * ((l.length : Int) - 1)
def cutsFor (layers used hide : Int) : Int := if layers = 0 then 0 else if used < hide then layers else layers - 1
def isFit (layers used mc hide : Int) : Bool := decide (used ≤ hide) && decide (cutsFor layers used hide ≤ mc)
def doesFit (l : List Int) (m : Int × Int) (hide : Int) : Bool := isFit l.length (used l m.1) m.2 hide
def planCuts (l : List Int) (m : Int × Int) (hide : Int) : Int := cutsFor l.length (used l m.1) hide
def canFollow (l : List Int) (t : Int) : Bool := match l.getLast? with
  | none => true
  | some x => decide (t ≤ x)
def grow (p : List Int) (limit t : Int) : Bool := canFollow p t && decide (p.sum + t ≤ limit)
def longer (plans : List (List Int)) (ts : List Int) (limit : Int) : List (List Int) := plans.flatMap fun p => (ts.filter (grow p limit)).map fun t => p ++ [t]
def plansStep (ts : List Int) (limit : Int) (s : List (List Int) × List (List Int)) : List (List Int) × List (List Int) := (s.1 ++ longer s.2 ts limit, longer s.2 ts limit)
def plansN (ts : List Int) (limit : Int) : Nat → List (List Int) × List (List Int)
  | 0 => ([[]], [[]])
  | n + 1 => plansStep ts limit (plansN ts limit n)
def allPlans (ts : List Int) (limit : Int) : List (List Int) := (plansN ts limit 6).1
def before : List Int → List Int → Bool
  | a :: r, b :: s => if a = b then before r s else decide (b < a)
  | [], _ :: _ => true
  | _, [] => false
def fitting (ps : Prods) (m : Int × Int) (hide : Int) : List (List Int) := (allPlans (thicks ps) hide).filter fun l => doesFit l m hide
abbrev Row := Int × Int × Int
def rows (ps : Prods) (loss : Int) : List Row := (allPlans (thicks ps) 60).map fun l => ((l.length : Int), used l loss, value ps l)
def bestStep (mc hide : Int) (f : Int) (r : Row) : Int := if (isFit r.1 r.2.1 mc hide && decide (f < r.2.2)) = true then r.2.2 else f
def bestIn (rs : List Row) (mc hide : Int) : Int := rs.foldl (bestStep mc hide) 0
def bestValue (ps : Prods) (m : Int × Int) (hide : Int) : Int := bestIn (rows ps m.1) m.2 hide
def bestValues (ps : Prods) (m : Int × Int) (hides : List Int) : List Int := hides.map (bestIn (rows ps m.1) m.2)
def better (ps : Prods) (m : Int × Int) (hide : Int) (one other : List Int) : Bool :=
  if value ps one = value ps other then (if planCuts one m hide = planCuts other m hide then before one other else decide (planCuts one m hide < planCuts other m hide)) else decide (value ps other < value ps one)
def bestPlan (ps : Prods) (m : Int × Int) (hide : Int) : List Int := (fitting ps m hide).foldl (fun f p => if better ps m hide p f = true then p else f) []
def maxL : List Int → Int
  | [] => 0
  | a :: r => r.foldl max a
def bestCount (ps : Prods) (m : Int × Int) (hide : Int) : Int := ((((fitting ps m hide).map (value ps)).count (maxL ((fitting ps m hide).map (value ps))) : Nat) : Int)
def leastHide (ps : Prods) (m : Int × Int) (v : Int) : Int := match (List.range 61).findSome? fun h => if v ≤ bestIn (rows ps m.1) m.2 ((h : Nat) : Int) then some ((h : Nat) : Int) else none with
  | some h => h
  | none => -1

/-! ### operations -/
structure St where
  there : Bool
  ps : Prods
  m : Int × Int
def start : St := ⟨false, [], (0, 0)⟩
def create (s : St) (a b : Int) : St × List Int := if okMachine a b = true then (⟨true, [], (a, b)⟩, [0]) else (s, [-22])
def addProduct (s : St) (t p : Int) : St × List Int :=
  if (okThickness t && okPrice p) = true then (if has s.ps t = true then (s, [-17]) else if (s.ps.length : Int) ≥ 6 then (s, [-28]) else ({ s with ps := withP s.ps t p }, [((withP s.ps t p).length : Int)])) else (s, [-22])
def removeProduct (s : St) (t : Int) : St × List Int := if has s.ps t = true then ({ s with ps := withoutP s.ps t }, [((withoutP s.ps t).length : Int)]) else (s, [-2])
def setPrice (s : St) (t p : Int) : St × List Int := if has s.ps t = true then (if okPrice p = true then ({ s with ps := withPrice s.ps t p }, [price s.ps t]) else (s, [-22])) else (s, [-2])
def getProducts (s : St) : St × List Int := (s, (s.ps.length : Int) :: s.ps.flatMap fun p => [p.1, p.2])
def setMachine (s : St) (a b : Int) : St × List Int := if okMachine a b = true then ({ s with m := (a, b) }, [0, s.m.1, s.m.2]) else (s, [-22])
def qPlanValue (s : St) (l : List Int) : List Int := if isPlan s.ps l = true then [value s.ps l] else [-22]
def qFits (s : St) (h : Int) (l : List Int) : List Int := if (okHide h && isPlan s.ps l) = true then (if doesFit l s.m h = true then [1] else [0]) else [-22]
def qCutCount (s : St) (h : Int) (l : List Int) : List Int := if (okHide h && isPlan s.ps l) = true then (if h < used l s.m.1 then [-33] else [planCuts l s.m h]) else [-22]
def qBestValue (s : St) (h : Int) : List Int := if okHide h = true then [bestValue s.ps s.m h] else [-22]
def qBestPlan (s : St) (h : Int) : List Int := if okHide h = true then ((bestPlan s.ps s.m h).length : Int) :: bestPlan s.ps s.m h else [-22]
def qWaste (s : St) (h : Int) : List Int := if okHide h = true then [h - (bestPlan s.ps s.m h).sum] else [-22]
def qPlanCount (s : St) (h : Int) : List Int := if okHide h = true then [((fitting s.ps s.m h).length : Int)] else [-22]
def qBestPlanCount (s : St) (h : Int) : List Int := if okHide h = true then [bestCount s.ps s.m h] else [-22]
def hides12 : List Int := (List.range 12).map fun k => 5 * (1 + ((k : Nat) : Int))
def qValueTable (s : St) : List Int := 12 :: bestValues s.ps s.m hides12
def qLeast (s : St) (v : Int) : List Int := if okValue v = true then (if leastHide s.ps s.m v < 0 then [-33] else [leastHide s.ps s.m v]) else [-22]
def qWithMachine (s : St) (a b h : Int) : List Int := if (okMachine a b && okHide h) = true then [bestValue s.ps (a, b) h] else [-22]
def qWithProduct (s : St) (t p h : Int) : List Int := if (okThickness t && (okPrice p && okHide h)) = true then (if has s.ps t = true then [-17] else [bestValue (withP s.ps t p) s.m h]) else [-22]
def qLayers (s : St) (h t : Int) : List Int := if has s.ps t = true then (if okHide h = true then [(((bestPlan s.ps s.m h).count t : Nat) : Int)] else [-22]) else [-2]
def qTwo (s : St) (a b : Int) : List Int := if (okHide a && okHide b) = true then [(bestValues s.ps s.m [a, b]).sum] else [-22]
/-- a call: its number, its whole numbers -/
abbrev Call := Int × List Int
def step (s : St) : Call → St × List Int
  | (0, [a, b]) => create s a b
  | (n, l) => if s.there = false then (s, [-11]) else match n, l with
    | 1, [a, b] => addProduct s a b
    | 2, [a] => removeProduct s a
    | 3, [a, b] => setPrice s a b
    | 4, [] => getProducts s
    | 5, [a, b] => setMachine s a b
    | 6, l => (s, qPlanValue s l)
    | 7, h :: l => (s, qFits s h l)
    | 8, h :: l => (s, qCutCount s h l)
    | 9, [a] => (s, qBestValue s a)
    | 10, [a] => (s, qBestPlan s a)
    | 11, [a] => (s, qWaste s a)
    | 12, [a] => (s, qPlanCount s a)
    | 13, [a] => (s, qBestPlanCount s a)
    | 14, [] => (s, qValueTable s)
    | 15, [a] => (s, qLeast s a)
    | 16, [a, b, c] => (s, qWithMachine s a b c)
    | 17, [a, b, c] => (s, qWithProduct s a b c)
    | 18, [a, b] => (s, qLayers s a b)
    | 19, [a, b] => (s, qTwo s a b)
    | _, _ => (s, [])
def play : St → List Call → List Int
  | _, [] => []
  | s, c :: r => ((step s c).2.length : Int) :: ((step s c).2 ++ play (step s c).1 r)
end HL.M

end
section
/-! # Plain lemmas for the walk: loops told by findSome?, folds, lengths -/
namespace HL.M
theorem getD_of {l : List Int} {k : Nat} {x : Int} (h : l[k]? = some x) : l.getD k 0 = x := by
  rw [List.getD_eq_getElem?_getD, h]
  rfl
theorem fall_find {α : Type} (r : α) : ∀ l : List Int, (List.range (l.length - 1)).findSome? (fun k => if l.getD k 0 < l.getD (k + 1) 0 then some r else none) = if falling l = true then none else some r
  | [] => rfl
  | [_] => rfl
  | a :: b :: t => by
    have ih := fall_find r (b :: t)
    have e : (a :: b :: t).length - 1 = ((b :: t).length - 1) + 1 := by simp
    rw [e, List.range_succ_eq_map, List.findSome?_cons]
    have e0 : (if (a :: b :: t).getD 0 0 < (a :: b :: t).getD (0 + 1) 0 then some r else none) = if a < b then some r else none := rfl
    rw [e0]
    by_cases h : a < b
    · rw [if_pos h]
      have : falling (a :: b :: t) = false := by
        show (decide (b ≤ a) && falling (b :: t)) = false
        rw [decide_eq_false (by omega), Bool.false_and]
      rw [this]
      rfl
    · rw [if_neg h]
      have : falling (a :: b :: t) = falling (b :: t) := by
        show (decide (b ≤ a) && falling (b :: t)) = _
        rw [decide_eq_true (by omega), Bool.true_and]
      rw [this, ← ih, List.findSome?_map]
      rfl
theorem before_find : ∀ a b : List Int, (match (List.range (min a.length b.length)).findSome? (fun k => if a.getD k 0 = b.getD k 0 then none else some (decide (b.getD k 0 < a.getD k 0))) with
    | none => decide ((a.length : Int) < (b.length : Int))
    | some r => r) = before a b
  | [], [] => by simp [before]
  | [], y :: s => by
    simp [before]
  | x :: r, [] => by
    simp [before]
    omega
  | x :: r, y :: s => by
    have ih := before_find r s
    have e : min (x :: r).length (y :: s).length = min r.length s.length + 1 := by
      simp only [List.length_cons]
      omega
    rw [e, List.range_succ_eq_map, List.findSome?_cons, List.findSome?_map]
    have e0 : (if (x :: r).getD 0 0 = (y :: s).getD 0 0 then none else some (decide ((y :: s).getD 0 0 < (x :: r).getD 0 0))) = if x = y then none else some (decide (y < x)) := rfl
    rw [e0]
    by_cases h : x = y
    · rw [if_pos h]
      have e2 : before (x :: r) (y :: s) = before r s := if_pos h
      rw [e2, ← ih]
      have e3 : decide (((x :: r).length : Int) < ((y :: s).length : Int)) = decide ((r.length : Int) < (s.length : Int)) := by
        simp only [List.length_cons, decide_eq_decide]
        omega
      rw [e3]
      rfl
    · rw [if_neg h]
      have e2 : before (x :: r) (y :: s) = decide (y < x) := if_neg h
      rw [e2]
theorem findSome_map {α β γ : Type} (g : α → Option β) (e : β → γ) : ∀ l : List α, l.findSome? (fun x => (g x).map e) = (l.findSome? g).map e
  | [] => rfl
  | x :: l => by
    rw [List.findSome?_cons, List.findSome?_cons]
    cases h : g x with
    | none => exact findSome_map g e l
    | some b => rfl
theorem longer_in (p : List Int) (limit : Int) : ∀ (ts : List Int) (a : List (List Int)), ts.foldl (fun a t => if grow p limit t = true then a ++ [p ++ [t]] else a) a = a ++ (ts.filter (grow p limit)).map fun t => p ++ [t]
  | [], a => by simp
  | t :: ts, a => by
    rw [List.foldl_cons, longer_in p limit ts, List.filter_cons]
    by_cases h : grow p limit t = true
    · rw [if_pos h, if_pos h]
      simp
    · rw [if_neg h, if_neg h]
theorem longer_out (ts : List Int) (limit : Int) : ∀ (ps a : List (List Int)), ps.foldl (fun a p => a ++ (ts.filter (grow p limit)).map fun t => p ++ [t]) a = a ++ longer ps ts limit
  | [], a => by simp [longer]
  | p :: ps, a => by
    rw [List.foldl_cons, longer_out ts limit ps]
    simp [longer, List.append_assoc]
theorem longer_len (ts : List Int) (limit : Int) : ∀ ps : List (List Int), (longer ps ts limit).length ≤ ps.length * ts.length
  | [] => by simp [longer]
  | p :: ps => by
    have ih := longer_len ts limit ps
    have h : ((ts.filter (grow p limit)).map fun t => p ++ [t]).length ≤ ts.length := by
      rw [List.length_map]
      exact List.length_filter_le _ _
    have e : longer (p :: ps) ts limit = ((ts.filter (grow p limit)).map fun t => p ++ [t]) ++ longer ps ts limit := by simp [longer]
    rw [e, List.length_append, List.length_cons, Nat.add_mul]
    omega
theorem in_len (p : List Int) (limit : Int) (ts : List Int) (a : List (List Int)) : (ts.foldl (fun a t => if grow p limit t = true then a ++ [p ++ [t]] else a) a).length ≤ a.length + ts.length := by
  rw [longer_in, List.length_append, List.length_map]
  exact Nat.add_le_add_left (List.length_filter_le _ _) _
theorem mem_longer {ps : List (List Int)} {ts : List Int} {limit : Int} {l : List Int} : l ∈ longer ps ts limit ↔ ∃ p ∈ ps, ∃ t ∈ ts, grow p limit t = true ∧ l = p ++ [t] := by
  unfold longer
  rw [List.mem_flatMap]
  constructor
  · rintro ⟨p, hp, h⟩
    obtain ⟨t, ht, rfl⟩ := List.mem_map.mp h
    obtain ⟨h1, h2⟩ := List.mem_filter.mp ht
    exact ⟨p, hp, t, h1, h2, rfl⟩
  · rintro ⟨p, hp, t, h1, h2, rfl⟩
    exact ⟨p, hp, List.mem_map.mpr ⟨t, List.mem_filter.mpr ⟨h1, h2⟩, rfl⟩⟩
/-- how many plans, how long -/
theorem plansN_len (ts : List Int) (limit : Int) (h : ts.length ≤ 7) : ∀ n : Nat, (plansN ts limit n).2.length ≤ 7 ^ n ∧ (plansN ts limit n).1.length ≤ (n + 1) * 7 ^ n
  | 0 => ⟨Nat.le_refl _, Nat.le_refl _⟩
  | n + 1 => by
    obtain ⟨h1, h2⟩ := plansN_len ts limit h n
    have a := longer_len ts limit (plansN ts limit n).2
    have b : (plansN ts limit n).2.length * ts.length ≤ 7 ^ n * 7 := Nat.mul_le_mul h1 h
    have e : (7 : Nat) ^ (n + 1) = 7 ^ n * 7 := rfl
    refine ⟨?_, ?_⟩
    · show (longer (plansN ts limit n).2 ts limit).length ≤ _
      omega
    · show ((plansN ts limit n).1 ++ longer (plansN ts limit n).2 ts limit).length ≤ _
      rw [List.length_append, e]
      have c : (n + 1 + 1) * (7 ^ n * 7) = (n + 1) * 7 ^ n * 7 + 7 ^ n * 7 := by rw [Nat.add_mul, Nat.one_mul, Nat.mul_assoc]
      omega
theorem plansN_small (ts : List Int) (limit : Int) (h : ts.length ≤ 7) {n : Nat} (hn : n ≤ 6) : (plansN ts limit n).2.length ≤ 117649 ∧ (plansN ts limit n).1.length ≤ 823543 := by
  obtain ⟨h1, h2⟩ := plansN_len ts limit h n
  have e : (7 : Nat) ^ n ≤ 7 ^ 6 := Nat.pow_le_pow_right (by decide) hn
  have e2 : (n + 1) * 7 ^ n ≤ 7 * 7 ^ 6 := Nat.mul_le_mul (by omega) e
  omega
theorem plansN_short (ts : List Int) (limit : Int) : ∀ (n : Nat) (p : List Int), p ∈ (plansN ts limit n).2 → p.length = n
  | 0, p, h => by
    rw [List.mem_singleton.mp (show p ∈ [[]] from h)]
    rfl
  | n + 1, p, h => by
    obtain ⟨q, hq, t, _, _, rfl⟩ := mem_longer.mp (show p ∈ longer (plansN ts limit n).2 ts limit from h)
    rw [List.length_append, plansN_short ts limit n q hq]
    rfl
theorem plansN_short1 (ts : List Int) (limit : Int) : ∀ (n : Nat) (p : List Int), p ∈ (plansN ts limit n).1 → p.length ≤ n
  | 0, p, h => by
    rw [List.mem_singleton.mp (show p ∈ [[]] from h)]
    exact Nat.le_refl _
  | n + 1, p, h => by
    rcases List.mem_append.mp (show p ∈ (plansN ts limit n).1 ++ longer (plansN ts limit n).2 ts limit from h) with h | h
    · exact Nat.le_succ_of_le (plansN_short1 ts limit n p h)
    · exact Nat.le_of_eq (plansN_short ts limit (n + 1) p h)
theorem plansN_fold (ts : List Int) (limit : Int) : ∀ n : Nat, (List.range n).foldl (fun s _ => plansStep ts limit s) ([[]], [[]]) = plansN ts limit n
  | 0 => rfl
  | n + 1 => by
    rw [List.range_succ, List.foldl_append, plansN_fold ts limit n]
    rfl
theorem allPlans_len (ts : List Int) (limit : Int) (h : ts.length ≤ 7) : (allPlans ts limit).length ≤ 823543 := (plansN_small ts limit h (Nat.le_refl 6)).2
theorem allPlans_short {ts : List Int} {limit : Int} {p : List Int} (h : p ∈ allPlans ts limit) : p.length ≤ 6 := plansN_short1 ts limit 6 p h
end HL.M
namespace HL.M
theorem fitting_short {ps : Prods} {m : Int × Int} {h : Int} {l : List Int} (x : l ∈ fitting ps m h) : l.length ≤ 6 := allPlans_short (List.mem_filter.mp x).1
theorem fold_short {f : List Int → List Int → Bool} : ∀ (pre : List (List Int)) (a : List Int), a.length ≤ 6 → (∀ p ∈ pre, p.length ≤ 6) → (pre.foldl (fun a p => if f p a = true then p else a) a).length ≤ 6
  | [], _, h, _ => h
  | p :: pre, a, h, hs => by
    rw [List.foldl_cons]
    refine fold_short pre _ ?_ fun q hq => hs q (List.mem_cons_of_mem _ hq)
    by_cases c : f p a = true
    · rw [if_pos c]
      exact hs p (List.mem_cons_self ..)
    · rw [if_neg c]
      exact h
theorem foldl_max_ge : ∀ (r : List Int) (a : Int), a ≤ r.foldl max a ∧ ∀ y ∈ r, y ≤ r.foldl max a
  | [], a => ⟨Int.le_refl _, fun _ h => by cases h⟩
  | x :: r, a => by
    obtain ⟨h1, h2⟩ := foldl_max_ge r (max a x)
    rw [List.foldl_cons]
    refine ⟨by omega, fun y hy => ?_⟩
    rcases List.mem_cons.mp hy with e | h
    · subst e
      omega
    · exact h2 y h
theorem foldl_max_mem : ∀ (r : List Int) (a : Int), r.foldl max a = a ∨ r.foldl max a ∈ r
  | [], a => .inl rfl
  | x :: r, a => by
    rw [List.foldl_cons]
    rcases foldl_max_mem r (max a x) with h | h
    · by_cases c : a ≤ x
      · right
        rw [h, Int.max_eq_right c]
        exact List.mem_cons_self ..
      · left
        rw [h]
        omega
    · exact .inr (List.mem_cons_of_mem _ h)
theorem maxL_ge {l : List Int} {y : Int} (h : y ∈ l) : y ≤ maxL l := by
  cases l with
  | nil => cases h
  | cons a r =>
    obtain ⟨h1, h2⟩ := foldl_max_ge r a
    rcases List.mem_cons.mp h with e | h
    · rw [e]
      exact h1
    · exact h2 y h
theorem maxL_mem {l : List Int} (h : l ≠ []) : maxL l ∈ l := by
  cases l with
  | nil => exact absurd rfl h
  | cons a r =>
    rcases foldl_max_mem r a with e | e
    · show r.foldl max a ∈ a :: r
      rw [e]
      exact List.mem_cons_self ..
    · exact List.mem_cons_of_mem _ e
theorem nil_fits {m : Int × Int} {h : Int} (h0 : 0 ≤ h) (hm : 0 ≤ m.2) : doesFit [] m h = true := by
  show (decide ((0 : Int) ≤ h) && decide ((0 : Int) ≤ m.2)) = true
  rw [decide_eq_true h0, decide_eq_true hm] <;> rfl
theorem nil_mem (ts : List Int) (lim : Int) : ∀ n : Nat, [] ∈ (plansN ts lim n).1
  | 0 => List.mem_singleton_self _
  | n + 1 => List.mem_append_left _ (nil_mem ts lim n)
theorem fitting_ne (ps : Prods) {m : Int × Int} {h : Int} (h0 : 0 ≤ h) (hm : 0 ≤ m.2) : fitting ps m h ≠ [] := fun e => by
  have z : [] ∈ fitting ps m h := List.mem_filter.mpr ⟨nil_mem _ _ 6, nil_fits h0 hm⟩
  rw [e] at z
  cases z
end HL.M

end
section
/-! # What a call may be, and what it answers, as relations -/
namespace HL.M
inductive Ask : Call → Prop
  | c0 (a b : Int) : Ask (0, [a, b])
  | c1 (a b : Int) : Ask (1, [a, b])
  | c2 (a : Int) : Ask (2, [a])
  | c3 (a b : Int) : Ask (3, [a, b])
  | c4 : Ask (4, [])
  | c5 (a b : Int) : Ask (5, [a, b])
  | c6 (l : List Int) : l.length ≤ 8 → Ask (6, l)
  | c7 (a : Int) (l : List Int) : l.length ≤ 8 → Ask (7, a :: l)
  | c8 (a : Int) (l : List Int) : l.length ≤ 8 → Ask (8, a :: l)
  | c9 (a : Int) : Ask (9, [a])
  | c10 (a : Int) : Ask (10, [a])
  | c11 (a : Int) : Ask (11, [a])
  | c12 (a : Int) : Ask (12, [a])
  | c13 (a : Int) : Ask (13, [a])
  | c14 : Ask (14, [])
  | c15 (a : Int) : Ask (15, [a])
  | c16 (a b c : Int) : Ask (16, [a, b, c])
  | c17 (a b c : Int) : Ask (17, [a, b, c])
  | c18 (a b : Int) : Ask (18, [a, b])
  | c19 (a b : Int) : Ask (19, [a, b])
inductive ChR : St → Int → List Int → St → List Int → Prop
  | c0 (s : St) (a b : Int) : ChR s 0 [a, b] (create s a b).1 (create s a b).2
  | c1 (s : St) (a b : Int) : ChR s 1 [a, b] (addProduct s a b).1 (addProduct s a b).2
  | c2 (s : St) (a : Int) : ChR s 2 [a] (removeProduct s a).1 (removeProduct s a).2
  | c3 (s : St) (a b : Int) : ChR s 3 [a, b] (setPrice s a b).1 (setPrice s a b).2
  | c4 (s : St) : ChR s 4 [] (getProducts s).1 (getProducts s).2
  | c5 (s : St) (a b : Int) : ChR s 5 [a, b] (setMachine s a b).1 (setMachine s a b).2
inductive QR : St → Int → List Int → List Int → Prop
  | c6 (s : St) (l : List Int) : l.length ≤ 8 → QR s 6 l (qPlanValue s l)
  | c7 (s : St) (a : Int) (l : List Int) : l.length ≤ 8 → QR s 7 (a :: l) (qFits s a l)
  | c8 (s : St) (a : Int) (l : List Int) : l.length ≤ 8 → QR s 8 (a :: l) (qCutCount s a l)
  | c9 (s : St) (a : Int) : QR s 9 [a] (qBestValue s a)
  | c10 (s : St) (a : Int) : QR s 10 [a] (qBestPlan s a)
  | c11 (s : St) (a : Int) : QR s 11 [a] (qWaste s a)
  | c12 (s : St) (a : Int) : QR s 12 [a] (qPlanCount s a)
inductive FR : St → Int → List Int → List Int → Prop
  | c13 (s : St) (a : Int) : FR s 13 [a] (qBestPlanCount s a)
  | c14 (s : St) : FR s 14 [] (qValueTable s)
  | c15 (s : St) (a : Int) : FR s 15 [a] (qLeast s a)
  | c16 (s : St) (a b c : Int) : FR s 16 [a, b, c] (qWithMachine s a b c)
  | c17 (s : St) (a b c : Int) : FR s 17 [a, b, c] (qWithProduct s a b c)
  | c18 (s : St) (a b : Int) : FR s 18 [a, b] (qLayers s a b)
  | c19 (s : St) (a b : Int) : FR s 19 [a, b] (qTwo s a b)
inductive AnR : St → Int → List Int → St → List Int → Prop
  | no (s : St) (n : Int) (l : List Int) : n ≠ 0 → s.there = false → AnR s n l s [-11]
  | ch {s : St} {n : Int} {l : List Int} {s' : St} {o : List Int} : (n = 0 ∨ s.there = true) → n < 6 → ChR s n l s' o → AnR s n l s' o
  | q {s : St} {n : Int} {l o : List Int} : s.there = true → 6 ≤ n → n < 13 → QR s n l o → AnR s n l s o
  | f {s : St} {n : Int} {l o : List Int} : s.there = true → 13 ≤ n → FR s n l o → AnR s n l s o
structure Valid (s : St) : Prop where
  few : s.ps.length ≤ 6
  cuts : 0 ≤ s.m.2
theorem step_no {s : St} {n : Int} {l : List Int} (h : n ≠ 0) (t : s.there = false) : step s (n, l) = (s, [-11]) := by
  unfold step
  split
  · rename_i e
    exact absurd (congrArg Prod.fst e) h
  · rename_i e
    cases e
    rw [if_pos t]
theorem step_an {s : St} {c : Call} (a : Ask c) : AnR s c.1 c.2 (step s c).1 (step s c).2 := by
  by_cases t : s.there = true
  · have t' : ¬ s.there = false := by rw [t]; decide
    cases a with
    | c0 a b => exact .ch (.inl rfl) (by simp) (.c0 s a b)
    | c1 a b =>
      have e : step s (1, [a, b]) = addProduct s a b := if_neg t'
      rw [e]
      exact .ch (.inr t) (by simp) (.c1 s a b)
    | c2 a =>
      have e : step s (2, [a]) = removeProduct s a := if_neg t'
      rw [e]
      exact .ch (.inr t) (by simp) (.c2 s a)
    | c3 a b =>
      have e : step s (3, [a, b]) = setPrice s a b := if_neg t'
      rw [e]
      exact .ch (.inr t) (by simp) (.c3 s a b)
    | c4 =>
      have e : step s (4, []) = getProducts s := if_neg t'
      rw [e]
      exact .ch (.inr t) (by simp) (.c4 s)
    | c5 a b =>
      have e : step s (5, [a, b]) = setMachine s a b := if_neg t'
      rw [e]
      exact .ch (.inr t) (by simp) (.c5 s a b)
    | c6 l h =>
      have e : step s (6, l) = (s, qPlanValue s l) := if_neg t'
      rw [e]
      exact .q t (by simp) (by simp) (.c6 s l h)
    | c7 a l h =>
      have e : step s (7, a :: l) = (s, qFits s a l) := if_neg t'
      rw [e]
      exact .q t (by simp) (by simp) (.c7 s a l h)
    | c8 a l h =>
      have e : step s (8, a :: l) = (s, qCutCount s a l) := if_neg t'
      rw [e]
      exact .q t (by simp) (by simp) (.c8 s a l h)
    | c9 a =>
      have e : step s (9, [a]) = (s, qBestValue s a) := if_neg t'
      rw [e]
      exact .q t (by simp) (by simp) (.c9 s a)
    | c10 a =>
      have e : step s (10, [a]) = (s, qBestPlan s a) := if_neg t'
      rw [e]
      exact .q t (by simp) (by simp) (.c10 s a)
    | c11 a =>
      have e : step s (11, [a]) = (s, qWaste s a) := if_neg t'
      rw [e]
      exact .q t (by simp) (by simp) (.c11 s a)
    | c12 a =>
      have e : step s (12, [a]) = (s, qPlanCount s a) := if_neg t'
      rw [e]
      exact .q t (by simp) (by simp) (.c12 s a)
    | c13 a =>
      have e : step s (13, [a]) = (s, qBestPlanCount s a) := if_neg t'
      rw [e]
      exact .f t (by simp) (.c13 s a)
    | c14 =>
      have e : step s (14, []) = (s, qValueTable s) := if_neg t'
      rw [e]
      exact .f t (by simp) (.c14 s)
    | c15 a =>
      have e : step s (15, [a]) = (s, qLeast s a) := if_neg t'
      rw [e]
      exact .f t (by simp) (.c15 s a)
    | c16 a b c =>
      have e : step s (16, [a, b, c]) = (s, qWithMachine s a b c) := if_neg t'
      rw [e]
      exact .f t (by simp) (.c16 s a b c)
    | c17 a b c =>
      have e : step s (17, [a, b, c]) = (s, qWithProduct s a b c) := if_neg t'
      rw [e]
      exact .f t (by simp) (.c17 s a b c)
    | c18 a b =>
      have e : step s (18, [a, b]) = (s, qLayers s a b) := if_neg t'
      rw [e]
      exact .f t (by simp) (.c18 s a b)
    | c19 a b =>
      have e : step s (19, [a, b]) = (s, qTwo s a b) := if_neg t'
      rw [e]
      exact .f t (by simp) (.c19 s a b)
  · have t' : s.there = false := by
      cases h : s.there with
      | false => rfl
      | true => exact absurd h t
    by_cases h0 : c.1 = 0
    · cases a with
      | c0 a b => exact .ch (.inl rfl) (by simp) (.c0 s a b)
      | _ => exact absurd h0 (by simp)
    · obtain ⟨n, l⟩ := c
      rw [step_no h0 t']
      exact .no s n l h0 t'
theorem okMachine_cuts {a b : Int} (h : okMachine a b = true) : 0 ≤ b := by
  unfold okMachine at h
  simp only [Bool.and_eq_true, decide_eq_true_eq] at h
  exact h.2.2.1
theorem withP_len (ps : Prods) (t p : Int) : (withP ps t p).length ≤ ps.length + 1 := by
  unfold withP
  have e : (ps.filter fun q => decide (t < q.1)).length + (ps.filter fun q => decide (q.1 < t)).length ≤ ps.length := by
    induction ps with
    | nil => exact Nat.le_refl _
    | cons q ps ih =>
      rw [List.filter_cons, List.filter_cons, List.length_cons]
      by_cases h1 : t < q.1
      · rw [if_pos (decide_eq_true h1), if_neg (by simp; omega), List.length_cons]
        omega
      · rw [if_neg (by simpa using h1)]
        by_cases h2 : q.1 < t
        · rw [if_pos (decide_eq_true h2), List.length_cons]
          omega
        · rw [if_neg (by simpa using h2)]
          omega
  rw [List.length_append, List.length_append, List.length_singleton]
  omega
theorem withoutP_len (ps : Prods) (t : Int) : (withoutP ps t).length ≤ ps.length := List.length_filter_le _ _
/-- one that is there is left out -/
theorem withoutP_less {ps : Prods} {t : Int} (h : has ps t = true) : (withoutP ps t).length + 1 ≤ ps.length := by
  have hm : t ∈ thicks ps := of_decide_eq_true h
  clear h
  induction ps with
  | nil => cases hm
  | cons q ps ih =>
    unfold withoutP
    rw [List.filter_cons, List.length_cons]
    by_cases c : q.1 = t
    · rw [if_neg (by simp [c])]
      have := withoutP_len ps t
      unfold withoutP at this
      omega
    · rw [if_pos (by simp [c]), List.length_cons]
      have hm' : t ∈ thicks ps := by
        rcases List.mem_cons.mp (show t ∈ q.1 :: thicks ps from hm) with e | e
        · exact absurd e.symm c
        · exact e
      have := ih hm'
      unfold withoutP at this
      omega
theorem told_len (ps : Prods) : (ps.flatMap fun p => [p.1, p.2]).length = 2 * ps.length := by
  induction ps with
  | nil => rfl
  | cons p ps ih =>
    rw [List.flatMap_cons, List.length_append, ih, List.length_cons]
    simp
    omega
theorem bestPlan_short (ps : Prods) (m : Int × Int) (h : Int) : (bestPlan ps m h).length ≤ 6 := fold_short _ [] (by decide) fun _ hq => fitting_short hq
theorem AnR.valid {s : St} {n : Int} {l : List Int} {s' : St} {o : List Int} (v : Valid s) (a : AnR s n l s' o) : Valid s' := by
  cases a with
  | no => exact v
  | q => exact v
  | f => exact v
  | ch _ _ c =>
    cases c with
    | c0 a b =>
      unfold create
      split
      · rename_i h
        exact ⟨Nat.zero_le _, okMachine_cuts h⟩
      · exact v
    | c1 a b =>
      unfold addProduct
      split
      · split
        · exact v
        · split
          · exact v
          · rename_i h
            have := withP_len s.ps a b
            exact ⟨by show (withP s.ps a b).length ≤ 6; omega, v.cuts⟩
      · exact v
    | c2 a =>
      unfold removeProduct
      split
      · exact ⟨Nat.le_trans (withoutP_len s.ps a) v.few, v.cuts⟩
      · exact v
    | c3 a b =>
      unfold setPrice
      split
      · rename_i h
        split
        · refine ⟨?_, v.cuts⟩
          show (withPrice s.ps a b).length ≤ 6
          have h1 := withP_len (withoutP s.ps a) a b
          have h2 := withoutP_less h
          have := v.few
          unfold withPrice
          omega
        · exact v
      · exact v
    | c4 => exact v
    | c5 a b =>
      unfold setMachine
      split
      · rename_i h
        exact ⟨v.few, okMachine_cuts h⟩
      · exact v
theorem one_len {a b : Int} {c : Prop} [Decidable c] : (if c then [a] else [b]).length ≤ 13 := by
  split <;> exact Nat.le_of_ble_eq_true rfl
theorem AnR.short {s : St} {n : Int} {l : List Int} {s' : St} {o : List Int} (v : Valid s) (a : AnR s n l s' o) : o.length ≤ 13 := by
  have f1 : ∀ x : Int, [x].length ≤ 13 := fun x => Nat.le_of_ble_eq_true rfl
  cases a with
  | no => exact f1 _
  | ch _ _ c =>
    cases c with
    | c0 a b => unfold create; split <;> exact f1 _
    | c1 a b =>
      unfold addProduct
      split
      · split
        · exact f1 _
        · split <;> exact f1 _
      · exact f1 _
    | c2 a => unfold removeProduct; split <;> exact f1 _
    | c3 a b =>
      unfold setPrice
      split
      · split <;> exact f1 _
      · exact f1 _
    | c4 =>
      show ((s.ps.length : Int) :: s.ps.flatMap fun p => [p.1, p.2]).length ≤ 13
      rw [List.length_cons, told_len]
      have := v.few
      omega
    | c5 a b =>
      unfold setMachine
      split
      · exact Nat.le_of_ble_eq_true rfl
      · exact f1 _
  | q _ _ _ c =>
    cases c with
    | c6 l _ => exact one_len
    | c7 a l _ =>
      unfold qFits
      split
      · exact one_len
      · exact f1 _
    | c8 a l _ =>
      unfold qCutCount
      split
      · exact one_len
      · exact f1 _
    | c9 a => exact one_len
    | c10 a =>
      unfold qBestPlan
      split
      · rw [List.length_cons]
        have := bestPlan_short s.ps s.m a
        omega
      · exact f1 _
    | c11 a => exact one_len
    | c12 a => exact one_len
  | f _ _ c =>
    cases c with
    | c13 a => exact one_len
    | c14 =>
      show ((12 : Int) :: bestValues s.ps s.m hides12).length ≤ 13
      unfold bestValues
      rw [List.length_cons, List.length_map]
      exact Nat.le_of_ble_eq_true rfl
    | c15 a =>
      unfold qLeast
      split
      · exact one_len
      · exact f1 _
    | c16 a b c => exact one_len
    | c17 a b c =>
      unfold qWithProduct
      split
      · exact one_len
      · exact f1 _
    | c18 a b =>
      unfold qLayers
      split
      · exact one_len
      · exact f1 _
    | c19 a b => exact one_len
/-- the calls as one list of numbers -/
def flat (cs : List Call) : List Int := cs.flatMap fun c => c.1 :: (c.2.length : Int) :: (c.2 ++ [0])
theorem flat_app (a b : List Call) : flat (a ++ b) = flat a ++ flat b := by
  unfold flat
  rw [List.flatMap_append]
theorem flat_cons (c : Call) (b : List Call) : flat (c :: b) = c.1 :: (c.2.length : Int) :: (c.2 ++ 0 :: flat b) := by
  unfold flat
  rw [List.flatMap_cons]
  simp
theorem flat_len (cs : List Call) : 3 * cs.length ≤ (flat cs).length := by
  induction cs with
  | nil => exact Nat.le_refl _
  | cons c cs ih =>
    rw [flat_cons]
    simp only [List.length_cons, List.length_append]
    omega
/-- what is told of each call, all in one -/
def toldStep (x : St × List Int) (c : Call) : St × List Int := ((step x.1 c).1, x.2 ++ (((step x.1 c).2.length : Int) :: (step x.1 c).2))
theorem told_fold : ∀ (cs : List Call) (s : St) (o : List Int), (cs.foldl toldStep (s, o)).2 = o ++ play s cs
  | [], s, o => by
    show o = o ++ []
    rw [List.append_nil]
  | c :: cs, s, o => by
    rw [List.foldl_cons]
    show (cs.foldl toldStep ((step s c).1, o ++ (((step s c).2.length : Int) :: (step s c).2))).2 = _
    rw [told_fold cs]
    show _ = o ++ (((step s c).2.length : Int) :: ((step s c).2 ++ play (step s c).1 cs))
    simp
theorem told_ok : ∀ (cs : List Call) (s : St) (o : List Int), Valid s → (∀ c ∈ cs, Ask c) → Valid (cs.foldl toldStep (s, o)).1 ∧ (cs.foldl toldStep (s, o)).2.length ≤ o.length + 14 * cs.length
  | [], s, o, v, _ => ⟨v, by simp⟩
  | c :: cs, s, o, v, h => by
    have a := step_an (s := s) (h c (List.mem_cons_self ..))
    obtain ⟨h1, h2⟩ := told_ok cs (step s c).1 (o ++ (((step s c).2.length : Int) :: (step s c).2)) (a.valid v) fun d hd => h d (List.mem_cons_of_mem _ hd)
    rw [List.foldl_cons]
    refine ⟨h1, Nat.le_trans h2 ?_⟩
    have := a.short v
    rw [List.length_append, List.length_cons, List.length_cons]
    omega
end HL.M

end
section
set_option maxRecDepth 100000
set_option maxHeartbeats 4000000
namespace HL
open PySem PySem.Spec PyProof.Rows L2
/-- the i-th statement of the program -/
def topS (i : Nat) : Stmt := PySem.Challenge.pw_hidelayers_s01_answers.main.body.getD i (.Pass ⟨0, 0, 0, 0⟩)
/-- what the top has written -/
structure Tx (K : PySem.W.Frag) (mg : Str → Option Value) (C : Addr) : Prop where
  cl : Cls K C
  nT : NoAttr K C "is_there"
  nP : NoAttr K C "products"
  nM : NoAttr K C "machine"
  mgC : mg "Bench" = some (.ref C)
  len : mg "len" = none
  sum : mg "sum" = none
  max : mg "max" = none
  min : mg "min" = none
  all : mg "all" = none
  range : mg "range" = none
  c_NO_SPLITTER : ∃ u, mg "NO_SPLITTER" = some u ∧ RelV (.int (-11)) u
  c_NO_PRODUCT : ∃ u, mg "NO_PRODUCT" = some u ∧ RelV (.int (-2)) u
  c_OUTSIDE : ∃ u, mg "OUTSIDE" = some u ∧ RelV (.int (-22)) u
  c_THERE_ALREADY : ∃ u, mg "THERE_ALREADY" = some u ∧ RelV (.int (-17)) u
  c_TOO_MANY : ∃ u, mg "TOO_MANY" = some u ∧ RelV (.int (-28)) u
  c_NOT_ENOUGH : ∃ u, mg "NOT_ENOUGH" = some u ∧ RelV (.int (-33)) u
  c_MOST_PRODUCTS : ∃ u, mg "MOST_PRODUCTS" = some u ∧ RelV (.int 6) u
  c_MOST_LAYERS : ∃ u, mg "MOST_LAYERS" = some u ∧ RelV (.int 6) u
  c_MOST_HIDE : ∃ u, mg "MOST_HIDE" = some u ∧ RelV (.int 60) u
  c_MOST_VALUE : ∃ u, mg "MOST_VALUE" = some u ∧ RelV (.int 999) u
/-! ### how the mirror's things are data -/
abbrev eL (l : List Int) : D := .lst (l.map D.int)
abbrev eP (p : Int × Int) : D := .tup [.int p.1, .int p.2]
abbrev ePs (ps : M.Prods) : D := .lst (ps.map eP)
abbrev eLL (l : List (List Int)) : D := .lst (l.map eL)
abbrev eRow (r : M.Row) : D := .tup [.int r.1, .int r.2.1, .int r.2.2]
abbrev eRs (rs : List M.Row) : D := .lst (rs.map eRow)
abbrev eCall (c : M.Call) : D := .tup [.int c.1, eL c.2]
abbrev eCs (cs : List M.Call) : D := .lst (cs.map eCall)
abbrev eB (s : M.St) : Bs := ⟨s.there, ePs s.ps, eP s.m⟩
theorem sz {n : Nat} (h : n ≤ 1000000) : n ≤ sizeLine := by
  rw [sizeLine_eq]
  omega
theorem szb {n : Nat} (h : Nat.ble n 1000000 = true) : n ≤ sizeLine := sz (Nat.le_of_ble_eq_true h)
theorem szlt {n : Nat} (h : n ≤ 1000000) : n < sizeLine := by
  rw [sizeLine_eq]
  omega
end HL

end
section
set_option maxRecDepth 100000
set_option maxHeartbeats 4000000
namespace HL
open PySem PySem.Spec PyProof.Rows L2 M
section
variable {P : Program} {w : World} {K : PySem.W.Frag} {mg : Str → Option Value} {base : Heap} {C : Addr}
/-! ### limits -/
def R_is_thickness : List D → D → Prop := fun ds d => ∃ n, ds = [.int n] ∧ d = .bl (okThickness n)
theorem len_is_thickness {ds : List D} {d : D} (h : R_is_thickness ds d) : ds.length = 1 := by obtain ⟨_, rfl, _⟩ := h; rfl
abbrev s_is_thickness : Stmt := topS 13
theorem sc_is_thickness : FnScope ["number"] ["number"] (defScope s_is_thickness) := ⟨rfl, rfl, rfl, by decide +kernel, rfl, by decide +kernel, by decide +kernel⟩
theorem cal_is_thickness (F : Df K mg "is_thickness" s_is_thickness) (T : Tx K mg C)  : Cal P w K mg base 1 "is_thickness" (SpP R_is_thickness) := by
  refine cal_pure (k := 0) (N := ["number"]) (ps := ["number"]) (n := 0) F (fun _ _ _ _ _ _ us hl => match us, hl with | [_], _ => rfl) sc_is_thickness rfl (fun ds d h => len_is_thickness h) (fun f cdv A outer s H E hr => ⟨_, (pss_one (ps_ret (pe_and (pe_cmpR op_le pe_int (pv 0) (nomark _)) (pe_one (pe_cmpR op_le (pv 0) pe_int (nomark _)))))), fun ds d h => ?_⟩)
  obtain ⟨n, rfl, rfl⟩ := h
  show Run 0 false _ [.val (.int n)] _
  exact run_ret (ev_andV (ev_op ev_int (ev_var rfl) rd_B0) fun _ => ev_op (ev_var rfl) ev_int rd_B0)
def R_is_price : List D → D → Prop := fun ds d => ∃ n, ds = [.int n] ∧ d = .bl (okPrice n)
theorem len_is_price {ds : List D} {d : D} (h : R_is_price ds d) : ds.length = 1 := by obtain ⟨_, rfl, _⟩ := h; rfl
abbrev s_is_price : Stmt := topS 14
theorem sc_is_price : FnScope ["number"] ["number"] (defScope s_is_price) := ⟨rfl, rfl, rfl, by decide +kernel, rfl, by decide +kernel, by decide +kernel⟩
theorem cal_is_price (F : Df K mg "is_price" s_is_price) (T : Tx K mg C)  : Cal P w K mg base 1 "is_price" (SpP R_is_price) := by
  refine cal_pure (k := 0) (N := ["number"]) (ps := ["number"]) (n := 0) F (fun _ _ _ _ _ _ us hl => match us, hl with | [_], _ => rfl) sc_is_price rfl (fun ds d h => len_is_price h) (fun f cdv A outer s H E hr => ⟨_, (pss_one (ps_ret (pe_and (pe_cmpR op_le pe_int (pv 0) (nomark _)) (pe_one (pe_cmpR op_le (pv 0) pe_int (nomark _)))))), fun ds d h => ?_⟩)
  obtain ⟨n, rfl, rfl⟩ := h
  show Run 0 false _ [.val (.int n)] _
  exact run_ret (ev_andV (ev_op ev_int (ev_var rfl) rd_B0) fun _ => ev_op (ev_var rfl) ev_int rd_B0)
def R_is_machine : List D → D → Prop := fun ds d => ∃ a b, ds = [.int a, .int b] ∧ d = .bl (okMachine a b)
theorem len_is_machine {ds : List D} {d : D} (h : R_is_machine ds d) : ds.length = 2 := by obtain ⟨_, _, rfl, _⟩ := h; rfl
abbrev s_is_machine : Stmt := topS 15
theorem sc_is_machine : FnScope ["cut_loss", "max_cuts"] ["cut_loss", "max_cuts"] (defScope s_is_machine) := ⟨rfl, rfl, rfl, by decide +kernel, rfl, by decide +kernel, by decide +kernel⟩
theorem cal_is_machine (F : Df K mg "is_machine" s_is_machine) (T : Tx K mg C)  : Cal P w K mg base 1 "is_machine" (SpP R_is_machine) := by
  refine cal_pure (k := 0) (N := ["cut_loss", "max_cuts"]) (ps := ["cut_loss", "max_cuts"]) (n := 0) F (fun _ _ _ _ _ _ us hl => match us, hl with | [_, _], _ => rfl) sc_is_machine rfl (fun ds d h => len_is_machine h) (fun f cdv A outer s H E hr => ⟨_, (pss_one (ps_ret (pe_and (pe_cmpR op_le pe_int (pv 0) (nomark _)) (pe_and (pe_cmpR op_le (pv 0) pe_int (nomark _)) (pe_and (pe_cmpR op_le pe_int (pv 1) (nomark _)) (pe_one (pe_cmpR op_le (pv 1) pe_int (nomark _)))))))), fun ds d h => ?_⟩)
  obtain ⟨a, b, rfl, rfl⟩ := h
  show Run 0 false _ [.val (.int a), .val (.int b)] _
  exact run_ret (ev_andV (ev_op ev_int (ev_var rfl) rd_B0) fun _ => ev_andV (ev_op (ev_var rfl) ev_int rd_B0) fun _ => ev_andV (ev_op ev_int (ev_var rfl) rd_B0) fun _ => ev_op (ev_var rfl) ev_int rd_B0)
def R_is_hide : List D → D → Prop := fun ds d => ∃ n, ds = [.int n] ∧ d = .bl (okHide n)
theorem len_is_hide {ds : List D} {d : D} (h : R_is_hide ds d) : ds.length = 1 := by obtain ⟨_, rfl, _⟩ := h; rfl
abbrev s_is_hide : Stmt := topS 16
theorem sc_is_hide : FnScope ["number"] ["number"] (defScope s_is_hide) := ⟨rfl, rfl, rfl, by decide +kernel, rfl, by decide +kernel, by decide +kernel⟩
theorem cal_is_hide (F : Df K mg "is_hide" s_is_hide) (T : Tx K mg C)  : Cal P w K mg base 1 "is_hide" (SpP R_is_hide) := by
  refine cal_pure (k := 0) (N := ["number"]) (ps := ["number"]) (n := 0) F (fun _ _ _ _ _ _ us hl => match us, hl with | [_], _ => rfl) sc_is_hide rfl (fun ds d h => len_is_hide h) (fun f cdv A outer s H E hr => ⟨_, (pss_one (ps_ret (pe_and (pe_cmpR op_le pe_int (pv 0) (nomark _)) (pe_one (pe_cmpR op_le (pv 0) (pe_gi T.c_MOST_HIDE rfl) (nomark _)))))), fun ds d h => ?_⟩)
  obtain ⟨n, rfl, rfl⟩ := h
  show Run 0 false _ [.val (.int n)] _
  exact run_ret (ev_andV (ev_op ev_int (ev_var rfl) rd_B0) fun _ => ev_op (ev_var rfl) ev_int rd_B0)
def R_is_value : List D → D → Prop := fun ds d => ∃ n, ds = [.int n] ∧ d = .bl (okValue n)
theorem len_is_value {ds : List D} {d : D} (h : R_is_value ds d) : ds.length = 1 := by obtain ⟨_, rfl, _⟩ := h; rfl
abbrev s_is_value : Stmt := topS 17
theorem sc_is_value : FnScope ["number"] ["number"] (defScope s_is_value) := ⟨rfl, rfl, rfl, by decide +kernel, rfl, by decide +kernel, by decide +kernel⟩
theorem cal_is_value (F : Df K mg "is_value" s_is_value) (T : Tx K mg C)  : Cal P w K mg base 1 "is_value" (SpP R_is_value) := by
  refine cal_pure (k := 0) (N := ["number"]) (ps := ["number"]) (n := 0) F (fun _ _ _ _ _ _ us hl => match us, hl with | [_], _ => rfl) sc_is_value rfl (fun ds d h => len_is_value h) (fun f cdv A outer s H E hr => ⟨_, (pss_one (ps_ret (pe_and (pe_cmpR op_le pe_int (pv 0) (nomark _)) (pe_one (pe_cmpR op_le (pv 0) (pe_gi T.c_MOST_VALUE rfl) (nomark _)))))), fun ds d h => ?_⟩)
  obtain ⟨n, rfl, rfl⟩ := h
  show Run 0 false _ [.val (.int n)] _
  exact run_ret (ev_andV (ev_op ev_int (ev_var rfl) rd_B0) fun _ => ev_op (ev_var rfl) ev_int rd_B0)
end
end HL

end
section
set_option maxRecDepth 100000
set_option maxHeartbeats 4000000
namespace HL
open PySem PySem.Spec PyProof.Rows L2 M
local macro_rules | `(tactic| walk_at "fgt") => `(tactic| repeat (first | exact Fgt.nil | apply Fgt.keep | apply Fgt.drop))
section
variable {P : Program} {w : World} {K : PySem.W.Frag} {mg : Str → Option Value} {base : Heap} {C : Addr}
/-! ### products -/
def R_thicknesses_of : List D → D → Prop := fun ds d => ∃ ps, ds = [ePs ps] ∧ d = eL (thicks ps) ∧ ps.length ≤ 1000
theorem len_thicknesses_of {ds : List D} {d : D} (h : R_thicknesses_of ds d) : ds.length = 1 := by obtain ⟨_, rfl, _⟩ := h; rfl
abbrev s_thicknesses_of : Stmt := topS 19
theorem sc_thicknesses_of : FnScope ["products", "thickness", "price"] ["products"] (defScope s_thicknesses_of) := ⟨rfl, rfl, rfl, by decide +kernel, rfl, by decide +kernel, by decide +kernel⟩
theorem cal_thicknesses_of (F : Df K mg "thicknesses_of" s_thicknesses_of) (T : Tx K mg C)  : Cal P w K mg base 1 "thicknesses_of" (SpP R_thicknesses_of) := by
  refine cal_pure (k := 0) (N := ["products", "thickness", "price"]) (ps := ["products"]) (n := 2) F (fun _ _ _ _ _ _ us hl => match us, hl with | [_], _ => rfl) sc_thicknesses_of rfl (fun ds d h => len_thicknesses_of h) (fun f cdv A outer s H E hr => ⟨_, (pss_one (ps_ret (pe_lc (own := [("thickness", 1), ("price", 2)]) (g := (gTup K 2 (gCons (gName 1) (gCons (gName 2) gNil)))) rfl sc_thicknesses_of.nd (pi_list (pv 0)) (blkOk_by (own := [("thickness", 1), ("price", 2)]) (N := ["products", "thickness", "price"]) (sc := defScope s_thicknesses_of) (by decide +kernel)) (fun _ _ _ _ _ => (pg_tup rfl (pgs_cons (pg_name (i := 1) sc_thicknesses_of.nd rfl (Or.inl rfl)) (pgs_cons (pg_name (i := 2) sc_thicknesses_of.nd rfl (Or.inl rfl)) pgs_nil)))) (fun _ _ _ _ _ => pts_nil) (fun _ _ _ _ _ => (pv 1))))), fun ds d h => ?_⟩)
  obtain ⟨ps, rfl, rfl, hl⟩ := h
  show Run 0 false _ [.val (ePs ps), .no, .no] _
  exact run_ret (ev_lcM ps eP (·.1) D.int (ev_var rfl) (sz (by omega)) fun x _ => ⟨_, _, (by decide), gok_tup rfl (gsok_cons gok_name (gsok_cons gok_name gsok_nil)), ev_var rfl⟩)
def R_has_product : List D → D → Prop := fun ds d => ∃ ps t, ds = [ePs ps, .int t] ∧ d = .bl (has ps t) ∧ ps.length ≤ 1000
theorem len_has_product {ds : List D} {d : D} (h : R_has_product ds d) : ds.length = 2 := by obtain ⟨_, _, rfl, _⟩ := h; rfl
abbrev s_has_product : Stmt := topS 20
theorem sc_has_product : FnScope ["products", "thickness"] ["products", "thickness"] (defScope s_has_product) := ⟨rfl, rfl, rfl, by decide +kernel, rfl, by decide +kernel, by decide +kernel⟩
theorem cal_has_product (F : Df K mg "has_product" s_has_product) (T : Tx K mg C) (c_thicknesses_of : Cal P w K mg base 1 "thicknesses_of" (SpP R_thicknesses_of)) : Cal P w K mg base 2 "has_product" (SpP R_has_product) := by
  refine cal_pure (k := 1) (N := ["products", "thickness"]) (ps := ["products", "thickness"]) (n := 0) F (fun _ _ _ _ _ _ us hl => match us, hl with | [_, _], _ => rfl) sc_has_product rfl (fun ds d h => len_has_product h) (fun f cdv A outer s H E hr => ⟨_, (pss_one (ps_ret (pe_cmpR op_in_seq (pv 1) (pe_c c_thicknesses_of hr (by decide) rfl (pa_cons (pv 0) pa_nil)) rfl))), fun ds d h => ?_⟩)
  obtain ⟨ps, t, rfl, rfl, hl⟩ := h
  show Run 0 false _ [.val (ePs ps), .val (.int t)] _
  exact run_ret (ev_op (ev_var rfl) (ev_call (ea_cons (ev_var rfl) ea_nil) ⟨ps, rfl, rfl, hl⟩) rd_in)
def R_price_of : List D → D → Prop := fun ds d => ∃ ps t, ds = [ePs ps, .int t] ∧ d = .int (price ps t) ∧ ps.length ≤ 1000
theorem len_price_of {ds : List D} {d : D} (h : R_price_of ds d) : ds.length = 2 := by obtain ⟨_, _, rfl, _⟩ := h; rfl
abbrev s_price_of : Stmt := topS 21
theorem sc_price_of : FnScope ["products", "thickness", "found", "other", "price"] ["products", "thickness"] (defScope s_price_of) := ⟨rfl, rfl, rfl, by decide +kernel, rfl, by decide +kernel, by decide +kernel⟩
theorem cal_price_of (F : Df K mg "price_of" s_price_of) (T : Tx K mg C)  : Cal P w K mg base 1 "price_of" (SpP R_price_of) := by
  refine cal_pure (k := 0) (N := ["products", "thickness", "found", "other", "price"]) (ps := ["products", "thickness"]) (n := 3) F (fun _ _ _ _ _ _ us hl => match us, hl with | [_, _], _ => rfl) sc_price_of rfl (fun ds d h => len_price_of h) (fun f cdv A outer s H E hr => ⟨_, (pss_cons (ps_set (i := 2) sc_price_of.nd rfl (Or.inl rfl) pe_int)
    (pss_cons (ps_for PassesOwn.never rfl (pi_list (pv 0)) (pg_tup rfl (pgs_cons (pg_name (i := 3) sc_price_of.nd rfl (Or.inl rfl)) (pgs_cons (pg_name (i := 4) sc_price_of.nd rfl (Or.inl rfl)) pgs_nil))) (pss_one (ps_if (pt_cmpR op_eq (pv 3) (pv 1) (nomark _)) (pss_one (ps_set (i := 2) sc_price_of.nd rfl (Or.inl rfl) (pv 4))) pss_nil)))
    (pss_one (ps_ret (pv 2))))), fun ds d h => ?_⟩)
  obtain ⟨ps, t, rfl, rfl, hl⟩ := h
  show Run 0 false _ [.val (ePs ps), .val (.int t), .no, .no, .no] _
  refine run_seq (run_asg ev_int) (run_seq (run_for (ev_var rfl) (loop_fold (fun a p => if p.1 = t then p.2 else a) eP (fun a => [.val (ePs ps), .val (.int t), .val (.int a), .no, .no]) ps 0 fun pre x post e => ?_)) (run_ret (ev_var rfl)))
  refine ⟨_, [.val (ePs ps), .val (.int t), .val (.int (if x.1 = t then x.2 else _)), .val (.int x.1), .val (.int x.2)], _, gok_tup rfl (gsok_cons gok_name (gsok_cons gok_name gsok_nil)), run_if (et_test (ev_op (ev_var rfl) (ev_var rfl) rd_eq)) (fun h => ?_) (fun h => ?_), by walk_at "fgt"⟩
  · rw [if_pos (of_decide_eq_true h)]
    exact run_asg (ev_var rfl)
  · rw [if_neg (of_decide_eq_false h)]
    exact run_next
theorem withP_len (ps : Prods) (t p : Int) : (withP ps t p).length ≤ ps.length + 1 := by
  unfold withP
  have e : (ps.filter fun q => decide (t < q.1)).length + (ps.filter fun q => decide (q.1 < t)).length ≤ ps.length := by
    induction ps with
    | nil => exact Nat.le_refl _
    | cons q ps ih =>
      rw [List.filter_cons, List.filter_cons, List.length_cons]
      by_cases h1 : t < q.1
      · rw [if_pos (decide_eq_true h1), if_neg (by simp; omega), List.length_cons]
        omega
      · rw [if_neg (by simpa using h1)]
        by_cases h2 : q.1 < t
        · rw [if_pos (decide_eq_true h2), List.length_cons]
          omega
        · rw [if_neg (by simpa using h2)]
          omega
  rw [List.length_append, List.length_append, List.length_singleton]
  omega
theorem withoutP_len (ps : Prods) (t : Int) : (withoutP ps t).length ≤ ps.length := List.length_filter_le _ _
def R_with_product : List D → D → Prop := fun ds d => ∃ ps t p, ds = [ePs ps, .int t, .int p] ∧ d = ePs (withP ps t p) ∧ ps.length ≤ 1000
theorem len_with_product {ds : List D} {d : D} (h : R_with_product ds d) : ds.length = 3 := by obtain ⟨_, _, _, rfl, _⟩ := h; rfl
abbrev s_with_product : Stmt := topS 22
theorem sc_with_product : FnScope ["products", "thickness", "price", "thicker", "thinner", "product"] ["products", "thickness", "price"] (defScope s_with_product) := ⟨rfl, rfl, rfl, by decide +kernel, rfl, by decide +kernel, by decide +kernel⟩
theorem cal_with_product (F : Df K mg "with_product" s_with_product) (T : Tx K mg C)  : Cal P w K mg base 1 "with_product" (SpP R_with_product) := by
  refine cal_pure (k := 0) (N := ["products", "thickness", "price", "thicker", "thinner", "product"]) (ps := ["products", "thickness", "price"]) (n := 3) F (fun _ _ _ _ _ _ us hl => match us, hl with | [_, _, _], _ => rfl) sc_with_product rfl (fun ds d h => len_with_product h) (fun f cdv A outer s H E hr => ⟨_, (pss_cons (ps_setLc (i := 3) (own := [("product", 5)]) (g := (gName 5)) rfl sc_with_product.nd rfl rfl (sw_true rfl rfl rfl (by decide +kernel)) (pi_list (pv 0)) (blkOk_by (own := [("product", 5)]) (N := ["products", "thickness", "price", "thicker", "thinner", "product"]) (sc := defScope s_with_product) (by decide +kernel)) (fun _ _ _ _ _ => (pg_name (i := 5) sc_with_product.nd rfl (Or.inl rfl))) (fun _ _ _ _ _ => (pts_one (pt_cmpR op_gt (pe_ix (ix_tupK (K := K) rfl) (pv 5) pe_int (fun _ _ => rfl)) (pv 1) (nomark _)))) (fun _ _ _ _ _ => (pv 5)))
    (pss_cons (ps_setLc (i := 4) (own := [("product", 5)]) (g := (gName 5)) rfl sc_with_product.nd rfl rfl (sw_true rfl rfl rfl (by decide +kernel)) (pi_list (pv 0)) (blkOk_by (own := [("product", 5)]) (N := ["products", "thickness", "price", "thicker", "thinner", "product"]) (sc := defScope s_with_product) (by decide +kernel)) (fun _ _ _ _ _ => (pg_name (i := 5) sc_with_product.nd rfl (Or.inl rfl))) (fun _ _ _ _ _ => (pts_one (pt_cmpR op_lt (pe_ix (ix_tupK (K := K) rfl) (pv 5) pe_int (fun _ _ => rfl)) (pv 1) (nomark _)))) (fun _ _ _ _ _ => (pv 5)))
    (pss_one (ps_ret (pe_op op_cat (pe_op op_cat (pv 3) (pe_lst (pa_cons (pe_tup (pa_cons (pv 1) (pa_cons (pv 2) pa_nil))) pa_nil))) (pv 4)))))), fun ds d h => ?_⟩)
  obtain ⟨ps, t, p, rfl, rfl, hl⟩ := h
  show Run 0 false _ [.val (ePs ps), .val (.int t), .val (.int p), .no, .no, .no] _
  have l1 := List.length_filter_le (fun q : Int × Int => decide (t < q.1)) ps
  have l2 := List.length_filter_le (fun q : Int × Int => decide (q.1 < t)) ps
  refine run_seq (run_asg (ev_lc ps eP (fun q => decide (t < q.1)) eP (ev_var rfl) (sz (by omega)) fun x _ => ⟨_, _, (by decide), gok_name, et_test (ev_op (ev_op (ev_var rfl) ev_int (rd_ixT at0)) (ev_var rfl) rd_B0), fun _ => ev_var rfl⟩))
    (run_seq (run_asg (ev_lc ps eP (fun q => decide (q.1 < t)) eP (ev_var rfl) (sz (by omega)) fun x _ => ⟨_, _, (by decide), gok_name, et_test (ev_op (ev_op (ev_var rfl) ev_int (rd_ixT at0)) (ev_var rfl) rd_B0), fun _ => ev_var rfl⟩))
    (run_is (run_ret (ev_op (ev_op (ev_var rfl) (ev_lst (ea_cons (ev_tup (ea_cons (ev_var rfl) (ea_cons (ev_var rfl) ea_nil)) (szb rfl)) ea_nil) (szb rfl)) (rd_cat (sz ?_))) (ev_var rfl) (rd_cat (sz ?_)))) ?_))
  · rw [List.length_map, List.length_singleton]
    omega
  · rw [List.length_append, List.length_map, List.length_map, List.length_singleton]
    omega
  · unfold withP
    rw [ePs, List.map_append, List.map_append]
    rfl
def R_without_product : List D → D → Prop := fun ds d => ∃ ps t, ds = [ePs ps, .int t] ∧ d = ePs (withoutP ps t) ∧ ps.length ≤ 1000
theorem len_without_product {ds : List D} {d : D} (h : R_without_product ds d) : ds.length = 2 := by obtain ⟨_, _, rfl, _⟩ := h; rfl
abbrev s_without_product : Stmt := topS 23
theorem sc_without_product : FnScope ["products", "thickness", "product"] ["products", "thickness"] (defScope s_without_product) := ⟨rfl, rfl, rfl, by decide +kernel, rfl, by decide +kernel, by decide +kernel⟩
theorem cal_without_product (F : Df K mg "without_product" s_without_product) (T : Tx K mg C)  : Cal P w K mg base 1 "without_product" (SpP R_without_product) := by
  refine cal_pure (k := 0) (N := ["products", "thickness", "product"]) (ps := ["products", "thickness"]) (n := 1) F (fun _ _ _ _ _ _ us hl => match us, hl with | [_, _], _ => rfl) sc_without_product rfl (fun ds d h => len_without_product h) (fun f cdv A outer s H E hr => ⟨_, (pss_one (ps_ret (pe_lc (own := [("product", 2)]) (g := (gName 2)) rfl sc_without_product.nd (pi_list (pv 0)) (blkOk_by (own := [("product", 2)]) (N := ["products", "thickness", "product"]) (sc := defScope s_without_product) (by decide +kernel)) (fun _ _ _ _ _ => (pg_name (i := 2) sc_without_product.nd rfl (Or.inl rfl))) (fun _ _ _ _ _ => (pts_one (pt_cmpR op_ne (pe_ix (ix_tupK (K := K) rfl) (pv 2) pe_int (fun _ _ => rfl)) (pv 1) (nomark _)))) (fun _ _ _ _ _ => (pv 2))))), fun ds d h => ?_⟩)
  obtain ⟨ps, t, rfl, rfl, hl⟩ := h
  show Run 0 false _ [.val (ePs ps), .val (.int t), .no] _
  exact run_ret (ev_lc ps eP (fun q => !decide (q.1 = t)) eP (ev_var rfl) (sz (by omega)) fun x _ => ⟨_, _, (by decide), gok_name, et_test (ev_op (ev_op (ev_var rfl) ev_int (rd_ixT at0)) (ev_var rfl) rd_ne), fun _ => ev_var rfl⟩)
def R_with_price : List D → D → Prop := fun ds d => ∃ ps t p, ds = [ePs ps, .int t, .int p] ∧ d = ePs (withPrice ps t p) ∧ ps.length ≤ 1000
theorem len_with_price {ds : List D} {d : D} (h : R_with_price ds d) : ds.length = 3 := by obtain ⟨_, _, _, rfl, _⟩ := h; rfl
abbrev s_with_price : Stmt := topS 24
theorem sc_with_price : FnScope ["products", "thickness", "price"] ["products", "thickness", "price"] (defScope s_with_price) := ⟨rfl, rfl, rfl, by decide +kernel, rfl, by decide +kernel, by decide +kernel⟩
theorem cal_with_price (F : Df K mg "with_price" s_with_price) (T : Tx K mg C) (c_with_product : Cal P w K mg base 1 "with_product" (SpP R_with_product)) (c_without_product : Cal P w K mg base 1 "without_product" (SpP R_without_product)) : Cal P w K mg base 2 "with_price" (SpP R_with_price) := by
  refine cal_pure (k := 1) (N := ["products", "thickness", "price"]) (ps := ["products", "thickness", "price"]) (n := 0) F (fun _ _ _ _ _ _ us hl => match us, hl with | [_, _, _], _ => rfl) sc_with_price rfl (fun ds d h => len_with_price h) (fun f cdv A outer s H E hr => ⟨_, (pss_one (ps_ret (pe_c c_with_product hr (by decide) rfl (pa_cons (pe_c c_without_product hr (by decide) rfl (pa_cons (pv 0) (pa_cons (pv 1) pa_nil))) (pa_cons (pv 1) (pa_cons (pv 2) pa_nil)))))), fun ds d h => ?_⟩)
  obtain ⟨ps, t, p, rfl, rfl, hl⟩ := h
  show Run 0 false _ [.val (ePs ps), .val (.int t), .val (.int p)] _
  have l1 := withoutP_len ps t
  exact run_ret (ev_call (ea_cons (ev_call (ea_cons (ev_var rfl) (ea_cons (ev_var rfl) ea_nil)) ⟨ps, t, rfl, rfl, hl⟩) (ea_cons (ev_var rfl) (ea_cons (ev_var rfl) ea_nil))) ⟨withoutP ps t, t, p, rfl, rfl, by omega⟩)
end
end HL

end
section
set_option maxRecDepth 100000
set_option maxHeartbeats 4000000
namespace HL
open PySem PySem.Spec PyProof.Rows L2 M
local macro_rules | `(tactic| walk_at "fgt") => `(tactic| repeat (first | exact Fgt.nil | apply Fgt.keep | apply Fgt.drop))
section
variable {P : Program} {w : World} {K : PySem.W.Frag} {mg : Str → Option Value} {base : Heap} {C : Addr}
/-! ### plans -/
theorem get_of {l : List Int} {k : Nat} (h : k < l.length) : l[k]? = some (l.getD k 0) := by
  rw [List.getD_eq_getElem?_getD, List.getElem?_eq_getElem h]
  rfl
def R_is_falling : List D → D → Prop := fun ds d => ∃ l, ds = [eL l] ∧ d = .bl (falling l) ∧ l.length ≤ 1000
theorem len_is_falling {ds : List D} {d : D} (h : R_is_falling ds d) : ds.length = 1 := by obtain ⟨_, rfl, _⟩ := h; rfl
abbrev s_is_falling : Stmt := topS 33
theorem sc_is_falling : FnScope ["numbers", "k"] ["numbers"] (defScope s_is_falling) := ⟨rfl, rfl, rfl, by decide +kernel, rfl, by decide +kernel, by decide +kernel⟩
theorem cal_is_falling (F : Df K mg "is_falling" s_is_falling) (T : Tx K mg C)  : Cal P w K mg base 1 "is_falling" (SpP R_is_falling) := by
  refine cal_pure (k := 0) (N := ["numbers", "k"]) (ps := ["numbers"]) (n := 1) F (fun _ _ _ _ _ _ us hl => match us, hl with | [_], _ => rfl) sc_is_falling rfl (fun ds d h => len_is_falling h) (fun f cdv A outer s H E hr => ⟨_, (pss_cons (ps_for PassesOwn.never rfl (pi_range2 rfl T.range (pa_cons pe_int (pa_cons (pe_callB (call_lenK (K := K) rfl) rfl T.len PySem.boot_len (pa_cons (pv 0) pa_nil)) pa_nil))) (pg_name (i := 1) sc_is_falling.nd rfl (Or.inl rfl)) (pss_one (ps_if (pt_cmpR op_gt (pe_ix (ix_listK (K := K) rfl) (pv 0) (pv 1) (fun _ _ => rfl)) (pe_ix (ix_listK (K := K) rfl) (pv 0) (pe_op op_sub (pv 1) pe_int) (fun _ _ => rfl)) (nomark _)) (pss_one (ps_ret pe_bl)) pss_nil)))
    (pss_one (ps_ret pe_bl))), fun ds d h => ?_⟩)
  obtain ⟨l, rfl, rfl, hl⟩ := h
  show Run 0 false _ [.val (eL l), .no] _
  have e : (((l.map D.int).length : Int) - 1).toNat = l.length - 1 := by
    rw [List.length_map]
    omega
  have ff := fall_find (D.bl false) l
  refine run_seqM (o := (List.range (l.length - 1)).findSome? fun k => if l.getD k 0 < l.getD (k + 1) 0 then some (.bl false) else none) (ρ1 := [.val (eL l), .no])
    (run_forR2 (i := 1) (j := ((l.map D.int).length : Int)) (ea_cons ev_int (ea_cons (ev_cb (ea_cons (ev_var rfl) ea_nil) rc_len) ea_nil)) (by rw [List.length_map]; omega) ?_) (fun h => ?_) (fun r h => ?_)
  · rw [e]
    refine loop_find (fun k : Nat => D.int (1 + (k : Nat))) _ _ (List.range (l.length - 1)) fun k hk => ?_
    have hk' : k < l.length - 1 := List.mem_range.mp hk
    have a1 : atI (l.map D.int) (1 + (k : Nat)) = some (.int (l.getD (k + 1) 0)) := atM (by omega) (get_of (by omega))
    have a2 : atI (l.map D.int) (1 + (k : Nat) - 1) = some (.int (l.getD k 0)) := atM (by omega) (get_of (by omega))
    have t : EvT 0 (tTest (tOp (rI0 fun i j => .bl (decide (j < i))) (tOp (rIxL K) (tVar 0) (tVar 1)) (tOp (rIxL K) (tVar 0) (tOp (rI0 fun i j => .int (i - j)) (tVar 1) (tC (.int 1)))))) [.val (eL l), .val (.int (1 + (k : Nat)))] (decide (l.getD k 0 < l.getD (k + 1) 0)) :=
      et_test (ev_op (ev_op (ev_var rfl) (ev_var rfl) (rd_ixL a1)) (ev_op (ev_var rfl) (ev_op (ev_var rfl) ev_int rd_I0) (rd_ixL a2)) rd_B0)
    refine ⟨_, _, gok_name, fun h => ⟨_, run_if t (fun h2 => ?_) (fun _ => run_next), by walk_at "fgt"⟩, fun r h => run_if t (fun h2 => ?_) fun h2 => ?_⟩
    · rw [if_pos (of_decide_eq_true h2)] at h
      cases h
    · rw [if_pos (of_decide_eq_true h2)] at h
      cases h
      exact run_ret ev_bl
    · rw [if_neg (of_decide_eq_false h2)] at h
      cases h
  · rw [ff] at h
    have hf : falling l = true := by
      cases c : falling l with
      | true => rfl
      | false =>
        rw [c] at h
        cases h
    rw [hf]
    exact run_ret ev_bl
  · rw [ff] at h
    cases c : falling l with
    | true =>
      rw [c] at h
      cases h
    | false =>
      rw [c] at h
      cases h
      rfl
def R_is_plan : List D → D → Prop := fun ds d => ∃ ps l, ds = [ePs ps, eL l] ∧ d = .bl (isPlan ps l) ∧ ps.length ≤ 1000 ∧ l.length ≤ 1000
theorem len_is_plan {ds : List D} {d : D} (h : R_is_plan ds d) : ds.length = 2 := by obtain ⟨_, _, rfl, _⟩ := h; rfl
abbrev s_is_plan : Stmt := topS 34
theorem sc_is_plan : FnScope ["products", "numbers", "thickness"] ["products", "numbers"] (defScope s_is_plan) := ⟨rfl, rfl, rfl, by decide +kernel, rfl, by decide +kernel, by decide +kernel⟩
theorem cal_is_plan (F : Df K mg "is_plan" s_is_plan) (T : Tx K mg C) (c_is_falling : Cal P w K mg base 1 "is_falling" (SpP R_is_falling)) (c_has_product : Cal P w K mg base 2 "has_product" (SpP R_has_product)) : Cal P w K mg base 3 "is_plan" (SpP R_is_plan) := by
  refine cal_pure (k := 2) (N := ["products", "numbers", "thickness"]) (ps := ["products", "numbers"]) (n := 1) F (fun _ _ _ _ _ _ us hl => match us, hl with | [_, _], _ => rfl) sc_is_plan rfl (fun ds d h => len_is_plan h) (fun f cdv A outer s H E hr => ⟨_, (pss_cons (ps_if (pt_cmpR op_gt (pe_callB (call_lenK (K := K) rfl) rfl T.len PySem.boot_len (pa_cons (pv 1) pa_nil)) (pe_gi T.c_MOST_LAYERS rfl) (nomark _)) (pss_one (ps_ret pe_bl)) pss_nil)
    (pss_one (ps_ret (pe_and (pe_c c_is_falling hr (by decide) rfl (pa_cons (pv 1) pa_nil)) (pe_one (pe_callB (cr_all rfl) rfl T.all (by decide +kernel) (pa_cons (pe_lc (own := [("thickness", 2)]) (g := (gName 2)) rfl sc_is_plan.nd (pi_list (pv 1)) (blkOk_by (own := [("thickness", 2)]) (N := ["products", "numbers", "thickness"]) (sc := defScope s_is_plan) (by decide +kernel)) (fun _ _ _ _ _ => (pg_name (i := 2) sc_is_plan.nd rfl (Or.inl rfl))) (fun _ _ _ _ _ => pts_nil) (fun _ _ _ _ _ => (pe_c c_has_product hr (by decide) rfl (pa_cons (pv 0) (pa_cons (pv 2) pa_nil))))) pa_nil))))))), fun ds d h => ?_⟩)
  obtain ⟨ps, l, rfl, rfl, hp, hl⟩ := h
  show Run 0 false _ [.val (ePs ps), .val (eL l), .no] _
  refine run_ifR (et_test (ev_op (ev_cb (ea_cons (ev_var rfl) ea_nil) rc_len) ev_int rd_B0)) (fun h => ?_) (fun _ z => nomatch z) (fun h => ?_)
  · have z := of_decide_eq_true h
    rw [List.length_map] at z
    unfold isPlan
    rw [if_pos (by omega)]
    exact run_ret ev_bl
  · have z := of_decide_eq_false h
    rw [List.length_map] at z
    unfold isPlan
    rw [if_neg (by omega)]
    exact run_ret (ev_andV (ev_call (ea_cons (ev_var rfl) ea_nil) ⟨l, rfl, rfl, hl⟩) fun _ => ev_cb (ea_cons (ev_lcM l D.int (has ps) D.bl (ev_var rfl) (sz (by omega)) fun x _ => ⟨_, _, (by decide), gok_name, ev_call (ea_cons (ev_var rfl) (ea_cons (ev_var rfl) ea_nil)) ⟨ps, x, rfl, rfl, hp⟩⟩) ea_nil) rc_all)
def R_value_of : List D → D → Prop := fun ds d => ∃ ps l, ds = [ePs ps, eL l] ∧ d = .int (value ps l) ∧ ps.length ≤ 1000 ∧ l.length ≤ 1000
theorem len_value_of {ds : List D} {d : D} (h : R_value_of ds d) : ds.length = 2 := by obtain ⟨_, _, rfl, _⟩ := h; rfl
abbrev s_value_of : Stmt := topS 35
theorem sc_value_of : FnScope ["products", "plan", "thickness"] ["products", "plan"] (defScope s_value_of) := ⟨rfl, rfl, rfl, by decide +kernel, rfl, by decide +kernel, by decide +kernel⟩
theorem cal_value_of (F : Df K mg "value_of" s_value_of) (T : Tx K mg C) (c_price_of : Cal P w K mg base 1 "price_of" (SpP R_price_of)) : Cal P w K mg base 2 "value_of" (SpP R_value_of) := by
  refine cal_pure (k := 1) (N := ["products", "plan", "thickness"]) (ps := ["products", "plan"]) (n := 1) F (fun _ _ _ _ _ _ us hl => match us, hl with | [_, _], _ => rfl) sc_value_of rfl (fun ds d h => len_value_of h) (fun f cdv A outer s H E hr => ⟨_, (pss_one (ps_ret (pe_callB (cr_sum rfl) rfl T.sum (by decide +kernel) (pa_cons (pe_lc (own := [("thickness", 2)]) (g := (gName 2)) rfl sc_value_of.nd (pi_list (pv 1)) (blkOk_by (own := [("thickness", 2)]) (N := ["products", "plan", "thickness"]) (sc := defScope s_value_of) (by decide +kernel)) (fun _ _ _ _ _ => (pg_name (i := 2) sc_value_of.nd rfl (Or.inl rfl))) (fun _ _ _ _ _ => pts_nil) (fun _ _ _ _ _ => (pe_c c_price_of hr (by decide) rfl (pa_cons (pv 0) (pa_cons (pv 2) pa_nil))))) pa_nil)))), fun ds d h => ?_⟩)
  obtain ⟨ps, l, rfl, rfl, hp, hl⟩ := h
  show Run 0 false _ [.val (ePs ps), .val (eL l), .no] _
  exact run_ret (ev_cb (ea_cons (ev_lcM l D.int (price ps) D.int (ev_var rfl) (sz (by omega)) fun x _ => ⟨_, _, (by decide), gok_name, ev_call (ea_cons (ev_var rfl) (ea_cons (ev_var rfl) ea_nil)) ⟨ps, x, rfl, rfl, hp⟩⟩) ea_nil) rc_sum)
def R_used_by : List D → D → Prop := fun ds d => ∃ l c, ds = [eL l, .int c] ∧ d = .int (used l c) ∧ l.length ≤ 1000
theorem len_used_by {ds : List D} {d : D} (h : R_used_by ds d) : ds.length = 2 := by obtain ⟨_, _, rfl, _⟩ := h; rfl
abbrev s_used_by : Stmt := topS 36
theorem sc_used_by : FnScope ["plan", "cut_loss"] ["plan", "cut_loss"] (defScope s_used_by) := ⟨rfl, rfl, rfl, by decide +kernel, rfl, by decide +kernel, by decide +kernel⟩
theorem cal_used_by (F : Df K mg "used_by" s_used_by) (T : Tx K mg C)  : Cal P w K mg base 1 "used_by" (SpP R_used_by) := by
  refine cal_pure (k := 0) (N := ["plan", "cut_loss"]) (ps := ["plan", "cut_loss"]) (n := 0) F (fun _ _ _ _ _ _ us hl => match us, hl with | [_, _], _ => rfl) sc_used_by rfl (fun ds d h => len_used_by h) (fun f cdv A outer s H E hr => ⟨_, (pss_cons (ps_if (pt_cmpR op_eq (pe_callB (call_lenK (K := K) rfl) rfl T.len PySem.boot_len (pa_cons (pv 0) pa_nil)) pe_int (nomark _)) (pss_one (ps_ret pe_int)) pss_nil)
    (pss_one (ps_ret (pe_op op_add (pe_callB (cr_sum rfl) rfl T.sum (by decide +kernel) (pa_cons (pv 0) pa_nil)) (pe_op op_mul (pv 1) (pe_op op_sub (pe_callB (call_lenK (K := K) rfl) rfl T.len PySem.boot_len (pa_cons (pv 0) pa_nil)) pe_int)))))), fun ds d h => ?_⟩)
  obtain ⟨l, c, rfl, rfl, hl⟩ := h
  show Run 0 false _ [.val (eL l), .val (.int c)] _
  have e : ((l.map D.int).length : Int) = (l.length : Int) := by rw [List.length_map]
  refine run_ifR (et_test (ev_op (ev_cb (ea_cons (ev_var rfl) ea_nil) rc_len) ev_int rd_eq)) (fun h => ?_) (fun _ z => nomatch z) (fun h => ?_)
  · have z := of_decide_eq_true h
    rw [e] at z
    unfold used
    rw [if_pos z]
    exact run_ret ev_int
  · have z := of_decide_eq_false h
    rw [e] at z
    unfold used
    rw [if_neg z, ← e]
    exact run_ret (ev_op (ev_cb (ea_cons (ev_var rfl) ea_nil) rc_sum) (ev_op (ev_var rfl) (ev_op (ev_cb (ea_cons (ev_var rfl) ea_nil) rc_len) ev_int rd_I0) (rd_I (.inr (by rw [e]; omega)))) rd_I0)
def R_cuts_for : List D → D → Prop := fun ds d => ∃ a b c, ds = [.int a, .int b, .int c] ∧ d = .int (cutsFor a b c)
theorem len_cuts_for {ds : List D} {d : D} (h : R_cuts_for ds d) : ds.length = 3 := by obtain ⟨_, _, _, rfl, _⟩ := h; rfl
abbrev s_cuts_for : Stmt := topS 37
theorem sc_cuts_for : FnScope ["layers", "used", "hide"] ["layers", "used", "hide"] (defScope s_cuts_for) := ⟨rfl, rfl, rfl, by decide +kernel, rfl, by decide +kernel, by decide +kernel⟩
theorem cal_cuts_for (F : Df K mg "cuts_for" s_cuts_for) (T : Tx K mg C)  : Cal P w K mg base 1 "cuts_for" (SpP R_cuts_for) := by
  refine cal_pure (k := 0) (N := ["layers", "used", "hide"]) (ps := ["layers", "used", "hide"]) (n := 0) F (fun _ _ _ _ _ _ us hl => match us, hl with | [_, _, _], _ => rfl) sc_cuts_for rfl (fun ds d h => len_cuts_for h) (fun f cdv A outer s H E hr => ⟨_, (pss_cons (ps_if (pt_cmpR op_eq (pv 0) pe_int (nomark _)) (pss_one (ps_ret pe_int)) pss_nil)
    (pss_cons (ps_if (pt_cmpR op_lt (pv 1) (pv 2) (nomark _)) (pss_one (ps_ret (pv 0))) pss_nil)
    (pss_one (ps_ret (pe_op op_sub (pv 0) pe_int))))), fun ds d h => ?_⟩)
  obtain ⟨a, b, c, rfl, rfl⟩ := h
  show Run 0 false _ [.val (.int a), .val (.int b), .val (.int c)] _
  unfold cutsFor
  refine run_ifR (et_test (ev_op (ev_var rfl) ev_int rd_eq)) (fun h => ?_) (fun _ z => nomatch z) (fun h => ?_)
  · rw [if_pos (of_decide_eq_true h)]
    exact run_ret ev_int
  rw [if_neg (of_decide_eq_false h)]
  refine run_ifR (et_test (ev_op (ev_var rfl) (ev_var rfl) rd_B0)) (fun h => ?_) (fun _ z => nomatch z) (fun h => ?_)
  · rw [if_pos (of_decide_eq_true h)]
    exact run_ret (ev_var rfl)
  rw [if_neg (of_decide_eq_false h)]
  exact run_ret (ev_op (ev_var rfl) ev_int rd_I0)
def R_is_fitting : List D → D → Prop := fun ds d => ∃ a b c e, ds = [.int a, .int b, .int c, .int e] ∧ d = .bl (isFit a b c e)
theorem len_is_fitting {ds : List D} {d : D} (h : R_is_fitting ds d) : ds.length = 4 := by obtain ⟨_, _, _, _, rfl, _⟩ := h; rfl
abbrev s_is_fitting : Stmt := topS 38
theorem sc_is_fitting : FnScope ["layers", "used", "max_cuts", "hide"] ["layers", "used", "max_cuts", "hide"] (defScope s_is_fitting) := ⟨rfl, rfl, rfl, by decide +kernel, rfl, by decide +kernel, by decide +kernel⟩
theorem cal_is_fitting (F : Df K mg "is_fitting" s_is_fitting) (T : Tx K mg C) (c_cuts_for : Cal P w K mg base 1 "cuts_for" (SpP R_cuts_for)) : Cal P w K mg base 2 "is_fitting" (SpP R_is_fitting) := by
  refine cal_pure (k := 1) (N := ["layers", "used", "max_cuts", "hide"]) (ps := ["layers", "used", "max_cuts", "hide"]) (n := 0) F (fun _ _ _ _ _ _ us hl => match us, hl with | [_, _, _, _], _ => rfl) sc_is_fitting rfl (fun ds d h => len_is_fitting h) (fun f cdv A outer s H E hr => ⟨_, (pss_one (ps_ret (pe_and (pe_cmpR op_le (pv 1) (pv 3) (nomark _)) (pe_one (pe_cmpR op_le (pe_c c_cuts_for hr (by decide) rfl (pa_cons (pv 0) (pa_cons (pv 1) (pa_cons (pv 3) pa_nil)))) (pv 2) (nomark _)))))), fun ds d h => ?_⟩)
  obtain ⟨a, b, c, e, rfl, rfl⟩ := h
  show Run 0 false _ [.val (.int a), .val (.int b), .val (.int c), .val (.int e)] _
  exact run_ret (ev_andV (ev_op (ev_var rfl) (ev_var rfl) rd_B0) fun _ => ev_op (ev_call (ea_cons (ev_var rfl) (ea_cons (ev_var rfl) (ea_cons (ev_var rfl) ea_nil))) ⟨a, b, e, rfl, rfl⟩) (ev_var rfl) rd_B0)
theorem llen (l : List Int) : ((l.map D.int).length : Int) = (l.length : Int) := by rw [List.length_map]
theorem rc_lenL {l : List Int} : RC (rLenS K) [eL l] (.int (l.length : Int)) := by
  have z := rc_len (K := K) (ds := l.map D.int)
  rw [llen] at z
  exact z
def R_does_fit : List D → D → Prop := fun ds d => ∃ l m c, ds = [eL l, eP m, .int c] ∧ d = .bl (doesFit l m c) ∧ l.length ≤ 1000
theorem len_does_fit {ds : List D} {d : D} (h : R_does_fit ds d) : ds.length = 3 := by obtain ⟨_, _, _, rfl, _⟩ := h; rfl
abbrev s_does_fit : Stmt := topS 39
theorem sc_does_fit : FnScope ["plan", "machine", "hide"] ["plan", "machine", "hide"] (defScope s_does_fit) := ⟨rfl, rfl, rfl, by decide +kernel, rfl, by decide +kernel, by decide +kernel⟩
theorem cal_does_fit (F : Df K mg "does_fit" s_does_fit) (T : Tx K mg C) (c_is_fitting : Cal P w K mg base 2 "is_fitting" (SpP R_is_fitting)) (c_used_by : Cal P w K mg base 1 "used_by" (SpP R_used_by)) : Cal P w K mg base 3 "does_fit" (SpP R_does_fit) := by
  refine cal_pure (k := 2) (N := ["plan", "machine", "hide"]) (ps := ["plan", "machine", "hide"]) (n := 0) F (fun _ _ _ _ _ _ us hl => match us, hl with | [_, _, _], _ => rfl) sc_does_fit rfl (fun ds d h => len_does_fit h) (fun f cdv A outer s H E hr => ⟨_, (pss_one (ps_ret (pe_c c_is_fitting hr (by decide) rfl (pa_cons (pe_callB (call_lenK (K := K) rfl) rfl T.len PySem.boot_len (pa_cons (pv 0) pa_nil)) (pa_cons (pe_c c_used_by hr (by decide) rfl (pa_cons (pv 0) (pa_cons (pe_ix (ix_tupK (K := K) rfl) (pv 1) pe_int (fun _ _ => rfl)) pa_nil))) (pa_cons (pe_ix (ix_tupK (K := K) rfl) (pv 1) pe_int (fun _ _ => rfl)) (pa_cons (pv 2) pa_nil))))))), fun ds d h => ?_⟩)
  obtain ⟨l, m, c, rfl, rfl, hl⟩ := h
  show Run 0 false _ [.val (eL l), .val (eP m), .val (.int c)] _
  exact run_ret (ev_call (ea_cons (ev_cb (ea_cons (ev_var rfl) ea_nil) rc_lenL) (ea_cons (ev_call (ea_cons (ev_var rfl) (ea_cons (ev_op (ev_var rfl) ev_int (rd_ixT at0)) ea_nil)) ⟨l, m.1, rfl, rfl, hl⟩) (ea_cons (ev_op (ev_var rfl) ev_int (rd_ixT at1)) (ea_cons (ev_var rfl) ea_nil)))) ⟨(l.length : Int), used l m.1, m.2, c, rfl, rfl⟩)
def R_plan_cuts : List D → D → Prop := fun ds d => ∃ l m c, ds = [eL l, eP m, .int c] ∧ d = .int (planCuts l m c) ∧ l.length ≤ 1000
theorem len_plan_cuts {ds : List D} {d : D} (h : R_plan_cuts ds d) : ds.length = 3 := by obtain ⟨_, _, _, rfl, _⟩ := h; rfl
abbrev s_plan_cuts : Stmt := topS 40
theorem sc_plan_cuts : FnScope ["plan", "machine", "hide"] ["plan", "machine", "hide"] (defScope s_plan_cuts) := ⟨rfl, rfl, rfl, by decide +kernel, rfl, by decide +kernel, by decide +kernel⟩
theorem cal_plan_cuts (F : Df K mg "plan_cuts" s_plan_cuts) (T : Tx K mg C) (c_cuts_for : Cal P w K mg base 1 "cuts_for" (SpP R_cuts_for)) (c_used_by : Cal P w K mg base 1 "used_by" (SpP R_used_by)) : Cal P w K mg base 2 "plan_cuts" (SpP R_plan_cuts) := by
  refine cal_pure (k := 1) (N := ["plan", "machine", "hide"]) (ps := ["plan", "machine", "hide"]) (n := 0) F (fun _ _ _ _ _ _ us hl => match us, hl with | [_, _, _], _ => rfl) sc_plan_cuts rfl (fun ds d h => len_plan_cuts h) (fun f cdv A outer s H E hr => ⟨_, (pss_one (ps_ret (pe_c c_cuts_for hr (by decide) rfl (pa_cons (pe_callB (call_lenK (K := K) rfl) rfl T.len PySem.boot_len (pa_cons (pv 0) pa_nil)) (pa_cons (pe_c c_used_by hr (by decide) rfl (pa_cons (pv 0) (pa_cons (pe_ix (ix_tupK (K := K) rfl) (pv 1) pe_int (fun _ _ => rfl)) pa_nil))) (pa_cons (pv 2) pa_nil)))))), fun ds d h => ?_⟩)
  obtain ⟨l, m, c, rfl, rfl, hl⟩ := h
  show Run 0 false _ [.val (eL l), .val (eP m), .val (.int c)] _
  exact run_ret (ev_call (ea_cons (ev_cb (ea_cons (ev_var rfl) ea_nil) rc_lenL) (ea_cons (ev_call (ea_cons (ev_var rfl) (ea_cons (ev_op (ev_var rfl) ev_int (rd_ixT at0)) ea_nil)) ⟨l, m.1, rfl, rfl, hl⟩) (ea_cons (ev_var rfl) ea_nil))) ⟨(l.length : Int), used l m.1, c, rfl, rfl⟩)
def R_can_follow : List D → D → Prop := fun ds d => ∃ l t, ds = [eL l, .int t] ∧ d = .bl (canFollow l t)
theorem len_can_follow {ds : List D} {d : D} (h : R_can_follow ds d) : ds.length = 2 := by obtain ⟨_, _, rfl, _⟩ := h; rfl
abbrev s_can_follow : Stmt := topS 41
theorem sc_can_follow : FnScope ["plan", "thickness"] ["plan", "thickness"] (defScope s_can_follow) := ⟨rfl, rfl, rfl, by decide +kernel, rfl, by decide +kernel, by decide +kernel⟩
theorem cal_can_follow (F : Df K mg "can_follow" s_can_follow) (T : Tx K mg C)  : Cal P w K mg base 1 "can_follow" (SpP R_can_follow) := by
  refine cal_pure (k := 0) (N := ["plan", "thickness"]) (ps := ["plan", "thickness"]) (n := 0) F (fun _ _ _ _ _ _ us hl => match us, hl with | [_, _], _ => rfl) sc_can_follow rfl (fun ds d h => len_can_follow h) (fun f cdv A outer s H E hr => ⟨_, (pss_one (ps_ret (pe_or (pe_cmpR op_eq (pe_callB (call_lenK (K := K) rfl) rfl T.len PySem.boot_len (pa_cons (pv 0) pa_nil)) pe_int (nomark _)) (pe_one (pe_cmpR op_le (pv 1) (pe_ix (ix_listK (K := K) rfl) (pv 0) (pe_op op_sub (pe_callB (call_lenK (K := K) rfl) rfl T.len PySem.boot_len (pa_cons (pv 0) pa_nil)) pe_int) (fun _ _ => rfl)) (nomark _)))))), fun ds d h => ?_⟩)
  obtain ⟨l, t, rfl, rfl⟩ := h
  show Run 0 false _ [.val (eL l), .val (.int t)] _
  have e : (decide ((l.length : Int) = 0) || canFollow l t) = canFollow l t := by
    by_cases h : (l.length : Int) = 0
    · have : l = [] := List.eq_nil_of_length_eq_zero (by omega)
      subst this
      rfl
    · rw [decide_eq_false h, Bool.false_or]
  rw [← e]
  refine run_ret (ev_orV (ev_op (ev_cb (ea_cons (ev_var rfl) ea_nil) rc_lenL) ev_int rd_eq) fun h => ?_)
  have h0 := of_decide_eq_false h
  have g : l[l.length - 1]? = some (l.getD (l.length - 1) 0) := get_of (by omega)
  have c : canFollow l t = decide (t ≤ l.getD (l.length - 1) 0) := by
    unfold canFollow
    rw [List.getLast?_eq_getElem?, g]
  rw [c]
  exact ev_op (ev_var rfl) (ev_op (ev_var rfl) (ev_op (ev_cb (ea_cons (ev_var rfl) ea_nil) rc_lenL) ev_int rd_I0) (rd_ixL (atM (by omega) g))) rd_B0
def R_longer_by_one : List D → D → Prop := fun ds d => ∃ ps ts lim, ds = [eLL ps, eL ts, .int lim] ∧ d = eLL (longer ps ts lim) ∧ ps.length ≤ 117649 ∧ ts.length ≤ 7 ∧ ∀ p ∈ ps, p.length ≤ 1000
theorem len_longer_by_one {ds : List D} {d : D} (h : R_longer_by_one ds d) : ds.length = 3 := by obtain ⟨_, _, _, rfl, _⟩ := h; rfl
abbrev s_longer_by_one : Stmt := topS 42
theorem sc_longer_by_one : FnScope ["plans", "thicknesses", "limit", "found", "plan", "thickness"] ["plans", "thicknesses", "limit"] (defScope s_longer_by_one) := ⟨rfl, rfl, rfl, by decide +kernel, rfl, by decide +kernel, by decide +kernel⟩
theorem cal_longer_by_one (F : Df K mg "longer_by_one" s_longer_by_one) (T : Tx K mg C) (c_can_follow : Cal P w K mg base 1 "can_follow" (SpP R_can_follow)) : Cal P w K mg base 2 "longer_by_one" (SpP R_longer_by_one) := by
  refine cal_pure (k := 1) (N := ["plans", "thicknesses", "limit", "found", "plan", "thickness"]) (ps := ["plans", "thicknesses", "limit"]) (n := 3) F (fun _ _ _ _ _ _ us hl => match us, hl with | [_, _, _], _ => rfl) sc_longer_by_one rfl (fun ds d h => len_longer_by_one h) (fun f cdv A outer s H E hr => ⟨_, (pss_cons (ps_set (i := 3) sc_longer_by_one.nd rfl (Or.inl rfl) (pe_lst pa_nil))
    (pss_cons (ps_for PassesOwn.never rfl (pi_list (pv 0)) (pg_name (i := 4) sc_longer_by_one.nd rfl (Or.inl rfl)) (pss_one (ps_for PassesOwn.never rfl (pi_list (pv 1)) (pg_name (i := 5) sc_longer_by_one.nd rfl (Or.inl rfl)) (pss_one (ps_if (PW.pt (pw_and (pt_val (pe_c c_can_follow hr (by decide) rfl (pa_cons (pv 4) (pa_cons (pv 5) pa_nil)))) (pw_and1 (pt_cmpR op_le (pe_op op_add (pe_callB (cr_sum rfl) rfl T.sum (by decide +kernel) (pa_cons (pv 4) pa_nil)) (pv 5)) (pv 2) (nomark _))))) (pss_one (ps_expr (pe_bm PySem.F.plainAttrs_list PySem.F.slot_list_append PySem.F.type_list_append mt_append (pv 3) (pa_cons (pe_op op_cat (pv 4) (pe_lst (pa_cons (pv 5) pa_nil))) pa_nil)))) pss_nil)))))
    (pss_one (ps_ret (pv 3))))), fun ds d h => ?_⟩)
  obtain ⟨ps, ts, lim, rfl, rfl, hp, ht, hs⟩ := h
  show Run 0 false _ [.val (eLL ps), .val (eL ts), .val (.int lim), .no, .no, .no] _
  have fin : ps.foldl (fun a p => a ++ (ts.filter (grow p lim)).map fun t => p ++ [t]) [] = longer ps ts lim := by rw [longer_out, List.nil_append]
  refine run_seq (run_own ea_nil (szb rfl)) (run_seq (run_for (ev_var rfl) (loop_fold (fun a p => a ++ (ts.filter (grow p lim)).map fun t => p ++ [t]) eL (fun a => [.val (eLL ps), .val (eL ts), .val (.int lim), .own (a.map eL), .no, .no]) ps [] fun pre x post e => ?_)) (by rw [fin]; exact run_retO rfl))
  have hpre : (pre.foldl (fun a p => a ++ (ts.filter (grow p lim)).map fun t => p ++ [t]) []).length ≤ 823543 := by
    rw [longer_out, List.nil_append]
    have h1 : pre.length ≤ 117649 := by
      have : ps.length = pre.length + (post.length + 1) := by rw [e, List.length_append, List.length_cons]
      omega
    exact Nat.le_trans (longer_len ts lim pre) (Nat.le_trans (Nat.mul_le_mul h1 ht) (by decide))
  generalize pre.foldl (fun a p => a ++ (ts.filter (grow p lim)).map fun t => p ++ [t]) [] = acc at hpre ⊢
  have hx : x.length ≤ 1000 := hs x (by rw [e]; exact List.mem_append_right _ (List.mem_cons_self ..))
  refine ⟨_, _, _, gok_name, run_for (ev_var rfl) (loop_fold (fun a t => if grow x lim t = true then a ++ [x ++ [t]] else a) D.int (fun a => [.val (eLL ps), .val (eL ts), .val (.int lim), .own (a.map eL), .val (eL x), .no]) ts acc fun pre2 t post2 e2 => ?_), by rw [longer_in]; walk_at "fgt"⟩
  have hacc : (pre2.foldl (fun a t => if grow x lim t = true then a ++ [x ++ [t]] else a) acc).length ≤ 823550 := by
    refine Nat.le_trans (in_len x lim pre2 acc) ?_
    have : ts.length = pre2.length + (post2.length + 1) := by rw [e2, List.length_append, List.length_cons]
    omega
  generalize pre2.foldl (fun a t => if grow x lim t = true then a ++ [x ++ [t]] else a) acc = acc2 at hacc ⊢
  refine ⟨_, [.val (eLL ps), .val (eL ts), .val (.int lim), .own ((if grow x lim t = true then acc2 ++ [x ++ [t]] else acc2).map eL), .val (eL x), .val (.int t)], _, gok_name, run_if (c := grow x lim t) (et_and (et_B (ev_call (ea_cons (ev_var rfl) (ea_cons (ev_var rfl) ea_nil)) ⟨x, t, rfl, rfl⟩)) fun _ => et_test (ev_op (ev_op (ev_cb (ea_cons (ev_var rfl) ea_nil) rc_sum) (ev_var rfl) rd_I0) (ev_var rfl) rd_B0)) (fun h => ?_) (fun h => ?_), by walk_at "fgt"⟩
  · rw [if_pos h]
    have z : (acc2 ++ [x ++ [t]]).map eL = acc2.map eL ++ [.lst (x.map D.int ++ [.int t])] := by
      rw [List.map_append]
      show acc2.map eL ++ [.lst ((x ++ [t]).map D.int)] = _
      rw [List.map_append]
      rfl
    rw [z]
    exact run_app rfl rfl (ev_op (ev_var rfl) (ev_lst (ea_cons (ev_var rfl) ea_nil) (szb rfl)) (rd_cat (sz (by rw [List.length_map, List.length_singleton]; omega)))) (szlt (by rw [List.length_map]; omega))
  · rw [if_neg (by rw [h]; decide)]
    exact run_next
def R_all_plans : List D → D → Prop := fun ds d => ∃ ts lim, ds = [eL ts, .int lim] ∧ d = eLL (allPlans ts lim) ∧ ts.length ≤ 7
theorem len_all_plans {ds : List D} {d : D} (h : R_all_plans ds d) : ds.length = 2 := by obtain ⟨_, _, rfl, _⟩ := h; rfl
abbrev s_all_plans : Stmt := topS 43
theorem sc_all_plans : FnScope ["thicknesses", "limit", "found", "level", "turn"] ["thicknesses", "limit"] (defScope s_all_plans) := ⟨rfl, rfl, rfl, by decide +kernel, rfl, by decide +kernel, by decide +kernel⟩
theorem cal_all_plans (F : Df K mg "all_plans" s_all_plans) (T : Tx K mg C) (c_longer_by_one : Cal P w K mg base 2 "longer_by_one" (SpP R_longer_by_one)) : Cal P w K mg base 3 "all_plans" (SpP R_all_plans) := by
  refine cal_pure (k := 2) (N := ["thicknesses", "limit", "found", "level", "turn"]) (ps := ["thicknesses", "limit"]) (n := 3) F (fun _ _ _ _ _ _ us hl => match us, hl with | [_, _], _ => rfl) sc_all_plans rfl (fun ds d h => len_all_plans h) (fun f cdv A outer s H E hr => ⟨_, (pss_cons (ps_set (i := 2) sc_all_plans.nd rfl (Or.inl rfl) (pe_lst (pa_cons (pe_lst pa_nil) pa_nil)))
    (pss_cons (ps_set (i := 3) sc_all_plans.nd rfl (Or.inl rfl) (pe_lst (pa_cons (pe_lst pa_nil) pa_nil)))
    (pss_cons (ps_for PassesOwn.never rfl (pi_range1 rfl T.range (pa_cons (pe_gi T.c_MOST_LAYERS rfl) pa_nil)) (pg_name (i := 4) sc_all_plans.nd rfl (Or.inl rfl)) (pss_cons (ps_set (i := 3) sc_all_plans.nd rfl (Or.inl rfl) (pe_c c_longer_by_one hr (by decide) rfl (pa_cons (pv 3) (pa_cons (pv 0) (pa_cons (pv 1) pa_nil)))))
    (pss_one (ps_set (i := 2) sc_all_plans.nd rfl (Or.inl rfl) (pe_op op_cat (pv 2) (pv 3))))))
    (pss_one (ps_ret (pv 2)))))), fun ds d h => ?_⟩)
  obtain ⟨ts, lim, rfl, rfl, ht⟩ := h
  show Run 0 false _ [.val (eL ts), .val (.int lim), .no, .no, .no] _
  have lp := loop_fold (C := 0) (m := false) (g := gName 4) (tb := tSeq (tAsg (tCall (SpP R_longer_by_one) [] E0 (tCons (tVar 3) (tCons (tVar 0) (tCons (tVar 1) tNil)))) (gName 3)) (tAsg (tOp rCat (tVar 2) (tVar 3)) (gName 2)))
    (fun s (_ : Nat) => plansStep ts lim s) (fun k : Nat => D.int (0 + (k : Nat))) (fun s => [.val (eL ts), .val (.int lim), .val (eLL s.1), .val (eLL s.2), .no]) (List.range 6) ([[]], [[]]) fun pre x post e => by
      have hpre : pre = List.range pre.length := by
        have z := congrArg (List.take pre.length) e
        rw [List.take_left' rfl, List.take_range] at z
        have hl : pre.length ≤ 6 := by
          have q := congrArg List.length e
          rw [List.length_range, List.length_append, List.length_cons] at q
          omega
        rw [Nat.min_eq_left hl] at z
        exact z.symm
      have hl : pre.length + 1 ≤ 6 := by
        have q := congrArg List.length e
        rw [List.length_range, List.length_append, List.length_cons] at q
        omega
      have es : pre.foldl (fun s (_ : Nat) => plansStep ts lim s) ([[]], [[]]) = plansN ts lim pre.length := by
        rw [hpre, List.length_range]
        exact plansN_fold ts lim _
      rw [es]
      have b0 := plansN_small ts lim ht (n := pre.length) (by omega)
      have b1 := plansN_small ts lim ht (n := pre.length + 1) hl
      have sh := plansN_short ts lim pre.length
      generalize hs : plansN ts lim pre.length = s at b0 sh ⊢
      have hb : (longer s.2 ts lim).length ≤ 117649 := by
        have z := b1.1
        rw [show plansN ts lim (pre.length + 1) = plansStep ts lim (plansN ts lim pre.length) from rfl, hs] at z
        exact z
      refine ⟨_, _, _, gok_name, run_seq (run_asg (ev_call (ea_cons (ev_var rfl) (ea_cons (ev_var rfl) (ea_cons (ev_var rfl) ea_nil))) ⟨s.2, ts, lim, rfl, rfl, b0.1, ht, fun p hp => ?_⟩)) (run_asg (ev_op (ev_var rfl) (ev_var rfl) (rd_cat (sz ?_)))), ?_⟩
      · rw [sh p hp]
        omega
      · rw [List.length_map, List.length_map]
        have := b0.2
        have := hb
        omega
      · have q : eLL (plansStep ts lim s).1 = .lst (s.1.map eL ++ (longer s.2 ts lim).map eL) := by
          show D.lst ((s.1 ++ longer s.2 ts lim).map eL) = _
          rw [List.map_append]
        rw [q]
        walk_at "fgt"
  rw [plansN_fold] at lp
  exact run_seq (run_asg (ev_lst (ea_cons (ev_lst ea_nil (szb rfl)) ea_nil) (szb rfl))) (run_seq (run_asg (ev_lst (ea_cons (ev_lst ea_nil (szb rfl)) ea_nil) (szb rfl))) (run_seq (run_forR1 (n := 6) (ea_cons ev_int ea_nil) (by decide) lp) (run_ret (ev_var rfl))))
def R_is_before : List D → D → Prop := fun ds d => ∃ a b, ds = [eL a, eL b] ∧ d = .bl (before a b) ∧ a.length ≤ 1000 ∧ b.length ≤ 1000
theorem len_is_before {ds : List D} {d : D} (h : R_is_before ds d) : ds.length = 2 := by obtain ⟨_, _, rfl, _⟩ := h; rfl
abbrev s_is_before : Stmt := topS 44
theorem sc_is_before : FnScope ["one", "other", "k"] ["one", "other"] (defScope s_is_before) := ⟨rfl, rfl, rfl, by decide +kernel, rfl, by decide +kernel, by decide +kernel⟩
theorem cal_is_before (F : Df K mg "is_before" s_is_before) (T : Tx K mg C)  : Cal P w K mg base 1 "is_before" (SpP R_is_before) := by
  refine cal_pure (k := 0) (N := ["one", "other", "k"]) (ps := ["one", "other"]) (n := 1) F (fun _ _ _ _ _ _ us hl => match us, hl with | [_, _], _ => rfl) sc_is_before rfl (fun ds d h => len_is_before h) (fun f cdv A outer s H E hr => ⟨_, (pss_cons (ps_for PassesOwn.never rfl (pi_range1 rfl T.range (pa_cons (pe_callB (call_min2S rfl) rfl T.min (by decide +kernel) (pa_cons (pe_callB (call_lenK (K := K) rfl) rfl T.len PySem.boot_len (pa_cons (pv 0) pa_nil)) (pa_cons (pe_callB (call_lenK (K := K) rfl) rfl T.len PySem.boot_len (pa_cons (pv 1) pa_nil)) pa_nil))) pa_nil)) (pg_name (i := 2) sc_is_before.nd rfl (Or.inl rfl)) (pss_one (ps_if (pt_cmpR op_ne (pe_ix (ix_listK (K := K) rfl) (pv 0) (pv 2) (fun _ _ => rfl)) (pe_ix (ix_listK (K := K) rfl) (pv 1) (pv 2) (fun _ _ => rfl)) (nomark _)) (pss_one (ps_ret (pe_cmpR op_gt (pe_ix (ix_listK (K := K) rfl) (pv 0) (pv 2) (fun _ _ => rfl)) (pe_ix (ix_listK (K := K) rfl) (pv 1) (pv 2) (fun _ _ => rfl)) (nomark _)))) pss_nil)))
    (pss_one (ps_ret (pe_cmpR op_lt (pe_callB (call_lenK (K := K) rfl) rfl T.len PySem.boot_len (pa_cons (pv 0) pa_nil)) (pe_callB (call_lenK (K := K) rfl) rfl T.len PySem.boot_len (pa_cons (pv 1) pa_nil)) (nomark _))))), fun ds d h => ?_⟩)
  obtain ⟨a, b, rfl, rfl, ha, hb⟩ := h
  show Run 0 false _ [.val (eL a), .val (eL b), .no] _
  have bf := before_find a b
  have e : (min (a.length : Int) (b.length : Int)).toNat = min a.length b.length := by omega
  refine run_seqM (o := (List.range (min a.length b.length)).findSome? fun k => (if a.getD k 0 = b.getD k 0 then none else some (decide (b.getD k 0 < a.getD k 0))).map D.bl) (ρ1 := [.val (eL a), .val (eL b), .no])
    (run_forR1 (n := min (a.length : Int) (b.length : Int)) (ea_cons (ev_cb (ea_cons (ev_cb (ea_cons (ev_var rfl) ea_nil) rc_lenL) (ea_cons (ev_cb (ea_cons (ev_var rfl) ea_nil) rc_lenL) ea_nil)) rc_min2) ea_nil) (by omega) ?_) (fun h => ?_) (fun r h => ?_)
  · rw [e]
    refine loop_find (fun k : Nat => D.int (0 + (k : Nat))) _ _ (List.range (min a.length b.length)) fun k hk => ?_
    have hk' : k < min a.length b.length := List.mem_range.mp hk
    have a1 : atI (a.map D.int) (0 + (k : Nat)) = some (.int (a.getD k 0)) := atM (by omega) (get_of (by omega))
    have a2 : atI (b.map D.int) (0 + (k : Nat)) = some (.int (b.getD k 0)) := atM (by omega) (get_of (by omega))
    refine ⟨_, _, gok_name, fun h => ⟨_, run_if (c := !decide (a.getD k 0 = b.getD k 0)) (et_test (ev_op (ev_op (ev_var rfl) (ev_var rfl) (rd_ixL a1)) (ev_op (ev_var rfl) (ev_var rfl) (rd_ixL a2)) rd_ne)) (fun h2 => ?_) (fun _ => run_next), by walk_at "fgt"⟩,
      fun r h => run_if (c := !decide (a.getD k 0 = b.getD k 0)) (et_test (ev_op (ev_op (ev_var rfl) (ev_var rfl) (rd_ixL a1)) (ev_op (ev_var rfl) (ev_var rfl) (rd_ixL a2)) rd_ne)) (fun h2 => ?_) fun h2 => ?_⟩
    · rw [if_neg (by simpa using h2)] at h
      cases h
    · rw [if_neg (by simpa using h2)] at h
      cases h
      exact run_ret (ev_op (ev_op (ev_var rfl) (ev_var rfl) (rd_ixL a1)) (ev_op (ev_var rfl) (ev_var rfl) (rd_ixL a2)) rd_B0)
    · rw [if_pos (by simpa using h2)] at h
      cases h
  · rw [findSome_map] at h
    have h' : (List.range (min a.length b.length)).findSome? (fun k => if a.getD k 0 = b.getD k 0 then none else some (decide (b.getD k 0 < a.getD k 0))) = none := by
      revert h
      cases (List.range (min a.length b.length)).findSome? (fun k => if a.getD k 0 = b.getD k 0 then none else some (decide (b.getD k 0 < a.getD k 0))) with
      | none => exact fun _ => rfl
      | some x => exact fun h => nomatch h
    rw [h'] at bf
    rw [← bf]
    exact run_ret (ev_op (ev_cb (ea_cons (ev_var rfl) ea_nil) rc_lenL) (ev_cb (ea_cons (ev_var rfl) ea_nil) rc_lenL) rd_B0)
  · rw [findSome_map] at h
    revert h bf
    cases (List.range (min a.length b.length)).findSome? (fun k => if a.getD k 0 = b.getD k 0 then none else some (decide (b.getD k 0 < a.getD k 0))) with
    | none => exact fun _ h => nomatch h
    | some x =>
      intro bf h
      cases h
      rw [← bf]
end
end HL

end
section
set_option maxRecDepth 100000
set_option maxHeartbeats 4000000
namespace HL
open PySem PySem.Spec PyProof.Rows L2 M
local macro_rules | `(tactic| walk_at "fgt") => `(tactic| repeat (first | exact Fgt.nil | apply Fgt.keep | apply Fgt.drop))
section
variable {P : Program} {w : World} {K : PySem.W.Frag} {mg : Str → Option Value} {base : Heap} {C : Addr}
/-! ### the best -/
theorem thicks_len (ps : Prods) : (thicks ps).length = ps.length := List.length_map ..
def R_fitting_plans : List D → D → Prop := fun ds d => ∃ ps m h, ds = [ePs ps, eP m, .int h] ∧ d = eLL (fitting ps m h) ∧ ps.length ≤ 7
theorem len_fitting_plans {ds : List D} {d : D} (h : R_fitting_plans ds d) : ds.length = 3 := by obtain ⟨_, _, _, rfl, _⟩ := h; rfl
abbrev s_fitting_plans : Stmt := topS 46
theorem sc_fitting_plans : FnScope ["products", "machine", "hide", "plan"] ["products", "machine", "hide"] (defScope s_fitting_plans) := ⟨rfl, rfl, rfl, by decide +kernel, rfl, by decide +kernel, by decide +kernel⟩
theorem cal_fitting_plans (F : Df K mg "fitting_plans" s_fitting_plans) (T : Tx K mg C) (c_all_plans : Cal P w K mg base 3 "all_plans" (SpP R_all_plans)) (c_does_fit : Cal P w K mg base 3 "does_fit" (SpP R_does_fit)) (c_thicknesses_of : Cal P w K mg base 1 "thicknesses_of" (SpP R_thicknesses_of)) : Cal P w K mg base 4 "fitting_plans" (SpP R_fitting_plans) := by
  refine cal_pure (k := 3) (N := ["products", "machine", "hide", "plan"]) (ps := ["products", "machine", "hide"]) (n := 1) F (fun _ _ _ _ _ _ us hl => match us, hl with | [_, _, _], _ => rfl) sc_fitting_plans rfl (fun ds d h => len_fitting_plans h) (fun f cdv A outer s H E hr => ⟨_, (pss_one (ps_ret (pe_lc (own := [("plan", 3)]) (g := (gName 3)) rfl sc_fitting_plans.nd (pi_list (pe_c c_all_plans hr (by decide) rfl (pa_cons (pe_c c_thicknesses_of hr (by decide) rfl (pa_cons (pv 0) pa_nil)) (pa_cons (pv 2) pa_nil)))) (blkOk_by (own := [("plan", 3)]) (N := ["products", "machine", "hide", "plan"]) (sc := defScope s_fitting_plans) (by decide +kernel)) (fun _ _ _ _ _ => (pg_name (i := 3) sc_fitting_plans.nd rfl (Or.inl rfl))) (fun _ _ _ _ _ => (pts_one (pt_val (pe_c c_does_fit hr (by decide) rfl (pa_cons (pv 3) (pa_cons (pv 1) (pa_cons (pv 2) pa_nil))))))) (fun _ _ _ _ _ => (pv 3))))), fun ds d h => ?_⟩)
  obtain ⟨ps, m, h, rfl, rfl, hp⟩ := h
  show Run 0 false _ [.val (ePs ps), .val (eP m), .val (.int h), .no] _
  have tl : (thicks ps).length ≤ 7 := by rw [thicks_len]; exact hp
  exact run_ret (ev_lc (allPlans (thicks ps) h) eL (fun l => doesFit l m h) eL (ev_call (ea_cons (ev_call (ea_cons (ev_var rfl) ea_nil) ⟨ps, rfl, rfl, by omega⟩) (ea_cons (ev_var rfl) ea_nil)) ⟨thicks ps, h, rfl, rfl, tl⟩) (sz (Nat.le_trans (allPlans_len _ _ tl) (by decide)))
    fun x hx => ⟨_, _, (by decide), gok_name, et_B (ev_call (ea_cons (ev_var rfl) (ea_cons (ev_var rfl) (ea_cons (ev_var rfl) ea_nil))) ⟨x, m, h, rfl, rfl, Nat.le_trans (allPlans_short hx) (by decide)⟩), fun _ => ev_var rfl⟩)
def R_plan_rows : List D → D → Prop := fun ds d => ∃ ps c, ds = [ePs ps, .int c] ∧ d = eRs (rows ps c) ∧ ps.length ≤ 7
theorem len_plan_rows {ds : List D} {d : D} (h : R_plan_rows ds d) : ds.length = 2 := by obtain ⟨_, _, rfl, _⟩ := h; rfl
abbrev s_plan_rows : Stmt := topS 47
theorem sc_plan_rows : FnScope ["products", "cut_loss", "plans", "plan"] ["products", "cut_loss"] (defScope s_plan_rows) := ⟨rfl, rfl, rfl, by decide +kernel, rfl, by decide +kernel, by decide +kernel⟩
theorem cal_plan_rows (F : Df K mg "plan_rows" s_plan_rows) (T : Tx K mg C) (c_all_plans : Cal P w K mg base 3 "all_plans" (SpP R_all_plans)) (c_thicknesses_of : Cal P w K mg base 1 "thicknesses_of" (SpP R_thicknesses_of)) (c_used_by : Cal P w K mg base 1 "used_by" (SpP R_used_by)) (c_value_of : Cal P w K mg base 2 "value_of" (SpP R_value_of)) : Cal P w K mg base 4 "plan_rows" (SpP R_plan_rows) := by
  refine cal_pure (k := 3) (N := ["products", "cut_loss", "plans", "plan"]) (ps := ["products", "cut_loss"]) (n := 2) F (fun _ _ _ _ _ _ us hl => match us, hl with | [_, _], _ => rfl) sc_plan_rows rfl (fun ds d h => len_plan_rows h) (fun f cdv A outer s H E hr => ⟨_, (pss_cons (ps_set (i := 2) sc_plan_rows.nd rfl (Or.inl rfl) (pe_c c_all_plans hr (by decide) rfl (pa_cons (pe_c c_thicknesses_of hr (by decide) rfl (pa_cons (pv 0) pa_nil)) (pa_cons (pe_gi T.c_MOST_HIDE rfl) pa_nil))))
    (pss_one (ps_ret (pe_lc (own := [("plan", 3)]) (g := (gName 3)) rfl sc_plan_rows.nd (pi_list (pv 2)) (blkOk_by (own := [("plan", 3)]) (N := ["products", "cut_loss", "plans", "plan"]) (sc := defScope s_plan_rows) (by decide +kernel)) (fun _ _ _ _ _ => (pg_name (i := 3) sc_plan_rows.nd rfl (Or.inl rfl))) (fun _ _ _ _ _ => pts_nil) (fun _ _ _ _ _ => (pe_tup (pa_cons (pe_callB (call_lenK (K := K) rfl) rfl T.len PySem.boot_len (pa_cons (pv 3) pa_nil)) (pa_cons (pe_c c_used_by hr (by decide) rfl (pa_cons (pv 3) (pa_cons (pv 1) pa_nil))) (pa_cons (pe_c c_value_of hr (by decide) rfl (pa_cons (pv 0) (pa_cons (pv 3) pa_nil))) pa_nil))))))))), fun ds d h => ?_⟩)
  obtain ⟨ps, c, rfl, rfl, hp⟩ := h
  show Run 0 false _ [.val (ePs ps), .val (.int c), .no, .no] _
  have tl : (thicks ps).length ≤ 7 := by rw [thicks_len]; exact hp
  exact run_seq (run_asg (ev_call (ea_cons (ev_call (ea_cons (ev_var rfl) ea_nil) ⟨ps, rfl, rfl, by omega⟩) (ea_cons ev_int ea_nil)) ⟨thicks ps, 60, rfl, rfl, tl⟩))
    (run_ret (ev_lcM (allPlans (thicks ps) 60) eL (fun l => ((l.length : Int), used l c, value ps l)) eRow (ev_var rfl) (sz (Nat.le_trans (allPlans_len _ _ tl) (by decide)))
      fun x hx => have hx' : x.length ≤ 1000 := Nat.le_trans (allPlans_short hx) (by decide)
        ⟨_, _, (by decide), gok_name, ev_tup (ea_cons (ev_cb (ea_cons (ev_var rfl) ea_nil) rc_lenL) (ea_cons (ev_call (ea_cons (ev_var rfl) (ea_cons (ev_var rfl) ea_nil)) ⟨x, c, rfl, rfl, hx'⟩) (ea_cons (ev_call (ea_cons (ev_var rfl) (ea_cons (ev_var rfl) ea_nil)) ⟨ps, x, rfl, rfl, by omega, hx'⟩) ea_nil))) (szb rfl)⟩))
def R_best_in_rows : List D → D → Prop := fun ds d => ∃ rs c h, ds = [eRs rs, .int c, .int h] ∧ d = .int (bestIn rs c h)
theorem len_best_in_rows {ds : List D} {d : D} (h : R_best_in_rows ds d) : ds.length = 3 := by obtain ⟨_, _, _, rfl, _⟩ := h; rfl
abbrev s_best_in_rows : Stmt := topS 48
theorem sc_best_in_rows : FnScope ["rows", "max_cuts", "hide", "found", "layers", "used", "value"] ["rows", "max_cuts", "hide"] (defScope s_best_in_rows) := ⟨rfl, rfl, rfl, by decide +kernel, rfl, by decide +kernel, by decide +kernel⟩
theorem cal_best_in_rows (F : Df K mg "best_in_rows" s_best_in_rows) (T : Tx K mg C) (c_is_fitting : Cal P w K mg base 2 "is_fitting" (SpP R_is_fitting)) : Cal P w K mg base 3 "best_in_rows" (SpP R_best_in_rows) := by
  refine cal_pure (k := 2) (N := ["rows", "max_cuts", "hide", "found", "layers", "used", "value"]) (ps := ["rows", "max_cuts", "hide"]) (n := 4) F (fun _ _ _ _ _ _ us hl => match us, hl with | [_, _, _], _ => rfl) sc_best_in_rows rfl (fun ds d h => len_best_in_rows h) (fun f cdv A outer s H E hr => ⟨_, (pss_cons (ps_set (i := 3) sc_best_in_rows.nd rfl (Or.inl rfl) pe_int)
    (pss_cons (ps_for PassesOwn.never rfl (pi_list (pv 0)) (pg_tup rfl (pgs_cons (pg_name (i := 4) sc_best_in_rows.nd rfl (Or.inl rfl)) (pgs_cons (pg_name (i := 5) sc_best_in_rows.nd rfl (Or.inl rfl)) (pgs_cons (pg_name (i := 6) sc_best_in_rows.nd rfl (Or.inl rfl)) pgs_nil)))) (pss_one (ps_if (PW.pt (pw_and (pt_val (pe_c c_is_fitting hr (by decide) rfl (pa_cons (pv 4) (pa_cons (pv 5) (pa_cons (pv 1) (pa_cons (pv 2) pa_nil)))))) (pw_and1 (pt_cmpR op_gt (pv 6) (pv 3) (nomark _))))) (pss_one (ps_set (i := 3) sc_best_in_rows.nd rfl (Or.inl rfl) (pv 6))) pss_nil)))
    (pss_one (ps_ret (pv 3))))), fun ds d h => ?_⟩)
  obtain ⟨rs, c, h, rfl, rfl⟩ := h
  show Run 0 false _ [.val (eRs rs), .val (.int c), .val (.int h), .no, .no, .no, .no] _
  refine run_seq (run_asg ev_int) (run_seq (run_for (ev_var rfl) (loop_fold (bestStep c h) eRow (fun a => [.val (eRs rs), .val (.int c), .val (.int h), .val (.int a), .no, .no, .no]) rs 0 fun pre x post e => ?_)) (run_ret (ev_var rfl)))
  generalize pre.foldl (bestStep c h) 0 = a
  refine ⟨_, [.val (eRs rs), .val (.int c), .val (.int h), .val (.int (bestStep c h a x)), .val (.int x.1), .val (.int x.2.1), .val (.int x.2.2)], _, gok_tup rfl (gsok_cons gok_name (gsok_cons gok_name (gsok_cons gok_name gsok_nil))),
    run_if (c := isFit x.1 x.2.1 c h && decide (a < x.2.2)) (et_and (et_B (ev_call (ea_cons (ev_var rfl) (ea_cons (ev_var rfl) (ea_cons (ev_var rfl) (ea_cons (ev_var rfl) ea_nil)))) ⟨x.1, x.2.1, c, h, rfl, rfl⟩)) fun _ => et_test (ev_op (ev_var rfl) (ev_var rfl) rd_B0)) (fun z => ?_) (fun z => ?_), by walk_at "fgt"⟩
  · unfold bestStep
    rw [if_pos z]
    exact run_asg (ev_var rfl)
  · unfold bestStep
    rw [if_neg (by rw [z]; decide)]
    exact run_next
def R_best_value_of : List D → D → Prop := fun ds d => ∃ ps m h, ds = [ePs ps, eP m, .int h] ∧ d = .int (bestValue ps m h) ∧ ps.length ≤ 7
theorem len_best_value_of {ds : List D} {d : D} (h : R_best_value_of ds d) : ds.length = 3 := by obtain ⟨_, _, _, rfl, _⟩ := h; rfl
abbrev s_best_value_of : Stmt := topS 49
theorem sc_best_value_of : FnScope ["products", "machine", "hide"] ["products", "machine", "hide"] (defScope s_best_value_of) := ⟨rfl, rfl, rfl, by decide +kernel, rfl, by decide +kernel, by decide +kernel⟩
theorem cal_best_value_of (F : Df K mg "best_value_of" s_best_value_of) (T : Tx K mg C) (c_best_in_rows : Cal P w K mg base 3 "best_in_rows" (SpP R_best_in_rows)) (c_plan_rows : Cal P w K mg base 4 "plan_rows" (SpP R_plan_rows)) : Cal P w K mg base 5 "best_value_of" (SpP R_best_value_of) := by
  refine cal_pure (k := 4) (N := ["products", "machine", "hide"]) (ps := ["products", "machine", "hide"]) (n := 0) F (fun _ _ _ _ _ _ us hl => match us, hl with | [_, _, _], _ => rfl) sc_best_value_of rfl (fun ds d h => len_best_value_of h) (fun f cdv A outer s H E hr => ⟨_, (pss_one (ps_ret (pe_c c_best_in_rows hr (by decide) rfl (pa_cons (pe_c c_plan_rows hr (by decide) rfl (pa_cons (pv 0) (pa_cons (pe_ix (ix_tupK (K := K) rfl) (pv 1) pe_int (fun _ _ => rfl)) pa_nil))) (pa_cons (pe_ix (ix_tupK (K := K) rfl) (pv 1) pe_int (fun _ _ => rfl)) (pa_cons (pv 2) pa_nil)))))), fun ds d h => ?_⟩)
  obtain ⟨ps, m, h, rfl, rfl, hp⟩ := h
  show Run 0 false _ [.val (ePs ps), .val (eP m), .val (.int h)] _
  exact run_ret (ev_call (ea_cons (ev_call (ea_cons (ev_var rfl) (ea_cons (ev_op (ev_var rfl) ev_int (rd_ixT at0)) ea_nil)) ⟨ps, m.1, rfl, rfl, hp⟩) (ea_cons (ev_op (ev_var rfl) ev_int (rd_ixT at1)) (ea_cons (ev_var rfl) ea_nil))) ⟨rows ps m.1, m.2, h, rfl, rfl⟩)
def R_best_values_of : List D → D → Prop := fun ds d => ∃ ps m hs, ds = [ePs ps, eP m, eL hs] ∧ d = eL (bestValues ps m hs) ∧ ps.length ≤ 7 ∧ hs.length ≤ 1000
theorem len_best_values_of {ds : List D} {d : D} (h : R_best_values_of ds d) : ds.length = 3 := by obtain ⟨_, _, _, rfl, _⟩ := h; rfl
abbrev s_best_values_of : Stmt := topS 50
theorem sc_best_values_of : FnScope ["products", "machine", "hides", "rows", "hide"] ["products", "machine", "hides"] (defScope s_best_values_of) := ⟨rfl, rfl, rfl, by decide +kernel, rfl, by decide +kernel, by decide +kernel⟩
theorem cal_best_values_of (F : Df K mg "best_values_of" s_best_values_of) (T : Tx K mg C) (c_plan_rows : Cal P w K mg base 4 "plan_rows" (SpP R_plan_rows)) (c_best_in_rows : Cal P w K mg base 3 "best_in_rows" (SpP R_best_in_rows)) : Cal P w K mg base 5 "best_values_of" (SpP R_best_values_of) := by
  refine cal_pure (k := 4) (N := ["products", "machine", "hides", "rows", "hide"]) (ps := ["products", "machine", "hides"]) (n := 2) F (fun _ _ _ _ _ _ us hl => match us, hl with | [_, _, _], _ => rfl) sc_best_values_of rfl (fun ds d h => len_best_values_of h) (fun f cdv A outer s H E hr => ⟨_, (pss_cons (ps_set (i := 3) sc_best_values_of.nd rfl (Or.inr rfl) (pe_c c_plan_rows hr (by decide) rfl (pa_cons (pv 0) (pa_cons (pe_ix (ix_tupK (K := K) rfl) (pv 1) pe_int (fun _ _ => rfl)) pa_nil))))
    (pss_one (ps_ret (pe_lc (own := [("hide", 4)]) (g := (gName 4)) rfl sc_best_values_of.nd (pi_list (pv 2)) (blkOk_by (own := [("hide", 4)]) (N := ["products", "machine", "hides", "rows", "hide"]) (sc := defScope s_best_values_of) (by decide +kernel)) (fun _ _ _ _ _ => (pg_name (i := 4) sc_best_values_of.nd rfl (Or.inl rfl))) (fun _ _ _ _ _ => pts_nil) (fun _ _ _ _ _ => (pe_c c_best_in_rows hr (by decide) rfl (pa_cons (pv 3) (pa_cons (pe_ix (ix_tupK (K := K) rfl) (pv 1) pe_int (fun _ _ => rfl)) (pa_cons (pv 4) pa_nil))))))))), fun ds d h => ?_⟩)
  obtain ⟨ps, m, hs, rfl, rfl, hp, hl⟩ := h
  show Run 0 false _ [.val (ePs ps), .val (eP m), .val (eL hs), .no, .no] _
  exact run_seq (run_asg (ev_call (ea_cons (ev_var rfl) (ea_cons (ev_op (ev_var rfl) ev_int (rd_ixT at0)) ea_nil)) ⟨ps, m.1, rfl, rfl, hp⟩))
    (run_ret (ev_lcM hs D.int (bestIn (rows ps m.1) m.2) D.int (ev_var rfl) (sz (by omega)) fun x hx => ⟨_, _, (by decide), gok_name, ev_call (ea_cons (ev_var rfl) (ea_cons (ev_op (ev_var rfl) ev_int (rd_ixT at1)) (ea_cons (ev_var rfl) ea_nil))) ⟨rows ps m.1, m.2, x, rfl, rfl⟩⟩))
def R_is_better : List D → D → Prop := fun ds d => ∃ ps m h a b, ds = [ePs ps, eP m, .int h, eL a, eL b] ∧ d = .bl (better ps m h a b) ∧ ps.length ≤ 7 ∧ a.length ≤ 1000 ∧ b.length ≤ 1000
theorem len_is_better {ds : List D} {d : D} (h : R_is_better ds d) : ds.length = 5 := by obtain ⟨_, _, _, _, _, rfl, _⟩ := h; rfl
abbrev s_is_better : Stmt := topS 51
theorem sc_is_better : FnScope ["products", "machine", "hide", "one", "other", "one_value", "other_value", "one_cuts", "other_cuts"] ["products", "machine", "hide", "one", "other"] (defScope s_is_better) := ⟨rfl, rfl, rfl, by decide +kernel, rfl, by decide +kernel, by decide +kernel⟩
theorem cal_is_better (F : Df K mg "is_better" s_is_better) (T : Tx K mg C) (c_value_of : Cal P w K mg base 2 "value_of" (SpP R_value_of)) (c_plan_cuts : Cal P w K mg base 2 "plan_cuts" (SpP R_plan_cuts)) (c_is_before : Cal P w K mg base 1 "is_before" (SpP R_is_before)) : Cal P w K mg base 3 "is_better" (SpP R_is_better) := by
  refine cal_pure (k := 2) (N := ["products", "machine", "hide", "one", "other", "one_value", "other_value", "one_cuts", "other_cuts"]) (ps := ["products", "machine", "hide", "one", "other"]) (n := 4) F (fun _ _ _ _ _ _ us hl => match us, hl with | [_, _, _, _, _], _ => rfl) sc_is_better rfl (fun ds d h => len_is_better h) (fun f cdv A outer s H E hr => ⟨_, (pss_cons (ps_set (i := 5) sc_is_better.nd rfl (Or.inl rfl) (pe_c c_value_of hr (by decide) rfl (pa_cons (pv 0) (pa_cons (pv 3) pa_nil))))
    (pss_cons (ps_set (i := 6) sc_is_better.nd rfl (Or.inl rfl) (pe_c c_value_of hr (by decide) rfl (pa_cons (pv 0) (pa_cons (pv 4) pa_nil))))
    (pss_cons (ps_if (pt_cmpR op_ne (pv 5) (pv 6) (nomark _)) (pss_one (ps_ret (pe_cmpR op_gt (pv 5) (pv 6) (nomark _)))) pss_nil)
    (pss_cons (ps_set (i := 7) sc_is_better.nd rfl (Or.inl rfl) (pe_c c_plan_cuts hr (by decide) rfl (pa_cons (pv 3) (pa_cons (pv 1) (pa_cons (pv 2) pa_nil)))))
    (pss_cons (ps_set (i := 8) sc_is_better.nd rfl (Or.inl rfl) (pe_c c_plan_cuts hr (by decide) rfl (pa_cons (pv 4) (pa_cons (pv 1) (pa_cons (pv 2) pa_nil)))))
    (pss_cons (ps_if (pt_cmpR op_ne (pv 7) (pv 8) (nomark _)) (pss_one (ps_ret (pe_cmpR op_lt (pv 7) (pv 8) (nomark _)))) pss_nil)
    (pss_one (ps_ret (pe_c c_is_before hr (by decide) rfl (pa_cons (pv 3) (pa_cons (pv 4) pa_nil))))))))))), fun ds d h => ?_⟩)
  obtain ⟨ps, m, h, a, b, rfl, rfl, hp, ha, hb⟩ := h
  show Run 0 false _ [.val (ePs ps), .val (eP m), .val (.int h), .val (eL a), .val (eL b), .no, .no, .no, .no] _
  refine run_seq (run_asg (ev_call (ea_cons (ev_var rfl) (ea_cons (ev_var rfl) ea_nil)) ⟨ps, a, rfl, rfl, by omega, ha⟩)) (run_seq (run_asg (ev_call (ea_cons (ev_var rfl) (ea_cons (ev_var rfl) ea_nil)) ⟨ps, b, rfl, rfl, by omega, hb⟩)) ?_)
  unfold better
  refine run_ifR (c := !decide (value ps a = value ps b)) (et_test (ev_op (ev_var rfl) (ev_var rfl) rd_ne)) (fun z => ?_) (fun _ z => nomatch z) (fun z => ?_)
  · rw [if_neg (by simpa using z)]
    exact run_ret (ev_op (ev_var rfl) (ev_var rfl) rd_B0)
  rw [if_pos (by simpa using z)]
  refine run_seq (run_asg (ev_call (ea_cons (ev_var rfl) (ea_cons (ev_var rfl) (ea_cons (ev_var rfl) ea_nil))) ⟨a, m, h, rfl, rfl, ha⟩)) (run_seq (run_asg (ev_call (ea_cons (ev_var rfl) (ea_cons (ev_var rfl) (ea_cons (ev_var rfl) ea_nil))) ⟨b, m, h, rfl, rfl, hb⟩)) ?_)
  refine run_ifR (c := !decide (planCuts a m h = planCuts b m h)) (et_test (ev_op (ev_var rfl) (ev_var rfl) rd_ne)) (fun z => ?_) (fun _ z => nomatch z) (fun z => ?_)
  · rw [if_neg (by simpa using z)]
    exact run_ret (ev_op (ev_var rfl) (ev_var rfl) rd_B0)
  rw [if_pos (by simpa using z)]
  exact run_ret (ev_call (ea_cons (ev_var rfl) (ea_cons (ev_var rfl) ea_nil)) ⟨a, b, rfl, rfl, ha, hb⟩)
def R_best_plan_of : List D → D → Prop := fun ds d => ∃ ps m h, ds = [ePs ps, eP m, .int h] ∧ d = eL (bestPlan ps m h) ∧ ps.length ≤ 7
theorem len_best_plan_of {ds : List D} {d : D} (h : R_best_plan_of ds d) : ds.length = 3 := by obtain ⟨_, _, _, rfl, _⟩ := h; rfl
abbrev s_best_plan_of : Stmt := topS 52
theorem sc_best_plan_of : FnScope ["products", "machine", "hide", "found", "plan"] ["products", "machine", "hide"] (defScope s_best_plan_of) := ⟨rfl, rfl, rfl, by decide +kernel, rfl, by decide +kernel, by decide +kernel⟩
theorem cal_best_plan_of (F : Df K mg "best_plan_of" s_best_plan_of) (T : Tx K mg C) (c_fitting_plans : Cal P w K mg base 4 "fitting_plans" (SpP R_fitting_plans)) (c_is_better : Cal P w K mg base 3 "is_better" (SpP R_is_better)) : Cal P w K mg base 5 "best_plan_of" (SpP R_best_plan_of) := by
  refine cal_pure (k := 4) (N := ["products", "machine", "hide", "found", "plan"]) (ps := ["products", "machine", "hide"]) (n := 2) F (fun _ _ _ _ _ _ us hl => match us, hl with | [_, _, _], _ => rfl) sc_best_plan_of rfl (fun ds d h => len_best_plan_of h) (fun f cdv A outer s H E hr => ⟨_, (pss_cons (ps_set (i := 3) sc_best_plan_of.nd rfl (Or.inl rfl) (pe_lst pa_nil))
    (pss_cons (ps_for PassesOwn.never rfl (pi_list (pe_c c_fitting_plans hr (by decide) rfl (pa_cons (pv 0) (pa_cons (pv 1) (pa_cons (pv 2) pa_nil))))) (pg_name (i := 4) sc_best_plan_of.nd rfl (Or.inl rfl)) (pss_one (ps_if (pt_val (pe_c c_is_better hr (by decide) rfl (pa_cons (pv 0) (pa_cons (pv 1) (pa_cons (pv 2) (pa_cons (pv 4) (pa_cons (pv 3) pa_nil))))))) (pss_one (ps_set (i := 3) sc_best_plan_of.nd rfl (Or.inl rfl) (pv 4))) pss_nil)))
    (pss_one (ps_ret (pv 3))))), fun ds d h => ?_⟩)
  obtain ⟨ps, m, h, rfl, rfl, hp⟩ := h
  show Run 0 false _ [.val (ePs ps), .val (eP m), .val (.int h), .no, .no] _
  refine run_seq (run_asg (ev_lst ea_nil (szb rfl))) (run_seq (run_for (ev_call (ea_cons (ev_var rfl) (ea_cons (ev_var rfl) (ea_cons (ev_var rfl) ea_nil))) ⟨ps, m, h, rfl, rfl, hp⟩)
    (loop_fold (fun f p => if better ps m h p f = true then p else f) eL (fun a => [.val (ePs ps), .val (eP m), .val (.int h), .val (eL a), .no]) (fitting ps m h) [] fun pre x post e => ?_)) (run_ret (ev_var rfl)))
  have hx : x.length ≤ 6 := fitting_short (by rw [e]; exact List.mem_append_right _ (List.mem_cons_self ..))
  have hf : (pre.foldl (fun f p => if better ps m h p f = true then p else f) []).length ≤ 6 := fold_short pre [] (by decide) fun p hq => fitting_short (by rw [e]; exact List.mem_append_left _ hq)
  generalize pre.foldl (fun f p => if better ps m h p f = true then p else f) [] = a at hf ⊢
  refine ⟨_, [.val (ePs ps), .val (eP m), .val (.int h), .val (eL (if better ps m h x a = true then x else a)), .val (eL x)], _, gok_name, run_if (c := better ps m h x a) (et_B (ev_call (ea_cons (ev_var rfl) (ea_cons (ev_var rfl) (ea_cons (ev_var rfl) (ea_cons (ev_var rfl) (ea_cons (ev_var rfl) ea_nil))))) ⟨ps, m, h, x, a, rfl, rfl, hp, by omega, by omega⟩)) (fun z => ?_) (fun z => ?_), by walk_at "fgt"⟩
  · rw [if_pos z]
    exact run_asg (ev_var rfl)
  · rw [if_neg (by rw [z]; decide)]
    exact run_next
def R_best_count_of : List D → D → Prop := fun ds d => ∃ ps m h, ds = [ePs ps, eP m, .int h] ∧ d = .int (bestCount ps m h) ∧ ps.length ≤ 7 ∧ 0 ≤ h ∧ 0 ≤ m.2
theorem len_best_count_of {ds : List D} {d : D} (h : R_best_count_of ds d) : ds.length = 3 := by obtain ⟨_, _, _, rfl, _⟩ := h; rfl
abbrev s_best_count_of : Stmt := topS 53
theorem sc_best_count_of : FnScope ["products", "machine", "hide", "values", "plan"] ["products", "machine", "hide"] (defScope s_best_count_of) := ⟨rfl, rfl, rfl, by decide +kernel, rfl, by decide +kernel, by decide +kernel⟩
theorem cal_best_count_of (F : Df K mg "best_count_of" s_best_count_of) (T : Tx K mg C) (c_value_of : Cal P w K mg base 2 "value_of" (SpP R_value_of)) (c_fitting_plans : Cal P w K mg base 4 "fitting_plans" (SpP R_fitting_plans)) : Cal P w K mg base 5 "best_count_of" (SpP R_best_count_of) := by
  refine cal_pure (k := 4) (N := ["products", "machine", "hide", "values", "plan"]) (ps := ["products", "machine", "hide"]) (n := 2) F (fun _ _ _ _ _ _ us hl => match us, hl with | [_, _, _], _ => rfl) sc_best_count_of rfl (fun ds d h => len_best_count_of h) (fun f cdv A outer s H E hr => ⟨_, (pss_cons (ps_setLc (i := 3) (own := [("plan", 4)]) (g := (gName 4)) rfl sc_best_count_of.nd rfl rfl (sw_true rfl rfl rfl (by decide +kernel)) (pi_list (pe_c c_fitting_plans hr (by decide) rfl (pa_cons (pv 0) (pa_cons (pv 1) (pa_cons (pv 2) pa_nil))))) (blkOk_by (own := [("plan", 4)]) (N := ["products", "machine", "hide", "values", "plan"]) (sc := defScope s_best_count_of) (by decide +kernel)) (fun _ _ _ _ _ => (pg_name (i := 4) sc_best_count_of.nd rfl (Or.inl rfl))) (fun _ _ _ _ _ => pts_nil) (fun _ _ _ _ _ => (pe_c c_value_of hr (by decide) rfl (pa_cons (pv 0) (pa_cons (pv 4) pa_nil)))))
    (pss_one (ps_ret (pe_bm PySem.F.plainAttrs_list PySem.F.slot_list_count PySem.F.type_list_count mt_lcount (pv 3) (pa_cons (pe_callB (cr_max rfl) rfl T.max (by decide +kernel) (pa_cons (pv 3) pa_nil)) pa_nil))))), fun ds d h => ?_⟩)
  obtain ⟨ps, m, h, rfl, rfl, hp, h0, hm⟩ := h
  show Run 0 false _ [.val (ePs ps), .val (eP m), .val (.int h), .no, .no] _
  have tl : (thicks ps).length ≤ 7 := by rw [thicks_len]; exact hp
  have hne : (fitting ps m h).map (value ps) ≠ [] := fun z => fitting_ne ps h0 hm (List.map_eq_nil_iff.mp z)
  exact run_seq (run_asg (ev_lcM (fitting ps m h) eL (value ps) D.int (ev_call (ea_cons (ev_var rfl) (ea_cons (ev_var rfl) (ea_cons (ev_var rfl) ea_nil))) ⟨ps, m, h, rfl, rfl, hp⟩) (sz (Nat.le_trans (List.length_filter_le _ _) (Nat.le_trans (allPlans_len _ _ tl) (by decide))))
      fun x hx => ⟨_, _, (by decide), gok_name, ev_call (ea_cons (ev_var rfl) (ea_cons (ev_var rfl) ea_nil)) ⟨ps, x, rfl, rfl, by omega, Nat.le_trans (fitting_short hx) (by decide)⟩⟩))
    (run_ret (ev_count (ev_var rfl) (ev_cb (ea_cons (ev_var rfl) ea_nil) (rc_max hne fun k k1 k2 => Int.le_antisymm (maxL_ge k1) (k2 _ (maxL_mem hne))))))
def R_least_hide : List D → D → Prop := fun ds d => ∃ ps m v, ds = [ePs ps, eP m, .int v] ∧ d = .int (leastHide ps m v) ∧ ps.length ≤ 7
theorem len_least_hide {ds : List D} {d : D} (h : R_least_hide ds d) : ds.length = 3 := by obtain ⟨_, _, _, rfl, _⟩ := h; rfl
abbrev s_least_hide : Stmt := topS 54
theorem sc_least_hide : FnScope ["products", "machine", "value", "rows", "hide"] ["products", "machine", "value"] (defScope s_least_hide) := ⟨rfl, rfl, rfl, by decide +kernel, rfl, by decide +kernel, by decide +kernel⟩
theorem cal_least_hide (F : Df K mg "least_hide" s_least_hide) (T : Tx K mg C) (c_plan_rows : Cal P w K mg base 4 "plan_rows" (SpP R_plan_rows)) (c_best_in_rows : Cal P w K mg base 3 "best_in_rows" (SpP R_best_in_rows)) : Cal P w K mg base 5 "least_hide" (SpP R_least_hide) := by
  refine cal_pure (k := 4) (N := ["products", "machine", "value", "rows", "hide"]) (ps := ["products", "machine", "value"]) (n := 2) F (fun _ _ _ _ _ _ us hl => match us, hl with | [_, _, _], _ => rfl) sc_least_hide rfl (fun ds d h => len_least_hide h) (fun f cdv A outer s H E hr => ⟨_, (pss_cons (ps_set (i := 3) sc_least_hide.nd rfl (Or.inl rfl) (pe_c c_plan_rows hr (by decide) rfl (pa_cons (pv 0) (pa_cons (pe_ix (ix_tupK (K := K) rfl) (pv 1) pe_int (fun _ _ => rfl)) pa_nil))))
    (pss_cons (ps_for PassesOwn.never rfl (pi_range1 rfl T.range (pa_cons (pe_op op_add (pe_gi T.c_MOST_HIDE rfl) pe_int) pa_nil)) (pg_name (i := 4) sc_least_hide.nd rfl (Or.inl rfl)) (pss_one (ps_if (pt_cmpR op_ge (pe_c c_best_in_rows hr (by decide) rfl (pa_cons (pv 3) (pa_cons (pe_ix (ix_tupK (K := K) rfl) (pv 1) pe_int (fun _ _ => rfl)) (pa_cons (pv 4) pa_nil)))) (pv 2) (nomark _)) (pss_one (ps_ret (pv 4))) pss_nil)))
    (pss_one (ps_ret (pe_un un_neg pe_int))))), fun ds d h => ?_⟩)
  obtain ⟨ps, m, v, rfl, rfl, hp⟩ := h
  show Run 0 false _ [.val (ePs ps), .val (eP m), .val (.int v), .no, .no] _
  refine run_seq (run_asg (ev_call (ea_cons (ev_var rfl) (ea_cons (ev_op (ev_var rfl) ev_int (rd_ixT at0)) ea_nil)) ⟨ps, m.1, rfl, rfl, hp⟩)) ?_
  have e : leastHide ps m v = match (List.range 61).findSome? fun h => if v ≤ bestIn (rows ps m.1) m.2 ((h : Nat) : Int) then some ((h : Nat) : Int) else none with
    | some h => h
    | none => -1 := rfl
  refine run_seqM (o := (List.range 61).findSome? fun k => (if v ≤ bestIn (rows ps m.1) m.2 ((k : Nat) : Int) then some ((k : Nat) : Int) else none).map D.int) (ρ1 := [.val (ePs ps), .val (eP m), .val (.int v), .val (eRs (rows ps m.1)), .no])
    (run_forR1 (n := 60 + 1) (ea_cons (ev_op ev_int ev_int rd_I0) ea_nil) (by decide) ?_) (fun h => ?_) (fun r h => ?_)
  · refine loop_find (fun k : Nat => D.int (0 + (k : Nat))) _ _ (List.range 61) fun k hk => ?_
    have ek : (0 : Int) + (k : Nat) = (k : Nat) := Int.zero_add _
    rw [ek]
    refine ⟨_, _, gok_name, fun h => ⟨_, run_if (c := decide (v ≤ bestIn (rows ps m.1) m.2 ((k : Nat) : Int))) (et_test (ev_op (ev_call (ea_cons (ev_var rfl) (ea_cons (ev_op (ev_var rfl) ev_int (rd_ixT at1)) (ea_cons (ev_var rfl) ea_nil))) ⟨rows ps m.1, m.2, (k : Nat), rfl, rfl⟩) (ev_var rfl) rd_B0)) (fun h2 => ?_) (fun _ => run_next), by walk_at "fgt"⟩,
      fun r h => run_if (c := decide (v ≤ bestIn (rows ps m.1) m.2 ((k : Nat) : Int))) (et_test (ev_op (ev_call (ea_cons (ev_var rfl) (ea_cons (ev_op (ev_var rfl) ev_int (rd_ixT at1)) (ea_cons (ev_var rfl) ea_nil))) ⟨rows ps m.1, m.2, (k : Nat), rfl, rfl⟩) (ev_var rfl) rd_B0)) (fun h2 => ?_) fun h2 => ?_⟩
    · rw [if_pos (of_decide_eq_true h2)] at h
      cases h
    · rw [if_pos (of_decide_eq_true h2)] at h
      cases h
      exact run_ret (ev_var rfl)
    · rw [if_neg (of_decide_eq_false h2)] at h
      cases h
  · rw [findSome_map] at h
    rw [e]
    revert h
    cases (List.range 61).findSome? fun h => if v ≤ bestIn (rows ps m.1) m.2 ((h : Nat) : Int) then some ((h : Nat) : Int) else none with
    | none => exact fun _ => run_ret (ev_un ev_int ru_neg)
    | some x => exact fun h => nomatch h
  · rw [findSome_map] at h
    rw [e]
    revert h
    cases (List.range 61).findSome? fun h => if v ≤ bestIn (rows ps m.1) m.2 ((h : Nat) : Int) then some ((h : Nat) : Int) else none with
    | none => exact fun h => nomatch h
    | some x =>
      intro h
      cases h
      rfl
end
end HL

end
section
set_option maxRecDepth 100000
set_option maxHeartbeats 4000000
namespace HL
open PySem PySem.Spec PyProof.Rows L2 M
local macro_rules | `(tactic| walk_at "fgt") => `(tactic| repeat (first | exact Fgt.nil | apply Fgt.keep | apply Fgt.drop))
section
variable {P : Program} {w : World} {K : PySem.W.Frag} {mg : Str → Option Value} {base : Heap} {C : Addr}
/-! ### the operations that change -/
theorem rc_lenP {ps : Prods} : RC (rLenS K) [ePs ps] (.int (ps.length : Int)) := by
  have z := rc_len (K := K) (ds := ps.map eP)
  rw [List.length_map] at z
  exact z
theorem gok_two {ρ : List S} {i j : Nat} {a b : Int} : GOk C (gUnl K 2 (gCons (gName i) (gCons (gName j) gNil))) ([i] ++ ([j] ++ [])) (eL [a, b]) ρ ((ρ.set i (.val (.int a))).set j (.val (.int b))) := gok_unl rfl (gsok_cons gok_name (gsok_cons gok_name gsok_nil))
theorem gok_three {ρ : List S} {i j k : Nat} {a b c : Int} : GOk C (gUnl K 3 (gCons (gName i) (gCons (gName j) (gCons (gName k) gNil)))) ([i] ++ ([j] ++ ([k] ++ []))) (eL [a, b, c]) ρ (((ρ.set i (.val (.int a))).set j (.val (.int b))).set k (.val (.int c))) := gok_unl rfl (gsok_cons gok_name (gsok_cons gok_name (gsok_cons gok_name gsok_nil)))
theorem ev_one {ρ : List S} {te : TE} {i : Int} (h : Ev C te ρ (.int i)) : Ev C (tLst (tCons te tNil)) ρ (eL [i]) := ev_lst (ea_cons h ea_nil) (szb rfl)
theorem not_true {b : Bool} (h : (!b) = true) : ¬ b = true := by
  cases b with
  | true => cases h
  | false => exact Bool.false_ne_true
theorem not_false {b : Bool} (h : (!b) = false) : b = true := by
  cases b with
  | true => rfl
  | false => cases h
def R_create : Bs → List D → Bs → D → Prop := fun w ds w' d => ∃ s a b, w = eB s ∧ ds = [eL [a, b]] ∧ w' = eB (create s a b).1 ∧ d = eL (create s a b).2
theorem len_create {w : Bs} {ds : List D} {w' : Bs} {d : D} (h : R_create w ds w' d) : ds.length + 1 = 2 := by obtain ⟨_, _, _, _, rfl, _⟩ := h; rfl
abbrev s_create : Stmt := topS 26
theorem sc_create : FnScope ["bench", "numbers", "cut_loss", "max_cuts"] ["bench", "numbers"] (defScope s_create) := ⟨rfl, rfl, rfl, by decide +kernel, rfl, by decide +kernel, by decide +kernel⟩
theorem cal_create (F : Df K mg "create" s_create) (T : Tx K mg C) (c_is_machine : Cal P w K mg base 1 "is_machine" (SpP R_is_machine)) : Cal P w K mg base 2 "create" (SpB C R_create) := by
  refine cal_ben (k := 1) (N := ["bench", "numbers", "cut_loss", "max_cuts"]) (ps := ["bench", "numbers"]) (n := 2) F (fun _ _ _ _ _ _ us hl => match us, hl with | [_, _], _ => rfl) sc_create rfl (fun w ds w' d h => len_create h) (fun f cdv A outer s H E hr => ⟨_, (pss_cons (ps_asg (pv 1) (pg_unl rfl (pgs_cons (pg_name (i := 2) sc_create.nd rfl (Or.inl rfl)) (pgs_cons (pg_name (i := 3) sc_create.nd rfl (Or.inl rfl)) pgs_nil))))
    (pss_cons (ps_if (pt_not (pt_val (pe_c c_is_machine hr (by decide) rfl (pa_cons (pv 2) (pa_cons (pv 3) pa_nil))))) (pss_one (ps_ret (pe_lst (pa_cons (pe_gi T.c_OUTSIDE rfl) pa_nil)))) pss_nil)
    (pss_cons (ps_fld (pv 0) pe_bl rfl)
    (pss_cons (ps_fld (pv 0) (pe_lst pa_nil) rfl)
    (pss_cons (ps_fld (pv 0) (pe_tup (pa_cons (pv 2) (pa_cons (pv 3) pa_nil))) rfl)
    (pss_one (ps_ret (pe_lst (pa_cons pe_int pa_nil))))))))), fun w0 ds w1 d h => ?_⟩)
  obtain ⟨s, a, b, rfl, rfl, rfl, rfl⟩ := h
  show Run C true _ [.ben s.there (ePs s.ps) (eP s.m), .val (eL [a, b]), .no, .no] _
  refine run_seq (run_asgG (ev_var rfl) gok_two) (run_ifR (c := !okMachine a b) (et_not (et_B (ev_call (ea_cons (ev_var rfl) (ea_cons (ev_var rfl) ea_nil)) ⟨a, b, rfl, rfl⟩))) (fun h => ?_) (fun _ z => nomatch z) (fun h => ?_))
  · unfold create
    rw [if_neg (not_true h)]
    exact run_retB (i := 0) rfl (ev_one ev_int)
  · unfold create
    rw [if_pos (not_false h)]
    exact run_seq (run_setThere rfl rfl T.cl T.nT ev_bl) (run_seq (run_setProducts rfl rfl T.cl T.nP (ev_lst ea_nil (szb rfl))) (run_seq (run_setMachine rfl rfl T.cl T.nM (ev_tup (ea_cons (ev_var rfl) (ea_cons (ev_var rfl) ea_nil)) (szb rfl))) (run_retB (i := 0) rfl (ev_one ev_int))))
def R_add_product : Bs → List D → Bs → D → Prop := fun w ds w' d => ∃ s a b, w = eB s ∧ ds = [eL [a, b]] ∧ w' = eB (addProduct s a b).1 ∧ d = eL (addProduct s a b).2 ∧ s.ps.length ≤ 6
theorem len_add_product {w : Bs} {ds : List D} {w' : Bs} {d : D} (h : R_add_product w ds w' d) : ds.length + 1 = 2 := by obtain ⟨_, _, _, _, rfl, _⟩ := h; rfl
abbrev s_add_product : Stmt := topS 27
theorem sc_add_product : FnScope ["bench", "numbers", "thickness", "price"] ["bench", "numbers"] (defScope s_add_product) := ⟨rfl, rfl, rfl, by decide +kernel, rfl, by decide +kernel, by decide +kernel⟩
theorem cal_add_product (F : Df K mg "add_product" s_add_product) (T : Tx K mg C) (c_has_product : Cal P w K mg base 2 "has_product" (SpP R_has_product)) (c_with_product : Cal P w K mg base 1 "with_product" (SpP R_with_product)) (c_is_thickness : Cal P w K mg base 1 "is_thickness" (SpP R_is_thickness)) (c_is_price : Cal P w K mg base 1 "is_price" (SpP R_is_price)) : Cal P w K mg base 3 "add_product" (SpB C R_add_product) := by
  refine cal_ben (k := 2) (N := ["bench", "numbers", "thickness", "price"]) (ps := ["bench", "numbers"]) (n := 2) F (fun _ _ _ _ _ _ us hl => match us, hl with | [_, _], _ => rfl) sc_add_product rfl (fun w ds w' d h => len_add_product h) (fun f cdv A outer s H E hr => ⟨_, (pss_cons (ps_asg (pv 1) (pg_unl rfl (pgs_cons (pg_name (i := 2) sc_add_product.nd rfl (Or.inl rfl)) (pgs_cons (pg_name (i := 3) sc_add_product.nd rfl (Or.inl rfl)) pgs_nil))))
    (pss_cons (ps_if (PW.pt (pw_or (pt_not (pt_val (pe_c c_is_thickness hr (by decide) rfl (pa_cons (pv 2) pa_nil)))) (pw_or1 (pt_not (pt_val (pe_c c_is_price hr (by decide) rfl (pa_cons (pv 3) pa_nil))))))) (pss_one (ps_ret (pe_lst (pa_cons (pe_gi T.c_OUTSIDE rfl) pa_nil)))) pss_nil)
    (pss_cons (ps_if (pt_val (pe_c c_has_product hr (by decide) rfl (pa_cons (pe_fld (pv 0) rfl) (pa_cons (pv 2) pa_nil)))) (pss_one (ps_ret (pe_lst (pa_cons (pe_gi T.c_THERE_ALREADY rfl) pa_nil)))) pss_nil)
    (pss_cons (ps_if (pt_cmpR op_ge (pe_callB (call_lenK (K := K) rfl) rfl T.len PySem.boot_len (pa_cons (pe_fld (pv 0) rfl) pa_nil)) (pe_gi T.c_MOST_PRODUCTS rfl) (nomark _)) (pss_one (ps_ret (pe_lst (pa_cons (pe_gi T.c_TOO_MANY rfl) pa_nil)))) pss_nil)
    (pss_cons (ps_fld (pv 0) (pe_c c_with_product hr (by decide) rfl (pa_cons (pe_fld (pv 0) rfl) (pa_cons (pv 2) (pa_cons (pv 3) pa_nil)))) rfl)
    (pss_one (ps_ret (pe_lst (pa_cons (pe_callB (call_lenK (K := K) rfl) rfl T.len PySem.boot_len (pa_cons (pe_fld (pv 0) rfl) pa_nil)) pa_nil))))))))), fun w0 ds w1 d h => ?_⟩)
  obtain ⟨s, a, b, rfl, rfl, rfl, rfl, hp⟩ := h
  show Run C true _ [.ben s.there (ePs s.ps) (eP s.m), .val (eL [a, b]), .no, .no] _
  refine run_seq (run_asgG (ev_var rfl) gok_two) (run_ifR (c := !(okThickness a && okPrice b)) (evt_is (et_or (et_not (et_B (ev_call (ea_cons (ev_var rfl) ea_nil) ⟨a, rfl, rfl⟩))) fun _ => et_not (et_B (ev_call (ea_cons (ev_var rfl) ea_nil) ⟨b, rfl, rfl⟩))) (Bool.not_and _ _).symm) (fun h => ?_) (fun _ z => nomatch z) (fun h => ?_))
  · unfold addProduct
    rw [if_neg (not_true h)]
    exact run_retB (i := 0) rfl (ev_one ev_int)
  unfold addProduct
  rw [if_pos (not_false h)]
  refine run_ifR (c := has s.ps a) (et_B (ev_call (ea_cons (ev_products T.cl T.nP rfl) (ea_cons (ev_var rfl) ea_nil)) ⟨s.ps, a, rfl, rfl, by omega⟩)) (fun h => ?_) (fun _ z => nomatch z) (fun h => ?_)
  · rw [if_pos h]
    exact run_retB (i := 0) rfl (ev_one ev_int)
  rw [if_neg (by rw [h]; decide)]
  refine run_ifR (c := decide (6 ≤ (s.ps.length : Int))) (et_test (ev_op (ev_cb (ea_cons (ev_products T.cl T.nP rfl) ea_nil) rc_lenP) ev_int rd_B0)) (fun h => ?_) (fun _ z => nomatch z) (fun h => ?_)
  · rw [if_pos (of_decide_eq_true h)]
    exact run_retB (i := 0) rfl (ev_one ev_int)
  rw [if_neg (of_decide_eq_false h)]
  exact run_seq (run_setProducts rfl rfl T.cl T.nP (ev_call (ea_cons (ev_products T.cl T.nP rfl) (ea_cons (ev_var rfl) (ea_cons (ev_var rfl) ea_nil))) ⟨s.ps, a, b, rfl, rfl, by omega⟩)) (run_retB (i := 0) rfl (ev_one (ev_cb (ea_cons (ev_products T.cl T.nP rfl) ea_nil) rc_lenP)))
def R_remove_product : Bs → List D → Bs → D → Prop := fun w ds w' d => ∃ s a, w = eB s ∧ ds = [eL [a]] ∧ w' = eB (removeProduct s a).1 ∧ d = eL (removeProduct s a).2 ∧ s.ps.length ≤ 6
theorem len_remove_product {w : Bs} {ds : List D} {w' : Bs} {d : D} (h : R_remove_product w ds w' d) : ds.length + 1 = 2 := by obtain ⟨_, _, _, rfl, _⟩ := h; rfl
abbrev s_remove_product : Stmt := topS 28
theorem sc_remove_product : FnScope ["bench", "numbers", "thickness"] ["bench", "numbers"] (defScope s_remove_product) := ⟨rfl, rfl, rfl, by decide +kernel, rfl, by decide +kernel, by decide +kernel⟩
theorem cal_remove_product (F : Df K mg "remove_product" s_remove_product) (T : Tx K mg C) (c_without_product : Cal P w K mg base 1 "without_product" (SpP R_without_product)) (c_has_product : Cal P w K mg base 2 "has_product" (SpP R_has_product)) : Cal P w K mg base 3 "remove_product" (SpB C R_remove_product) := by
  refine cal_ben (k := 2) (N := ["bench", "numbers", "thickness"]) (ps := ["bench", "numbers"]) (n := 1) F (fun _ _ _ _ _ _ us hl => match us, hl with | [_, _], _ => rfl) sc_remove_product rfl (fun w ds w' d h => len_remove_product h) (fun f cdv A outer s H E hr => ⟨_, (pss_cons (ps_set (i := 2) sc_remove_product.nd rfl (Or.inl rfl) (pe_ix (ix_listK (K := K) rfl) (pv 1) pe_int (fun _ _ => rfl)))
    (pss_cons (ps_if (pt_not (pt_val (pe_c c_has_product hr (by decide) rfl (pa_cons (pe_fld (pv 0) rfl) (pa_cons (pv 2) pa_nil))))) (pss_one (ps_ret (pe_lst (pa_cons (pe_gi T.c_NO_PRODUCT rfl) pa_nil)))) pss_nil)
    (pss_cons (ps_fld (pv 0) (pe_c c_without_product hr (by decide) rfl (pa_cons (pe_fld (pv 0) rfl) (pa_cons (pv 2) pa_nil))) rfl)
    (pss_one (ps_ret (pe_lst (pa_cons (pe_callB (call_lenK (K := K) rfl) rfl T.len PySem.boot_len (pa_cons (pe_fld (pv 0) rfl) pa_nil)) pa_nil))))))), fun w0 ds w1 d h => ?_⟩)
  obtain ⟨s, a, rfl, rfl, rfl, rfl, hp⟩ := h
  show Run C true _ [.ben s.there (ePs s.ps) (eP s.m), .val (eL [a]), .no] _
  refine run_seq (run_asg (ev_op (ev_var rfl) ev_int (rd_ixL at0))) (run_ifR (c := !has s.ps a) (et_not (et_B (ev_call (ea_cons (ev_products T.cl T.nP rfl) (ea_cons (ev_var rfl) ea_nil)) ⟨s.ps, a, rfl, rfl, by omega⟩))) (fun h => ?_) (fun _ z => nomatch z) (fun h => ?_))
  · unfold removeProduct
    rw [if_neg (not_true h)]
    exact run_retB (i := 0) rfl (ev_one ev_int)
  unfold removeProduct
  rw [if_pos (not_false h)]
  exact run_seq (run_setProducts rfl rfl T.cl T.nP (ev_call (ea_cons (ev_products T.cl T.nP rfl) (ea_cons (ev_var rfl) ea_nil)) ⟨s.ps, a, rfl, rfl, by omega⟩)) (run_retB (i := 0) rfl (ev_one (ev_cb (ea_cons (ev_products T.cl T.nP rfl) ea_nil) rc_lenP)))
def R_set_price : Bs → List D → Bs → D → Prop := fun w ds w' d => ∃ s a b, w = eB s ∧ ds = [eL [a, b]] ∧ w' = eB (setPrice s a b).1 ∧ d = eL (setPrice s a b).2 ∧ s.ps.length ≤ 6
theorem len_set_price {w : Bs} {ds : List D} {w' : Bs} {d : D} (h : R_set_price w ds w' d) : ds.length + 1 = 2 := by obtain ⟨_, _, _, _, rfl, _⟩ := h; rfl
abbrev s_set_price : Stmt := topS 29
theorem sc_set_price : FnScope ["bench", "numbers", "thickness", "price", "old"] ["bench", "numbers"] (defScope s_set_price) := ⟨rfl, rfl, rfl, by decide +kernel, rfl, by decide +kernel, by decide +kernel⟩
theorem cal_set_price (F : Df K mg "set_price" s_set_price) (T : Tx K mg C) (c_price_of : Cal P w K mg base 1 "price_of" (SpP R_price_of)) (c_with_price : Cal P w K mg base 2 "with_price" (SpP R_with_price)) (c_has_product : Cal P w K mg base 2 "has_product" (SpP R_has_product)) (c_is_price : Cal P w K mg base 1 "is_price" (SpP R_is_price)) : Cal P w K mg base 3 "set_price" (SpB C R_set_price) := by
  refine cal_ben (k := 2) (N := ["bench", "numbers", "thickness", "price", "old"]) (ps := ["bench", "numbers"]) (n := 3) F (fun _ _ _ _ _ _ us hl => match us, hl with | [_, _], _ => rfl) sc_set_price rfl (fun w ds w' d h => len_set_price h) (fun f cdv A outer s H E hr => ⟨_, (pss_cons (ps_asg (pv 1) (pg_unl rfl (pgs_cons (pg_name (i := 2) sc_set_price.nd rfl (Or.inl rfl)) (pgs_cons (pg_name (i := 3) sc_set_price.nd rfl (Or.inl rfl)) pgs_nil))))
    (pss_cons (ps_if (pt_not (pt_val (pe_c c_has_product hr (by decide) rfl (pa_cons (pe_fld (pv 0) rfl) (pa_cons (pv 2) pa_nil))))) (pss_one (ps_ret (pe_lst (pa_cons (pe_gi T.c_NO_PRODUCT rfl) pa_nil)))) pss_nil)
    (pss_cons (ps_if (pt_not (pt_val (pe_c c_is_price hr (by decide) rfl (pa_cons (pv 3) pa_nil)))) (pss_one (ps_ret (pe_lst (pa_cons (pe_gi T.c_OUTSIDE rfl) pa_nil)))) pss_nil)
    (pss_cons (ps_set (i := 4) sc_set_price.nd rfl (Or.inl rfl) (pe_c c_price_of hr (by decide) rfl (pa_cons (pe_fld (pv 0) rfl) (pa_cons (pv 2) pa_nil))))
    (pss_cons (ps_fld (pv 0) (pe_c c_with_price hr (by decide) rfl (pa_cons (pe_fld (pv 0) rfl) (pa_cons (pv 2) (pa_cons (pv 3) pa_nil)))) rfl)
    (pss_one (ps_ret (pe_lst (pa_cons (pv 4) pa_nil))))))))), fun w0 ds w1 d h => ?_⟩)
  obtain ⟨s, a, b, rfl, rfl, rfl, rfl, hp⟩ := h
  show Run C true _ [.ben s.there (ePs s.ps) (eP s.m), .val (eL [a, b]), .no, .no, .no] _
  refine run_seq (run_asgG (ev_var rfl) gok_two) (run_ifR (c := !has s.ps a) (et_not (et_B (ev_call (ea_cons (ev_products T.cl T.nP rfl) (ea_cons (ev_var rfl) ea_nil)) ⟨s.ps, a, rfl, rfl, by omega⟩))) (fun h => ?_) (fun _ z => nomatch z) (fun h => ?_))
  · unfold setPrice
    rw [if_neg (not_true h)]
    exact run_retB (i := 0) rfl (ev_one ev_int)
  unfold setPrice
  rw [if_pos (not_false h)]
  refine run_ifR (c := !okPrice b) (et_not (et_B (ev_call (ea_cons (ev_var rfl) ea_nil) ⟨b, rfl, rfl⟩))) (fun h => ?_) (fun _ z => nomatch z) (fun h => ?_)
  · rw [if_neg (not_true h)]
    exact run_retB (i := 0) rfl (ev_one ev_int)
  rw [if_pos (not_false h)]
  exact run_seq (run_asg (ev_call (ea_cons (ev_products T.cl T.nP rfl) (ea_cons (ev_var rfl) ea_nil)) ⟨s.ps, a, rfl, rfl, by omega⟩)) (run_seq (run_setProducts rfl rfl T.cl T.nP (ev_call (ea_cons (ev_products T.cl T.nP rfl) (ea_cons (ev_var rfl) (ea_cons (ev_var rfl) ea_nil))) ⟨s.ps, a, b, rfl, rfl, by omega⟩)) (run_retB (i := 0) rfl (ev_one (ev_var rfl))))
theorem told_products (ps : Prods) : ∀ a : List Int, ps.foldl (fun a p => a ++ [p.1, p.2]) a = a ++ ps.flatMap fun p => [p.1, p.2] := by
  induction ps with
  | nil => intro a; simp
  | cons p ps ih =>
    intro a
    rw [List.foldl_cons, ih]
    simp
theorem told_len (ps : Prods) : (ps.flatMap fun p => [p.1, p.2]).length = 2 * ps.length := by
  induction ps with
  | nil => rfl
  | cons p ps ih =>
    rw [List.flatMap_cons, List.length_append, ih, List.length_cons]
    simp
    omega
def R_get_products : Bs → List D → Bs → D → Prop := fun w ds w' d => ∃ s, w = eB s ∧ ds = [eL []] ∧ w' = eB (getProducts s).1 ∧ d = eL (getProducts s).2 ∧ s.ps.length ≤ 6
theorem len_get_products {w : Bs} {ds : List D} {w' : Bs} {d : D} (h : R_get_products w ds w' d) : ds.length + 1 = 2 := by obtain ⟨_, _, rfl, _⟩ := h; rfl
abbrev s_get_products : Stmt := topS 30
theorem sc_get_products : FnScope ["bench", "numbers", "found", "thickness", "price"] ["bench", "numbers"] (defScope s_get_products) := ⟨rfl, rfl, rfl, by decide +kernel, rfl, by decide +kernel, by decide +kernel⟩
theorem cal_get_products (F : Df K mg "get_products" s_get_products) (T : Tx K mg C)  : Cal P w K mg base 1 "get_products" (SpB C R_get_products) := by
  refine cal_ben (k := 0) (N := ["bench", "numbers", "found", "thickness", "price"]) (ps := ["bench", "numbers"]) (n := 3) F (fun _ _ _ _ _ _ us hl => match us, hl with | [_, _], _ => rfl) sc_get_products rfl (fun w ds w' d h => len_get_products h) (fun f cdv A outer s H E hr => ⟨_, (pss_cons (ps_set (i := 2) sc_get_products.nd rfl (Or.inl rfl) (pe_lst (pa_cons (pe_callB (call_lenK (K := K) rfl) rfl T.len PySem.boot_len (pa_cons (pe_fld (pv 0) rfl) pa_nil)) pa_nil)))
    (pss_cons (ps_for PassesOwn.never rfl (pi_list (pe_fld (pv 0) rfl)) (pg_tup rfl (pgs_cons (pg_name (i := 3) sc_get_products.nd rfl (Or.inl rfl)) (pgs_cons (pg_name (i := 4) sc_get_products.nd rfl (Or.inl rfl)) pgs_nil))) (pss_cons (ps_expr (pe_bm PySem.F.plainAttrs_list PySem.F.slot_list_append PySem.F.type_list_append mt_append (pv 2) (pa_cons (pv 3) pa_nil)))
    (pss_one (ps_expr (pe_bm PySem.F.plainAttrs_list PySem.F.slot_list_append PySem.F.type_list_append mt_append (pv 2) (pa_cons (pv 4) pa_nil))))))
    (pss_one (ps_ret (pv 2))))), fun w0 ds w1 d h => ?_⟩)
  obtain ⟨s, rfl, rfl, rfl, rfl, hp⟩ := h
  show Run C true _ [.ben s.there (ePs s.ps) (eP s.m), .val (eL []), .no, .no, .no] _
  have fin : s.ps.foldl (fun a p => a ++ [p.1, p.2]) [(s.ps.length : Int)] = (getProducts s).2 := told_products s.ps _
  refine run_seq (run_own (ea_cons (ev_cb (ea_cons (ev_products T.cl T.nP rfl) ea_nil) rc_lenP) ea_nil) (szb rfl)) (run_seq (run_for (ev_products T.cl T.nP rfl) (loop_fold (fun a p => a ++ [p.1, p.2]) eP (fun a => [.ben s.there (ePs s.ps) (eP s.m), .val (eL []), .own (a.map D.int), .no, .no]) s.ps [(s.ps.length : Int)] fun pre x post e => ?_)) (by rw [fin]; exact run_retOB (i := 2) (j := 0) rfl rfl))
  have hl : (pre.foldl (fun a p => a ++ [p.1, p.2]) [(s.ps.length : Int)]).length ≤ 20 := by
    rw [told_products, List.length_append, told_len, List.length_singleton]
    have : s.ps.length = pre.length + (post.length + 1) := by rw [e, List.length_append, List.length_cons]
    omega
  generalize pre.foldl (fun a p => a ++ [p.1, p.2]) [(s.ps.length : Int)] = acc at hl ⊢
  refine ⟨_, _, _, gok_tup rfl (gsok_cons gok_name (gsok_cons gok_name gsok_nil)), run_seq (run_app rfl rfl (ev_var rfl) (szlt (by rw [List.length_map]; omega))) (run_app rfl rfl (ev_var rfl) (szlt (by rw [List.length_append, List.length_map, List.length_singleton]; omega))), ?_⟩
  have z : (acc ++ [x.1, x.2]).map D.int = acc.map D.int ++ [D.int x.1] ++ [D.int x.2] := by
    rw [List.map_append, List.append_assoc]
    rfl
  rw [z]
  walk_at "fgt"
def R_set_machine : Bs → List D → Bs → D → Prop := fun w ds w' d => ∃ s a b, w = eB s ∧ ds = [eL [a, b]] ∧ w' = eB (setMachine s a b).1 ∧ d = eL (setMachine s a b).2
theorem len_set_machine {w : Bs} {ds : List D} {w' : Bs} {d : D} (h : R_set_machine w ds w' d) : ds.length + 1 = 2 := by obtain ⟨_, _, _, _, rfl, _⟩ := h; rfl
abbrev s_set_machine : Stmt := topS 31
theorem sc_set_machine : FnScope ["bench", "numbers", "cut_loss", "max_cuts", "old_loss", "old_cuts"] ["bench", "numbers"] (defScope s_set_machine) := ⟨rfl, rfl, rfl, by decide +kernel, rfl, by decide +kernel, by decide +kernel⟩
theorem cal_set_machine (F : Df K mg "set_machine" s_set_machine) (T : Tx K mg C) (c_is_machine : Cal P w K mg base 1 "is_machine" (SpP R_is_machine)) : Cal P w K mg base 2 "set_machine" (SpB C R_set_machine) := by
  refine cal_ben (k := 1) (N := ["bench", "numbers", "cut_loss", "max_cuts", "old_loss", "old_cuts"]) (ps := ["bench", "numbers"]) (n := 4) F (fun _ _ _ _ _ _ us hl => match us, hl with | [_, _], _ => rfl) sc_set_machine rfl (fun w ds w' d h => len_set_machine h) (fun f cdv A outer s H E hr => ⟨_, (pss_cons (ps_asg (pv 1) (pg_unl rfl (pgs_cons (pg_name (i := 2) sc_set_machine.nd rfl (Or.inl rfl)) (pgs_cons (pg_name (i := 3) sc_set_machine.nd rfl (Or.inl rfl)) pgs_nil))))
    (pss_cons (ps_if (pt_not (pt_val (pe_c c_is_machine hr (by decide) rfl (pa_cons (pv 2) (pa_cons (pv 3) pa_nil))))) (pss_one (ps_ret (pe_lst (pa_cons (pe_gi T.c_OUTSIDE rfl) pa_nil)))) pss_nil)
    (pss_cons (ps_asg (pe_fld (pv 0) rfl) (pg_tup rfl (pgs_cons (pg_name (i := 4) sc_set_machine.nd rfl (Or.inl rfl)) (pgs_cons (pg_name (i := 5) sc_set_machine.nd rfl (Or.inl rfl)) pgs_nil))))
    (pss_cons (ps_fld (pv 0) (pe_tup (pa_cons (pv 2) (pa_cons (pv 3) pa_nil))) rfl)
    (pss_one (ps_ret (pe_lst (pa_cons pe_int (pa_cons (pv 4) (pa_cons (pv 5) pa_nil)))))))))), fun w0 ds w1 d h => ?_⟩)
  obtain ⟨s, a, b, rfl, rfl, rfl, rfl⟩ := h
  show Run C true _ [.ben s.there (ePs s.ps) (eP s.m), .val (eL [a, b]), .no, .no, .no, .no] _
  refine run_seq (run_asgG (ev_var rfl) gok_two) (run_ifR (c := !okMachine a b) (et_not (et_B (ev_call (ea_cons (ev_var rfl) (ea_cons (ev_var rfl) ea_nil)) ⟨a, b, rfl, rfl⟩))) (fun h => ?_) (fun _ z => nomatch z) (fun h => ?_))
  · unfold setMachine
    rw [if_neg (not_true h)]
    exact run_retB (i := 0) rfl (ev_one ev_int)
  · unfold setMachine
    rw [if_pos (not_false h)]
    exact run_seq (run_asgG (ev_machine T.cl T.nM rfl) (gok_tup rfl (gsok_cons gok_name (gsok_cons gok_name gsok_nil)))) (run_seq (run_setMachine rfl rfl T.cl T.nM (ev_tup (ea_cons (ev_var rfl) (ea_cons (ev_var rfl) ea_nil)) (szb rfl))) (run_retB (i := 0) rfl (ev_lst (ea_cons ev_int (ea_cons (ev_var rfl) (ea_cons (ev_var rfl) ea_nil))) (szb rfl))))
end
end HL

end
section
set_option maxRecDepth 100000
set_option maxHeartbeats 4000000
namespace HL
open PySem PySem.Spec PyProof.Rows L2 M
section
variable {P : Program} {w : World} {K : PySem.W.Frag} {mg : Str → Option Value} {base : Heap} {C : Addr}
/-! ### the operations that ask -/
theorem cut1D (h : Int) (l : List Int) : D.lst (cutD ((h :: l).map D.int) (some 1) none) = eL l := by
  have e : cutD ((h :: l).map D.int) (some 1) none = l.map D.int := by
    unfold cutD
    rw [show HT.sIx ((h :: l).map D.int).length 0 (some 1) = min 1 ((h :: l).map D.int).length from HT.sIx_nat _ 0 1, HT.sIx_none]
    rw [show min 1 ((h :: l).map D.int).length = 1 by simp]
    rw [List.map_cons, List.drop_succ_cons, List.drop_zero]
    exact List.take_of_length_le (by simp)
  rw [e]
theorem run_bad {m : Bool} {ρ : List S} {t : Bool} {ps ma : D} {i : Int} (h : ρ[0]? = some (.ben t ps ma)) : Run C m (tRet (tLst (tCons (tC (.int i)) tNil))) ρ (.rt (eL [i]) (some ⟨t, ps, ma⟩)) := run_retB (i := 0) h (ev_one ev_int)
theorem bestPlan_short (ps : Prods) (m : Int × Int) (h : Int) : (M.bestPlan ps m h).length ≤ 6 := fold_short _ [] (by decide) fun _ hq => fitting_short hq
theorem rc_lenLL {l : List (List Int)} : RC (rLenS K) [eLL l] (.int (l.length : Int)) := by
  have z := rc_len (K := K) (ds := l.map eL)
  rw [List.length_map] at z
  exact z
def R_plan_value : Bs → List D → Bs → D → Prop := fun w ds w' d => ∃ s l, w = eB s ∧ ds = [eL l] ∧ w' = eB s ∧ d = eL (qPlanValue s l) ∧ s.ps.length ≤ 6 ∧ l.length ≤ 1000
theorem len_plan_value {w : Bs} {ds : List D} {w' : Bs} {d : D} (h : R_plan_value w ds w' d) : ds.length + 1 = 2 := by obtain ⟨_, _, _, rfl, _⟩ := h; rfl
abbrev s_plan_value : Stmt := topS 56
theorem sc_plan_value : FnScope ["bench", "numbers"] ["bench", "numbers"] (defScope s_plan_value) := ⟨rfl, rfl, rfl, by decide +kernel, rfl, by decide +kernel, by decide +kernel⟩
theorem cal_plan_value (F : Df K mg "plan_value" s_plan_value) (T : Tx K mg C) (c_is_plan : Cal P w K mg base 3 "is_plan" (SpP R_is_plan)) (c_value_of : Cal P w K mg base 2 "value_of" (SpP R_value_of)) : Cal P w K mg base 4 "plan_value" (SpB C R_plan_value) := by
  refine cal_ben (k := 3) (N := ["bench", "numbers"]) (ps := ["bench", "numbers"]) (n := 0) F (fun _ _ _ _ _ _ us hl => match us, hl with | [_, _], _ => rfl) sc_plan_value rfl (fun w ds w' d h => len_plan_value h) (fun f cdv A outer s H E hr => ⟨_, (pss_cons (ps_if (pt_not (pt_val (pe_c c_is_plan hr (by decide) rfl (pa_cons (pe_fld (pv 0) rfl) (pa_cons (pv 1) pa_nil))))) (pss_one (ps_ret (pe_lst (pa_cons (pe_gi T.c_OUTSIDE rfl) pa_nil)))) pss_nil)
    (pss_one (ps_ret (pe_lst (pa_cons (pe_c c_value_of hr (by decide) rfl (pa_cons (pe_fld (pv 0) rfl) (pa_cons (pv 1) pa_nil))) pa_nil))))), fun w0 ds w1 d h => ?_⟩)
  obtain ⟨s, l, rfl, rfl, rfl, rfl, hp, hl⟩ := h
  show Run C true _ [.ben s.there (ePs s.ps) (eP s.m), .val (eL l)] _
  unfold qPlanValue
  refine run_ifR (c := !isPlan s.ps l) (et_not (et_B (ev_call (ea_cons (ev_products T.cl T.nP rfl) (ea_cons (ev_var rfl) ea_nil)) ⟨s.ps, l, rfl, rfl, by omega, hl⟩))) (fun h => ?_) (fun _ z => nomatch z) (fun h => ?_)
  · rw [if_neg (not_true h)]
    exact run_bad rfl
  · rw [if_pos (not_false h)]
    exact run_retB (i := 0) rfl (ev_one (ev_call (ea_cons (ev_products T.cl T.nP rfl) (ea_cons (ev_var rfl) ea_nil)) ⟨s.ps, l, rfl, rfl, by omega, hl⟩))
def R_fits : Bs → List D → Bs → D → Prop := fun w ds w' d => ∃ s a l, w = eB s ∧ ds = [eL (a :: l)] ∧ w' = eB s ∧ d = eL (qFits s a l) ∧ s.ps.length ≤ 6 ∧ l.length ≤ 1000
theorem len_fits {w : Bs} {ds : List D} {w' : Bs} {d : D} (h : R_fits w ds w' d) : ds.length + 1 = 2 := by obtain ⟨_, _, _, _, rfl, _⟩ := h; rfl
abbrev s_fits : Stmt := topS 57
theorem sc_fits : FnScope ["bench", "numbers", "hide", "plan"] ["bench", "numbers"] (defScope s_fits) := ⟨rfl, rfl, rfl, by decide +kernel, rfl, by decide +kernel, by decide +kernel⟩
theorem cal_fits (F : Df K mg "fits" s_fits) (T : Tx K mg C) (c_does_fit : Cal P w K mg base 3 "does_fit" (SpP R_does_fit)) (c_is_hide : Cal P w K mg base 1 "is_hide" (SpP R_is_hide)) (c_is_plan : Cal P w K mg base 3 "is_plan" (SpP R_is_plan)) : Cal P w K mg base 4 "fits" (SpB C R_fits) := by
  refine cal_ben (k := 3) (N := ["bench", "numbers", "hide", "plan"]) (ps := ["bench", "numbers"]) (n := 2) F (fun _ _ _ _ _ _ us hl => match us, hl with | [_, _], _ => rfl) sc_fits rfl (fun w ds w' d h => len_fits h) (fun f cdv A outer s H E hr => ⟨_, (pss_cons (ps_par (i := 2) (j := 3) rfl sc_fits.nd rfl rfl (by decide) rfl rfl (pa_cons (pe_ix (ix_listK (K := K) rfl) (pv 1) pe_int (fun _ _ => rfl)) (pa_cons (pe_slice sl_list (pv 1) (po_some pe_int) po_none) pa_nil)) rfl)
    (pss_cons (ps_if (PW.pt (pw_or (pt_not (pt_val (pe_c c_is_hide hr (by decide) rfl (pa_cons (pv 2) pa_nil)))) (pw_or1 (pt_not (pt_val (pe_c c_is_plan hr (by decide) rfl (pa_cons (pe_fld (pv 0) rfl) (pa_cons (pv 3) pa_nil)))))))) (pss_one (ps_ret (pe_lst (pa_cons (pe_gi T.c_OUTSIDE rfl) pa_nil)))) pss_nil)
    (pss_one (ps_ret (pe_ifExp (pt_val (pe_c c_does_fit hr (by decide) rfl (pa_cons (pv 3) (pa_cons (pe_fld (pv 0) rfl) (pa_cons (pv 2) pa_nil))))) (pe_lst (pa_cons pe_int pa_nil)) (pe_lst (pa_cons pe_int pa_nil))))))), fun w0 ds w1 d h => ?_⟩)
  obtain ⟨s, a, l, rfl, rfl, rfl, rfl, hp, hl⟩ := h
  show Run C true _ [.ben s.there (ePs s.ps) (eP s.m), .val (eL (a :: l)), .no, .no] _
  unfold qFits
  refine run_seq (run_par (ea_cons (ev_op (ev_var rfl) ev_int (rd_ixL at0)) (ea_cons (ev_is (ev_sl (ev_var rfl) (eo_some ev_int) eo_none) (cut1D a l)) ea_nil))) ?_
  refine run_ifR (c := !(okHide a && isPlan s.ps l)) (evt_is (et_or (et_not (et_B (ev_call (ea_cons (ev_var rfl) ea_nil) ⟨a, rfl, rfl⟩))) fun _ => et_not (et_B (ev_call (ea_cons (ev_products T.cl T.nP rfl) (ea_cons (ev_var rfl) ea_nil)) ⟨s.ps, l, rfl, rfl, by omega, hl⟩))) (Bool.not_and _ _).symm) (fun h => ?_) (fun _ z => nomatch z) (fun h => ?_)
  · rw [if_neg (not_true h)]
    exact run_bad rfl
  rw [if_pos (not_false h)]
  refine run_retB (i := 0) rfl (ev_if (c := doesFit l s.m a) (et_B (ev_call (ea_cons (ev_var rfl) (ea_cons (ev_machine T.cl T.nM rfl) (ea_cons (ev_var rfl) ea_nil))) ⟨l, s.m, a, rfl, rfl, hl⟩)) (fun z => ?_) (fun z => ?_))
  · rw [if_pos z]
    exact ev_one ev_int
  · rw [if_neg (by rw [z]; decide)]
    exact ev_one ev_int
def R_cut_count : Bs → List D → Bs → D → Prop := fun w ds w' d => ∃ s a l, w = eB s ∧ ds = [eL (a :: l)] ∧ w' = eB s ∧ d = eL (qCutCount s a l) ∧ s.ps.length ≤ 6 ∧ l.length ≤ 1000
theorem len_cut_count {w : Bs} {ds : List D} {w' : Bs} {d : D} (h : R_cut_count w ds w' d) : ds.length + 1 = 2 := by obtain ⟨_, _, _, _, rfl, _⟩ := h; rfl
abbrev s_cut_count : Stmt := topS 58
theorem sc_cut_count : FnScope ["bench", "numbers", "hide", "plan"] ["bench", "numbers"] (defScope s_cut_count) := ⟨rfl, rfl, rfl, by decide +kernel, rfl, by decide +kernel, by decide +kernel⟩
theorem cal_cut_count (F : Df K mg "cut_count" s_cut_count) (T : Tx K mg C) (c_used_by : Cal P w K mg base 1 "used_by" (SpP R_used_by)) (c_plan_cuts : Cal P w K mg base 2 "plan_cuts" (SpP R_plan_cuts)) (c_is_hide : Cal P w K mg base 1 "is_hide" (SpP R_is_hide)) (c_is_plan : Cal P w K mg base 3 "is_plan" (SpP R_is_plan)) : Cal P w K mg base 4 "cut_count" (SpB C R_cut_count) := by
  refine cal_ben (k := 3) (N := ["bench", "numbers", "hide", "plan"]) (ps := ["bench", "numbers"]) (n := 2) F (fun _ _ _ _ _ _ us hl => match us, hl with | [_, _], _ => rfl) sc_cut_count rfl (fun w ds w' d h => len_cut_count h) (fun f cdv A outer s H E hr => ⟨_, (pss_cons (ps_par (i := 2) (j := 3) rfl sc_cut_count.nd rfl rfl (by decide) rfl rfl (pa_cons (pe_ix (ix_listK (K := K) rfl) (pv 1) pe_int (fun _ _ => rfl)) (pa_cons (pe_slice sl_list (pv 1) (po_some pe_int) po_none) pa_nil)) rfl)
    (pss_cons (ps_if (PW.pt (pw_or (pt_not (pt_val (pe_c c_is_hide hr (by decide) rfl (pa_cons (pv 2) pa_nil)))) (pw_or1 (pt_not (pt_val (pe_c c_is_plan hr (by decide) rfl (pa_cons (pe_fld (pv 0) rfl) (pa_cons (pv 3) pa_nil)))))))) (pss_one (ps_ret (pe_lst (pa_cons (pe_gi T.c_OUTSIDE rfl) pa_nil)))) pss_nil)
    (pss_cons (ps_if (pt_cmpR op_gt (pe_c c_used_by hr (by decide) rfl (pa_cons (pv 3) (pa_cons (pe_ix (ix_tupK (K := K) rfl) (pe_fld (pv 0) rfl) pe_int (fun _ _ => rfl)) pa_nil))) (pv 2) (nomark _)) (pss_one (ps_ret (pe_lst (pa_cons (pe_gi T.c_NOT_ENOUGH rfl) pa_nil)))) pss_nil)
    (pss_one (ps_ret (pe_lst (pa_cons (pe_c c_plan_cuts hr (by decide) rfl (pa_cons (pv 3) (pa_cons (pe_fld (pv 0) rfl) (pa_cons (pv 2) pa_nil)))) pa_nil))))))), fun w0 ds w1 d h => ?_⟩)
  obtain ⟨s, a, l, rfl, rfl, rfl, rfl, hp, hl⟩ := h
  show Run C true _ [.ben s.there (ePs s.ps) (eP s.m), .val (eL (a :: l)), .no, .no] _
  unfold qCutCount
  refine run_seq (run_par (ea_cons (ev_op (ev_var rfl) ev_int (rd_ixL at0)) (ea_cons (ev_is (ev_sl (ev_var rfl) (eo_some ev_int) eo_none) (cut1D a l)) ea_nil))) ?_
  refine run_ifR (c := !(okHide a && isPlan s.ps l)) (evt_is (et_or (et_not (et_B (ev_call (ea_cons (ev_var rfl) ea_nil) ⟨a, rfl, rfl⟩))) fun _ => et_not (et_B (ev_call (ea_cons (ev_products T.cl T.nP rfl) (ea_cons (ev_var rfl) ea_nil)) ⟨s.ps, l, rfl, rfl, by omega, hl⟩))) (Bool.not_and _ _).symm) (fun h => ?_) (fun _ z => nomatch z) (fun h => ?_)
  · rw [if_neg (not_true h)]
    exact run_bad rfl
  rw [if_pos (not_false h)]
  refine run_ifR (c := decide (a < used l s.m.1)) (et_test (ev_op (ev_call (ea_cons (ev_var rfl) (ea_cons (ev_op (ev_machine T.cl T.nM rfl) ev_int (rd_ixT at0)) ea_nil)) ⟨l, s.m.1, rfl, rfl, hl⟩) (ev_var rfl) rd_B0)) (fun h => ?_) (fun _ z => nomatch z) (fun h => ?_)
  · rw [if_pos (of_decide_eq_true h)]
    exact run_bad rfl
  · rw [if_neg (of_decide_eq_false h)]
    exact run_retB (i := 0) rfl (ev_one (ev_call (ea_cons (ev_var rfl) (ea_cons (ev_machine T.cl T.nM rfl) (ea_cons (ev_var rfl) ea_nil))) ⟨l, s.m, a, rfl, rfl, hl⟩))
def R_best_value : Bs → List D → Bs → D → Prop := fun w ds w' d => ∃ s a, w = eB s ∧ ds = [eL [a]] ∧ w' = eB s ∧ d = eL (qBestValue s a) ∧ s.ps.length ≤ 6
theorem len_best_value {w : Bs} {ds : List D} {w' : Bs} {d : D} (h : R_best_value w ds w' d) : ds.length + 1 = 2 := by obtain ⟨_, _, _, rfl, _⟩ := h; rfl
abbrev s_best_value : Stmt := topS 59
theorem sc_best_value : FnScope ["bench", "numbers"] ["bench", "numbers"] (defScope s_best_value) := ⟨rfl, rfl, rfl, by decide +kernel, rfl, by decide +kernel, by decide +kernel⟩
theorem cal_best_value (F : Df K mg "best_value" s_best_value) (T : Tx K mg C) (c_is_hide : Cal P w K mg base 1 "is_hide" (SpP R_is_hide)) (c_best_value_of : Cal P w K mg base 5 "best_value_of" (SpP R_best_value_of)) : Cal P w K mg base 6 "best_value" (SpB C R_best_value) := by
  refine cal_ben (k := 5) (N := ["bench", "numbers"]) (ps := ["bench", "numbers"]) (n := 0) F (fun _ _ _ _ _ _ us hl => match us, hl with | [_, _], _ => rfl) sc_best_value rfl (fun w ds w' d h => len_best_value h) (fun f cdv A outer s H E hr => ⟨_, (pss_cons (ps_if (pt_not (pt_val (pe_c c_is_hide hr (by decide) rfl (pa_cons (pe_ix (ix_listK (K := K) rfl) (pv 1) pe_int (fun _ _ => rfl)) pa_nil)))) (pss_one (ps_ret (pe_lst (pa_cons (pe_gi T.c_OUTSIDE rfl) pa_nil)))) pss_nil)
    (pss_one (ps_ret (pe_lst (pa_cons (pe_c c_best_value_of hr (by decide) rfl (pa_cons (pe_fld (pv 0) rfl) (pa_cons (pe_fld (pv 0) rfl) (pa_cons (pe_ix (ix_listK (K := K) rfl) (pv 1) pe_int (fun _ _ => rfl)) pa_nil)))) pa_nil))))), fun w0 ds w1 d h => ?_⟩)
  obtain ⟨s, a, rfl, rfl, rfl, rfl, hp⟩ := h
  show Run C true _ [.ben s.there (ePs s.ps) (eP s.m), .val (eL [a])] _
  unfold qBestValue
  refine run_ifR (c := !okHide a) (et_not (et_B (ev_call (ea_cons (ev_op (ev_var rfl) ev_int (rd_ixL at0)) ea_nil) ⟨a, rfl, rfl⟩))) (fun h => ?_) (fun _ z => nomatch z) (fun h => ?_)
  · rw [if_neg (not_true h)]
    exact run_bad rfl
  rw [if_pos (not_false h)]
  exact run_retB (i := 0) rfl (ev_one (ev_call (ea_cons (ev_products T.cl T.nP rfl) (ea_cons (ev_machine T.cl T.nM rfl) (ea_cons (ev_op (ev_var rfl) ev_int (rd_ixL at0)) ea_nil))) ⟨s.ps, s.m, a, rfl, rfl, by omega⟩))
def R_best_plan : Bs → List D → Bs → D → Prop := fun w ds w' d => ∃ s a, w = eB s ∧ ds = [eL [a]] ∧ w' = eB s ∧ d = eL (qBestPlan s a) ∧ s.ps.length ≤ 6
theorem len_best_plan {w : Bs} {ds : List D} {w' : Bs} {d : D} (h : R_best_plan w ds w' d) : ds.length + 1 = 2 := by obtain ⟨_, _, _, rfl, _⟩ := h; rfl
abbrev s_best_plan : Stmt := topS 60
theorem sc_best_plan : FnScope ["bench", "numbers", "plan"] ["bench", "numbers"] (defScope s_best_plan) := ⟨rfl, rfl, rfl, by decide +kernel, rfl, by decide +kernel, by decide +kernel⟩
theorem cal_best_plan (F : Df K mg "best_plan" s_best_plan) (T : Tx K mg C) (c_best_plan_of : Cal P w K mg base 5 "best_plan_of" (SpP R_best_plan_of)) (c_is_hide : Cal P w K mg base 1 "is_hide" (SpP R_is_hide)) : Cal P w K mg base 6 "best_plan" (SpB C R_best_plan) := by
  refine cal_ben (k := 5) (N := ["bench", "numbers", "plan"]) (ps := ["bench", "numbers"]) (n := 1) F (fun _ _ _ _ _ _ us hl => match us, hl with | [_, _], _ => rfl) sc_best_plan rfl (fun w ds w' d h => len_best_plan h) (fun f cdv A outer s H E hr => ⟨_, (pss_cons (ps_if (pt_not (pt_val (pe_c c_is_hide hr (by decide) rfl (pa_cons (pe_ix (ix_listK (K := K) rfl) (pv 1) pe_int (fun _ _ => rfl)) pa_nil)))) (pss_one (ps_ret (pe_lst (pa_cons (pe_gi T.c_OUTSIDE rfl) pa_nil)))) pss_nil)
    (pss_cons (ps_set (i := 2) sc_best_plan.nd rfl (Or.inl rfl) (pe_c c_best_plan_of hr (by decide) rfl (pa_cons (pe_fld (pv 0) rfl) (pa_cons (pe_fld (pv 0) rfl) (pa_cons (pe_ix (ix_listK (K := K) rfl) (pv 1) pe_int (fun _ _ => rfl)) pa_nil)))))
    (pss_one (ps_ret (pe_op op_cat (pe_lst (pa_cons (pe_callB (call_lenK (K := K) rfl) rfl T.len PySem.boot_len (pa_cons (pv 2) pa_nil)) pa_nil)) (pv 2)))))), fun w0 ds w1 d h => ?_⟩)
  obtain ⟨s, a, rfl, rfl, rfl, rfl, hp⟩ := h
  show Run C true _ [.ben s.there (ePs s.ps) (eP s.m), .val (eL [a]), .no] _
  unfold qBestPlan
  refine run_ifR (c := !okHide a) (et_not (et_B (ev_call (ea_cons (ev_op (ev_var rfl) ev_int (rd_ixL at0)) ea_nil) ⟨a, rfl, rfl⟩))) (fun h => ?_) (fun _ z => nomatch z) (fun h => ?_)
  · rw [if_neg (not_true h)]
    exact run_bad rfl
  rw [if_pos (not_false h)]
  exact run_seq (run_asg (ev_call (ea_cons (ev_products T.cl T.nP rfl) (ea_cons (ev_machine T.cl T.nM rfl) (ea_cons (ev_op (ev_var rfl) ev_int (rd_ixL at0)) ea_nil))) ⟨s.ps, s.m, a, rfl, rfl, by omega⟩)) (run_retB (i := 0) rfl (ev_op (ev_one (ev_cb (ea_cons (ev_var rfl) ea_nil) rc_lenL)) (ev_var rfl) (rd_cat (xs := [D.int ((M.bestPlan s.ps s.m a).length : Int)]) (sz (by
    have z := bestPlan_short s.ps s.m a
    rw [List.length_map, List.length_singleton]
    omega)))))
def R_waste : Bs → List D → Bs → D → Prop := fun w ds w' d => ∃ s a, w = eB s ∧ ds = [eL [a]] ∧ w' = eB s ∧ d = eL (qWaste s a) ∧ s.ps.length ≤ 6
theorem len_waste {w : Bs} {ds : List D} {w' : Bs} {d : D} (h : R_waste w ds w' d) : ds.length + 1 = 2 := by obtain ⟨_, _, _, rfl, _⟩ := h; rfl
abbrev s_waste : Stmt := topS 61
theorem sc_waste : FnScope ["bench", "numbers"] ["bench", "numbers"] (defScope s_waste) := ⟨rfl, rfl, rfl, by decide +kernel, rfl, by decide +kernel, by decide +kernel⟩
theorem cal_waste (F : Df K mg "waste" s_waste) (T : Tx K mg C) (c_is_hide : Cal P w K mg base 1 "is_hide" (SpP R_is_hide)) (c_best_plan_of : Cal P w K mg base 5 "best_plan_of" (SpP R_best_plan_of)) : Cal P w K mg base 6 "waste" (SpB C R_waste) := by
  refine cal_ben (k := 5) (N := ["bench", "numbers"]) (ps := ["bench", "numbers"]) (n := 0) F (fun _ _ _ _ _ _ us hl => match us, hl with | [_, _], _ => rfl) sc_waste rfl (fun w ds w' d h => len_waste h) (fun f cdv A outer s H E hr => ⟨_, (pss_cons (ps_if (pt_not (pt_val (pe_c c_is_hide hr (by decide) rfl (pa_cons (pe_ix (ix_listK (K := K) rfl) (pv 1) pe_int (fun _ _ => rfl)) pa_nil)))) (pss_one (ps_ret (pe_lst (pa_cons (pe_gi T.c_OUTSIDE rfl) pa_nil)))) pss_nil)
    (pss_one (ps_ret (pe_lst (pa_cons (pe_op op_sub (pe_ix (ix_listK (K := K) rfl) (pv 1) pe_int (fun _ _ => rfl)) (pe_callB (cr_sum rfl) rfl T.sum (by decide +kernel) (pa_cons (pe_c c_best_plan_of hr (by decide) rfl (pa_cons (pe_fld (pv 0) rfl) (pa_cons (pe_fld (pv 0) rfl) (pa_cons (pe_ix (ix_listK (K := K) rfl) (pv 1) pe_int (fun _ _ => rfl)) pa_nil)))) pa_nil))) pa_nil))))), fun w0 ds w1 d h => ?_⟩)
  obtain ⟨s, a, rfl, rfl, rfl, rfl, hp⟩ := h
  show Run C true _ [.ben s.there (ePs s.ps) (eP s.m), .val (eL [a])] _
  unfold qWaste
  refine run_ifR (c := !okHide a) (et_not (et_B (ev_call (ea_cons (ev_op (ev_var rfl) ev_int (rd_ixL at0)) ea_nil) ⟨a, rfl, rfl⟩))) (fun h => ?_) (fun _ z => nomatch z) (fun h => ?_)
  · rw [if_neg (not_true h)]
    exact run_bad rfl
  rw [if_pos (not_false h)]
  exact run_retB (i := 0) rfl (ev_one (ev_op (ev_op (ev_var rfl) ev_int (rd_ixL at0)) (ev_cb (ea_cons (ev_call (ea_cons (ev_products T.cl T.nP rfl) (ea_cons (ev_machine T.cl T.nM rfl) (ea_cons (ev_op (ev_var rfl) ev_int (rd_ixL at0)) ea_nil))) ⟨s.ps, s.m, a, rfl, rfl, by omega⟩) ea_nil) rc_sum) rd_I0))
def R_plan_count : Bs → List D → Bs → D → Prop := fun w ds w' d => ∃ s a, w = eB s ∧ ds = [eL [a]] ∧ w' = eB s ∧ d = eL (qPlanCount s a) ∧ s.ps.length ≤ 6
theorem len_plan_count {w : Bs} {ds : List D} {w' : Bs} {d : D} (h : R_plan_count w ds w' d) : ds.length + 1 = 2 := by obtain ⟨_, _, _, rfl, _⟩ := h; rfl
abbrev s_plan_count : Stmt := topS 62
theorem sc_plan_count : FnScope ["bench", "numbers"] ["bench", "numbers"] (defScope s_plan_count) := ⟨rfl, rfl, rfl, by decide +kernel, rfl, by decide +kernel, by decide +kernel⟩
theorem cal_plan_count (F : Df K mg "plan_count" s_plan_count) (T : Tx K mg C) (c_is_hide : Cal P w K mg base 1 "is_hide" (SpP R_is_hide)) (c_fitting_plans : Cal P w K mg base 4 "fitting_plans" (SpP R_fitting_plans)) : Cal P w K mg base 5 "plan_count" (SpB C R_plan_count) := by
  refine cal_ben (k := 4) (N := ["bench", "numbers"]) (ps := ["bench", "numbers"]) (n := 0) F (fun _ _ _ _ _ _ us hl => match us, hl with | [_, _], _ => rfl) sc_plan_count rfl (fun w ds w' d h => len_plan_count h) (fun f cdv A outer s H E hr => ⟨_, (pss_cons (ps_if (pt_not (pt_val (pe_c c_is_hide hr (by decide) rfl (pa_cons (pe_ix (ix_listK (K := K) rfl) (pv 1) pe_int (fun _ _ => rfl)) pa_nil)))) (pss_one (ps_ret (pe_lst (pa_cons (pe_gi T.c_OUTSIDE rfl) pa_nil)))) pss_nil)
    (pss_one (ps_ret (pe_lst (pa_cons (pe_callB (call_lenK (K := K) rfl) rfl T.len PySem.boot_len (pa_cons (pe_c c_fitting_plans hr (by decide) rfl (pa_cons (pe_fld (pv 0) rfl) (pa_cons (pe_fld (pv 0) rfl) (pa_cons (pe_ix (ix_listK (K := K) rfl) (pv 1) pe_int (fun _ _ => rfl)) pa_nil)))) pa_nil)) pa_nil))))), fun w0 ds w1 d h => ?_⟩)
  obtain ⟨s, a, rfl, rfl, rfl, rfl, hp⟩ := h
  show Run C true _ [.ben s.there (ePs s.ps) (eP s.m), .val (eL [a])] _
  unfold qPlanCount
  refine run_ifR (c := !okHide a) (et_not (et_B (ev_call (ea_cons (ev_op (ev_var rfl) ev_int (rd_ixL at0)) ea_nil) ⟨a, rfl, rfl⟩))) (fun h => ?_) (fun _ z => nomatch z) (fun h => ?_)
  · rw [if_neg (not_true h)]
    exact run_bad rfl
  rw [if_pos (not_false h)]
  exact run_retB (i := 0) rfl (ev_one (ev_cb (ea_cons (ev_call (ea_cons (ev_products T.cl T.nP rfl) (ea_cons (ev_machine T.cl T.nM rfl) (ea_cons (ev_op (ev_var rfl) ev_int (rd_ixL at0)) ea_nil))) ⟨s.ps, s.m, a, rfl, rfl, by omega⟩) ea_nil) (rc_lenLL (l := fitting s.ps s.m a))))
def R_best_plan_count : Bs → List D → Bs → D → Prop := fun w ds w' d => ∃ s a, w = eB s ∧ ds = [eL [a]] ∧ w' = eB s ∧ d = eL (qBestPlanCount s a) ∧ s.ps.length ≤ 6 ∧ 0 ≤ s.m.2
theorem len_best_plan_count {w : Bs} {ds : List D} {w' : Bs} {d : D} (h : R_best_plan_count w ds w' d) : ds.length + 1 = 2 := by obtain ⟨_, _, _, rfl, _⟩ := h; rfl
abbrev s_best_plan_count : Stmt := topS 63
theorem sc_best_plan_count : FnScope ["bench", "numbers"] ["bench", "numbers"] (defScope s_best_plan_count) := ⟨rfl, rfl, rfl, by decide +kernel, rfl, by decide +kernel, by decide +kernel⟩
theorem cal_best_plan_count (F : Df K mg "best_plan_count" s_best_plan_count) (T : Tx K mg C) (c_is_hide : Cal P w K mg base 1 "is_hide" (SpP R_is_hide)) (c_best_count_of : Cal P w K mg base 5 "best_count_of" (SpP R_best_count_of)) : Cal P w K mg base 6 "best_plan_count" (SpB C R_best_plan_count) := by
  refine cal_ben (k := 5) (N := ["bench", "numbers"]) (ps := ["bench", "numbers"]) (n := 0) F (fun _ _ _ _ _ _ us hl => match us, hl with | [_, _], _ => rfl) sc_best_plan_count rfl (fun w ds w' d h => len_best_plan_count h) (fun f cdv A outer s H E hr => ⟨_, (pss_cons (ps_if (pt_not (pt_val (pe_c c_is_hide hr (by decide) rfl (pa_cons (pe_ix (ix_listK (K := K) rfl) (pv 1) pe_int (fun _ _ => rfl)) pa_nil)))) (pss_one (ps_ret (pe_lst (pa_cons (pe_gi T.c_OUTSIDE rfl) pa_nil)))) pss_nil)
    (pss_one (ps_ret (pe_lst (pa_cons (pe_c c_best_count_of hr (by decide) rfl (pa_cons (pe_fld (pv 0) rfl) (pa_cons (pe_fld (pv 0) rfl) (pa_cons (pe_ix (ix_listK (K := K) rfl) (pv 1) pe_int (fun _ _ => rfl)) pa_nil)))) pa_nil))))), fun w0 ds w1 d h => ?_⟩)
  obtain ⟨s, a, rfl, rfl, rfl, rfl, hp, hm⟩ := h
  show Run C true _ [.ben s.there (ePs s.ps) (eP s.m), .val (eL [a])] _
  unfold qBestPlanCount
  refine run_ifR (c := !okHide a) (et_not (et_B (ev_call (ea_cons (ev_op (ev_var rfl) ev_int (rd_ixL at0)) ea_nil) ⟨a, rfl, rfl⟩))) (fun h => ?_) (fun _ z => nomatch z) (fun h => ?_)
  · rw [if_neg (not_true h)]
    exact run_bad rfl
  rw [if_pos (not_false h)]
  have h0 : 0 ≤ a := of_decide_eq_true (Bool.and_eq_true_iff.mp (show (decide (0 ≤ a) && decide (a ≤ 60)) = true from not_false h)).1
  exact run_retB (i := 0) rfl (ev_one (ev_call (ea_cons (ev_products T.cl T.nP rfl) (ea_cons (ev_machine T.cl T.nM rfl) (ea_cons (ev_op (ev_var rfl) ev_int (rd_ixL at0)) ea_nil))) ⟨s.ps, s.m, a, rfl, rfl, by omega, h0, hm⟩))
def R_value_table : Bs → List D → Bs → D → Prop := fun w ds w' d => ∃ s, w = eB s ∧ ds = [eL []] ∧ w' = eB s ∧ d = eL (qValueTable s) ∧ s.ps.length ≤ 6
theorem len_value_table {w : Bs} {ds : List D} {w' : Bs} {d : D} (h : R_value_table w ds w' d) : ds.length + 1 = 2 := by obtain ⟨_, _, rfl, _⟩ := h; rfl
abbrev s_value_table : Stmt := topS 64
theorem sc_value_table : FnScope ["bench", "numbers", "hides", "k"] ["bench", "numbers"] (defScope s_value_table) := ⟨rfl, rfl, rfl, by decide +kernel, rfl, by decide +kernel, by decide +kernel⟩
theorem cal_value_table (F : Df K mg "value_table" s_value_table) (T : Tx K mg C) (c_best_values_of : Cal P w K mg base 5 "best_values_of" (SpP R_best_values_of)) : Cal P w K mg base 6 "value_table" (SpB C R_value_table) := by
  refine cal_ben (k := 5) (N := ["bench", "numbers", "hides", "k"]) (ps := ["bench", "numbers"]) (n := 2) F (fun _ _ _ _ _ _ us hl => match us, hl with | [_, _], _ => rfl) sc_value_table rfl (fun w ds w' d h => len_value_table h) (fun f cdv A outer s H E hr => ⟨_, (pss_cons (ps_setLc (i := 2) (own := [("k", 3)]) (g := (gName 3)) rfl sc_value_table.nd rfl rfl (sw_true rfl rfl rfl (by decide +kernel)) (pi_range2 rfl T.range (pa_cons pe_int (pa_cons pe_int pa_nil))) (blkOk_by (own := [("k", 3)]) (N := ["bench", "numbers", "hides", "k"]) (sc := defScope s_value_table) (by decide +kernel)) (fun _ _ _ _ _ => (pg_name (i := 3) sc_value_table.nd rfl (Or.inl rfl))) (fun _ _ _ _ _ => pts_nil) (fun _ _ _ _ _ => (pe_op op_mul pe_int (pv 3))))
    (pss_one (ps_ret (pe_op op_cat (pe_lst (pa_cons (pe_callB (call_lenK (K := K) rfl) rfl T.len PySem.boot_len (pa_cons (pv 2) pa_nil)) pa_nil)) (pe_c c_best_values_of hr (by decide) rfl (pa_cons (pe_fld (pv 0) rfl) (pa_cons (pe_fld (pv 0) rfl) (pa_cons (pv 2) pa_nil)))))))), fun w0 ds w1 d h => ?_⟩)
  obtain ⟨s, rfl, rfl, rfl, rfl, hp⟩ := h
  show Run C true _ [.ben s.there (ePs s.ps) (eP s.m), .val (eL []), .no, .no] _
  have lh : (bestValues s.ps s.m hides12).length = 12 := by
    unfold bestValues
    rw [List.length_map]
    rfl
  refine run_seq (run_asg (d := eL hides12) (ev_is (ev_lcR (i := 1) (j := 13) (fun x => .int (5 * x)) (ea_cons ev_int (ea_cons ev_int ea_nil)) (by decide) (szb rfl) fun x _ _ => ⟨_, _, (by decide), gok_name, ev_op ev_int (ev_var rfl) (rd_I (.inl (by decide)))⟩) rfl)) ?_
  exact run_retB (i := 0) rfl (ev_op (ev_one (ev_cb (ea_cons (ev_var rfl) ea_nil) rc_lenL)) (ev_call (ea_cons (ev_products T.cl T.nP rfl) (ea_cons (ev_machine T.cl T.nM rfl) (ea_cons (ev_var rfl) ea_nil))) ⟨s.ps, s.m, hides12, rfl, rfl, by omega, by decide⟩) (rd_cat (xs := [D.int 12]) (sz (by
    rw [List.length_map, lh]
    decide))))
def R_least_thickness : Bs → List D → Bs → D → Prop := fun w ds w' d => ∃ s a, w = eB s ∧ ds = [eL [a]] ∧ w' = eB s ∧ d = eL (qLeast s a) ∧ s.ps.length ≤ 6
theorem len_least_thickness {w : Bs} {ds : List D} {w' : Bs} {d : D} (h : R_least_thickness w ds w' d) : ds.length + 1 = 2 := by obtain ⟨_, _, _, rfl, _⟩ := h; rfl
abbrev s_least_thickness : Stmt := topS 65
theorem sc_least_thickness : FnScope ["bench", "numbers", "found"] ["bench", "numbers"] (defScope s_least_thickness) := ⟨rfl, rfl, rfl, by decide +kernel, rfl, by decide +kernel, by decide +kernel⟩
theorem cal_least_thickness (F : Df K mg "least_thickness" s_least_thickness) (T : Tx K mg C) (c_least_hide : Cal P w K mg base 5 "least_hide" (SpP R_least_hide)) (c_is_value : Cal P w K mg base 1 "is_value" (SpP R_is_value)) : Cal P w K mg base 6 "least_thickness" (SpB C R_least_thickness) := by
  refine cal_ben (k := 5) (N := ["bench", "numbers", "found"]) (ps := ["bench", "numbers"]) (n := 1) F (fun _ _ _ _ _ _ us hl => match us, hl with | [_, _], _ => rfl) sc_least_thickness rfl (fun w ds w' d h => len_least_thickness h) (fun f cdv A outer s H E hr => ⟨_, (pss_cons (ps_if (pt_not (pt_val (pe_c c_is_value hr (by decide) rfl (pa_cons (pe_ix (ix_listK (K := K) rfl) (pv 1) pe_int (fun _ _ => rfl)) pa_nil)))) (pss_one (ps_ret (pe_lst (pa_cons (pe_gi T.c_OUTSIDE rfl) pa_nil)))) pss_nil)
    (pss_cons (ps_set (i := 2) sc_least_thickness.nd rfl (Or.inl rfl) (pe_c c_least_hide hr (by decide) rfl (pa_cons (pe_fld (pv 0) rfl) (pa_cons (pe_fld (pv 0) rfl) (pa_cons (pe_ix (ix_listK (K := K) rfl) (pv 1) pe_int (fun _ _ => rfl)) pa_nil)))))
    (pss_one (ps_ret (pe_ifExp (pt_cmpR op_lt (pv 2) pe_int (nomark _)) (pe_lst (pa_cons (pe_gi T.c_NOT_ENOUGH rfl) pa_nil)) (pe_lst (pa_cons (pv 2) pa_nil))))))), fun w0 ds w1 d h => ?_⟩)
  obtain ⟨s, a, rfl, rfl, rfl, rfl, hp⟩ := h
  show Run C true _ [.ben s.there (ePs s.ps) (eP s.m), .val (eL [a]), .no] _
  unfold qLeast
  refine run_ifR (c := !okValue a) (et_not (et_B (ev_call (ea_cons (ev_op (ev_var rfl) ev_int (rd_ixL at0)) ea_nil) ⟨a, rfl, rfl⟩))) (fun h => ?_) (fun _ z => nomatch z) (fun h => ?_)
  · rw [if_neg (not_true h)]
    exact run_bad rfl
  rw [if_pos (not_false h)]
  refine run_seq (run_asg (ev_call (ea_cons (ev_products T.cl T.nP rfl) (ea_cons (ev_machine T.cl T.nM rfl) (ea_cons (ev_op (ev_var rfl) ev_int (rd_ixL at0)) ea_nil))) ⟨s.ps, s.m, a, rfl, rfl, by omega⟩)) (run_retB (i := 0) rfl (ev_if (c := decide (leastHide s.ps s.m a < 0)) (et_test (ev_op (ev_var rfl) ev_int rd_B0)) (fun z => ?_) (fun z => ?_)))
  · rw [if_pos (of_decide_eq_true z)]
    exact ev_one ev_int
  · rw [if_neg (of_decide_eq_false z)]
    exact ev_one (ev_var rfl)
def R_value_with_machine : Bs → List D → Bs → D → Prop := fun w ds w' d => ∃ s a b c, w = eB s ∧ ds = [eL [a, b, c]] ∧ w' = eB s ∧ d = eL (qWithMachine s a b c) ∧ s.ps.length ≤ 6
theorem len_value_with_machine {w : Bs} {ds : List D} {w' : Bs} {d : D} (h : R_value_with_machine w ds w' d) : ds.length + 1 = 2 := by obtain ⟨_, _, _, _, _, rfl, _⟩ := h; rfl
abbrev s_value_with_machine : Stmt := topS 66
theorem sc_value_with_machine : FnScope ["bench", "numbers", "cut_loss", "max_cuts", "hide"] ["bench", "numbers"] (defScope s_value_with_machine) := ⟨rfl, rfl, rfl, by decide +kernel, rfl, by decide +kernel, by decide +kernel⟩
theorem cal_value_with_machine (F : Df K mg "value_with_machine" s_value_with_machine) (T : Tx K mg C) (c_best_value_of : Cal P w K mg base 5 "best_value_of" (SpP R_best_value_of)) (c_is_machine : Cal P w K mg base 1 "is_machine" (SpP R_is_machine)) (c_is_hide : Cal P w K mg base 1 "is_hide" (SpP R_is_hide)) : Cal P w K mg base 6 "value_with_machine" (SpB C R_value_with_machine) := by
  refine cal_ben (k := 5) (N := ["bench", "numbers", "cut_loss", "max_cuts", "hide"]) (ps := ["bench", "numbers"]) (n := 3) F (fun _ _ _ _ _ _ us hl => match us, hl with | [_, _], _ => rfl) sc_value_with_machine rfl (fun w ds w' d h => len_value_with_machine h) (fun f cdv A outer s H E hr => ⟨_, (pss_cons (ps_asg (pv 1) (pg_unl rfl (pgs_cons (pg_name (i := 2) sc_value_with_machine.nd rfl (Or.inl rfl)) (pgs_cons (pg_name (i := 3) sc_value_with_machine.nd rfl (Or.inl rfl)) (pgs_cons (pg_name (i := 4) sc_value_with_machine.nd rfl (Or.inl rfl)) pgs_nil)))))
    (pss_cons (ps_if (PW.pt (pw_or (pt_not (pt_val (pe_c c_is_machine hr (by decide) rfl (pa_cons (pv 2) (pa_cons (pv 3) pa_nil))))) (pw_or1 (pt_not (pt_val (pe_c c_is_hide hr (by decide) rfl (pa_cons (pv 4) pa_nil))))))) (pss_one (ps_ret (pe_lst (pa_cons (pe_gi T.c_OUTSIDE rfl) pa_nil)))) pss_nil)
    (pss_one (ps_ret (pe_lst (pa_cons (pe_c c_best_value_of hr (by decide) rfl (pa_cons (pe_fld (pv 0) rfl) (pa_cons (pe_tup (pa_cons (pv 2) (pa_cons (pv 3) pa_nil))) (pa_cons (pv 4) pa_nil)))) pa_nil)))))), fun w0 ds w1 d h => ?_⟩)
  obtain ⟨s, a, b, c, rfl, rfl, rfl, rfl, hp⟩ := h
  show Run C true _ [.ben s.there (ePs s.ps) (eP s.m), .val (eL [a, b, c]), .no, .no, .no] _
  unfold qWithMachine
  refine run_seq (run_asgG (ev_var rfl) gok_three) (run_ifR (c := !(okMachine a b && okHide c)) (evt_is (et_or (et_not (et_B (ev_call (ea_cons (ev_var rfl) (ea_cons (ev_var rfl) ea_nil)) ⟨a, b, rfl, rfl⟩))) fun _ => et_not (et_B (ev_call (ea_cons (ev_var rfl) ea_nil) ⟨c, rfl, rfl⟩))) (Bool.not_and _ _).symm) (fun h => ?_) (fun _ z => nomatch z) (fun h => ?_))
  · rw [if_neg (not_true h)]
    exact run_bad rfl
  rw [if_pos (not_false h)]
  exact run_retB (i := 0) rfl (ev_one (ev_call (ea_cons (ev_products T.cl T.nP rfl) (ea_cons (ev_tup (ea_cons (ev_var rfl) (ea_cons (ev_var rfl) ea_nil)) (szb rfl)) (ea_cons (ev_var rfl) ea_nil))) ⟨s.ps, (a, b), c, rfl, rfl, by omega⟩))
def R_value_with_product : Bs → List D → Bs → D → Prop := fun w ds w' d => ∃ s a b c, w = eB s ∧ ds = [eL [a, b, c]] ∧ w' = eB s ∧ d = eL (qWithProduct s a b c) ∧ s.ps.length ≤ 6
theorem len_value_with_product {w : Bs} {ds : List D} {w' : Bs} {d : D} (h : R_value_with_product w ds w' d) : ds.length + 1 = 2 := by obtain ⟨_, _, _, _, _, rfl, _⟩ := h; rfl
abbrev s_value_with_product : Stmt := topS 67
theorem sc_value_with_product : FnScope ["bench", "numbers", "thickness", "price", "hide"] ["bench", "numbers"] (defScope s_value_with_product) := ⟨rfl, rfl, rfl, by decide +kernel, rfl, by decide +kernel, by decide +kernel⟩
theorem cal_value_with_product (F : Df K mg "value_with_product" s_value_with_product) (T : Tx K mg C) (c_has_product : Cal P w K mg base 2 "has_product" (SpP R_has_product)) (c_best_value_of : Cal P w K mg base 5 "best_value_of" (SpP R_best_value_of)) (c_is_thickness : Cal P w K mg base 1 "is_thickness" (SpP R_is_thickness)) (c_is_price : Cal P w K mg base 1 "is_price" (SpP R_is_price)) (c_is_hide : Cal P w K mg base 1 "is_hide" (SpP R_is_hide)) (c_with_product : Cal P w K mg base 1 "with_product" (SpP R_with_product)) : Cal P w K mg base 6 "value_with_product" (SpB C R_value_with_product) := by
  refine cal_ben (k := 5) (N := ["bench", "numbers", "thickness", "price", "hide"]) (ps := ["bench", "numbers"]) (n := 3) F (fun _ _ _ _ _ _ us hl => match us, hl with | [_, _], _ => rfl) sc_value_with_product rfl (fun w ds w' d h => len_value_with_product h) (fun f cdv A outer s H E hr => ⟨_, (pss_cons (ps_asg (pv 1) (pg_unl rfl (pgs_cons (pg_name (i := 2) sc_value_with_product.nd rfl (Or.inl rfl)) (pgs_cons (pg_name (i := 3) sc_value_with_product.nd rfl (Or.inl rfl)) (pgs_cons (pg_name (i := 4) sc_value_with_product.nd rfl (Or.inl rfl)) pgs_nil)))))
    (pss_cons (ps_if (PW.pt (pw_or (pt_not (pt_val (pe_c c_is_thickness hr (by decide) rfl (pa_cons (pv 2) pa_nil)))) (pw_or (pt_not (pt_val (pe_c c_is_price hr (by decide) rfl (pa_cons (pv 3) pa_nil)))) (pw_or1 (pt_not (pt_val (pe_c c_is_hide hr (by decide) rfl (pa_cons (pv 4) pa_nil)))))))) (pss_one (ps_ret (pe_lst (pa_cons (pe_gi T.c_OUTSIDE rfl) pa_nil)))) pss_nil)
    (pss_cons (ps_if (pt_val (pe_c c_has_product hr (by decide) rfl (pa_cons (pe_fld (pv 0) rfl) (pa_cons (pv 2) pa_nil)))) (pss_one (ps_ret (pe_lst (pa_cons (pe_gi T.c_THERE_ALREADY rfl) pa_nil)))) pss_nil)
    (pss_one (ps_ret (pe_lst (pa_cons (pe_c c_best_value_of hr (by decide) rfl (pa_cons (pe_c c_with_product hr (by decide) rfl (pa_cons (pe_fld (pv 0) rfl) (pa_cons (pv 2) (pa_cons (pv 3) pa_nil)))) (pa_cons (pe_fld (pv 0) rfl) (pa_cons (pv 4) pa_nil)))) pa_nil))))))), fun w0 ds w1 d h => ?_⟩)
  obtain ⟨s, a, b, c, rfl, rfl, rfl, rfl, hp⟩ := h
  show Run C true _ [.ben s.there (ePs s.ps) (eP s.m), .val (eL [a, b, c]), .no, .no, .no] _
  unfold qWithProduct
  refine run_seq (run_asgG (ev_var rfl) gok_three) (run_ifR (c := !(okThickness a && (okPrice b && okHide c))) (evt_is (et_or (et_not (et_B (ev_call (ea_cons (ev_var rfl) ea_nil) ⟨a, rfl, rfl⟩))) fun _ => et_or (et_not (et_B (ev_call (ea_cons (ev_var rfl) ea_nil) ⟨b, rfl, rfl⟩))) fun _ => et_not (et_B (ev_call (ea_cons (ev_var rfl) ea_nil) ⟨c, rfl, rfl⟩))) (by rw [Bool.not_and, Bool.not_and])) (fun h => ?_) (fun _ z => nomatch z) (fun h => ?_))
  · rw [if_neg (not_true h)]
    exact run_bad rfl
  rw [if_pos (not_false h)]
  refine run_ifR (c := has s.ps a) (et_B (ev_call (ea_cons (ev_products T.cl T.nP rfl) (ea_cons (ev_var rfl) ea_nil)) ⟨s.ps, a, rfl, rfl, by omega⟩)) (fun h => ?_) (fun _ z => nomatch z) (fun h => ?_)
  · rw [if_pos h]
    exact run_bad rfl
  rw [if_neg (by rw [h]; decide)]
  have wl := withP_len s.ps a b
  exact run_retB (i := 0) rfl (ev_one (ev_call (ea_cons (ev_call (ea_cons (ev_products T.cl T.nP rfl) (ea_cons (ev_var rfl) (ea_cons (ev_var rfl) ea_nil))) ⟨s.ps, a, b, rfl, rfl, by omega⟩) (ea_cons (ev_machine T.cl T.nM rfl) (ea_cons (ev_var rfl) ea_nil))) ⟨withP s.ps a b, s.m, c, rfl, rfl, by omega⟩))
def R_layers_of_product : Bs → List D → Bs → D → Prop := fun w ds w' d => ∃ s a b, w = eB s ∧ ds = [eL [a, b]] ∧ w' = eB s ∧ d = eL (qLayers s a b) ∧ s.ps.length ≤ 6
theorem len_layers_of_product {w : Bs} {ds : List D} {w' : Bs} {d : D} (h : R_layers_of_product w ds w' d) : ds.length + 1 = 2 := by obtain ⟨_, _, _, _, rfl, _⟩ := h; rfl
abbrev s_layers_of_product : Stmt := topS 68
theorem sc_layers_of_product : FnScope ["bench", "numbers", "hide", "thickness"] ["bench", "numbers"] (defScope s_layers_of_product) := ⟨rfl, rfl, rfl, by decide +kernel, rfl, by decide +kernel, by decide +kernel⟩
theorem cal_layers_of_product (F : Df K mg "layers_of_product" s_layers_of_product) (T : Tx K mg C) (c_has_product : Cal P w K mg base 2 "has_product" (SpP R_has_product)) (c_is_hide : Cal P w K mg base 1 "is_hide" (SpP R_is_hide)) (c_best_plan_of : Cal P w K mg base 5 "best_plan_of" (SpP R_best_plan_of)) : Cal P w K mg base 6 "layers_of_product" (SpB C R_layers_of_product) := by
  refine cal_ben (k := 5) (N := ["bench", "numbers", "hide", "thickness"]) (ps := ["bench", "numbers"]) (n := 2) F (fun _ _ _ _ _ _ us hl => match us, hl with | [_, _], _ => rfl) sc_layers_of_product rfl (fun w ds w' d h => len_layers_of_product h) (fun f cdv A outer s H E hr => ⟨_, (pss_cons (ps_asg (pv 1) (pg_unl rfl (pgs_cons (pg_name (i := 2) sc_layers_of_product.nd rfl (Or.inl rfl)) (pgs_cons (pg_name (i := 3) sc_layers_of_product.nd rfl (Or.inl rfl)) pgs_nil))))
    (pss_cons (ps_if (pt_not (pt_val (pe_c c_has_product hr (by decide) rfl (pa_cons (pe_fld (pv 0) rfl) (pa_cons (pv 3) pa_nil))))) (pss_one (ps_ret (pe_lst (pa_cons (pe_gi T.c_NO_PRODUCT rfl) pa_nil)))) pss_nil)
    (pss_cons (ps_if (pt_not (pt_val (pe_c c_is_hide hr (by decide) rfl (pa_cons (pv 2) pa_nil)))) (pss_one (ps_ret (pe_lst (pa_cons (pe_gi T.c_OUTSIDE rfl) pa_nil)))) pss_nil)
    (pss_one (ps_ret (pe_lst (pa_cons (pe_bm PySem.F.plainAttrs_list PySem.F.slot_list_count PySem.F.type_list_count mt_lcount (pe_c c_best_plan_of hr (by decide) rfl (pa_cons (pe_fld (pv 0) rfl) (pa_cons (pe_fld (pv 0) rfl) (pa_cons (pv 2) pa_nil)))) (pa_cons (pv 3) pa_nil)) pa_nil))))))), fun w0 ds w1 d h => ?_⟩)
  obtain ⟨s, a, b, rfl, rfl, rfl, rfl, hp⟩ := h
  show Run C true _ [.ben s.there (ePs s.ps) (eP s.m), .val (eL [a, b]), .no, .no] _
  unfold qLayers
  refine run_seq (run_asgG (ev_var rfl) gok_two) (run_ifR (c := !has s.ps b) (et_not (et_B (ev_call (ea_cons (ev_products T.cl T.nP rfl) (ea_cons (ev_var rfl) ea_nil)) ⟨s.ps, b, rfl, rfl, by omega⟩))) (fun h => ?_) (fun _ z => nomatch z) (fun h => ?_))
  · rw [if_neg (not_true h)]
    exact run_bad rfl
  rw [if_pos (not_false h)]
  refine run_ifR (c := !okHide a) (et_not (et_B (ev_call (ea_cons (ev_var rfl) ea_nil) ⟨a, rfl, rfl⟩))) (fun h => ?_) (fun _ z => nomatch z) (fun h => ?_)
  · rw [if_neg (not_true h)]
    exact run_bad rfl
  rw [if_pos (not_false h)]
  exact run_retB (i := 0) rfl (ev_one (ev_count (ev_call (ea_cons (ev_products T.cl T.nP rfl) (ea_cons (ev_machine T.cl T.nM rfl) (ea_cons (ev_var rfl) ea_nil))) ⟨s.ps, s.m, a, rfl, rfl, by omega⟩) (ev_var rfl)))
def R_value_of_two : Bs → List D → Bs → D → Prop := fun w ds w' d => ∃ s a b, w = eB s ∧ ds = [eL [a, b]] ∧ w' = eB s ∧ d = eL (qTwo s a b) ∧ s.ps.length ≤ 6
theorem len_value_of_two {w : Bs} {ds : List D} {w' : Bs} {d : D} (h : R_value_of_two w ds w' d) : ds.length + 1 = 2 := by obtain ⟨_, _, _, _, rfl, _⟩ := h; rfl
abbrev s_value_of_two : Stmt := topS 69
theorem sc_value_of_two : FnScope ["bench", "numbers", "first", "second"] ["bench", "numbers"] (defScope s_value_of_two) := ⟨rfl, rfl, rfl, by decide +kernel, rfl, by decide +kernel, by decide +kernel⟩
theorem cal_value_of_two (F : Df K mg "value_of_two" s_value_of_two) (T : Tx K mg C) (c_is_hide : Cal P w K mg base 1 "is_hide" (SpP R_is_hide)) (c_best_values_of : Cal P w K mg base 5 "best_values_of" (SpP R_best_values_of)) : Cal P w K mg base 6 "value_of_two" (SpB C R_value_of_two) := by
  refine cal_ben (k := 5) (N := ["bench", "numbers", "first", "second"]) (ps := ["bench", "numbers"]) (n := 2) F (fun _ _ _ _ _ _ us hl => match us, hl with | [_, _], _ => rfl) sc_value_of_two rfl (fun w ds w' d h => len_value_of_two h) (fun f cdv A outer s H E hr => ⟨_, (pss_cons (ps_asg (pv 1) (pg_unl rfl (pgs_cons (pg_name (i := 2) sc_value_of_two.nd rfl (Or.inl rfl)) (pgs_cons (pg_name (i := 3) sc_value_of_two.nd rfl (Or.inl rfl)) pgs_nil))))
    (pss_cons (ps_if (PW.pt (pw_or (pt_not (pt_val (pe_c c_is_hide hr (by decide) rfl (pa_cons (pv 2) pa_nil)))) (pw_or1 (pt_not (pt_val (pe_c c_is_hide hr (by decide) rfl (pa_cons (pv 3) pa_nil))))))) (pss_one (ps_ret (pe_lst (pa_cons (pe_gi T.c_OUTSIDE rfl) pa_nil)))) pss_nil)
    (pss_one (ps_ret (pe_lst (pa_cons (pe_callB (cr_sum rfl) rfl T.sum (by decide +kernel) (pa_cons (pe_c c_best_values_of hr (by decide) rfl (pa_cons (pe_fld (pv 0) rfl) (pa_cons (pe_fld (pv 0) rfl) (pa_cons (pe_lst (pa_cons (pv 2) (pa_cons (pv 3) pa_nil))) pa_nil)))) pa_nil)) pa_nil)))))), fun w0 ds w1 d h => ?_⟩)
  obtain ⟨s, a, b, rfl, rfl, rfl, rfl, hp⟩ := h
  show Run C true _ [.ben s.there (ePs s.ps) (eP s.m), .val (eL [a, b]), .no, .no] _
  unfold qTwo
  refine run_seq (run_asgG (ev_var rfl) gok_two) (run_ifR (c := !(okHide a && okHide b)) (evt_is (et_or (et_not (et_B (ev_call (ea_cons (ev_var rfl) ea_nil) ⟨a, rfl, rfl⟩))) fun _ => et_not (et_B (ev_call (ea_cons (ev_var rfl) ea_nil) ⟨b, rfl, rfl⟩))) (Bool.not_and _ _).symm) (fun h => ?_) (fun _ z => nomatch z) (fun h => ?_))
  · rw [if_neg (not_true h)]
    exact run_bad rfl
  rw [if_pos (not_false h)]
  exact run_retB (i := 0) rfl (ev_one (ev_cb (ea_cons (ev_call (ea_cons (ev_products T.cl T.nP rfl) (ea_cons (ev_machine T.cl T.nM rfl) (ea_cons (ev_lst (ea_cons (ev_var rfl) (ea_cons (ev_var rfl) ea_nil)) (szb rfl)) ea_nil))) ⟨s.ps, s.m, [a, b], rfl, rfl, by omega, Nat.le_of_ble_eq_true rfl⟩) ea_nil) rc_sum))
end
end HL

end
section
set_option maxRecDepth 100000
set_option maxHeartbeats 4000000
namespace HL
open PySem PySem.Spec PyProof.Rows L2 M
local macro_rules | `(tactic| walk_at "fgt") => `(tactic| repeat (first | exact Fgt.nil | apply Fgt.keep | apply Fgt.drop))
section
variable {P : Program} {w : World} {K : PySem.W.Frag} {mg : Str → Option Value} {base : Heap} {C : Addr}
/-! ### the splitter -/
/-- if number == k, another number: go on -/
theorem run_nx {ρ : List S} {tr : TE} {ts tw : TS} {out : Out} {n k : Int} (hv : ρ[1]? = some (.val (.int n))) (h : decide (n = k) = false) (hr : ∀ ρ', out ≠ .nx ρ') (h2 : Run C true tw ρ out) : Run C true (tSeq (tIfS (tTest (tOp rEq (tVar 1) (tC (.int k)))) ts tNext) tw) ρ out :=
  run_ifR (c := false) (evt_is (et_test (ev_op (ev_var hv) ev_int rd_eq)) h) (fun z => nomatch z) hr fun _ => h2
/-- that number -/
theorem run_ys {ρ : List S} {ts tw : TS} {out : Out} {n k : Int} (hv : ρ[1]? = some (.val (.int n))) (h : decide (n = k) = true) (hr : ∀ ρ', out ≠ .nx ρ') (h2 : Run C true ts ρ out) : Run C true (tSeq (tIfS (tTest (tOp rEq (tVar 1) (tC (.int k)))) ts tNext) tw) ρ out :=
  run_ifR (c := true) (evt_is (et_test (ev_op (ev_var hv) ev_int rd_eq)) h) (fun _ => h2) hr fun z => nomatch z
local macro_rules | `(tactic| walk_at "no") => `(tactic| refine run_nx (tr := fun _ _ _ => False) rfl rfl (fun _ z => nomatch z) ?_)
def R_changed : Bs → List D → Bs → D → Prop := fun w ds w' d => ∃ s n l s' o, w = eB s ∧ ds = [.int n, eL l] ∧ w' = eB s' ∧ d = eL o ∧ ChR s n l s' o ∧ s.ps.length ≤ 6
theorem len_changed {w : Bs} {ds : List D} {w' : Bs} {d : D} (h : R_changed w ds w' d) : ds.length + 1 = 3 := by obtain ⟨_, _, _, _, _, _, rfl, _⟩ := h; rfl
abbrev s_changed : Stmt := topS 72
theorem sc_changed : FnScope ["bench", "number", "numbers"] ["bench", "number", "numbers"] (defScope s_changed) := ⟨rfl, rfl, rfl, by decide +kernel, rfl, by decide +kernel, by decide +kernel⟩
theorem cal_changed (F : Df K mg "changed" s_changed) (T : Tx K mg C) (c_set_machine : Cal P w K mg base 2 "set_machine" (SpB C R_set_machine)) (c_create : Cal P w K mg base 2 "create" (SpB C R_create)) (c_add_product : Cal P w K mg base 3 "add_product" (SpB C R_add_product)) (c_remove_product : Cal P w K mg base 3 "remove_product" (SpB C R_remove_product)) (c_set_price : Cal P w K mg base 3 "set_price" (SpB C R_set_price)) (c_get_products : Cal P w K mg base 1 "get_products" (SpB C R_get_products)) : Cal P w K mg base 4 "changed" (SpB C R_changed) := by
  refine cal_ben (k := 3) (N := ["bench", "number", "numbers"]) (ps := ["bench", "number", "numbers"]) (n := 0) F (fun _ _ _ _ _ _ us hl => match us, hl with | [_, _, _], _ => rfl) sc_changed rfl (fun w ds w' d h => len_changed h) (fun f cdv A outer s H E hr => ⟨_, (pss_cons (ps_if (pt_cmpR op_eq (pv 1) pe_int (nomark _)) (pss_one (ps_ret (pe_c c_create hr (by decide) rfl (pa_cons (pv 0) (pa_cons (pv 2) pa_nil))))) pss_nil)
    (pss_cons (ps_if (pt_cmpR op_eq (pv 1) pe_int (nomark _)) (pss_one (ps_ret (pe_c c_add_product hr (by decide) rfl (pa_cons (pv 0) (pa_cons (pv 2) pa_nil))))) pss_nil)
    (pss_cons (ps_if (pt_cmpR op_eq (pv 1) pe_int (nomark _)) (pss_one (ps_ret (pe_c c_remove_product hr (by decide) rfl (pa_cons (pv 0) (pa_cons (pv 2) pa_nil))))) pss_nil)
    (pss_cons (ps_if (pt_cmpR op_eq (pv 1) pe_int (nomark _)) (pss_one (ps_ret (pe_c c_set_price hr (by decide) rfl (pa_cons (pv 0) (pa_cons (pv 2) pa_nil))))) pss_nil)
    (pss_cons (ps_if (pt_cmpR op_eq (pv 1) pe_int (nomark _)) (pss_one (ps_ret (pe_c c_get_products hr (by decide) rfl (pa_cons (pv 0) (pa_cons (pv 2) pa_nil))))) pss_nil)
    (pss_one (ps_ret (pe_c c_set_machine hr (by decide) rfl (pa_cons (pv 0) (pa_cons (pv 2) pa_nil)))))))))), fun w0 ds w1 d h => ?_⟩)
  obtain ⟨s, n, l, s', o, rfl, rfl, rfl, rfl, hc, hp⟩ := h
  show Run C true _ [.ben s.there (ePs s.ps) (eP s.m), .val (.int n), .val (eL l)] _
  cases hc with
  | c0 a b => exact run_ys rfl rfl (fun _ z => nomatch z) (run_retCall (i := 0) rfl rfl (ea_cons (ev_var rfl) ea_nil) ⟨s, a, b, rfl, rfl, rfl, rfl⟩)
  | c1 a b =>
    walk_at "no"
    exact run_ys rfl rfl (fun _ z => nomatch z) (run_retCall (i := 0) rfl rfl (ea_cons (ev_var rfl) ea_nil) ⟨s, a, b, rfl, rfl, rfl, rfl, hp⟩)
  | c2 a =>
    iterate 2 walk_at "no"
    exact run_ys rfl rfl (fun _ z => nomatch z) (run_retCall (i := 0) rfl rfl (ea_cons (ev_var rfl) ea_nil) ⟨s, a, rfl, rfl, rfl, rfl, hp⟩)
  | c3 a b =>
    iterate 3 walk_at "no"
    exact run_ys rfl rfl (fun _ z => nomatch z) (run_retCall (i := 0) rfl rfl (ea_cons (ev_var rfl) ea_nil) ⟨s, a, b, rfl, rfl, rfl, rfl, hp⟩)
  | c4 =>
    iterate 4 walk_at "no"
    exact run_ys rfl rfl (fun _ z => nomatch z) (run_retCall (i := 0) rfl rfl (ea_cons (ev_var rfl) ea_nil) ⟨s, rfl, rfl, rfl, rfl, hp⟩)
  | c5 a b =>
    iterate 5 walk_at "no"
    exact run_retCall (i := 0) rfl rfl (ea_cons (ev_var rfl) ea_nil) ⟨s, a, b, rfl, rfl, rfl, rfl⟩
def R_asked : Bs → List D → Bs → D → Prop := fun w ds w' d => ∃ s n l o, w = eB s ∧ ds = [.int n, eL l] ∧ w' = eB s ∧ d = eL o ∧ QR s n l o ∧ s.ps.length ≤ 6
theorem len_asked {w : Bs} {ds : List D} {w' : Bs} {d : D} (h : R_asked w ds w' d) : ds.length + 1 = 3 := by obtain ⟨_, _, _, _, _, rfl, _⟩ := h; rfl
abbrev s_asked : Stmt := topS 73
theorem sc_asked : FnScope ["bench", "number", "numbers"] ["bench", "number", "numbers"] (defScope s_asked) := ⟨rfl, rfl, rfl, by decide +kernel, rfl, by decide +kernel, by decide +kernel⟩
theorem cal_asked (F : Df K mg "asked" s_asked) (T : Tx K mg C) (c_plan_count : Cal P w K mg base 5 "plan_count" (SpB C R_plan_count)) (c_plan_value : Cal P w K mg base 4 "plan_value" (SpB C R_plan_value)) (c_fits : Cal P w K mg base 4 "fits" (SpB C R_fits)) (c_cut_count : Cal P w K mg base 4 "cut_count" (SpB C R_cut_count)) (c_best_value : Cal P w K mg base 6 "best_value" (SpB C R_best_value)) (c_best_plan : Cal P w K mg base 6 "best_plan" (SpB C R_best_plan)) (c_waste : Cal P w K mg base 6 "waste" (SpB C R_waste)) : Cal P w K mg base 7 "asked" (SpB C R_asked) := by
  refine cal_ben (k := 6) (N := ["bench", "number", "numbers"]) (ps := ["bench", "number", "numbers"]) (n := 0) F (fun _ _ _ _ _ _ us hl => match us, hl with | [_, _, _], _ => rfl) sc_asked rfl (fun w ds w' d h => len_asked h) (fun f cdv A outer s H E hr => ⟨_, (pss_cons (ps_if (pt_cmpR op_eq (pv 1) pe_int (nomark _)) (pss_one (ps_ret (pe_c c_plan_value hr (by decide) rfl (pa_cons (pv 0) (pa_cons (pv 2) pa_nil))))) pss_nil)
    (pss_cons (ps_if (pt_cmpR op_eq (pv 1) pe_int (nomark _)) (pss_one (ps_ret (pe_c c_fits hr (by decide) rfl (pa_cons (pv 0) (pa_cons (pv 2) pa_nil))))) pss_nil)
    (pss_cons (ps_if (pt_cmpR op_eq (pv 1) pe_int (nomark _)) (pss_one (ps_ret (pe_c c_cut_count hr (by decide) rfl (pa_cons (pv 0) (pa_cons (pv 2) pa_nil))))) pss_nil)
    (pss_cons (ps_if (pt_cmpR op_eq (pv 1) pe_int (nomark _)) (pss_one (ps_ret (pe_c c_best_value hr (by decide) rfl (pa_cons (pv 0) (pa_cons (pv 2) pa_nil))))) pss_nil)
    (pss_cons (ps_if (pt_cmpR op_eq (pv 1) pe_int (nomark _)) (pss_one (ps_ret (pe_c c_best_plan hr (by decide) rfl (pa_cons (pv 0) (pa_cons (pv 2) pa_nil))))) pss_nil)
    (pss_cons (ps_if (pt_cmpR op_eq (pv 1) pe_int (nomark _)) (pss_one (ps_ret (pe_c c_waste hr (by decide) rfl (pa_cons (pv 0) (pa_cons (pv 2) pa_nil))))) pss_nil)
    (pss_one (ps_ret (pe_c c_plan_count hr (by decide) rfl (pa_cons (pv 0) (pa_cons (pv 2) pa_nil))))))))))), fun w0 ds w1 d h => ?_⟩)
  obtain ⟨s, n, l, o, rfl, rfl, rfl, rfl, hc, hp⟩ := h
  show Run C true _ [.ben s.there (ePs s.ps) (eP s.m), .val (.int n), .val (eL l)] _
  cases hc with
  | c6 l hl => exact run_ys rfl rfl (fun _ z => nomatch z) (run_retCall (i := 0) rfl rfl (ea_cons (ev_var rfl) ea_nil) ⟨s, l, rfl, rfl, rfl, rfl, hp, by omega⟩)
  | c7 a l hl =>
    walk_at "no"
    exact run_ys rfl rfl (fun _ z => nomatch z) (run_retCall (i := 0) rfl rfl (ea_cons (ev_var rfl) ea_nil) ⟨s, a, l, rfl, rfl, rfl, rfl, hp, by omega⟩)
  | c8 a l hl =>
    iterate 2 walk_at "no"
    exact run_ys rfl rfl (fun _ z => nomatch z) (run_retCall (i := 0) rfl rfl (ea_cons (ev_var rfl) ea_nil) ⟨s, a, l, rfl, rfl, rfl, rfl, hp, by omega⟩)
  | c9 a =>
    iterate 3 walk_at "no"
    exact run_ys rfl rfl (fun _ z => nomatch z) (run_retCall (i := 0) rfl rfl (ea_cons (ev_var rfl) ea_nil) ⟨s, a, rfl, rfl, rfl, rfl, hp⟩)
  | c10 a =>
    iterate 4 walk_at "no"
    exact run_ys rfl rfl (fun _ z => nomatch z) (run_retCall (i := 0) rfl rfl (ea_cons (ev_var rfl) ea_nil) ⟨s, a, rfl, rfl, rfl, rfl, hp⟩)
  | c11 a =>
    iterate 5 walk_at "no"
    exact run_ys rfl rfl (fun _ z => nomatch z) (run_retCall (i := 0) rfl rfl (ea_cons (ev_var rfl) ea_nil) ⟨s, a, rfl, rfl, rfl, rfl, hp⟩)
  | c12 a =>
    iterate 6 walk_at "no"
    exact run_retCall (i := 0) rfl rfl (ea_cons (ev_var rfl) ea_nil) ⟨s, a, rfl, rfl, rfl, rfl, hp⟩
def R_asked_further : Bs → List D → Bs → D → Prop := fun w ds w' d => ∃ s n l o, w = eB s ∧ ds = [.int n, eL l] ∧ w' = eB s ∧ d = eL o ∧ FR s n l o ∧ s.ps.length ≤ 6 ∧ 0 ≤ s.m.2
theorem len_asked_further {w : Bs} {ds : List D} {w' : Bs} {d : D} (h : R_asked_further w ds w' d) : ds.length + 1 = 3 := by obtain ⟨_, _, _, _, _, rfl, _⟩ := h; rfl
abbrev s_asked_further : Stmt := topS 74
theorem sc_asked_further : FnScope ["bench", "number", "numbers"] ["bench", "number", "numbers"] (defScope s_asked_further) := ⟨rfl, rfl, rfl, by decide +kernel, rfl, by decide +kernel, by decide +kernel⟩
theorem cal_asked_further (F : Df K mg "asked_further" s_asked_further) (T : Tx K mg C) (c_value_of_two : Cal P w K mg base 6 "value_of_two" (SpB C R_value_of_two)) (c_best_plan_count : Cal P w K mg base 6 "best_plan_count" (SpB C R_best_plan_count)) (c_value_table : Cal P w K mg base 6 "value_table" (SpB C R_value_table)) (c_least_thickness : Cal P w K mg base 6 "least_thickness" (SpB C R_least_thickness)) (c_value_with_machine : Cal P w K mg base 6 "value_with_machine" (SpB C R_value_with_machine)) (c_value_with_product : Cal P w K mg base 6 "value_with_product" (SpB C R_value_with_product)) (c_layers_of_product : Cal P w K mg base 6 "layers_of_product" (SpB C R_layers_of_product)) : Cal P w K mg base 7 "asked_further" (SpB C R_asked_further) := by
  refine cal_ben (k := 6) (N := ["bench", "number", "numbers"]) (ps := ["bench", "number", "numbers"]) (n := 0) F (fun _ _ _ _ _ _ us hl => match us, hl with | [_, _, _], _ => rfl) sc_asked_further rfl (fun w ds w' d h => len_asked_further h) (fun f cdv A outer s H E hr => ⟨_, (pss_cons (ps_if (pt_cmpR op_eq (pv 1) pe_int (nomark _)) (pss_one (ps_ret (pe_c c_best_plan_count hr (by decide) rfl (pa_cons (pv 0) (pa_cons (pv 2) pa_nil))))) pss_nil)
    (pss_cons (ps_if (pt_cmpR op_eq (pv 1) pe_int (nomark _)) (pss_one (ps_ret (pe_c c_value_table hr (by decide) rfl (pa_cons (pv 0) (pa_cons (pv 2) pa_nil))))) pss_nil)
    (pss_cons (ps_if (pt_cmpR op_eq (pv 1) pe_int (nomark _)) (pss_one (ps_ret (pe_c c_least_thickness hr (by decide) rfl (pa_cons (pv 0) (pa_cons (pv 2) pa_nil))))) pss_nil)
    (pss_cons (ps_if (pt_cmpR op_eq (pv 1) pe_int (nomark _)) (pss_one (ps_ret (pe_c c_value_with_machine hr (by decide) rfl (pa_cons (pv 0) (pa_cons (pv 2) pa_nil))))) pss_nil)
    (pss_cons (ps_if (pt_cmpR op_eq (pv 1) pe_int (nomark _)) (pss_one (ps_ret (pe_c c_value_with_product hr (by decide) rfl (pa_cons (pv 0) (pa_cons (pv 2) pa_nil))))) pss_nil)
    (pss_cons (ps_if (pt_cmpR op_eq (pv 1) pe_int (nomark _)) (pss_one (ps_ret (pe_c c_layers_of_product hr (by decide) rfl (pa_cons (pv 0) (pa_cons (pv 2) pa_nil))))) pss_nil)
    (pss_one (ps_ret (pe_c c_value_of_two hr (by decide) rfl (pa_cons (pv 0) (pa_cons (pv 2) pa_nil))))))))))), fun w0 ds w1 d h => ?_⟩)
  obtain ⟨s, n, l, o, rfl, rfl, rfl, rfl, hc, hp, hm⟩ := h
  show Run C true _ [.ben s.there (ePs s.ps) (eP s.m), .val (.int n), .val (eL l)] _
  cases hc with
  | c13 a => exact run_ys rfl rfl (fun _ z => nomatch z) (run_retCall (i := 0) rfl rfl (ea_cons (ev_var rfl) ea_nil) ⟨s, a, rfl, rfl, rfl, rfl, hp, hm⟩)
  | c14 =>
    walk_at "no"
    exact run_ys rfl rfl (fun _ z => nomatch z) (run_retCall (i := 0) rfl rfl (ea_cons (ev_var rfl) ea_nil) ⟨s, rfl, rfl, rfl, rfl, hp⟩)
  | c15 a =>
    iterate 2 walk_at "no"
    exact run_ys rfl rfl (fun _ z => nomatch z) (run_retCall (i := 0) rfl rfl (ea_cons (ev_var rfl) ea_nil) ⟨s, a, rfl, rfl, rfl, rfl, hp⟩)
  | c16 a b c =>
    iterate 3 walk_at "no"
    exact run_ys rfl rfl (fun _ z => nomatch z) (run_retCall (i := 0) rfl rfl (ea_cons (ev_var rfl) ea_nil) ⟨s, a, b, c, rfl, rfl, rfl, rfl, hp⟩)
  | c17 a b c =>
    iterate 4 walk_at "no"
    exact run_ys rfl rfl (fun _ z => nomatch z) (run_retCall (i := 0) rfl rfl (ea_cons (ev_var rfl) ea_nil) ⟨s, a, b, c, rfl, rfl, rfl, rfl, hp⟩)
  | c18 a b =>
    iterate 5 walk_at "no"
    exact run_ys rfl rfl (fun _ z => nomatch z) (run_retCall (i := 0) rfl rfl (ea_cons (ev_var rfl) ea_nil) ⟨s, a, b, rfl, rfl, rfl, rfl, hp⟩)
  | c19 a b =>
    iterate 6 walk_at "no"
    exact run_retCall (i := 0) rfl rfl (ea_cons (ev_var rfl) ea_nil) ⟨s, a, b, rfl, rfl, rfl, rfl, hp⟩
def R_answered : Bs → List D → Bs → D → Prop := fun w ds w' d => ∃ s n l s' o, w = eB s ∧ ds = [.int n, eL l] ∧ w' = eB s' ∧ d = eL o ∧ AnR s n l s' o ∧ s.ps.length ≤ 6 ∧ 0 ≤ s.m.2
theorem len_answered {w : Bs} {ds : List D} {w' : Bs} {d : D} (h : R_answered w ds w' d) : ds.length + 1 = 3 := by obtain ⟨_, _, _, _, _, _, rfl, _⟩ := h; rfl
abbrev s_answered : Stmt := topS 75
theorem sc_answered : FnScope ["bench", "number", "numbers"] ["bench", "number", "numbers"] (defScope s_answered) := ⟨rfl, rfl, rfl, by decide +kernel, rfl, by decide +kernel, by decide +kernel⟩
theorem cal_answered (F : Df K mg "answered" s_answered) (T : Tx K mg C) (c_asked_further : Cal P w K mg base 7 "asked_further" (SpB C R_asked_further)) (c_changed : Cal P w K mg base 4 "changed" (SpB C R_changed)) (c_asked : Cal P w K mg base 7 "asked" (SpB C R_asked)) : Cal P w K mg base 8 "answered" (SpB C R_answered) := by
  refine cal_ben (k := 7) (N := ["bench", "number", "numbers"]) (ps := ["bench", "number", "numbers"]) (n := 0) F (fun _ _ _ _ _ _ us hl => match us, hl with | [_, _, _], _ => rfl) sc_answered rfl (fun w ds w' d h => len_answered h) (fun f cdv A outer s H E hr => ⟨_, (pss_cons (ps_if (PW.pt (pw_and (pt_cmpR op_ne (pv 1) pe_int (nomark _)) (pw_and1 (pt_not (pt_val (pe_fld (pv 0) rfl)))))) (pss_one (ps_ret (pe_lst (pa_cons (pe_gi T.c_NO_SPLITTER rfl) pa_nil)))) pss_nil)
    (pss_cons (ps_if (pt_cmpR op_lt (pv 1) pe_int (nomark _)) (pss_one (ps_ret (pe_c c_changed hr (by decide) rfl (pa_cons (pv 0) (pa_cons (pv 1) (pa_cons (pv 2) pa_nil)))))) pss_nil)
    (pss_cons (ps_if (pt_cmpR op_lt (pv 1) pe_int (nomark _)) (pss_one (ps_ret (pe_c c_asked hr (by decide) rfl (pa_cons (pv 0) (pa_cons (pv 1) (pa_cons (pv 2) pa_nil)))))) pss_nil)
    (pss_one (ps_ret (pe_c c_asked_further hr (by decide) rfl (pa_cons (pv 0) (pa_cons (pv 1) (pa_cons (pv 2) pa_nil))))))))), fun w0 ds w1 d h => ?_⟩)
  obtain ⟨s, n, l, s', o, rfl, rfl, rfl, rfl, ha, hp, hm⟩ := h
  show Run C true _ [.ben s.there (ePs s.ps) (eP s.m), .val (.int n), .val (eL l)] _
  refine run_ifR (c := !decide (n = 0) && !s.there) (et_and (et_test (ev_op (ev_var rfl) ev_int rd_ne)) fun _ => et_not (et_B (ev_there T.cl T.nT rfl))) (fun h => ?_) (fun _ z => nomatch z) (fun h => ?_)
  · rw [Bool.and_eq_true, Bool.not_eq_true', Bool.not_eq_true'] at h
    have h0 := of_decide_eq_false h.1
    cases ha with
    | no => exact run_bad rfl
    | ch h1 _ _ =>
      rcases h1 with z | z
      · exact absurd z h0
      · rw [h.2] at z
        cases z
    | q z _ _ _ =>
      rw [h.2] at z
      cases z
    | f z _ _ =>
      rw [h.2] at z
      cases z
  cases ha with
  | no h0 t =>
    rw [t, decide_eq_false h0] at h
    cases h
  | ch _ h6 hc =>
    exact run_ifR (c := true) (evt_is (et_test (ev_op (ev_var rfl) ev_int rd_B0)) (decide_eq_true h6)) (fun _ => run_retCall (i := 0) rfl rfl (ea_cons (ev_var rfl) (ea_cons (ev_var rfl) ea_nil)) ⟨s, n, l, s', o, rfl, rfl, rfl, rfl, hc, hp⟩) (fun _ z => nomatch z) fun z => nomatch z
  | q _ h6 h13 hc =>
    exact run_ifR (c := false) (evt_is (et_test (ev_op (ev_var rfl) ev_int rd_B0)) (decide_eq_false (by omega))) (fun z => nomatch z) (fun _ z => nomatch z) fun _ =>
      run_ifR (c := true) (evt_is (et_test (ev_op (ev_var rfl) ev_int rd_B0)) (decide_eq_true h13)) (fun _ => run_retCall (i := 0) rfl rfl (ea_cons (ev_var rfl) (ea_cons (ev_var rfl) ea_nil)) ⟨s, n, l, o, rfl, rfl, rfl, rfl, hc, hp⟩) (fun _ z => nomatch z) fun z => nomatch z
  | f _ h13 hc =>
    exact run_ifR (c := false) (evt_is (et_test (ev_op (ev_var rfl) ev_int rd_B0)) (decide_eq_false (by omega))) (fun z => nomatch z) (fun _ z => nomatch z) fun _ =>
      run_ifR (c := false) (evt_is (et_test (ev_op (ev_var rfl) ev_int rd_B0)) (decide_eq_false (by omega))) (fun z => nomatch z) (fun _ z => nomatch z) fun _ => run_retCall (i := 0) rfl rfl (ea_cons (ev_var rfl) (ea_cons (ev_var rfl) ea_nil)) ⟨s, n, l, o, rfl, rfl, rfl, rfl, hc, hp, hm⟩
/-! ### the calls split -/
def SpS (K : PySem.W.Frag) : Sp := fun vs H Q _ => ∃ (G : Hp) (v : V) (cs : List Call), vs = [v] ∧ Same G H ∧ (∀ G', Same G G' → ArgL K (flat cs) v G') ∧ (flat cs).length ≤ 100000 ∧ ∀ v' G' H', Stp none G H G' H' → Rep G' v' (eCs cs) → Q v' H'
theorem ev_callS {ρ : List S} {i : Nat} {cs : List Call} {E : XK} (h : ρ[i]? = some (.rd (ArgL K (flat cs)))) (hl : (flat cs).length ≤ 100000) : Ev C (tCall (SpS K) [] E (tCons (tVar i) tNil)) ρ (eCs cs) := fun b H0 G H σ Q s e q => by
  obtain ⟨o, h1, v, rfl, h2⟩ := e.get h
  exact ⟨v, h1, G, v, cs, rfl, s, h2, hl, q⟩
theorem at_flat {pre : List Call} {x : Call} {post : List Call} {z : Int} {j : Nat} {k : Int} (e : z = ((flat pre).length : Int) + j) (h : (x.1 :: (x.2.length : Int) :: (x.2 ++ 0 :: flat post))[j]? = some k) : atI (flat (pre ++ x :: post)) z = some k := by
  rw [flat_app, flat_cons]
  rw [e, show ((flat pre).length : Int) + (j : Int) = (((flat pre).length + j : Nat) : Int) by omega]
  refine atI_nat ?_
  rw [List.getElem?_append_right (Nat.le_add_right _ _), Nat.add_sub_cancel_left]
  exact h
theorem sl_flat {pre : List Call} {x : Call} {post : List Call} {lo hi : Int} {ns : List Int} (en : ns = flat (pre ++ x :: post)) (e1 : lo = ((flat pre).length : Int) + 2) (e2 : hi = ((flat pre).length : Int) + 2 + (x.2.length : Int)) :
    (ns.drop (HT.sIx ns.length 0 (some lo))).take (HT.sIx ns.length ns.length (some hi) - HT.sIx ns.length 0 (some lo)) = x.2 := by
  have el : ns.length = (flat pre).length + (x.2.length + (flat post).length + 3) := by
    rw [en, flat_app, flat_cons]
    simp only [List.length_append, List.length_cons]
    omega
  have q1 : HT.sIx ns.length 0 (some lo) = (flat pre).length + 2 := by
    rw [show lo = (((flat pre).length + 2 : Nat) : Int) by omega, HT.sIx_nat]
    omega
  have q2 : HT.sIx ns.length ns.length (some hi) = (flat pre).length + 2 + x.2.length := by
    rw [show hi = (((flat pre).length + 2 + x.2.length : Nat) : Int) by omega, HT.sIx_nat]
    omega
  rw [q1, q2, en, flat_app, flat_cons, List.drop_append]
  rw [List.drop_of_length_le (by omega), List.nil_append, show (flat pre).length + 2 - (flat pre).length = 2 by omega, show (flat pre).length + 2 + x.2.length - ((flat pre).length + 2) = x.2.length by omega]
  show (x.2 ++ 0 :: flat post).take x.2.length = x.2
  exact List.take_left' rfl
abbrev s_split_calls : Stmt := topS 71
theorem sc_split_calls : FnScope ["calls", "found", "at", "many"] ["calls"] (defScope s_split_calls) := ⟨rfl, rfl, rfl, by decide +kernel, rfl, by decide +kernel, by decide +kernel⟩
theorem cal_split_calls (F : Df K mg "split_calls" s_split_calls) (T : Tx K mg C) : Cal P w K mg base 1 "split_calls" (SpS K) := by
  refine cal_gen (N := ["calls", "found", "at", "many"]) (ps := ["calls"]) (k := 0) F (fun _ _ _ _ _ _ us hl => match us, hl with | [_], _ => rfl) sc_split_calls (fun vs H Q E h => by obtain ⟨_, _, _, rfl, _⟩ := h; rfl) (fun f cdv A outer s H vs Q E hr h => ⟨_, (pss_cons (ps_set (i := 1) sc_split_calls.nd rfl (Or.inl rfl) (pe_lst pa_nil))
    (pss_cons (ps_set (i := 2) sc_split_calls.nd rfl (Or.inl rfl) pe_int)
    (pss_cons (ps_while PassesOwn.never (pt_cmpR op_lt (pv 2) (pe_callB (call_lenK (K := K) rfl) rfl T.len PySem.boot_len (pa_cons (pv 0) pa_nil)) (nomark _)) (pss_cons (ps_set (i := 3) sc_split_calls.nd rfl (Or.inl rfl) (pe_ix (ix_listK (K := K) rfl) (pv 0) (pe_op op_add (pv 2) pe_int) (fun _ _ => rfl)))
    (pss_cons (ps_expr (pe_bm PySem.F.plainAttrs_list PySem.F.slot_list_append PySem.F.type_list_append mt_append (pv 1) (pa_cons (pe_tup (pa_cons (pe_ix (ix_listK (K := K) rfl) (pv 0) (pv 2) (fun _ _ => rfl)) (pa_cons (pe_slice sl_list (pv 0) (po_some (pe_op op_add (pv 2) pe_int)) (po_some (pe_op op_add (pe_op op_add (pv 2) pe_int) (pv 3)))) pa_nil))) pa_nil)))
    (pss_one (ps_set (i := 2) sc_split_calls.nd rfl (Or.inl rfl) (pe_op op_add (pe_op op_add (pv 2) (pv 3)) pe_int))))))
    (pss_one (ps_ret (pv 1)))))), ?_⟩)
  obtain ⟨G, v, cs, rfl, sm, hv, hl, q⟩ := h
  have hc : cs.length ≤ 100000 := by
    have := flat_len cs
    omega
  refine run_seq (C := C) (m := false) (ρ := [.rd (ArgL K (flat cs)), .no, .no, .no]) (out := .rt (eCs cs) none) (run_own ea_nil (szb rfl)) (run_seq (run_asg ev_int) (run_seq (ρ1 := [.rd (ArgL K (flat cs)), .own (cs.map eCall), .no, .no]) (run_while (n := cs.length) (wloop_list cs (fun pre => [.rd (ArgL K (flat cs)), .own (pre.map eCall), .val (.int (flat pre).length), .no]) _ (fun pre x post e => ?_) ?_ (by walk_at "fgt"))) (run_retO rfl))) 0 G H G H _ _ (Stp.refl sm) ?_ ?_
  · have h0 : atI (flat cs) ((flat pre).length : Int) = some x.1 := by
      rw [e]
      exact at_flat (j := 0) (by omega) rfl
    have h1 : atI (flat cs) (((flat pre).length : Int) + 1) = some (x.2.length : Int) := by
      rw [e]
      exact at_flat (j := 1) (by omega) rfl
    have h2 := sl_flat (lo := ((flat pre).length : Int) + 2) (hi := ((flat pre).length : Int) + 2 + (x.2.length : Int)) (congrArg flat e) rfl rfl
    have el : (flat pre).length < (flat cs).length := by
      rw [e, flat_app, flat_cons]
      simp only [List.length_append, List.length_cons]
      omega
    refine ⟨_, evt_is (et_test (ev_op (ev_var rfl) (ev_lenA rfl) rd_B0)) (decide_eq_true (by omega)), run_seq (run_asg (ev_ixA rfl (ev_op (ev_var rfl) ev_int rd_I0) h1)) (run_seq (run_app rfl rfl (ev_tup (ea_cons (ev_ixA rfl (ev_var rfl) h0) (ea_cons (ev_slA rfl (eo_some (ev_op (ev_var rfl) ev_int rd_I0)) (eo_some (ev_op (ev_op (ev_var rfl) ev_int rd_I0) (ev_var rfl) rd_I0))) ea_nil)) (szb rfl)) (szlt ?_)) (run_asg (ev_op (ev_op (ev_var rfl) (ev_var rfl) rd_I0) ev_int rd_I0))), ?_⟩
    · have : cs.length = pre.length + (post.length + 1) := by rw [e, List.length_append, List.length_cons]
      rw [List.length_map]
      omega
    · rw [h2]
      have e3 : ((flat (pre ++ [x])).length : Int) = ((flat pre).length : Int) + (x.2.length : Int) + 3 := by
        rw [flat_app, flat_cons]
        simp only [List.length_append, List.length_cons, show flat ([] : List Call) = [] from rfl, List.length_nil]
        omega
      rw [e3, List.map_append]
      walk_at "fgt"
  · exact evt_is (et_test (ev_op (ev_var rfl) (ev_lenA rfl) rd_B0)) (decide_eq_false (by omega))
  · exact .cons ⟨v, rfl, hv⟩ (.cons True.intro (.cons True.intro (.cons True.intro .nil)))
  · exact fun v' G' H' _ s' _ r' => q v' G' H' s' r'
end
end HL

end
section
set_option maxRecDepth 100000
set_option maxHeartbeats 4000000
namespace HL
open PySem PySem.Spec PyProof.Rows L2 M
local macro_rules | `(tactic| walk_at "fgt") => `(tactic| repeat (first | exact Fgt.nil | apply Fgt.keep | apply Fgt.drop))
section
variable {P : Program} {w : World} {K : PySem.W.Frag} {mg : Str → Option Value} {base : Heap} {C : Addr}
/-! ### the bench is made; answers -/
abbrev s_init : Stmt := inClass (topS 1) 0
theorem sc_init : FnScope ["self"] ["self"] (defScope s_init) := ⟨rfl, rfl, rfl, by decide +kernel, rfl, by decide +kernel, by decide +kernel⟩
def spI (C : Addr) : Sp := fun vs H Q _ => ∃ (p dx : Addr), vs = [.ref p] ∧ H p = some (.ins C dx []) ∧ ∀ (H' : Hp) (pp mm : Addr), (∀ b o, H b = some o → b ≠ p → H' b = some o) → H' p = some (.ins C dx (bF (.bl false) (.ref pp) (.ref mm))) →
  H' pp = some (.lst []) → H' mm = some (.tup [.int 0, .int 0]) → H pp = none → H mm = none → Q .non H'
theorem ok_init {f : Addr} {fd : FuncData} (F : Fun K "__init__" "Bench.__init__" s_init f fd) (T : Tx K mg C) : FnOk P w K mg base CX0 1 f fd ["self"] (spI C) := by
  refine F.ok sc_init (fun vs H Q E h => ?_) (fun cdv A outer s H vs Q E hr h => ⟨_, pss_cons (ps_fld (pv 0) pe_bl rfl) (pss_cons (ps_fld (pv 0) (pe_lst pa_nil) rfl) (pss_one (ps_fld (pv 0) (pe_tup (pa_cons pe_int (pa_cons pe_int pa_nil))) rfl))), ?_⟩)
  · obtain ⟨p, dx, rfl, _⟩ := h
    rfl
  · obtain ⟨p, dx, rfl, hp, q⟩ := h
    refine ⟨_, rfl, p, C, dx, [], rfl, hp, T.cl, T.nT, (by show 0 < 1000; decide), Nat.zero_le _, fun pp np => ?_⟩
    have e1 : p ≠ pp := fun z => by
      rw [← z, upd_same] at np
      cases np
    refine ⟨_, rfl, p, C, dx, _, rfl, (by rw [upd_ne e1]; exact upd_same), T.cl, T.nP, (by show 1 < 1000; decide), (by show 2 ≤ sizeLine; rw [sizeLine_eq]; decide), fun mm nm => ?_⟩
    have e2 : p ≠ mm := fun z => by
      rw [← z, upd_same] at nm
      cases nm
    have np' : H pp = none := by
      rw [upd_ne e1.symm] at np
      exact np
    have e3 : pp ≠ mm := fun z => by
      rw [← z, upd_ne e1.symm, upd_same] at nm
      cases nm
    have nm' : H mm = none := by
      rw [upd_ne e2.symm, upd_ne e3.symm, upd_ne e2.symm] at nm
      exact nm
    refine ⟨_, rfl, p, C, dx, _, rfl, (by rw [upd_ne e2]; exact upd_same), T.cl, T.nM, (by show 2 < 1000; decide), ?_⟩
    refine q _ pp mm (fun b o e hb => ?_) upd_same ?_ ?_ np' nm'
    · rw [upd_ne hb, upd_ne (ne_of_none e nm'), upd_ne hb, upd_ne (ne_of_none e np'), upd_ne hb]
      exact e
    · rw [upd_ne e1.symm, upd_ne e3, upd_ne e1.symm, upd_same]
    · rw [upd_ne e2.symm, upd_same]
/-- one thing of a heap alone -/
def onlyAt (H : Hp) (a : Addr) : Hp := fun b => if b = a then H a else none
theorem onlyAt_same {H : Hp} {a : Addr} : onlyAt H a a = H a := if_pos rfl
theorem onlyAt_ne {H : Hp} {a b : Addr} (h : ¬ b = a) : onlyAt H a b = none := if_neg h
theorem onlyAt_none {H : Hp} {a b : Addr} (h : H b = none) : onlyAt H a b = none := by
  by_cases e : b = a
  · rw [e, onlyAt_same, ← e]
    exact h
  · exact onlyAt_ne e
def spAns (K : PySem.W.Frag) : Sp := fun vs H Q _ => ∃ (a : Addr) (cs : List Call), vs = [.ref a] ∧ SqL K H a ((flat cs).map V.int) ∧ (flat cs).length ≤ 720 ∧ (∀ c ∈ cs, Ask c) ∧
  ∀ (H' : Hp) (p : Addr), H' p = some (.lst ((play M.start cs).map V.int)) → Q (.ref p) H'
abbrev s_answers : Stmt := topS 76
theorem sc_answers : FnScope ["calls", "bench", "found", "number", "numbers", "told"] ["calls"] (defScope s_answers) := ⟨rfl, rfl, rfl, by decide +kernel, rfl, by decide +kernel, by decide +kernel⟩
theorem ok_answers {f fI : Addr} {fd fdI : FuncData} (F : Fun K "answers" "answers" s_answers f fd) (T : Tx K mg C) (Mk0 : Mk K C fI) (FI : Fun K "__init__" "Bench.__init__" s_init fI fdI) (bI : Binds K fdI ["self"] [])
    (c_split_calls : Cal P w K mg base 1 "split_calls" (SpS K)) (c_answered : Cal P w K mg base 8 "answered" (SpB C R_answered)) : FnOk P w K mg base CX0 9 f fd ["calls"] (spAns K) := by
  have GI : FnOk P w K mg base CX0 1 fI fdI ["self"] (spI C) := ok_init FI T
  refine F.ok (N := ["calls", "bench", "found", "number", "numbers", "told"]) (k := 8) sc_answers (fun vs H Q E h => by obtain ⟨_, _, rfl, _⟩ := h; rfl) (fun cdv A outer s H vs Q E hr h => ?_)
  have hr1 : Room 2 (A.deeper (envOfC "answers" (defScope s_answers) s.heap.objs.size f cdv)) := hr.mono (by decide)
  refine ⟨_, (pss_cons (ps_set (i := 1) sc_answers.nd rfl (Or.inl rfl) (pe_make0 Mk0 GI hr1 rfl T.mgC bI .nil pass0))
    (pss_cons (ps_set (i := 2) sc_answers.nd rfl (Or.inl rfl) (pe_lst pa_nil))
    (pss_cons (ps_for PassesOwn.never rfl (pi_list (pe_c c_split_calls hr (by decide) rfl (pa_cons (pv 0) pa_nil))) (pg_tup rfl (pgs_cons (pg_name (i := 3) sc_answers.nd rfl (Or.inl rfl)) (pgs_cons (pg_name (i := 4) sc_answers.nd rfl (Or.inl rfl)) pgs_nil))) (pss_cons (ps_set (i := 5) sc_answers.nd rfl (Or.inl rfl) (pe_c c_answered hr (by decide) rfl (pa_cons (pv 1) (pa_cons (pv 3) (pa_cons (pv 4) pa_nil)))))
    (pss_cons (ps_expr (pe_bm PySem.F.plainAttrs_list PySem.F.slot_list_append PySem.F.type_list_append mt_append (pv 2) (pa_cons (pe_callB (call_lenK (K := K) rfl) rfl T.len PySem.boot_len (pa_cons (pv 5) pa_nil)) pa_nil)))
    (pss_one (ps_expr (pe_bm PySem.F.plainAttrs_list PySem.F.slot_list_extend PySem.F.type_list_extend mt_extend (pv 2) (pa_cons (pv 5) pa_nil)))))))
    (pss_one (ps_ret (pv 2)))))), ?_⟩
  obtain ⟨a, cs, rfl, hS, hl, hA, q⟩ := h
  intro x dx nx nd ne
  refine ⟨x, dx, rfl, upd_same, fun H1 pp mm kp hx hpp hmm npp nmm => ⟨rfl, ?_⟩⟩
  -- what the data are: the argument, the two things of the bench
  have gA : ∀ G' : Hp, Same (onlyAt H a) G' → ArgL K (flat cs) (.ref a) G' := fun G' k => ⟨a, rfl, by
    rcases hS with (z | ⟨o, z⟩) | z
    · exact .inl (.inl (k a _ (by rw [onlyAt_same]; exact z)))
    · exact .inl (.inr ⟨o, k a _ (by rw [onlyAt_same]; exact z)⟩)
    · exact .inr z⟩
  have s0 : Same H H1 := fun b o e => kp b o (by rw [upd_ne (ne_of_none e nx), upd_ne (ne_of_none e nd)]; exact e) (ne_of_none e nx)
  have hf : ∀ b, (upd (upd H dx (.own x)) x (.ins C dx [])) b = none → H b = none := fun b z => by
    by_cases e1 : b = x
    · rw [e1, upd_same] at z
      cases z
    · rw [upd_ne e1] at z
      by_cases e2 : b = dx
      · rw [e2, upd_same] at z
        cases z
      · rw [upd_ne e2] at z
        exact z
  have epm : pp ≠ mm := ne_of hpp hmm fun z => nomatch z
  have exp : x ≠ pp := ne_of hx hpp fun z => nomatch z
  have exm : x ≠ mm := ne_of hx hmm fun z => nomatch z
  have n1 : onlyAt H a pp = none := onlyAt_none (hf pp npp)
  have n2 : onlyAt H a mm = none := onlyAt_none (hf mm nmm)
  have n3 : onlyAt H a x = none := onlyAt_none nx
  have s1 : Same (onlyAt H a) H1 := fun b o e => by
    by_cases z : b = a
    · rw [z, onlyAt_same] at e
      rw [z]
      exact s0 a o e
    · rw [onlyAt_ne z] at e
      cases e
  generalize onlyAt H a = G0 at gA n1 n2 n3 s1
  have k1 : Same G0 (upd G0 pp (.lst [])) := same_new n1
  have k2 : Same (upd G0 pp (.lst [])) (upd (upd G0 pp (.lst [])) mm (.tup [.int 0, .int 0])) := same_new (by rw [upd_ne epm.symm]; exact n2)
  have gp : (upd (upd G0 pp (.lst [])) mm (.tup [.int 0, .int 0])) pp = some (.lst []) := by rw [upd_ne epm, upd_same]
  have gm : (upd (upd G0 pp (.lst [])) mm (.tup [.int 0, .int 0])) mm = some (.tup [.int 0, .int 0]) := upd_same
  have gx : (upd (upd G0 pp (.lst [])) mm (.tup [.int 0, .int 0])) x = none := by rw [upd_ne exm, upd_ne exp]; exact n3
  have s2 : Same (upd (upd G0 pp (.lst [])) mm (.tup [.int 0, .int 0])) H1 := fun b o e => by
    by_cases z : b = mm
    · rw [z, upd_same] at e
      rw [z, ← e]
      exact hmm
    · rw [upd_ne z] at e
      by_cases z2 : b = pp
      · rw [z2, upd_same] at e
        rw [z2, ← e]
        exact hpp
      · rw [upd_ne z2] at e
        exact s1 b o e
  have gA2 : ∀ G' : Hp, Same (upd (upd G0 pp (.lst [])) mm (.tup [.int 0, .int 0])) G' → ArgL K (flat cs) (.ref a) G' := fun G' k => gA G' ((k1.trans k2).trans k)
  generalize (upd (upd G0 pp (.lst [])) mm (.tup [.int 0, .int 0])) = G at gp gm gx s2 gA2
  have hc : cs.length ≤ 240 := by
    have := flat_len cs
    omega
  have v0 : Valid M.start := ⟨Nat.zero_le _, Int.le_refl _⟩
  have fin : (cs.foldl toldStep (M.start, [])).2 = play M.start cs := told_fold cs M.start []
  refine run_seq (C := C) (m := true) (ρ := [.rd (ArgL K (flat cs)), .ben false (ePs []) (eP (0, 0)), .no, .no, .no, .no]) (out := .rt (eL (play M.start cs)) (some (eB (cs.foldl toldStep (M.start, [])).1))) (run_own ea_nil (szb rfl))
    (run_seq (run_for (ev_callS rfl (by omega)) (loop_fold toldStep eCall (fun x => [.rd (ArgL K (flat cs)), .ben x.1.there (ePs x.1.ps) (eP x.1.m), .own (x.2.map D.int), .no, .no, .no]) cs (M.start, []) fun pre c post e => ?_)) (by rw [← fin]; exact run_retOB (i := 2) (j := 1) rfl rfl)) x G H1 G H1 _ _ (Stp.refl s2) ?_ ?_
  · obtain ⟨v, hlen⟩ := told_ok pre M.start [] v0 fun d hd => hA d (by rw [e]; exact List.mem_append_left _ hd)
    have hpre : pre.length ≤ 240 := by
      have : cs.length = pre.length + (post.length + 1) := by rw [e, List.length_append, List.length_cons]
      omega
    have hask : Ask c := hA c (by rw [e]; exact List.mem_append_right _ (List.mem_cons_self ..))
    rw [List.length_nil] at hlen
    generalize pre.foldl toldStep (M.start, []) = st at v hlen ⊢
    obtain ⟨sb, o⟩ := st
    have an := step_an (s := sb) hask
    have sh := an.short v
    refine ⟨_, _, _, gok_tup rfl (gsok_cons gok_name (gsok_cons gok_name gsok_nil)), run_seq (run_asgCall (i := 1) (j := 5) rfl rfl (ea_cons (ev_var rfl) (ea_cons (ev_var rfl) ea_nil)) ⟨sb, c.1, c.2, _, _, rfl, rfl, rfl, rfl, an, v.few, v.cuts⟩)
      (run_seq (run_app (i := 2) rfl rfl (ev_cb (ea_cons (ev_var rfl) ea_nil) rc_lenL) (szlt ?_)) (run_ext (i := 2) rfl rfl (ev_var rfl) (sz ?_))), ?_⟩
    · rw [List.length_map]
      show o.length ≤ 1000000
      have : o.length ≤ 0 + 14 * pre.length := hlen
      omega
    · rw [List.length_append, List.length_map, List.length_map, List.length_singleton]
      have : o.length ≤ 0 + 14 * pre.length := hlen
      omega
    · have z : (toldStep (sb, o) c).2.map D.int = o.map D.int ++ [D.int ((step sb c).2.length : Int)] ++ (step sb c).2.map D.int := by
        show (o ++ (((step sb c).2.length : Int) :: (step sb c).2)).map D.int = _
        rw [List.map_append, List.append_assoc]
        rfl
      rw [z]
      exact .keep (.keep (.keep (.drop (.drop (.drop .nil)))))
  · exact .cons ⟨_, rfl, gA2⟩ (.cons ⟨rfl, gx, dx, _, _, hx, .lst gp .nil, .tup gm (.cons (.int 0) (.cons (.int 0) .nil))⟩ (.cons True.intro (.cons True.intro (.cons True.intro (.cons True.intro .nil)))))
  · intro v G' H' _ s' _ r'
    obtain ⟨p, vs, rfl, hG, rl⟩ := r'.lst_inv
    have z := rl.ints
    subst z
    exact q H' p (s'.s _ _ hG)
end
end HL

end
section
set_option maxRecDepth 100000
set_option maxHeartbeats 4000000
namespace HL
open PySem PySem.Spec PyProof.Rows L2 M
section
variable {P : Program} {w : World} {K : PySem.W.Frag} {mg : Str → Option Value} {base : Heap} {C : Addr}
theorem df_of {x : Str} {st : Stmt} {h : Heap} {f : Addr} {oc : Value} {od an : Option Addr} {osl : Array (Option Value)} {kV doc pm cdv ct : Value} (X : K.In h) (G : h.Ns mainGlobals mg) (a : PySem.W.nsIn K mainGlobals x = some (some (.ref f)))
    (l : K.lookup f = some ⟨oc, od, .func (PySem.W.fnOf x x (defArgs st) (defBody st) (defScope st) .none kV doc pm an cdv ct), osl⟩) (c : PySem.W.codeIn K cdv x = true) (k : PySem.W.keepIn K (.ref f) = true) : Df K mg x st :=
  ⟨f, _, fun_mk l c k, PySem.W.mg_of X G a⟩
theorem con_of {x : Str} {h : Heap} {i : Int} {t : Tok} (X : K.In h) (G : h.Ns mainGlobals mg) (a : PySem.W.nsIn K mainGlobals x = some (some (.int i t))) : ∃ u, mg x = some u ∧ RelV (.int i) u := ⟨_, PySem.W.mg_of X G a, t, rfl⟩
/-- all defs, each by those that it calls -/
theorem all_ok {f fI : Addr} {fd fdI : FuncData} (T : Tx K mg C) (F : Fun K "answers" "answers" s_answers f fd) (Mk0 : Mk K C fI) (FI : Fun K "__init__" "Bench.__init__" s_init fI fdI) (bI : Binds K fdI ["self"] [])
    (D_is_thickness : Df K mg "is_thickness" s_is_thickness) (D_is_price : Df K mg "is_price" s_is_price) (D_is_machine : Df K mg "is_machine" s_is_machine) (D_is_hide : Df K mg "is_hide" s_is_hide) (D_is_value : Df K mg "is_value" s_is_value) (D_thicknesses_of : Df K mg "thicknesses_of" s_thicknesses_of) (D_price_of : Df K mg "price_of" s_price_of) (D_with_product : Df K mg "with_product" s_with_product) (D_without_product : Df K mg "without_product" s_without_product) (D_get_products : Df K mg "get_products" s_get_products) (D_is_falling : Df K mg "is_falling" s_is_falling) (D_used_by : Df K mg "used_by" s_used_by) (D_cuts_for : Df K mg "cuts_for" s_cuts_for) (D_can_follow : Df K mg "can_follow" s_can_follow) (D_is_before : Df K mg "is_before" s_is_before) (D_split_calls : Df K mg "split_calls" s_split_calls) (D_has_product : Df K mg "has_product" s_has_product) (D_with_price : Df K mg "with_price" s_with_price) (D_create : Df K mg "create" s_create) (D_set_machine : Df K mg "set_machine" s_set_machine) (D_value_of : Df K mg "value_of" s_value_of) (D_is_fitting : Df K mg "is_fitting" s_is_fitting) (D_plan_cuts : Df K mg "plan_cuts" s_plan_cuts) (D_longer_by_one : Df K mg "longer_by_one" s_longer_by_one) (D_add_product : Df K mg "add_product" s_add_product) (D_remove_product : Df K mg "remove_product" s_remove_product) (D_set_price : Df K mg "set_price" s_set_price) (D_is_plan : Df K mg "is_plan" s_is_plan) (D_does_fit : Df K mg "does_fit" s_does_fit) (D_all_plans : Df K mg "all_plans" s_all_plans) (D_best_in_rows : Df K mg "best_in_rows" s_best_in_rows) (D_is_better : Df K mg "is_better" s_is_better) (D_fitting_plans : Df K mg "fitting_plans" s_fitting_plans) (D_plan_rows : Df K mg "plan_rows" s_plan_rows) (D_plan_value : Df K mg "plan_value" s_plan_value) (D_fits : Df K mg "fits" s_fits) (D_cut_count : Df K mg "cut_count" s_cut_count) (D_changed : Df K mg "changed" s_changed) (D_best_value_of : Df K mg "best_value_of" s_best_value_of) (D_best_values_of : Df K mg "best_values_of" s_best_values_of) (D_best_plan_of : Df K mg "best_plan_of" s_best_plan_of) (D_best_count_of : Df K mg "best_count_of" s_best_count_of) (D_least_hide : Df K mg "least_hide" s_least_hide) (D_plan_count : Df K mg "plan_count" s_plan_count) (D_best_value : Df K mg "best_value" s_best_value) (D_best_plan : Df K mg "best_plan" s_best_plan) (D_waste : Df K mg "waste" s_waste) (D_best_plan_count : Df K mg "best_plan_count" s_best_plan_count) (D_value_table : Df K mg "value_table" s_value_table) (D_least_thickness : Df K mg "least_thickness" s_least_thickness) (D_value_with_machine : Df K mg "value_with_machine" s_value_with_machine) (D_value_with_product : Df K mg "value_with_product" s_value_with_product) (D_layers_of_product : Df K mg "layers_of_product" s_layers_of_product) (D_value_of_two : Df K mg "value_of_two" s_value_of_two) (D_asked : Df K mg "asked" s_asked) (D_asked_further : Df K mg "asked_further" s_asked_further) (D_answered : Df K mg "answered" s_answered) : FnOk P w K mg base CX0 9 f fd ["calls"] (spAns K) := by
  have c_is_thickness : Cal P w K mg base 1 "is_thickness" (SpP R_is_thickness) := cal_is_thickness D_is_thickness T
  have c_is_price : Cal P w K mg base 1 "is_price" (SpP R_is_price) := cal_is_price D_is_price T
  have c_is_machine : Cal P w K mg base 1 "is_machine" (SpP R_is_machine) := cal_is_machine D_is_machine T
  have c_is_hide : Cal P w K mg base 1 "is_hide" (SpP R_is_hide) := cal_is_hide D_is_hide T
  have c_is_value : Cal P w K mg base 1 "is_value" (SpP R_is_value) := cal_is_value D_is_value T
  have c_thicknesses_of : Cal P w K mg base 1 "thicknesses_of" (SpP R_thicknesses_of) := cal_thicknesses_of D_thicknesses_of T
  have c_price_of : Cal P w K mg base 1 "price_of" (SpP R_price_of) := cal_price_of D_price_of T
  have c_with_product : Cal P w K mg base 1 "with_product" (SpP R_with_product) := cal_with_product D_with_product T
  have c_without_product : Cal P w K mg base 1 "without_product" (SpP R_without_product) := cal_without_product D_without_product T
  have c_get_products : Cal P w K mg base 1 "get_products" (SpB C R_get_products) := cal_get_products D_get_products T
  have c_is_falling : Cal P w K mg base 1 "is_falling" (SpP R_is_falling) := cal_is_falling D_is_falling T
  have c_used_by : Cal P w K mg base 1 "used_by" (SpP R_used_by) := cal_used_by D_used_by T
  have c_cuts_for : Cal P w K mg base 1 "cuts_for" (SpP R_cuts_for) := cal_cuts_for D_cuts_for T
  have c_can_follow : Cal P w K mg base 1 "can_follow" (SpP R_can_follow) := cal_can_follow D_can_follow T
  have c_is_before : Cal P w K mg base 1 "is_before" (SpP R_is_before) := cal_is_before D_is_before T
  have c_split_calls : Cal P w K mg base 1 "split_calls" (SpS K) := cal_split_calls D_split_calls T
  have c_has_product : Cal P w K mg base 2 "has_product" (SpP R_has_product) := cal_has_product D_has_product T c_thicknesses_of
  have c_with_price : Cal P w K mg base 2 "with_price" (SpP R_with_price) := cal_with_price D_with_price T c_with_product c_without_product
  have c_create : Cal P w K mg base 2 "create" (SpB C R_create) := cal_create D_create T c_is_machine
  have c_set_machine : Cal P w K mg base 2 "set_machine" (SpB C R_set_machine) := cal_set_machine D_set_machine T c_is_machine
  have c_value_of : Cal P w K mg base 2 "value_of" (SpP R_value_of) := cal_value_of D_value_of T c_price_of
  have c_is_fitting : Cal P w K mg base 2 "is_fitting" (SpP R_is_fitting) := cal_is_fitting D_is_fitting T c_cuts_for
  have c_plan_cuts : Cal P w K mg base 2 "plan_cuts" (SpP R_plan_cuts) := cal_plan_cuts D_plan_cuts T c_cuts_for c_used_by
  have c_longer_by_one : Cal P w K mg base 2 "longer_by_one" (SpP R_longer_by_one) := cal_longer_by_one D_longer_by_one T c_can_follow
  have c_add_product : Cal P w K mg base 3 "add_product" (SpB C R_add_product) := cal_add_product D_add_product T c_has_product c_with_product c_is_thickness c_is_price
  have c_remove_product : Cal P w K mg base 3 "remove_product" (SpB C R_remove_product) := cal_remove_product D_remove_product T c_without_product c_has_product
  have c_set_price : Cal P w K mg base 3 "set_price" (SpB C R_set_price) := cal_set_price D_set_price T c_price_of c_with_price c_has_product c_is_price
  have c_is_plan : Cal P w K mg base 3 "is_plan" (SpP R_is_plan) := cal_is_plan D_is_plan T c_is_falling c_has_product
  have c_does_fit : Cal P w K mg base 3 "does_fit" (SpP R_does_fit) := cal_does_fit D_does_fit T c_is_fitting c_used_by
  have c_all_plans : Cal P w K mg base 3 "all_plans" (SpP R_all_plans) := cal_all_plans D_all_plans T c_longer_by_one
  have c_best_in_rows : Cal P w K mg base 3 "best_in_rows" (SpP R_best_in_rows) := cal_best_in_rows D_best_in_rows T c_is_fitting
  have c_is_better : Cal P w K mg base 3 "is_better" (SpP R_is_better) := cal_is_better D_is_better T c_value_of c_plan_cuts c_is_before
  have c_fitting_plans : Cal P w K mg base 4 "fitting_plans" (SpP R_fitting_plans) := cal_fitting_plans D_fitting_plans T c_all_plans c_does_fit c_thicknesses_of
  have c_plan_rows : Cal P w K mg base 4 "plan_rows" (SpP R_plan_rows) := cal_plan_rows D_plan_rows T c_all_plans c_thicknesses_of c_used_by c_value_of
  have c_plan_value : Cal P w K mg base 4 "plan_value" (SpB C R_plan_value) := cal_plan_value D_plan_value T c_is_plan c_value_of
  have c_fits : Cal P w K mg base 4 "fits" (SpB C R_fits) := cal_fits D_fits T c_does_fit c_is_hide c_is_plan
  have c_cut_count : Cal P w K mg base 4 "cut_count" (SpB C R_cut_count) := cal_cut_count D_cut_count T c_used_by c_plan_cuts c_is_hide c_is_plan
  have c_changed : Cal P w K mg base 4 "changed" (SpB C R_changed) := cal_changed D_changed T c_set_machine c_create c_add_product c_remove_product c_set_price c_get_products
  have c_best_value_of : Cal P w K mg base 5 "best_value_of" (SpP R_best_value_of) := cal_best_value_of D_best_value_of T c_best_in_rows c_plan_rows
  have c_best_values_of : Cal P w K mg base 5 "best_values_of" (SpP R_best_values_of) := cal_best_values_of D_best_values_of T c_plan_rows c_best_in_rows
  have c_best_plan_of : Cal P w K mg base 5 "best_plan_of" (SpP R_best_plan_of) := cal_best_plan_of D_best_plan_of T c_fitting_plans c_is_better
  have c_best_count_of : Cal P w K mg base 5 "best_count_of" (SpP R_best_count_of) := cal_best_count_of D_best_count_of T c_value_of c_fitting_plans
  have c_least_hide : Cal P w K mg base 5 "least_hide" (SpP R_least_hide) := cal_least_hide D_least_hide T c_plan_rows c_best_in_rows
  have c_plan_count : Cal P w K mg base 5 "plan_count" (SpB C R_plan_count) := cal_plan_count D_plan_count T c_is_hide c_fitting_plans
  have c_best_value : Cal P w K mg base 6 "best_value" (SpB C R_best_value) := cal_best_value D_best_value T c_is_hide c_best_value_of
  have c_best_plan : Cal P w K mg base 6 "best_plan" (SpB C R_best_plan) := cal_best_plan D_best_plan T c_best_plan_of c_is_hide
  have c_waste : Cal P w K mg base 6 "waste" (SpB C R_waste) := cal_waste D_waste T c_is_hide c_best_plan_of
  have c_best_plan_count : Cal P w K mg base 6 "best_plan_count" (SpB C R_best_plan_count) := cal_best_plan_count D_best_plan_count T c_is_hide c_best_count_of
  have c_value_table : Cal P w K mg base 6 "value_table" (SpB C R_value_table) := cal_value_table D_value_table T c_best_values_of
  have c_least_thickness : Cal P w K mg base 6 "least_thickness" (SpB C R_least_thickness) := cal_least_thickness D_least_thickness T c_least_hide c_is_value
  have c_value_with_machine : Cal P w K mg base 6 "value_with_machine" (SpB C R_value_with_machine) := cal_value_with_machine D_value_with_machine T c_best_value_of c_is_machine c_is_hide
  have c_value_with_product : Cal P w K mg base 6 "value_with_product" (SpB C R_value_with_product) := cal_value_with_product D_value_with_product T c_has_product c_best_value_of c_is_thickness c_is_price c_is_hide c_with_product
  have c_layers_of_product : Cal P w K mg base 6 "layers_of_product" (SpB C R_layers_of_product) := cal_layers_of_product D_layers_of_product T c_has_product c_is_hide c_best_plan_of
  have c_value_of_two : Cal P w K mg base 6 "value_of_two" (SpB C R_value_of_two) := cal_value_of_two D_value_of_two T c_is_hide c_best_values_of
  have c_asked : Cal P w K mg base 7 "asked" (SpB C R_asked) := cal_asked D_asked T c_plan_count c_plan_value c_fits c_cut_count c_best_value c_best_plan c_waste
  have c_asked_further : Cal P w K mg base 7 "asked_further" (SpB C R_asked_further) := cal_asked_further D_asked_further T c_value_of_two c_best_plan_count c_value_table c_least_thickness c_value_with_machine c_value_with_product c_layers_of_product
  have c_answered : Cal P w K mg base 8 "answered" (SpB C R_answered) := cal_answered D_answered T c_asked_further c_changed c_asked
  exact ok_answers F T Mk0 FI bI c_split_calls c_answered
theorem top_ok {h : Heap} {fa fI fA : Addr} {od1 an1 od2 an2 : Option Addr} {sl1 sl2 : Array (Option Value)} {oc1 kV1 dc1 pm1 cd1 ct1 oc2 kV2 dc2 pm2 cd2 ct2 : Value} (X : K.In h) (G : h.Ns mainGlobals mg) (hfa : mg "answers" = some (.ref fa))
    (aC : PySem.W.nsIn K mainGlobals "Bench" = some (some (.ref C))) (mk : PySem.W.makesIn K C = true) (kc : PySem.W.keepIn K (.ref C) = true) (pg : PySem.W.plainGet K C Str.empty = true) (hd : PySem.W.hasDictIn K C = true) (po : PySem.W.plainOver K C = true) (sa : PySem.W.findIn K (.ref C) "__setattr__" = some (some (.builtin "object.__setattr__")))
    (nT : PySem.W.findIn K (.ref C) "is_there" = some none) (nP : PySem.W.findIn K (.ref C) "products" = some none) (nM : PySem.W.findIn K (.ref C) "machine" = some none)
    (aI : PySem.W.findIn K (.ref C) "__init__" = some (some (.ref fI))) (iI : PySem.W.isFn K (.ref fI) = true) (lI : K.lookup fI = some ⟨oc1, od1, .func (PySem.W.fnOf "__init__" "Bench.__init__" (defArgs s_init) (defBody s_init) (defScope s_init) .none kV1 dc1 pm1 an1 cd1 ct1), sl1⟩) (cI : PySem.W.codeIn K cd1 "Bench.__init__" = true) (kI : PySem.W.keepIn K (.ref fI) = true)
    (aA : PySem.W.nsIn K mainGlobals "answers" = some (some (.ref fA))) (lA : K.lookup fA = some ⟨oc2, od2, .func (PySem.W.fnOf "answers" "answers" (defArgs s_answers) (defBody s_answers) (defScope s_answers) .none kV2 dc2 pm2 an2 cd2 ct2), sl2⟩) (cA : PySem.W.codeIn K cd2 "answers" = true) (kA : PySem.W.keepIn K (.ref fA) = true)
    (zlen : PySem.W.nsIn K mainGlobals "len" = some none) (zsum : PySem.W.nsIn K mainGlobals "sum" = some none) (zmax : PySem.W.nsIn K mainGlobals "max" = some none) (zmin : PySem.W.nsIn K mainGlobals "min" = some none) (zall : PySem.W.nsIn K mainGlobals "all" = some none) (zrange : PySem.W.nsIn K mainGlobals "range" = some none)
    {t_NO_SPLITTER : Tok} (gNO_SPLITTER : PySem.W.nsIn K mainGlobals "NO_SPLITTER" = some (some (.int (-11) t_NO_SPLITTER))) {t_NO_PRODUCT : Tok} (gNO_PRODUCT : PySem.W.nsIn K mainGlobals "NO_PRODUCT" = some (some (.int (-2) t_NO_PRODUCT))) {t_OUTSIDE : Tok} (gOUTSIDE : PySem.W.nsIn K mainGlobals "OUTSIDE" = some (some (.int (-22) t_OUTSIDE))) {t_THERE_ALREADY : Tok} (gTHERE_ALREADY : PySem.W.nsIn K mainGlobals "THERE_ALREADY" = some (some (.int (-17) t_THERE_ALREADY))) {t_TOO_MANY : Tok} (gTOO_MANY : PySem.W.nsIn K mainGlobals "TOO_MANY" = some (some (.int (-28) t_TOO_MANY))) {t_NOT_ENOUGH : Tok} (gNOT_ENOUGH : PySem.W.nsIn K mainGlobals "NOT_ENOUGH" = some (some (.int (-33) t_NOT_ENOUGH))) {t_MOST_PRODUCTS : Tok} (gMOST_PRODUCTS : PySem.W.nsIn K mainGlobals "MOST_PRODUCTS" = some (some (.int 6 t_MOST_PRODUCTS))) {t_MOST_LAYERS : Tok} (gMOST_LAYERS : PySem.W.nsIn K mainGlobals "MOST_LAYERS" = some (some (.int 6 t_MOST_LAYERS))) {t_MOST_HIDE : Tok} (gMOST_HIDE : PySem.W.nsIn K mainGlobals "MOST_HIDE" = some (some (.int 60 t_MOST_HIDE))) {t_MOST_VALUE : Tok} (gMOST_VALUE : PySem.W.nsIn K mainGlobals "MOST_VALUE" = some (some (.int 999 t_MOST_VALUE)))
    (D_is_thickness : Df K mg "is_thickness" s_is_thickness)
    (D_is_price : Df K mg "is_price" s_is_price)
    (D_is_machine : Df K mg "is_machine" s_is_machine)
    (D_is_hide : Df K mg "is_hide" s_is_hide)
    (D_is_value : Df K mg "is_value" s_is_value)
    (D_thicknesses_of : Df K mg "thicknesses_of" s_thicknesses_of)
    (D_price_of : Df K mg "price_of" s_price_of)
    (D_with_product : Df K mg "with_product" s_with_product)
    (D_without_product : Df K mg "without_product" s_without_product)
    (D_get_products : Df K mg "get_products" s_get_products)
    (D_is_falling : Df K mg "is_falling" s_is_falling)
    (D_used_by : Df K mg "used_by" s_used_by)
    (D_cuts_for : Df K mg "cuts_for" s_cuts_for)
    (D_can_follow : Df K mg "can_follow" s_can_follow)
    (D_is_before : Df K mg "is_before" s_is_before)
    (D_split_calls : Df K mg "split_calls" s_split_calls)
    (D_has_product : Df K mg "has_product" s_has_product)
    (D_with_price : Df K mg "with_price" s_with_price)
    (D_create : Df K mg "create" s_create)
    (D_set_machine : Df K mg "set_machine" s_set_machine)
    (D_value_of : Df K mg "value_of" s_value_of)
    (D_is_fitting : Df K mg "is_fitting" s_is_fitting)
    (D_plan_cuts : Df K mg "plan_cuts" s_plan_cuts)
    (D_longer_by_one : Df K mg "longer_by_one" s_longer_by_one)
    (D_add_product : Df K mg "add_product" s_add_product)
    (D_remove_product : Df K mg "remove_product" s_remove_product)
    (D_set_price : Df K mg "set_price" s_set_price)
    (D_is_plan : Df K mg "is_plan" s_is_plan)
    (D_does_fit : Df K mg "does_fit" s_does_fit)
    (D_all_plans : Df K mg "all_plans" s_all_plans)
    (D_best_in_rows : Df K mg "best_in_rows" s_best_in_rows)
    (D_is_better : Df K mg "is_better" s_is_better)
    (D_fitting_plans : Df K mg "fitting_plans" s_fitting_plans)
    (D_plan_rows : Df K mg "plan_rows" s_plan_rows)
    (D_plan_value : Df K mg "plan_value" s_plan_value)
    (D_fits : Df K mg "fits" s_fits)
    (D_cut_count : Df K mg "cut_count" s_cut_count)
    (D_changed : Df K mg "changed" s_changed)
    (D_best_value_of : Df K mg "best_value_of" s_best_value_of)
    (D_best_values_of : Df K mg "best_values_of" s_best_values_of)
    (D_best_plan_of : Df K mg "best_plan_of" s_best_plan_of)
    (D_best_count_of : Df K mg "best_count_of" s_best_count_of)
    (D_least_hide : Df K mg "least_hide" s_least_hide)
    (D_plan_count : Df K mg "plan_count" s_plan_count)
    (D_best_value : Df K mg "best_value" s_best_value)
    (D_best_plan : Df K mg "best_plan" s_best_plan)
    (D_waste : Df K mg "waste" s_waste)
    (D_best_plan_count : Df K mg "best_plan_count" s_best_plan_count)
    (D_value_table : Df K mg "value_table" s_value_table)
    (D_least_thickness : Df K mg "least_thickness" s_least_thickness)
    (D_value_with_machine : Df K mg "value_with_machine" s_value_with_machine)
    (D_value_with_product : Df K mg "value_with_product" s_value_with_product)
    (D_layers_of_product : Df K mg "layers_of_product" s_layers_of_product)
    (D_value_of_two : Df K mg "value_of_two" s_value_of_two)
    (D_asked : Df K mg "asked" s_asked)
    (D_asked_further : Df K mg "asked_further" s_asked_further)
    (D_answered : Df K mg "answered" s_answered) :
    ∃ fd : FuncData, (∀ (s : Shared) (us : List Value), us.length = (["calls"] : List Str).length → BindsTo s fd ⟨us, []⟩ ((["calls"] : List Str).zip us)) ∧ ∀ base : Heap, K.In base → base.Ns mainGlobals mg → FnOk P w K mg base CX0 9 fa fd ["calls"] (spAns K) := by
  have e := hfa.symm.trans (PySem.W.mg_of X G aA)
  cases e
  have T : Tx K mg C := ⟨⟨pg, hd, po, sa⟩, nT, nP, nM, PySem.W.mg_of X G aC, PySem.W.mg_none_of X G zlen, PySem.W.mg_none_of X G zsum, PySem.W.mg_none_of X G zmax, PySem.W.mg_none_of X G zmin, PySem.W.mg_none_of X G zall, PySem.W.mg_none_of X G zrange,
    con_of X G gNO_SPLITTER, con_of X G gNO_PRODUCT, con_of X G gOUTSIDE, con_of X G gTHERE_ALREADY, con_of X G gTOO_MANY, con_of X G gNOT_ENOUGH, con_of X G gMOST_PRODUCTS, con_of X G gMOST_LAYERS, con_of X G gMOST_HIDE, con_of X G gMOST_VALUE⟩
  have FI := fun_mk (st := s_init) lI cI kI
  have bI := FI.binds (ps := ["self"]) fun _ _ _ _ _ _ us hl => match us, hl with | [_], _ => rfl
  exact ⟨PySem.W.fnOf "answers" "answers" (defArgs s_answers) (defBody s_answers) (defScope s_answers) .none kV2 dc2 pm2 an2 cd2 ct2, fun s us hu => match us, hu with | [_], _ => .of_eq rfl, fun base _ _ => all_ok T (fun_mk (st := s_answers) lA cA kA) ⟨mk, aI, iI, kc⟩ FI bI D_is_thickness D_is_price D_is_machine D_is_hide D_is_value D_thicknesses_of D_price_of D_with_product D_without_product D_get_products D_is_falling D_used_by D_cuts_for D_can_follow D_is_before D_split_calls D_has_product D_with_price D_create D_set_machine D_value_of D_is_fitting D_plan_cuts D_longer_by_one D_add_product D_remove_product D_set_price D_is_plan D_does_fit D_all_plans D_best_in_rows D_is_better D_fitting_plans D_plan_rows D_plan_value D_fits D_cut_count D_changed D_best_value_of D_best_values_of D_best_plan_of D_best_count_of D_least_hide D_plan_count D_best_value D_best_plan D_waste D_best_plan_count D_value_table D_least_thickness D_value_with_machine D_value_with_product D_layers_of_product D_value_of_two D_asked D_asked_further D_answered⟩
end
end HL

end
section
/-! # The plans of the mirror and of the specification -/
namespace HL.M
/-! ### the order of plans -/
theorem before_irrefl : ∀ l : List Int, before l l = false
  | [] => rfl
  | a :: r => (if_pos rfl).trans (before_irrefl r)
theorem before_eq {a : Int} {r s : List Int} : before (a :: r) (a :: s) = before r s := if_pos rfl
theorem before_ne {a b : Int} {r s : List Int} (h : a ≠ b) : before (a :: r) (b :: s) = decide (b < a) := if_neg h
theorem before_nil {a : Int} {r : List Int} : before [] (a :: r) = true := rfl
theorem before_total : ∀ (a b : List Int), a ≠ b → before a b = true ∨ before b a = true
  | [], [], h => absurd rfl h
  | [], _ :: _, _ => .inl rfl
  | _ :: _, [], _ => .inr rfl
  | x :: r, y :: s, h => by
    by_cases e : x = y
    · subst e
      rw [before_eq, before_eq]
      exact before_total r s fun z => h (by rw [z])
    · rw [before_ne e, before_ne fun z => e z.symm]
      rcases Int.lt_or_gt_of_ne e with z | z
      · exact .inr (decide_eq_true z)
      · exact .inl (decide_eq_true z)
theorem before_trans : ∀ {a b c : List Int}, before a b = true → before b c = true → before a c = true
  | [], [], _, h, _ => nomatch (show false = true from h)
  | [], _ :: _, [], _, h => nomatch (show false = true from h)
  | [], _ :: _, _ :: _, _, _ => rfl
  | _ :: _, [], _, h, _ => nomatch (show false = true from h)
  | _ :: _, _ :: _, [], _, h => nomatch (show false = true from h)
  | x :: r, y :: s, z :: t, h1, h2 => by
    by_cases e1 : x = y
    · subst e1
      rw [before_eq] at h1
      by_cases e2 : x = z
      · subst e2
        rw [before_eq] at h2 ⊢
        exact before_trans h1 h2
      · rw [before_ne e2] at h2 ⊢
        exact h2
    · rw [before_ne e1] at h1
      have g1 := of_decide_eq_true h1
      by_cases e2 : y = z
      · subst e2
        rw [before_ne e1]
        exact h1
      · rw [before_ne e2] at h2
        have g2 := of_decide_eq_true h2
        rw [before_ne (by omega)]
        exact decide_eq_true (by omega)
theorem before_asymm {a b : List Int} (h : before a b = true) : before b a = false := by
  cases c : before b a with
  | false => rfl
  | true =>
    have z := before_trans h c
    rw [before_irrefl] at z
    cases z
/-! ### falling lists -/
theorem falling_cons {x : Int} {r : List Int} : falling (x :: r) = true ↔ falling r = true ∧ ∀ y ∈ r, y ≤ x := by
  induction r generalizing x with
  | nil => simp [falling]
  | cons y r ih =>
    have e : falling (x :: y :: r) = (decide (y ≤ x) && falling (y :: r)) := rfl
    rw [e, Bool.and_eq_true, decide_eq_true_eq]
    constructor
    · rintro ⟨h1, h2⟩
      refine ⟨h2, fun z hz => ?_⟩
      rcases List.mem_cons.mp hz with q | q
      · omega
      · have := (ih.mp h2).2 z q
        omega
    · rintro ⟨h1, h2⟩
      exact ⟨h2 y (List.mem_cons_self ..), h1⟩
theorem canFollow_iff {p : List Int} {t : Int} (hp : falling p = true) : canFollow p t = true ↔ ∀ y ∈ p, t ≤ y := by
  induction p with
  | nil => simp [canFollow]
  | cons x r ih =>
    obtain ⟨h1, h2⟩ := falling_cons.mp hp
    cases r with
    | nil => simp [canFollow]
    | cons y s =>
      have e : canFollow (x :: y :: s) t = canFollow (y :: s) t := by
        unfold canFollow
        rw [List.getLast?_cons_cons]
      rw [e, ih h1]
      constructor
      · intro h z hz
        rcases List.mem_cons.mp hz with q | q
        · have a := h y (List.mem_cons_self ..)
          have b := h2 y (List.mem_cons_self ..)
          omega
        · exact h z q
      · intro h z hz
        exact h z (List.mem_cons_of_mem _ hz)
theorem falling_snoc {p : List Int} {t : Int} : falling (p ++ [t]) = true ↔ falling p = true ∧ ∀ y ∈ p, t ≤ y := by
  induction p with
  | nil => simp [falling]
  | cons x r ih =>
    rw [List.cons_append, falling_cons, ih, falling_cons]
    constructor
    · rintro ⟨⟨h1, h2⟩, h3⟩
      refine ⟨⟨h1, fun y hy => h3 y (List.mem_append_left _ hy)⟩, fun y hy => ?_⟩
      rcases List.mem_cons.mp hy with q | q
      · rw [q]
        exact h3 t (List.mem_append_right _ (List.mem_singleton_self _))
      · exact h2 y q
    · rintro ⟨⟨h1, h2⟩, h3⟩
      refine ⟨⟨h1, fun y hy => h3 y (List.mem_cons_of_mem _ hy)⟩, fun y hy => ?_⟩
      rcases List.mem_append.mp hy with q | q
      · exact h2 y q
      · rw [List.mem_singleton.mp q]
        exact h3 x (List.mem_cons_self ..)
/-! ### the mirror's plans -/
theorem sum_snoc (p : List Int) (t : Int) : (p ++ [t]).sum = p.sum + t := by
  rw [List.sum_append]
  simp
theorem level_mem {ts : List Int} {lim : Int} (h0 : 0 ≤ lim) (hpos : ∀ t ∈ ts, 0 ≤ t) : ∀ (n : Nat) (l : List Int), l ∈ (plansN ts lim n).2 ↔ l.length = n ∧ falling l = true ∧ (∀ x ∈ l, x ∈ ts) ∧ l.sum ≤ lim
  | 0, l => by
    constructor
    · intro h
      rw [List.mem_singleton.mp (show l ∈ [[]] from h)]
      exact ⟨rfl, rfl, fun x hx => (by cases hx), h0⟩
    · rintro ⟨h, _⟩
      rw [List.eq_nil_of_length_eq_zero h]
      exact List.mem_singleton_self _
  | n + 1, l => by
    have ih := level_mem h0 hpos n
    show l ∈ longer (plansN ts lim n).2 ts lim ↔ _
    rw [mem_longer]
    constructor
    · rintro ⟨p, hp, t, ht, hg, rfl⟩
      obtain ⟨h1, h2, h3, h4⟩ := (ih p).mp hp
      unfold grow at hg
      rw [Bool.and_eq_true, decide_eq_true_eq] at hg
      refine ⟨by rw [List.length_append, h1] <;> rfl, falling_snoc.mpr ⟨h2, (canFollow_iff h2).mp hg.1⟩, fun x hx => ?_, by rw [sum_snoc]; exact hg.2⟩
      rcases List.mem_append.mp hx with q | q
      · exact h3 x q
      · rw [List.mem_singleton.mp q]
        exact ht
    · rintro ⟨h1, h2, h3, h4⟩
      have hne : l ≠ [] := fun z => by
        rw [z] at h1
        cases h1
      have e := List.dropLast_concat_getLast hne
      generalize l.dropLast = p at e
      generalize l.getLast hne = t at e
      subst e
      obtain ⟨f1, f2⟩ := falling_snoc.mp h2
      have ht : t ∈ ts := h3 t (List.mem_append_right _ (List.mem_singleton_self _))
      rw [sum_snoc] at h4
      have := hpos t ht
      refine ⟨p, (ih p).mpr ⟨by rw [List.length_append, List.length_singleton] at h1; omega, f1, fun x hx => h3 x (List.mem_append_left _ hx), by omega⟩, t, ht, ?_, rfl⟩
      unfold grow
      rw [Bool.and_eq_true, decide_eq_true_eq]
      exact ⟨(canFollow_iff f1).mpr f2, h4⟩
theorem plansN_mem {ts : List Int} {lim : Int} (h0 : 0 ≤ lim) (hpos : ∀ t ∈ ts, 0 ≤ t) : ∀ (n : Nat) (l : List Int), l ∈ (plansN ts lim n).1 ↔ l.length ≤ n ∧ falling l = true ∧ (∀ x ∈ l, x ∈ ts) ∧ l.sum ≤ lim
  | 0, l => by
    rw [show (plansN ts lim 0).1 = (plansN ts lim 0).2 from rfl, level_mem h0 hpos 0 l]
    constructor
    · rintro ⟨h, r⟩
      exact ⟨by omega, r⟩
    · rintro ⟨h, r⟩
      exact ⟨by omega, r⟩
  | n + 1, l => by
    show l ∈ (plansN ts lim n).1 ++ (plansN ts lim (n + 1)).2 ↔ _
    rw [List.mem_append, plansN_mem h0 hpos n l, level_mem h0 hpos (n + 1) l]
    constructor
    · rintro (⟨h, r⟩ | ⟨h, r⟩)
      · exact ⟨by omega, r⟩
      · exact ⟨by omega, r⟩
    · rintro ⟨h, r⟩
      by_cases e : l.length = n + 1
      · exact .inr ⟨e, r⟩
      · exact .inl ⟨by omega, r⟩
theorem allPlans_mem {ts : List Int} {lim : Int} (h0 : 0 ≤ lim) (hpos : ∀ t ∈ ts, 0 ≤ t) {l : List Int} : l ∈ allPlans ts lim ↔ l.length ≤ 6 ∧ falling l = true ∧ (∀ x ∈ l, x ∈ ts) ∧ l.sum ≤ lim := plansN_mem h0 hpos 6 l
theorem snoc_inj {p q : List Int} {t u : Int} (h : p ++ [t] = q ++ [u]) : p = q ∧ t = u := by
  obtain ⟨a, b⟩ := List.append_inj' h rfl
  exact ⟨a, List.cons.inj b |>.1⟩
theorem longer_nodup {ps : List (List Int)} {ts : List Int} {lim : Int} (hp : ps.Nodup) (ht : ts.Nodup) : (longer ps ts lim).Nodup := by
  unfold longer
  refine List.pairwise_flatMap.mpr ⟨fun p _ => ?_, List.Pairwise.imp ?_ hp⟩
  · refine List.pairwise_map.mpr (List.Pairwise.imp ?_ (List.Pairwise.filter _ ht))
    intro t u h z
    exact h (snoc_inj z).2
  · intro p q h x hx y hy z
    obtain ⟨t, _, rfl⟩ := List.mem_map.mp hx
    obtain ⟨u, _, rfl⟩ := List.mem_map.mp hy
    exact h (snoc_inj z).1
theorem level_nodup {ts : List Int} {lim : Int} (ht : ts.Nodup) : ∀ n : Nat, (plansN ts lim n).2.Nodup
  | 0 => List.pairwise_singleton _ _
  | n + 1 => longer_nodup (level_nodup ht n) ht
theorem plansN_nodup {ts : List Int} {lim : Int} (ht : ts.Nodup) : ∀ n : Nat, (plansN ts lim n).1.Nodup
  | 0 => List.pairwise_singleton _ _
  | n + 1 => by
    refine List.pairwise_append.mpr ⟨plansN_nodup ht n, level_nodup ht (n + 1), fun a ha b hb z => ?_⟩
    have h1 := plansN_short1 ts lim n a ha
    have h2 := plansN_short ts lim (n + 1) b hb
    rw [z] at h1
    omega
theorem allPlans_nodup {ts : List Int} {lim : Int} (ht : ts.Nodup) : (allPlans ts lim).Nodup := plansN_nodup ht 6
/-! ### the specification's plans -/
open Kp397 (Splitter Product plansFrom)
def up (l : List Nat) : List Int := l.map fun n : Nat => (n : Int)
theorem up_nil : up [] = [] := rfl
theorem up_cons (x : Nat) (r : List Nat) : up (x :: r) = (x : Int) :: up r := rfl
theorem up_inj : ∀ {a b : List Nat}, up a = up b → a = b
  | [], [], _ => rfl
  | x :: r, y :: s, h => by
    obtain ⟨h1, h2⟩ := List.cons.inj h
    rw [up_inj h2, Int.ofNat.inj h1]
theorem up_len (l : List Nat) : (up l).length = l.length := List.length_map ..
theorem up_sum : ∀ l : List Nat, (up l).sum = ((l.sum : Nat) : Int)
  | [] => rfl
  | x :: r => by
    rw [up_cons, List.sum_cons, List.sum_cons, up_sum r]
    omega
theorem mem_up {l : List Nat} {z : Int} : z ∈ up l ↔ ∃ n ∈ l, (n : Int) = z := List.mem_map
theorem of_up {l : List Int} (h : ∀ x ∈ l, 0 ≤ x) : up (l.map Int.toNat) = l := by
  unfold up
  rw [List.map_map]
  have e : l.map ((fun n : Nat => (n : Int)) ∘ Int.toNat) = l.map id := List.map_congr_left fun x hx => by
    show ((x.toNat : Nat) : Int) = x
    have := h x hx
    omega
  rw [e, List.map_id]
/-- the thickness behind a plan's layers, u so far -/
def T (s : Splitter) (u : Nat) : List Nat → Nat
  | [] => u
  | x :: r => T s (if u = 0 then x else u + s.cutLoss + x) r
theorem T_ge (s : Splitter) : ∀ (l : List Nat) (u : Nat), u ≤ T s u l
  | [], u => Nat.le_refl _
  | x :: r, u => by
    have h := T_ge s r (if u = 0 then x else u + s.cutLoss + x)
    show u ≤ T s (if u = 0 then x else u + s.cutLoss + x) r
    by_cases c : u = 0
    · omega
    · rw [if_neg c] at h ⊢
      omega
theorem T_pos (s : Splitter) : ∀ (l : List Nat) (u : Nat), 0 < u → T s u l = u + l.sum + s.cutLoss * l.length
  | [], u, _ => by simp [T]
  | x :: r, u, h => by
    show T s (if u = 0 then x else u + s.cutLoss + x) r = _
    rw [if_neg (by omega), T_pos s r _ (by omega), List.sum_cons, List.length_cons, Nat.mul_add, Nat.mul_one]
    omega
theorem T_zero (s : Splitter) (l : List Nat) (h : ∀ x ∈ l, 0 < x) : T s 0 l = Kp397.usedThickness s l := by
  cases l with
  | nil => simp [T, Kp397.usedThickness]
  | cons x r =>
    show T s (if (0 : Nat) = 0 then x else 0 + s.cutLoss + x) r = _
    rw [if_pos rfl, T_pos s r x (h x (List.mem_cons_self ..))]
    unfold Kp397.usedThickness
    rw [List.sum_cons, List.length_cons, Nat.add_sub_cancel]
/-- one more layer of the specification's recursion -/
def pfOne (s : Splitter) (hide n : Nat) (sizes : List Nat) (used x : Nat) : List (List Nat) :=
  if hide < (if used = 0 then x else used + s.cutLoss + x) then [] else (plansFrom s hide n (sizes.filter fun y => decide (y ≤ x)) (if used = 0 then x else used + s.cutLoss + x)).map fun rest => x :: rest
theorem pf_succ (s : Splitter) (hide n : Nat) (sizes : List Nat) (used : Nat) : plansFrom s hide (n + 1) sizes used = [] :: sizes.flatMap (pfOne s hide n sizes used) := rfl
theorem mem_pfOne {s : Splitter} {hide n used x : Nat} {sizes l : List Nat} (h : l ∈ pfOne s hide n sizes used x) : ∃ r, l = x :: r ∧ r ∈ plansFrom s hide n (sizes.filter fun y => decide (y ≤ x)) (if used = 0 then x else used + s.cutLoss + x) := by
  unfold pfOne at h
  by_cases c : hide < (if used = 0 then x else used + s.cutLoss + x)
  · rw [if_pos c] at h
    cases h
  · rw [if_neg c] at h
    obtain ⟨r, hr, rfl⟩ := List.mem_map.mp h
    exact ⟨r, rfl, hr⟩
theorem pf_sound (s : Splitter) (hide : Nat) : ∀ (n : Nat) (sizes : List Nat) (used : Nat) (l : List Nat), l ∈ plansFrom s hide n sizes used → falling (up l) = true ∧ ∀ x ∈ l, x ∈ sizes
  | 0, sizes, used, l, h => by
    rw [List.mem_singleton.mp (show l ∈ [[]] from h)]
    exact ⟨rfl, fun x hx => by cases hx⟩
  | n + 1, sizes, used, l, h => by
    rw [pf_succ] at h
    rcases List.mem_cons.mp h with e | h
    · rw [e]
      exact ⟨rfl, fun x hx => by cases hx⟩
    · obtain ⟨x, hx, h⟩ := List.mem_flatMap.mp h
      obtain ⟨r, rfl, hr⟩ := mem_pfOne h
      obtain ⟨h1, h2⟩ := pf_sound s hide n _ _ r hr
      refine ⟨falling_cons.mpr ⟨h1, fun y hy => ?_⟩, fun y hy => ?_⟩
      · obtain ⟨k, hk, rfl⟩ := mem_up.mp hy
        have := of_decide_eq_true (List.mem_filter.mp (h2 k hk)).2
        show (k : Int) ≤ (x : Int)
        omega
      · rcases List.mem_cons.mp hy with q | q
        · rw [q]
          exact hx
        · exact (List.mem_filter.mp (h2 y q)).1
theorem pf_complete (s : Splitter) (hide : Nat) : ∀ (n : Nat) (sizes : List Nat) (used : Nat) (l : List Nat), l.length ≤ n → falling (up l) = true → (∀ x ∈ l, x ∈ sizes) → T s used l ≤ hide → l ∈ plansFrom s hide n sizes used
  | 0, sizes, used, l, h, _, _, _ => by
    rw [List.eq_nil_of_length_eq_zero (Nat.le_zero.mp h)]
    exact List.mem_singleton_self _
  | n + 1, sizes, used, [], _, _, _, _ => by
    rw [pf_succ]
    exact List.mem_cons_self ..
  | n + 1, sizes, used, x :: r, h, hf, hs, hT => by
    rw [pf_succ]
    refine List.mem_cons_of_mem _ (List.mem_flatMap.mpr ⟨x, hs x (List.mem_cons_self ..), ?_⟩)
    have hT' : T s (if used = 0 then x else used + s.cutLoss + x) r ≤ hide := hT
    have hge := T_ge s r (if used = 0 then x else used + s.cutLoss + x)
    unfold pfOne
    rw [if_neg (by omega)]
    obtain ⟨f1, f2⟩ := falling_cons.mp (show falling ((x : Int) :: up r) = true from hf)
    refine List.mem_map.mpr ⟨r, pf_complete s hide n _ _ r (by rw [List.length_cons] at h; omega) f1 (fun y hy => List.mem_filter.mpr ⟨hs y (List.mem_cons_of_mem _ hy), decide_eq_true ?_⟩) hT', rfl⟩
    have := f2 (y : Int) (mem_up.mpr ⟨y, hy, rfl⟩)
    omega
theorem pf_sorted (s : Splitter) (hide : Nat) : ∀ (n : Nat) (sizes : List Nat) (used : Nat), sizes.Pairwise (fun a b => b < a) → (plansFrom s hide n sizes used).Pairwise fun a b => before (up a) (up b) = true
  | 0, _, _, _ => List.pairwise_singleton _ _
  | n + 1, sizes, used, hs => by
    rw [pf_succ]
    refine List.pairwise_cons.mpr ⟨fun l hl => ?_, List.pairwise_flatMap.mpr ⟨fun x _ => ?_, List.Pairwise.imp ?_ hs⟩⟩
    · obtain ⟨x, _, h⟩ := List.mem_flatMap.mp hl
      obtain ⟨r, rfl, _⟩ := mem_pfOne h
      rfl
    · unfold pfOne
      by_cases c : hide < (if used = 0 then x else used + s.cutLoss + x)
      · rw [if_pos c]
        exact List.Pairwise.nil
      · rw [if_neg c]
        refine List.pairwise_map.mpr (List.Pairwise.imp ?_ (pf_sorted s hide n _ _ (List.Pairwise.filter _ hs)))
        intro a b h
        rw [up_cons, up_cons, before_eq]
        exact h
    · intro x y h a ha b hb
      obtain ⟨r, rfl, _⟩ := mem_pfOne ha
      obtain ⟨t, rfl, _⟩ := mem_pfOne hb
      rw [up_cons, up_cons, before_ne (by omega)]
      exact decide_eq_true (by omega)
end HL.M

end
section
/-! # Products, plans, the best one: mirror and specification -/
namespace HL.M
open Kp397 (Splitter Product)
def eProd (q : Product) : Int × Int := ((q.thickness : Int), (q.price : Int))
structure Rel (sp : Splitter) (ps : Prods) (m : Int × Int) : Prop where
  perm : ps.Perm (sp.products.map eProd)
  srt : ps.Pairwise fun a b => b.1 < a.1
  bnd : ∀ q ∈ sp.products, 3 ≤ q.thickness ∧ q.thickness ≤ 60 ∧ 1 ≤ q.price ∧ q.price ≤ 99
  m1 : m.1 = (sp.cutLoss : Int)
  m2 : m.2 = (sp.maxCuts : Int)
  cuts : sp.maxCuts ≤ 5
/-! ### products -/
theorem mem_thicks {ps : Prods} {t : Int} : t ∈ thicks ps ↔ ∃ p, (t, p) ∈ ps := by
  unfold thicks
  rw [List.mem_map]
  constructor
  · rintro ⟨⟨a, b⟩, h, rfl⟩
    exact ⟨b, h⟩
  · rintro ⟨p, h⟩
    exact ⟨(t, p), h, rfl⟩
theorem price_from {t p : Int} : ∀ (ps : Prods) (a : Int), ps.Pairwise (fun a b => b.1 < a.1) → (t, p) ∈ ps → ps.foldl (fun a q => if q.1 = t then q.2 else a) a = p
  | [], _, _, h => nomatch h
  | q :: r, a, hs, h => by
    obtain ⟨h1, h2⟩ := List.pairwise_cons.mp hs
    rw [List.foldl_cons]
    rcases List.mem_cons.mp h with e | h
    · subst e
      rw [if_pos rfl]
      have none : ∀ (r : Prods) (a : Int), (∀ b ∈ r, b.1 < t) → r.foldl (fun a q => if q.1 = t then q.2 else a) a = a := by
        intro r
        induction r with
        | nil => intro a _; rfl
        | cons b r ih =>
          intro a hb
          have := hb b (List.mem_cons_self ..)
          rw [List.foldl_cons, if_neg (by omega)]
          exact ih a fun c hc => hb c (List.mem_cons_of_mem _ hc)
      exact none r p h1
    · exact price_from r _ h2 h
theorem price_none {t : Int} : ∀ (ps : Prods) (a : Int), t ∉ thicks ps → ps.foldl (fun a q => if q.1 = t then q.2 else a) a = a
  | [], _, _ => rfl
  | q :: r, a, h => by
    rw [List.foldl_cons, if_neg fun e => h (by rw [← e]; exact List.mem_cons_self ..)]
    exact price_none r a fun z => h (List.mem_cons_of_mem _ z)
theorem thicks_nodup {ps : Prods} (h : ps.Pairwise fun a b => b.1 < a.1) : (thicks ps).Nodup :=
  List.pairwise_map.mpr (List.Pairwise.imp (fun {a b} (z : b.1 < a.1) (e : a.1 = b.1) => by omega) h)
section
variable {sp : Splitter} {ps : Prods} {m : Int × Int}
theorem Rel.mem (R : Rel sp ps m) {x : Int × Int} : x ∈ ps ↔ ∃ q ∈ sp.products, eProd q = x := by
  rw [R.perm.mem_iff, List.mem_map]
theorem Rel.len (R : Rel sp ps m) : ps.length = sp.products.length := by rw [R.perm.length_eq, List.length_map]
theorem isProduct_iff {n : Nat} : Kp397.isProduct sp n = true ↔ ∃ q ∈ sp.products, q.thickness = n := by
  unfold Kp397.isProduct
  rw [List.any_eq_true]
  constructor
  · rintro ⟨q, h1, h2⟩
    exact ⟨q, h1, eq_of_beq h2⟩
  · rintro ⟨q, h1, h2⟩
    exact ⟨q, h1, beq_iff_eq.mpr h2⟩
theorem Rel.thick (R : Rel sp ps m) {n : Nat} : (n : Int) ∈ thicks ps ↔ Kp397.isProduct sp n = true := by
  rw [mem_thicks, isProduct_iff]
  constructor
  · rintro ⟨p, h⟩
    obtain ⟨q, hq, e⟩ := R.mem.mp h
    exact ⟨q, hq, Int.ofNat.inj (congrArg Prod.fst e)⟩
  · rintro ⟨q, hq, e⟩
    exact ⟨q.price, R.mem.mpr ⟨q, hq, by rw [← e] <;> rfl⟩⟩
theorem Rel.thick_nat (R : Rel sp ps m) {t : Int} (h : t ∈ thicks ps) : ∃ n : Nat, t = (n : Int) ∧ 3 ≤ n ∧ n ≤ 60 := by
  obtain ⟨p, hp⟩ := mem_thicks.mp h
  obtain ⟨q, hq, e⟩ := R.mem.mp hp
  have := R.bnd q hq
  exact ⟨q.thickness, (congrArg Prod.fst e).symm, this.1, this.2.1⟩
theorem Rel.has (R : Rel sp ps m) (n : Nat) : has ps (n : Int) = Kp397.isProduct sp n := by
  unfold M.has
  cases c : Kp397.isProduct sp n with
  | true => exact decide_eq_true (R.thick.mpr c)
  | false =>
    refine decide_eq_false fun z => ?_
    rw [R.thick.mp z] at c
    cases c
theorem Rel.price (R : Rel sp ps m) (n : Nat) : price ps (n : Int) = (Kp397.priceOf sp n : Int) := by
  unfold M.price Kp397.priceOf
  cases c : sp.products.find? fun p => p.thickness == n with
  | none =>
    show _ = ((0 : Nat) : Int)
    refine price_none ps 0 fun z => ?_
    obtain ⟨q, hq, e⟩ := isProduct_iff.mp (R.thick.mp z)
    have := List.find?_eq_none.mp c q hq
    exact this (beq_iff_eq.mpr e)
  | some q =>
    have hq := List.mem_of_find?_eq_some c
    have e : q.thickness = n := eq_of_beq (List.find?_some (p := fun p : Product => p.thickness == n) c)
    refine price_from ps 0 R.srt (R.mem.mpr ⟨q, hq, ?_⟩)
    rw [← e]
    rfl
theorem Rel.value (R : Rel sp ps m) (l : List Nat) : value ps (up l) = (Kp397.planValue sp l : Int) := by
  unfold M.value Kp397.planValue
  induction l with
  | nil => rfl
  | cons x r ih =>
    rw [up_cons, List.map_cons, List.sum_cons, List.map_cons, List.sum_cons, ih, R.price x]
    omega
theorem Rel.used (R : Rel sp ps m) (l : List Nat) : used (up l) m.1 = (Kp397.usedThickness sp l : Int) := by
  unfold M.used Kp397.usedThickness
  rw [up_len, R.m1, up_sum]
  cases l with
  | nil => simp
  | cons x r =>
    rw [if_neg (by rw [List.length_cons]; omega), List.length_cons, Nat.add_sub_cancel]
    have e : (((r.length + 1 : Nat) : Int) - 1) = (r.length : Int) := by omega
    rw [e]
    simp only [Int.natCast_add, Int.natCast_mul]
theorem Rel.planCuts (R : Rel sp ps m) (l : List Nat) (h : Nat) : planCuts (up l) m (h : Int) = (Kp397.cutCount sp h l : Int) := by
  unfold M.planCuts cutsFor Kp397.cutCount
  rw [R.used l, up_len]
  cases l with
  | nil => rfl
  | cons x r =>
    rw [if_neg (show ¬ (((x :: r).length : Nat) : Int) = 0 by rw [List.length_cons]; omega), if_neg (show ¬ (x :: r).isEmpty = true by simp), List.length_cons, Nat.add_sub_cancel]
    by_cases c : Kp397.usedThickness sp (x :: r) < h
    · rw [if_pos (by omega), if_pos c]
    · rw [if_neg (by omega), if_neg c]
      omega
theorem Rel.doesFit (R : Rel sp ps m) (l : List Nat) (h : Nat) : doesFit (up l) m (h : Int) = Kp397.fits sp h l := by
  have e1 := R.used l
  have e2 := R.planCuts l h
  unfold M.planCuts at e2
  unfold M.doesFit isFit Kp397.fits
  rw [e2, e1, R.m2]
  have d1 : decide ((Kp397.usedThickness sp l : Int) ≤ (h : Int)) = decide (Kp397.usedThickness sp l ≤ h) := decide_eq_decide.mpr (by omega)
  have d2 : decide ((Kp397.cutCount sp h l : Int) ≤ (sp.maxCuts : Int)) = decide (Kp397.cutCount sp h l ≤ sp.maxCuts) := decide_eq_decide.mpr (by omega)
  rw [d1, d2]
theorem fall_range : ∀ l : List Nat, falling (up l) = (List.range (l.length - 1)).all fun i => decide (l.getD (i + 1) 0 ≤ l.getD i 0)
  | [] => rfl
  | [_] => rfl
  | a :: b :: r => by
    have ih := fall_range (b :: r)
    have e : (a :: b :: r).length - 1 = ((b :: r).length - 1) + 1 := by simp
    rw [e, List.range_succ_eq_map, List.all_cons, List.all_map]
    have e1 : falling (up (a :: b :: r)) = (decide ((b : Int) ≤ (a : Int)) && falling (up (b :: r))) := rfl
    rw [e1, ih]
    have e2 : decide ((b : Int) ≤ (a : Int)) = decide (b ≤ a) := decide_eq_decide.mpr (by omega)
    rw [e2]
    rfl
theorem Rel.isPlan (R : Rel sp ps m) (l : List Nat) : isPlan ps (up l) = Kp397.validPlan sp l := by
  unfold M.isPlan Kp397.validPlan
  rw [up_len, ← fall_range]
  have e : ((up l).map (M.has ps)).all id = l.all (Kp397.isProduct sp) := by
    unfold up
    rw [List.map_map, List.all_map]
    congr 1
    funext n
    exact R.has n
  rw [e]
  by_cases c : 6 < l.length
  · rw [if_pos c, decide_eq_false (by omega)]
    rfl
  · rw [if_neg c, decide_eq_true (by omega), Bool.true_and]
    exact Bool.and_comm _ _
/-! ### the plans that fit -/
theorem mem_thicknesses {n : Nat} : n ∈ Kp397.thicknesses sp ↔ n ≤ 60 ∧ Kp397.isProduct sp n = true := by
  unfold Kp397.thicknesses Kp397.maxThickness
  rw [List.mem_filter, List.mem_reverse, List.mem_range]
  constructor
  · rintro ⟨h1, h2⟩
    exact ⟨by omega, h2⟩
  · rintro ⟨h1, h2⟩
    exact ⟨by omega, h2⟩
theorem thicknesses_sorted : (Kp397.thicknesses sp).Pairwise fun a b => b < a := by
  unfold Kp397.thicknesses
  refine List.Pairwise.filter _ ?_
  exact List.pairwise_reverse.mpr List.pairwise_lt_range
theorem fits_iff {h : Nat} {l : List Nat} : Kp397.fits sp h l = true ↔ Kp397.usedThickness sp l ≤ h ∧ Kp397.cutCount sp h l ≤ sp.maxCuts := by
  unfold Kp397.fits
  rw [Bool.and_eq_true, decide_eq_true_eq, decide_eq_true_eq]
theorem fits_len {h : Nat} {l : List Nat} (f : Kp397.fits sp h l = true) : l.length ≤ sp.maxCuts + 1 := by
  have := (fits_iff.mp f).2
  unfold Kp397.cutCount at this
  cases l with
  | nil => exact Nat.zero_le _
  | cons x r =>
    rw [if_neg (show ¬ (x :: r).isEmpty = true by simp), List.length_cons, Nat.add_sub_cancel] at this
    rw [List.length_cons]
    omega
theorem sum_le_used (l : List Nat) : l.sum ≤ Kp397.usedThickness sp l := Nat.le_add_right _ _
theorem Rel.mem_plans (R : Rel sp ps m) {h : Nat} {l : List Nat} : l ∈ Kp397.plans sp h ↔ falling (up l) = true ∧ (∀ x ∈ l, Kp397.isProduct sp x = true) ∧ Kp397.fits sp h l = true := by
  unfold Kp397.plans
  rw [List.mem_filter]
  constructor
  · rintro ⟨h1, h2⟩
    obtain ⟨a, b⟩ := pf_sound sp h _ _ _ _ h1
    exact ⟨a, fun x hx => (mem_thicknesses.mp (b x hx)).2, h2⟩
  · rintro ⟨h1, h2, h3⟩
    have hb : ∀ x ∈ l, 3 ≤ x ∧ x ≤ 60 := fun x hx => by
      obtain ⟨q, hq, e⟩ := isProduct_iff.mp (h2 x hx)
      have := R.bnd q hq
      omega
    refine ⟨pf_complete sp h _ _ _ _ (fits_len h3) h1 (fun x hx => mem_thicknesses.mpr ⟨(hb x hx).2, h2 x hx⟩) ?_, h3⟩
    rw [T_zero sp l fun x hx => by have := hb x hx; omega]
    exact (fits_iff.mp h3).1
theorem plans_sorted (sp : Splitter) (h : Nat) : (Kp397.plans sp h).Pairwise fun a b => before (up a) (up b) = true := by
  unfold Kp397.plans
  exact List.Pairwise.filter _ (pf_sorted sp h _ _ _ thicknesses_sorted)
theorem nil_plan (sp : Splitter) (h : Nat) : ∃ r, Kp397.plans sp h = [] :: r := by
  unfold Kp397.plans
  rw [pf_succ, List.filter_cons, if_pos]
  · exact ⟨_, rfl⟩
  · exact fits_iff.mpr ⟨by simp [Kp397.usedThickness], by simp [Kp397.cutCount]⟩
theorem Rel.pos (R : Rel sp ps m) : ∀ t ∈ thicks ps, 0 ≤ t := fun t ht => by
  obtain ⟨n, rfl, _⟩ := R.thick_nat ht
  omega
/-- a plan of the products as natural numbers -/
theorem Rel.down (R : Rel sp ps m) {l : List Int} (h : ∀ x ∈ l, x ∈ thicks ps) : ∃ k : List Nat, l = up k ∧ ∀ x ∈ k, Kp397.isProduct sp x = true := by
  refine ⟨l.map Int.toNat, (of_up fun x hx => R.pos x (h x hx)).symm, fun x hx => ?_⟩
  obtain ⟨z, hz, rfl⟩ := List.mem_map.mp hx
  have h0 := R.pos z (h z hz)
  refine R.thick.mp ?_
  have e : ((z.toNat : Nat) : Int) = z := by omega
  rw [e]
  exact h z hz
/-- whatever is fitting, whatever the limit of the enumeration -/
theorem Rel.mem_fit (R : Rel sp ps m) {h : Nat} {lim : Int} (hl : (h : Int) ≤ lim) {l : List Int} : (l ∈ allPlans (thicks ps) lim ∧ M.doesFit l m (h : Int) = true) ↔ ∃ k, l = up k ∧ k ∈ Kp397.plans sp h := by
  constructor
  · rintro ⟨h1, h2⟩
    obtain ⟨_, a2, a3, _⟩ := (allPlans_mem (by omega) R.pos).mp h1
    obtain ⟨k, rfl, hk⟩ := R.down a3
    rw [R.doesFit k h] at h2
    exact ⟨k, rfl, R.mem_plans.mpr ⟨a2, hk, h2⟩⟩
  · rintro ⟨k, rfl, hk⟩
    obtain ⟨a1, a2, a3⟩ := R.mem_plans.mp hk
    refine ⟨(allPlans_mem (by omega) R.pos).mpr ⟨?_, a1, fun x hx => ?_, ?_⟩, by rw [R.doesFit k h]; exact a3⟩
    · rw [up_len]
      have := fits_len a3
      have := R.cuts
      omega
    · obtain ⟨n, hn, rfl⟩ := mem_up.mp hx
      exact R.thick.mpr (a2 n hn)
    · rw [up_sum]
      have := sum_le_used (sp := sp) k
      have := (fits_iff.mp a3).1
      omega
theorem Rel.mem_fitting (R : Rel sp ps m) {h : Nat} {l : List Int} : l ∈ fitting ps m (h : Int) ↔ ∃ k, l = up k ∧ k ∈ Kp397.plans sp h := by
  unfold fitting
  rw [List.mem_filter]
  exact R.mem_fit (Int.le_refl _)
theorem Rel.fitting (R : Rel sp ps m) (h : Nat) : ((Kp397.plans sp h).map up).Perm (fitting ps m (h : Int)) := by
  refine (List.perm_ext_iff_of_nodup ?_ ?_).mpr fun l => ?_
  · refine List.pairwise_map.mpr (List.Pairwise.imp ?_ (plans_sorted sp h))
    intro a b z e
    rw [e, before_irrefl] at z
    cases z
  · exact List.Pairwise.filter _ (allPlans_nodup (thicks_nodup R.srt))
  · rw [R.mem_fitting, List.mem_map]
    constructor
    · rintro ⟨k, hk, rfl⟩
      exact ⟨k, rfl, hk⟩
    · rintro ⟨k, rfl, hk⟩
      exact ⟨k, hk, rfl⟩
/-! ### better -/
theorem better_iff {h : Int} {a b : List Int} : better ps m h a b = true ↔ value ps b < value ps a ∨ (value ps a = value ps b ∧ (planCuts a m h < planCuts b m h ∨ (planCuts a m h = planCuts b m h ∧ before a b = true))) := by
  unfold better
  by_cases c1 : value ps a = value ps b
  · rw [if_pos c1]
    by_cases c2 : planCuts a m h = planCuts b m h
    · rw [if_pos c2]
      constructor
      · exact fun z => .inr ⟨c1, .inr ⟨c2, z⟩⟩
      · rintro (z | ⟨_, z | ⟨_, z⟩⟩)
        · omega
        · omega
        · exact z
    · rw [if_neg c2, decide_eq_true_eq]
      constructor
      · exact fun z => .inr ⟨c1, .inl z⟩
      · rintro (z | ⟨_, z | ⟨z, _⟩⟩)
        · omega
        · exact z
        · exact absurd z c2
  · rw [if_neg c1, decide_eq_true_eq]
    constructor
    · exact fun z => .inl z
    · rintro (z | ⟨z, _⟩)
      · exact z
      · exact absurd z c1
theorem better_irrefl {h : Int} {a : List Int} : ¬ better ps m h a a = true := fun z => by
  rcases better_iff.mp z with q | ⟨_, q | ⟨_, q⟩⟩
  · omega
  · omega
  · rw [before_irrefl] at q
    cases q
theorem better_trans {h : Int} {a b c : List Int} (x : better ps m h a b = true) (y : better ps m h b c = true) : better ps m h a c = true := by
  refine better_iff.mpr ?_
  rcases better_iff.mp x with q | ⟨q1, q | ⟨q2, q⟩⟩ <;> rcases better_iff.mp y with r | ⟨r1, r | ⟨r2, r⟩⟩
  · exact .inl (by omega)
  · exact .inl (by omega)
  · exact .inl (by omega)
  · exact .inl (by omega)
  · exact .inr ⟨by omega, .inl (by omega)⟩
  · exact .inr ⟨by omega, .inl (by omega)⟩
  · exact .inl (by omega)
  · exact .inr ⟨by omega, .inl (by omega)⟩
  · exact .inr ⟨by omega, .inr ⟨by omega, before_trans q r⟩⟩
theorem better_total {h : Int} {a b : List Int} (x : a ≠ b) : better ps m h a b = true ∨ better ps m h b a = true := by
  rw [better_iff, better_iff]
  rcases Int.lt_trichotomy (value ps a) (value ps b) with v | v | v
  · exact .inr (.inl v)
  · rcases Int.lt_trichotomy (planCuts a m h) (planCuts b m h) with c | c | c
    · exact .inl (.inr ⟨v, .inl c⟩)
    · rcases before_total a b x with z | z
      · exact .inl (.inr ⟨v, .inr ⟨c, z⟩⟩)
      · exact .inr (.inr ⟨v.symm, .inr ⟨c.symm, z⟩⟩)
    · exact .inr (.inr ⟨v.symm, .inl c⟩)
  · exact .inl (.inl v)
theorem bestM {h : Int} : ∀ (S : List (List Int)) (a : List Int), (S.foldl (fun f p => if better ps m h p f = true then p else f) a = a ∨ S.foldl (fun f p => if better ps m h p f = true then p else f) a ∈ S) ∧
    (∀ p ∈ S, ¬ better ps m h p (S.foldl (fun f p => if better ps m h p f = true then p else f) a) = true) ∧ ¬ better ps m h a (S.foldl (fun f p => if better ps m h p f = true then p else f) a) = true
  | [], a => ⟨.inl rfl, fun p hp => (by cases hp), better_irrefl⟩
  | p :: S, a => by
    rw [List.foldl_cons]
    by_cases c : better ps m h p a = true
    · rw [if_pos c]
      obtain ⟨h1, h2, h3⟩ := bestM S p
      refine ⟨.inr ?_, fun q hq => ?_, fun z => h3 (better_trans c z)⟩
      · rcases h1 with e | e
        · rw [e]
          exact List.mem_cons_self ..
        · exact List.mem_cons_of_mem _ e
      · rcases List.mem_cons.mp hq with e | e
        · rw [e]
          exact h3
        · exact h2 q e
    · rw [if_neg c]
      obtain ⟨h1, h2, h3⟩ := bestM S a
      refine ⟨?_, fun q hq => ?_, h3⟩
      · rcases h1 with e | e
        · exact .inl e
        · exact .inr (List.mem_cons_of_mem _ e)
      · rcases List.mem_cons.mp hq with e | e
        · subst e
          intro z
          generalize hr : S.foldl (fun f p => if better ps m h p f = true then p else f) a = r at h1 h2 h3 z
          by_cases ea : a = r
          · rw [← ea] at z
            exact c z
          · rcases better_total (ps := ps) (m := m) (h := h) ea with y | y
            · exact h3 y
            · exact c (better_trans z y)
        · exact h2 q e
/-- the specification's step -/
def sStep (sp : Splitter) (h : Nat) (best p : List Nat) : List Nat := if Kp397.planValue sp best < Kp397.planValue sp p ∨ (Kp397.planValue sp p = Kp397.planValue sp best ∧ Kp397.cutCount sp h p < Kp397.cutCount sp h best) then p else best
theorem Rel.bestS (R : Rel sp ps m) (h : Nat) : ∀ (S : List (List Nat)) (b : List Nat), S.Pairwise (fun a b => before (up a) (up b) = true) → (∀ p ∈ S, b = p ∨ before (up b) (up p) = true) →
    (S.foldl (sStep sp h) b = b ∨ S.foldl (sStep sp h) b ∈ S) ∧ (∀ p ∈ S, ¬ better ps m (h : Int) (up p) (up (S.foldl (sStep sp h) b)) = true) ∧ ¬ better ps m (h : Int) (up b) (up (S.foldl (sStep sp h) b)) = true
  | [], b, _, _ => ⟨.inl rfl, fun p hp => (by cases hp), better_irrefl⟩
  | p :: S, b, hs, hb => by
    obtain ⟨s1, s2⟩ := List.pairwise_cons.mp hs
    rw [List.foldl_cons]
    have vp := R.value p
    have vb := R.value b
    have cp := R.planCuts p h
    have cb := R.planCuts b h
    by_cases c : Kp397.planValue sp b < Kp397.planValue sp p ∨ (Kp397.planValue sp p = Kp397.planValue sp b ∧ Kp397.cutCount sp h p < Kp397.cutCount sp h b)
    · have e : sStep sp h b p = p := if_pos c
      rw [e]
      obtain ⟨h1, h2, h3⟩ := R.bestS h S p s2 fun q hq => .inr (s1 q hq)
      have g : better ps m (h : Int) (up p) (up b) = true := better_iff.mpr (by
        rcases c with c | ⟨c1, c2⟩
        · exact .inl (by omega)
        · exact .inr ⟨by omega, .inl (by omega)⟩)
      refine ⟨.inr ?_, fun q hq => ?_, fun z => h3 (better_trans g z)⟩
      · rcases h1 with e | e
        · rw [e]
          exact List.mem_cons_self ..
        · exact List.mem_cons_of_mem _ e
      · rcases List.mem_cons.mp hq with e | e
        · rw [e]
          exact h3
        · exact h2 q e
    · have e : sStep sp h b p = b := if_neg c
      rw [e]
      obtain ⟨h1, h2, h3⟩ := R.bestS h S b s2 fun q hq => hb q (List.mem_cons_of_mem _ hq)
      have g : ¬ better ps m (h : Int) (up p) (up b) = true := fun z => by
        rcases better_iff.mp z with q | ⟨q1, q | ⟨q2, q⟩⟩
        · exact c (.inl (by omega))
        · exact c (.inr ⟨by omega, by omega⟩)
        · rcases hb p (List.mem_cons_self ..) with y | y
          · rw [y, before_irrefl] at q
            cases q
          · rw [before_asymm y] at q
            cases q
      refine ⟨?_, fun q hq => ?_, h3⟩
      · rcases h1 with e | e
        · exact .inl e
        · exact .inr (List.mem_cons_of_mem _ e)
      · rcases List.mem_cons.mp hq with e | e
        · subst e
          intro z
          generalize S.foldl (sStep sp h) b = r at h1 h2 h3 z
          by_cases ea : up b = up r
          · rw [← ea] at z
            exact g z
          · rcases better_total (ps := ps) (m := m) (h := (h : Int)) ea with y | y
            · exact h3 y
            · exact g (better_trans z y)
        · exact h2 q e
theorem Rel.bestPlan (R : Rel sp ps m) (h : Nat) : bestPlan ps m (h : Int) = up (Kp397.bestPlan sp h) ∧ Kp397.bestPlan sp h ∈ Kp397.plans sp h ∧ ∀ p ∈ Kp397.plans sp h, Kp397.planValue sp p ≤ Kp397.planValue sp (Kp397.bestPlan sp h) := by
  obtain ⟨r, hr⟩ := nil_plan sp h
  have hn : [] ∈ Kp397.plans sp h := by
    rw [hr]
    exact List.mem_cons_self ..
  have e : Kp397.bestPlan sp h = (Kp397.plans sp h).foldl (sStep sp h) [] := rfl
  obtain ⟨b1, b2, b3⟩ := R.bestS h (Kp397.plans sp h) [] (plans_sorted sp h) fun p hp => by
    cases p with
    | nil => exact .inl rfl
    | cons x s => exact .inr rfl
  rw [← e] at b1 b2 b3
  have hb : Kp397.bestPlan sp h ∈ Kp397.plans sp h := by
    rcases b1 with z | z
    · rw [z]
      exact hn
    · exact z
  obtain ⟨a1, a2, a3⟩ := bestM (ps := ps) (m := m) (h := (h : Int)) (M.fitting ps m (h : Int)) []
  have e2 : M.bestPlan ps m (h : Int) = (M.fitting ps m (h : Int)).foldl (fun f p => if better ps m (h : Int) p f = true then p else f) [] := rfl
  rw [← e2] at a1 a2 a3
  have ha : ∃ k, M.bestPlan ps m (h : Int) = up k ∧ k ∈ Kp397.plans sp h := by
    rcases a1 with z | z
    · exact ⟨[], z, hn⟩
    · exact R.mem_fitting.mp z
  obtain ⟨k, hk, hk2⟩ := ha
  refine ⟨?_, hb, fun p hp => ?_⟩
  · by_cases c : M.bestPlan ps m (h : Int) = up (Kp397.bestPlan sp h)
    · exact c
    · rcases better_total (ps := ps) (m := m) (h := (h : Int)) c with z | z
      · rw [hk] at z
        exact absurd z (b2 k hk2)
      · exact absurd z (a2 _ (R.mem_fitting.mpr ⟨_, rfl, hb⟩))
  · have z := b2 p hp
    have := R.value p
    have := R.value (Kp397.bestPlan sp h)
    by_cases c : Kp397.planValue sp p ≤ Kp397.planValue sp (Kp397.bestPlan sp h)
    · exact c
    · exact absurd (better_iff.mpr (.inl (by omega))) z
/-! ### the best value, by the rows -/
theorem bestIn_ge (mc h : Int) : ∀ (rs : List Row) (a : Int), a ≤ rs.foldl (bestStep mc h) a ∧ ∀ r ∈ rs, isFit r.1 r.2.1 mc h = true → r.2.2 ≤ rs.foldl (bestStep mc h) a
  | [], a => ⟨Int.le_refl _, fun r hr => by cases hr⟩
  | r :: rs, a => by
    rw [List.foldl_cons]
    obtain ⟨h1, h2⟩ := bestIn_ge mc h rs (bestStep mc h a r)
    have g : a ≤ bestStep mc h a r ∧ (isFit r.1 r.2.1 mc h = true → r.2.2 ≤ bestStep mc h a r) := by
      unfold bestStep
      split
      · rename_i c
        rw [Bool.and_eq_true, decide_eq_true_eq] at c
        exact ⟨by omega, fun _ => Int.le_refl _⟩
      · rename_i c
        refine ⟨Int.le_refl _, fun z => ?_⟩
        rw [z, Bool.true_and, decide_eq_true_eq] at c
        omega
    refine ⟨by omega, fun q hq z => ?_⟩
    rcases List.mem_cons.mp hq with e | e
    · subst e
      have := g.2 z
      omega
    · exact h2 q e z
theorem bestIn_is (mc h : Int) : ∀ (rs : List Row) (a : Int), rs.foldl (bestStep mc h) a = a ∨ ∃ r ∈ rs, isFit r.1 r.2.1 mc h = true ∧ rs.foldl (bestStep mc h) a = r.2.2
  | [], a => .inl rfl
  | r :: rs, a => by
    rw [List.foldl_cons]
    rcases bestIn_is mc h rs (bestStep mc h a r) with e | ⟨q, hq, z, e⟩
    · rw [e]
      unfold bestStep
      split
      · rename_i c
        rw [Bool.and_eq_true] at c
        exact .inr ⟨r, List.mem_cons_self .., c.1, rfl⟩
      · exact .inl rfl
    · exact .inr ⟨q, List.mem_cons_of_mem _ hq, z, e⟩
theorem Rel.bestIn (R : Rel sp ps m) {h : Nat} (hh : h ≤ 60) : bestIn (rows ps m.1) m.2 (h : Int) = (Kp397.bestValue sp h : Int) := by
  obtain ⟨_, b2, b3⟩ := R.bestPlan h
  have fit : ∀ l : List Int, isFit (l.length : Int) (M.used l m.1) m.2 (h : Int) = M.doesFit l m (h : Int) := fun l => rfl
  have vb := R.value (Kp397.bestPlan sp h)
  unfold M.bestIn Kp397.bestValue
  obtain ⟨g1, g2⟩ := bestIn_ge m.2 (h : Int) (rows ps m.1) 0
  have lo : (Kp397.planValue sp (Kp397.bestPlan sp h) : Int) ≤ (rows ps m.1).foldl (bestStep m.2 (h : Int)) 0 := by
    obtain ⟨f1, f2⟩ := (R.mem_fit (lim := 60) (by omega)).mpr ⟨_, rfl, b2⟩
    have z := g2 (((up (Kp397.bestPlan sp h)).length : Int), M.used (up (Kp397.bestPlan sp h)) m.1, M.value ps (up (Kp397.bestPlan sp h))) (List.mem_map.mpr ⟨_, f1, rfl⟩) f2
    have z' : M.value ps (up (Kp397.bestPlan sp h)) ≤ (rows ps m.1).foldl (bestStep m.2 (h : Int)) 0 := z
    omega
  rcases bestIn_is m.2 (h : Int) (rows ps m.1) 0 with e | ⟨r, hr, z, e⟩
  · omega
  · obtain ⟨l, hl, rfl⟩ := List.mem_map.mp hr
    obtain ⟨k, rfl, hk⟩ := (R.mem_fit (lim := 60) (by omega)).mp ⟨hl, z⟩
    have e' : (rows ps m.1).foldl (bestStep m.2 (h : Int)) 0 = M.value ps (up k) := e
    have := b3 k hk
    have := R.value k
    omega
theorem Rel.bestValue (R : Rel sp ps m) {h : Nat} (hh : h ≤ 60) : bestValue ps m (h : Int) = (Kp397.bestValue sp h : Int) := R.bestIn hh
theorem Rel.bestCount (R : Rel sp ps m) (h : Nat) : bestCount ps m (h : Int) = ((((Kp397.plans sp h).filter fun l => Kp397.planValue sp l == Kp397.bestValue sp h).length : Nat) : Int) := by
  obtain ⟨b1, b2, b3⟩ := R.bestPlan h
  have P := R.fitting h
  unfold M.bestCount
  have vmem : (Kp397.bestValue sp h : Int) ∈ (M.fitting ps m (h : Int)).map (M.value ps) := List.mem_map.mpr ⟨up (Kp397.bestPlan sp h), R.mem_fitting.mpr ⟨_, rfl, b2⟩, R.value _⟩
  have e : maxL ((M.fitting ps m (h : Int)).map (M.value ps)) = (Kp397.bestValue sp h : Int) := by
    refine Int.le_antisymm ?_ (maxL_ge vmem)
    obtain ⟨l, hl, e⟩ := List.mem_map.mp (maxL_mem fun z => by rw [z] at vmem; cases vmem)
    obtain ⟨k, rfl, hk⟩ := R.mem_fitting.mp hl
    rw [← e, R.value k]
    have := b3 k hk
    unfold Kp397.bestValue
    omega
  rw [e]
  have c1 : ((M.fitting ps m (h : Int)).map (M.value ps)).count (Kp397.bestValue sp h : Int) = (((Kp397.plans sp h).map up).map (M.value ps)).count (Kp397.bestValue sp h : Int) := (List.perm_iff_count.mp (P.map (M.value ps)) _).symm
  rw [c1, List.map_map, ← List.countP_eq_length_filter]
  unfold List.count
  rw [List.countP_map]
  have c2 : List.countP ((fun x => x == (Kp397.bestValue sp h : Int)) ∘ (M.value ps ∘ up)) (Kp397.plans sp h) = List.countP (fun l => Kp397.planValue sp l == Kp397.bestValue sp h) (Kp397.plans sp h) := by
    refine List.countP_congr fun l hl => ?_
    show (M.value ps (up l) == (Kp397.bestValue sp h : Int)) = true ↔ (Kp397.planValue sp l == Kp397.bestValue sp h) = true
    rw [R.value l, beq_iff_eq, beq_iff_eq]
    omega
  rw [c2]
end
end HL.M

end
section
/-! # What changes keep: mirror and specification -/
namespace HL.M
open Kp397 (Splitter Product)
section
variable {sp : Splitter} {ps : Prods} {m : Int × Int}
theorem split_perm {t : Int} : ∀ (ps : Prods), t ∉ thicks ps → (ps.filter (fun q => decide (t < q.1)) ++ ps.filter fun q => decide (q.1 < t)).Perm ps
  | [], _ => List.Perm.refl _
  | q :: r, h => by
    have ih := split_perm r fun z => h (List.mem_cons_of_mem _ z)
    have hq : q.1 ≠ t := fun z => h (by rw [← z]; exact List.mem_cons_self ..)
    rw [List.filter_cons, List.filter_cons]
    by_cases c : t < q.1
    · rw [if_pos (decide_eq_true c), if_neg (by simp; omega), List.cons_append]
      exact List.Perm.cons _ ih
    · rw [if_neg (by simpa using c), if_pos (decide_eq_true (by omega))]
      exact List.perm_middle.trans (List.Perm.cons _ ih)
theorem withP_perm {t p : Int} (h : t ∉ thicks ps) : (withP ps t p).Perm (ps ++ [(t, p)]) := by
  unfold withP
  rw [List.append_assoc]
  have a : (ps.filter (fun q => decide (t < q.1)) ++ ([(t, p)] ++ ps.filter fun q => decide (q.1 < t))).Perm ((t, p) :: (ps.filter (fun q => decide (t < q.1)) ++ ps.filter fun q => decide (q.1 < t))) := List.perm_middle
  have b : (ps ++ [(t, p)]).Perm ((t, p) :: ps) := List.perm_append_singleton _ _
  exact a.trans ((List.Perm.cons _ (split_perm ps h)).trans b.symm)
theorem withP_srt {t p : Int} (h : ps.Pairwise fun a b => b.1 < a.1) : (withP ps t p).Pairwise fun a b => b.1 < a.1 := by
  unfold withP
  refine List.pairwise_append.mpr ⟨List.pairwise_append.mpr ⟨List.Pairwise.filter _ h, List.pairwise_singleton _ _, fun a ha b hb => ?_⟩, List.Pairwise.filter _ h, fun a ha b hb => ?_⟩
  · rw [List.mem_singleton.mp hb]
    exact of_decide_eq_true (List.mem_filter.mp ha).2
  · have hb' := of_decide_eq_true (List.mem_filter.mp hb).2
    rcases List.mem_append.mp ha with q | q
    · have := of_decide_eq_true (List.mem_filter.mp q).2
      omega
    · rw [List.mem_singleton.mp q]
      exact hb'
theorem Rel.withP (R : Rel sp ps m) {x v : Nat} (h : Kp397.isProduct sp x = false) (hx : 3 ≤ x ∧ x ≤ 60) (hv : 1 ≤ v ∧ v ≤ 99) : Rel { sp with products := sp.products ++ [⟨x, v⟩] } (withP ps (x : Int) (v : Int)) m := by
  have hn : (x : Int) ∉ thicks ps := fun z => by
    rw [R.thick.mp z] at h
    cases h
  refine ⟨(withP_perm hn).trans ?_, withP_srt R.srt, fun q hq => ?_, R.m1, R.m2, R.cuts⟩
  · rw [List.map_append]
    exact List.Perm.append_right _ R.perm
  · rcases List.mem_append.mp hq with z | z
    · exact R.bnd q z
    · rw [List.mem_singleton.mp z]
      exact ⟨hx.1, hx.2, hv.1, hv.2⟩
theorem Rel.withoutP (R : Rel sp ps m) (x : Nat) : Rel { sp with products := sp.products.filter fun p => p.thickness != x } (withoutP ps (x : Int)) m := by
  refine ⟨?_, List.Pairwise.filter _ R.srt, fun q hq => R.bnd q (List.mem_filter.mp hq).1, R.m1, R.m2, R.cuts⟩
  have a := R.perm.filter fun q => !decide (q.1 = (x : Int))
  have e : (sp.products.map eProd).filter (fun q => !decide (q.1 = (x : Int))) = (sp.products.filter fun p => p.thickness != x).map eProd := by
    rw [List.filter_map]
    congr 1
    refine List.filter_congr fun q _ => ?_
    show (!decide ((q.thickness : Int) = (x : Int))) = (q.thickness != x)
    by_cases c : q.thickness = x
    · rw [c]
      simp
    · rw [decide_eq_false (by omega)]
      simp [c]
  rw [e] at a
  exact a
theorem Rel.nodup (R : Rel sp ps m) : (sp.products.map (·.thickness)).Nodup := by
  have a := thicks_nodup R.srt
  unfold thicks at a
  have b := R.perm.map (fun p : Int × Int => p.1)
  have c := b.nodup_iff.mp a
  rw [List.map_map] at c
  refine List.pairwise_map.mpr (List.Pairwise.imp ?_ (List.pairwise_map.mp c))
  intro p q h e
  exact h (show ((p.thickness : Nat) : Int) = (q.thickness : Int) by rw [e])
/-- the one with this thickness, apart -/
theorem one_out {x v : Nat} : ∀ (l : List Product), (l.map (·.thickness)).Nodup → (∃ q ∈ l, q.thickness = x) → (l.map fun p => if p.thickness = x then { p with price := v } else p).Perm ((l.filter fun p => p.thickness != x) ++ [⟨x, v⟩])
  | [], _, h => by
    obtain ⟨q, hq, _⟩ := h
    cases hq
  | q :: r, hn, h => by
    obtain ⟨n1, n2⟩ := List.pairwise_cons.mp (show ((q :: r).map (·.thickness)).Pairwise (· ≠ ·) from hn)
    rw [List.map_cons, List.filter_cons]
    by_cases c : q.thickness = x
    · have hr : ∀ p ∈ r, p.thickness ≠ x := fun p hp z => n1 p.thickness (List.mem_map.mpr ⟨p, hp, rfl⟩) (c.trans z.symm)
      have e1 : (r.map fun p => if p.thickness = x then { p with price := v } else p) = r := by
        have : (r.map fun p => if p.thickness = x then { p with price := v } else p) = r.map id := List.map_congr_left fun p hp => if_neg (hr p hp)
        rw [this, List.map_id]
      have e2 : (r.filter fun p => p.thickness != x) = r := List.filter_eq_self.mpr fun p hp => by simp [hr p hp]
      rw [if_pos c, if_neg (by simp [c]), e1, e2]
      have e3 : ({ q with price := v } : Product) = ⟨x, v⟩ := by rw [← c]
      rw [e3]
      exact (List.perm_append_singleton _ _).symm
    · rw [if_neg c, if_pos (by simp [c]), List.cons_append]
      refine List.Perm.cons _ (one_out r n2 ?_)
      obtain ⟨p, hp, e⟩ := h
      rcases List.mem_cons.mp hp with z | z
      · exact absurd (by rw [← z]; exact e) c
      · exact ⟨p, z, e⟩
theorem Rel.less (R : Rel sp ps m) {x : Nat} (h : Kp397.isProduct sp x = true) : (M.withoutP ps (x : Int)).length = sp.products.length - 1 := by
  have a := (one_out (v := 0) sp.products R.nodup (isProduct_iff.mp h)).length_eq
  rw [List.length_map, List.length_append, List.length_singleton] at a
  have b := (R.withoutP x).len
  rw [b]
  show (sp.products.filter fun p => p.thickness != x).length = _
  omega
theorem Rel.withPrice (R : Rel sp ps m) {x v : Nat} (h : Kp397.isProduct sp x = true) (hv : 1 ≤ v ∧ v ≤ 99) : Rel { sp with products := sp.products.map fun p => if p.thickness = x then { p with price := v } else p } (withPrice ps (x : Int) (v : Int)) m := by
  obtain ⟨q, hq, e⟩ := isProduct_iff.mp h
  have hb := R.bnd q hq
  have R1 := R.withoutP x
  have h1 : Kp397.isProduct { sp with products := sp.products.filter fun p => p.thickness != x } x = false := by
    cases c : Kp397.isProduct { sp with products := sp.products.filter fun p => p.thickness != x } x with
    | false => rfl
    | true =>
      obtain ⟨p, hp, z⟩ := isProduct_iff.mp c
      have := (List.mem_filter.mp hp).2
      rw [z] at this
      simp at this
  have R2 := R1.withP (v := v) h1 (by omega) hv
  refine ⟨R2.perm.trans ((one_out sp.products R.nodup ⟨q, hq, e⟩).map eProd).symm, R2.srt, fun p hp => ?_, R.m1, R.m2, R.cuts⟩
  obtain ⟨p0, h0, rfl⟩ := List.mem_map.mp hp
  have b0 := R.bnd p0 h0
  split
  · exact ⟨b0.1, b0.2.1, hv.1, hv.2⟩
  · exact b0
theorem Rel.machine (R : Rel sp ps m) {k n : Nat} (hn : n ≤ 5) : Rel { sp with cutLoss := k, maxCuts := n } ps ((k : Int), (n : Int)) := ⟨R.perm, R.srt, R.bnd, rfl, rfl, hn⟩
/-! ### the products told -/
theorem desc_eq : ∀ {a b : List Int}, a.Pairwise (fun x y => y < x) → b.Pairwise (fun x y => y < x) → (∀ z, z ∈ a ↔ z ∈ b) → a = b
  | [], [], _, _, _ => rfl
  | [], y :: s, _, _, h => nomatch (h y).mpr (List.mem_cons_self ..)
  | x :: r, [], _, _, h => nomatch (h x).mp (List.mem_cons_self ..)
  | x :: r, y :: s, ha, hb, h => by
    obtain ⟨a1, a2⟩ := List.pairwise_cons.mp ha
    obtain ⟨b1, b2⟩ := List.pairwise_cons.mp hb
    have e : x = y := by
      rcases List.mem_cons.mp ((h x).mp (List.mem_cons_self ..)) with q | q
      · exact q
      · rcases List.mem_cons.mp ((h y).mpr (List.mem_cons_self ..)) with r' | r'
        · exact r'.symm
        · have := b1 x q
          have := a1 y r'
          omega
    subst e
    rw [desc_eq a2 b2 fun z => ?_]
    constructor
    · intro hz
      rcases List.mem_cons.mp ((h z).mp (List.mem_cons_of_mem _ hz)) with q | q
      · have := a1 z hz
        omega
      · exact q
    · intro hz
      rcases List.mem_cons.mp ((h z).mpr (List.mem_cons_of_mem _ hz)) with q | q
      · have := b1 z hz
        omega
      · exact q
theorem Rel.thicks (R : Rel sp ps m) : thicks ps = up (Kp397.thicknesses sp) := by
  refine desc_eq (List.pairwise_map.mpr R.srt) ?_ fun z => ?_
  · unfold up
    refine List.pairwise_map.mpr (List.Pairwise.imp ?_ (thicknesses_sorted (sp := sp)))
    intro a b h
    omega
  · rw [mem_up]
    constructor
    · intro h
      obtain ⟨n, rfl, _, hn⟩ := R.thick_nat h
      exact ⟨n, mem_thicknesses.mpr ⟨hn, R.thick.mp h⟩, rfl⟩
    · rintro ⟨n, hn, rfl⟩
      exact R.thick.mpr (mem_thicknesses.mp hn).2
theorem Rel.told (R : Rel sp ps m) : ps.flatMap (fun p => [p.1, p.2]) = up ((Kp397.thicknesses sp).flatMap fun x => [x, Kp397.priceOf sp x]) := by
  have a : ps.flatMap (fun p => [p.1, p.2]) = (M.thicks ps).flatMap fun t => [t, M.price ps t] := by
    unfold M.thicks
    rw [List.flatMap_map]
    have key : ∀ l : Prods, (∀ p ∈ l, p ∈ ps) → l.flatMap (fun p => [p.1, p.2]) = l.flatMap fun p => [p.1, M.price ps p.1] := by
      intro l
      induction l with
      | nil => intro _; rfl
      | cons p l ih =>
        intro h
        rw [List.flatMap_cons, List.flatMap_cons, ih fun q hq => h q (List.mem_cons_of_mem _ hq)]
        have e : M.price ps p.1 = p.2 := price_from ps 0 R.srt (h p (List.mem_cons_self ..))
        rw [e]
    exact key ps fun _ h => h
  rw [a, R.thicks]
  generalize Kp397.thicknesses sp = l
  induction l with
  | nil => rfl
  | cons x l ih =>
    rw [up_cons, List.flatMap_cons, List.flatMap_cons, ih, R.price x]
    rfl
theorem Rel.told_len (R : Rel sp ps m) : ps.length = (Kp397.thicknesses sp).length := by
  have e := congrArg List.length R.thicks
  rw [up_len] at e
  rw [← e]
  exact (List.length_map ..).symm
/-! ### the least thickness -/
theorem findSome_find {P : Nat → Bool} {f : Nat → Option Int} : ∀ l : List Nat, (∀ h ∈ l, f h = if P h = true then some (h : Int) else none) → l.findSome? f = (l.find? P).map fun h : Nat => (h : Int)
  | [], _ => rfl
  | h :: l, e => by
    rw [List.findSome?_cons, List.find?_cons, e h (List.mem_cons_self ..)]
    cases c : P h with
    | true => rfl
    | false => exact findSome_find l fun k hk => e k (List.mem_cons_of_mem _ hk)
theorem Rel.least (R : Rel sp ps m) (v : Nat) : leastHide ps m (v : Int) = match Kp397.leastThickness sp v with
    | some t => (t : Int)
    | none => -1 := by
  unfold leastHide Kp397.leastThickness Kp397.maxThickness
  have e : (List.range 61).findSome? (fun h => if (v : Int) ≤ M.bestIn (rows ps m.1) m.2 ((h : Nat) : Int) then some ((h : Nat) : Int) else none) = ((List.range 61).find? fun t => decide (v ≤ Kp397.bestValue sp t)).map fun h : Nat => (h : Int) := by
    refine findSome_find _ fun h hh => ?_
    rw [R.bestIn (h := h) (by have := List.mem_range.mp hh; omega)]
    by_cases c : v ≤ Kp397.bestValue sp h
    · rw [if_pos (by omega), if_pos (decide_eq_true c)]
    · rw [if_neg (by omega), if_neg (by simpa using c)]
  rw [e]
  show _ = match (List.range 61).find? (fun t => decide (v ≤ Kp397.bestValue sp t)) with
    | some t => (t : Int)
    | none => -1
  cases (List.range 61).find? (fun t => decide (v ≤ Kp397.bestValue sp t)) with
  | none => rfl
  | some t => rfl
theorem count_up (x : Nat) : ∀ l : List Nat, (up l).count (x : Int) = l.count x
  | [] => rfl
  | y :: l => by
    rw [up_cons, List.count_cons, List.count_cons, count_up x l]
    by_cases c : y = x
    · subst c
      simp
    · rw [if_neg (by simpa using fun z => c (Int.ofNat.inj z)), if_neg (by simpa using c)]
theorem Rel.sum_best (R : Rel sp ps m) (h : Nat) : (Kp397.bestPlan sp h).sum ≤ h := by
  obtain ⟨_, b2, _⟩ := R.bestPlan h
  have := (fits_iff.mp (R.mem_plans.mp b2).2.2).1
  have := sum_le_used (sp := sp) (Kp397.bestPlan sp h)
  omega
theorem Rel.values (R : Rel sp ps m) {hs : List Nat} (hh : ∀ h ∈ hs, h ≤ 60) : bestValues ps m (up hs) = up (hs.map (Kp397.bestValue sp)) := by
  unfold bestValues up
  rw [List.map_map, List.map_map]
  exact List.map_congr_left fun h hm => R.bestIn (hh h hm)
end
end HL.M

end
section
/-! # The machine: mirror and specification step by step -/
namespace HL.M
open Kp397 (Splitter Product)
def Sim : Kp397.State → St → Prop
  | none, s => s.there = false
  | some sp, s => s.there = true ∧ Rel sp s.ps s.m
/-- an answer of the specification as a list -/
def ans (a : Kp397.Ans) : List Int := a.num :: a.nums
def Ok (y : Kp397.State × Kp397.Ans) (z : St × List Int) : Prop := ans y.2 = z.2 ∧ Sim y.1 z.1
theorem okMachine_eq (k n : Nat) : okMachine (k : Int) (n : Int) = Kp397.validMachine k n := by
  rw [Bool.eq_iff_iff]
  unfold okMachine Kp397.validMachine
  simp only [Bool.and_eq_true, decide_eq_true_eq]
  omega
theorem okHide_eq (t : Nat) : okHide (t : Int) = Kp397.validHide t := by
  rw [Bool.eq_iff_iff]
  unfold okHide Kp397.validHide Kp397.maxThickness
  simp only [Bool.and_eq_true, decide_eq_true_eq]
  omega
theorem okPrice_eq (t : Nat) : okPrice (t : Int) = Kp397.validPrice t := by
  rw [Bool.eq_iff_iff]
  unfold okPrice Kp397.validPrice
  simp only [Bool.and_eq_true, decide_eq_true_eq]
  omega
theorem okProduct_eq (t p : Nat) : (okThickness (t : Int) && okPrice (p : Int)) = Kp397.validProduct t p := by
  rw [Bool.eq_iff_iff]
  unfold okThickness okPrice Kp397.validProduct Kp397.maxThickness
  simp only [Bool.and_eq_true, decide_eq_true_eq]
  omega
theorem validProduct_iff {t p : Nat} : Kp397.validProduct t p = true ↔ (3 ≤ t ∧ t ≤ 60) ∧ 1 ≤ p ∧ p ≤ 99 := by
  unfold Kp397.validProduct Kp397.maxThickness
  simp only [Bool.and_eq_true, decide_eq_true_eq]
  omega
theorem validPrice_iff {p : Nat} : Kp397.validPrice p = true ↔ 1 ≤ p ∧ p ≤ 99 := by
  unfold Kp397.validPrice
  simp only [Bool.and_eq_true, decide_eq_true_eq]
theorem validHide_iff {t : Nat} : Kp397.validHide t = true ↔ t ≤ 60 := by
  unfold Kp397.validHide Kp397.maxThickness
  rw [decide_eq_true_eq]
theorem validMachine_iff {k n : Nat} : Kp397.validMachine k n = true ↔ k ≤ 9 ∧ n ≤ 5 := by
  unfold Kp397.validMachine
  simp only [Bool.and_eq_true, decide_eq_true_eq]
theorem not_of_false {b : Bool} (h : b = false) : ¬ b = true := by rw [h]; exact Bool.false_ne_true
theorem false_of {b : Bool} (h : ¬ b = true) : b = false := by
  cases b with
  | true => exact absurd rfl h
  | false => rfl
section
variable {S : Kp397.State} {sp : Splitter} {s : St}
theorem sim_create (h : Sim S s) (k n : Nat) : Ok (Kp397.step S (.create k n)) (create s (k : Int) (n : Int)) := by
  have e : Kp397.step S (.create k n) = if Kp397.validMachine k n = true then (some ⟨[], k, n⟩, Kp397.single 0) else (S, Kp397.single (-22)) := by cases S <;> rfl
  rw [e]
  unfold create
  rw [okMachine_eq]
  by_cases c : Kp397.validMachine k n = true
  · rw [if_pos c, if_pos c]
    exact ⟨rfl, rfl, List.Perm.refl _, List.Pairwise.nil, fun q hq => (by cases hq), rfl, rfl, (validMachine_iff.mp c).2⟩
  · rw [if_neg c, if_neg c]
    exact ⟨rfl, h⟩
theorem sim_add (t : s.there = true) (R : Rel sp s.ps s.m) (x v : Nat) : Ok (Kp397.step (some sp) (.addProduct x v)) (addProduct s (x : Int) (v : Int)) := by
  have e : Kp397.step (some sp) (.addProduct x v) = if Kp397.validProduct x v = false then (some sp, Kp397.single (-22)) else if Kp397.isProduct sp x = true then (some sp, Kp397.single (-17)) else if Kp397.maxProducts ≤ sp.products.length then (some sp, Kp397.single (-28)) else (some { sp with products := sp.products ++ [⟨x, v⟩] }, Kp397.single (sp.products.length + 1 : Nat)) := rfl
  rw [e]
  unfold addProduct
  rw [okProduct_eq, R.has x]
  by_cases c : Kp397.validProduct x v = true
  · rw [if_neg (by rw [c]; decide), if_pos c]
    by_cases d : Kp397.isProduct sp x = true
    · rw [if_pos d, if_pos d]
      exact ⟨rfl, t, R⟩
    · rw [if_neg d, if_neg d]
      have hl := R.len
      by_cases f : 6 ≤ sp.products.length
      · rw [if_pos (show Kp397.maxProducts ≤ sp.products.length from f), if_pos (by omega)]
        exact ⟨rfl, t, R⟩
      · rw [if_neg (show ¬ Kp397.maxProducts ≤ sp.products.length from f), if_neg (by omega)]
        obtain ⟨b1, b2⟩ := validProduct_iff.mp c
        have R2 := R.withP (false_of d) b1 b2
        refine ⟨?_, t, R2⟩
        have l2 := R2.len
        show [((sp.products.length + 1 : Nat) : Int)] = [((withP s.ps (x : Int) (v : Int)).length : Int)]
        rw [l2]
        show [((sp.products.length + 1 : Nat) : Int)] = [(((sp.products ++ ([⟨x, v⟩] : List Product)).length : Nat) : Int)]
        rw [List.length_append]
        rfl
  · rw [if_pos (false_of c), if_neg c]
    exact ⟨rfl, t, R⟩
theorem sim_remove (t : s.there = true) (R : Rel sp s.ps s.m) (x : Nat) : Ok (Kp397.step (some sp) (.removeProduct x)) (removeProduct s (x : Int)) := by
  have e : Kp397.step (some sp) (.removeProduct x) = if Kp397.isProduct sp x = true then (some { sp with products := sp.products.filter fun p => p.thickness != x }, Kp397.single (sp.products.length - 1 : Nat)) else (some sp, Kp397.single (-2)) := rfl
  rw [e]
  unfold removeProduct
  rw [R.has x]
  by_cases d : Kp397.isProduct sp x = true
  · rw [if_pos d, if_pos d]
    refine ⟨?_, t, R.withoutP x⟩
    show [((sp.products.length - 1 : Nat) : Int)] = [((withoutP s.ps (x : Int)).length : Int)]
    rw [R.less d]
  · rw [if_neg d, if_neg d]
    exact ⟨rfl, t, R⟩
theorem sim_price (t : s.there = true) (R : Rel sp s.ps s.m) (x v : Nat) : Ok (Kp397.step (some sp) (.setPrice x v)) (setPrice s (x : Int) (v : Int)) := by
  have e : Kp397.step (some sp) (.setPrice x v) = if Kp397.isProduct sp x = false then (some sp, Kp397.single (-2)) else if Kp397.validPrice v = true then (some { sp with products := sp.products.map fun p => if p.thickness = x then { p with price := v } else p }, Kp397.single (Kp397.priceOf sp x : Nat)) else (some sp, Kp397.single (-22)) := rfl
  rw [e]
  unfold setPrice
  rw [R.has x, okPrice_eq]
  by_cases d : Kp397.isProduct sp x = true
  · rw [if_neg (by rw [d]; decide), if_pos d]
    by_cases c : Kp397.validPrice v = true
    · rw [if_pos c, if_pos c]
      refine ⟨?_, t, R.withPrice d (validPrice_iff.mp c)⟩
      show [((Kp397.priceOf sp x : Nat) : Int)] = [price s.ps (x : Int)]
      rw [R.price x]
    · rw [if_neg c, if_neg c]
      exact ⟨rfl, t, R⟩
  · rw [if_pos (false_of d), if_neg d]
    exact ⟨rfl, t, R⟩
theorem sim_products (t : s.there = true) (R : Rel sp s.ps s.m) : Ok (Kp397.step (some sp) .getProducts) (getProducts s) := by
  refine ⟨?_, t, R⟩
  show (((Kp397.thicknesses sp).length : Nat) : Int) :: up ((Kp397.thicknesses sp).flatMap fun x => [x, Kp397.priceOf sp x]) = (s.ps.length : Int) :: s.ps.flatMap fun p => [p.1, p.2]
  rw [R.told, R.told_len]
theorem sim_machine (t : s.there = true) (R : Rel sp s.ps s.m) (k n : Nat) : Ok (Kp397.step (some sp) (.setMachine k n)) (setMachine s (k : Int) (n : Int)) := by
  have e : Kp397.step (some sp) (.setMachine k n) = if Kp397.validMachine k n = true then (some { sp with cutLoss := k, maxCuts := n }, Kp397.natResult 0 [sp.cutLoss, sp.maxCuts]) else (some sp, Kp397.single (-22)) := rfl
  rw [e]
  unfold setMachine
  rw [okMachine_eq]
  by_cases c : Kp397.validMachine k n = true
  · rw [if_pos c, if_pos c]
    refine ⟨?_, t, R.machine (validMachine_iff.mp c).2⟩
    show [(0 : Int), (sp.cutLoss : Int), (sp.maxCuts : Int)] = [0, s.m.1, s.m.2]
    rw [R.m1, R.m2]
  · rw [if_neg c, if_neg c]
    exact ⟨rfl, t, R⟩
/-! ### the questions -/
theorem as_planValue (R : Rel sp s.ps s.m) (l : List Nat) : ans (if Kp397.validPlan sp l = true then Kp397.single (Kp397.planValue sp l : Nat) else Kp397.single (-22)) = qPlanValue s (up l) := by
  unfold qPlanValue
  rw [R.isPlan l]
  by_cases c : Kp397.validPlan sp l = true
  · rw [if_pos c, if_pos c, R.value l]
    rfl
  · rw [if_neg c, if_neg c]
    rfl
theorem as_fits (R : Rel sp s.ps s.m) (t : Nat) (l : List Nat) : ans (if (Kp397.validHide t && Kp397.validPlan sp l) = true then Kp397.boolResult (Kp397.fits sp t l) else Kp397.single (-22)) = qFits s (t : Int) (up l) := by
  unfold qFits
  rw [R.isPlan l, okHide_eq]
  by_cases c : (Kp397.validHide t && Kp397.validPlan sp l) = true
  · rw [if_pos c, if_pos c, R.doesFit l t]
    cases Kp397.fits sp t l <;> rfl
  · rw [if_neg c, if_neg c]
    rfl
theorem as_cutCount (R : Rel sp s.ps s.m) (t : Nat) (l : List Nat) : ans (if (Kp397.validHide t && Kp397.validPlan sp l) = false then Kp397.single (-22) else if t < Kp397.usedThickness sp l then Kp397.single (-33) else Kp397.single (Kp397.cutCount sp t l : Nat)) = qCutCount s (t : Int) (up l) := by
  unfold qCutCount
  rw [R.isPlan l, okHide_eq]
  by_cases c : (Kp397.validHide t && Kp397.validPlan sp l) = true
  · rw [if_neg (by rw [c]; decide), if_pos c, R.used l]
    by_cases d : t < Kp397.usedThickness sp l
    · rw [if_pos d, if_pos (by omega)]
      rfl
    · rw [if_neg d, if_neg (by omega), R.planCuts l t]
      rfl
  · rw [if_pos (false_of c), if_neg c]
    rfl
theorem as_bestValue (R : Rel sp s.ps s.m) (t : Nat) : ans (Kp397.queryHide t fun _ => Kp397.single (Kp397.bestValue sp t : Nat)) = qBestValue s (t : Int) := by
  unfold qBestValue Kp397.queryHide
  rw [okHide_eq]
  by_cases c : Kp397.validHide t = true
  · rw [if_pos c, if_pos c, R.bestValue (validHide_iff.mp c)]
    rfl
  · rw [if_neg c, if_neg c]
    rfl
theorem as_bestPlan (R : Rel sp s.ps s.m) (t : Nat) : ans (Kp397.queryHide t fun _ => Kp397.listResult (Kp397.bestPlan sp t)) = qBestPlan s (t : Int) := by
  unfold qBestPlan Kp397.queryHide
  rw [okHide_eq]
  by_cases c : Kp397.validHide t = true
  · rw [if_pos c, if_pos c, (R.bestPlan t).1, up_len]
    rfl
  · rw [if_neg c, if_neg c]
    rfl
theorem as_waste (R : Rel sp s.ps s.m) (t : Nat) : ans (Kp397.queryHide t fun _ => Kp397.single (Kp397.waste t (Kp397.bestPlan sp t) : Nat)) = qWaste s (t : Int) := by
  unfold qWaste Kp397.queryHide
  rw [okHide_eq]
  by_cases c : Kp397.validHide t = true
  · rw [if_pos c, if_pos c, (R.bestPlan t).1, up_sum]
    have := R.sum_best t
    show [((t - (Kp397.bestPlan sp t).sum : Nat) : Int)] = _
    rw [Int.ofNat_sub this]
  · rw [if_neg c, if_neg c]
    rfl
theorem as_planCount (R : Rel sp s.ps s.m) (t : Nat) : ans (Kp397.queryHide t fun _ => Kp397.single ((Kp397.plans sp t).length : Nat)) = qPlanCount s (t : Int) := by
  unfold qPlanCount Kp397.queryHide
  rw [okHide_eq]
  by_cases c : Kp397.validHide t = true
  · have e := (R.fitting t).length_eq
    rw [List.length_map] at e
    rw [if_pos c, if_pos c, ← e]
    rfl
  · rw [if_neg c, if_neg c]
    rfl
theorem as_bestPlanCount (R : Rel sp s.ps s.m) (t : Nat) : ans (Kp397.queryHide t fun _ => Kp397.single (((Kp397.plans sp t).filter fun l => Kp397.planValue sp l == Kp397.bestValue sp t).length : Nat)) = qBestPlanCount s (t : Int) := by
  unfold qBestPlanCount Kp397.queryHide
  rw [okHide_eq]
  by_cases c : Kp397.validHide t = true
  · rw [if_pos c, if_pos c, R.bestCount t]
    rfl
  · rw [if_neg c, if_neg c]
    rfl
theorem hides_up : hides12 = up ((List.range 12).map fun i => 5 * (i + 1)) := rfl
theorem as_valueTable (R : Rel sp s.ps s.m) : ans (Kp397.listResult ((List.range 12).map fun i => Kp397.bestValue sp (5 * (i + 1)))) = qValueTable s := by
  unfold qValueTable
  rw [hides_up, R.values (hs := (List.range 12).map fun i => 5 * (i + 1)) fun h hh => by
    obtain ⟨i, hi, rfl⟩ := List.mem_map.mp hh
    have := List.mem_range.mp hi
    omega]
  rw [List.map_map]
  have e : ans (Kp397.listResult ((List.range 12).map fun i => Kp397.bestValue sp (5 * (i + 1)))) = ((((List.range 12).map fun i => Kp397.bestValue sp (5 * (i + 1))).length : Nat) : Int) :: up ((List.range 12).map fun i => Kp397.bestValue sp (5 * (i + 1))) := rfl
  rw [e, List.length_map]
  rfl
theorem as_least (R : Rel sp s.ps s.m) (v : Nat) : ans (if 999 < v then Kp397.single (-22) else match Kp397.leastThickness sp v with
    | none => Kp397.single (-33)
    | some t => Kp397.single (t : Nat)) = qLeast s (v : Int) := by
  unfold qLeast
  have e : okValue (v : Int) = decide (v ≤ 999) := by
    rw [Bool.eq_iff_iff]
    unfold okValue
    simp only [Bool.and_eq_true, decide_eq_true_eq]
    omega
  rw [e, R.least v]
  by_cases c : 999 < v
  · rw [if_pos c, if_neg (by simp; omega)]
    rfl
  · rw [if_neg c, if_pos (decide_eq_true (by omega))]
    cases Kp397.leastThickness sp v with
    | none => rfl
    | some t =>
      show [((t : Nat) : Int)] = if ((t : Nat) : Int) < 0 then [-33] else [((t : Nat) : Int)]
      rw [if_neg (by omega)]
theorem as_withMachine (R : Rel sp s.ps s.m) (k n t : Nat) : ans (if (Kp397.validMachine k n && Kp397.validHide t) = true then Kp397.single (Kp397.bestValue { sp with cutLoss := k, maxCuts := n } t : Nat) else Kp397.single (-22)) = qWithMachine s (k : Int) (n : Int) (t : Int) := by
  unfold qWithMachine
  rw [okMachine_eq, okHide_eq]
  by_cases c : (Kp397.validMachine k n && Kp397.validHide t) = true
  · obtain ⟨c1, c2⟩ := Bool.and_eq_true_iff.mp c
    rw [if_pos c, if_pos c, (R.machine (k := k) (validMachine_iff.mp c1).2).bestValue (validHide_iff.mp c2)]
    rfl
  · rw [if_neg c, if_neg c]
    rfl
theorem as_withProduct (R : Rel sp s.ps s.m) (x v t : Nat) : ans (if (Kp397.validProduct x v && Kp397.validHide t) = false then Kp397.single (-22) else if Kp397.isProduct sp x = true then Kp397.single (-17) else Kp397.single (Kp397.bestValue { sp with products := sp.products ++ [⟨x, v⟩] } t : Nat)) = qWithProduct s (x : Int) (v : Int) (t : Int) := by
  unfold qWithProduct
  rw [← Bool.and_assoc, okProduct_eq, okHide_eq, R.has x]
  by_cases c : (Kp397.validProduct x v && Kp397.validHide t) = true
  · obtain ⟨c1, c2⟩ := Bool.and_eq_true_iff.mp c
    rw [if_neg (by rw [c]; decide), if_pos c]
    by_cases d : Kp397.isProduct sp x = true
    · rw [if_pos d, if_pos d]
      rfl
    · obtain ⟨b1, b2⟩ := validProduct_iff.mp c1
      rw [if_neg d, if_neg d, (R.withP (false_of d) b1 b2).bestValue (validHide_iff.mp c2)]
      rfl
  · rw [if_pos (false_of c), if_neg c]
    rfl
theorem as_layers (R : Rel sp s.ps s.m) (t x : Nat) : ans (if Kp397.isProduct sp x = false then Kp397.single (-2) else Kp397.queryHide t fun _ => Kp397.single ((Kp397.bestPlan sp t).count x : Nat)) = qLayers s (t : Int) (x : Int) := by
  unfold qLayers Kp397.queryHide
  rw [okHide_eq, R.has x]
  by_cases d : Kp397.isProduct sp x = true
  · rw [if_neg (by rw [d]; decide), if_pos d]
    by_cases c : Kp397.validHide t = true
    · rw [if_pos c, if_pos c, (R.bestPlan t).1, count_up]
      rfl
    · rw [if_neg c, if_neg c]
      rfl
  · rw [if_pos (false_of d), if_neg d]
    rfl
theorem as_two (R : Rel sp s.ps s.m) (a b : Nat) : ans (if (Kp397.validHide a && Kp397.validHide b) = true then Kp397.single (Kp397.bestValue sp a + Kp397.bestValue sp b : Nat) else Kp397.single (-22)) = qTwo s (a : Int) (b : Int) := by
  unfold qTwo
  rw [okHide_eq, okHide_eq]
  by_cases c : (Kp397.validHide a && Kp397.validHide b) = true
  · obtain ⟨c1, c2⟩ := Bool.and_eq_true_iff.mp c
    rw [if_pos c, if_pos c]
    have e := R.values (hs := [a, b]) fun h hh => by
      rcases List.mem_cons.mp hh with z | z
      · rw [z]
        exact validHide_iff.mp c1
      · rw [List.mem_singleton.mp z]
        exact validHide_iff.mp c2
    rw [show ([(a : Int), (b : Int)] : List Int) = up [a, b] from rfl, e, up_sum]
    simp [ans, Kp397.single]
  · rw [if_neg c, if_neg c]
    rfl
end
/-! ### a call -/
theorem nat_of {a : Int} (h : 0 ≤ a) : ∃ n : Nat, a = (n : Int) := ⟨a.toNat, by omega⟩
theorem up_toNat : ∀ l : List Nat, (up l).map Int.toNat = l
  | [] => rfl
  | x :: l => by
    rw [up_cons, List.map_cons, up_toNat l]
    rfl
theorem nats_of {l : List Int} (h : ∀ x ∈ l, 0 ≤ x) : ∃ k : List Nat, l = up k := ⟨l.map Int.toNat, (of_up h).symm⟩
/-- what the request's reader makes of a call -/
def spec (S : Kp397.State) (x : Kp397.Call) : Kp397.State × List Int := ((Kp397.step S x).1, ans (Kp397.step S x).2)
theorem spec_none {x : Kp397.Call} (h : ∀ k n, x ≠ .create k n) : spec none x = (none, [-11]) := by
  cases x with
  | create k n => exact absurd rfl (h k n)
  | _ => rfl
def SimR (y z : Kp397.State × List Int) (w : St × List Int) : Prop := y = z ∧ z.2 = w.2 ∧ Sim z.1 w.1
/-- all calls but create, by their answer where there is a splitter -/
theorem sim_other {S : Kp397.State} {s : St} (h : Sim S s) {n : Int} {l : List Int} {x : Kp397.Call} {w : St × List Int} (h0 : n ≠ 0) (hx : ∀ k n, x ≠ .create k n) (e : Kp397Neutral.step S [n :: l] = spec S x) (ey : s.there = true → step s (n, l) = w)
    (k : ∀ sp, s.there = true → Rel sp s.ps s.m → Ok (Kp397.step (some sp) x) w) : (Kp397Neutral.step S [n :: l]).2 = (step s (n, l)).2 ∧ Sim (Kp397Neutral.step S [n :: l]).1 (step s (n, l)).1 := by
  rw [e]
  cases S with
  | none =>
    have t : s.there = false := h
    rw [spec_none hx, step_no h0 t]
    exact ⟨rfl, t⟩
  | some sp =>
    obtain ⟨t, R⟩ := h
    rw [ey t]
    exact k sp t R
theorem sim_call {S : Kp397.State} {s : St} (h : Sim S s) {c : Call} (a : Ask c) (hn : ∀ x ∈ c.2, 0 ≤ x) : (Kp397Neutral.step S [c.1 :: c.2]).2 = (step s c).2 ∧ Sim (Kp397Neutral.step S [c.1 :: c.2]).1 (step s c).1 := by
  have ifn : ∀ {α : Type} {x y : α}, s.there = true → (if s.there = false then x else y) = y := fun t => if_neg (by rw [t]; decide)
  cases a with
  | c0 a b =>
    obtain ⟨a, rfl⟩ := nat_of (hn a (by simp))
    obtain ⟨b, rfl⟩ := nat_of (hn b (by simp))
    exact sim_create h a b
  | c1 a b =>
    obtain ⟨a, rfl⟩ := nat_of (hn a (by simp))
    obtain ⟨b, rfl⟩ := nat_of (hn b (by simp))
    exact sim_other h (x := .addProduct a b) (by simp) (fun _ _ z => nomatch z) rfl (fun t => ifn t) fun sp t R => sim_add t R a b
  | c2 a =>
    obtain ⟨a, rfl⟩ := nat_of (hn a (by simp))
    exact sim_other h (x := .removeProduct a) (by simp) (fun _ _ z => nomatch z) rfl (fun t => ifn t) fun sp t R => sim_remove t R a
  | c3 a b =>
    obtain ⟨a, rfl⟩ := nat_of (hn a (by simp))
    obtain ⟨b, rfl⟩ := nat_of (hn b (by simp))
    exact sim_other h (x := .setPrice a b) (by simp) (fun _ _ z => nomatch z) rfl (fun t => ifn t) fun sp t R => sim_price t R a b
  | c4 => exact sim_other h (x := .getProducts) (by simp) (fun _ _ z => nomatch z) rfl (fun t => ifn t) fun sp t R => sim_products t R
  | c5 a b =>
    obtain ⟨a, rfl⟩ := nat_of (hn a (by simp))
    obtain ⟨b, rfl⟩ := nat_of (hn b (by simp))
    exact sim_other h (x := .setMachine a b) (by simp) (fun _ _ z => nomatch z) rfl (fun t => ifn t) fun sp t R => sim_machine t R a b
  | c6 l hl =>
    obtain ⟨l, rfl⟩ := nats_of hn
    exact sim_other h (x := .planValue l) (by simp) (fun _ _ z => nomatch z) (by show spec S (.planValue ((up l).map Int.toNat)) = _; rw [up_toNat]) (fun t => ifn t) fun sp t R => ⟨as_planValue R l, t, R⟩
  | c7 a l hl =>
    obtain ⟨a, rfl⟩ := nat_of (hn a (by simp))
    obtain ⟨l, rfl⟩ := nats_of fun x hx => hn x (List.mem_cons_of_mem _ hx)
    exact sim_other h (x := .fits a l) (by simp) (fun _ _ z => nomatch z) (by show spec S (.fits a ((up l).map Int.toNat)) = _; rw [up_toNat]) (fun t => ifn t) fun sp t R => ⟨as_fits R a l, t, R⟩
  | c8 a l hl =>
    obtain ⟨a, rfl⟩ := nat_of (hn a (by simp))
    obtain ⟨l, rfl⟩ := nats_of fun x hx => hn x (List.mem_cons_of_mem _ hx)
    exact sim_other h (x := .cutCount a l) (by simp) (fun _ _ z => nomatch z) (by show spec S (.cutCount a ((up l).map Int.toNat)) = _; rw [up_toNat]) (fun t => ifn t) fun sp t R => ⟨as_cutCount R a l, t, R⟩
  | c9 a =>
    obtain ⟨a, rfl⟩ := nat_of (hn a (by simp))
    exact sim_other h (x := .bestValue a) (by simp) (fun _ _ z => nomatch z) rfl (fun t => ifn t) fun sp t R => ⟨as_bestValue R a, t, R⟩
  | c10 a =>
    obtain ⟨a, rfl⟩ := nat_of (hn a (by simp))
    exact sim_other h (x := .bestPlan a) (by simp) (fun _ _ z => nomatch z) rfl (fun t => ifn t) fun sp t R => ⟨as_bestPlan R a, t, R⟩
  | c11 a =>
    obtain ⟨a, rfl⟩ := nat_of (hn a (by simp))
    exact sim_other h (x := .waste a) (by simp) (fun _ _ z => nomatch z) rfl (fun t => ifn t) fun sp t R => ⟨as_waste R a, t, R⟩
  | c12 a =>
    obtain ⟨a, rfl⟩ := nat_of (hn a (by simp))
    exact sim_other h (x := .planCount a) (by simp) (fun _ _ z => nomatch z) rfl (fun t => ifn t) fun sp t R => ⟨as_planCount R a, t, R⟩
  | c13 a =>
    obtain ⟨a, rfl⟩ := nat_of (hn a (by simp))
    exact sim_other h (x := .bestPlanCount a) (by simp) (fun _ _ z => nomatch z) rfl (fun t => ifn t) fun sp t R => ⟨as_bestPlanCount R a, t, R⟩
  | c14 => exact sim_other h (x := .valueTable) (by simp) (fun _ _ z => nomatch z) rfl (fun t => ifn t) fun sp t R => ⟨as_valueTable R, t, R⟩
  | c15 a =>
    obtain ⟨a, rfl⟩ := nat_of (hn a (by simp))
    exact sim_other h (x := .leastThickness a) (by simp) (fun _ _ z => nomatch z) rfl (fun t => ifn t) fun sp t R => ⟨as_least R a, t, R⟩
  | c16 a b c =>
    obtain ⟨a, rfl⟩ := nat_of (hn a (by simp))
    obtain ⟨b, rfl⟩ := nat_of (hn b (by simp))
    obtain ⟨c, rfl⟩ := nat_of (hn c (by simp))
    exact sim_other h (x := .valueWithMachine a b c) (by simp) (fun _ _ z => nomatch z) rfl (fun t => ifn t) fun sp t R => ⟨as_withMachine R a b c, t, R⟩
  | c17 a b c =>
    obtain ⟨a, rfl⟩ := nat_of (hn a (by simp))
    obtain ⟨b, rfl⟩ := nat_of (hn b (by simp))
    obtain ⟨c, rfl⟩ := nat_of (hn c (by simp))
    exact sim_other h (x := .valueWithProduct a b c) (by simp) (fun _ _ z => nomatch z) rfl (fun t => ifn t) fun sp t R => ⟨as_withProduct R a b c, t, R⟩
  | c18 a b =>
    obtain ⟨a, rfl⟩ := nat_of (hn a (by simp))
    obtain ⟨b, rfl⟩ := nat_of (hn b (by simp))
    exact sim_other h (x := .layersOfProduct a b) (by simp) (fun _ _ z => nomatch z) rfl (fun t => ifn t) fun sp t R => ⟨as_layers R a b, t, R⟩
  | c19 a b =>
    obtain ⟨a, rfl⟩ := nat_of (hn a (by simp))
    obtain ⟨b, rfl⟩ := nat_of (hn b (by simp))
    exact sim_other h (x := .valueOfTwo a b) (by simp) (fun _ _ z => nomatch z) rfl (fun t => ifn t) fun sp t R => ⟨as_two R a b, t, R⟩
end HL.M

end
section
/-! # The plain law: what the mirror answers is what is due -/
namespace HL
open M
namespace M
def wrap (c : Call) : List (List Int) := [c.1 :: c.2]
theorem nn {x : Int} (h : Kp397Neutral.natural x = true) : 0 ≤ x := by
  unfold Kp397Neutral.natural at h
  exact of_decide_eq_true (Bool.and_eq_true_iff.mp h).1
theorem nns {l : List Int} (h : l.all Kp397Neutral.natural = true) : ∀ x ∈ l, 0 ≤ x := fun x hx => nn (List.all_eq_true.mp h x hx)
theorem asked1_is (c : List (List Int)) (h : Kp397Neutral.asked1 c = true) : ∃ d : Call, c = wrap d ∧ Ask d ∧ ∀ x ∈ d.2, 0 ≤ x := by
  have one : ∀ {a : Int}, Kp397Neutral.natural a = true → ∀ x ∈ [a], 0 ≤ x := fun h x hx => by
    rw [List.mem_singleton.mp hx]
    exact nn h
  have two : ∀ {a b : Int}, (Kp397Neutral.natural a && Kp397Neutral.natural b) = true → ∀ x ∈ [a, b], 0 ≤ x := fun h x hx => by
    obtain ⟨h1, h2⟩ := Bool.and_eq_true_iff.mp h
    rcases List.mem_cons.mp hx with z | z
    · rw [z]
      exact nn h1
    · exact one h2 x z
  have three : ∀ {a b c : Int}, (Kp397Neutral.natural a && (Kp397Neutral.natural b && Kp397Neutral.natural c)) = true → ∀ x ∈ [a, b, c], 0 ≤ x := fun h x hx => by
    obtain ⟨h1, h2⟩ := Bool.and_eq_true_iff.mp h
    rcases List.mem_cons.mp hx with z | z
    · rw [z]
      exact nn h1
    · exact two h2 x z
  unfold Kp397Neutral.asked1 at h
  split at h
  · exact ⟨(0, [_, _]), rfl, .c0 _ _, two h⟩
  · exact ⟨(1, [_, _]), rfl, .c1 _ _, two h⟩
  · exact ⟨(2, [_]), rfl, .c2 _, one h⟩
  · exact ⟨(3, [_, _]), rfl, .c3 _ _, two h⟩
  · exact ⟨(4, []), rfl, .c4, fun x hx => by cases hx⟩
  · exact ⟨(5, [_, _]), rfl, .c5 _ _, two h⟩
  · obtain ⟨h1, h2⟩ := Bool.and_eq_true_iff.mp h
    exact ⟨(6, _), rfl, .c6 _ (of_decide_eq_true h2), nns h1⟩
  · obtain ⟨h0, h⟩ := Bool.and_eq_true_iff.mp h
    obtain ⟨h1, h2⟩ := Bool.and_eq_true_iff.mp h
    refine ⟨(7, _ :: _), rfl, .c7 _ _ (of_decide_eq_true h2), fun x hx => ?_⟩
    rcases List.mem_cons.mp hx with z | z
    · rw [z]
      exact nn h0
    · exact nns h1 x z
  · obtain ⟨h0, h⟩ := Bool.and_eq_true_iff.mp h
    obtain ⟨h1, h2⟩ := Bool.and_eq_true_iff.mp h
    refine ⟨(8, _ :: _), rfl, .c8 _ _ (of_decide_eq_true h2), fun x hx => ?_⟩
    rcases List.mem_cons.mp hx with z | z
    · rw [z]
      exact nn h0
    · exact nns h1 x z
  · exact ⟨(9, [_]), rfl, .c9 _, one h⟩
  · exact ⟨(10, [_]), rfl, .c10 _, one h⟩
  · exact ⟨(11, [_]), rfl, .c11 _, one h⟩
  · exact ⟨(12, [_]), rfl, .c12 _, one h⟩
  · exact ⟨(13, [_]), rfl, .c13 _, one h⟩
  · exact ⟨(14, []), rfl, .c14, fun x hx => by cases hx⟩
  · exact ⟨(15, [_]), rfl, .c15 _, one h⟩
  · exact ⟨(16, [_, _, _]), rfl, .c16 _ _ _, three h⟩
  · exact ⟨(17, [_, _, _]), rfl, .c17 _ _ _, three h⟩
  · exact ⟨(18, [_, _]), rfl, .c18 _ _, two h⟩
  · exact ⟨(19, [_, _]), rfl, .c19 _ _, two h⟩
  · cases h
theorem asked_is : ∀ l : List (List (List Int)), (∀ c ∈ l, Kp397Neutral.asked1 c = true) → ∃ cs : List Call, l = cs.map wrap ∧ ∀ d ∈ cs, Ask d ∧ ∀ x ∈ d.2, 0 ≤ x
  | [], _ => ⟨[], rfl, fun d hd => by cases hd⟩
  | c :: l, h => by
    obtain ⟨d, rfl, h1, h2⟩ := asked1_is c (h c (List.mem_cons_self ..))
    obtain ⟨cs, rfl, h3⟩ := asked_is l fun e he => h e (List.mem_cons_of_mem _ he)
    refine ⟨d :: cs, rfl, fun e he => ?_⟩
    rcases List.mem_cons.mp he with z | z
    · rw [z]
      exact ⟨h1, h2⟩
    · exact h3 e z
theorem put_flat : ∀ cs : List Call, PyWide.put (cs.map wrap) = flat cs
  | [] => rfl
  | c :: cs => by
    rw [flat_cons, ← put_flat cs]
    show (c.1 :: ((c.2.length : Int) :: c.2 ++ [((0 : Nat) : Int)])) ++ PyWide.put (cs.map wrap) = _
    simp
theorem told_play : ∀ (cs : List Call) (S : Kp397.State) (s : St), Sim S s → (∀ d ∈ cs, Ask d ∧ ∀ x ∈ d.2, 0 ≤ x) → PyFlat.told (PyFlat.played Kp397Neutral.step S (cs.map wrap)) = play s cs
  | [], _, _, _, _ => rfl
  | c :: cs, S, s, h, ha => by
    obtain ⟨a1, a2⟩ := ha c (List.mem_cons_self ..)
    obtain ⟨e, h'⟩ := sim_call h a1 a2
    have ih := told_play cs _ _ h' fun d hd => ha d (List.mem_cons_of_mem _ hd)
    show PyFlat.told ((Kp397Neutral.step S [c.1 :: c.2]).2 :: PyFlat.played Kp397Neutral.step (Kp397Neutral.step S [c.1 :: c.2]).1 (cs.map wrap)) = ((step s c).2.length : Int) :: ((step s c).2 ++ play (step s c).1 cs)
    rw [← ih, e]
    rfl
end M
theorem law (l : List Int) (a : PyKp397.answers_asked l = true) : ∃ cs : List Call, l = flat cs ∧ (∀ c ∈ cs, Ask c) ∧ PyKp397.answers l = play M.start cs := by
  unfold PyKp397.answers_asked at a
  cases e : PyKp397.calls l with
  | none =>
    rw [e] at a
    cases a
  | some cs0 =>
    rw [e] at a
    have a1 : (PyFlat.atMost 60 cs0 && Kp397Neutral.asked cs0 && PyFlat.short 10000000 (PyKp397.answers l)) = true := a
    rw [Bool.and_eq_true, Bool.and_eq_true] at a1
    have a2 : (!cs0.isEmpty && (decide (cs0.length ≤ 60) && cs0.all Kp397Neutral.asked1)) = true := a1.1.2
    rw [Bool.and_eq_true, Bool.and_eq_true] at a2
    obtain ⟨cs, rfl, h⟩ := asked_is cs0 (List.all_eq_true.mp a2.2.2)
    obtain ⟨p, _⟩ := PyWide.put_calls l.length l _ e
    refine ⟨cs, by rw [← put_flat]; exact p, fun c hc => (h c hc).1, ?_⟩
    have e2 : PyKp397.answers l = PyFlat.told (PyFlat.played Kp397Neutral.step Kp397Neutral.start (cs.map wrap)) := by
      unfold PyKp397.answers
      rw [e]
    rw [e2]
    exact told_play cs _ _ (show Sim none M.start from rfl) h
end HL

end
section
open PySem PySem.W PyProof.Rows
set_option maxRecDepth 100000 in
set_option maxHeartbeats 8000000 in
theorem PySem.Challenge.cw_hidelayers_s01_answers_holds : PySem.Challenge.rw_hidelayers_s01_answers.Holds := by
  w_on; k_headS; (case hw => exact ⟨[.list [.int 4, .int 0, .int 0]], by decide +kernel, by decide +kernel⟩)
  k_fillS
  refine L2.walk_specK (r := PySem.Challenge.rw_hidelayers_s01_answers) (k := 9) (CX := L2.CX0) (ps := ["calls"]) (sp := HL.spAns) (by decide +kernel) rfl rfl ⟨rfl, by decide, by decide⟩ (fun w h Y => PySem.W.kIn_of Y) ?F ?S (fun _ _ _ _ z => z)
  case F =>
    intro w mg fa h Y KX G hmg
    refine' HL.top_ok KX G hmg ?aC ?mk ?kc ?pg ?hd ?po ?sa ?nT ?nP ?nM ?aI ?iI ?lI ?cI ?kI ?aA ?lA ?cA ?kA ?zlen ?zsum ?zmax ?zmin ?zall ?zrange ?gNO_SPLITTER ?gNO_PRODUCT ?gOUTSIDE ?gTHERE_ALREADY ?gTOO_MANY ?gNOT_ENOUGH ?gMOST_PRODUCTS ?gMOST_LAYERS ?gMOST_HIDE ?gMOST_VALUE ?D_is_thickness ?D_is_price ?D_is_machine ?D_is_hide ?D_is_value ?D_thicknesses_of ?D_price_of ?D_with_product ?D_without_product ?D_get_products ?D_is_falling ?D_used_by ?D_cuts_for ?D_can_follow ?D_is_before ?D_split_calls ?D_has_product ?D_with_price ?D_create ?D_set_machine ?D_value_of ?D_is_fitting ?D_plan_cuts ?D_longer_by_one ?D_add_product ?D_remove_product ?D_set_price ?D_is_plan ?D_does_fit ?D_all_plans ?D_best_in_rows ?D_is_better ?D_fitting_plans ?D_plan_rows ?D_plan_value ?D_fits ?D_cut_count ?D_changed ?D_best_value_of ?D_best_values_of ?D_best_plan_of ?D_best_count_of ?D_least_hide ?D_plan_count ?D_best_value ?D_best_plan ?D_waste ?D_best_plan_count ?D_value_table ?D_least_thickness ?D_value_with_machine ?D_value_with_product ?D_layers_of_product ?D_value_of_two ?D_asked ?D_asked_further ?D_answered
    (case aC => k_is)
    (case mk => k_is)
    (case kc => k_is)
    (case pg => k_is)
    (case hd => k_is)
    (case po => k_is)
    (case sa => k_is)
    (case nT => k_is)
    (case nP => k_is)
    (case nM => k_is)
    (case aI => k_is)
    (case iI => k_is)
    (case lI => k_is)
    (case cI => k_is)
    (case kI => k_is)
    (case aA => k_is)
    (case lA => k_is)
    (case cA => k_is)
    (case kA => k_is)
    (case zlen => k_is)
    (case zsum => k_is)
    (case zmax => k_is)
    (case zmin => k_is)
    (case zall => k_is)
    (case zrange => k_is)
    (case gNO_SPLITTER => k_is)
    (case gNO_PRODUCT => k_is)
    (case gOUTSIDE => k_is)
    (case gTHERE_ALREADY => k_is)
    (case gTOO_MANY => k_is)
    (case gNOT_ENOUGH => k_is)
    (case gMOST_PRODUCTS => k_is)
    (case gMOST_LAYERS => k_is)
    (case gMOST_HIDE => k_is)
    (case gMOST_VALUE => k_is)
    (case D_is_thickness => (refine' HL.df_of KX G ?a ?l ?c ?k; (case a => k_is); (case l => k_is); (case c => k_is); (case k => k_is)))
    (case D_is_price => (refine' HL.df_of KX G ?a ?l ?c ?k; (case a => k_is); (case l => k_is); (case c => k_is); (case k => k_is)))
    (case D_is_machine => (refine' HL.df_of KX G ?a ?l ?c ?k; (case a => k_is); (case l => k_is); (case c => k_is); (case k => k_is)))
    (case D_is_hide => (refine' HL.df_of KX G ?a ?l ?c ?k; (case a => k_is); (case l => k_is); (case c => k_is); (case k => k_is)))
    (case D_is_value => (refine' HL.df_of KX G ?a ?l ?c ?k; (case a => k_is); (case l => k_is); (case c => k_is); (case k => k_is)))
    (case D_thicknesses_of => (refine' HL.df_of KX G ?a ?l ?c ?k; (case a => k_is); (case l => k_is); (case c => k_is); (case k => k_is)))
    (case D_price_of => (refine' HL.df_of KX G ?a ?l ?c ?k; (case a => k_is); (case l => k_is); (case c => k_is); (case k => k_is)))
    (case D_with_product => (refine' HL.df_of KX G ?a ?l ?c ?k; (case a => k_is); (case l => k_is); (case c => k_is); (case k => k_is)))
    (case D_without_product => (refine' HL.df_of KX G ?a ?l ?c ?k; (case a => k_is); (case l => k_is); (case c => k_is); (case k => k_is)))
    (case D_get_products => (refine' HL.df_of KX G ?a ?l ?c ?k; (case a => k_is); (case l => k_is); (case c => k_is); (case k => k_is)))
    (case D_is_falling => (refine' HL.df_of KX G ?a ?l ?c ?k; (case a => k_is); (case l => k_is); (case c => k_is); (case k => k_is)))
    (case D_used_by => (refine' HL.df_of KX G ?a ?l ?c ?k; (case a => k_is); (case l => k_is); (case c => k_is); (case k => k_is)))
    (case D_cuts_for => (refine' HL.df_of KX G ?a ?l ?c ?k; (case a => k_is); (case l => k_is); (case c => k_is); (case k => k_is)))
    (case D_can_follow => (refine' HL.df_of KX G ?a ?l ?c ?k; (case a => k_is); (case l => k_is); (case c => k_is); (case k => k_is)))
    (case D_is_before => (refine' HL.df_of KX G ?a ?l ?c ?k; (case a => k_is); (case l => k_is); (case c => k_is); (case k => k_is)))
    (case D_split_calls => (refine' HL.df_of KX G ?a ?l ?c ?k; (case a => k_is); (case l => k_is); (case c => k_is); (case k => k_is)))
    (case D_has_product => (refine' HL.df_of KX G ?a ?l ?c ?k; (case a => k_is); (case l => k_is); (case c => k_is); (case k => k_is)))
    (case D_with_price => (refine' HL.df_of KX G ?a ?l ?c ?k; (case a => k_is); (case l => k_is); (case c => k_is); (case k => k_is)))
    (case D_create => (refine' HL.df_of KX G ?a ?l ?c ?k; (case a => k_is); (case l => k_is); (case c => k_is); (case k => k_is)))
    (case D_set_machine => (refine' HL.df_of KX G ?a ?l ?c ?k; (case a => k_is); (case l => k_is); (case c => k_is); (case k => k_is)))
    (case D_value_of => (refine' HL.df_of KX G ?a ?l ?c ?k; (case a => k_is); (case l => k_is); (case c => k_is); (case k => k_is)))
    (case D_is_fitting => (refine' HL.df_of KX G ?a ?l ?c ?k; (case a => k_is); (case l => k_is); (case c => k_is); (case k => k_is)))
    (case D_plan_cuts => (refine' HL.df_of KX G ?a ?l ?c ?k; (case a => k_is); (case l => k_is); (case c => k_is); (case k => k_is)))
    (case D_longer_by_one => (refine' HL.df_of KX G ?a ?l ?c ?k; (case a => k_is); (case l => k_is); (case c => k_is); (case k => k_is)))
    (case D_add_product => (refine' HL.df_of KX G ?a ?l ?c ?k; (case a => k_is); (case l => k_is); (case c => k_is); (case k => k_is)))
    (case D_remove_product => (refine' HL.df_of KX G ?a ?l ?c ?k; (case a => k_is); (case l => k_is); (case c => k_is); (case k => k_is)))
    (case D_set_price => (refine' HL.df_of KX G ?a ?l ?c ?k; (case a => k_is); (case l => k_is); (case c => k_is); (case k => k_is)))
    (case D_is_plan => (refine' HL.df_of KX G ?a ?l ?c ?k; (case a => k_is); (case l => k_is); (case c => k_is); (case k => k_is)))
    (case D_does_fit => (refine' HL.df_of KX G ?a ?l ?c ?k; (case a => k_is); (case l => k_is); (case c => k_is); (case k => k_is)))
    (case D_all_plans => (refine' HL.df_of KX G ?a ?l ?c ?k; (case a => k_is); (case l => k_is); (case c => k_is); (case k => k_is)))
    (case D_best_in_rows => (refine' HL.df_of KX G ?a ?l ?c ?k; (case a => k_is); (case l => k_is); (case c => k_is); (case k => k_is)))
    (case D_is_better => (refine' HL.df_of KX G ?a ?l ?c ?k; (case a => k_is); (case l => k_is); (case c => k_is); (case k => k_is)))
    (case D_fitting_plans => (refine' HL.df_of KX G ?a ?l ?c ?k; (case a => k_is); (case l => k_is); (case c => k_is); (case k => k_is)))
    (case D_plan_rows => (refine' HL.df_of KX G ?a ?l ?c ?k; (case a => k_is); (case l => k_is); (case c => k_is); (case k => k_is)))
    (case D_plan_value => (refine' HL.df_of KX G ?a ?l ?c ?k; (case a => k_is); (case l => k_is); (case c => k_is); (case k => k_is)))
    (case D_fits => (refine' HL.df_of KX G ?a ?l ?c ?k; (case a => k_is); (case l => k_is); (case c => k_is); (case k => k_is)))
    (case D_cut_count => (refine' HL.df_of KX G ?a ?l ?c ?k; (case a => k_is); (case l => k_is); (case c => k_is); (case k => k_is)))
    (case D_changed => (refine' HL.df_of KX G ?a ?l ?c ?k; (case a => k_is); (case l => k_is); (case c => k_is); (case k => k_is)))
    (case D_best_value_of => (refine' HL.df_of KX G ?a ?l ?c ?k; (case a => k_is); (case l => k_is); (case c => k_is); (case k => k_is)))
    (case D_best_values_of => (refine' HL.df_of KX G ?a ?l ?c ?k; (case a => k_is); (case l => k_is); (case c => k_is); (case k => k_is)))
    (case D_best_plan_of => (refine' HL.df_of KX G ?a ?l ?c ?k; (case a => k_is); (case l => k_is); (case c => k_is); (case k => k_is)))
    (case D_best_count_of => (refine' HL.df_of KX G ?a ?l ?c ?k; (case a => k_is); (case l => k_is); (case c => k_is); (case k => k_is)))
    (case D_least_hide => (refine' HL.df_of KX G ?a ?l ?c ?k; (case a => k_is); (case l => k_is); (case c => k_is); (case k => k_is)))
    (case D_plan_count => (refine' HL.df_of KX G ?a ?l ?c ?k; (case a => k_is); (case l => k_is); (case c => k_is); (case k => k_is)))
    (case D_best_value => (refine' HL.df_of KX G ?a ?l ?c ?k; (case a => k_is); (case l => k_is); (case c => k_is); (case k => k_is)))
    (case D_best_plan => (refine' HL.df_of KX G ?a ?l ?c ?k; (case a => k_is); (case l => k_is); (case c => k_is); (case k => k_is)))
    (case D_waste => (refine' HL.df_of KX G ?a ?l ?c ?k; (case a => k_is); (case l => k_is); (case c => k_is); (case k => k_is)))
    (case D_best_plan_count => (refine' HL.df_of KX G ?a ?l ?c ?k; (case a => k_is); (case l => k_is); (case c => k_is); (case k => k_is)))
    (case D_value_table => (refine' HL.df_of KX G ?a ?l ?c ?k; (case a => k_is); (case l => k_is); (case c => k_is); (case k => k_is)))
    (case D_least_thickness => (refine' HL.df_of KX G ?a ?l ?c ?k; (case a => k_is); (case l => k_is); (case c => k_is); (case k => k_is)))
    (case D_value_with_machine => (refine' HL.df_of KX G ?a ?l ?c ?k; (case a => k_is); (case l => k_is); (case c => k_is); (case k => k_is)))
    (case D_value_with_product => (refine' HL.df_of KX G ?a ?l ?c ?k; (case a => k_is); (case l => k_is); (case c => k_is); (case k => k_is)))
    (case D_layers_of_product => (refine' HL.df_of KX G ?a ?l ?c ?k; (case a => k_is); (case l => k_is); (case c => k_is); (case k => k_is)))
    (case D_value_of_two => (refine' HL.df_of KX G ?a ?l ?c ?k; (case a => k_is); (case l => k_is); (case c => k_is); (case k => k_is)))
    (case D_asked => (refine' HL.df_of KX G ?a ?l ?c ?k; (case a => k_is); (case l => k_is); (case c => k_is); (case k => k_is)))
    (case D_asked_further => (refine' HL.df_of KX G ?a ?l ?c ?k; (case a => k_is); (case l => k_is); (case c => k_is); (case k => k_is)))
    (case D_answered => (refine' HL.df_of KX G ?a ?l ?c ?k; (case a => k_is); (case l => k_is); (case c => k_is); (case k => k_is)))
  case S =>
    intro K H xs a hO hwi hask hx
    cases hx with
    | cons h1 h2 =>
      cases h2
      cases h1 with
      | lst hs ha =>
        have e := L2.ints_dw a.1 _ ha
        subst e
        have q : ((Codec.inLen 0 720 a.1 && a.1.all (Codec.inInt 0 4294967295)) && true) = true := hwi
        rw [Bool.and_eq_true, Bool.and_eq_true] at q
        obtain ⟨cs, e1, e2, e3⟩ := HL.law a.1 hask
        have hl : a.1.length ≤ 720 := (Codec.inNat_iff.mp q.1.1).2
        refine ⟨_, cs, rfl, by rw [← e1]; exact hs, by rw [← e1]; exact hl, e2, fun H' p hp => ?_⟩
        rw [← e3] at hp
        exact .lst (L2.SqL.of hp) (L2.dw_ints _)
#print axioms PySem.Challenge.cw_hidelayers_s01_answers_holds

end
