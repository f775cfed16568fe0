import PyProof.Rows.All
import Wide.All
import OpenK.AllK
import Wide.FinOn
import HandS.ForMost
import HandS.Walk
import HandS.TupAny
import HandS.TupMul
import HandS.IsInst
import HandS.Gcd
import HandS.Flow
import HandS.TupLe
import HandS.Conv
import HandS.Rev
import HandS.Zip
import HandS.Deep
import KE.LtData
import HandS.SetFor
import HandS.IterVal
import HandS.SortInts
import KE.KTupSum
import KE.KMathGC
import HandS.Style
import HandS.Iter
import KE.GoesEnum
import PySem.Challenge.RW_farcall_k89_stamps_that_say_nothing_new
set_option Elab.async false
set_option linter.all false
set_option maxRecDepth 100000
set_option maxHeartbeats 4000000
/-! Fc, part A: data, their standing in the heap, the state a body has, readings of functions on data. -/
namespace Fc
open PySem PySem.Spec PyProof.Rows L2

/-! ### data -/
inductive D where
  | non | bl (b : Bool) | int (i : Int) | str (s : Str) | tup (l : List D) | lst (l : List D) | fn (x : Str) | drw

def D.isL : D → Bool
  | .lst _ => true
  | _ => false
/-- what the drawing list holds -/
structure Dw where
  sc : List Int
  ix : Int
  big : Int
  seed : Int
structure Dw.Ok (w : Dw) : Prop where
  len : w.sc.length ≤ 63
  ix0 : 0 ≤ w.ix
  big : 0 ≤ w.big
  s0 : 0 ≤ w.seed
  s1 : w.seed < 2147483647

abbrev M := StateT Dw Option
abbrev Env := List (Option D)
/-- no value -/
def fail {α : Type} : M α := fun _ => none
def liftO {α : Type} (o : Option α) : M α := fun w => o.map fun a => (a, w)

section
variable {α β : Type}
theorem bind_some {m : M α} {k : α → M β} {w w' : Dw} {b : β} (h : (m >>= k) w = some (b, w')) : ∃ a w1, m w = some (a, w1) ∧ k a w1 = some (b, w') := by
  have h' : (m w).bind (fun p => k p.1 p.2) = some (b, w') := h
  cases hm : m w with
  | none => rw [hm] at h'; cases h'
  | some p =>
    rw [hm] at h'
    exact ⟨p.1, p.2, rfl, h'⟩
theorem pure_some {a b : α} {w w' : Dw} (h : (pure a : M α) w = some (b, w')) : a = b ∧ w = w' := by
  have h' : some (a, w) = some (b, w') := h
  cases h'
  exact ⟨rfl, rfl⟩
theorem liftO_some {o : Option α} {b : α} {w w' : Dw} (h : liftO o w = some (b, w')) : o = some b ∧ w = w' := by
  cases o with
  | none => cases h
  | some a =>
    have h' : some (a, w) = some (b, w') := h
    cases h'
    exact ⟨rfl, rfl⟩
end

/-! ### how data stand in a heap -/
structure Par where
  K : PySem.W.Frag
  mg : Str → Option Value
  dr : Addr
  O : List Nat
  B : Hp
  G0 : Hp

mutual
inductive Rep (p : Par) (G : Hp) : V → D → Prop
  | non : Rep p G .non .non
  | bl (b : Bool) : Rep p G (.bl b) (.bl b)
  | int (i : Int) : Rep p G (.int i) (.int i)
  | str (x : Str) : Rep p G (.str x) (.str x)
  | tup {a : Addr} {vs : List V} {ds : List D} : SqT p.K G a vs → RepAll p G vs ds → Rep p G (.ref a) (.tup ds)
  | lst {a : Addr} {vs : List V} {ds : List D} : G a = some (.lst vs) → RepAll p G vs ds → Rep p G (.ref a) (.lst ds)
  | fn {x : Str} {f : Addr} : p.mg x = some (.ref f) → Rep p G (.ref f) (.fn x)
  | drw : Rep p G (.ref p.dr) .drw
inductive RepAll (p : Par) (G : Hp) : List V → List D → Prop
  | nil : RepAll p G [] []
  | cons {v : V} {vs : List V} {d : D} {ds : List D} : Rep p G v d → RepAll p G vs ds → RepAll p G (v :: vs) (d :: ds)
end

def Sub (G H : Hp) : Prop := ∀ a o, G a = some o → H a = some o
theorem Sub.refl (G : Hp) : Sub G G := fun _ _ h => h
theorem Sub.trans {G H J : Hp} (a : Sub G H) (b : Sub H J) : Sub G J := fun x o h => b x o (a x o h)
theorem sub_t {K : PySem.W.Frag} {H H' : Hp} {a : Addr} {xs : List V} (e : Sub H H') (h : SqT K H a xs) : SqT K H' a xs := by
  rcases h with (h | ⟨o, h⟩) | h
  · exact .inl (.inl (e _ _ h))
  · exact .inl (.inr ⟨o, e _ _ h⟩)
  · exact .inr h
theorem sub_l {K : PySem.W.Frag} {H H' : Hp} {a : Addr} {xs : List V} (e : Sub H H') (h : SqL K H a xs) : SqL K H' a xs := by
  rcases h with (h | ⟨o, h⟩) | h
  · exact .inl (.inl (e _ _ h))
  · exact .inl (.inr ⟨o, e _ _ h⟩)
  · exact .inr h

mutual
theorem Rep.mono {p : Par} {G G' : Hp} (e : Sub G G') : ∀ {v : V} {d : D}, Rep p G v d → Rep p G' v d
  | _, _, .non => .non
  | _, _, .bl b => .bl b
  | _, _, .int i => .int i
  | _, _, .str x => .str x
  | _, _, .tup h r => .tup (sub_t e h) (RepAll.mono e r)
  | _, _, .lst h r => .lst (e _ _ h) (RepAll.mono e r)
  | _, _, .fn h => .fn h
  | _, _, .drw => .drw
theorem RepAll.mono {p : Par} {G G' : Hp} (e : Sub G G') : ∀ {vs : List V} {ds : List D}, RepAll p G vs ds → RepAll p G' vs ds
  | _, _, .nil => .nil
  | _, _, .cons h r => .cons (Rep.mono e h) (RepAll.mono e r)
end
theorem RepAll.length {p : Par} {G : Hp} : ∀ {vs : List V} {ds : List D}, RepAll p G vs ds → vs.length = ds.length
  | _, _, .nil => rfl
  | _, _, .cons _ r => congrArg (· + 1) (RepAll.length r)
theorem RepAll.get {p : Par} {G : Hp} : ∀ {vs : List V} {ds : List D} {i : Nat} {d : D}, RepAll p G vs ds → ds[i]? = some d → ∃ v, vs[i]? = some v ∧ Rep p G v d
  | _, _, _, _, .nil, h => by simp at h
  | _, _, 0, _, .cons r _, h => by simp at h; subst h; exact ⟨_, rfl, r⟩
  | _, _, i + 1, _, .cons _ t, h => by
    obtain ⟨v, h1, h2⟩ := RepAll.get (i := i) t (by simpa using h)
    exact ⟨v, by simpa using h1, h2⟩
theorem RepAll.getV {p : Par} {G : Hp} : ∀ {vs : List V} {ds : List D} {i : Nat} {v : V}, RepAll p G vs ds → vs[i]? = some v → ∃ d, ds[i]? = some d ∧ Rep p G v d
  | _, _, _, _, .nil, h => by simp at h
  | _, _, 0, _, .cons r _, h => by simp at h; subst h; exact ⟨_, rfl, r⟩
  | _, _, i + 1, _, .cons _ t, h => by
    obtain ⟨v, h1, h2⟩ := RepAll.getV (i := i) t (by simpa using h)
    exact ⟨v, by simpa using h1, h2⟩
theorem RepAll.append {p : Par} {G : Hp} : ∀ {vs us : List V} {ds es : List D}, RepAll p G vs ds → RepAll p G us es → RepAll p G (vs ++ us) (ds ++ es)
  | _, _, _, _, .nil, s => s
  | _, _, _, _, .cons r t, s => .cons r (RepAll.append t s)
theorem RepAll.take {p : Par} {G : Hp} : ∀ {vs : List V} {ds : List D} (n : Nat), RepAll p G vs ds → RepAll p G (vs.take n) (ds.take n)
  | _, _, 0, _ => .nil
  | _, _, _ + 1, .nil => .nil
  | _, _, n + 1, .cons r t => .cons r (RepAll.take n t)
theorem RepAll.drop {p : Par} {G : Hp} : ∀ {vs : List V} {ds : List D} (n : Nat), RepAll p G vs ds → RepAll p G (vs.drop n) (ds.drop n)
  | _, _, 0, r => r
  | _, _, _ + 1, .nil => .nil
  | _, _, n + 1, .cons _ t => RepAll.drop n t
theorem RepAll.set {p : Par} {G : Hp} {v : V} {d : D} (r : Rep p G v d) : ∀ {vs : List V} {ds : List D} (i : Nat), RepAll p G vs ds → RepAll p G (vs.set i v) (ds.set i d)
  | _, _, _, .nil => .nil
  | _, _, 0, .cons _ t => .cons r t
  | _, _, i + 1, .cons q t => .cons q (RepAll.set r i t)
theorem RepAll.rep {p : Par} {G : Hp} {vs : List V} {ds : List D} (h : RepAll p G vs ds) : ∀ k : Nat, RepAll p G (List.replicate k vs).flatten (List.replicate k ds).flatten
  | 0 => .nil
  | k + 1 => by
    rw [List.replicate_succ, List.flatten_cons, List.replicate_succ, List.flatten_cons]
    exact h.append (RepAll.rep h k)

/-- may be read now: data that stands still, or a list that is still changed -/
inductive RepX (p : Par) (G H : Hp) : V → D → Prop
  | rep {v : V} {d : D} : Rep p G v d → RepX p G H v d
  | own {a : Addr} {vs : List V} {ds : List D} : a ≠ p.dr → p.B a = none → H a = some (.lst vs) → RepAll p G vs ds → RepX p G H (.ref a) (.lst ds)
def RepA (p : Par) (al : Bool) (G H : Hp) (v : V) (d : D) : Prop := if al = true then RepX p G H v d else Rep p G v d
theorem RepA.x {p : Par} {al : Bool} {G H : Hp} {v : V} {d : D} (h : RepA p al G H v d) : RepX p G H v d := by
  cases al with
  | true => exact h
  | false => exact .rep h

/-- the heap behind an expression: nothing lost but the drawing list's state -/
structure Grow (p : Par) (G H G' H' : Hp) : Prop where
  g : Sub G G'
  h : ∀ a o, a ≠ p.dr → H a = some o → H' a = some o
  hd : ∀ o, H p.dr = some o → ∃ o', H' p.dr = some o'
  k : ∀ a o, H a = some o → G a = none → G' a = none
theorem Grow.refl (p : Par) (G H : Hp) : Grow p G H G H := ⟨Sub.refl G, fun _ _ _ h => h, fun o h => ⟨o, h⟩, fun _ _ _ h => h⟩
theorem Grow.trans {p : Par} {G H G1 H1 G2 H2 : Hp} (a : Grow p G H G1 H1) (b : Grow p G1 H1 G2 H2) : Grow p G H G2 H2 :=
  ⟨a.g.trans b.g, fun x o n h => b.h x o n (a.h x o n h), fun o h => let ⟨o1, h1⟩ := a.hd o h; b.hd o1 h1, fun x o h n => by
    by_cases q : x = p.dr
    · rw [q] at h n ⊢
      obtain ⟨o1, h1⟩ := a.hd o h
      exact b.k _ o1 h1 (a.k _ o h n)
    · exact b.k x o (a.h x o q h) (a.k x o h n)⟩
theorem RepX.grow {p : Par} {G H G' H' : Hp} {v : V} {d : D} (r : RepX p G H v d) (g : Grow p G H G' H') : RepX p G' H' v d := by
  cases r with
  | rep r => exact .rep (r.mono g.g)
  | own n b h r => exact .own n b (g.h _ _ n h) (r.mono g.g)
theorem RepA.grow {p : Par} {al : Bool} {G H G' H' : Hp} {v : V} {d : D} (r : RepA p al G H v d) (g : Grow p G H G' H') : RepA p al G' H' v d := by
  cases al with
  | true => exact RepX.grow r g
  | false => exact Rep.mono g.g r
/-- the heap behind an operation: only new objects -/
structure Gr (G H G' H' : Hp) : Prop where
  g : Sub G G'
  h : Sub H H'
  s : Sub G' H'
  k : ∀ a o, H a = some o → G a = none → G' a = none
theorem Gr.refl {G H : Hp} (s : Sub G H) : Gr G H G H := ⟨Sub.refl G, Sub.refl H, s, fun _ _ _ h => h⟩
theorem Gr.trans {G H G1 H1 G2 H2 : Hp} (a : Gr G H G1 H1) (b : Gr G1 H1 G2 H2) : Gr G H G2 H2 :=
  ⟨a.g.trans b.g, a.h.trans b.h, b.s, fun x o h n => b.k x o (a.h x o h) (a.k x o h n)⟩
theorem sub_none {G H : Hp} (s : Sub G H) {a : Addr} (h : H a = none) : G a = none := by
  cases q : G a with
  | none => rfl
  | some o => rw [s a o q] at h; cases h
theorem Gr.new {G H : Hp} (s : Sub G H) {a : Addr} {o : HO} (h : H a = none) : Gr G H (upd G a o) (upd H a o) where
  g := fun b u e => by rw [upd_ne (ne_of_none e (sub_none s h))]; exact e
  h := fun b u e => by rw [upd_ne (ne_of_none e h)]; exact e
  s := fun b u e => by
    by_cases hb : b = a
    · subst hb; rw [upd_same] at e ⊢; exact e
    · rw [upd_ne hb] at e ⊢; exact s b u e
  k := fun b u e n => by rw [upd_ne (ne_of_none e h)]; exact n
/-- new, and not told to stand still -/
theorem Gr.laid {G H : Hp} (s : Sub G H) {a : Addr} {o : HO} (h : H a = none) : Gr G H G (upd H a o) where
  g := Sub.refl G
  h := fun b u e => by rw [upd_ne (ne_of_none e h)]; exact e
  s := fun b u e => by rw [upd_ne (ne_of_none (s b u e) h)]; exact s b u e
  k := fun b u e n => n
theorem Gr.grow {p : Par} {G H G' H' : Hp} (g : Gr G H G' H') : Grow p G H G' H' := ⟨g.g, fun a o _ h => g.h a o h, fun o h => ⟨o, g.h _ o h⟩, g.k⟩

mutual
theorem Rep.to {p q : Par} (hK : p.K = q.K) (hm : p.mg = q.mg) (hd : p.dr = q.dr) {G : Hp} : ∀ {v : V} {d : D}, Rep p G v d → Rep q G v d
  | _, _, .non => .non
  | _, _, .bl b => .bl b
  | _, _, .int i => .int i
  | _, _, .str x => .str x
  | _, _, .tup h r => .tup (hK ▸ h) (RepAll.to hK hm hd r)
  | _, _, .lst h r => .lst h (RepAll.to hK hm hd r)
  | _, _, .fn h => .fn (hm ▸ h)
  | _, _, .drw => by
    rw [hd]
    exact .drw
theorem RepAll.to {p q : Par} (hK : p.K = q.K) (hm : p.mg = q.mg) (hd : p.dr = q.dr) {G : Hp} : ∀ {vs : List V} {ds : List D}, RepAll p G vs ds → RepAll q G vs ds
  | _, _, .nil => .nil
  | _, _, .cons h r => .cons (Rep.to hK hm hd h) (RepAll.to hK hm hd r)
end

/-! ### the state of a body -/
structure DrawAt (p : Par) (w : Dw) (G H : Hp) : Prop where
  ok : w.Ok
  at_ : ∃ sc, H p.dr = some (.lst [.ref sc, .int w.ix, .int w.big, .int w.seed]) ∧ SqL p.K G sc (w.sc.map V.int)
  out : G p.dr = none
structure SR (p : Par) (δ : Env) (σ : L2.St) (G H : Hp) (w : Dw) : Prop where
  sub : Sub G H
  g0 : Sub p.G0 G
  bas : ∀ a o, a ≠ p.dr → p.B a = some o → H a = some o
  bd : ∃ o, p.B p.dr = some o
  len : δ.length = σ.length
  vals : ∀ (i : Nat) (d : D), δ[i]? = some (some d) → ¬ (i ∈ p.O ∧ d.isL = true) → ∃ v, σ[i]? = some (some v) ∧ Rep p G v d
  owns : ∀ (i : Nat) (d : D), δ[i]? = some (some d) → i ∈ p.O → d.isL = true → ∃ a vs ds, d = .lst ds ∧ σ[i]? = some (some (.ref a)) ∧ H a = some (.lst vs) ∧ G a = none ∧ p.B a = none ∧ RepAll p G vs ds
  inj : ∀ (i j : Nat) (d e : D) (a : Addr), i ∈ p.O → j ∈ p.O → d.isL = true → e.isL = true → δ[i]? = some (some d) → δ[j]? = some (some e) → σ[i]? = some (some (.ref a)) → σ[j]? = some (some (.ref a)) → i = j
  draw : DrawAt p w G H
  kp : ∀ a o, p.B a = some o → p.G0 a = none → G a = none
section
variable {p : Par} {δ : Env} {σ : L2.St} {G H G' H' : Hp} {w : Dw}
theorem SR.drS (S : SR p δ σ G H w) : ∃ o, H p.dr = some o := let ⟨_, h, _⟩ := S.draw.at_; ⟨_, h⟩
/-- behind whatever leaves what stood there as it was but the drawing list -/
theorem SR.step {w' : Dw} (S : SR p δ σ G H w) (g : Grow p G H G' H') (s : Sub G' H') (d : DrawAt p w' G' H') : SR p δ σ G' H' w' where
  sub := s
  g0 := S.g0.trans g.g
  bas := fun a o n h => g.h a o n (S.bas a o n h)
  bd := S.bd
  len := S.len
  vals := fun i d h n => let ⟨v, e, r⟩ := S.vals i d h n; ⟨v, e, r.mono g.g⟩
  owns := fun i d h n l => by
    obtain ⟨a, vs, ds, e, e1, e2, e3, e4, r⟩ := S.owns i d h n l
    refine ⟨a, vs, ds, e, e1, g.h _ _ (fun q => ?_) e2, g.k _ _ e2 e3, e4, r.mono g.g⟩
    obtain ⟨o, z⟩ := S.bd
    rw [← q, e4] at z
    cases z
  inj := S.inj
  draw := d
  kp := fun a o e n => by
    by_cases q : a = p.dr
    · rw [q]; exact d.out
    · exact g.k a o (S.bas a o q e) (S.kp a o e n)
theorem SR.gr (S : SR p δ σ G H w) (g : Gr G H G' H') : SR p δ σ G' H' w := by
  refine S.step g.grow g.s ?_
  obtain ⟨ok, ⟨sc, h1, h2⟩, h3⟩ := S.draw
  exact ⟨ok, ⟨sc, g.h _ _ h1, sub_l g.g h2⟩, g.k _ _ h1 h3⟩
theorem SR.grow {S : SR p δ σ G H w} (g : Gr G H G' H') : Grow p G H G' H' := g.grow
theorem own_ne (S : SR p δ σ G H w) {a : Addr} (h : p.B a = none) : a ≠ p.dr := fun e => by
  obtain ⟨o, q⟩ := S.bd
  rw [← e, h] at q
  cases q
/-- a name's data may be read -/
theorem SR.read (S : SR p δ σ G H w) {i : Nat} {d : D} (h : δ[i]? = some (some d)) : ∃ v, σ[i]? = some (some v) ∧ RepX p G H v d := by
  by_cases hi : i ∈ p.O ∧ d.isL = true
  · obtain ⟨a, vs, ds, e, e1, e2, e3, e4, r⟩ := S.owns i d h hi.1 hi.2
    subst e
    exact ⟨_, e1, .own (own_ne S e4) e4 e2 r⟩
  · obtain ⟨v, e, r⟩ := S.vals i d h hi
    exact ⟨v, e, .rep r⟩
end

/-! ### readings of functions on data -/
/-- what is wanted of an expression's value -/
def Kont (p : Par) (δ : Env) (σ : L2.St) (G H : Hp) (w' : Dw) (al : Bool) (d : D) (Q : VK) : Prop :=
  ∀ v G' H', Grow p G H G' H' → SR p δ σ G' H' w' → RepA p al G' H' v d → Q v H'
def tOf (K : PySem.W.Frag) (mg : Str → Option Value) (O : List Nat) (al : Bool) (f : Env → M D) : TE := fun σ H Q =>
  ∃ (dr : Addr) (B G0 : Hp) (δ : Env) (G : Hp) (w : Dw) (d : D) (w' : Dw), SR ⟨K, mg, dr, O, B, G0⟩ δ σ G H w ∧ f δ w = some (d, w') ∧ Kont ⟨K, mg, dr, O, B, G0⟩ δ σ G H w' al d Q
def ttOf (K : PySem.W.Frag) (mg : Str → Option Value) (O : List Nat) (f : Env → M Bool) : TT := fun σ H Q =>
  ∃ (dr : Addr) (B G0 : Hp) (δ : Env) (G : Hp) (w : Dw) (d : Bool) (w' : Dw), SR ⟨K, mg, dr, O, B, G0⟩ δ σ G H w ∧ f δ w = some (d, w') ∧
    ∀ G' H', Grow ⟨K, mg, dr, O, B, G0⟩ G H G' H' → SR ⟨K, mg, dr, O, B, G0⟩ δ σ G' H' w' → Q d H'
inductive RepAs (p : Par) (al : Bool) (G H : Hp) : List V → List D → Prop
  | nil : RepAs p al G H [] []
  | cons {v : V} {vs : List V} {d : D} {ds : List D} : RepA p al G H v d → RepAs p al G H vs ds → RepAs p al G H (v :: vs) (d :: ds)
theorem RepAs.grow {p : Par} {al : Bool} {G H G' H' : Hp} (g : Grow p G H G' H') : ∀ {vs : List V} {ds : List D}, RepAs p al G H vs ds → RepAs p al G' H' vs ds
  | _, _, .nil => .nil
  | _, _, .cons r t => .cons (r.grow g) (t.grow g)
theorem RepAs.all {p : Par} {G H : Hp} : ∀ {vs : List V} {ds : List D}, RepAs p false G H vs ds → RepAll p G vs ds
  | _, _, .nil => .nil
  | _, _, .cons r t => .cons r t.all
theorem RepAs.length {p : Par} {al : Bool} {G H : Hp} : ∀ {vs : List V} {ds : List D}, RepAs p al G H vs ds → vs.length = ds.length
  | _, _, .nil => rfl
  | _, _, .cons _ r => congrArg (· + 1) r.length
def taOf (K : PySem.W.Frag) (mg : Str → Option Value) (O : List Nat) (al : Bool) (f : Env → M (List D)) : TA := fun σ H Q =>
  ∃ (dr : Addr) (B G0 : Hp) (δ : Env) (G : Hp) (w : Dw) (d : List D) (w' : Dw), SR ⟨K, mg, dr, O, B, G0⟩ δ σ G H w ∧ f δ w = some (d, w') ∧
    ∀ vs G' H', Grow ⟨K, mg, dr, O, B, G0⟩ G H G' H' → SR ⟨K, mg, dr, O, B, G0⟩ δ σ G' H' w' → RepAs ⟨K, mg, dr, O, B, G0⟩ al G' H' vs d → Q vs H'
/-- a list that is new: nobody holds it -/
def tfOf (K : PySem.W.Frag) (mg : Str → Option Value) (O : List Nat) (f : Env → M D) : TE := fun σ H Q =>
  ∃ (dr : Addr) (B G0 : Hp) (δ : Env) (G : Hp) (w : Dw) (d : D) (w' : Dw), SR ⟨K, mg, dr, O, B, G0⟩ δ σ G H w ∧ f δ w = some (d, w') ∧
    ∀ a vs ds G' H', d = .lst ds → Grow ⟨K, mg, dr, O, B, G0⟩ G H G' H' → SR ⟨K, mg, dr, O, B, G0⟩ δ σ G' H' w' → H a = none → H' a = some (.lst vs) → G' a = none → a ≠ dr → RepAll ⟨K, mg, dr, O, B, G0⟩ G' vs ds → Q (.ref a) H'

/-- an expression computes f -/
def SE (X : Cx) (O : List Nat) (al : Bool) (e : Expr) (f : Env → M D) : Prop := PE X e (tOf X.K X.mg O al f)
def SF (X : Cx) (O : List Nat) (e : Expr) (f : Env → M D) : Prop := PE X e (tfOf X.K X.mg O f)
def ST (X : Cx) (O : List Nat) (e : Expr) (f : Env → M Bool) : Prop := PT X e (ttOf X.K X.mg O f)
def SW (X : Cx) (O : List Nat) (e : Expr) (f : Env → M Bool) : Prop := PW X e (ttOf X.K X.mg O f)
def SA (X : Cx) (O : List Nat) (al : Bool) (es : List Expr) (f : Env → M (List D)) : Prop := PA X es (taOf X.K X.mg O al f)

theorem PE.weak {X : Cx} {e : Expr} {t t' : TE} (h : PE X e t) (k : ∀ σ H Q, t' σ H Q → t σ H Q) : PE X e t' := ⟨fun pins s σ H Q I q => h.run pins s σ H Q I (k σ H Q q)⟩
theorem PT.weak {X : Cx} {e : Expr} {t t' : TT} (h : PT X e t) (k : ∀ σ H Q, t' σ H Q → t σ H Q) : PT X e t' := ⟨fun pins s σ H Q I q => h.run pins s σ H Q I (k σ H Q q)⟩
theorem PW.weak {X : Cx} {e : Expr} {t t' : TT} (h : PW X e t) (k : ∀ σ H Q, t' σ H Q → t σ H Q) : PW X e t' := ⟨fun wh pins s σ H Q I q => h.run wh pins s σ H Q I (k σ H Q q)⟩
theorem PA.weak {X : Cx} {e : List Expr} {t t' : TA} (h : PA X e t) (k : ∀ σ H Q, t' σ H Q → t σ H Q) : PA X e t' := ⟨fun pos pins s σ H Q I q => h.run pos pins s σ H Q I (k σ H Q q)⟩
theorem PS.weak {X : Cx} {e : Stmt} {t t' : TS} (h : PS X e t) (k : ∀ D σ H, t' D σ H → t D σ H) : PS X e t' := ⟨fun pins s σ H D I q => h.run pins s σ H D I (k D σ H q)⟩
theorem PSs.weak {X : Cx} {e : List Stmt} {t t' : TS} (h : PSs X e t) (k : ∀ D σ H, t' D σ H → t D σ H) : PSs X e t' := ⟨fun pins s σ H D I q => h.run pins s σ H D I (k D σ H q)⟩
theorem PI.weak {X : Cx} {tg e : Expr} {t t' : TI} (h : PI X tg e t) (k : ∀ σ H Q, t' σ H Q → t σ H Q) : PI X tg e t' := ⟨fun pins s σ H Q I q => h.run pins s σ H Q I (k σ H Q q)⟩

section
variable {X : Cx} {O : List Nat} {al bl : Bool} {a b c e : Expr} {f g : Env → M D} {pos : Pos}
theorem SE.weak (h : SE X O false e f) : SE X O true e f := PE.weak h fun σ H Q ⟨dr, B, G0, δ, G, w, d, w', S, hf, k⟩ => ⟨dr, B, G0, δ, G, w, d, w', S, hf, fun v G' H' gr S' r => k v G' H' gr S' (.rep r)⟩
theorem SE.any (h : SE X O al e f) : SE X O true e f := by
  cases al with
  | true => exact h
  | false => exact h.weak
/-! names, constants -/
def eVar (i : Nat) : Env → M D := fun δ => match δ[i]? with
  | some (some d) => pure d
  | _ => fail
theorem eVar_some {i : Nat} {δ : Env} {w w' : Dw} {d : D} (h : eVar i δ w = some (d, w')) : δ[i]? = some (some d) ∧ w = w' := by
  have e : eVar i δ = (match δ[i]? with | some (some d) => pure d | _ => fail) := rfl
  rw [e] at h
  cases q : δ[i]? with
  | none => rw [q] at h; cases h
  | some o =>
    cases o with
    | none => rw [q] at h; cases h
    | some d' =>
      rw [q] at h
      obtain ⟨e1, e2⟩ := pure_some h
      subst e1
      exact ⟨rfl, e2⟩
theorem se_var (i : Nat) {x : Str} (hO : i ∉ O := by decide) (hN : X.N[i]? = some x := by rfl) (hv : Vis X.env.scope x := by first | exact Or.inl rfl | exact Or.inr (Or.inl rfl) | exact Or.inr (Or.inr rfl)) (hd : (x == ("__debug__" : Str)) = false := by decide)
    (hcd : (x == ("__classdict__" : Str)) = false := by decide) : SE X O false (.Name x pos) (eVar i) :=
  PE.weak (pe_var hN hv hd hcd) fun σ H Q ⟨dr, B, G0, δ, G, w, d, w', S, hf, k⟩ => by
    obtain ⟨h1, h2⟩ := eVar_some hf
    subst h2
    obtain ⟨v, e, r⟩ := S.vals i d h1 fun z => hO z.1
    exact ⟨v, e, k v G H (.refl _ G H) S r⟩
/-- a name of a list that is still changed -/
theorem se_own (i : Nat) {x : Str} (hN : X.N[i]? = some x := by rfl) (hv : Vis X.env.scope x := by first | exact Or.inl rfl | exact Or.inr (Or.inl rfl) | exact Or.inr (Or.inr rfl)) (hd : (x == ("__debug__" : Str)) = false := by decide)
    (hcd : (x == ("__classdict__" : Str)) = false := by decide) : SE X O true (.Name x pos) (eVar i) :=
  PE.weak (pe_var hN hv hd hcd) fun σ H Q ⟨dr, B, G0, δ, G, w, d, w', S, hf, k⟩ => by
    obtain ⟨h1, h2⟩ := eVar_some hf
    subst h2
    obtain ⟨v, e, r⟩ := S.read h1
    exact ⟨v, e, k v G H (.refl _ G H) S r⟩
def eC (d : D) : Env → M D := fun _ => pure d
theorem se_c {v : V} {d : D} (h : PE X e (tC v)) (hr : ∀ p G, Rep p G v d) : SE X O false e (eC d) :=
  PE.weak h fun σ H Q ⟨dr, B, G0, δ, G, w, d', w', S, hf, k⟩ => by
    obtain ⟨h1, h2⟩ := pure_some hf
    subst h1; subst h2
    exact k v G H (.refl _ G H) S (hr _ _)
theorem se_int {i j} : SE X O false (.Constant (.int i) j pos) (eC (.int i)) := se_c pe_int fun _ _ => .int i
theorem se_bl {i j} : SE X O false (.Constant (.bool i) j pos) (eC (.bl i)) := se_c pe_bl fun _ _ => .bl i
theorem se_non {j} : SE X O false (.Constant .none j pos) (eC .non) := se_c pe_non fun _ _ => .non
theorem se_str {x j} : SE X O false (.Constant (.str x) j pos) (eC (.str x)) := se_c pe_str fun _ _ => .str x

/-! two operands -/
def eBin (op : D → D → Option D) (f g : Env → M D) : Env → M D := fun δ => do
  let x ← f δ
  let y ← g δ
  liftO (op x y)
theorem eBin_some {op : D → D → Option D} {δ : Env} {w w' : Dw} {d : D} (h : eBin op f g δ w = some (d, w')) : ∃ x w1 y, f δ w = some (x, w1) ∧ g δ w1 = some (y, w') ∧ op x y = some d := by
  obtain ⟨x, w1, h1, h⟩ := bind_some h
  obtain ⟨y, w2, h2, h⟩ := bind_some h
  obtain ⟨h3, e⟩ := liftO_some h
  subst e
  exact ⟨x, w1, y, h1, h2, h3⟩
/-- what an operation on values must do -/
def OpS (K : PySem.W.Frag) (mg : Str → Option Value) (r : R2) (op : D → D → Option D) : Prop :=
  ∀ (p : Par) (G H : Hp) (v u : V) (x y d : D) (Q : VK), p.K = K → p.mg = mg → Sub G H → RepX p G H v x → RepX p G H u y → op x y = some d → (∀ z G' H', Gr G H G' H' → Rep p G' z d → Q z H') → r v u H Q
theorem tOf_bin {K : PySem.W.Frag} {mg : Str → Option Value} {r : R2} {op : D → D → Option D} (hs : OpS K mg r op) {σ : L2.St} {H : Hp} {Q : VK} (h : tOf K mg O false (eBin op f g) σ H Q) : tOp r (tOf K mg O al f) (tOf K mg O bl g) σ H Q := by
  obtain ⟨dr, B, G0, δ, G, w, d, w', S, hf, k⟩ := h
  obtain ⟨x, w1, y, h1, h2, h3⟩ := eBin_some hf
  refine ⟨dr, B, G0, δ, G, w, x, w1, S, h1, fun v G1 H1 g1 S1 r1 => ?_⟩
  refine ⟨dr, B, G0, δ, G1, w1, y, w', S1, h2, fun u G2 H2 g2 S2 r2 => ?_⟩
  exact hs _ G2 H2 v u x y d Q rfl rfl S2.sub (r1.grow g2).x r2.x h3 fun z G' H' gr rz => k z G' H' ((g1.trans g2).trans gr.grow) (S2.gr gr) rz
theorem se_bin {o : Operator} {r : R2} {op : D → D → Option D} (ho : OpR X (binaryOp o) r) (hs : OpS X.K X.mg r op) (ha : SE X O al a f) (hb : SE X O bl b g) : SE X O false (.BinOp a o b pos) (eBin op f g) :=
  PE.weak (pe_op ho ha hb) fun _ _ _ h => tOf_bin hs h
theorem se_cmp {o : CmpOp} {r : R2} {op : D → D → Option D} (ho : OpR X (compareOp o) r) (hs : OpS X.K X.mg r op) (ha : SE X O al a f) (hb : SE X O bl b g) (hm : behindInMarks o b = false := by first | exact nomark _ | rfl) : SE X O false (.Compare a [o] [b] pos) (eBin op f g) :=
  PE.weak (pe_cmpR ho ha hb hm) fun _ _ _ h => tOf_bin hs h
/-- as a test -/
def asB : D → Option Bool
  | .bl b => some b
  | _ => none
def tB (f : Env → M D) : Env → M Bool := fun δ => do
  let x ← f δ
  liftO (asB x)
theorem tB_some {δ : Env} {w w' : Dw} {b : Bool} (h : tB f δ w = some (b, w')) : f δ w = some (.bl b, w') := by
  obtain ⟨x, w1, h1, h⟩ := bind_some h
  obtain ⟨h3, e⟩ := liftO_some h
  subst e
  cases x <;> cases h3
  exact h1
theorem ttOf_B {K : PySem.W.Frag} {mg : Str → Option Value} {σ : L2.St} {H : Hp} {Q : Bool → Hp → Prop} (h : ttOf K mg O (tB f) σ H Q) : tTest (tOf K mg O false f) σ H Q := by
  obtain ⟨dr, B, G0, δ, G, w, d, w', S, hf, k⟩ := h
  refine ⟨dr, B, G0, δ, G, w, .bl d, w', S, tB_some hf, fun v G1 H1 g1 S1 r1 => ?_⟩
  cases (show Rep _ G1 v (.bl d) from r1)
  exact ⟨d, rfl, k G1 H1 g1 S1⟩
theorem st_cmp {o : CmpOp} {r : R2} {op : D → D → Option D} (ho : OpR X (compareOp o) r) (hs : OpS X.K X.mg r op) (ha : SE X O al a f) (hb : SE X O bl b g) (hm : behindInMarks o b = false := by first | exact nomark _ | rfl) : ST X O (.Compare a [o] [b] pos) (tB (eBin op f g)) :=
  PT.weak (pt_cmpR ho ha hb hm) fun σ H Q h => by
    obtain ⟨dr, B, G0, δ, G, w, d, w', S, hf, k⟩ := ttOf_B h
    exact tOf_bin (O := O) (al := al) (bl := bl) hs ⟨dr, B, G0, δ, G, w, d, w', S, hf, k⟩
/-- any expression that gives True or False -/
theorem st_val (he : SE X O false e f) (hp : ∀ whole, isTrue e X.env whole = (do let v ← whole; standAt e.pos; holding [v] (truthy v)) := by intro _; rfl) : ST X O e (tB f) :=
  PT.weak (pt_val he hp) fun σ H Q h => by
    obtain ⟨dr, B, G0, δ, G, w, d, w', S, hf, k⟩ := h
    refine ⟨dr, B, G0, δ, G, w, .bl d, w', S, tB_some hf, fun v G1 H1 g1 S1 r1 => ?_⟩
    cases (show Rep _ G1 v (.bl d) from r1)
    exact ⟨d, rfl, k G1 H1 g1 S1⟩
end
end Fc

/-! Fc, part B: operations on data. -/
namespace Fc
open PySem PySem.Spec PyProof.Rows L2

/-! ### tuple * int, any number of times -/
theorem tuple_mulSame (l : Addr) (items : Array Value) (n : Nat) (dd : Option Addr) (sl : Array (Option Value)) (x : Int) (u : Tok) (c0 : (decide (x < -(2 ^ 63)) || decide (x ≥ 2 ^ 63)) = false) (c1 : (items.isEmpty || x == 1) = true) :
    Meets (Builtin.«tuple.__mul__» ⟨[.ref l, .int x u], []⟩) (fun _ R s => s.heap.get? l = some { cls := .type "tuple", dict := dd, data := .seq items n, slots := sl } ∧ R (.ok (.ret (Value.ref l))) s) :=
  .of_wp fun prog w A R s h => by
    obtain ⟨hp, g, d, tk, os⟩ := s
    obtain ⟨hl, h⟩ := h
    have f1 := AutoSeq1.idx_int
    wp_walk using wpAny_loadPart' hl
    repeat (first
      | (refine wpAny_ite_false (decide_eq_false (by rw [c0]; exact Bool.false_ne_true)) ?_; wp_walk using wpAny_loadPart' hl)
      | (refine wpAny_ite_true (decide_eq_true c1) ?_; wp_walk using wpAny_loadPart' hl))
    exact ⟨_, rfl, h⟩
theorem tuple_mulNone (l : Addr) (items : Array Value) (n : Nat) (dd : Option Addr) (sl : Array (Option Value)) (x : Int) (u : Tok) (c0 : (decide (x < -(2 ^ 63)) || decide (x ≥ 2 ^ 63)) = false) (c1 : (items.isEmpty || x == 1) = false) (c2 : (decide (x ≤ 0) || items.isEmpty) = true) :
    Meets (Builtin.«tuple.__mul__» ⟨[.ref l, .int x u], []⟩) (fun _ R s => s.heap.get? l = some { cls := .type "tuple", dict := dd, data := .seq items n, slots := sl } ∧
      R (.ok (.ret (Value.ref s.heap.objs.size))) { s with heap := s.heap.push { cls := Value.type "tuple", data := Data.seq #[] }, toks := s.toks }) :=
  .of_wp fun prog w A R s h => by
    obtain ⟨hp, g, d, tk, os⟩ := s
    obtain ⟨hl, h⟩ := h
    have f1 := AutoSeq1.idx_int
    wp_walk using wpAny_loadPart' hl
    repeat (first
      | (refine wpAny_ite_false (decide_eq_false (by rw [c0]; exact Bool.false_ne_true)) ?_; wp_walk using wpAny_loadPart' hl)
      | (refine wpAny_ite_false (decide_eq_false (by rw [c1]; exact Bool.false_ne_true)) ?_; wp_walk using wpAny_loadPart' hl)
      | (refine wpAny_ite_true (decide_eq_true c2) ?_; wp_walk using wpAny_loadPart' hl))
    exact ⟨_, rfl, h⟩
def rRepA (K : PySem.W.Frag) : R2 := fun x y H Q => ∃ l k xs, x = .ref l ∧ y = .int k ∧ SqT K H l xs ∧ -1000 ≤ k ∧ k ≤ 1000 ∧ xs.length ≤ 1000 ∧ (xs = [] ∨ k = 1 → Q (.ref l) H) ∧
  (¬ (xs = [] ∨ k = 1) → ∀ p, H p = none → Q (.ref p) (upd H p (.tup (List.replicate k.toNat xs).flatten)))
section
variable {X : Cx}
theorem op_repA : OpR X (binaryOp .Mult) (rRepA X.K) := by
  intro pins s σ H x y v u Q I rx ry h
  obtain ⟨l, k, xs, rfl, rfl, hT, h1, h2, hz, q1, q2⟩ := h
  by_cases hk : xs ≠ [] ∧ 2 ≤ k
  · exact op_repT pins s σ H _ _ v u Q I rx ry ⟨l, k, xs, rfl, rfl, hT, hk.1, hk.2, h2, hz, q2 (fun e => by
      rcases e with e | e
      · exact hk.1 e
      · omega)⟩
  cases rx
  obtain ⟨t, rfl⟩ := ry
  obtain ⟨its, r, ⟨⟨cls, dd, data, sl⟩, ho, hc, n, hd⟩, hs⟩ := I.tuple hT
  simp only at hc hd
  subst hc hd
  have hle : its.length = xs.length := r.length.symm
  have c0 : (decide (k < -(2 ^ 63)) || decide (k ≥ 2 ^ 63)) = false := by
    rw [decide_eq_false (by omega), decide_eq_false (by omega)] <;> rfl
  by_cases hs1 : xs = [] ∨ k = 1
  · have c1 : (its.toArray.isEmpty || k == 1) = true := by
      rcases hs1 with e | e
      · subst e
        cases r
        rfl
      · subst e
        simp
    refine wpAny_binaryOp_repeat_ref (T := "tuple") (U := "int") (by decide) ⟨_, ho, rfl⟩ (fun s' => typeIs_int s' k t) noFill_tuple_mul F.fills_int_mul F.slot_int_rmul repeat_tuple F.slot_int_index.lookup
      (call_meets F.slot_int_rmul (typeIs_int s k t) F.entry_int_rmul (F.args_int_rmul_2 _ _) (int_rmul_tuple k t l its.toArray n dd sl)
        ⟨ho, rfl, ⟨_, ho, rfl⟩, call_meets F.slot_tuple_mul ⟨_, ho, rfl⟩ F.entry_tuple_mul (F.args_tuple_mul_2 _ _) (tuple_mulSame l its.toArray n dd sl k t c0 c1) ⟨ho, ?_⟩⟩)
    exact ⟨.ref l, H, I, rfl, q1 hs1⟩
  · have hn : its ≠ [] := fun e => hs1 (Or.inl (by
      rw [e] at hle
      exact List.eq_nil_of_length_eq_zero hle.symm))
    have hi : its.toArray.isEmpty = false := by
      cases its with
      | nil => exact absurd rfl hn
      | cons a b => rfl
    have hk0 : k ≤ 0 := by
      by_cases h0 : k ≤ 0
      · exact h0
      · refine absurd ⟨fun e => hs1 (.inl e), ?_⟩ hk
        have : k ≠ 1 := fun e => hs1 (.inr e)
        omega
    have c1 : (its.toArray.isEmpty || k == 1) = false := by
      rw [hi, Bool.false_or]
      exact beq_eq_false_iff_ne.mpr (by omega)
    have c2 : (decide (k ≤ 0) || its.toArray.isEmpty) = true := by
      rw [decide_eq_true hk0]
      rfl
    refine wpAny_binaryOp_repeat_ref (T := "tuple") (U := "int") (by decide) ⟨_, ho, rfl⟩ (fun s' => typeIs_int s' k t) noFill_tuple_mul F.fills_int_mul F.slot_int_rmul repeat_tuple F.slot_int_index.lookup
      (call_meets F.slot_int_rmul (typeIs_int s k t) F.entry_int_rmul (F.args_int_rmul_2 _ _) (int_rmul_tuple k t l its.toArray n dd sl)
        ⟨ho, rfl, ⟨_, ho, rfl⟩, call_meets F.slot_tuple_mul ⟨_, ho, rfl⟩ F.entry_tuple_mul (F.args_tuple_mul_2 _ _) (tuple_mulNone l its.toArray n dd sl k t c0 c1 c2) ⟨ho, ?_⟩⟩)
    have e0 : (List.replicate k.toNat xs).flatten = [] := by
      have : k.toNat = 0 := by omega
      rw [this]
      rfl
    have q := q2 hs1
    rw [e0] at q
    refine ⟨.ref s.heap.objs.size, _, I.laid (t' := s.toks) (o := .tup []) (fun b ob q => Heap.get?_push_of_some _ q) (Nat.le_refl _) ?_, rfl, q _ (I.hok.fresh (Nat.le_refl _))⟩
    exact ⟨Nat.zero_le _, [], .nil, IsTup.new _ _⟩
end

/-! ### what stands as which data -/
section
variable {p : Par} {G H : Hp} {v : V}
theorem RepX.int {i : Int} (r : RepX p G H v (.int i)) : v = .int i := by
  cases r with
  | rep r => cases r; rfl
theorem RepX.bl {i : Bool} (r : RepX p G H v (.bl i)) : v = .bl i := by
  cases r with
  | rep r => cases r; rfl
theorem RepX.non (r : RepX p G H v .non) : v = .non := by
  cases r with
  | rep r => cases r; rfl
theorem RepX.str {i : Str} (r : RepX p G H v (.str i)) : v = .str i := by
  cases r with
  | rep r => cases r; rfl
theorem RepX.tup {ds : List D} (r : RepX p G H v (.tup ds)) (s : Sub G H) : ∃ a vs, v = .ref a ∧ SqT p.K H a vs ∧ RepAll p G vs ds ∧ Rep p G v (.tup ds) := by
  cases r with
  | rep r => cases id r with
    | tup h1 h2 => exact ⟨_, _, rfl, sub_t s h1, h2, r⟩
theorem RepX.lst {ds : List D} (r : RepX p G H v (.lst ds)) (s : Sub G H) : ∃ a vs, v = .ref a ∧ H a = some (.lst vs) ∧ RepAll p G vs ds := by
  cases r with
  | rep r => cases r with
    | lst h1 h2 => exact ⟨_, _, rfl, s _ _ h1, h2⟩
  | own n b h r => exact ⟨_, _, rfl, h, r⟩
theorem RepX.tupR {ds : List D} (r : RepX p G H v (.tup ds)) : Rep p G v (.tup ds) := by
  cases r with
  | rep r => exact r
theorem RepAll.ints : ∀ {vs : List V} {ns : List Int}, RepAll p G vs (ns.map D.int) → vs = ns.map V.int
  | _, [], .nil => rfl
  | _, _ :: _, .cons r t => by
    cases r
    rw [RepAll.ints t]
    rfl
theorem RepAll.bls : ∀ {vs : List V} {ns : List Bool}, RepAll p G vs (ns.map D.bl) → vs = ns.map V.bl
  | _, [], .nil => rfl
  | _, _ :: _, .cons r t => by
    cases r
    rw [RepAll.bls t]
    rfl
/-- a new tuple -/
theorem Rep.newT {vs : List V} {ds : List D} (s : Sub G H) {a : Addr} (h : H a = none) (r : RepAll p G vs ds) : Gr G H (upd G a (.tup vs)) (upd H a (.tup vs)) ∧ Rep p (upd G a (.tup vs)) (.ref a) (.tup ds) :=
  ⟨Gr.new s h, .tup (SqT.of upd_same) (r.mono (Gr.new s h).g)⟩
theorem Rep.newL {vs : List V} {ds : List D} (s : Sub G H) {a : Addr} (h : H a = none) (r : RepAll p G vs ds) : Gr G H (upd G a (.lst vs)) (upd H a (.lst vs)) ∧ Rep p (upd G a (.lst vs)) (.ref a) (.lst ds) :=
  ⟨Gr.new s h, .lst upd_same (r.mono (Gr.new s h).g)⟩
end

/-! ### arithmetic -/
section
variable {X : Cx}
theorem OpS.or {K : PySem.W.Frag} {mg : Str → Option Value} {r r' : R2} {f : D → D → Option D} (h : ∀ (p : Par) (G H : Hp) (v u : V) (x y d : D) (Q : VK), p.K = K → p.mg = mg → Sub G H → RepX p G H v x → RepX p G H u y → f x y = some d →
    (∀ z G' H', Gr G H G' H' → Rep p G' z d → Q z H') → r v u H Q ∨ r' v u H Q) : OpS K mg (fun x y H Q => r x y H Q ∨ r' x y H Q) f := h
def LIM : Nat := 100000
theorem lim_ok {n : Nat} (h : n ≤ LIM) : n ≤ sizeLine := Nat.le_trans h (by decide)
theorem lim_lt {n : Nat} (h : n < LIM) : n < sizeLine := Nat.lt_of_lt_of_le h (by decide)
def dAdd : D → D → Option D
  | .int i, .int j => some (.int (i + j))
  | .str i, .str j => if i.length + j.length ≤ LIM then some (.str (i ++ j)) else none
  | .tup xs, .tup ys => if xs.length + ys.length ≤ LIM then some (.tup (xs ++ ys)) else none
  | _, _ => none
def rAddA (K : PySem.W.Frag) : R2 := fun x y H Q => (rI0 fun i j => .int (i + j)) x y H Q ∨ (∃ i j, x = .str i ∧ y = .str j ∧ i.length + j.length ≤ sizeLine ∧ Q (.str (i ++ j)) H) ∨ rCatA K x y H Q
theorem op_addA : OpR X (binaryOp .Add) (rAddA X.K) := op_add.or (op_add_str.or op_catA)
theorem os_add {K : PySem.W.Frag} {mg : Str → Option Value} : OpS K mg (rAddA K) dAdd := by
  intro p G H v u x y d Q hK hmg s rx ry hd k
  subst hK
  cases x <;> cases y <;> try (cases hd; done)
  · cases hd
    rw [rx.int, ry.int]
    exact .inl ⟨_, _, rfl, rfl, k _ G H (.refl s) (.int _)⟩
  · rename_i i j
    simp only [dAdd] at hd
    split at hd
    · rename_i hl
      cases hd
      rw [rx.str, ry.str]
      exact .inr (.inl ⟨_, _, rfl, rfl, lim_ok hl, k _ G H (.refl s) (.str _)⟩)
    · cases hd
  · rename_i xs ys
    simp only [dAdd] at hd
    split at hd
    · rename_i hl
      cases hd
      obtain ⟨a, vs, rfl, ha, ra, Ra⟩ := rx.tup s
      obtain ⟨b, us, rfl, hb, rb, Rb⟩ := ry.tup s
      refine .inr (.inr ⟨a, b, vs, us, rfl, rfl, ha, hb, by rw [ra.length, rb.length]; exact lim_ok hl, fun e => ?_, fun _ e => ?_, fun _ _ q hq => ?_⟩)
      · subst e
        cases ra
        exact k _ G H (.refl s) Rb
      · subst e
        cases rb
        rw [List.append_nil] at k
        exact k _ G H (.refl s) Ra
      · obtain ⟨g, r⟩ := Rep.newT s hq (ra.append rb)
        exact k _ _ _ g r
    · cases hd
def dSub : D → D → Option D
  | .int i, .int j => some (.int (i - j))
  | _, _ => none
theorem os_I0 {K : PySem.W.Frag} {mg : Str → Option Value} {g : Int → Int → V} {h : Int → Int → D} {op : D → D → Option D} (ho : ∀ x y d, op x y = some d → ∃ i j, x = .int i ∧ y = .int j ∧ d = h i j)
    (hr : ∀ (p : Par) G i j, Rep p G (g i j) (h i j)) : OpS K mg (rI0 g) op := by
  intro p G H v u x y d Q hK hmg s rx ry hd k
  obtain ⟨i, j, rfl, rfl, rfl⟩ := ho x y d hd
  rw [rx.int, ry.int]
  exact ⟨_, _, rfl, rfl, k _ G H (.refl s) (hr p G i j)⟩
theorem os_I {K : PySem.W.Frag} {mg : Str → Option Value} {C : Int → Int → Prop} {g : Int → Int → V} {h : Int → Int → D} {op : D → D → Option D} (ho : ∀ x y d, op x y = some d → ∃ i j, x = .int i ∧ y = .int j ∧ C i j ∧ d = h i j)
    (hr : ∀ (p : Par) G i j, Rep p G (g i j) (h i j)) : OpS K mg (rI C g) op := by
  intro p G H v u x y d Q hK hmg s rx ry hd k
  obtain ⟨i, j, rfl, rfl, hc, rfl⟩ := ho x y d hd
  rw [rx.int, ry.int]
  exact ⟨_, _, rfl, rfl, hc, k _ G H (.refl s) (hr p G i j)⟩
theorem os_sub {K : PySem.W.Frag} {mg : Str → Option Value} : OpS K mg (rI0 fun i j => .int (i - j)) dSub :=
  os_I0 (h := fun i j => .int (i - j)) (fun x y d e => by cases x <;> cases y <;> cases e; exact ⟨_, _, rfl, rfl, rfl⟩) fun _ _ _ _ => .int _
/-- * of numbers (one below 2^64), of a tuple and a number -/
def small64 (i j : Int) : Bool := (decide (-(2 ^ 64) < i) && decide (i < 2 ^ 64)) || (decide (-(2 ^ 64) < j) && decide (j < 2 ^ 64))
def dMul : D → D → Option D
  | .int i, .int j => if small64 i j = true then some (.int (i * j)) else none
  | .tup xs, .int k => if -1000 ≤ k ∧ k ≤ 1000 ∧ xs.length ≤ 1000 then some (.tup (List.replicate k.toNat xs).flatten) else none
  | _, _ => none
theorem op_mulA : OpR X (binaryOp .Mult) (fun x y H Q => (rI CMul fun i j => .int (i * j)) x y H Q ∨ rRepA X.K x y H Q) := op_mul.or op_repA
theorem os_mul {K : PySem.W.Frag} {mg : Str → Option Value} : OpS K mg (fun x y H Q => (rI CMul fun i j => .int (i * j)) x y H Q ∨ rRepA K x y H Q) dMul := by
  intro p G H v u x y d Q hK hmg s rx ry hd k
  subst hK
  cases x <;> cases y <;> try (cases hd; done)
  · rename_i i j
    simp only [dMul] at hd
    split at hd
    · rename_i hc
      cases hd
      rw [rx.int, ry.int]
      refine .inl ⟨_, _, rfl, rfl, ?_, k _ G H (.refl s) (.int _)⟩
      unfold small64 at hc
      simpa [CMul] using hc
    · cases hd
  · rename_i xs n
    simp only [dMul] at hd
    split at hd
    · rename_i hc
      cases hd
      obtain ⟨a, vs, rfl, ha, ra, Ra⟩ := rx.tup s
      rw [ry.int]
      have el := ra.length
      refine .inr ⟨a, n, vs, rfl, rfl, ha, hc.1, hc.2.1, by omega, fun e => ?_, fun _ q hq => ?_⟩
      · refine k _ G H (.refl s) ?_
        rcases e with e | e
        · subst e
          cases ra
          have : (List.replicate n.toNat ([] : List D)).flatten = [] := by simp
          rw [this]
          exact Ra
        · subst e
          have : (List.replicate (1 : Int).toNat xs).flatten = xs := by simp
          rw [this]
          exact Ra
      · obtain ⟨g, r⟩ := Rep.newT s hq (ra.rep n.toNat)
        exact k _ _ _ g r
    · cases hd
/-- // and %, the divisor not 0 and below 2^30 -/
def dDiv : D → D → Option D
  | .int i, .int j => if j ≠ 0 ∧ j.natAbs < 1073741824 then some (.int (i.fdiv j)) else none
  | _, _ => none
def dMod : D → D → Option D
  | .int i, .int j => if j ≠ 0 then some (.int (i.fmod j)) else none
  | _, _ => none
theorem os_div {K : PySem.W.Frag} {mg : Str → Option Value} : OpS K mg (rI CDivN fun i j => .int (i.fdiv j)) dDiv :=
  os_I (h := fun i j => .int (i.fdiv j)) (fun x y d e => by
    cases x <;> cases y <;> try (cases e; done)
    simp only [dDiv] at e
    split at e
    · rename_i hc
      cases e
      exact ⟨_, _, rfl, rfl, hc, rfl⟩
    · cases e) fun _ _ _ _ => .int _
theorem os_mod {K : PySem.W.Frag} {mg : Str → Option Value} : OpS K mg (rI (fun _ j => j ≠ 0) fun i j => .int (i.fmod j)) dMod :=
  os_I (h := fun i j => .int (i.fmod j)) (fun x y d e => by
    cases x <;> cases y <;> try (cases e; done)
    simp only [dMod] at e
    split at e
    · rename_i hc
      cases e
      exact ⟨_, _, rfl, rfl, hc, rfl⟩
    · cases e) fun _ _ _ _ => .int _
/-! ### order of numbers -/
def dLt : D → D → Option D
  | .int i, .int j => some (.bl (decide (i < j)))
  | _, _ => none
def dLe : D → D → Option D
  | .int i, .int j => some (.bl (decide (i ≤ j)))
  | _, _ => none
def dGt : D → D → Option D
  | .int i, .int j => some (.bl (decide (j < i)))
  | _, _ => none
def dGe : D → D → Option D
  | .int i, .int j => some (.bl (decide (j ≤ i)))
  | _, _ => none
theorem os_lt {K : PySem.W.Frag} {mg : Str → Option Value} : OpS K mg (rI0 fun i j => .bl (decide (i < j))) dLt :=
  os_I0 (h := fun i j => .bl (decide (i < j))) (fun x y d e => by cases x <;> cases y <;> cases e; exact ⟨_, _, rfl, rfl, rfl⟩) fun _ _ _ _ => .bl _
theorem os_le {K : PySem.W.Frag} {mg : Str → Option Value} : OpS K mg (rI0 fun i j => .bl (decide (i ≤ j))) dLe :=
  os_I0 (h := fun i j => .bl (decide (i ≤ j))) (fun x y d e => by cases x <;> cases y <;> cases e; exact ⟨_, _, rfl, rfl, rfl⟩) fun _ _ _ _ => .bl _
theorem os_gt {K : PySem.W.Frag} {mg : Str → Option Value} : OpS K mg (rI0 fun i j => .bl (decide (j < i))) dGt :=
  os_I0 (h := fun i j => .bl (decide (j < i))) (fun x y d e => by cases x <;> cases y <;> cases e; exact ⟨_, _, rfl, rfl, rfl⟩) fun _ _ _ _ => .bl _
theorem os_ge {K : PySem.W.Frag} {mg : Str → Option Value} : OpS K mg (rI0 fun i j => .bl (decide (j ≤ i))) dGe :=
  os_I0 (h := fun i j => .bl (decide (j ≤ i))) (fun x y d e => by cases x <;> cases y <;> cases e; exact ⟨_, _, rfl, rfl, rfl⟩) fun _ _ _ _ => .bl _

/-! ### equality -/
mutual
def D.pd : D → PyData
  | .non => .none
  | .bl b => .bool b
  | .int i => .int i
  | .str x => .str x
  | .tup l => .tuple (D.pds l)
  | .lst l => .list (D.pds l)
  | .fn _ => .none
  | .drw => .none
def D.pds : List D → List PyData
  | [] => []
  | x :: l => D.pd x :: D.pds l
end
mutual
def D.dat : D → Bool
  | .tup l => D.dats l
  | .lst l => D.dats l
  | .fn _ => false
  | .drw => false
  | _ => true
def D.dats : List D → Bool
  | [] => true
  | x :: l => D.dat x && D.dats l
end
mutual
theorem Rep.dp {p : Par} {G : Hp} : ∀ {v : V} {d : D}, Rep p G v d → d.dat = true → Dp p.K G v d.pd
  | _, _, .non, _ => .non
  | _, _, .bl b, _ => .bl b
  | _, _, .int i, _ => .int i
  | _, _, .str x, _ => .str x
  | _, _, .tup h r, e => .tup h (RepAll.dp r e)
  | _, _, .lst h r, e => .lst (.inl (.inl h)) (RepAll.dp r e)
  | _, _, .fn _, e => nomatch e
  | _, _, .drw, e => nomatch e
theorem RepAll.dp {p : Par} {G : Hp} : ∀ {vs : List V} {ds : List D}, RepAll p G vs ds → D.dats ds = true → DpAll p.K G vs (D.pds ds)
  | _, _, .nil, _ => .nil
  | _, _, .cons h r, e => by
    have e' := Bool.and_eq_true_iff.mp e
    exact .cons (Rep.dp h e'.1) (RepAll.dp r e'.2)
end
mutual
theorem Dp.sub {K : PySem.W.Frag} {G H : Hp} (s : Sub G H) : ∀ {v : V} {d : PyData}, Dp K G v d → Dp K H v d
  | _, _, .non => .non
  | _, _, .bl b => .bl b
  | _, _, .int i => .int i
  | _, _, .str x => .str x
  | _, _, .lst h r => .lst (sub_l s h) (DpAll.sub s r)
  | _, _, .tup h r => .tup (sub_t s h) (DpAll.sub s r)
theorem DpAll.sub {K : PySem.W.Frag} {G H : Hp} (s : Sub G H) : ∀ {vs : List V} {ds : List PyData}, DpAll K G vs ds → DpAll K H vs ds
  | _, _, .nil => .nil
  | _, _, .cons h r => .cons (Dp.sub s h) (DpAll.sub s r)
end
theorem RepX.dp {p : Par} {G H : Hp} {v : V} {d : D} (r : RepX p G H v d) (s : Sub G H) (e : d.dat = true) : Dp p.K H v d.pd := by
  cases r with
  | rep r => exact Dp.sub s (r.dp e)
  | own n b h r => exact .lst (.inl (.inl h)) (DpAll.sub s (r.dp e))
def D.sh (d : D) : Bool := d.dat && SeqAt.shaped d.pd
def D.eqv (x y : D) : Bool := PyData.eqv x.pd y.pd
def dEq (x y : D) : Option D := if x.sh = true ∧ y.sh = true then some (.bl (x.eqv y)) else none
def dNe (x y : D) : Option D := if x.sh = true ∧ y.sh = true then some (.bl (!x.eqv y)) else none
theorem os_eq {K : PySem.W.Frag} {mg : Str → Option Value} : OpS K mg (rEqD K) dEq := by
  intro p G H v u x y d Q hK hmg s rx ry hd k
  subst hK
  simp only [dEq] at hd
  split at hd
  · rename_i hc
    cases hd
    obtain ⟨h1, h2⟩ := Bool.and_eq_true_iff.mp hc.1
    obtain ⟨h3, h4⟩ := Bool.and_eq_true_iff.mp hc.2
    exact ⟨x.pd, y.pd, rx.dp s h1, ry.dp s h3, h2, h4, k _ G H (.refl s) (.bl _)⟩
  · cases hd
theorem os_ne {K : PySem.W.Frag} {mg : Str → Option Value} : OpS K mg (rNeD K) dNe := by
  intro p G H v u x y d Q hK hmg s rx ry hd k
  subst hK
  simp only [dNe] at hd
  split at hd
  · rename_i hc
    cases hd
    obtain ⟨h1, h2⟩ := Bool.and_eq_true_iff.mp hc.1
    obtain ⟨h3, h4⟩ := Bool.and_eq_true_iff.mp hc.2
    exact ⟨x.pd, y.pd, rx.dp s h1, ry.dp s h3, h2, h4, k _ G H (.refl s) (.bl _)⟩
  · cases hd
/-! ### is -/
def D.isNon : D → Bool
  | .non => true
  | _ => false
def dIs : D → D → Option D
  | x, .non => some (.bl x.isNon)
  | .bl a, .bl b => some (.bl (decide (a = b)))
  | _, _ => none
def dIsNot : D → D → Option D
  | x, .non => some (.bl (!x.isNon))
  | .bl a, .bl b => some (.bl (!decide (a = b)))
  | _, _ => none
theorem RepX.isNon {p : Par} {G H : Hp} {v : V} {d : D} (r : RepX p G H v d) : decide (v = .non) = d.isNon := by
  cases r with
  | rep r => cases r <;> rfl
  | own => rfl
theorem op_isA : OpR X (compareOp .Is) (fun x y H Q => (y = .non ∧ Q (.bl (decide (x = .non))) H) ∨ (∃ a b, x = .bl a ∧ y = .bl b ∧ Q (.bl (decide (a = b))) H)) := op_isN.or op_is_bl
theorem op_isNotA : OpR X (compareOp .IsNot) (fun x y H Q => (y = .non ∧ Q (.bl (!decide (x = .non))) H) ∨ (∃ a b, x = .bl a ∧ y = .bl b ∧ Q (.bl (!decide (a = b))) H)) := op_notN.or op_isnot_bl
theorem os_is {K : PySem.W.Frag} {mg : Str → Option Value} : OpS K mg (fun x y H Q => (y = .non ∧ Q (.bl (decide (x = .non))) H) ∨ (∃ a b, x = .bl a ∧ y = .bl b ∧ Q (.bl (decide (a = b))) H)) dIs := by
  intro p G H v u x y d Q hK hmg s rx ry hd k
  by_cases hy : y = .non
  · subst hy
    have e : some (D.bl x.isNon) = some d := by rw [← hd]; cases x <;> rfl
    cases e
    refine .inl ⟨ry.non, ?_⟩
    rw [rx.isNon]
    exact k _ G H (.refl s) (.bl _)
  · cases y <;> try (cases x <;> cases hd; done)
    · exact absurd rfl hy
    · rename_i b
      cases x <;> try (cases hd; done)
      rename_i a
      cases hd
      exact .inr ⟨a, b, rx.bl, ry.bl, k _ G H (.refl s) (.bl _)⟩
theorem os_isNot {K : PySem.W.Frag} {mg : Str → Option Value} : OpS K mg (fun x y H Q => (y = .non ∧ Q (.bl (!decide (x = .non))) H) ∨ (∃ a b, x = .bl a ∧ y = .bl b ∧ Q (.bl (!decide (a = b))) H)) dIsNot := by
  intro p G H v u x y d Q hK hmg s rx ry hd k
  by_cases hy : y = .non
  · subst hy
    have e : some (D.bl (!x.isNon)) = some d := by rw [← hd]; cases x <;> rfl
    cases e
    refine .inl ⟨ry.non, ?_⟩
    rw [rx.isNon]
    exact k _ G H (.refl s) (.bl _)
  · cases y <;> try (cases x <;> cases hd; done)
    · exact absurd rfl hy
    · rename_i b
      cases x <;> try (cases hd; done)
      rename_i a
      cases hd
      exact .inr ⟨a, b, rx.bl, ry.bl, k _ G H (.refl s) (.bl _)⟩
end
end Fc

/-! Fc, part C: expressions. -/
namespace Fc
open PySem PySem.Spec PyProof.Rows L2

section
variable {X : Cx} {O : List Nat} {al bl cl : Bool} {a b c e : Expr} {es : List Expr} {f g h : Env → M D} {fs : Env → M (List D)} {pos : Pos}

/-! ### the operators by name -/
theorem se_add (ha : SE X O al a f) (hb : SE X O bl b g) : SE X O false (.BinOp a .Add b pos) (eBin dAdd f g) := se_bin op_addA os_add ha hb
theorem se_sub (ha : SE X O al a f) (hb : SE X O bl b g) : SE X O false (.BinOp a .Sub b pos) (eBin dSub f g) := se_bin op_sub os_sub ha hb
theorem se_mul (ha : SE X O al a f) (hb : SE X O bl b g) : SE X O false (.BinOp a .Mult b pos) (eBin dMul f g) := se_bin op_mulA os_mul ha hb
theorem se_div (ha : SE X O al a f) (hb : SE X O bl b g) : SE X O false (.BinOp a .FloorDiv b pos) (eBin dDiv f g) := se_bin op_fdivN os_div ha hb
theorem se_mod (ha : SE X O al a f) (hb : SE X O bl b g) : SE X O false (.BinOp a .Mod b pos) (eBin dMod f g) := se_bin op_modN os_mod ha hb
theorem se_lt (ha : SE X O al a f) (hb : SE X O bl b g) : SE X O false (.Compare a [.Lt] [b] pos) (eBin dLt f g) := se_cmp op_lt os_lt ha hb
theorem se_le (ha : SE X O al a f) (hb : SE X O bl b g) : SE X O false (.Compare a [.LtE] [b] pos) (eBin dLe f g) := se_cmp op_le os_le ha hb
theorem se_gt (ha : SE X O al a f) (hb : SE X O bl b g) : SE X O false (.Compare a [.Gt] [b] pos) (eBin dGt f g) := se_cmp op_gt os_gt ha hb
theorem se_ge (ha : SE X O al a f) (hb : SE X O bl b g) : SE X O false (.Compare a [.GtE] [b] pos) (eBin dGe f g) := se_cmp op_ge os_ge ha hb
theorem se_eq (hu : X.A.units + 64 < cLine) (ha : SE X O al a f) (hb : SE X O bl b g) : SE X O false (.Compare a [.Eq] [b] pos) (eBin dEq f g) := se_cmp (op_eqD hu) os_eq ha hb
theorem se_ne (hu : X.A.units + 64 < cLine) (ha : SE X O al a f) (hb : SE X O bl b g) : SE X O false (.Compare a [.NotEq] [b] pos) (eBin dNe f g) := se_cmp (op_neD hu) os_ne ha hb
theorem se_is (ha : SE X O al a f) (hb : SE X O bl b g) : SE X O false (.Compare a [.Is] [b] pos) (eBin dIs f g) := se_cmp op_isA os_is ha hb
theorem se_isNot (ha : SE X O al a f) (hb : SE X O bl b g) : SE X O false (.Compare a [.IsNot] [b] pos) (eBin dIsNot f g) := se_cmp op_isNotA os_isNot ha hb
theorem st_lt (ha : SE X O al a f) (hb : SE X O bl b g) : ST X O (.Compare a [.Lt] [b] pos) (tB (eBin dLt f g)) := st_cmp op_lt os_lt ha hb
theorem st_le (ha : SE X O al a f) (hb : SE X O bl b g) : ST X O (.Compare a [.LtE] [b] pos) (tB (eBin dLe f g)) := st_cmp op_le os_le ha hb
theorem st_gt (ha : SE X O al a f) (hb : SE X O bl b g) : ST X O (.Compare a [.Gt] [b] pos) (tB (eBin dGt f g)) := st_cmp op_gt os_gt ha hb
theorem st_ge (ha : SE X O al a f) (hb : SE X O bl b g) : ST X O (.Compare a [.GtE] [b] pos) (tB (eBin dGe f g)) := st_cmp op_ge os_ge ha hb
theorem st_eq (hu : X.A.units + 64 < cLine) (ha : SE X O al a f) (hb : SE X O bl b g) : ST X O (.Compare a [.Eq] [b] pos) (tB (eBin dEq f g)) := st_cmp (op_eqD hu) os_eq ha hb
theorem st_ne (hu : X.A.units + 64 < cLine) (ha : SE X O al a f) (hb : SE X O bl b g) : ST X O (.Compare a [.NotEq] [b] pos) (tB (eBin dNe f g)) := st_cmp (op_neD hu) os_ne ha hb
theorem st_is (ha : SE X O al a f) (hb : SE X O bl b g) : ST X O (.Compare a [.Is] [b] pos) (tB (eBin dIs f g)) := st_cmp op_isA os_is ha hb
theorem st_isNot (ha : SE X O al a f) (hb : SE X O bl b g) : ST X O (.Compare a [.IsNot] [b] pos) (tB (eBin dIsNot f g)) := st_cmp op_isNotA os_isNot ha hb

/-! ### two comparisons in a row -/
def asBl : D → Option Bool := asB
def eChain (o1 o2 : D → D → Option D) (f g h : Env → M D) : Env → M D := fun δ => do
  let x ← f δ
  let y ← g δ
  let z ← liftO (o1 x y)
  let k ← liftO (asB z)
  if k = true then do
    let u ← h δ
    liftO (o2 y u)
  else pure (.bl false)
theorem tOf_chain {r1 r2 : R2} {o1 o2 : D → D → Option D} {K : PySem.W.Frag} {mg : Str → Option Value} (h1 : OpS K mg r1 o1) (h2 : OpS K mg r2 o2) {σ : L2.St} {H : Hp} {Q : VK} (q : tOf K mg O false (eChain o1 o2 f g h) σ H Q) :
    tChain r1 r2 (tOf K mg O al f) (tOf K mg O bl g) (tOf K mg O cl h) σ H Q := by
  obtain ⟨dr, B, G0, δ, G, w, d, w', S, hf, k⟩ := q
  obtain ⟨x, w1, e1, hf⟩ := bind_some hf
  obtain ⟨y, w2, e2, hf⟩ := bind_some hf
  obtain ⟨z, w3, e3, hf⟩ := bind_some hf
  obtain ⟨b, w4, e4, hf5⟩ := bind_some hf
  obtain ⟨h3, rfl⟩ := liftO_some e3
  obtain ⟨h4, rfl⟩ := liftO_some e4
  refine ⟨dr, B, G0, δ, G, w, x, w1, S, e1, fun v G1 H1 g1 S1 r1 => ⟨dr, B, G0, δ, G1, w1, y, _, S1, e2, fun u G2 H2 g2 S2 r2 => ?_⟩⟩
  refine h1 _ G2 H2 v u x y z _ rfl rfl S2.sub (r1.grow g2).x r2.x h3 fun zv G3 H3 gr rz => ?_
  cases z <;> try (cases h4; done)
  cases h4
  cases rz
  refine ⟨b, rfl, ?_⟩
  have S3 := S2.gr gr
  cases b with
  | false =>
    rw [if_neg Bool.false_ne_true] at hf5 ⊢
    obtain ⟨rfl, rfl⟩ := pure_some hf5
    exact k _ G3 H3 ((g1.trans g2).trans gr.grow) S3 (.bl false)
  | true =>
    rw [if_pos rfl] at hf5 ⊢
    obtain ⟨u', w5, e5, hf6⟩ := bind_some hf5
    obtain ⟨e6, rfl⟩ := liftO_some hf6
    refine ⟨dr, B, G0, δ, G3, _, u', _, S3, e5, fun u2 G4 H4 g4 S4 r4 => ?_⟩
    exact h2 _ G4 H4 u u2 y u' d Q rfl rfl S4.sub ((r2.grow gr.grow).grow g4).x r4.x e6 fun zv G5 H5 gr5 rz5 => k zv G5 H5 ((((g1.trans g2).trans gr.grow).trans g4).trans gr5.grow) (S4.gr gr5) rz5
theorem se_chain {p p' : CmpOp} {r1 r2 : R2} {o1 o2 : D → D → Option D} (c1 : OpR X (compareOp p) r1) (c2 : OpR X (compareOp p') r2) (h1 : OpS X.K X.mg r1 o1) (h2 : OpS X.K X.mg r2 o2) (ha : SE X O al a f) (hb : SE X O bl b g) (hc : SE X O cl c h)
    (hm : lastMarks [p, p'] [b, c] = false := by with_unfolding_all rfl) : SE X O false (.Compare a [p, p'] [b, c] pos) (eChain o1 o2 f g h) :=
  PE.weak (pe_chain c1 c2 ha hb hc hm) fun _ _ _ q => tOf_chain h1 h2 q
theorem st_chain {p p' : CmpOp} {r1 r2 : R2} {o1 o2 : D → D → Option D} (c1 : OpR X (compareOp p) r1) (c2 : OpR X (compareOp p') r2) (h1 : OpS X.K X.mg r1 o1) (h2 : OpS X.K X.mg r2 o2) (ha : SE X O al a f) (hb : SE X O bl b g) (hc : SE X O cl c h)
    (hm : lastMarks [p, p'] [b, c] = false := by with_unfolding_all rfl) : ST X O (.Compare a [p, p'] [b, c] pos) (tB (eChain o1 o2 f g h)) :=
  PT.weak (pt_chain c1 c2 ha hb hc hm) fun σ H Q q => by
    obtain ⟨dr, B, G0, δ, G, w, d, w', S, hf, k⟩ := ttOf_B q
    exact tOf_chain (al := al) (bl := bl) (cl := cl) h1 h2 ⟨dr, B, G0, δ, G, w, d, w', S, hf, k⟩

/-! ### - -/
def eUn (op : D → Option D) (f : Env → M D) : Env → M D := fun δ => do
  let x ← f δ
  liftO (op x)
theorem eUn_some {op : D → Option D} {δ : Env} {w w' : Dw} {d : D} (q : eUn op f δ w = some (d, w')) : ∃ x, f δ w = some (x, w') ∧ op x = some d := by
  obtain ⟨x, w1, h1, q⟩ := bind_some q
  obtain ⟨h3, e⟩ := liftO_some q
  subst e
  exact ⟨x, h1, h3⟩
def dNeg : D → Option D
  | .int i => some (.int (-i))
  | _ => none
theorem se_neg (ha : SE X O al a f) : SE X O false (.UnaryOp .USub a pos) (eUn dNeg f) :=
  PE.weak (pe_un un_neg ha) fun σ H Q ⟨dr, B, G0, δ, G, w, d, w', S, hf, k⟩ => by
    obtain ⟨x, h1, h2⟩ := eUn_some hf
    refine ⟨dr, B, G0, δ, G, w, x, w', S, h1, fun v G1 H1 g1 S1 r1 => ?_⟩
    cases x <;> try (cases h2; done)
    cases h2
    rw [r1.x.int]
    exact ⟨_, rfl, k _ G1 H1 g1 S1 (.int _)⟩

/-! ### truth: and, or, not -/
def tAndF (s t : Env → M Bool) : Env → M Bool := fun δ => do
  let x ← s δ
  if x = true then t δ else pure false
def tOrF (s t : Env → M Bool) : Env → M Bool := fun δ => do
  let x ← s δ
  if x = true then pure true else t δ
def tNotF (s : Env → M Bool) : Env → M Bool := fun δ => do
  let x ← s δ
  pure (!x)
variable {s t : Env → M Bool} {rest : List Expr}
theorem sw_and1 (ha : ST X O a s) : SW X O (.BoolOp .And [a] pos) s := pw_and1 ha
theorem sw_or1 (ha : ST X O a s) : SW X O (.BoolOp .Or [a] pos) s := pw_or1 ha
theorem sw_and (ha : ST X O a s) (hb : SW X O (.BoolOp .And (b :: rest) pos) t) : SW X O (.BoolOp .And (a :: b :: rest) pos) (tAndF s t) :=
  PW.weak (pw_and ha hb) fun σ H Q ⟨dr, B, G0, δ, G, w, d, w', S, hf, k⟩ => by
    obtain ⟨x, w1, h1, hf⟩ := bind_some hf
    refine ⟨dr, B, G0, δ, G, w, x, w1, S, h1, fun G1 H1 g1 S1 => ?_⟩
    cases x with
    | true =>
      rw [if_pos rfl] at hf ⊢
      exact ⟨dr, B, G0, δ, G1, w1, d, w', S1, hf, fun G2 H2 g2 S2 => k G2 H2 (g1.trans g2) S2⟩
    | false =>
      rw [if_neg Bool.false_ne_true] at hf ⊢
      obtain ⟨rfl, rfl⟩ := pure_some hf
      exact k G1 H1 g1 S1
theorem sw_or (ha : ST X O a s) (hb : SW X O (.BoolOp .Or (b :: rest) pos) t) : SW X O (.BoolOp .Or (a :: b :: rest) pos) (tOrF s t) :=
  PW.weak (pw_or ha hb) fun σ H Q ⟨dr, B, G0, δ, G, w, d, w', S, hf, k⟩ => by
    obtain ⟨x, w1, h1, hf⟩ := bind_some hf
    refine ⟨dr, B, G0, δ, G, w, x, w1, S, h1, fun G1 H1 g1 S1 => ?_⟩
    cases x with
    | false =>
      rw [if_neg Bool.false_ne_true] at hf ⊢
      exact ⟨dr, B, G0, δ, G1, w1, d, w', S1, hf, fun G2 H2 g2 S2 => k G2 H2 (g1.trans g2) S2⟩
    | true =>
      rw [if_pos rfl] at hf ⊢
      obtain ⟨rfl, rfl⟩ := pure_some hf
      exact k G1 H1 g1 S1
theorem st_w (h : SW X O a s) : ST X O a s := PW.pt h
theorem st_not (ha : ST X O a s) : ST X O (.UnaryOp .Not a pos) (tNotF s) :=
  PT.weak (pt_not ha) fun σ H Q ⟨dr, B, G0, δ, G, w, d, w', S, hf, k⟩ => by
    obtain ⟨x, w1, h1, hf⟩ := bind_some hf
    obtain ⟨e, rfl⟩ := pure_some hf
    subst e
    exact ⟨dr, B, G0, δ, G, w, x, w1, S, h1, k⟩
/-- .. as values: all of them True or False -/
def eAndV (f g : Env → M D) : Env → M D := fun δ => do
  let x ← f δ
  let k ← liftO (asB x)
  if k = true then g δ else pure (.bl false)
def eOrV (f g : Env → M D) : Env → M D := fun δ => do
  let x ← f δ
  let k ← liftO (asB x)
  if k = true then pure (.bl true) else g δ
def dNot : D → Option D
  | .bl b => some (.bl (!b))
  | _ => none
theorem se_one {op} (ha : SE X O al a f) : SE X O al (.BoolOp op [a] pos) f := pe_one ha
theorem se_and (ha : SE X O false a f) (hb : SE X O al (.BoolOp .And (b :: rest) pos) g) : SE X O al (.BoolOp .And (a :: b :: rest) pos) (eAndV f g) :=
  PE.weak (pe_and ha hb) fun σ H Q ⟨dr, B, G0, δ, G, w, d, w', S, hf, k⟩ => by
    obtain ⟨x, w1, h1, hf⟩ := bind_some hf
    obtain ⟨b, w2, h20, hf2⟩ := bind_some hf
    obtain ⟨h2, rfl⟩ := liftO_some h20
    refine ⟨dr, B, G0, δ, G, w, x, w1, S, h1, fun v G1 H1 g1 S1 r1 => ?_⟩
    cases x <;> try (cases h2; done)
    cases h2
    cases (show Rep _ G1 v (.bl b) from r1)
    refine ⟨b, rfl, ?_⟩
    cases b with
    | true =>
      rw [if_pos rfl] at hf2 ⊢
      exact ⟨dr, B, G0, δ, G1, w1, d, w', S1, hf2, fun v2 G2 H2 g2 S2 r2 => k v2 G2 H2 (g1.trans g2) S2 r2⟩
    | false =>
      rw [if_neg Bool.false_ne_true] at hf2 ⊢
      obtain ⟨rfl, rfl⟩ := pure_some hf2
      refine k _ G1 H1 g1 S1 ?_
      cases al with
      | true => exact RepX.rep (.bl false)
      | false => exact Rep.bl false
theorem se_or (ha : SE X O false a f) (hb : SE X O al (.BoolOp .Or (b :: rest) pos) g) : SE X O al (.BoolOp .Or (a :: b :: rest) pos) (eOrV f g) :=
  PE.weak (pe_or ha hb) fun σ H Q ⟨dr, B, G0, δ, G, w, d, w', S, hf, k⟩ => by
    obtain ⟨x, w1, h1, hf⟩ := bind_some hf
    obtain ⟨b, w2, h20, hf2⟩ := bind_some hf
    obtain ⟨h2, rfl⟩ := liftO_some h20
    refine ⟨dr, B, G0, δ, G, w, x, w1, S, h1, fun v G1 H1 g1 S1 r1 => ?_⟩
    cases x <;> try (cases h2; done)
    cases h2
    cases (show Rep _ G1 v (.bl b) from r1)
    refine ⟨b, rfl, ?_⟩
    cases b with
    | false =>
      rw [if_neg Bool.false_ne_true] at hf2 ⊢
      exact ⟨dr, B, G0, δ, G1, w1, d, w', S1, hf2, fun v2 G2 H2 g2 S2 r2 => k v2 G2 H2 (g1.trans g2) S2 r2⟩
    | true =>
      rw [if_pos rfl] at hf2 ⊢
      obtain ⟨rfl, rfl⟩ := pure_some hf2
      refine k _ G1 H1 g1 S1 ?_
      cases al with
      | true => exact RepX.rep (.bl true)
      | false => exact Rep.bl true
theorem se_not (ha : SE X O false a f) : SE X O false (.UnaryOp .Not a pos) (eUn dNot f) :=
  PE.weak (pe_not ha) fun σ H Q ⟨dr, B, G0, δ, G, w, d, w', S, hf, k⟩ => by
    obtain ⟨x, h1, h2⟩ := eUn_some hf
    refine ⟨dr, B, G0, δ, G, w, x, w', S, h1, fun v G1 H1 g1 S1 r1 => ?_⟩
    cases x <;> try (cases h2; done)
    cases h2
    cases (show Rep _ G1 v (.bl _) from r1)
    exact ⟨_, rfl, k _ G1 H1 g1 S1 (.bl _)⟩
def eIf (s : Env → M Bool) (f g : Env → M D) : Env → M D := fun δ => do
  let x ← s δ
  if x = true then f δ else g δ
theorem se_if (hc : ST X O c s) (ha : SE X O al a f) (hb : SE X O al b g) : SE X O al (.IfExp c a b pos) (eIf s f g) :=
  PE.weak (pe_ifExp hc ha hb) fun σ H Q ⟨dr, B, G0, δ, G, w, d, w', S, hf, k⟩ => by
    obtain ⟨x, w1, h1, hf⟩ := bind_some hf
    refine ⟨dr, B, G0, δ, G, w, x, w1, S, h1, fun G1 H1 g1 S1 => ?_⟩
    cases x with
    | true =>
      rw [if_pos rfl] at hf ⊢
      exact ⟨dr, B, G0, δ, G1, w1, d, w', S1, hf, fun v2 G2 H2 g2 S2 r2 => k v2 G2 H2 (g1.trans g2) S2 r2⟩
    | false =>
      rw [if_neg Bool.false_ne_true] at hf ⊢
      exact ⟨dr, B, G0, δ, G1, w1, d, w', S1, hf, fun v2 G2 H2 g2 S2 r2 => k v2 G2 H2 (g1.trans g2) S2 r2⟩
/-- the truth of any data -/
def dTru : D → Option Bool
  | .non => some false
  | .bl b => some b
  | .int i => some (i != 0)
  | .str x => if x.length ≤ LIM then some ((x.length : Int) != 0) else none
  | .tup l => some (!l.isEmpty)
  | .lst l => some (!l.isEmpty)
  | _ => none
def tT (f : Env → M D) : Env → M Bool := fun δ => do
  let x ← f δ
  liftO (dTru x)
theorem RepAll.isEmpty {p : Par} {G : Hp} {vs : List V} {ds : List D} (r : RepAll p G vs ds) : vs.isEmpty = ds.isEmpty := by
  cases r <;> rfl
theorem RepX.tru {p : Par} {G H : Hp} {v : V} {d : D} {k : Bool} (r : RepX p G H v d) (s : Sub G H) (h : dTru d = some k) : TruV p.K v H k := by
  cases d <;> try (cases h; done)
  · cases h
    rw [r.non]
    exact rfl
  · cases h
    rw [r.bl]
    exact rfl
  · cases h
    rw [r.int]
    exact rfl
  · rename_i x
    simp only [dTru] at h
    split at h
    · rename_i hl
      cases h
      rw [r.str]
      exact ⟨lim_ok hl, rfl⟩
    · cases h
  · cases h
    obtain ⟨a, vs, rfl, ha, ra, _⟩ := r.tup s
    exact .inr (.inl ⟨vs, ha, by rw [ra.isEmpty]⟩)
  · cases h
    obtain ⟨a, vs, rfl, ha, ra⟩ := r.lst s
    exact .inl ⟨vs, SqL.of ha, by rw [ra.isEmpty]⟩
theorem st_truth (ha : SE X O al a f) (he : ∀ whole, isTrue a X.env whole = (do let v ← whole; standAt a.pos; holding [v] (truthy v)) := by intro _; rfl) : ST X O a (tT f) :=
  PT.weak (pt_truth ha he) fun σ H Q ⟨dr, B, G0, δ, G, w, d, w', S, hf, k⟩ => by
    obtain ⟨x, w1, h1, hf⟩ := bind_some hf
    obtain ⟨h2, rfl⟩ := liftO_some hf
    exact ⟨dr, B, G0, δ, G, w, x, w1, S, h1, fun v G1 H1 g1 S1 r1 => ⟨d, r1.x.tru S1.sub h2, k G1 H1 g1 S1⟩⟩

/-! ### argument lists, tuples, lists -/
def aNil : Env → M (List D) := fun _ => pure []
def aCons (f : Env → M D) (fs : Env → M (List D)) : Env → M (List D) := fun δ => do
  let x ← f δ
  let xs ← fs δ
  pure (x :: xs)
theorem sa_nil : SA X O al [] aNil := PA.weak pa_nil fun σ H Q ⟨dr, B, G0, δ, G, w, d, w', S, hf, k⟩ => by
  obtain ⟨rfl, rfl⟩ := pure_some hf
  exact k [] G H (.refl _ G H) S .nil
theorem sa_cons (ha : SE X O al e f) (hr : SA X O al es fs) (hs : starEach (e :: es) X.env = (false, eval e X.env) :: starEach es X.env := by rfl) : SA X O al (e :: es) (aCons f fs) :=
  PA.weak (pa_cons ha hr hs) fun σ H Q ⟨dr, B, G0, δ, G, w, d, w', S, hf, k⟩ => by
    obtain ⟨x, w1, h1, hf⟩ := bind_some hf
    obtain ⟨xs, w2, h2, hf⟩ := bind_some hf
    obtain ⟨e, rfl⟩ := pure_some hf
    subst e
    refine ⟨dr, B, G0, δ, G, w, x, w1, S, h1, fun v G1 H1 g1 S1 r1 => ⟨dr, B, G0, δ, G1, w1, xs, w2, S1, h2, fun vs G2 H2 g2 S2 r2 => ?_⟩⟩
    exact k (v :: vs) G2 H2 (g1.trans g2) S2 (.cons (r1.grow g2) r2)
theorem sa_consA (ha : SE X O al e f) (hr : SA X O true es fs) (hs : starEach (e :: es) X.env = (false, eval e X.env) :: starEach es X.env := by rfl) : SA X O true (e :: es) (aCons f fs) := sa_cons ha.any hr hs
def eTup (fs : Env → M (List D)) : Env → M D := fun δ => do
  let xs ← fs δ
  if xs.length ≤ LIM then pure (.tup xs) else fail
def eLst (fs : Env → M (List D)) : Env → M D := fun δ => do
  let xs ← fs δ
  if xs.length ≤ LIM then pure (.lst xs) else fail
theorem se_tup {x1} (h : SA X O false es fs) : SE X O false (.Tuple es x1 pos) (eTup fs) :=
  PE.weak (pe_tup h) fun σ H Q ⟨dr, B, G0, δ, G, w, d, w', S, hf, k⟩ => by
    obtain ⟨xs, w1, h1, hf⟩ := bind_some hf
    refine ⟨dr, B, G0, δ, G, w, xs, w1, S, h1, fun vs G1 H1 g1 S1 r1 => ?_⟩
    split at hf
    · rename_i hl
      obtain ⟨rfl, rfl⟩ := pure_some hf
      refine ⟨by rw [r1.length]; exact lim_ok hl, fun p hp => ?_⟩
      obtain ⟨gr, r⟩ := Rep.newT (p := ⟨X.K, X.mg, dr, O, B, G0⟩) S1.sub hp r1.all
      exact k _ _ _ (g1.trans gr.grow) (S1.gr gr) r
    · cases hf
theorem sf_lst (h : SA X O false es fs) : SF X O (.List es pos) (eLst fs) :=
  PE.weak (pe_lst h) fun σ H Q ⟨dr, B, G0, δ, G, w, d, w', S, hf, k⟩ => by
    obtain ⟨xs, w1, h1, hf⟩ := bind_some hf
    refine ⟨dr, B, G0, δ, G, w, xs, w1, S, h1, fun vs G1 H1 g1 S1 r1 => ?_⟩
    split at hf
    · rename_i hl
      obtain ⟨rfl, rfl⟩ := pure_some hf
      refine ⟨by rw [r1.length]; exact lim_ok hl, fun p hp => ?_⟩
      have gr : Gr G1 H1 G1 (upd H1 p (.lst vs)) := Gr.laid S1.sub hp
      have ne : p ≠ dr := fun z => by
        obtain ⟨o, q⟩ := S1.drS
        rw [show (Par.dr ⟨X.K, X.mg, dr, O, B, G0⟩) = p from z.symm] at q
        rw [hp] at q
        cases q
      have hn : H p = none := by
        cases q : H p with
        | none => rfl
        | some o => rw [g1.h p o ne q] at hp; cases hp
      exact k p vs xs G1 _ rfl (g1.trans gr.grow) (S1.gr gr) hn upd_same (sub_none S1.sub hp) ne r1.all
    · cases hf
/-- a new list, from now on as it is -/
theorem se_new (h : SF X O e f) : SE X O false e f :=
  PE.weak h fun σ H Q ⟨dr, B, G0, δ, G, w, d, w', S, hf, k⟩ => by
    refine ⟨dr, B, G0, δ, G, w, d, w', S, hf, fun a vs ds G1 H1 ed g1 S1 h0 h1 h2 hne r => ?_⟩
    subst ed
    have sb : Sub (upd G1 a (.lst vs)) H1 := fun b o q => by
      by_cases hb : b = a
      · subst hb
        rw [upd_same] at q
        cases q
        exact h1
      · rw [upd_ne hb] at q
        exact S1.sub b o q
    have sg : Sub G1 (upd G1 a (.lst vs)) := fun b o q => by
      rw [upd_ne (ne_of_none q h2)]
      exact q
    have hB : B a = none := by
      cases q : B a with
      | none => rfl
      | some o => rw [S.bas a o hne q] at h0; cases h0
    have sk : ∀ b o, H b = some o → G b = none → (upd G1 a (HO.lst vs)) b = none := fun b o q1 q2 => by
      have hb : b ≠ a := fun z => by rw [z, h0] at q1; cases q1
      rw [upd_ne hb]
      exact g1.k b o q1 q2
    refine k _ (upd G1 a (.lst vs)) H1 ⟨g1.g.trans sg, g1.h, g1.hd, sk⟩ ?_ (.lst upd_same (r.mono sg))
    refine ⟨sb, S1.g0.trans sg, S1.bas, S1.bd, S1.len, fun i d' q n => ?_, fun i d' q n l => ?_, S1.inj, ?_, fun b o q1 q2 => ?_⟩
    · obtain ⟨v, e1, r1⟩ := S1.vals i d' q n
      exact ⟨v, e1, r1.mono sg⟩
    · obtain ⟨b, us, es, e0, e1, e2, e3, e4, r1⟩ := S1.owns i d' q n l
      refine ⟨b, us, es, e0, e1, e2, ?_, e4, r1.mono sg⟩
      have hb : b ≠ a := fun z => by
        -- an own list stood before
        obtain ⟨b', us', es', e0', e1', e2', e3', e4', r1'⟩ := S.owns i d' q n l
        rw [e1] at e1'
        cases e1'
        rw [z, h0] at e2'
        cases e2'
      rw [upd_ne hb]
      exact e3
    · obtain ⟨ok, ⟨sc, d1, d2⟩, d3⟩ := S1.draw
      refine ⟨ok, ⟨sc, d1, sub_l sg d2⟩, ?_⟩
      rw [upd_ne (fun z => hne z.symm)]
      exact d3
    · have q1' : B b = some o := q1
      have hb : b ≠ a := fun z => by rw [z, hB] at q1'; cases q1'
      rw [upd_ne hb]
      exact S1.kp b o q1 q2
theorem eLst_lst {δ : Env} {w w' : Dw} {d : D} (h : eLst fs δ w = some (d, w')) : ∃ ds, d = .lst ds := by
  obtain ⟨xs, w1, h1, hf⟩ := bind_some h
  split at hf
  · obtain ⟨rfl, rfl⟩ := pure_some hf
    exact ⟨_, rfl⟩
  · cases hf
theorem se_lst (h : SA X O false es fs) : SE X O false (.List es pos) (eLst fs) := se_new (sf_lst h)

/-! ### built-in functions by values -/
def CallS (K : PySem.W.Frag) (mg : Str → Option Value) (r : List V → Hp → VK → Prop) (op : List D → Option D) : Prop :=
  ∀ (p : Par) (G H : Hp) (vs : List V) (ds : List D) (d : D) (Q : VK), p.K = K → p.mg = mg → Sub G H → RepAs p true G H vs ds → op ds = some d → (∀ z G' H', Gr G H G' H' → Rep p G' z d → Q z H') → r vs H Q
def eCall (op : List D → Option D) (fs : Env → M (List D)) : Env → M D := fun δ => do
  let xs ← fs δ
  liftO (op xs)
theorem tOf_call {K : PySem.W.Frag} {mg : Str → Option Value} {r : List V → Hp → VK → Prop} {op : List D → Option D} (hs : CallS K mg r op) {σ : L2.St} {H : Hp} {Q : VK} (q : tOf K mg O false (eCall op fs) σ H Q) : tCB r (taOf K mg O true fs) σ H Q := by
  obtain ⟨dr, B, G0, δ, G, w, d, w', S, hf, k⟩ := q
  obtain ⟨xs, w1, h1, hf⟩ := bind_some hf
  obtain ⟨h2, rfl⟩ := liftO_some hf
  refine ⟨dr, B, G0, δ, G, w, xs, w1, S, h1, fun vs G1 H1 g1 S1 r1 => ?_⟩
  exact hs _ G1 H1 vs xs d Q rfl rfl S1.sub r1 h2 fun z G' H' gr rz => k z G' H' (g1.trans gr.grow) (S1.gr gr) rz
variable {x : Str} {p : Pos} {r : List V → Hp → VK → Prop} {op : List D → Option D} {id T : String}
theorem se_callB (hc : CallR X (.builtin id) r) (hs : CallS X.K X.mg r op) (hg : Gl X x) (hm : X.mg x = none) (hv : bootBuiltins x = some (.builtin id)) (ha : SA X O true (e :: es) fs) (hn : x ≠ "__name__" := by decide) (hdb : (x == ("__debug__" : Str)) = false := by decide)
    (he : starEach (e :: es) X.env = (false, eval e X.env) :: starEach es X.env := by rfl) (hpl : (backTo pos (starEach es X.env)).any (·.1) = false := by rfl) : SE X O false (.Call (.Name x p) (e :: es) [] pos) (eCall op fs) :=
  PE.weak (pe_callB hc hg hm hv ha hn hdb he hpl) fun _ _ _ q => tOf_call hs q
theorem se_callTy (hc : CallR X (.type T) r) (hs : CallS X.K X.mg r op) (hg : Gl X x) (hm : X.mg x = none) (hv : bootBuiltins x = some (.type T)) (ha : SA X O true (e :: es) fs) (hn : x ≠ "__name__" := by decide) (hdb : (x == ("__debug__" : Str)) = false := by decide)
    (he : starEach (e :: es) X.env = (false, eval e X.env) :: starEach es X.env := by rfl) (hpl : (backTo pos (starEach es X.env)).any (·.1) = false := by rfl) : SE X O false (.Call (.Name x p) (e :: es) [] pos) (eCall op fs) :=
  PE.weak (pe_callTy hc hg hm hv ha hn hdb he hpl) fun _ _ _ q => tOf_call hs q
theorem se_callF (hc : CallR X (.builtin id) r) (hs : CallS X.K X.mg r op) (hg : Gl X x) (hm : X.mg x = some (.builtin id)) (ha : SA X O true (e :: es) fs) (hdb : (x == ("__debug__" : Str)) = false := by decide)
    (he : starEach (e :: es) X.env = (false, eval e X.env) :: starEach es X.env := by rfl) (hpl : (backTo pos (starEach es X.env)).any (·.1) = false := by rfl) : SE X O false (.Call (.Name x p) (e :: es) [] pos) (eCall op fs) :=
  PE.weak (pe_callBfun hc hg hm ha hdb he hpl) fun _ _ _ q => tOf_call hs q
end
end Fc

/-! Fc, part D: places, slices, built-ins, isinstance. -/
namespace Fc
open PySem PySem.Spec PyProof.Rows L2

section
variable {p : Par} {G H : Hp}
theorem RepAll.at {vs : List V} {ds : List D} {i : Int} {d : D} (r : RepAll p G vs ds) (h : atI ds i = some d) : ∃ v, atI vs i = some v ∧ Rep p G v d := by
  unfold atI at h ⊢
  rw [r.length]
  cases q : ixN ds.length i with
  | none => rw [q] at h; cases h
  | some j =>
    rw [q] at h
    exact r.get h
end
section
variable {X : Cx} {O : List Nat} {al bl cl : Bool} {a b c e : Expr} {es : List Expr} {f g h : Env → M D} {fs : Env → M (List D)} {pos : Pos}

def dIx : D → D → Option D
  | .tup l, .int i => atI l i
  | .lst l, .int i => atI l i
  | .str z, .int i => if z.length ≤ LIM then (atI z.cps.toList i).map fun c => .str ⟨#[c]⟩ else none
  | _, _ => none
theorem os_ix {K : PySem.W.Frag} {mg : Str → Option Value} : OpS K mg (rIx K) dIx := by
  intro p G H v u x y d Q hK hmg s rx ry hd k
  subst hK
  cases x <;> cases y <;> try (cases hd; done)
  · rename_i z i
    simp only [dIx] at hd
    split at hd
    · rename_i hl
      cases q : atI z.cps.toList i with
      | none => rw [q] at hd; cases hd
      | some ch =>
        rw [q] at hd
        cases hd
        rw [rx.str, ry.int]
        exact .inr (.inr ⟨z, i, ch, rfl, rfl, lim_ok hl, q, k _ G H (.refl s) (.str _)⟩)
    · cases hd
  · obtain ⟨a, vs, rfl, ha, ra, _⟩ := rx.tup s
    obtain ⟨w, e, rw'⟩ := ra.at hd
    rw [ry.int]
    exact .inr (.inl ⟨a, vs, _, w, rfl, rfl, ha, e, k _ G H (.refl s) rw'⟩)
  · obtain ⟨a, vs, rfl, ha, ra⟩ := rx.lst s
    obtain ⟨w, e, rw'⟩ := ra.at hd
    rw [ry.int]
    exact .inl ⟨a, vs, _, w, rfl, rfl, SqL.of ha, e, k _ G H (.refl s) rw'⟩
theorem se_ix (ha : SE X O al a f) (hb : SE X O bl b g) (hs : PlainIx b := by exact fun _ _ => rfl) : SE X O false (.Subscript a b pos) (eBin dIx f g) :=
  PE.weak (pe_ix ix_seq ha hb hs) fun _ _ _ q => tOf_bin os_ix q

/-! ### slices -/
def toOf (K : PySem.W.Frag) (mg : Str → Option Value) (O : List Nat) (f : Env → M (Option Int)) : TO := fun σ H Q =>
  ∃ (dr : Addr) (B G0 : Hp) (δ : Env) (G : Hp) (w : Dw) (d : Option Int) (w' : Dw), SR ⟨K, mg, dr, O, B, G0⟩ δ σ G H w ∧ f δ w = some (d, w') ∧
    ∀ G' H', Grow ⟨K, mg, dr, O, B, G0⟩ G H G' H' → SR ⟨K, mg, dr, O, B, G0⟩ δ σ G' H' w' → Q d H'
def SO (X : Cx) (O : List Nat) (e : Option Expr) (f : Env → M (Option Int)) : Prop := PO X e (toOf X.K X.mg O f)
theorem PO.weak {X : Cx} {e : Option Expr} {t t' : TO} (h : PO X e t) (k : ∀ σ H Q, t' σ H Q → t σ H Q) : PO X e t' := ⟨fun pins s σ H Q I q => h.run pins s σ H Q I (k σ H Q q)⟩
def oNone : Env → M (Option Int) := fun _ => pure none
def asI : D → Option Int
  | .int i => some i
  | _ => none
def oSome (f : Env → M D) : Env → M (Option Int) := fun δ => do
  let x ← f δ
  let i ← liftO (asI x)
  pure (some i)
theorem so_none : SO X O none oNone := PO.weak po_none fun σ H Q ⟨dr, B, G0, δ, G, w, d, w', S, hf, k⟩ => by
  obtain ⟨rfl, rfl⟩ := pure_some hf
  exact k G H (.refl _ G H) S
theorem so_some (ha : SE X O al a f) : SO X O (some a) (oSome f) := PO.weak (po_some ha) fun σ H Q ⟨dr, B, G0, δ, G, w, d, w', S, hf, k⟩ => by
  obtain ⟨x, w1, h1, hf1⟩ := bind_some hf
  obtain ⟨i, w2, h2, hf2⟩ := bind_some hf1
  obtain ⟨h3, rfl⟩ := liftO_some h2
  obtain ⟨e, rfl⟩ := pure_some hf2
  subst e
  refine ⟨dr, B, G0, δ, G, w, x, _, S, h1, fun v G1 H1 g1 S1 r1 => ?_⟩
  cases x <;> try (cases h3; done)
  cases h3
  exact ⟨i, r1.x.int, k G1 H1 g1 S1⟩
def cutD {α : Type} (xs : List α) (lo hi : Option Int) : List α := (xs.drop (HT.sIx xs.length 0 lo)).take (HT.sIx xs.length xs.length hi - HT.sIx xs.length 0 lo)
theorem RepAll.cut {p : Par} {G : Hp} {vs : List V} {ds : List D} (r : RepAll p G vs ds) (lo hi : Option Int) : RepAll p G (cutV vs lo hi) (cutD ds lo hi) := by
  unfold cutV cutD
  rw [r.length]
  exact (r.drop _).take _
def dSl (lo hi : Option Int) : D → Option D
  | .tup l => some (.tup (cutD l lo hi))
  | .lst l => some (.lst (cutD l lo hi))
  | .str z => if z.length ≤ LIM then some (.str (cutS z lo hi)) else none
  | _ => none
def eSl (f : Env → M D) (lo hi : Env → M (Option Int)) : Env → M D := fun δ => do
  let x ← f δ
  let l ← lo δ
  let u ← hi δ
  liftO (dSl l u x)
theorem cut_whole {α : Type} (xs : List α) (lo hi : Option Int) (h : HT.sIx xs.length 0 lo = 0 ∧ HT.sIx xs.length xs.length hi = xs.length) : cutD xs lo hi = xs := by
  unfold cutD
  rw [h.1, h.2]
  simp
variable {lo hi : Option Expr} {fl fh : Env → M (Option Int)} {p2 : Pos}
theorem se_slice (he : SE X O al e f) (hl : SO X O lo fl) (hh : SO X O hi fh) : SE X O false (.Subscript e (.Slice lo hi none p2) pos) (eSl f fl fh) :=
  PE.weak (pe_slice (sl_tupA.or (sl_list.or sl_str)) he hl hh) fun σ H Q ⟨dr, B, G0, δ, G, w, d, w', S, hf, k⟩ => by
    obtain ⟨x, w1, h1, hf1⟩ := bind_some hf
    obtain ⟨l, w2, h2, hf2⟩ := bind_some hf1
    obtain ⟨u, w3, h3, hf3⟩ := bind_some hf2
    obtain ⟨h4, rfl⟩ := liftO_some hf3
    refine ⟨dr, B, G0, δ, G, w, x, w1, S, h1, fun v G1 H1 g1 S1 r1 => ?_⟩
    refine ⟨dr, B, G0, δ, G1, w1, l, w2, S1, h2, fun G2 H2 g2 S2 => ⟨dr, B, G0, δ, G2, w2, u, _, S2, h3, fun G3 H3 g3 S3 => ?_⟩⟩
    have r3 := ((r1.grow g2).grow g3).x
    have k' : ∀ z G' H', Gr G3 H3 G' H' → Rep _ G' z d → Q z H' := fun z G' H' gr rz => k z G' H' (((g1.trans g2).trans g3).trans gr.grow) (S3.gr gr) rz
    cases x <;> try (cases h4; done)
    · rename_i z
      simp only [dSl] at h4
      split at h4
      · rename_i hl
        cases h4
        rw [r3.str]
        exact .inr (.inr ⟨z, rfl, lim_ok hl, k' _ G3 H3 (.refl S3.sub) (.str _)⟩)
      · cases h4
    · cases h4
      obtain ⟨a, vs, rfl, ha, ra, Ra⟩ := r3.tup S3.sub
      refine .inl ⟨a, vs, rfl, ha, fun hw => ?_, fun hw q hq => ?_⟩
      · rw [ra.length] at hw
        rw [cut_whole _ _ _ hw] at k'
        exact k' _ G3 H3 (.refl S3.sub) Ra
      · obtain ⟨gr, rz⟩ := Rep.newT S3.sub hq (ra.cut l u)
        exact k' _ _ _ gr rz
    · cases h4
      obtain ⟨a, vs, rfl, ha, ra⟩ := r3.lst S3.sub
      refine .inr (.inl ⟨a, vs, rfl, SqL.of ha, fun q hq => ?_⟩)
      obtain ⟨gr, rz⟩ := Rep.newL S3.sub hq (ra.cut l u)
      exact k' _ _ _ gr rz

/-! ### built-ins -/
theorem RepAs.one {p : Par} {al : Bool} {G H : Hp} {vs : List V} {d : D} (r : RepAs p al G H vs [d]) : ∃ v, vs = [v] ∧ RepA p al G H v d := by
  cases r with
  | cons r t => cases t; exact ⟨_, rfl, r⟩
theorem RepAs.two {p : Par} {al : Bool} {G H : Hp} {vs : List V} {d e : D} (r : RepAs p al G H vs [d, e]) : ∃ v u, vs = [v, u] ∧ RepA p al G H v d ∧ RepA p al G H u e := by
  cases r with
  | cons r t => cases t with
    | cons r2 t => cases t; exact ⟨_, _, rfl, r, r2⟩
variable {K : PySem.W.Frag} {mg : Str → Option Value}
def dLen : List D → Option D
  | [.tup l] => some (.int l.length)
  | [.lst l] => some (.int l.length)
  | [.str z] => if z.length ≤ LIM then some (.int z.length) else none
  | _ => none
def rLenA (K : PySem.W.Frag) : List V → Hp → VK → Prop := fun xs H Q => ∃ x n, xs = [x] ∧ LenV K x H n ∧ Q (.int n) H
theorem cs_len : CallS K mg (rLenA K) dLen := by
  intro p G H vs ds d Q hK hmg s r hd k
  subst hK
  match ds, hd, r with
  | [.tup l], hd, r =>
    cases hd
    obtain ⟨v, rfl, rr⟩ := r.one
    obtain ⟨a, us, rfl, ha, ra, _⟩ := rr.x.tup s
    exact ⟨_, l.length, rfl, .inr ⟨us, ha, ra.length.symm⟩, k _ G H (.refl s) (.int _)⟩
  | [.lst l], hd, r =>
    cases hd
    obtain ⟨v, rfl, rr⟩ := r.one
    obtain ⟨a, us, rfl, ha, ra⟩ := rr.x.lst s
    exact ⟨_, l.length, rfl, .inl ⟨us, SqL.of ha, ra.length.symm⟩, k _ G H (.refl s) (.int _)⟩
  | [.str z], hd, r =>
    simp only [dLen] at hd
    split at hd
    · rename_i hl
      cases hd
      obtain ⟨v, rfl, rr⟩ := r.one
      rw [rr.x.str]
      exact ⟨_, z.length, rfl, ⟨lim_ok hl, rfl⟩, k _ G H (.refl s) (.int _)⟩
    · cases hd
def dAbs : List D → Option D
  | [.int i] => some (.int (if i < 0 then -i else i))
  | _ => none
theorem cs_abs : CallS K mg (fun xs H Q => ∃ i, xs = [.int i] ∧ Q (.int (if i < 0 then -i else i)) H) dAbs := by
  intro p G H vs ds d Q hK hmg s r hd k
  match ds, hd, r with
  | [.int i], hd, r =>
    cases hd
    obtain ⟨v, rfl, rr⟩ := r.one
    exact ⟨i, by rw [rr.x.int], k _ G H (.refl s) (.int _)⟩
def dInt : List D → Option D
  | [.int i] => some (.int i)
  | [.bl b] => some (.int (if b then 1 else 0))
  | _ => none
theorem cs_int : CallS K mg (fun xs H Q => (∃ i, xs = [.int i] ∧ Q (.int i) H) ∨ ∃ k, xs = [.bl k] ∧ Q (.int (if k then 1 else 0)) H) dInt := by
  intro p G H vs ds d Q hK hmg s r hd k
  match ds, hd, r with
  | [.int i], hd, r =>
    cases hd
    obtain ⟨v, rfl, rr⟩ := r.one
    exact .inl ⟨i, by rw [rr.x.int], k _ G H (.refl s) (.int _)⟩
  | [.bl i], hd, r =>
    cases hd
    obtain ⟨v, rfl, rr⟩ := r.one
    exact .inr ⟨i, by rw [rr.x.bl], k _ G H (.refl s) (.int _)⟩
def dMax2 : List D → Option D
  | [.int i, .int j] => some (.int (if j > i then j else i))
  | _ => none
def dMin2 : List D → Option D
  | [.int i, .int j] => some (.int (if j < i then j else i))
  | _ => none
theorem cs_max2 : CallS K mg (fun xs H Q => ∃ i j, xs = [.int i, .int j] ∧ Q (.int (if j > i then j else i)) H) dMax2 := by
  intro p G H vs ds d Q hK hmg s r hd k
  match ds, hd, r with
  | [.int i, .int j], hd, r =>
    cases hd
    obtain ⟨v, u, rfl, rr, r2⟩ := r.two
    exact ⟨i, j, by rw [rr.x.int, r2.x.int], k _ G H (.refl s) (.int _)⟩
theorem cs_min2 : CallS K mg (fun xs H Q => ∃ i j, xs = [.int i, .int j] ∧ Q (.int (if j < i then j else i)) H) dMin2 := by
  intro p G H vs ds d Q hK hmg s r hd k
  match ds, hd, r with
  | [.int i, .int j], hd, r =>
    cases hd
    obtain ⟨v, u, rfl, rr, r2⟩ := r.two
    exact ⟨i, j, by rw [rr.x.int, r2.x.int], k _ G H (.refl s) (.int _)⟩
def dGcd : List D → Option D
  | [.int i, .int j] => some (.int (Nat.gcd i.natAbs j.natAbs : Nat))
  | _ => none
theorem cs_gcd : CallS K mg rGcd dGcd := by
  intro p G H vs ds d Q hK hmg s r hd k
  match ds, hd, r with
  | [.int i, .int j], hd, r =>
    cases hd
    obtain ⟨v, u, rfl, rr, r2⟩ := r.two
    exact ⟨i, j, by rw [rr.x.int, r2.x.int], k _ G H (.refl s) (.int _)⟩
def asBs : List D → Option (List Bool)
  | [] => some []
  | .bl b :: l => (asBs l).map (b :: ·)
  | _ => none
theorem asBs_some : ∀ {l : List D} {bs : List Bool}, asBs l = some bs → l = bs.map D.bl
  | [], _, h => by cases h; rfl
  | .bl b :: l, bs, h => by
    cases q : asBs l with
    | none => simp [asBs, q] at h
    | some cs =>
      have h' : some (b :: cs) = some bs := by rw [← h]; simp [asBs, q]
      cases h'
      rw [asBs_some q]
      rfl
def asIs : List D → Option (List Int)
  | [] => some []
  | .int b :: l => (asIs l).map (b :: ·)
  | _ => none
theorem asIs_some : ∀ {l : List D} {bs : List Int}, asIs l = some bs → l = bs.map D.int
  | [], _, h => by cases h; rfl
  | .int b :: l, bs, h => by
    cases q : asIs l with
    | none => simp [asIs, q] at h
    | some cs =>
      have h' : some (b :: cs) = some bs := by rw [← h]; simp [asIs, q]
      cases h'
      rw [asIs_some q]
      rfl
def dAny : List D → Option D
  | [.lst l] => (asBs l).map fun bs => .bl (bs.any id)
  | _ => none
def dAll : List D → Option D
  | [.lst l] => (asBs l).map fun bs => .bl (bs.all id)
  | _ => none
theorem cs_any : CallS K mg (rAny K) dAny := by
  intro p G H vs ds d Q hK hmg s r hd k
  subst hK
  match ds, hd, r with
  | [.lst l], hd, r =>
    cases q : asBs l with
    | none => simp [dAny, q] at hd
    | some bs =>
      have hd' : some (D.bl (bs.any id)) = some d := by rw [← hd]; simp [dAny, q]
      cases hd'
      obtain ⟨v, rfl, rr⟩ := r.one
      obtain ⟨a, us, rfl, ha, ra⟩ := rr.x.lst s
      rw [asBs_some q] at ra
      rw [RepAll.bls ra] at ha
      exact ⟨a, bs, rfl, SqL.of ha, k _ G H (.refl s) (.bl _)⟩
theorem cs_all : CallS K mg (rAll K) dAll := by
  intro p G H vs ds d Q hK hmg s r hd k
  subst hK
  match ds, hd, r with
  | [.lst l], hd, r =>
    cases q : asBs l with
    | none => simp [dAll, q] at hd
    | some bs =>
      have hd' : some (D.bl (bs.all id)) = some d := by rw [← hd]; simp [dAll, q]
      cases hd'
      obtain ⟨v, rfl, rr⟩ := r.one
      obtain ⟨a, us, rfl, ha, ra⟩ := rr.x.lst s
      rw [asBs_some q] at ra
      rw [RepAll.bls ra] at ha
      exact ⟨a, bs, rfl, SqL.of ha, k _ G H (.refl s) (.bl _)⟩
def dTuple : List D → Option D
  | [.lst l] => some (.tup l)
  | [.tup l] => some (.tup l)
  | _ => none
theorem cs_tuple : CallS K mg (fun xs H Q => ∃ p ys, xs = [.ref p] ∧ ((SqL K H p ys ∧ ∀ l, H l = none → Q (.ref l) (upd H l (.tup ys))) ∨ (SqT K H p ys ∧ Q (.ref p) H))) dTuple := by
  intro p G H vs ds d Q hK hmg s r hd k
  subst hK
  match ds, hd, r with
  | [.lst l], hd, r =>
    cases hd
    obtain ⟨v, rfl, rr⟩ := r.one
    obtain ⟨a, us, rfl, ha, ra⟩ := rr.x.lst s
    refine ⟨a, us, rfl, .inl ⟨SqL.of ha, fun q hq => ?_⟩⟩
    obtain ⟨gr, rz⟩ := Rep.newT s hq ra
    exact k _ _ _ gr rz
  | [.tup l], hd, r =>
    cases hd
    obtain ⟨v, rfl, rr⟩ := r.one
    obtain ⟨a, us, rfl, ha, ra, Ra⟩ := rr.x.tup s
    exact ⟨a, us, rfl, .inr ⟨ha, k _ G H (.refl s) Ra⟩⟩
def dList : List D → Option D
  | [.lst l] => some (.lst l)
  | [.tup l] => some (.lst l)
  | _ => none
theorem cs_list : CallS K mg (fun xs H Q => ∃ p ys, xs = [.ref p] ∧ (SqL K H p ys ∨ SqT K H p ys) ∧ ∀ l, H l = none → Q (.ref l) (upd H l (.lst ys))) dList := by
  intro p G H vs ds d Q hK hmg s r hd k
  subst hK
  match ds, hd, r with
  | [.lst l], hd, r =>
    cases hd
    obtain ⟨v, rfl, rr⟩ := r.one
    obtain ⟨a, us, rfl, ha, ra⟩ := rr.x.lst s
    refine ⟨a, us, rfl, .inl (SqL.of ha), fun q hq => ?_⟩
    obtain ⟨gr, rz⟩ := Rep.newL s hq ra
    exact k _ _ _ gr rz
  | [.tup l], hd, r =>
    cases hd
    obtain ⟨v, rfl, rr⟩ := r.one
    obtain ⟨a, us, rfl, ha, ra, Ra⟩ := rr.x.tup s
    refine ⟨a, us, rfl, .inr ha, fun q hq => ?_⟩
    obtain ⟨gr, rz⟩ := Rep.newL s hq ra
    exact k _ _ _ gr rz
variable {x : Str} {q : Pos}
theorem se_len (hm : X.mg "len" = none) (hg : Gl X "len") (ha : SA X O true [e] fs) (he : starEach [e] X.env = (false, eval e X.env) :: starEach [] X.env := by rfl) (hpl : (backTo pos (starEach [] X.env)).any (·.1) = false := by rfl) : SE X O false (.Call (.Name "len" q) [e] [] pos) (eCall dLen fs) :=
  se_callB call_len cs_len hg hm PySem.boot_len ha (by decide) (by decide) he hpl
theorem se_abs (hm : X.mg "abs" = none) (hg : Gl X "abs") (ha : SA X O true [e] fs) (he : starEach [e] X.env = (false, eval e X.env) :: starEach [] X.env := by rfl) (hpl : (backTo pos (starEach [] X.env)).any (·.1) = false := by rfl) : SE X O false (.Call (.Name "abs" q) [e] [] pos) (eCall dAbs fs) :=
  se_callB call_abs cs_abs hg hm (by decide +kernel) ha (by decide) (by decide) he hpl
theorem se_int1 (hm : X.mg "int" = none) (hg : Gl X "int") (ha : SA X O true [e] fs) (he : starEach [e] X.env = (false, eval e X.env) :: starEach [] X.env := by rfl) (hpl : (backTo pos (starEach [] X.env)).any (·.1) = false := by rfl) : SE X O false (.Call (.Name "int" q) [e] [] pos) (eCall dInt fs) :=
  se_callTy call_int1 cs_int hg hm (by decide +kernel) ha (by decide) (by decide) he hpl
theorem se_max2 (hc : X.calm = true) (hm : X.mg "max" = none) (hg : Gl X "max") (ha : SA X O true [a, b] fs) (he : starEach [a, b] X.env = (false, eval a X.env) :: starEach [b] X.env := by rfl) (hpl : (backTo pos (starEach [b] X.env)).any (·.1) = false := by rfl) : SE X O false (.Call (.Name "max" q) [a, b] [] pos) (eCall dMax2 fs) :=
  se_callB (call_max2 hc) cs_max2 hg hm (by decide +kernel) ha (by decide) (by decide) he hpl
theorem se_min2 (hc : X.calm = true) (hm : X.mg "min" = none) (hg : Gl X "min") (ha : SA X O true [a, b] fs) (he : starEach [a, b] X.env = (false, eval a X.env) :: starEach [b] X.env := by rfl) (hpl : (backTo pos (starEach [b] X.env)).any (·.1) = false := by rfl) : SE X O false (.Call (.Name "min" q) [a, b] [] pos) (eCall dMin2 fs) :=
  se_callB (call_min2 hc) cs_min2 hg hm (by decide +kernel) ha (by decide) (by decide) he hpl
theorem se_gcd (hm : X.mg "gcd" = some (.builtin "math.gcd")) (hg : Gl X "gcd") (ha : SA X O true [a, b] fs) (he : starEach [a, b] X.env = (false, eval a X.env) :: starEach [b] X.env := by rfl) (hpl : (backTo pos (starEach [b] X.env)).any (·.1) = false := by rfl) : SE X O false (.Call (.Name "gcd" q) [a, b] [] pos) (eCall dGcd fs) :=
  se_callF cr_gcd cs_gcd hg hm ha (by decide) he hpl
theorem se_any (hc : X.calm = true) (hm : X.mg "any" = none) (hg : Gl X "any") (ha : SA X O true [e] fs) (he : starEach [e] X.env = (false, eval e X.env) :: starEach [] X.env := by rfl) (hpl : (backTo pos (starEach [] X.env)).any (·.1) = false := by rfl) : SE X O false (.Call (.Name "any" q) [e] [] pos) (eCall dAny fs) :=
  se_callB (cr_any hc) cs_any hg hm (by decide +kernel) ha (by decide) (by decide) he hpl
theorem se_all (hc : X.calm = true) (hm : X.mg "all" = none) (hg : Gl X "all") (ha : SA X O true [e] fs) (he : starEach [e] X.env = (false, eval e X.env) :: starEach [] X.env := by rfl) (hpl : (backTo pos (starEach [] X.env)).any (·.1) = false := by rfl) : SE X O false (.Call (.Name "all" q) [e] [] pos) (eCall dAll fs) :=
  se_callB (cr_all hc) cs_all hg hm (by decide +kernel) ha (by decide) (by decide) he hpl
theorem se_tuple (hm : X.mg "tuple" = none) (hg : Gl X "tuple") (ha : SA X O true [e] fs) (he : starEach [e] X.env = (false, eval e X.env) :: starEach [] X.env := by rfl) (hpl : (backTo pos (starEach [] X.env)).any (·.1) = false := by rfl) : SE X O false (.Call (.Name "tuple" q) [e] [] pos) (eCall dTuple fs) :=
  se_callTy call_tuple_of cs_tuple hg hm boot_tuple ha (by decide) (by decide) he hpl
theorem se_list (hm : X.mg "list" = none) (hg : Gl X "list") (ha : SA X O true [e] fs) (he : starEach [e] X.env = (false, eval e X.env) :: starEach [] X.env := by rfl) (hpl : (backTo pos (starEach [] X.env)).any (·.1) = false := by rfl) : SE X O false (.Call (.Name "list" q) [e] [] pos) (eCall dList fs) :=
  se_callTy call_list_of cs_list hg hm (by decide +kernel) ha (by decide) (by decide) he hpl

/-! ### isinstance -/
def D.ty : D → Option String
  | .non => some "NoneType"
  | .bl _ => some "bool"
  | .int _ => some "int"
  | .str _ => some "str"
  | .tup _ => some "tuple"
  | .lst _ => some "list"
  | _ => none
theorem RepX.ty {p : Par} {G H : Hp} {v : V} {d : D} {t : String} (r : RepX p G H v d) (s : Sub G H) (h : d.ty = some t) : TyX p.K H v (.type t) := by
  cases d <;> try (cases h; done)
  · cases h; rw [r.non]; exact .base .non
  · cases h; rw [r.bl]; exact .base (.bl _)
  · cases h; rw [r.int]; exact .base (.int _)
  · cases h; rw [r.str]; exact .base (.str _)
  · cases h
    obtain ⟨a, vs, rfl, ha, _, _⟩ := r.tup s
    rcases ha with (ha | ⟨o, ha⟩) | ⟨o, its, n, hk, hc, _⟩
    · exact .base (.tup ha)
    · exact .fTuple ha
    · exact .kTuple hk hc
  · cases h
    obtain ⟨a, vs, rfl, ha, _⟩ := r.lst s
    exact .base (.lst ha)
/-- isinstance(x, T), T one of the built-in types -/
def isTy (T : String) (d : D) : Option Bool := d.ty.bind fun t => kitB t T
def eIsi (T : String) (f : Env → M D) : Env → M D := fun δ => do
  let x ← f δ
  let k ← liftO (isTy T x)
  pure (.bl k)
theorem se_isi {T : String} {p3 : Pos} {y : Str} (hm : X.mg "isinstance" = none) (hg : Gl X "isinstance") (hm2 : X.mg y = none) (hg2 : Gl X y) (hv : bootBuiltins y = some (.type T)) (ha : SE X O al a f) (hn : y ≠ "__name__" := by decide) (hd : (y == ("__debug__" : Str)) = false := by decide)
    (he : starEach [a, .Name y p3] X.env = (false, eval a X.env) :: starEach [.Name y p3] X.env := by rfl) (he2 : starEach [.Name y p3] X.env = (false, eval (.Name y p3) X.env) :: starEach [] X.env := by rfl) (hpl : (backTo pos (starEach [.Name y p3] X.env)).any (·.1) = false := by rfl) :
    SE X O false (.Call (.Name "isinstance" q) [a, .Name y p3] [] pos) (eIsi T f) :=
  PE.weak (pe_callB call_isi hg hm (by decide +kernel) (pa_cons ha (pa_cons (pe_bltn (v := .ty T) hg2 hm2 hv rfl hn hd) pa_nil he2) he) (by decide) (by decide) he hpl) fun σ H Q ⟨dr, B, G0, δ, G, w, d, w', S, hf, k⟩ => by
    obtain ⟨x, w1, h1, hf1⟩ := bind_some hf
    obtain ⟨i, w2, h2, hf2⟩ := bind_some hf1
    obtain ⟨h3, rfl⟩ := liftO_some h2
    obtain ⟨e, rfl⟩ := pure_some hf2
    subst e
    refine ⟨dr, B, G0, δ, G, w, x, _, S, h1, fun v G1 H1 g1 S1 r1 => ?_⟩
    unfold isTy at h3
    cases ht : x.ty with
    | none => rw [ht] at h3; cases h3
    | some t =>
      rw [ht] at h3
      exact ⟨v, .ty T, .type t, .type T, i, rfl, .ty T, r1.x.ty S1.sub ht, kit_ty h3, k _ G1 H1 g1 S1 (.bl i)⟩
/-- isinstance(x, (T, U)) -/
def isTy2 (T U : String) (d : D) : Option Bool := (isTy T d).bind fun a => (isTy U d).bind fun b => some (a || b)
def eIsi2 (T U : String) (f : Env → M D) : Env → M D := fun δ => do
  let x ← f δ
  let k ← liftO (isTy2 T U x)
  pure (.bl k)
theorem se_isi2 {T U : String} {p3 p4 p5 : Pos} {k5} {y z : Str} (hm : X.mg "isinstance" = none) (hg : Gl X "isinstance") (hm2 : X.mg y = none) (hg2 : Gl X y) (hv : bootBuiltins y = some (.type T)) (hm3 : X.mg z = none) (hg3 : Gl X z) (hv3 : bootBuiltins z = some (.type U)) (ha : SE X O al a f) (hn : y ≠ "__name__" := by decide) (hd : (y == ("__debug__" : Str)) = false := by decide)
    (hn3 : z ≠ "__name__" := by decide) (hd3 : (z == ("__debug__" : Str)) = false := by decide)
    (he : starEach [a, .Tuple [.Name y p3, .Name z p4] k5 p5] X.env = (false, eval a X.env) :: starEach [.Tuple [.Name y p3, .Name z p4] k5 p5] X.env := by rfl) (he2 : starEach [.Tuple [.Name y p3, .Name z p4] k5 p5] X.env = (false, eval (.Tuple [.Name y p3, .Name z p4] k5 p5) X.env) :: starEach [] X.env := by rfl)
    (he3 : starEach [.Name y p3, .Name z p4] X.env = (false, eval (.Name y p3) X.env) :: starEach [.Name z p4] X.env := by rfl) (he4 : starEach [.Name z p4] X.env = (false, eval (.Name z p4) X.env) :: starEach [] X.env := by rfl)
    (hpl : (backTo pos (starEach [.Tuple [.Name y p3, .Name z p4] k5 p5] X.env)).any (·.1) = false := by rfl) :
    SE X O false (.Call (.Name "isinstance" q) [a, .Tuple [.Name y p3, .Name z p4] k5 p5] [] pos) (eIsi2 T U f) :=
  PE.weak (pe_callB call_isiT hg hm (by decide +kernel) (pa_cons ha (pa_cons (pe_tup (pa_cons (pe_bltn (v := .ty T) hg2 hm2 hv rfl hn hd) (pa_cons (pe_bltn (v := .ty U) hg3 hm3 hv3 rfl hn3 hd3) pa_nil he4) he3)) pa_nil he2) he) (by decide) (by decide) he hpl) fun σ H Q ⟨dr, B, G0, δ, G, w, d, w', S, hf, k⟩ => by
    obtain ⟨x, w1, h1, hf1⟩ := bind_some hf
    obtain ⟨i, w2, h2, hf2⟩ := bind_some hf1
    obtain ⟨h3, rfl⟩ := liftO_some h2
    obtain ⟨e, rfl⟩ := pure_some hf2
    subst e
    refine ⟨dr, B, G0, δ, G, w, x, _, S, h1, fun v G1 H1 g1 S1 r1 => ⟨by show 2 ≤ sizeLine; decide, fun t ht => ?_⟩⟩
    have gr : Gr G1 H1 G1 (upd H1 t (.tup [.ty T, .ty U])) := Gr.laid S1.sub ht
    unfold isTy2 isTy at h3
    cases htt : x.ty with
    | none => rw [htt] at h3; cases h3
    | some tt =>
      rw [htt] at h3
      cases q1 : kitB tt T with
      | none => simp [q1] at h3
      | some b1 =>
        cases q2 : kitB tt U with
        | none => simp [q1, q2] at h3
        | some b2 =>
          have h3' : some (b1 || b2) = some i := by rw [← h3]; simp [q1, q2]
          cases h3'
          refine ⟨v, t, [.ty T, .ty U], .type tt, [.type T, .type U], b1 || b2, rfl, upd_same, .cons (.ty T) (.cons (.ty U) .nil), (r1.x.grow gr.grow).ty (S1.gr gr).sub htt, ?_, k _ G1 _ (g1.trans gr.grow) (S1.gr gr) (.bl _)⟩
          refine kitAny_cons (kit_ty q1) (fun z => ?_) (fun z => by rw [z]; rfl)
          refine kitAny_cons (kit_ty q2) (fun z2 => ?_) (fun z2 => by rw [z, z2]; rfl)
          rw [z, z2]
          exact kitAny_nil
end
end Fc

/-! Fc, part E: targets, statements, loops, comprehensions, calls. -/
namespace Fc
open PySem PySem.Spec PyProof.Rows L2

/-! ### how a body ends -/
inductive Out where
  | nx | bk | ct | rt (d : D)
structure Fin (p : Par) (w : Dw) (G H : Hp) : Prop where
  sub : Sub G H
  g0 : Sub p.G0 G
  bas : ∀ a o, a ≠ p.dr → p.B a = some o → H a = some o
  kp : ∀ a o, p.B a = some o → p.G0 a = none → G a = none
  draw : DrawAt p w G H
theorem SR.fin {p : Par} {δ : Env} {σ : L2.St} {G H : Hp} {w : Dw} (S : SR p δ σ G H w) : Fin p w G H := ⟨S.sub, S.g0, S.bas, S.kp, S.draw⟩
def sKont (p : Par) (G : Hp) (o : Out) (δ' : Env) (w' : Dw) (E : Ends) : Prop := match o with
  | .nx => ∀ σ' G' H', SR p δ' σ' G' H' w' → Sub G G' → E.nx σ' H'
  | .bk => ∀ σ' G' H', SR p δ' σ' G' H' w' → Sub G G' → E.bk σ' H'
  | .ct => ∀ σ' G' H', SR p δ' σ' G' H' w' → Sub G G' → E.ct σ' H'
  | .rt d => ∀ v G' H', Fin p w' G' H' → Rep p G' v d → E.rt v H'
abbrev F1 := Env → M (Out × Env)
def tsOf (K : PySem.W.Frag) (mg : Str → Option Value) (O : List Nat) (F : F1) : TS := fun E σ H =>
  ∃ (dr : Addr) (B G0 : Hp) (δ : Env) (G : Hp) (w : Dw) (o : Out) (δ' : Env) (w' : Dw), SR ⟨K, mg, dr, O, B, G0⟩ δ σ G H w ∧ F δ w = some ((o, δ'), w') ∧ sKont ⟨K, mg, dr, O, B, G0⟩ G o δ' w' E
def SS (X : Cx) (O : List Nat) (st : Stmt) (F : F1) : Prop := PS X st (tsOf X.K X.mg O F)
def SSs (X : Cx) (O : List Nat) (sts : List Stmt) (F : F1) : Prop := PSs X sts (tsOf X.K X.mg O F)

section
variable {p : Par} {δ : Env} {σ : L2.St} {G H G' H' : Hp} {w : Dw}
/-- a name is stored -/
theorem SR.set {i : Nat} {d : D} {v : V} (S : SR p δ σ G H w) (hi : i ∉ p.O) (r : Rep p G v d) : SR p (δ.set i (some d)) (σ.set i (some v)) G H w where
  sub := S.sub
  g0 := S.g0
  bas := S.bas
  bd := S.bd
  len := by rw [List.length_set, List.length_set]; exact S.len
  vals := fun j e h n => by
    by_cases hj : i = j
    · subst hj
      have hl : i < δ.length := by
        have := (List.getElem?_eq_some_iff.mp h).1
        rwa [List.length_set] at this
      rw [List.getElem?_set_self hl] at h
      cases h
      exact ⟨v, List.getElem?_set_self (by rw [← S.len]; exact hl), r⟩
    · rw [List.getElem?_set_ne hj] at h
      obtain ⟨u, e1, r1⟩ := S.vals j e h n
      exact ⟨u, by rw [List.getElem?_set_ne hj]; exact e1, r1⟩
  owns := fun j e h n l => by
    have hj : i ≠ j := fun z => hi (z ▸ n)
    rw [List.getElem?_set_ne hj] at h
    rw [List.getElem?_set_ne hj]
    exact S.owns j e h n l
  inj := fun a b d1 d2 x na nb la lb h1 h2 h3 h4 => by
    have ha : i ≠ a := fun z => hi (z ▸ na)
    have hb : i ≠ b := fun z => hi (z ▸ nb)
    rw [List.getElem?_set_ne ha] at h1 h3
    rw [List.getElem?_set_ne hb] at h2 h4
    exact S.inj a b d1 d2 x na nb la lb h1 h2 h3 h4
  draw := S.draw
  kp := S.kp
/-- a name takes a new list that stays its own -/
theorem SR.setO {i : Nat} {ds : List D} {vs : List V} {a : Addr} (S : SR p δ σ G H w) (h1 : H a = some (.lst vs)) (h2 : G a = none) (h3 : p.B a = none) (h4 : ∀ j e, j ∈ p.O → D.isL e = true → δ[j]? = some (some e) → σ[j]? ≠ some (some (.ref a))) (r : RepAll p G vs ds) :
    SR p (δ.set i (some (.lst ds))) (σ.set i (some (.ref a))) G H w ∨ i ∉ p.O := by
  by_cases hi : i ∈ p.O
  case neg => exact .inr hi
  refine .inl ⟨S.sub, S.g0, S.bas, S.bd, ?_, fun j e h n => ?_, fun j e h n l => ?_, fun j k d1 d2 x na nb la lb g1 g2 g3 g4 => ?_, S.draw, S.kp⟩
  · rw [List.length_set, List.length_set]; exact S.len
  · have hj : i ≠ j := fun z => by
      subst z
      have hl : i < δ.length := by
        have := (List.getElem?_eq_some_iff.mp h).1
        rwa [List.length_set] at this
      rw [List.getElem?_set_self hl] at h
      cases h
      exact n ⟨hi, rfl⟩
    rw [List.getElem?_set_ne hj] at h
    rw [List.getElem?_set_ne hj]
    exact S.vals j e h n
  · by_cases hj : i = j
    · subst hj
      have hl : i < δ.length := by
        have := (List.getElem?_eq_some_iff.mp h).1
        rwa [List.length_set] at this
      rw [List.getElem?_set_self hl] at h
      cases h
      exact ⟨a, vs, ds, rfl, List.getElem?_set_self (by rw [← S.len]; exact hl), h1, h2, h3, r⟩
    · rw [List.getElem?_set_ne hj] at h
      rw [List.getElem?_set_ne hj]
      exact S.owns j e h n l
  · have key : ∀ (j : Nat) (d1 : D) (x : Addr), j ∈ p.O → (δ.set i (some (D.lst ds)))[j]? = some (some d1) → (σ.set i (some (V.ref a)))[j]? = some (some (V.ref x)) → (j = i ∧ x = a) ∨ (j ≠ i ∧ δ[j]? = some (some d1) ∧ σ[j]? = some (some (.ref x))) := by
      intro j d1 x nj q1 q2
      by_cases hj : i = j
      · subst hj
        have hl : i < σ.length := by
          have := (List.getElem?_eq_some_iff.mp q2).1
          rwa [List.length_set] at this
        rw [List.getElem?_set_self hl] at q2
        cases q2
        exact .inl ⟨rfl, rfl⟩
      · rw [List.getElem?_set_ne hj] at q1 q2
        exact .inr ⟨fun z => hj z.symm, q1, q2⟩
    rcases key j d1 x na g1 g3 with ⟨e1, e2⟩ | ⟨e1, e2, e3⟩
    · rcases key k d2 x nb g2 g4 with ⟨e4, e5⟩ | ⟨e4, e5, e6⟩
      · rw [e1, e4]
      · exact absurd (e2 ▸ e6) (h4 k d2 nb lb e5)
    · rcases key k d2 x nb g2 g4 with ⟨e4, e5⟩ | ⟨e4, e5, e6⟩
      · exact absurd (e5 ▸ e3) (h4 j d1 na la e2)
      · exact S.inj j k d1 d2 x na nb la lb e2 e5 e3 e6
/-- a list of one's own is changed -/
theorem SR.mut {i : Nat} {ds ds' : List D} {vs vs' : List V} {a : Addr} (S : SR p δ σ G H w) (hi : i ∈ p.O) (e : δ[i]? = some (some (.lst ds))) (e2 : σ[i]? = some (some (.ref a))) (h1 : H a = some (.lst vs)) (r : RepAll p G vs' ds') :
    SR p (δ.set i (some (.lst ds'))) σ G (upd H a (.lst vs')) w := by
  obtain ⟨b, us, es, q0, q1, q2, q3, q4, q5⟩ := S.owns i _ e hi rfl
  rw [e2] at q1
  cases q1
  have ne : a ≠ p.dr := own_ne S q4
  have hl : i < δ.length := (List.getElem?_eq_some_iff.mp e).1
  refine ⟨fun b o h => ?_, S.g0, fun b o n h => ?_, S.bd, ?_, fun j f h n => ?_, fun j f h n l => ?_, fun j k d1 d2 x na nb la lb g1 g2 g3 g4 => ?_, ?_, S.kp⟩
  · rw [upd_ne (ne_of_none h q3)]
    exact S.sub b o h
  · rw [upd_ne (ne_of_none h q4)]
    exact S.bas b o n h
  · rw [List.length_set]; exact S.len
  · have hj : i ≠ j := fun z => by
      subst z
      rw [List.getElem?_set_self hl] at h
      cases h
      exact n ⟨hi, rfl⟩
    rw [List.getElem?_set_ne hj] at h
    exact S.vals j f h n
  · by_cases hj : i = j
    · subst hj
      rw [List.getElem?_set_self hl] at h
      cases h
      exact ⟨a, vs', ds', rfl, e2, upd_same, q3, q4, r⟩
    · rw [List.getElem?_set_ne hj] at h
      obtain ⟨b, ws, fs, z0, z1, z2, z3, z4, z5⟩ := S.owns j f h n l
      refine ⟨b, ws, fs, z0, z1, ?_, z3, z4, z5⟩
      have hb : b ≠ a := fun z => hj (S.inj i j _ _ a hi n rfl l e h e2 (z ▸ z1))
      rw [upd_ne hb]
      exact z2
  · have back : ∀ (j : Nat) (d1 : D), d1.isL = true → (δ.set i (some (D.lst ds')))[j]? = some (some d1) → ∃ d2 : D, d2.isL = true ∧ δ[j]? = some (some d2) := by
      intro j d1 l q
      by_cases hj : i = j
      · subst hj; exact ⟨_, rfl, e⟩
      · rw [List.getElem?_set_ne hj] at q
        exact ⟨_, l, q⟩
    obtain ⟨f1, l1, g1'⟩ := back j d1 la g1
    obtain ⟨f2, l2, g2'⟩ := back k d2 lb g2
    exact S.inj j k f1 f2 x na nb l1 l2 g1' g2' g3 g4
  · obtain ⟨ok, ⟨sc, d1, d2⟩, d3⟩ := S.draw
    exact ⟨ok, ⟨sc, by rw [upd_ne (Ne.symm ne)]; exact d1, d2⟩, d3⟩
/-- a new object that nobody of the state knows is changed -/
theorem SR.aside {a : Addr} {o : HO} (S : SR p δ σ G H w) (hG : G a = none) (hB : p.B a = none) (hO : ∀ j e, j ∈ p.O → D.isL e = true → δ[j]? = some (some e) → σ[j]? ≠ some (some (.ref a))) : SR p δ σ G (upd H a o) w := by
  have ne : a ≠ p.dr := own_ne S hB
  refine ⟨fun b u h => ?_, S.g0, fun b u n h => ?_, S.bd, S.len, S.vals, fun j f h n l => ?_, S.inj, ?_, S.kp⟩
  · rw [upd_ne (ne_of_none h hG)]
    exact S.sub b u h
  · rw [upd_ne (ne_of_none h hB)]
    exact S.bas b u n h
  · obtain ⟨b, ws, fs, z0, z1, z2, z3, z4, z5⟩ := S.owns j f h n l
    refine ⟨b, ws, fs, z0, z1, ?_, z3, z4, z5⟩
    have hb : b ≠ a := fun z => hO j f n l h (z ▸ z1)
    rw [upd_ne hb]
    exact z2
  · obtain ⟨ok, ⟨sc, d1, d2⟩, d3⟩ := S.draw
    exact ⟨ok, ⟨sc, by rw [upd_ne (Ne.symm ne)]; exact d1, d2⟩, d3⟩
/-- names forgotten -/
theorem wipe_get {σ : L2.St} {i : Nat} : ∀ {vs : List Nat}, i ∉ vs → (wipe σ vs)[i]? = σ[i]?
  | [], _ => rfl
  | v :: vs, h => by
    unfold wipe
    rw [List.getElem?_set_ne (fun e => h (by simp [e]))]
    exact wipe_get fun z => h (List.mem_cons_of_mem _ z)
def wipeD (δ : Env) : List Nat → Env
  | [] => δ
  | v :: vs => (wipeD δ vs).set v none
theorem wipeD_len (δ : Env) : ∀ vs : List Nat, (wipeD δ vs).length = δ.length
  | [] => rfl
  | v :: vs => by unfold wipeD; rw [List.length_set]; exact wipeD_len δ vs
theorem wipeD_get {δ : Env} {i : Nat} : ∀ {vs : List Nat}, i ∉ vs → (wipeD δ vs)[i]? = δ[i]?
  | [], _ => rfl
  | v :: vs, h => by
    unfold wipeD
    rw [List.getElem?_set_ne (fun e => h (by simp [e]))]
    exact wipeD_get fun z => h (List.mem_cons_of_mem _ z)
theorem wipeD_some {δ : Env} {i : Nat} {d : D} : ∀ {vs : List Nat}, (wipeD δ vs)[i]? = some (some d) → δ[i]? = some (some d) ∧ i ∉ vs
  | [], h => ⟨h, by simp⟩
  | v :: vs, h => by
    unfold wipeD at h
    by_cases hi : v = i
    · subst hi
      by_cases hv : v < (wipeD δ vs).length
      · rw [List.getElem?_set_self hv] at h; cases h
      · rw [List.getElem?_eq_none (by simpa using hv)] at h; cases h
    · rw [List.getElem?_set_ne hi] at h
      obtain ⟨h1, h2⟩ := wipeD_some h
      exact ⟨h1, by simp only [List.mem_cons, not_or]; exact ⟨fun e => hi e.symm, h2⟩⟩
theorem SR.wipe (S : SR p δ σ G H w) (vs : List Nat) : SR p (wipeD δ vs) (wipe σ vs) G H w := by
  refine ⟨S.sub, S.g0, S.bas, S.bd, by rw [wipeD_len, wipe_length]; exact S.len, fun j f h n => ?_, fun j f h n l => ?_, fun j k d1 d2 x na nb la lb g1 g2 g3 g4 => ?_, S.draw, S.kp⟩
  · obtain ⟨h1, h2⟩ := wipeD_some h
    rw [wipe_get h2]
    exact S.vals j f h1 n
  · obtain ⟨h1, h2⟩ := wipeD_some h
    rw [wipe_get h2]
    exact S.owns j f h1 n l
  · obtain ⟨h1, h2⟩ := wipeD_some g1
    obtain ⟨h3, h4⟩ := wipeD_some g2
    rw [wipe_get h2] at g3
    rw [wipe_get h4] at g4
    exact S.inj j k d1 d2 x na nb la lb h1 h3 g3 g4
theorem wipe_same {σ σ' : L2.St} (hl : σ'.length = σ.length) : ∀ (vs : List Nat), (∀ i, i ∉ vs → σ'[i]? = σ[i]?) → L2.wipe σ' vs = L2.wipe σ vs := by
  intro vs h
  refine List.ext_getElem? fun i => ?_
  by_cases hi : i ∈ vs
  · have key : ∀ (τ : L2.St) (vs : List Nat), i ∈ vs → (L2.wipe τ vs)[i]? = if i < τ.length then some none else none := by
      intro τ vs
      induction vs with
      | nil => intro z; cases z
      | cons v vs ih =>
        intro z
        unfold L2.wipe
        by_cases hv : v = i
        · subst hv
          by_cases hlt : v < (L2.wipe τ vs).length
          · rw [List.getElem?_set_self hlt, if_pos (by rw [← wipe_length τ vs]; exact hlt)]
          · rw [List.getElem?_eq_none (by simpa using hlt), if_neg (by rw [← wipe_length τ vs]; exact hlt)]
        · rw [List.getElem?_set_ne hv]
          exact ih (by rcases List.mem_cons.mp z with e | e; exact absurd e.symm hv; exact e)
    rw [key σ' vs hi, key σ vs hi, hl]
  · rw [wipe_get hi, wipe_get hi]
    exact h i hi
theorem wipe_wipe {σ σ' : L2.St} {vs : List Nat} (h : L2.wipe σ' vs = L2.wipe (L2.wipe σ vs) vs) : L2.wipe σ' vs = L2.wipe σ vs := by
  rw [h]
  exact wipe_same (wipe_length σ vs) vs fun i hi => wipe_get hi
end

/-! ### targets -/
inductive Tg where
  | nm (i : Nat)
  | tp (l : List Tg)
mutual
def setT : Tg → D → Env → Option Env
  | .nm i, d, δ => some (δ.set i (some d))
  | .tp l, .tup ds, δ => setTs l ds δ
  | .tp _, _, _ => none
def setTs : List Tg → List D → Env → Option Env
  | [], [], δ => some δ
  | t :: ts, d :: ds, δ => (setT t d δ).bind (setTs ts ds)
  | _, _, _ => none
end
mutual
def Tg.ix : Tg → List Nat
  | .nm i => [i]
  | .tp l => Tg.ixs l
def Tg.ixs : List Tg → List Nat
  | [] => []
  | t :: ts => Tg.ix t ++ Tg.ixs ts
end
def tgOf (K : PySem.W.Frag) (mg : Str → Option Value) (O : List Nat) (T : Tg) : TG := fun v σ H Q =>
  ∃ (dr : Addr) (B G0 : Hp) (δ : Env) (G : Hp) (w : Dw) (d : D) (δ' : Env), SR ⟨K, mg, dr, O, B, G0⟩ δ σ G H w ∧ Rep ⟨K, mg, dr, O, B, G0⟩ G v d ∧ setT T d δ = some δ' ∧
    ∀ σ', SR ⟨K, mg, dr, O, B, G0⟩ δ' σ' G H w → σ'.length = σ.length → (∀ i, i ∉ T.ix → σ'[i]? = σ[i]?) → Q σ' H
def tgsOf (K : PySem.W.Frag) (mg : Str → Option Value) (O : List Nat) (T : List Tg) : TGs := fun v σ H Q =>
  ∃ (dr : Addr) (B G0 : Hp) (δ : Env) (G : Hp) (w : Dw) (d : List D) (δ' : Env), SR ⟨K, mg, dr, O, B, G0⟩ δ σ G H w ∧ RepAll ⟨K, mg, dr, O, B, G0⟩ G v d ∧ setTs T d δ = some δ' ∧
    ∀ σ', SR ⟨K, mg, dr, O, B, G0⟩ δ' σ' G H w → σ'.length = σ.length → (∀ i, i ∉ Tg.ixs T → σ'[i]? = σ[i]?) → Q σ' H
def SG (X : Cx) (O : List Nat) (tg : Expr) (T : Tg) : Prop := PG X tg (tgOf X.K X.mg O T)
def SGs (X : Cx) (O : List Nat) (tgs : List Expr) (T : List Tg) : Prop := PGs X tgs (tgsOf X.K X.mg O T)
theorem PG.weak {X : Cx} {e : Expr} {t t' : TG} (h : PG X e t) (k : ∀ v σ H Q, t' v σ H Q → t v σ H Q) : PG X e t' := ⟨fun pins s σ H v u Q I r q => h.run pins s σ H v u Q I r (k v σ H Q q)⟩
theorem PGs.weak {X : Cx} {e : List Expr} {t t' : TGs} (h : PGs X e t) (k : ∀ v σ H Q, t' v σ H Q → t v σ H Q) : PGs X e t' := ⟨fun pins s σ H v u Q I r q => h.run pins s σ H v u Q I r (k v σ H Q q)⟩

section
variable {X : Cx} {O : List Nat} {al bl cl : Bool} {a b c e tg : Expr} {es tgs : List Expr} {f g h : Env → M D} {fs : Env → M (List D)} {pos : Pos} {T : Tg} {Ts : List Tg}
theorem sg_name (i : Nat) {x : Str} (hN : X.N.Nodup) (hO : i ∉ O := by decide) (hi : X.N[i]? = some x := by rfl) (hx : Loc X.env.scope x := by first | exact Or.inl rfl | exact Or.inr rfl) (hf : X.fn x = true ∨ X.env.scope.names.lookup x = some .local := by first | exact .inl rfl | exact .inr rfl) :
    SG X O (.Name x pos) (.nm i) :=
  PG.weak (pg_name hN hi hx hf) fun v σ H Q ⟨dr, B, G0, δ, G, w, d, δ', S, r, e, k⟩ => by
    have e' : some (δ.set i (some d)) = some δ' := by rw [← e, setT]
    cases e'
    refine k _ (S.set hO r) (by rw [List.length_set]) fun j hj => ?_
    have hj' : i ≠ j := fun z => hj (by rw [Tg.ix]; simp [z])
    rw [List.getElem?_set_ne hj']
theorem sgs_nil : SGs X O [] [] := PGs.weak pgs_nil fun v σ H Q ⟨dr, B, G0, δ, G, w, d, δ', S, r, e, k⟩ => by
  cases r with
  | nil =>
    have e' : some δ = some δ' := by rw [← e, setTs]
    cases e'
    exact ⟨rfl, k σ S rfl fun _ _ => rfl⟩
  | cons r t => rw [setTs] at e; cases e; all_goals simp
theorem sgs_cons (h1 : SG X O tg T) (h2 : SGs X O tgs Ts) (hs : (assignEach (tg :: tgs) X.env).map (·.2) = assign tg X.env :: (assignEach tgs X.env).map (·.2) := by rfl) : SGs X O (tg :: tgs) (T :: Ts) :=
  PGs.weak (pgs_cons h1 h2 hs) fun v σ H Q ⟨dr, B, G0, δ, G, w, d, δ', S, r, e, k⟩ => by
    cases r with
    | nil => rw [setTs] at e; cases e; all_goals simp
    | @cons v0 vs d0 ds r t =>
      rw [setTs] at e
      cases q : setT T d0 δ with
      | none => rw [q] at e; cases e
      | some δ1 =>
        rw [q] at e
        refine ⟨v0, vs, rfl, dr, B, G0, δ, G, w, d0, δ1, S, r, q, fun σ1 S1 l1 k1 => ?_⟩
        refine ⟨dr, B, G0, δ1, G, w, ds, δ', S1, t, e, fun σ2 S2 l2 k2 => k σ2 S2 (l2.trans l1) fun j hj => ?_⟩
        rw [Tg.ixs, List.mem_append, not_or] at hj
        rw [k2 j hj.2, k1 j hj.1]
theorem sg_tup {kk : Nat} (hc : X.calm = true) (h : SGs X O tgs Ts) (hn : (assignEach tgs X.env).length = Ts.length := by rfl) (hst : (assignEach tgs X.env).findIdx? (·.1) = none := by rfl) : SG X O (.Tuple tgs kk pos) (.tp Ts) :=
  PG.weak (pg_tup hc h hn hst) fun v σ H Q ⟨dr, B, G0, δ, G, w, d, δ', S, r, e, k⟩ => by
    have key : ∀ (Ts : List Tg) (ds : List D) (δ : Env), setTs Ts ds δ = some δ' → ds.length = Ts.length := by
      intro Ts
      induction Ts with
      | nil =>
        intro ds δ q
        cases ds with
        | nil => rfl
        | cons => rw [setTs] at q; cases q; all_goals simp
      | cons t ts ih =>
        intro ds δ q
        cases ds with
        | nil => rw [setTs] at q; cases q; all_goals simp
        | cons d ds =>
          rw [setTs] at q
          cases q1 : setT t d δ with
          | none => rw [q1] at q; cases q
          | some δ1 =>
            rw [q1] at q
            have := ih ds δ1 q
            simp [this]
    cases d <;> try (rw [setT] at e <;> first | (cases e; done) | simp)
    rename_i ds
    cases r with
    | @tup a vs _ h1 h2 =>
      refine ⟨a, vs, rfl, sub_t S.sub h1, by rw [h2.length]; exact key Ts ds δ e, dr, B, G0, δ, G, w, ds, δ', S, h2, e, fun σ' S' l' k' => ?_⟩
      exact k σ' S' l' fun i hi => k' i (by rw [Tg.ix] at hi; exact hi)
end
end Fc

/-! Fc, part F: what is walked, statements, loops, comprehensions, calls of defs. -/
namespace Fc
open PySem PySem.Spec PyProof.Rows L2

/-! ### walks -/
structure WalksD (p : Par) (J : It) (Gs : Hp) (Ok : Hp → Prop) (ds : List D) : Prop where
  go : ∀ i G H, Sub Gs G → Sub G H → Ok H → i < ds.length → J.go i H
  yl : ∀ i G H x H', Sub Gs G → Sub G H → Ok H → i < ds.length → J.yld i H x H' → ∃ G' d, ds[i]? = some d ∧ Gr G H G' H' ∧ Rep p G' x d
  st : ∀ G H, Sub Gs G → Sub G H → Ok H → J.stop ds.length H
theorem WalksD.weak {p : Par} {J : It} {Gs : Hp} {Ok Ok' : Hp → Prop} {ds : List D} (h : WalksD p J Gs Ok ds) (k : ∀ H, Ok' H → Ok H) : WalksD p J Gs Ok' ds :=
  ⟨fun i G H a b c => h.go i G H a b (k H c), fun i G H x H' a b c => h.yl i G H x H' a b (k H c), fun G H a b c => h.st G H a b (k H c)⟩
def okOf (al : Bool) (dr : Addr) (H' : Hp) (H1 : Hp) : Prop := al = true → ∀ a o, a ≠ dr → H' a = some o → H1 a = some o
def tiOf (K : PySem.W.Frag) (mg : Str → Option Value) (O : List Nat) (al : Bool) (f : Env → M (List D)) : TI := fun σ H R =>
  ∃ (dr : Addr) (B G0 : Hp) (δ : Env) (G : Hp) (w : Dw) (ds : List D) (w' : Dw), SR ⟨K, mg, dr, O, B, G0⟩ δ σ G H w ∧ f δ w = some (ds, w') ∧
    ∀ J G' H', Grow ⟨K, mg, dr, O, B, G0⟩ G H G' H' → SR ⟨K, mg, dr, O, B, G0⟩ δ σ G' H' w' → WalksD ⟨K, mg, dr, O, B, G0⟩ J G' (okOf al dr H') ds → R J H'
def SI (X : Cx) (O : List Nat) (al : Bool) (tg it : Expr) (f : Env → M (List D)) : Prop := PI X tg it (tiOf X.K X.mg O al f)
section
variable {X : Cx} {O : List Nat} {al bl cl : Bool} {a b c e tg : Expr} {es tgs : List Expr} {f g h : Env → M D} {fs : Env → M (List D)} {pos q : Pos} {T : Tg} {Ts : List Tg}
theorem SI.any (h : SI X O al tg e fs) : SI X O true tg e fs := PI.weak h fun σ H R ⟨dr, B, G0, δ, G, w, ds, w', S, hf, k⟩ =>
  ⟨dr, B, G0, δ, G, w, ds, w', S, hf, fun J G' H' gr S' W => k J G' H' gr S' (W.weak fun H1 o hal => o rfl)⟩
theorem PI.or {t t' : TI} (h : PI X tg e t) (h' : PI X tg e t') : PI X tg e fun σ H R => t σ H R ∨ t' σ H R := ⟨fun pins s σ H R I q => by
  rcases q with q | q
  · exact h.run pins s σ H R I q
  · exact h'.run pins s σ H R I q⟩
def dItems : D → Option (List D)
  | .tup l => some l
  | .lst l => some l
  | _ => none
def itSeq (f : Env → M D) : Env → M (List D) := fun δ => do
  let x ← f δ
  liftO (dItems x)
theorem walksT {p : Par} {G : Hp} {a : Addr} {vs : List V} {ds : List D} {Ok : Hp → Prop} (h : SqT p.K G a vs) (r : RepAll p G vs ds) : WalksD p (Itt p.K a) G Ok ds where
  go := fun i G1 H1 s1 s2 _ hi => walk_tup.goes i H1 (by rw [r.length]; exact hi) (sub_t (s1.trans s2) h)
  yl := fun i G1 H1 x H2 s1 s2 _ hi y => by
    obtain ⟨rfl, e⟩ := walk_tup.yields i H1 x H2 (by rw [r.length]; exact hi) (sub_t (s1.trans s2) h) y
    obtain ⟨d, hd, rd⟩ := r.getV e
    exact ⟨G1, d, hd, .refl s2, rd.mono s1⟩
  st := fun G1 H1 s1 s2 _ => by
    rw [← r.length]
    exact walk_tup.stops H1 (sub_t (s1.trans s2) h)
theorem walksL {p : Par} {G : Hp} {a : Addr} {vs : List V} {ds : List D} {Ok : Hp → Prop} (h : ∀ G1 H1, Sub G G1 → Sub G1 H1 → Ok H1 → H1 a = some (.lst vs)) (r : RepAll p G vs ds) : WalksD p (Itl p.K a) G Ok ds where
  go := fun i G1 H1 s1 s2 o hi => walk_list.goes i H1 (by rw [r.length]; exact hi) (SqL.of (h G1 H1 s1 s2 o))
  yl := fun i G1 H1 x H2 s1 s2 o hi y => by
    obtain ⟨rfl, e⟩ := walk_list.yields i H1 x H2 (by rw [r.length]; exact hi) (SqL.of (h G1 H1 s1 s2 o)) y
    obtain ⟨d, hd, rd⟩ := r.getV e
    exact ⟨G1, d, hd, .refl s2, rd.mono s1⟩
  st := fun G1 H1 s1 s2 o => by
    rw [← r.length]
    exact walk_list.stops H1 (SqL.of (h G1 H1 s1 s2 o))
theorem RepA.walks {p : Par} {G H : Hp} {v : V} {l : List D} (r : RepA p al G H v (.lst l)) : ∃ a vs, v = .ref a ∧ (Sub G H → H a = some (.lst vs)) ∧ (∀ G1 H1, Sub G G1 → Sub G1 H1 → okOf al p.dr H H1 → H1 a = some (.lst vs)) ∧ RepAll p G vs l := by
  cases al with
  | false =>
    cases (show Rep p G v (.lst l) from r) with
    | lst h1 h2 => exact ⟨_, _, rfl, fun s => s _ _ h1, fun G1 H1 s1 s2 _ => s2 _ _ (s1 _ _ h1), h2⟩
  | true =>
    cases (show RepX p G H v (.lst l) from r) with
    | rep r =>
      cases r with
      | lst h1 h2 => exact ⟨_, _, rfl, fun s => s _ _ h1, fun G1 H1 s1 s2 _ => s2 _ _ (s1 _ _ h1), h2⟩
    | own n b h r => exact ⟨_, _, rfl, fun _ => h, fun G1 H1 s1 s2 o => o rfl _ _ n h, r⟩
theorem si_seq (ha : SE X O al a f) : SI X O al tg a (itSeq f) :=
  PI.weak (PI.or (pi_tup ha) (pi_list ha)) fun σ H R ⟨dr, B, G0, δ, G, w, ds, w', S, hf, k⟩ => by
    obtain ⟨x, w1, h1, hf1⟩ := bind_some hf
    obtain ⟨h3, rfl⟩ := liftO_some hf1
    cases x <;> try (cases h3; done)
    · rename_i l
      cases h3
      refine .inl ⟨dr, B, G0, δ, G, w, _, _, S, h1, fun v G1 H1 g1 S1 r1 => ?_⟩
      have r2 := r1.x.tupR
      cases r2 with
      | @tup a vs _ h4 h5 => exact ⟨a, rfl, ⟨vs, sub_t S1.sub h4⟩, k _ G1 H1 g1 S1 (walksT h4 h5)⟩
    · rename_i l
      cases h3
      refine .inr ⟨dr, B, G0, δ, G, w, _, _, S, h1, fun v G1 H1 g1 S1 r1 => ?_⟩
      obtain ⟨a, vs, rfl, h4, h5, h6⟩ := r1.walks
      exact ⟨a, rfl, ⟨vs, SqL.of (h4 S1.sub)⟩, k _ G1 H1 g1 S1 (walksL h5 h6)⟩
/-! ranges -/
def rangeD (lo : Int) (n : Nat) : List D := (List.range n).map fun (i : Nat) => D.int (lo + i)
theorem rangeD_len (lo : Int) (n : Nat) : (rangeD lo n).length = n := by unfold rangeD; simp
theorem walksR {p : Par} {G : Hp} {lo : Int} {n : Nat} {Ok : Hp → Prop} : WalksD p (Itr lo n) G Ok (rangeD lo n) where
  go := fun i G1 H1 s1 s2 _ hi => by rw [rangeD_len] at hi; exact hi
  yl := fun i G1 H1 x H2 s1 s2 _ hi y => by
    obtain ⟨rfl, rfl⟩ := y
    rw [rangeD_len] at hi
    exact ⟨G1, .int (lo + i), by unfold rangeD; simp [hi], .refl s2, .int _⟩
  st := fun G1 H1 s1 s2 _ => by rw [rangeD_len]; exact Nat.le_refl _
def BIG : Int := 1000000000
def dRange1 : List D → Option (List D)
  | [.int n] => if -BIG ≤ n ∧ n ≤ BIG then some (rangeD 0 n.toNat) else none
  | _ => none
def dRange2 : List D → Option (List D)
  | [.int i, .int n] => if -BIG ≤ i ∧ i ≤ BIG ∧ -BIG ≤ n ∧ n ≤ BIG then some (rangeD i (n - i).toNat) else none
  | _ => none
def itCall (op : List D → Option (List D)) (fs : Env → M (List D)) : Env → M (List D) := fun δ => do
  let xs ← fs δ
  liftO (op xs)
theorem si_range1 (hm : X.mg "range" = none) (hg : Gl X "range") (ha : SA X O true [a] fs) (hs : starEach [a] X.env = [(false, eval a X.env)] := by rfl) : SI X O false tg (.Call (.Name "range" q) [a] [] pos) (itCall dRange1 fs) :=
  PI.weak (pi_range1 hg hm ha hs) fun σ H R ⟨dr, B, G0, δ, G, w, ds, w', S, hf, k⟩ => by
    obtain ⟨xs, w1, h1, hf1⟩ := bind_some hf
    obtain ⟨h3, rfl⟩ := liftO_some hf1
    refine ⟨dr, B, G0, δ, G, w, xs, _, S, h1, fun vs G1 H1 g1 S1 r1 => ?_⟩
    match xs, h3, r1 with
    | [.int n], h3, r1 =>
      simp only [dRange1] at h3
      split at h3
      · rename_i hc
        cases h3
        obtain ⟨v, rfl, rr⟩ := r1.one
        have hB : BIG = 1000000000 := rfl
        exact ⟨n, by rw [rr.x.int], by omega, by omega, k _ G1 H1 g1 S1 walksR⟩
      · cases h3
theorem si_range2 (hm : X.mg "range" = none) (hg : Gl X "range") (ha : SA X O true [a, b] fs) (hs : starEach [a, b] X.env = [(false, eval a X.env), (false, eval b X.env)] := by rfl) (hs2 : starEach [b] X.env = [(false, eval b X.env)] := by rfl) : SI X O false tg (.Call (.Name "range" q) [a, b] [] pos) (itCall dRange2 fs) :=
  PI.weak (pi_range2 hg hm ha hs hs2) fun σ H R ⟨dr, B, G0, δ, G, w, ds, w', S, hf, k⟩ => by
    obtain ⟨xs, w1, h1, hf1⟩ := bind_some hf
    obtain ⟨h3, rfl⟩ := liftO_some hf1
    refine ⟨dr, B, G0, δ, G, w, xs, _, S, h1, fun vs G1 H1 g1 S1 r1 => ?_⟩
    match xs, h3, r1 with
    | [.int i, .int n], h3, r1 =>
      simp only [dRange2] at h3
      split at h3
      · rename_i hc
        cases h3
        obtain ⟨v, u, rfl, rr, rr2⟩ := r1.two
        have hB : BIG = 1000000000 := rfl
        exact ⟨i, n, by rw [rr.x.int, rr2.x.int], ⟨by omega, by omega, by omega, by omega⟩, k _ G1 H1 g1 S1 walksR⟩
      · cases h3
end

/-! ### statements -/
section
variable {X : Cx} {O : List Nat} {al bl cl : Bool} {a b c e tg it : Expr} {es tgs : List Expr} {f g h : Env → M D} {fs : Env → M (List D)} {pos q : Pos} {T : Tg} {Ts : List Tg} {st : Stmt} {sts rest : List Stmt} {F F' : F1} {t : Env → M Bool}
def sNil : F1 := fun δ => pure (.nx, δ)
def sSeq (F F' : F1) : F1 := fun δ => do
  let (o, δ1) ← F δ
  match o with
  | .nx => F' δ1
  | o => pure (o, δ1)
theorem sKont.mono {p : Par} {G G1 : Hp} {o : Out} {δ : Env} {w : Dw} {E : Ends} (s : Sub G G1) (h : sKont p G o δ w E) : sKont p G1 o δ w E := by
  cases o with
  | nx => exact fun σ' G' H' S s' => h σ' G' H' S (s.trans s')
  | bk => exact fun σ' G' H' S s' => h σ' G' H' S (s.trans s')
  | ct => exact fun σ' G' H' S s' => h σ' G' H' S (s.trans s')
  | rt d => exact h
theorem ss_nil : SSs X O [] sNil := PSs.weak pss_nil fun E σ H ⟨dr, B, G0, δ, G, w, o, δ', w', S, hf, k⟩ => by
  obtain ⟨e, rfl⟩ := pure_some hf
  cases e
  exact k σ G H S (Sub.refl G)
theorem ss_cons (h1 : SS X O st F) (h2 : SSs X O rest F') : SSs X O (st :: rest) (sSeq F F') :=
  PSs.weak (pss_cons h1 h2) fun E σ H ⟨dr, B, G0, δ, G, w, o, δ', w', S, hf, k⟩ => by
    obtain ⟨⟨o1, δ1⟩, w1, h1, hf1⟩ := bind_some hf
    refine ⟨dr, B, G0, δ, G, w, o1, δ1, w1, S, h1, ?_⟩
    cases o1 with
    | nx => exact fun σ' G' H' S' s' => ⟨dr, B, G0, δ1, G', w1, o, δ', w', S', hf1, k.mono s'⟩
    | bk =>
      obtain ⟨e, rfl⟩ := pure_some hf1
      cases e
      exact k
    | ct =>
      obtain ⟨e, rfl⟩ := pure_some hf1
      cases e
      exact k
    | rt d =>
      obtain ⟨e, rfl⟩ := pure_some hf1
      cases e
      exact k
theorem ss_one (h1 : SS X O st F) : SSs X O [st] F := pss_one h1
def sRet (f : Env → M D) : F1 := fun δ => do
  let d ← f δ
  pure (.rt d, δ)
/-- any value that may be read now may be handed back -/
theorem RepX.freeze {p : Par} {G H : Hp} {w : Dw} {v : V} {d : D} (r : RepX p G H v d) (n : Fin p w G H) : ∃ G', Fin p w G' H ∧ Rep p G' v d := by
  cases r with
  | rep r => exact ⟨G, n, r⟩
  | @own a vs ds h1 h2 h3 h4 =>
    have sg : Sub G (upd G a (.lst vs)) := fun b o q => by
      by_cases hb : b = a
      · subst hb
        have := n.sub b o q
        rw [h3] at this
        cases this
        exact upd_same
      · rw [upd_ne hb]
        exact q
    refine ⟨upd G a (.lst vs), ⟨fun b o q => ?_, n.g0.trans sg, n.bas, fun b o q1 q2 => ?_, ?_⟩, .lst upd_same (h4.mono sg)⟩
    · by_cases hb : b = a
      · subst hb
        rw [upd_same] at q
        cases q
        exact h3
      · rw [upd_ne hb] at q
        exact n.sub b o q
    · have hb : b ≠ a := fun z => by rw [z, h2] at q1; cases q1
      rw [upd_ne hb]
      exact n.kp b o q1 q2
    · obtain ⟨ok, ⟨sc, d1, d2⟩, d3⟩ := n.draw
      exact ⟨ok, ⟨sc, d1, sub_l sg d2⟩, by rw [upd_ne (Ne.symm h1)]; exact d3⟩
theorem ss_ret (ha : SE X O al e f) : SS X O (.Return (some e) pos) (sRet f) :=
  PS.weak (ps_ret ha) fun E σ H ⟨dr, B, G0, δ, G, w, o, δ', w', S, hf, k⟩ => by
    obtain ⟨d, w1, h1, hf1⟩ := bind_some hf
    obtain ⟨e, rfl⟩ := pure_some hf1
    cases e
    refine ⟨dr, B, G0, δ, G, w, d, w1, S, h1, fun v G1 H1 g1 S1 r1 => ?_⟩
    obtain ⟨G2, n, r2⟩ := r1.x.freeze S1.fin
    exact k v G2 H1 n r2
def sRetN : F1 := fun δ => pure (.rt .non, δ)
theorem ss_retN : SS X O (.Return none pos) sRetN := PS.weak ps_retN fun E σ H ⟨dr, B, G0, δ, G, w, o, δ', w', S, hf, k⟩ => by
  obtain ⟨e, rfl⟩ := pure_some hf
  cases e
  exact k .non G H S.fin .non
def sBk : F1 := fun δ => pure (.bk, δ)
def sCt : F1 := fun δ => pure (.ct, δ)
theorem ss_pass : SS X O (.Pass pos) sNil := PS.weak ps_pass fun E σ H ⟨dr, B, G0, δ, G, w, o, δ', w', S, hf, k⟩ => by
  obtain ⟨e, rfl⟩ := pure_some hf
  cases e
  exact k σ G H S (Sub.refl G)
theorem ss_break : SS X O (.Break pos) sBk := PS.weak ps_break fun E σ H ⟨dr, B, G0, δ, G, w, o, δ', w', S, hf, k⟩ => by
  obtain ⟨e, rfl⟩ := pure_some hf
  cases e
  exact k σ G H S (Sub.refl G)
theorem ss_continue : SS X O (.Continue pos) sCt := PS.weak ps_continue fun E σ H ⟨dr, B, G0, δ, G, w, o, δ', w', S, hf, k⟩ => by
  obtain ⟨e, rfl⟩ := pure_some hf
  cases e
  exact k σ G H S (Sub.refl G)
def sDrop (f : Env → M D) : F1 := fun δ => do
  let _ ← f δ
  pure (.nx, δ)
theorem ss_expr (ha : SE X O al e f) (hs : swapsWith e none pos.line X.env = pure false := by rfl) : SS X O (.Expr e pos) (sDrop f) :=
  PS.weak (ps_expr ha hs) fun E σ H ⟨dr, B, G0, δ, G, w, o, δ', w', S, hf, k⟩ => by
    obtain ⟨d, w1, h1, hf1⟩ := bind_some hf
    obtain ⟨e, rfl⟩ := pure_some hf1
    cases e
    exact ⟨dr, B, G0, δ, G, w, d, w1, S, h1, fun v G1 H1 g1 S1 r1 => k σ G1 H1 S1 g1.g⟩
/-- target = value -/
def sAsg (T : Tg) (f : Env → M D) : F1 := fun δ => do
  let d ← f δ
  let δ' ← liftO (setT T d δ)
  pure (.nx, δ')
theorem tsOf_asg {K : PySem.W.Frag} {mg : Str → Option Value} {E : Ends} {σ : L2.St} {H : Hp} (q : tsOf K mg O (sAsg T f) E σ H) : tAsg (tOf K mg O false f) (tgOf K mg O T) E σ H := by
  obtain ⟨dr, B, G0, δ, G, w, o, δ', w', S, hf, k⟩ := q
  obtain ⟨d, w1, h1, hf1⟩ := bind_some hf
  obtain ⟨δ1, w2, h2, hf2⟩ := bind_some hf1
  obtain ⟨h3, rfl⟩ := liftO_some h2
  obtain ⟨e, rfl⟩ := pure_some hf2
  cases e
  exact ⟨dr, B, G0, δ, G, w, d, _, S, h1, fun v G1 H1 g1 S1 r1 => ⟨dr, B, G0, δ, G1, _, d, _, S1, r1, h3, fun σ' S' _ _ => k σ' G1 H1 S' g1.g⟩⟩
theorem ss_asg (ha : SE X O false e f) (hg : SG X O tg T) (hs : swapsWithSole [tg] e pos.line X.env = pure false := by rfl) (hw : swappedStores [tg] e X.env = pure none := by rfl)
    (h1 : (assignEach [tg] X.env).map (·.2) = [assign tg X.env] := by rfl) : SS X O (.Assign [tg] e pos) (sAsg T f) :=
  PS.weak (ps_asg ha hg hs hw h1) fun E σ H q => tsOf_asg q
theorem ss_set (i : Nat) {x : Str} {p2 : Pos} (hN : X.N.Nodup) (ha : SE X O false e f) (hO : i ∉ O := by decide) (hi : X.N[i]? = some x := by rfl) (hx : Loc X.env.scope x := by first | exact Or.inl rfl | exact Or.inr rfl) (hs : swapsWith e (some (.Name x p2)) pos.line X.env = pure false := by rfl)
    (hf : X.fn x = true ∨ X.env.scope.names.lookup x = some .local := by first | exact .inl rfl | exact .inr rfl) : SS X O (.Assign [.Name x p2] e pos) (sAsg (.nm i) f) :=
  PS.weak (ps_set hN hi hx ha hs hf) fun E σ H q => by
    obtain ⟨dr, B, G0, δ, G, w, o, δ', w', S, hf, k⟩ := q
    obtain ⟨d, w1, h1, hf1⟩ := bind_some hf
    obtain ⟨δ1, w2, h2, hf2⟩ := bind_some hf1
    obtain ⟨h3, rfl⟩ := liftO_some h2
    obtain ⟨e, rfl⟩ := pure_some hf2
    cases e
    have e' : some (δ.set i (some d)) = some δ' := by rw [← h3, setT]
    cases e'
    exact ⟨dr, B, G0, δ, G, w, d, _, S, h1, fun v G1 H1 g1 S1 r1 => k _ G1 H1 (S1.set hO r1) g1.g⟩
/-- a, b = x, y of two local names -/
def sPar (i j : Nat) (fs : Env → M (List D)) : F1 := fun δ => do
  let xs ← fs δ
  match xs with
  | [x, y] => pure (.nx, (δ.set i (some x)).set j (some y))
  | _ => fail
theorem ss_par (i j : Nat) {x y : Str} {px py pt : Pos} {kt k2 pt2} (hc : X.calm = true) (hN : X.N.Nodup) (ha : SA X O false [a, b] fs) (hO : i ∉ O := by decide) (hO2 : j ∉ O := by decide) (hi : X.N[i]? = some x := by rfl) (hj : X.N[j]? = some y := by rfl) (hij : i ≠ j := by decide)
    (hx : X.env.scope.names.lookup x = some .local := by rfl) (hy : X.env.scope.names.lookup y = some .local := by rfl)
    (hw : swappedStores [.Tuple [.Name x px, .Name y py] kt pt] (.Tuple [a, b] k2 pt2) X.env = pure (some [x, y]) := by rfl)
    (hs : swapsWithSole [.Tuple [.Name x px, .Name y py] kt pt] (.Tuple [a, b] k2 pt2) pos.line X.env = pure false := by rfl) :
    SS X O (.Assign [.Tuple [.Name x px, .Name y py] kt pt] (.Tuple [a, b] k2 pt2) pos) (sPar i j fs) :=
  PS.weak (ps_par hc hN hi hj hij hx hy ha hw hs) fun E σ H ⟨dr, B, G0, δ, G, w, o, δ', w', S, hf, k⟩ => by
    obtain ⟨xs, w1, h1, hf1⟩ := bind_some hf
    refine ⟨dr, B, G0, δ, G, w, xs, w1, S, h1, fun vs G1 H1 g1 S1 r1 => ?_⟩
    match xs, hf1, r1 with
    | [d1, d2], hf1, r1 =>
      obtain ⟨e, rfl⟩ := pure_some hf1
      cases e
      obtain ⟨v, u, rfl, ra, rb⟩ := r1.two
      exact ⟨v, u, rfl, k _ G1 H1 ((S1.set hO ra).set hO2 rb) g1.g⟩
def sIf (t : Env → M Bool) (F F' : F1) : F1 := fun δ => do
  let k ← t δ
  if k = true then F δ else F' δ
theorem ss_if {A C : List Stmt} (hc : ST X O c t) (h1 : SSs X O A F) (h2 : SSs X O C F') : SS X O (.If c A C pos) (sIf t F F') :=
  PS.weak (ps_if hc h1 h2) fun E σ H ⟨dr, B, G0, δ, G, w, o, δ', w', S, hf, k⟩ => by
    obtain ⟨b, w1, h1, hf1⟩ := bind_some hf
    refine ⟨dr, B, G0, δ, G, w, b, w1, S, h1, fun G1 H1 g1 S1 => ?_⟩
    cases b with
    | true =>
      rw [if_pos rfl] at hf1 ⊢
      exact ⟨dr, B, G0, δ, G1, w1, o, δ', w', S1, hf1, k.mono g1.g⟩
    | false =>
      rw [if_neg Bool.false_ne_true] at hf1 ⊢
      exact ⟨dr, B, G0, δ, G1, w1, o, δ', w', S1, hf1, k.mono g1.g⟩
/-- while, at most n turns -/
def whileL : Nat → (Env → M Bool) → F1 → F1
  | 0, _, _ => fun _ => fail
  | n + 1, t, F => fun δ => do
    let k ← t δ
    if k = true then do
      let (o, δ1) ← F δ
      match o with
      | .nx => whileL n t F δ1
      | .ct => whileL n t F δ1
      | .bk => pure (.nx, δ1)
      | .rt d => pure (.rt d, δ1)
    else pure (.nx, δ)
theorem ss_while {A : List Stmt} (n : Nat) (hp : PassesOwn (model X.prog X.w) X.A X.env X.xe) (hc : ST X O c t) (h1 : SSs X O A F) : SS X O (.While c A [] pos) (whileL n t F) :=
  PS.weak (ps_while hp hc h1) fun E σ H ⟨dr, B, G0, δ, G, w, o, δ', w', S, hf, k⟩ => by
    refine ⟨fun m σ1 H1 => ∃ δ1 G1 w1, SR ⟨X.K, X.mg, dr, O, B, G0⟩ δ1 σ1 G1 H1 w1 ∧ Sub G G1 ∧ whileL m t F δ1 w1 = some ((o, δ'), w'), ⟨n, δ, G, w, S, Sub.refl G, hf⟩, ?_⟩
    rintro m σ1 H1 ⟨δ1, G1, w1, S1, s1, hm⟩
    cases m with
    | zero => cases hm
    | succ m =>
      obtain ⟨b, w2, h2, hm2⟩ := bind_some hm
      refine ⟨dr, B, G0, δ1, G1, w1, b, w2, S1, h2, fun G2 H2 g2 S2 => ?_⟩
      cases b with
      | false =>
        rw [if_neg Bool.false_ne_true] at hm2 ⊢
        obtain ⟨e, rfl⟩ := pure_some hm2
        cases e
        exact k σ1 G2 H2 S2 (s1.trans g2.g)
      | true =>
        rw [if_pos rfl] at hm2 ⊢
        obtain ⟨⟨o3, δ3⟩, w3, h3, hm3⟩ := bind_some hm2
        refine ⟨fun σ' H' => ∃ δ4 G4 w4, SR ⟨X.K, X.mg, dr, O, B, G0⟩ δ4 σ' G4 H' w4 ∧ Sub G G4 ∧ whileL m t F δ4 w4 = some ((o, δ'), w'), fun σ' H' q => ⟨m, Nat.lt_succ_self m, q⟩, ?_⟩
        refine ⟨dr, B, G0, δ1, G2, w2, o3, δ3, w3, S2, h3, ?_⟩
        cases o3 with
        | nx => exact fun σ' G' H' S' s' => ⟨δ3, G', w3, S', (s1.trans g2.g).trans s', hm3⟩
        | ct => exact fun σ' G' H' S' s' => ⟨δ3, G', w3, S', (s1.trans g2.g).trans s', hm3⟩
        | bk =>
          obtain ⟨e, rfl⟩ := pure_some hm3
          cases e
          exact fun σ' G' H' S' s' => k σ' G' H' S' ((s1.trans g2.g).trans s')
        | rt d =>
          obtain ⟨e, rfl⟩ := pure_some hm3
          cases e
          exact k
/-- for -/
def forL (T : Tg) (F : F1) : List D → F1
  | [] => fun δ => pure (.nx, δ)
  | d :: ds => fun δ => do
    let δ1 ← liftO (setT T d δ)
    let (o, δ2) ← F δ1
    match o with
    | .nx => forL T F ds δ2
    | .ct => forL T F ds δ2
    | .bk => pure (.nx, δ2)
    | .rt d => pure (.rt d, δ2)
def sFor (T : Tg) (fs : Env → M (List D)) (F : F1) : F1 := fun δ => do
  let ds ← fs δ
  forL T F ds δ
theorem ss_for {A : List Stmt} (hp : PassesOwn (model X.prog X.w) X.A X.env X.xe) (hc : X.calm = true) (hi : SI X O false tg it fs) (hg : SG X O tg T) (hb : SSs X O A F) (hs : ∀ x, foldedSetIterable it X.env x = pure x := by intro _; rfl) : SS X O (.For tg it A [] pos) (sFor T fs F) :=
  PS.weak (ps_for hp hc hi hg hb hs) fun E σ H ⟨dr, B, G0, δ, G, w, o, δ', w', S, hf, k⟩ => by
    obtain ⟨ds, w1, h1, hf1⟩ := bind_some hf
    refine ⟨dr, B, G0, δ, G, w, ds, w1, S, h1, fun J Gs Hs gs Ss W => ?_⟩
    refine ⟨fun i m σ1 H1 => m = ds.length - i ∧ i ≤ ds.length ∧ ∃ δ1 G1 w1, SR ⟨X.K, X.mg, dr, O, B, G0⟩ δ1 σ1 G1 H1 w1 ∧ Sub Gs G1 ∧ forL T F (ds.drop i) δ1 w1 = some ((o, δ'), w'), ⟨_, rfl, Nat.zero_le _, δ, Gs, w1, Ss, Sub.refl _, hf1⟩, ?_⟩
    rintro i m σ1 H1 ⟨rfl, hi, δ1, G1, w2, S1, s1, hm⟩
    have ok : okOf false dr Hs H1 := fun z => nomatch z
    by_cases hlt : i < ds.length
    · refine .inr ⟨W.go i G1 H1 s1 S1.sub ok hlt, fun σ' H' => i + 1 ≤ ds.length ∧ ∃ δ4 G4 w4, SR ⟨X.K, X.mg, dr, O, B, G0⟩ δ4 σ' G4 H' w4 ∧ Sub Gs G4 ∧ forL T F (ds.drop (i + 1)) δ4 w4 = some ((o, δ'), w'), fun σ' H' q => ⟨_, by omega, rfl, q⟩, fun x H2 y => ?_⟩
      obtain ⟨G2, d, hd, gr, rd⟩ := W.yl i G1 H1 x H2 s1 S1.sub ok hlt y
      have ed : ds.drop i = d :: ds.drop (i + 1) := by
        obtain ⟨h', e'⟩ := List.getElem?_eq_some_iff.mp hd
        rw [List.drop_eq_getElem_cons hlt, e']
      rw [ed] at hm
      obtain ⟨δ3, w3, h3, hm3⟩ := bind_some hm
      obtain ⟨h4, rfl⟩ := liftO_some h3
      obtain ⟨⟨o5, δ5⟩, w5, h5, hm5⟩ := bind_some hm3
      refine ⟨dr, B, G0, δ1, G2, _, d, δ3, S1.gr gr, rd, h4, fun σ' S' _ _ => ?_⟩
      refine ⟨dr, B, G0, δ3, G2, _, o5, δ5, w5, S', h5, ?_⟩
      cases o5 with
      | nx => exact fun σ' G' H' S' s' => ⟨hlt, δ5, G', w5, S', (s1.trans gr.g).trans s', hm5⟩
      | ct => exact fun σ' G' H' S' s' => ⟨hlt, δ5, G', w5, S', (s1.trans gr.g).trans s', hm5⟩
      | bk =>
        obtain ⟨e, rfl⟩ := pure_some hm5
        cases e
        exact fun σ' G' H' S' s' => k σ' G' H' S' (((gs.g.trans s1).trans gr.g).trans s')
      | rt d =>
        obtain ⟨e, rfl⟩ := pure_some hm5
        cases e
        exact k
    · have e : i = ds.length := by omega
      subst e
      rw [List.drop_length] at hm
      obtain ⟨e, rfl⟩ := pure_some hm
      cases e
      exact .inl ⟨W.st G1 H1 s1 S1.sub ok, k σ1 G1 H1 S1 (gs.g.trans s1)⟩
end
end Fc

/-! Fc, part G: comprehensions, lists of one's own, calls of defs. -/
namespace Fc
open PySem PySem.Spec PyProof.Rows L2

section
variable {X : Cx} {O : List Nat} {al bl cl : Bool} {a b c e tg it : Expr} {es tgs ifs : List Expr} {f g h : Env → M D} {fs : Env → M (List D)} {pos q : Pos} {T : Tg} {Ts : List Tg} {st : Stmt} {sts rest : List Stmt} {F F' : F1} {t : Env → M Bool}
def lcL (T : Tg) (t : Env → M Bool) (f : Env → M D) (δ : Env) : List D → M (List D)
  | [] => pure []
  | d :: ds => do
    let δ1 ← liftO (setT T d δ)
    let k ← t δ1
    if k = true then do
      let y ← f δ1
      let ys ← lcL T t f δ ds
      pure (y :: ys)
    else lcL T t f δ ds
def eLc (own : List Nat) (T : Tg) (fs : Env → M (List D)) (t : Env → M Bool) (f : Env → M D) : Env → M D := fun δ => do
  let ds ← fs δ
  if ds.length ≤ LIM then do
    let ys ← lcL T t f (wipeD δ own) ds
    pure (.lst ys)
  else fail
theorem tf_lc {K : PySem.W.Frag} {mg : Str → Option Value} {own : List Nat} (hT : ∀ i ∈ T.ix, i ∈ own) {σ : L2.St} {H : Hp} {Q : VK} (q : tfOf K mg O (eLc own T fs t f) σ H Q) :
    tLc (tiOf K mg O true fs) (tgOf K mg O T) (ttOf K mg O t) (tOf K mg O false f) own σ H Q := by
  obtain ⟨dr, B, G0, δ, G, w, d, w', S, hf, k⟩ := q
  obtain ⟨ds, w1, h1, hf1⟩ := bind_some hf
  have hlen : ds.length ≤ LIM := by
    by_cases hl : ds.length ≤ LIM
    · exact hl
    · rw [if_neg hl] at hf1
      cases hf1
  rw [if_pos hlen] at hf1
  obtain ⟨ys, w2, h2, hf2⟩ := bind_some hf1
  obtain ⟨e0, rfl⟩ := pure_some hf2
  subst e0
  refine ⟨dr, B, G0, δ, G, w, ds, w1, S, h1, fun J Gs Hs gs Ss W => fun Dn hD => ?_⟩
  have hDne : Dn ≠ dr := fun z => by
    obtain ⟨o, q⟩ := Ss.drS
    have q' : Hs dr = some o := q
    rw [← z, hD] at q'
    cases q'
  have hDG : Gs Dn = none := sub_none Ss.sub hD
  have hDB : B Dn = none := by
    cases q : B Dn with
    | none => rfl
    | some o =>
      have := Ss.bas Dn o hDne q
      rw [hD] at this
      cases this
  have hDH : H Dn = none := by
    cases q : H Dn with
    | none => rfl
    | some o =>
      have := gs.h Dn o hDne q
      rw [hD] at this
      cases this
  have hDO : ∀ (j : Nat) (e : D), j ∈ O → e.isL = true → δ[j]? = some (some e) → σ[j]? ≠ some (some (.ref Dn)) := fun j e hj le he hs => by
    obtain ⟨a', vs', ds', z0, z1, z2, _⟩ := Ss.owns j e he hj le
    rw [hs] at z1
    cases z1
    rw [hD] at z2
    cases z2
  let Iv : Nat → Hp → Prop := fun i H1 => i ≤ ds.length ∧ ∃ (G1 : Hp) (w1 : Dw) (acc : List D) (va : List V) (ys2 : List D), SR ⟨K, mg, dr, O, B, G0⟩ δ σ G1 H1 w1 ∧ Sub Gs G1 ∧ (∀ a o, a ≠ dr → Hs a = some o → H1 a = some o) ∧
    (∃ o, H1 dr = some o) ∧ (∀ a o, Hs a = some o → Gs a = none → G1 a = none) ∧
    H1 Dn = some (.lst va) ∧ G1 Dn = none ∧ RepAll ⟨K, mg, dr, O, B, G0⟩ G1 va acc ∧ acc.length ≤ i ∧ lcL T t f (wipeD δ own) (ds.drop i) w1 = some (ys2, w2) ∧ acc ++ ys2 = ys
  refine ⟨fun i m H1 => m = ds.length - i ∧ Iv i H1, ⟨_, rfl, Nat.zero_le _, Gs, w1, [], [], ys, ?_, Sub.refl _, fun a o n q => ?_, ?_, fun _ _ _ n => n, upd_same, hDG, .nil, Nat.le_refl _, h2, rfl⟩, ?_⟩
  · exact Ss.gr (Gr.laid Ss.sub hD)
  · rw [upd_ne (ne_of_none q hD)]
    exact q
  · obtain ⟨o, q⟩ := Ss.drS
    exact ⟨o, by rw [upd_ne (Ne.symm hDne)]; exact q⟩
  · rintro i m H1 ⟨rfl, hi, G1, w3, acc, va, ys2, S1, s1, b1, dr1, kk1, hva, hG1, rva, hal, hm, hys⟩
    have ok : okOf true dr Hs H1 := fun _ => b1
    by_cases hlt : i < ds.length
    · refine .inr ⟨W.go i G1 H1 s1 S1.sub ok hlt, Iv (i + 1), fun H' q => ⟨_, by omega, rfl, q⟩, fun x H2 y => ?_⟩
      obtain ⟨G2, d0, hd, gr, rd⟩ := W.yl i G1 H1 x H2 s1 S1.sub ok hlt y
      have ed : ds.drop i = d0 :: ds.drop (i + 1) := by
        obtain ⟨h', e'⟩ := List.getElem?_eq_some_iff.mp hd
        rw [List.drop_eq_getElem_cons hlt, e']
      rw [ed] at hm
      obtain ⟨δ3, w4, h3, hm3⟩ := bind_some hm
      obtain ⟨h4, rfl⟩ := liftO_some h3
      obtain ⟨b5, w5, h5, hm5⟩ := bind_some hm3
      have S2 := S1.gr gr
      refine ⟨dr, B, G0, wipeD δ own, G2, _, d0, δ3, S2.wipe own, rd, h4, fun σ2 Sσ l2 k2 => ⟨wipe_wipe (wipe_same l2 own fun j hj => k2 j fun z => hj (hT j z)), ?_⟩⟩
      refine ⟨dr, B, G0, δ3, G2, _, b5, w5, Sσ, h5, fun G3 H3 g3 S3 => ?_⟩
      -- the outer state, and what is known of the new list, carried on
      have keep : ∀ (G3 H3 : Hp) (w5 : Dw), Grow ⟨K, mg, dr, O, B, G0⟩ G2 H2 G3 H3 → SR ⟨K, mg, dr, O, B, G0⟩ δ3 σ2 G3 H3 w5 → SR ⟨K, mg, dr, O, B, G0⟩ δ σ G3 H3 w5 ∧ Sub Gs G3 ∧ (∀ a o, a ≠ dr → Hs a = some o → H3 a = some o) ∧ (∃ o, H3 dr = some o) ∧ (∀ a o, Hs a = some o → Gs a = none → G3 a = none) ∧
          H3 Dn = some (.lst va) ∧ G3 Dn = none ∧ RepAll ⟨K, mg, dr, O, B, G0⟩ G3 va acc := fun G3 H3 w5 g3 S3 => by
        have So : SR ⟨K, mg, dr, O, B, G0⟩ δ σ G3 H3 w5 := S2.step g3 S3.sub S3.draw
        refine ⟨So, (s1.trans gr.g).trans g3.g, fun a o n q => g3.h a o n (gr.h a o (b1 a o n q)), So.drS, fun a o q1 q2 => ?_, g3.h _ _ hDne (gr.h _ _ hva), g3.k _ _ (gr.h _ _ hva) (gr.k _ _ hva hG1), rva.mono (gr.g.trans g3.g)⟩
        by_cases z : a = dr
        · rw [z]; exact S3.draw.out
        · have q3 := b1 a o z q1
          exact g3.k a o (gr.h a o q3) (gr.k a o q3 (kk1 a o q1 q2))
      cases b5 with
      | false =>
        rw [if_neg Bool.false_ne_true] at hm5
        show Iv (i + 1) H3
        obtain ⟨S4, s4, b4, dr4, kk4, v4, n4, r4⟩ := keep G3 H3 w5 g3 S3
        exact ⟨hlt, G3, w5, acc, va, ys2, S4, s4, b4, dr4, kk4, v4, n4, r4, by omega, hm5, hys⟩
      | true =>
        rw [if_pos rfl] at hm5
        show tOf K mg O false f σ2 H3 fun y H4 => ∃ acc, H4 Dn = some (HO.lst acc) ∧ acc.length < sizeLine ∧ Iv (i + 1) (upd H4 Dn (HO.lst (acc ++ [y])))
        obtain ⟨y6, w6, h6, hm6⟩ := bind_some hm5
        obtain ⟨ys7, w7, h7, hm7⟩ := bind_some hm6
        obtain ⟨e8, rfl⟩ := pure_some hm7
        refine ⟨dr, B, G0, δ3, G3, w5, y6, w6, S3, h6, fun yv G4 H4 g4 S4 ry => ?_⟩
        obtain ⟨S5, s5, b5, dr5, kk5, v5, n5, r5⟩ := keep G4 H4 w6 (g3.trans g4) S4
        refine ⟨va, v5, lim_lt ?_, hlt, G4, w6, acc ++ [y6], va ++ [yv], ys7, S5.aside n5 hDB hDO, s5, fun a o n q => ?_, ?_, kk5, upd_same, n5, r5.append (.cons ry .nil), ?_, h7, ?_⟩
        · rw [rva.length]; omega
        · have hne : a ≠ Dn := fun z => by rw [z, hD] at q; cases q
          rw [upd_ne hne]
          exact b5 a o n q
        · obtain ⟨o, q⟩ := dr5
          exact ⟨o, by rw [upd_ne (Ne.symm hDne)]; exact q⟩
        · rw [List.length_append]
          have : [y6].length = 1 := rfl
          omega
        · rw [← hys, ← e8, List.append_assoc]
          rfl
    · have e : i = ds.length := by omega
      subst e
      rw [List.drop_length] at hm
      obtain ⟨e9, rfl⟩ := pure_some hm
      subst e9
      rw [List.append_nil] at hys
      subst hys
      refine .inl ⟨W.st G1 H1 s1 S1.sub ok, k Dn va acc G1 H1 rfl ⟨gs.g.trans s1, fun a o n q => b1 a o n (gs.h a o n q), fun o q => dr1, fun a o q1 q2 => ?_⟩ S1 hDH hva hG1 hDne rva⟩
      by_cases z : a = dr
      · rw [z]; exact S1.draw.out
      · exact kk1 a o (gs.h a o z q1) (gs.k a o q1 q2)
def STs (X : Cx) (O : List Nat) (ifs : List Expr) (t : Env → M Bool) : Prop := PTs X ifs (ttOf X.K X.mg O t)
theorem PTs.weak {X : Cx} {e : List Expr} {t t' : TT} (h : PTs X e t) (k : ∀ σ H Q, t' σ H Q → t σ H Q) : PTs X e t' := ⟨fun pins s σ H Q I q => h.run pins s σ H Q I (k σ H Q q)⟩
def tYesF : Env → M Bool := fun _ => pure true
theorem sts_nil : STs X O [] tYesF := PTs.weak pts_nil fun σ H Q ⟨dr, B, G0, δ, G, w, d, w', S, hf, k⟩ => by
  obtain ⟨rfl, rfl⟩ := pure_some hf
  exact k G H (.refl _ G H) S
theorem sts_one (h : ST X O c t) : STs X O [c] t := pts_one h
variable {scope : Scope} {own : List (Str × Nat)} {ix : List Nat}
theorem sf_lc (hc : X.calm = true) (hN : X.N.Nodup) (hi : SI X O al tg it fs) (ok : BlkOk X.N X.env.scope scope own) (hT : ∀ i ∈ T.ix, i ∈ ix)
    (hg : ∀ (s : Shared) (H : Hp) (C : Addr) (cl : List (Str × Addr)) (fp : List Addr), SG (X.blk s H scope (compEnvC scope cl C X.env) fp) O tg T) (ht : ∀ (s : Shared) (H : Hp) (C : Addr) (cl : List (Str × Addr)) (fp : List Addr), STs (X.blk s H scope (compEnvC scope cl C X.env) fp) O ifs t)
    (he : ∀ (s : Shared) (H : Hp) (C : Addr) (cl : List (Str × Addr)) (fp : List Addr), SE (X.blk s H scope (compEnvC scope cl C X.env) fp) O false e f) (hs : ∀ x, foldedSetIterable it X.env x = pure x := by intro _; rfl) (hx : own.map (·.2) = ix := by rfl) :
    SF X O (.ListComp e [⟨tg, it, ifs, 0⟩] scope pos) (eLc ix T fs t f) :=
  PE.weak (pe_lc (g := tgOf X.K X.mg O T) (tt := ttOf X.K X.mg O t) (te := tOf X.K X.mg O false f) hc hN (SI.any hi) ok hg ht he hs) fun _ _ _ q => by subst hx; exact tf_lc hT q
theorem se_lc (hc : X.calm = true) (hN : X.N.Nodup) (hi : SI X O al tg it fs) (ok : BlkOk X.N X.env.scope scope own) (hT : ∀ i ∈ T.ix, i ∈ ix)
    (hg : ∀ (s : Shared) (H : Hp) (C : Addr) (cl : List (Str × Addr)) (fp : List Addr), SG (X.blk s H scope (compEnvC scope cl C X.env) fp) O tg T) (ht : ∀ (s : Shared) (H : Hp) (C : Addr) (cl : List (Str × Addr)) (fp : List Addr), STs (X.blk s H scope (compEnvC scope cl C X.env) fp) O ifs t)
    (he : ∀ (s : Shared) (H : Hp) (C : Addr) (cl : List (Str × Addr)) (fp : List Addr), SE (X.blk s H scope (compEnvC scope cl C X.env) fp) O false e f) (hs : ∀ x, foldedSetIterable it X.env x = pure x := by intro _; rfl) (hx : own.map (·.2) = ix := by rfl) :
    SE X O false (.ListComp e [⟨tg, it, ifs, 0⟩] scope pos) (eLc ix T fs t f) := se_new (sf_lc hc hN hi ok hT hg ht he hs hx)

/-! ### a new list given to a name -/
theorem tfOf_e {K : PySem.W.Frag} {mg : Str → Option Value} {σ : L2.St} {H : Hp} {Q : VK} (q : tOf K mg O false f σ H Q) : tfOf K mg O f σ H Q := by
  obtain ⟨dr, B, G0, δ, G, w, d, w', S, hf, k⟩ := q
  refine ⟨dr, B, G0, δ, G, w, d, w', S, hf, fun a vs ds G1 H1 ed g1 S1 h0 h1 h2 hne r => ?_⟩
  subst ed
  have sb : Sub (upd G1 a (.lst vs)) H1 := fun b o q => by
    by_cases hb : b = a
    · subst hb
      rw [upd_same] at q
      cases q
      exact h1
    · rw [upd_ne hb] at q
      exact S1.sub b o q
  have sg : Sub G1 (upd G1 a (.lst vs)) := fun b o q => by
    rw [upd_ne (ne_of_none q h2)]
    exact q
  have sk : ∀ b o, H b = some o → G b = none → (upd G1 a (HO.lst vs)) b = none := fun b o q1 q2 => by
    have hb : b ≠ a := fun z => by rw [z, h0] at q1; cases q1
    rw [upd_ne hb]
    exact g1.k b o q1 q2
  have gg : Grow ⟨K, mg, dr, O, B, G0⟩ G H (upd G1 a (.lst vs)) H1 := ⟨g1.g.trans sg, g1.h, g1.hd, sk⟩
  have dd : DrawAt ⟨K, mg, dr, O, B, G0⟩ w' (upd G1 a (.lst vs)) H1 := by
    obtain ⟨ok, ⟨sc, d1, d2⟩, d3⟩ := S1.draw
    exact ⟨ok, ⟨sc, d1, sub_l sg d2⟩, by rw [upd_ne (fun z => hne z.symm)]; exact d3⟩
  exact k _ (upd G1 a (.lst vs)) H1 gg (S.step gg sb dd) (.lst upd_same (r.mono sg))
/-- y = [..], y a plain slot: the list stands still from then on -/
theorem ss_setLc (i : Nat) {y : Str} {py spos : Pos} (hc : X.calm = true) (hN : X.N.Nodup) (hi : SI X O al tg it fs) (ok : BlkOk X.N X.env.scope scope own) (hT : ∀ j ∈ T.ix, j ∈ ix)
    (hg : ∀ (s : Shared) (H : Hp) (C : Addr) (cl : List (Str × Addr)) (fp : List Addr), SG (X.blk s H scope (compEnvC scope cl C X.env) fp) O tg T) (ht : ∀ (s : Shared) (H : Hp) (C : Addr) (cl : List (Str × Addr)) (fp : List Addr), STs (X.blk s H scope (compEnvC scope cl C X.env) fp) O ifs t)
    (he : ∀ (s : Shared) (H : Hp) (C : Addr) (cl : List (Str × Addr)) (fp : List Addr), SE (X.blk s H scope (compEnvC scope cl C X.env) fp) O false e f)
    (hO : i ∉ O := by decide) (hy : X.N[i]? = some y := by rfl) (hyl : X.env.scope.names.lookup y = some .local := by rfl) (hsw : swapsWith (.ListComp e [⟨tg, it, ifs, 0⟩] scope pos) (some (.Name y py)) spos.line X.env = pure true := by exact sw_true rfl rfl rfl (by decide +kernel)) (hs : ∀ x, foldedSetIterable it X.env x = pure x := by intro _; rfl) (hx : own.map (·.2) = ix := by rfl) :
    SS X O (.Assign [.Name y py] (.ListComp e [⟨tg, it, ifs, 0⟩] scope pos) spos) (sAsg (.nm i) (eLc ix T fs t f)) :=
  PS.weak (ps_setLc (g := tgOf X.K X.mg O T) (tt := ttOf X.K X.mg O t) (te := tOf X.K X.mg O false f) hc hN hy hyl hsw (SI.any hi) ok hg ht he hs) fun E σ H q => by
    subst hx
    refine tf_lc hT (tfOf_e ?_)
    obtain ⟨dr, B, G0, δ, G, w, o, δ', w', S, hf, k⟩ := q
    obtain ⟨d, w1, h1, hf1⟩ := bind_some hf
    obtain ⟨δ1, w2, h2, hf2⟩ := bind_some hf1
    obtain ⟨h3, rfl⟩ := liftO_some h2
    obtain ⟨e, rfl⟩ := pure_some hf2
    cases e
    have e' : some (δ.set i (some d)) = some δ' := by rw [← h3, setT]
    cases e'
    exact ⟨dr, B, G0, δ, G, w, d, _, S, h1, fun v G1 H1 g1 S1 r1 => k _ G1 H1 (S1.set hO r1) g1.g⟩
/-- a name of O takes a new list -/
theorem tfOf_own {K : PySem.W.Frag} {mg : Str → Option Value} {i : Nat} {E : Ends} {σ : L2.St} {H : Hp} (hO : i ∈ O) (q : tsOf K mg O (sAsg (.nm i) f) E σ H) : tfOf K mg O f σ H (fun x H1 => gName i x σ H1 E.nx) := by
  obtain ⟨dr, B, G0, δ, G, w, o, δ', w', S, hf, k⟩ := q
  obtain ⟨d, w1, h1, hf1⟩ := bind_some hf
  obtain ⟨δ1, w2, h2, hf2⟩ := bind_some hf1
  obtain ⟨h3, rfl⟩ := liftO_some h2
  obtain ⟨e, rfl⟩ := pure_some hf2
  cases e
  have e' : some (δ.set i (some d)) = some δ' := by rw [← h3, setT]
  cases e'
  refine ⟨dr, B, G0, δ, G, w, d, _, S, h1, fun a vs ds G1 H1 ed g1 S1 z0 z1 z2 hne r => ?_⟩
  subst ed
  have hB : B a = none := by
    cases q : B a with
    | none => rfl
    | some o => have := S.bas a o hne q; rw [z0] at this; cases this
  have hX : ∀ (j : Nat) (e : D), j ∈ O → e.isL = true → δ[j]? = some (some e) → σ[j]? ≠ some (some (.ref a)) := fun j e hj le he hs => by
    obtain ⟨a', vs', ds', y0, y1, y2, _⟩ := S.owns j e he hj le
    rw [hs] at y1
    cases y1
    rw [z0] at y2
    cases y2
  rcases S1.setO (i := i) z1 z2 hB hX r with S2 | n
  · exact k _ G1 H1 S2 g1.g
  · exact absurd hO n
theorem ss_setO (i : Nat) {x : Str} {p2 : Pos} (hN : X.N.Nodup) (ha : SF X O e f) (hO : i ∈ O := by decide) (hi : X.N[i]? = some x := by rfl) (hx : Loc X.env.scope x := by first | exact Or.inl rfl | exact Or.inr rfl) (hs : swapsWith e (some (.Name x p2)) pos.line X.env = pure false := by rfl)
    (hf : X.fn x = true ∨ X.env.scope.names.lookup x = some .local := by first | exact .inl rfl | exact .inr rfl) : SS X O (.Assign [.Name x p2] e pos) (sAsg (.nm i) f) :=
  PS.weak (ps_set hN hi hx ha hs hf) fun E σ H q => tfOf_own hO q
theorem ss_setLcO (i : Nat) {y : Str} {py spos : Pos} (hc : X.calm = true) (hN : X.N.Nodup) (hi : SI X O al tg it fs) (ok : BlkOk X.N X.env.scope scope own) (hT : ∀ j ∈ T.ix, j ∈ ix)
    (hg : ∀ (s : Shared) (H : Hp) (C : Addr) (cl : List (Str × Addr)) (fp : List Addr), SG (X.blk s H scope (compEnvC scope cl C X.env) fp) O tg T) (ht : ∀ (s : Shared) (H : Hp) (C : Addr) (cl : List (Str × Addr)) (fp : List Addr), STs (X.blk s H scope (compEnvC scope cl C X.env) fp) O ifs t)
    (he : ∀ (s : Shared) (H : Hp) (C : Addr) (cl : List (Str × Addr)) (fp : List Addr), SE (X.blk s H scope (compEnvC scope cl C X.env) fp) O false e f)
    (hO : i ∈ O := by decide) (hy : X.N[i]? = some y := by rfl) (hyl : X.env.scope.names.lookup y = some .local := by rfl) (hsw : swapsWith (.ListComp e [⟨tg, it, ifs, 0⟩] scope pos) (some (.Name y py)) spos.line X.env = pure true := by exact sw_true rfl rfl rfl (by decide +kernel)) (hs : ∀ x, foldedSetIterable it X.env x = pure x := by intro _; rfl) (hx : own.map (·.2) = ix := by rfl) :
    SS X O (.Assign [.Name y py] (.ListComp e [⟨tg, it, ifs, 0⟩] scope pos) spos) (sAsg (.nm i) (eLc ix T fs t f)) :=
  PS.weak (ps_setLc (g := tgOf X.K X.mg O T) (tt := ttOf X.K X.mg O t) (te := tOf X.K X.mg O false f) hc hN hy hyl hsw (SI.any hi) ok hg ht he hs) fun E σ H q => by subst hx; exact tf_lc hT (tfOf_own hO q)
/-! ### a list of one's own is changed -/
/-- the list in slot i becomes what op says -/
def chg (i : Nat) (op : List D → Option (List D)) (δ : Env) : Option Env := match δ[i]? with
  | some (some (.lst ds)) => (op ds).map fun ds' => δ.set i (some (.lst ds'))
  | _ => none
theorem chg_some {i : Nat} {op : List D → Option (List D)} {δ δ' : Env} (h : chg i op δ = some δ') : ∃ ds ds', δ[i]? = some (some (.lst ds)) ∧ op ds = some ds' ∧ δ' = δ.set i (some (.lst ds')) := by
  unfold chg at h
  cases q : δ[i]? with
  | none => rw [q] at h; cases h
  | some o =>
    cases o with
    | none => rw [q] at h; cases h
    | some d =>
      cases d <;> try (rw [q] at h; cases h; done)
      rename_i ds
      rw [q] at h
      cases q2 : op ds with
      | none => simp [q2] at h
      | some ds' =>
        have h' : some (δ.set i (some (.lst ds'))) = some δ' := by rw [← h]; simp [q2]
        exact ⟨ds, ds', rfl, q2, (Option.some.inj h').symm⟩
def opApp (d : D) (ds : List D) : Option (List D) := if ds.length < LIM then some (ds ++ [d]) else none
def sApp (i : Nat) (f : Env → M D) : F1 := fun δ => do
  let d ← f δ
  let δ' ← liftO (chg i (opApp d) δ)
  pure (.nx, δ')
theorem tyV_lst {K : PySem.W.Frag} {H : Hp} {a : Addr} {vs : List V} (h : H a = some (.lst vs)) : tyV K "list" (.ref a) H := Or.inl ⟨rfl, _, Or.inl (Or.inl h)⟩
theorem ss_app (i : Nat) {x : Str} {p2 p3 : Pos} (ha : SE X O false e f) (hO : i ∈ O := by decide) (hN : X.N[i]? = some x := by rfl) (hv : Vis X.env.scope x := by first | exact Or.inl rfl | exact Or.inr (Or.inl rfl)) (hs : swapsWith (.Call (.Attribute (.Name x p2) "append" p3) [e] [] q) none pos.line X.env = pure false := by rfl)
    (hd : (x == ("__debug__" : Str)) = false := by decide) (hcd : (x == ("__classdict__" : Str)) = false := by decide) (he : starEach [e] X.env = (false, eval e X.env) :: starEach [] X.env := by rfl)
    (hbase : attributeBase (.Name x p2) "append" X.env (eval (.Name x p2) X.env) = eval (.Name x p2) X.env := by rfl)
    (hfew : ((backTo q (starEach [e] X.env)).all (fun x => !x.1) && (backToKw q (keywordEach [] X.env)).all (fun x => x.1.isSome)
      && decide ([e].length + ([] : List Keyword).length + (if ([] : List Keyword).isEmpty then 0 else 1) < 30)) = true := by rfl)
    (hline : (p3.endLine == q.line) = true := by rfl) (hplain : (backTo q (starEach [] X.env)).any (·.1) = false := by rfl) :
    SS X O (.Expr (.Call (.Attribute (.Name x p2) "append" p3) [e] [] q) pos) (sApp i f) :=
  have hpe : PE X (.Call (.Attribute (.Name x p2) "append" p3) [e] [] q) (tBM X.K "list" rAppend (tVar i) (tCons (tOf X.K X.mg O false f) tNil)) :=
    pe_bm PySem.F.plainAttrs_list PySem.F.slot_list_append PySem.F.type_list_append mt_append (pe_var hN (by rcases hv with h | h; exact .inl h; exact .inr h) hd hcd) (pa_cons ha pa_nil he) hbase hfew hline he hplain
  PS.weak (ps_expr hpe hs) fun E σ H ⟨dr, B, G0, δ, G, w, o, δ', w', S, hf, k⟩ => by
    obtain ⟨d, w1, h1, hf1⟩ := bind_some hf
    obtain ⟨δ1, w2, h2, hf2⟩ := bind_some hf1
    obtain ⟨h3, rfl⟩ := liftO_some h2
    obtain ⟨e, rfl⟩ := pure_some hf2
    cases e
    obtain ⟨ds, ds', e1, e2, e3⟩ := chg_some h3
    subst e3
    obtain ⟨a, vs, ds0, z0, z1, z2, z3, z4, z5⟩ := S.owns i _ e1 hO rfl
    refine ⟨.ref a, z1, tyV_lst z2, dr, B, G0, δ, G, w, d, _, S, h1, fun v G1 H1 g1 S1 r1 => ?_⟩
    obtain ⟨a', vs', ds1, y0, y1, y2, y3, y4, y5⟩ := S1.owns i _ e1 hO rfl
    rw [z1] at y1
    cases y1
    cases y0
    have hl : ds.length < LIM ∧ ds' = ds ++ [d] := by
      unfold opApp at e2
      split at e2
      · rename_i hl
        exact ⟨hl, (Option.some.inj e2).symm⟩
      · cases e2
    refine ⟨a, vs', v, rfl, rfl, y2, lim_lt (by rw [y5.length]; exact hl.1), ?_⟩
    rw [hl.2] at k
    exact k σ G1 _ (S1.mut hO e1 z1 y2 (y5.append (.cons r1 .nil))) g1.g
end
end Fc

/-! Fc, part H: defs and their calls; the drawing list; a law's own def. -/
namespace Fc
open PySem PySem.Spec PyProof.Rows L2

theorem Rep.to' {K : PySem.W.Frag} {mg : Str → Option Value} {dr : Addr} {O O' : List Nat} {B B' G0 G0' G : Hp} {v : V} {d : D} (h : Rep ⟨K, mg, dr, O, B, G0⟩ G v d) : Rep ⟨K, mg, dr, O', B', G0'⟩ G v d := Rep.to (by rfl) (by rfl) (by rfl) h
theorem RepAll.to' {K : PySem.W.Frag} {mg : Str → Option Value} {dr : Addr} {O O' : List Nat} {B B' G0 G0' G : Hp} {v : List V} {d : List D} (h : RepAll ⟨K, mg, dr, O, B, G0⟩ G v d) : RepAll ⟨K, mg, dr, O', B', G0'⟩ G v d := RepAll.to (by rfl) (by rfl) (by rfl) h
/-- what a def promises that computes F -/
def spOf (K : PySem.W.Frag) (mg : Str → Option Value) (F : List D → M D) : Sp := fun vs H Q _ => ∃ (dr : Addr) (G : Hp) (w : Dw) (ds : List D) (d : D) (w' : Dw), Sub G H ∧ DrawAt ⟨K, mg, dr, [], H, G⟩ w G H ∧ RepAll ⟨K, mg, dr, [], H, G⟩ G vs ds ∧ F ds w = some (d, w') ∧
  ∀ v G' H', Fin ⟨K, mg, dr, [], H, G⟩ w' G' H' → Rep ⟨K, mg, dr, [], H, G⟩ G' v d → Q v H'
def eDef (F : List D → M D) (fs : Env → M (List D)) : Env → M D := fun δ => do
  let xs ← fs δ
  F xs
section
variable {X : Cx} {O : List Nat} {e : Expr} {es : List Expr} {fs : Env → M (List D)} {F : List D → M D} {k : Nat} {f : Addr} {fd : FuncData} {ps : List Str} {x : Str} {p pos : Pos}
theorem tOf_def {K : PySem.W.Frag} {mg : Str → Option Value} {σ : L2.St} {H : Hp} {Q : VK} (q : tOf K mg O false (eDef F fs) σ H Q) : tCall (spOf K mg F) [] E0 (taOf K mg O false fs) σ H Q := by
  obtain ⟨dr, B, G0, δ, G, w, d, w', S, hf, k⟩ := q
  obtain ⟨xs, w1, h1, hf1⟩ := bind_some hf
  refine ⟨dr, B, G0, δ, G, w, xs, w1, S, h1, fun vs G1 H1 g1 S1 r1 => ?_⟩
  show spOf K mg F (vs ++ []) H1 Q E0
  rw [List.append_nil]
  refine ⟨dr, G1, w1, xs, d, w', S1.sub, ⟨S1.draw.ok, S1.draw.at_, S1.draw.out⟩, RepAll.to' r1.all, hf1, fun v G2 H2 n r => ?_⟩
  have gr : Grow ⟨K, mg, dr, O, B, G0⟩ G1 H1 G2 H2 := ⟨n.g0, fun a o ne q => n.bas a o ne q, fun o q => let ⟨_, z, _⟩ := n.draw.at_; ⟨_, z⟩, fun a o q1 q2 => n.kp a o q1 q2⟩
  exact k v G2 H2 (g1.trans gr) (S1.step gr n.sub ⟨n.draw.ok, n.draw.at_, n.draw.out⟩) (Rep.to' r)
theorem se_def (Fk : FnOk X.prog X.w X.K X.mg X.base CX0 k f fd ps (spOf X.K X.mg F)) (hr : Room k X.A) (hg : Gl X x) (hm : X.mg x = some (.ref f)) (hk : PySem.W.keepIn X.K (.ref f) = true) (hb : Binds X.K fd ps []) (ha : SA X O false (e :: es) fs)
    (hdb : (x == ("__debug__" : Str)) = false := by decide) (he : starEach (e :: es) X.env = (false, eval e X.env) :: starEach es X.env := by rfl) (hpl : (backTo pos (starEach es X.env)).any (·.1) = false := by rfl) :
    SE X O false (.Call (.Name x p) (e :: es) [] pos) (eDef F fs) :=
  PE.weak (pe_call (dvs := []) (ds := []) (E := E0) Fk hr hg hm hk hb .nil pass0 ha hdb he hpl) fun σ H Q q => tOf_def q
end

/-- a body with its parameters, as a function on data: n parameters, m slots -/
def bodyF (n m : Nat) (F : F1) (ds : List D) : M D := if ds.length = n then do
    let (o, _) ← F (ds.map some ++ List.replicate (m - ds.length) none)
    match o with
    | .rt d => pure d
    | .nx => pure .non
    | _ => fail
  else fail
section
variable {P : Program} {w : World} {K : PySem.W.Frag} {mg : Str → Option Value} {base : Heap}
theorem start_get {N : Nat} {ds : List D} {i : Nat} {d : D} (h : (ds.map some ++ List.replicate (N - ds.length) none)[i]? = some (some d)) : ds[i]? = some d ∧ i < ds.length := by
  by_cases hi : i < ds.length
  · rw [List.getElem?_append_left (by simpa using hi), List.getElem?_map] at h
    cases q : ds[i]? with
    | none => rw [q] at h; cases h
    | some e =>
      rw [q] at h
      have h' : some (some e) = some (some d) := h
      cases h'
      exact ⟨rfl, hi⟩
  · rw [List.getElem?_append_right (by simpa using hi)] at h
    rw [List.getElem?_replicate] at h
    split at h
    · cases h
    · cases h
theorem fn_ok {x qual : Str} {st : Stmt} {f : Addr} {fd : FuncData} {N ps : List Str} {k : Nat} {O : List Nat} {F : F1} (Fu : Fun K x qual st f fd) (sc : FnScope N ps (defScope st)) (hO : ∀ i ∈ O, ps.length ≤ i) (hN : ps.length ≤ N.length)
    (hb : ∀ (cdv : Value) (A : Around) (outer : List PySem.Env) (s : Shared) (H : Hp) (E : XK), Room k (A.deeper (envOfC qual (defScope st) s.heap.objs.size f cdv)) → SSs (cxOf CX0 P w K mg base N qual (defScope st) f cdv A outer s H E).nox O (defBody st) F) :
    FnOk P w K mg base CX0 (k + 1) f fd ps (spOf K mg (bodyF ps.length N.length F)) := by
  refine Fu.ok sc (fun vs H Q E h => ?_) (fun cdv A outer s H vs Q E hr h => ?_)
  · obtain ⟨dr, G, w, ds, d, w', hs, hd, r, hf, q⟩ := h
    rw [r.length]
    unfold bodyF at hf
    split at hf
    · assumption
    · cases hf
  · obtain ⟨dr, G, w1, ds, d, w', hs, hd, r, hf, q⟩ := h
    have hlen : ds.length = ps.length := by
      unfold bodyF at hf
      split at hf
      · assumption
      · cases hf
    unfold bodyF at hf
    rw [if_pos hlen] at hf
    obtain ⟨⟨o, δ'⟩, w2, h1, hf1⟩ := bind_some hf
    refine ⟨_, hb cdv A outer s H E hr, dr, H, G, ds.map some ++ List.replicate (N.length - ds.length) none, G, w1, o, δ', w2, ⟨hs, Sub.refl G, fun _ _ _ q => q, ?_, ?_, fun i e hi n => ?_, fun i e hi n l => ?_, fun i j e1 e2 a ni nj l1 l2 q1 q2 => ?_, ⟨hd.ok, hd.at_, hd.out⟩, fun _ _ _ n => n⟩, h1, ?_⟩
    · obtain ⟨_, z, _⟩ := hd.at_
      exact ⟨_, z⟩
    · unfold L2.start
      rw [List.length_append, List.length_append, List.length_map, List.length_map, List.length_replicate, List.length_replicate, r.length]
    · obtain ⟨z1, z2⟩ := start_get hi
      obtain ⟨v, e1, r1⟩ := r.get z1
      refine ⟨v, ?_, Rep.to' r1⟩
      unfold L2.start
      rw [List.getElem?_append_left (by rw [List.length_map, r.length]; exact z2), List.getElem?_map, e1]
      rfl
    · obtain ⟨z1, z2⟩ := start_get hi
      exact absurd (hO i n) (by omega)
    · obtain ⟨z1, z2⟩ := start_get q1
      exact absurd (hO i ni) (by omega)
    · cases o with
      | nx =>
        obtain ⟨e, rfl⟩ := pure_some hf1
        subst e
        exact fun σ' G' H' S _ => q .non G' H' ⟨S.sub, S.g0, S.bas, S.kp, ⟨S.draw.ok, S.draw.at_, S.draw.out⟩⟩ .non
      | rt d' =>
        obtain ⟨e, rfl⟩ := pure_some hf1
        subst e
        exact fun v G' H' n r' => q v G' H' ⟨n.sub, n.g0, n.bas, n.kp, ⟨n.draw.ok, n.draw.at_, n.draw.out⟩⟩ (Rep.to' r')
      | bk => cases hf1
      | ct => cases hf1
/-- a def that promises nothing -/
theorem fn_none {f : Addr} {fd : FuncData} {ps : List Str} {k : Nat} : FnOk P w K mg base CX0 k f fd ps (spOf K mg fun _ => fail) := by
  refine ⟨fun vs H Q E h => ?_, fun A outer s H args us vs Q E hr he hb hv h => ?_⟩
  · obtain ⟨_, _, _, _, _, _, _, _, _, hf, _⟩ := h
    cases hf
  · obtain ⟨_, _, _, _, _, _, _, _, _, hf, _⟩ := h
    cases hf
end

/-! ### the drawing -/
def cellOf (w : Dw) : Int := let c := w.sc.getD w.ix.toNat 0; if c < 0 then -c else c
def seedOut (s m : Int) : Int := s * 69621 % 2147483629 / 7 % m
def nextW (m : Int) (w : Dw) : Int × Dw :=
  if 0 < w.big then (w.big % m, { w with big := w.big / m })
  else if w.ix < (w.sc.length : Int) then
    if 1000000000000000000 ≤ cellOf w then (cellOf w % m, { w with ix := w.ix + 1, big := cellOf w / m })
    else (seedOut ((w.seed * 48271 + cellOf w + 11) % 2147483647) m, { w with ix := w.ix + 1, seed := (w.seed * 48271 + cellOf w + 11) % 2147483647 })
  else (seedOut ((w.seed * 48271 + 12345) % 2147483647) m, { w with seed := (w.seed * 48271 + 12345) % 2147483647 })
def nextF : List D → M D
  | [.drw, .int m] => fun w => if 0 < m ∧ m < 1073741824 then some (.int (nextW m w).1, (nextW m w).2) else none
  | _ => fail
theorem cell_nn (w : Dw) : 0 ≤ cellOf w := by
  unfold cellOf
  dsimp only
  split <;> omega
theorem nextW_ok {m : Int} {w : Dw} (h : w.Ok) (hm : 0 < m) : (nextW m w).2.Ok := by
  obtain ⟨h1, h2, h3, h4, h5⟩ := h
  have hc := cell_nn w
  unfold nextW
  split
  · exact ⟨h1, h2, Int.ediv_nonneg h3 (by omega), h4, h5⟩
  · split
    · split
      · exact ⟨h1, by show 0 ≤ w.ix + 1; omega, Int.ediv_nonneg hc (by omega), h4, h5⟩
      · exact ⟨h1, by show 0 ≤ w.ix + 1; omega, h3, Int.emod_nonneg _ (by omega), Int.emod_lt_of_pos _ (by omega)⟩
    · exact ⟨h1, h2, h3, Int.emod_nonneg _ (by omega), Int.emod_lt_of_pos _ (by omega)⟩
theorem nextW_lt {m : Int} {w : Dw} (hm : 0 < m) : 0 ≤ (nextW m w).1 ∧ (nextW m w).1 < m := by
  unfold nextW seedOut
  split
  · exact ⟨Int.emod_nonneg _ (by omega), Int.emod_lt_of_pos _ hm⟩
  · split
    · split
      · exact ⟨Int.emod_nonneg _ (by omega), Int.emod_lt_of_pos _ hm⟩
      · exact ⟨Int.emod_nonneg _ (by omega), Int.emod_lt_of_pos _ hm⟩
    · exact ⟨Int.emod_nonneg _ (by omega), Int.emod_lt_of_pos _ hm⟩
section
variable (K : PySem.W.Frag)
def nxIx (i : Int) : TE := tOp (rIxL K) (tVar 0) (tC (.int i))
def nxInt (t : TE) : TE := tCB (fun xs H Q => (∃ i, xs = [.int i] ∧ Q (.int i) H) ∨ ∃ k, xs = [.bl k] ∧ Q (.int (if k then 1 else 0)) H) (tCons t tNil)
def nxMod (t u : TE) : TE := tOp (rI (fun _ j => j ≠ 0) fun i j => .int (i.fmod j)) t u
def nxDiv (t u : TE) : TE := tOp (rI CDivN fun i j => .int (i.fdiv j)) t u
def nxMul (t u : TE) : TE := tOp (rI CMul fun i j => .int (i * j)) t u
def nxAdd (t u : TE) : TE := tOp (rI0 fun i j => .int (i + j)) t u
def nxSet (i : Int) (t : TE) : TS := tAsg t (gSub (tVar 0) (tC (.int i)) rSetL)
/-- the reading of _law_next's body -/
def tNx : TS :=
  tSeq (tIfS (tTest (tOp (rI0 fun i j => .bl (decide (j < i))) (nxIx K 2) (tC (.int 0)))) (tSeq (tAsg (nxMod (nxInt (nxIx K 2)) (tVar 1)) (gName 2)) (tSeq (nxSet 2 (nxDiv (nxIx K 2) (tVar 1))) (tRet (tVar 2)))) tNext)
  (tSeq (tIfS (tTest (tOp (rI0 fun i j => .bl (decide (i < j))) (nxIx K 1) (tCB (rLenA K) (tCons (nxIx K 0) tNil))))
    (tSeq (tAsg (tCB (fun xs H Q => ∃ i, xs = [.int i] ∧ Q (.int (if i < 0 then -i else i)) H) (tCons (tOp (rIxL K) (nxIx K 0) (nxIx K 1)) tNil)) (gName 3))
    (tSeq (nxSet 1 (nxAdd (nxIx K 1) (tC (.int 1))))
    (tSeq (tIfS (tTest (tOp (rI0 fun i j => .bl (decide (j ≤ i))) (tVar 3) (tOp (rI CPow fun i j => .int (i ^ j.toNat)) (tC (.int 10)) (tC (.int 18))))) (tSeq (nxSet 2 (nxDiv (tVar 3) (tVar 1))) (tRet (nxMod (nxInt (tVar 3)) (tVar 1)))) tNext)
    (nxSet 3 (nxMod (nxInt (nxAdd (nxAdd (nxMul (nxIx K 3) (tC (.int 48271))) (tVar 3)) (tC (.int 11)))) (tC (.int 2147483647)))))))
    (nxSet 3 (nxMod (nxInt (nxAdd (nxMul (nxIx K 3) (tC (.int 48271))) (tC (.int 12345)))) (tC (.int 2147483647)))))
  (tRet (nxMod (nxDiv (nxInt (nxMod (nxMul (nxIx K 3) (tC (.int 69621))) (tC (.int 2147483629)))) (tC (.int 7))) (tVar 1))))
variable {K}
theorem nx_ix {i : Int} {σ : L2.St} {H : Hp} {Q : VK} {dr : Addr} {xs : List V} {v : V} (h : σ[0]? = some (some (.ref dr))) (hd : H dr = some (.lst xs)) (hv : atI xs i = some v) (q : Q v H) : nxIx K i σ H Q := ⟨_, h, dr, xs, i, v, rfl, rfl, SqL.of hd, hv, q⟩
theorem fmod_pos {a b : Int} (h : 0 < b) : a.fmod b = a % b := by rw [Int.fmod_eq_emod_of_nonneg _ (by omega)]
theorem fdiv_pos {a b : Int} (h : 0 < b) : a.fdiv b = a / b := by rw [Int.fdiv_eq_ediv_of_nonneg _ (by omega)]
theorem nx_reads {m : Int} {w : Dw} {dr sc : Addr} {H : Hp} {Q : VK} (hok : w.Ok) (hm : 0 < m ∧ m < 1073741824) (hd : H dr = some (.lst [.ref sc, .int w.ix, .int w.big, .int w.seed])) (hs : ∀ H' : Hp, (∀ b o, b ≠ dr → H b = some o → H' b = some o) → SqL K H' sc (w.sc.map V.int))
    (q : Q (.int (nextW m w).1) (upd H dr (.lst [.ref sc, .int (nextW m w).2.ix, .int (nextW m w).2.big, .int (nextW m w).2.seed]))) : tNx K { nx := fun _ H' => Q .non H', rt := Q } [some (.ref dr), some (.int m), none, none] H := by
  obtain ⟨h1, h2, h3, h4, h5⟩ := hok
  have hc := cell_nn w
  have mn : m ≠ 0 := by omega
  have hup : ∀ xs ys : List V, upd (upd H dr (.lst xs)) dr (.lst ys) = upd H dr (.lst ys) := fun xs ys => upd_upd
  refine nx_ix rfl hd rfl ⟨_, _, rfl, rfl, _, rfl, ?_⟩
  unfold nextW at q
  by_cases hb : 0 < w.big
  · rw [if_pos hb] at q
    rw [decide_eq_true hb]
    refine iteT ?_
    refine nx_ix rfl hd rfl (.inl ⟨_, rfl, _, rfl, _, _, rfl, rfl, mn, ?_⟩)
    refine nx_ix rfl hd rfl ⟨_, rfl, _, _, rfl, rfl, ⟨mn, by omega⟩, _, rfl, dr, _, 2, 2, rfl, rfl, hd, rfl, ?_⟩
    refine ⟨_, rfl, ?_⟩
    show Q (.int (w.big.fmod m)) (upd H dr (.lst [.ref sc, .int w.ix, .int (w.big.fdiv m), .int w.seed]))
    rw [fmod_pos hm.1, fdiv_pos hm.1]
    exact q
  · rw [if_neg hb] at q
    rw [decide_eq_false hb]
    refine iteF ?_
    refine nx_ix rfl hd rfl (nx_ix rfl hd rfl ⟨_, w.sc.length, rfl, .inl ⟨_, hs H fun _ _ _ q => q, by rw [List.length_map]⟩, _, _, rfl, rfl, _, rfl, ?_⟩)
    have hmul : CMul w.seed 48271 := .inr ⟨by decide, by decide⟩
    by_cases hi : w.ix < (w.sc.length : Int)
    · rw [if_pos hi] at q
      rw [decide_eq_true hi]
      refine iteT ?_
      have hget : atI (w.sc.map V.int) w.ix = some (.int (w.sc.getD w.ix.toNat 0)) := by
        have hlt : w.ix.toNat < w.sc.length := by omega
        refine at_of (j := w.ix.toNat) (by omega) ?_
        rw [List.getElem?_map, List.getD_eq_getElem?_getD, List.getElem?_eq_getElem hlt]
        rfl
      refine nx_ix rfl hd rfl (nx_ix rfl hd rfl ⟨sc, _, _, _, rfl, rfl, hs H fun _ _ _ q => q, hget, _, rfl, ?_⟩)
      refine nx_ix rfl hd rfl ⟨_, _, rfl, rfl, _, rfl, dr, _, 1, 1, rfl, rfl, hd, rfl, ?_⟩
      refine ⟨_, rfl, _, _, rfl, rfl, ⟨by decide, by decide, by decide⟩, _, _, rfl, rfl, _, rfl, ?_⟩
      have hcd : (if w.sc.getD w.ix.toNat 0 < 0 then -w.sc.getD w.ix.toNat 0 else w.sc.getD w.ix.toNat 0) = cellOf w := rfl
      rw [hcd]
      have e18 : ((10 : Int) ^ (18 : Int).toNat) = 1000000000000000000 := by decide
      rw [e18]
      by_cases h18 : (1000000000000000000 : Int) ≤ cellOf w
      · rw [if_pos h18] at q
        rw [decide_eq_true h18]
        refine iteT ?_
        refine ⟨_, rfl, _, rfl, _, _, rfl, rfl, ⟨mn, by omega⟩, _, rfl, dr, _, 2, 2, rfl, rfl, upd_same, rfl, ?_⟩
        refine ⟨_, rfl, .inl ⟨_, rfl, _, rfl, _, _, rfl, rfl, mn, ?_⟩⟩
        show Q (.int ((cellOf w).fmod m)) (upd (upd H dr (.lst [.ref sc, .int (w.ix + 1), .int w.big, .int w.seed])) dr (.lst [.ref sc, .int (w.ix + 1), .int ((cellOf w).fdiv m), .int w.seed]))
        rw [hup, fmod_pos hm.1, fdiv_pos hm.1]
        exact q
      · rw [if_neg h18] at q
        rw [decide_eq_false h18]
        refine iteF ?_
        refine nx_ix rfl upd_same rfl ⟨_, _, rfl, rfl, hmul, _, rfl, _, _, rfl, rfl, _, _, rfl, rfl, .inl ⟨_, rfl, _, _, rfl, rfl, (by show (2147483647 : Int) ≠ 0; decide), _, rfl, dr, _, 3, 3, rfl, rfl, upd_same, rfl, ?_⟩⟩
        refine nx_ix rfl upd_same rfl ⟨_, _, rfl, rfl, .inr ⟨by decide, by decide⟩, _, _, rfl, rfl, (by show (2147483629 : Int) ≠ 0; decide), .inl ⟨_, rfl, _, _, rfl, rfl, ⟨by decide, by decide⟩, _, rfl, _, _, rfl, rfl, mn, ?_⟩⟩
        show Q (.int (((((w.seed * 48271 + cellOf w + 11).fmod 2147483647) * 69621).fmod 2147483629).fdiv 7 |>.fmod m)) (upd (upd H dr (.lst [.ref sc, .int (w.ix + 1), .int w.big, .int w.seed])) dr (.lst [.ref sc, .int (w.ix + 1), .int w.big, .int ((w.seed * 48271 + cellOf w + 11).fmod 2147483647)]))
        rw [hup, fmod_pos (by decide : (0 : Int) < 2147483647), fmod_pos (by decide : (0 : Int) < 2147483629), fdiv_pos (by decide : (0 : Int) < 7), fmod_pos hm.1]
        exact q
    · rw [if_neg hi] at q
      rw [decide_eq_false hi]
      refine iteF ?_
      refine nx_ix rfl hd rfl ⟨_, _, rfl, rfl, hmul, _, _, rfl, rfl, .inl ⟨_, rfl, _, _, rfl, rfl, (by show (2147483647 : Int) ≠ 0; decide), _, rfl, dr, _, 3, 3, rfl, rfl, hd, rfl, ?_⟩⟩
      refine nx_ix rfl upd_same rfl ⟨_, _, rfl, rfl, .inr ⟨by decide, by decide⟩, _, _, rfl, rfl, (by show (2147483629 : Int) ≠ 0; decide), .inl ⟨_, rfl, _, _, rfl, rfl, ⟨by decide, by decide⟩, _, rfl, _, _, rfl, rfl, mn, ?_⟩⟩
      show Q (.int (((((w.seed * 48271 + 12345).fmod 2147483647) * 69621).fmod 2147483629).fdiv 7 |>.fmod m)) (upd H dr (.lst [.ref sc, .int w.ix, .int w.big, .int ((w.seed * 48271 + 12345).fmod 2147483647)]))
      rw [fmod_pos (by decide : (0 : Int) < 2147483647), fmod_pos (by decide : (0 : Int) < 2147483629), fdiv_pos (by decide : (0 : Int) < 7), fmod_pos hm.1]
      exact q
end
section
variable {P : Program} {w : World} {K : PySem.W.Frag} {mg : Str → Option Value} {base : Heap}
theorem next_ok {x qual : Str} {st : Stmt} {f : Addr} {fd : FuncData} (Fu : Fun K x qual st f fd) (sc : FnScope ["draw", "many", "found", "cell"] ["draw", "many"] (defScope st))
    (hb : ∀ (cdv : Value) (A : Around) (outer : List PySem.Env) (s : Shared) (H : Hp) (E : XK), PSs (cxOf CX0 P w K mg base ["draw", "many", "found", "cell"] qual (defScope st) f cdv A outer s H E).nox (defBody st) (tNx K)) :
    FnOk P w K mg base CX0 1 f fd ["draw", "many"] (spOf K mg nextF) := by
  have key : ∀ {ds : List D} {d : D} {w1 w' : Dw}, nextF ds w1 = some (d, w') → ∃ m, ds = [.drw, .int m] ∧ (0 < m ∧ m < 1073741824) ∧ d = .int (nextW m w1).1 ∧ w' = (nextW m w1).2 := by
    intro ds d w1 w' h
    match ds, h with
    | [.drw, .int m], h =>
      have h' : (if 0 < m ∧ m < 1073741824 then some (D.int (nextW m w1).1, (nextW m w1).2) else none) = some (d, w') := h
      split at h'
      · rename_i hc
        cases h'
        exact ⟨m, rfl, hc, rfl, rfl⟩
      · cases h'
  refine Fu.ok (k := 0) sc (fun vs H Q E h => ?_) (fun cdv A outer s H vs Q E hr h => ?_)
  · obtain ⟨dr, G, w, ds, d, w', hs, hd, r, hf, q⟩ := h
    obtain ⟨m, rfl, _⟩ := key hf
    exact r.length
  · obtain ⟨dr, G, w1, ds, d, w', hs, hd, r, hf, q⟩ := h
    obtain ⟨m, rfl, hm, rfl, rfl⟩ := key hf
    obtain ⟨ok, ⟨scA, d1, d2⟩, d3⟩ := hd
    refine ⟨_, hb cdv A outer s H E, ?_⟩
    cases r with
    | cons r1 t =>
      cases t with
      | cons r2 t =>
        cases t
        cases r1
        cases r2
        have hG : Sub G (upd H dr (.lst [.ref scA, .int (nextW m w1).2.ix, .int (nextW m w1).2.big, .int (nextW m w1).2.seed])) := fun b o h => by
          rw [upd_ne (ne_of_none h d3)]
          exact hs b o h
        refine nx_reads ok hm d1 (fun H' hk => ?_) (q _ G _ ⟨hG, Sub.refl G, fun a o n h => ?_, fun _ _ _ n => n, ⟨nextW_ok ok hm.1, ⟨scA, upd_same, ?_⟩, d3⟩⟩ (.int _))
        · have hG' : Sub G H' := fun b o h => hk b o (ne_of_none h d3) (hs b o h)
          exact sub_l hG' d2
        · rw [upd_ne n]
          exact h
        · have e : (nextW m w1).2.sc = w1.sc := by
            unfold nextW
            split
            · rfl
            · split
              · split <;> rfl
              · rfl
          rw [e]
          exact d2
end
end Fc

/-! Fc, part I: a law's own def. -/
namespace Fc
open PySem PySem.Spec PyProof.Rows L2
section
variable {P : Program} {w : World} {K : PySem.W.Frag} {mg : Str → Option Value} {base : Heap}
def spDraw (K : PySem.W.Frag) : Sp := fun vs H Q _ => ∃ (a : Addr) (ns : List V), vs = [.ref a] ∧ SqL K H a ns ∧ ∀ l p, H l = none → p ≠ l → H p = none → Q (.ref p) (upd (upd H l (.lst ns)) p (.lst [.ref l, .int 0, .int 0, .int 17]))
def rListA (K : PySem.W.Frag) : List V → Hp → VK → Prop := fun xs H Q => ∃ p ys, xs = [.ref p] ∧ (SqL K H p ys ∨ SqT K H p ys) ∧ ∀ l, H l = none → Q (.ref l) (upd H l (.lst ys))
def tDr (K : PySem.W.Frag) : TS := tRet (tLst (tCons (tCB (rListA K) (tCons (tVar 0) tNil)) (tCons (tC (.int 0)) (tCons (tC (.int 0)) (tCons (tC (.int 17)) tNil)))))
theorem draw_ok {x qual : Str} {st : Stmt} {f : Addr} {fd : FuncData} (Fu : Fun K x qual st f fd) (sc : FnScope ["script"] ["script"] (defScope st))
    (hb : ∀ (cdv : Value) (A : Around) (outer : List PySem.Env) (s : Shared) (H : Hp) (E : XK), PSs (cxOf CX0 P w K mg base ["script"] qual (defScope st) f cdv A outer s H E).nox (defBody st) (tDr K)) :
    FnOk P w K mg base CX0 1 f fd ["script"] (spDraw K) := by
  refine Fu.ok (k := 0) sc (fun vs H Q E h => ?_) (fun cdv A outer s H vs Q E hr h => ?_)
  · obtain ⟨a, ns, rfl, _⟩ := h
    rfl
  · obtain ⟨a, ns, rfl, ha, q⟩ := h
    refine ⟨_, hb cdv A outer s H E, _, rfl, a, ns, rfl, .inl ha, fun l hl => ⟨by show 4 ≤ sizeLine; decide, fun p hp => ?_⟩⟩
    have hne : p ≠ l := fun z => by rw [z, upd_same] at hp; cases hp
    rw [upd_ne hne] at hp
    exact q l p hl hne hp
/-- law's: a list of at most 63 ints is handed in, True comes out -/
def spLaw (K : PySem.W.Frag) : Sp := fun vs H Q _ => ∃ (a : Addr) (ns : List Int), vs = [.ref a] ∧ SqL K H a (ns.map V.int) ∧ ns.length ≤ 63 ∧ ∀ H', Q (.bl true) H'
theorem law_ok {x qual : Str} {st st0 : Stmt} {rest : List Stmt} {f : Addr} {fd : FuncData} {N : List Str} {k : Nat} {O : List Nat} {F : F1} (Fu : Fun K x qual st f fd) (sc : FnScope N ["script"] (defScope st)) (hbody : defBody st = st0 :: rest)
    (hO : ∀ i ∈ O, 2 ≤ i) (hN : 2 ≤ N.length)
    (h0 : ∀ (cdv : Value) (A : Around) (outer : List PySem.Env) (s : Shared) (H : Hp) (E : XK), Room k (A.deeper (envOfC qual (defScope st) s.heap.objs.size f cdv)) → PS (cxOf CX0 P w K mg base N qual (defScope st) f cdv A outer s H E).nox st0 (tAsg (tCall (spDraw K) [] E0 (tCons (tVar 0) tNil)) (gName 1)))
    (hb : ∀ (cdv : Value) (A : Around) (outer : List PySem.Env) (s : Shared) (H : Hp) (E : XK), Room k (A.deeper (envOfC qual (defScope st) s.heap.objs.size f cdv)) → SSs (cxOf CX0 P w K mg base N qual (defScope st) f cdv A outer s H E).nox O rest F)
    (hF : ∀ ns : List Int, ns.length ≤ 63 → ∃ δ' w', F (none :: some .drw :: List.replicate (N.length - 2) none) ⟨ns, 0, 0, 17⟩ = some ((.rt (.bl true), δ'), w')) :
    FnOk P w K mg base CX0 (k + 1) f fd ["script"] (spLaw K) := by
  refine Fu.ok sc (fun vs H Q E h => ?_) (fun cdv A outer s H vs Q E hr h => ?_)
  · obtain ⟨a, ns, rfl, _⟩ := h
    rfl
  · obtain ⟨a, ns, rfl, ha, hl, q⟩ := h
    obtain ⟨δ', w', hf⟩ := hF ns hl
    rw [hbody]
    refine ⟨_, pss_cons (h0 cdv A outer s H E hr) (hb cdv A outer s H E hr), ?_⟩
    have e0 : (L2.start N [.ref a])[0]? = some (some (.ref a)) := rfl
    refine ⟨_, e0, a, ns.map V.int, rfl, ha, fun l p h1 h2 h3 => ?_⟩
    have lp : l ≠ p := Ne.symm h2
    refine ⟨p, _, upd (fun _ => none) l (.lst (ns.map V.int)), none :: some .drw :: List.replicate (N.length - 2) none, upd (fun _ => none) l (.lst (ns.map V.int)), ⟨ns, 0, 0, 17⟩, _, δ', w', ⟨fun b o z => ?_, Sub.refl _, fun _ _ _ z => z, ⟨_, upd_same⟩, ?_, fun i d z n => ?_, fun i d z n l1 => ?_, fun i j d1 d2 b ni nj l1 l2 z1 z2 => ?_, ⟨⟨hl, Int.le_refl 0, Int.le_refl 0, by show (0 : Int) ≤ 17; decide, by show (17 : Int) < 2147483647; decide⟩, ⟨l, upd_same, SqL.of upd_same⟩, ?_⟩, fun _ _ _ n => n⟩, hf, ?_⟩
    · by_cases hb : b = l
      · subst hb
        rw [upd_same] at z
        cases z
        show upd (upd H b _) p _ b = _
        rw [upd_ne lp, upd_same]
      · rw [upd_ne hb] at z
        cases z
    · show _ = ((L2.start N [.ref a]).set 1 (some (.ref p))).length
      rw [List.length_set]
      unfold L2.start
      simp
      omega
    · have key : i = 1 ∧ d = .drw := by
        match i, z with
        | 0, z => cases z
        | 1, z => cases z; exact ⟨rfl, rfl⟩
        | i + 2, z =>
          have z' : (List.replicate (N.length - 2) (none : Option D))[i]? = some (some d) := z
          rw [List.getElem?_replicate] at z'
          split at z' <;> cases z'
      obtain ⟨rfl, rfl⟩ := key
      refine ⟨.ref p, List.getElem?_set_self ?_, .drw⟩
      unfold L2.start
      simp
      omega
    · have h2i := hO i n
      match i, z with
      | i + 2, z =>
        have z' : (List.replicate (N.length - 2) (none : Option D))[i]? = some (some d) := z
        rw [List.getElem?_replicate] at z'
        split at z' <;> cases z'
    · have h2i := hO i ni
      match i, z1 with
      | i + 2, z =>
        have z' : (List.replicate (N.length - 2) (none : Option D))[i]? = some (some d1) := z
        rw [List.getElem?_replicate] at z'
        split at z' <;> cases z'
    · show upd (fun _ => none) l _ p = none
      rw [upd_ne h2]
    · intro v G' H' n r
      cases r
      exact q H'
end
end Fc

/-! Fc, part Z: defs by names, and further forms. -/
namespace Fc
open PySem PySem.Spec PyProof.Rows L2

/-- the module's name x stands for a def that computes F, at level k -/
def Has (P : Program) (w : World) (K : PySem.W.Frag) (mg : Str → Option Value) (base : Heap) (k : Nat) (x : Str) (ps : List Str) (F : List D → M D) : Prop :=
  ∃ (f : Addr) (fd : FuncData), FnOk P w K mg base CX0 k f fd ps (spOf K mg F) ∧ mg x = some (.ref f) ∧ PySem.W.keepIn K (.ref f) = true ∧ Binds K fd ps []
section
variable {X : Cx} {O : List Nat} {al bl cl : Bool} {a b c e tg : Expr} {es : List Expr} {f g h : Env → M D} {fs : Env → M (List D)} {F : List D → M D} {k : Nat} {ps : List Str} {x : Str} {p pos : Pos}
theorem se_has (H : Has X.prog X.w X.K X.mg X.base k x ps F) (hr : Room k X.A) (hg : Gl X x) (ha : SA X O false (e :: es) fs)
    (hdb : (x == ("__debug__" : Str)) = false := by decide) (he : starEach (e :: es) X.env = (false, eval e X.env) :: starEach es X.env := by rfl) (hpl : (backTo pos (starEach es X.env)).any (·.1) = false := by rfl) :
    SE X O false (.Call (.Name x p) (e :: es) [] pos) (eDef F fs) := by
  obtain ⟨f, fd, h1, h2, h3, h4⟩ := H
  exact se_def h1 hr hg h2 h3 h4 ha hdb he hpl
def eNotT (f : Env → M D) : Env → M D := fun δ => do
  let x ← f δ
  let k ← liftO (dTru x)
  pure (.bl (!k))
theorem se_notT (ha : SE X O al a f) : SE X O false (.UnaryOp .Not a pos) (eNotT f) :=
  PE.weak (pe_notT ha) fun σ H Q ⟨dr, B, G0, δ, G, w, d, w', S, hf, k⟩ => by
    obtain ⟨x, w1, h1, hf1⟩ := bind_some hf
    obtain ⟨b, w2, h2, hf2⟩ := bind_some hf1
    obtain ⟨h3, rfl⟩ := liftO_some h2
    obtain ⟨e, rfl⟩ := pure_some hf2
    subst e
    exact ⟨dr, B, G0, δ, G, w, x, _, S, h1, fun v G1 H1 g1 S1 r1 => ⟨b, r1.x.tru S1.sub h3, k _ G1 H1 g1 S1 (.bl _)⟩⟩
theorem hu65 {k : Nat} {A : Around} (hr : Room k A) : A.units + 65 < cLine := by have := hr.un; omega
end
end Fc

/-! Fc, part J: sums, greatest and least, lcm, divmod, in, count, defs as values, a place of one's own list. -/
namespace Fc
open PySem PySem.Spec PyProof.Rows L2

section
variable {X : Cx}
/-- the sum of a tuple of ints -/
def rSumT (K : PySem.W.Frag) : List V → Hp → VK → Prop := fun vs H Q => ∃ (a : Addr) (ns : List Int), vs = [V.ref a] ∧ SqT K H a (ns.map V.int) ∧ Q (.int ns.sum) H
theorem cr_sumT (hc : X.calm = true) : CallR X (.builtin "sum") (rSumT X.K) := by
  intro pins s σ H vs us Q I r h
  obtain ⟨a, ns, rfl, hs, q⟩ := h
  obtain ⟨its, rv, hl, _⟩ := I.tuple hs
  rw [Vals.ref1 r]
  have hi := rv.ints
  obtain ⟨xs, e⟩ := hi.allInts.items
  have hn : numsOf (intItems xs).toList = ns := by rw [← e]; exact hi.numsOf
  rw [nums_intItems] at hn
  rw [e] at hl
  refine PySem.W.ktm_sumG (I.ok.hd hc) hl fun h' tk t' hk => ?_
  rw [preSum_eq, List.take_of_length_le (by simp), hn]
  exact ⟨.int _, H, I.kept hk, ⟨_, rfl⟩, q⟩
def CLcm (a b : Int) : Prop := a.natAbs < 2 ^ 64 ∧ b.natAbs < 2 ^ 64
def rLcm : List V → Hp → VK → Prop := fun vs H Q => ∃ a b : Int, vs = [.int a, .int b] ∧ CLcm a b ∧ Q (.int ((Nat.lcm a.natAbs b.natAbs : Nat) : Int)) H
theorem cr_lcm : CallR X (.builtin "math.lcm") rLcm := by
  intro pins s σ H vs us Q I r h
  obtain ⟨a, b, rfl, ⟨h1, h2⟩, q⟩ := h
  obtain ⟨t, u, rfl⟩ := Vals.int2 r
  exact PySem.W.mc_lcm h1 h2 fun _ => ⟨.int _, H, I.tok _, ⟨_, rfl⟩, q⟩
/-- how often a flat item is in a list of flat items -/
def rCntF (K : PySem.W.Frag) : V → List V → Hp → VK → Prop := fun x xs H Q => ∃ (p : Addr) (ys : List V) (k : V), x = .ref p ∧ xs = [k] ∧ SqL K H p ys ∧ flatV k = true ∧ ys.all flatV = true ∧ Q (.int (ys.countP fun y => eqV y k : Nat)) H
theorem count_eqU {x : V} : ∀ {xs : List V} {us : List Value}, Vals xs us → xs.all flatV = true → us.countP (eqU x) = xs.countP fun y => eqV y x
  | _, _, .nil, _ => rfl
  | y :: xs, u :: us, .cons r t, f => by
    rw [List.all_cons, Bool.and_eq_true] at f
    rw [List.countP_cons, List.countP_cons, eqU_of r f.1, count_eqU t f.2]
theorem mt_lcountF : MtR X "list.count" (rCntF X.K) := by
  intro pins s σ H x xs v us Q I rx rxs h
  obtain ⟨p, ys, k, rfl, rfl, hs, fk, fy, q⟩ := h
  cases rx
  obtain ⟨u, rfl, ru⟩ := rxs.one
  obtain ⟨its, rv, ⟨⟨cls, dd, data, sl⟩, n, ho, hc, hdn, hd⟩, hlen⟩ := I.list hs
  simp only at hc hd
  subst hc hd
  refine call_meets PySem.F.slot_list_count ⟨_, ho, rfl⟩ PySem.F.entry_list_count (PySem.F.args_list_count_2 _ _)
    (SeqAt.list_countAt p its.toArray n dd sl u (eqU k)) ⟨ho, fun y hy => mem_eqAt ru fk rv fy y (by simpa using hy), ?_⟩
  have ec : its.toArray.toList.countP (eqU k) = ys.countP fun y => eqV y k := count_eqU rv fy
  refine ⟨.int (ys.countP fun y => eqV y k : Nat), H, I.tok _, ⟨s.toks, ?_⟩, q⟩
  show Value.int ((its.toArray.toList.countP (eqU k) : Nat) : Int) s.toks = _
  rw [ec]
end

section
variable {X : Cx} {O : List Nat} {al bl cl : Bool} {a b c e tg : Expr} {es : List Expr} {f g h : Env → M D} {fs : Env → M (List D)} {pos : Pos}
variable {K : PySem.W.Frag} {mg : Str → Option Value} {x : Str} {q p : Pos}

theorem asIs_map : ∀ l : List Int, asIs (l.map D.int) = some l
  | [] => rfl
  | x :: l => by
    show (asIs (l.map D.int)).map (x :: ·) = _
    rw [asIs_map l]
    rfl
/-! ### sums, greatest, least -/
def dSum : List D → Option D
  | [.lst l] => (asIs l).map fun ns => .int ns.sum
  | [.tup l] => (asIs l).map fun ns => .int ns.sum
  | _ => none
theorem cs_sum : CallS K mg (fun xs H Q => rSum K xs H Q ∨ rSumT K xs H Q) dSum := by
  intro p G H vs ds d Q hK hmg s r hd k
  subst hK
  match ds, hd, r with
  | [.lst l], hd, r =>
    cases q : asIs l with
    | none => simp [dSum, q] at hd
    | some bs =>
      have hd' : some (D.int bs.sum) = some d := by rw [← hd]; simp [dSum, q]
      cases hd'
      obtain ⟨v, rfl, rr⟩ := r.one
      obtain ⟨a, us, rfl, ha, ra⟩ := rr.x.lst s
      rw [asIs_some q] at ra
      rw [RepAll.ints ra] at ha
      exact .inl ⟨a, bs, rfl, SqL.of ha, k _ G H (.refl s) (.int _)⟩
  | [.tup l], hd, r =>
    cases q : asIs l with
    | none => simp [dSum, q] at hd
    | some bs =>
      have hd' : some (D.int bs.sum) = some d := by rw [← hd]; simp [dSum, q]
      cases hd'
      obtain ⟨v, rfl, rr⟩ := r.one
      obtain ⟨a, us, rfl, ha, ra, _⟩ := rr.x.tup s
      rw [asIs_some q] at ra
      rw [RepAll.ints ra] at ha
      exact .inr ⟨a, bs, rfl, ha, k _ G H (.refl s) (.int _)⟩
theorem se_sum (hc : X.calm = true) (hm : X.mg "sum" = none) (hg : Gl X "sum") (ha : SA X O true [e] fs) (he : starEach [e] X.env = (false, eval e X.env) :: starEach [] X.env := by rfl) (hpl : (backTo pos (starEach [] X.env)).any (·.1) = false := by rfl) : SE X O false (.Call (.Name "sum" q) [e] [] pos) (eCall dSum fs) :=
  se_callB ((cr_sum hc).or (cr_sumT hc)) cs_sum hg hm (by decide +kernel) ha (by decide) (by decide) he hpl
def dMax1 : List D → Option D
  | [.lst l] => (asIs l).bind fun ns => ns.max?.map D.int
  | _ => none
def dMin1 : List D → Option D
  | [.lst l] => (asIs l).bind fun ns => ns.min?.map D.int
  | _ => none
theorem cs_max1 : CallS K mg (rMax K) dMax1 := by
  intro p G H vs ds d Q hK hmg s r hd k
  subst hK
  match ds, hd, r with
  | [.lst l], hd, r =>
    cases q : asIs l with
    | none => simp [dMax1, q] at hd
    | some bs =>
      cases q2 : bs.max? with
      | none => simp [dMax1, q, q2] at hd
      | some m =>
        have hd' : some (D.int m) = some d := by rw [← hd]; simp [dMax1, q, q2]
        cases hd'
        obtain ⟨v, rfl, rr⟩ := r.one
        obtain ⟨a, us, rfl, ha, ra⟩ := rr.x.lst s
        rw [asIs_some q] at ra
        rw [RepAll.ints ra] at ha
        obtain ⟨m1, m2⟩ := List.max?_eq_some_iff.mp q2
        refine ⟨a, bs, rfl, SqL.of ha, List.length_pos_of_mem m1, fun m' h1 h2 => ?_⟩
        have : m' = m := Int.le_antisymm (m2 _ h1) (h2 _ m1)
        rw [this]
        exact k _ G H (.refl s) (.int _)
theorem cs_min1 : CallS K mg (rMin K) dMin1 := by
  intro p G H vs ds d Q hK hmg s r hd k
  subst hK
  match ds, hd, r with
  | [.lst l], hd, r =>
    cases q : asIs l with
    | none => simp [dMin1, q] at hd
    | some bs =>
      cases q2 : bs.min? with
      | none => simp [dMin1, q, q2] at hd
      | some m =>
        have hd' : some (D.int m) = some d := by rw [← hd]; simp [dMin1, q, q2]
        cases hd'
        obtain ⟨v, rfl, rr⟩ := r.one
        obtain ⟨a, us, rfl, ha, ra⟩ := rr.x.lst s
        rw [asIs_some q] at ra
        rw [RepAll.ints ra] at ha
        obtain ⟨m1, m2⟩ := List.min?_eq_some_iff.mp q2
        refine ⟨a, bs, rfl, SqL.of ha, List.length_pos_of_mem m1, fun m' h1 h2 => ?_⟩
        have : m' = m := Int.le_antisymm (h2 _ m1) (m2 _ h1)
        rw [this]
        exact k _ G H (.refl s) (.int _)
theorem se_max1 (hc : X.calm = true) (hm : X.mg "max" = none) (hg : Gl X "max") (ha : SA X O true [e] fs) (he : starEach [e] X.env = (false, eval e X.env) :: starEach [] X.env := by rfl) (hpl : (backTo pos (starEach [] X.env)).any (·.1) = false := by rfl) : SE X O false (.Call (.Name "max" q) [e] [] pos) (eCall dMax1 fs) :=
  se_callB (cr_max hc) cs_max1 hg hm (by decide +kernel) ha (by decide) (by decide) he hpl
theorem se_min1 (hc : X.calm = true) (hm : X.mg "min" = none) (hg : Gl X "min") (ha : SA X O true [e] fs) (he : starEach [e] X.env = (false, eval e X.env) :: starEach [] X.env := by rfl) (hpl : (backTo pos (starEach [] X.env)).any (·.1) = false := by rfl) : SE X O false (.Call (.Name "min" q) [e] [] pos) (eCall dMin1 fs) :=
  se_callB (cr_min hc) cs_min1 hg hm (by decide +kernel) ha (by decide) (by decide) he hpl
/-! ### lcm, divmod -/
def dLcm : List D → Option D
  | [.int i, .int j] => if i.natAbs < 18446744073709551616 ∧ j.natAbs < 18446744073709551616 then some (.int (Nat.lcm i.natAbs j.natAbs : Nat)) else none
  | _ => none
theorem cs_lcm : CallS K mg rLcm dLcm := by
  intro p G H vs ds d Q hK hmg s r hd k
  match ds, hd, r with
  | [.int i, .int j], hd, r =>
    have hd2 : (if i.natAbs < 18446744073709551616 ∧ j.natAbs < 18446744073709551616 then some (D.int (Nat.lcm i.natAbs j.natAbs : Nat)) else none) = some d := hd
    split at hd2
    · rename_i hh
      cases hd2
      obtain ⟨v, u, rfl, rr, r2⟩ := r.two
      exact ⟨i, j, by rw [rr.x.int, r2.x.int], hh, k _ G H (.refl s) (.int _)⟩
    · cases hd2
theorem se_lcm (hm : X.mg "lcm" = some (.builtin "math.lcm")) (hg : Gl X "lcm") (ha : SA X O true [a, b] fs) (he : starEach [a, b] X.env = (false, eval a X.env) :: starEach [b] X.env := by rfl) (hpl : (backTo pos (starEach [b] X.env)).any (·.1) = false := by rfl) : SE X O false (.Call (.Name "lcm" q) [a, b] [] pos) (eCall dLcm fs) :=
  se_callF cr_lcm cs_lcm hg hm ha (by decide) he hpl
def dDivmod : List D → Option D
  | [.int i, .int j] => if 0 < j ∧ j < 1073741824 then some (.tup [.int (i / j), .int (i % j)]) else none
  | _ => none
theorem cs_divmod : CallS K mg (fun xs H Q => ∃ i j, xs = [.int i, .int j] ∧ CDiv i j ∧ ∀ p, H p = none → Q (.ref p) (upd H p (.tup [.int (i / j), .int (i % j)]))) dDivmod := by
  intro p G H vs ds d Q hK hmg s r hd k
  match ds, hd, r with
  | [.int i, .int j], hd, r =>
    have hd2 : (if 0 < j ∧ j < 1073741824 then some (D.tup [.int (i / j), .int (i % j)]) else none) = some d := hd
    split at hd2
    · rename_i hh
      cases hd2
      obtain ⟨v, u, rfl, rr, r2⟩ := r.two
      refine ⟨i, j, by rw [rr.x.int, r2.x.int], hh, fun a ha => ?_⟩
      obtain ⟨gr, rz⟩ := Rep.newT (p := p) (vs := [.int (i / j), .int (i % j)]) (ds := [.int (i / j), .int (i % j)]) s ha (.cons (.int _) (.cons (.int _) .nil))
      exact k _ _ _ gr rz
    · cases hd2
theorem se_divmod (hm : X.mg "divmod" = none) (hg : Gl X "divmod") (ha : SA X O true [a, b] fs) (he : starEach [a, b] X.env = (false, eval a X.env) :: starEach [b] X.env := by rfl) (hpl : (backTo pos (starEach [b] X.env)).any (·.1) = false := by rfl) : SE X O false (.Call (.Name "divmod" q) [a, b] [] pos) (eCall dDivmod fs) :=
  se_callB call_divmod cs_divmod hg hm (by decide +kernel) ha (by decide) (by decide) he hpl
/-! ### flat items -/
def D.flat : D → Option V
  | .non => some .non
  | .bl b => some (.bl b)
  | .int i => some (.int i)
  | .str x => some (.str x)
  | _ => none
def flats : List D → Option (List V)
  | [] => some []
  | d :: l => d.flat.bind fun v => (flats l).map (v :: ·)
theorem flat_is {p : Par} {G H : Hp} {v u : V} {d : D} (r : RepX p G H v d) (h : d.flat = some u) : v = u ∧ flatV u = true := by
  cases d <;> try (cases h; done)
  · cases h; exact ⟨r.non, rfl⟩
  · cases h; exact ⟨r.bl, rfl⟩
  · cases h; exact ⟨r.int, rfl⟩
  · cases h; exact ⟨r.str, rfl⟩
theorem flats_are {p : Par} {G : Hp} : ∀ {vs us : List V} {ds : List D}, RepAll p G vs ds → flats ds = some us → vs = us ∧ us.all flatV = true
  | _, _, _, .nil, h => by
    cases h
    exact ⟨rfl, rfl⟩
  | _, us, d :: ds, .cons (v := v) (vs := vs) r t, h => by
    have h' : (d.flat.bind fun v => (flats ds).map (v :: ·)) = some us := h
    cases q : d.flat with
    | none => rw [q] at h'; cases h'
    | some u =>
      cases q2 : flats ds with
      | none => rw [q, q2] at h'; cases h'
      | some ws =>
        rw [q, q2] at h'
        have h2 : some (u :: ws) = some us := h'
        cases h2
        obtain ⟨e1, f1⟩ := flat_is (H := G) (.rep r) q
        obtain ⟨e2, f2⟩ := flats_are t q2
        subst e1 e2
        exact ⟨rfl, by rw [List.all_cons, f1, f2]; rfl⟩
def dInB (neg : Bool) (x y : D) : Option D := match y with
  | .lst l => x.flat.bind fun u => (flats l).map fun us => .bl (if neg then !inV u us else inV u us)
  | .tup l => x.flat.bind fun u => (flats l).map fun us => .bl (if neg then !inV u us else inV u us)
  | _ => none
def dIn : D → D → Option D := dInB false
def dNotIn : D → D → Option D := dInB true
theorem os_inB {neg : Bool} : OpS K mg (rIn K neg) (dInB neg) := by
  intro p G H v u x y d Q hK hmg s rx ry hd k
  subst hK
  have key : ∀ l : List D, (x.flat.bind fun u => (flats l).map fun us => D.bl (if neg then !inV u us else inV u us)) = some d → ∃ w us, x.flat = some w ∧ flats l = some us ∧ d = .bl (if neg then !inV w us else inV w us) := by
    intro l h
    cases q : x.flat with
    | none => rw [q] at h; cases h
    | some w =>
      cases q2 : flats l with
      | none => rw [q, q2] at h; cases h
      | some us =>
        rw [q, q2] at h
        have h2 : some (D.bl (if neg then !inV w us else inV w us)) = some d := h
        exact ⟨w, us, rfl, rfl, (Option.some.inj h2).symm⟩
  cases y <;> try (cases hd; done)
  · rename_i l
    obtain ⟨w, us, h1, h2, rfl⟩ := key l hd
    obtain ⟨a, vs, rfl, ha, ra, _⟩ := ry.tup s
    obtain ⟨rfl, f1⟩ := flat_is rx h1
    obtain ⟨rfl, f2⟩ := flats_are ra h2
    exact ⟨a, _, rfl, .inr ha, f1, f2, k _ G H (.refl s) (.bl _)⟩
  · rename_i l
    obtain ⟨w, us, h1, h2, rfl⟩ := key l hd
    obtain ⟨a, vs, rfl, ha, ra⟩ := ry.lst s
    obtain ⟨rfl, f1⟩ := flat_is rx h1
    obtain ⟨rfl, f2⟩ := flats_are ra h2
    exact ⟨a, _, rfl, .inl (SqL.of ha), f1, f2, k _ G H (.refl s) (.bl _)⟩
theorem se_in (ha : SE X O al a f) (hb : SE X O bl b g) (hm : behindInMarks .In b = false := by first | exact nomark _ | rfl) : SE X O false (.Compare a [.In] [b] pos) (eBin dIn f g) := se_cmp op_in_seq os_inB ha hb hm
theorem se_notIn (ha : SE X O al a f) (hb : SE X O bl b g) (hm : behindInMarks .NotIn b = false := by first | exact nomark _ | rfl) : SE X O false (.Compare a [.NotIn] [b] pos) (eBin dNotIn f g) := se_cmp op_notIn_seq os_inB ha hb hm
/-- how often an item is in a list -/
def dCount (x y : D) : Option D := match x with
  | .lst l => y.flat.bind fun u => (flats l).map fun us => .int (us.countP fun z => eqV z u : Nat)
  | _ => none
theorem se_count {p3 : Pos} (ha : SE X O al a f) (hb : SE X O bl e g) (he : starEach [e] X.env = (false, eval e X.env) :: starEach [] X.env := by rfl)
    (hbase : attributeBase a "count" X.env (eval a X.env) = eval a X.env := by rfl)
    (hfew : ((backTo pos (starEach [e] X.env)).all (fun x => !x.1) && (backToKw pos (keywordEach [] X.env)).all (fun x => x.1.isSome)
      && decide ([e].length + ([] : List Keyword).length + (if ([] : List Keyword).isEmpty then 0 else 1) < 30)) = true := by rfl)
    (hline : (p3.endLine == pos.line) = true := by rfl) (hplain : (backTo pos (starEach [] X.env)).any (·.1) = false := by rfl) :
    SE X O false (.Call (.Attribute a "count" p3) [e] [] pos) (eBin dCount f g) :=
  PE.weak (pe_bm PySem.F.plainAttrs_list PySem.F.slot_list_count PySem.F.type_list_count mt_lcountF ha (pa_cons hb pa_nil he) hbase hfew hline he hplain) fun σ H Q ⟨dr, B, G0, δ, G, w, d, w', S, hf, k⟩ => by
    obtain ⟨x, w1, y, h1, h2, h3⟩ := eBin_some hf
    refine ⟨dr, B, G0, δ, G, w, x, w1, S, h1, fun v G1 H1 g1 S1 r1 => ?_⟩
    cases x <;> try (cases h3; done)
    rename_i l
    have h3' : (y.flat.bind fun u => (flats l).map fun us => D.int (us.countP fun z => eqV z u : Nat)) = some d := h3
    cases q : y.flat with
    | none => rw [q] at h3'; cases h3'
    | some u =>
      cases q2 : flats l with
      | none => rw [q, q2] at h3'; cases h3'
      | some us =>
        rw [q, q2] at h3'
        have h4 : some (D.int (us.countP fun z => eqV z u : Nat)) = some d := h3'
        cases h4
        obtain ⟨a0, vs0, e0, ha0, ra0⟩ := r1.x.lst S1.sub
        subst e0
        refine ⟨tyV_lst ha0, dr, B, G0, δ, G1, w1, y, w', S1, h2, fun z G2 H2 g2 S2 r2 => ?_⟩
        obtain ⟨a1, vs1, e1, ha1, ra1⟩ := (r1.grow g2).x.lst S2.sub
        cases e1
        obtain ⟨rfl, f1⟩ := flat_is r2.x q
        obtain ⟨rfl, f2⟩ := flats_are ra1 q2
        exact ⟨a0, _, _, rfl, rfl, SqL.of ha1, f1, f2, k _ G2 H2 (g1.trans g2) S2 (.int _)⟩
/-! ### defs as values -/
def eFn (x : Str) : Env → M D := fun _ => pure (.fn x)
theorem se_fn {P : Program} {w : World} {base : Heap} {k : Nat} {ps : List Str} {F : List D → M D} (H : Has P w X.K X.mg base k x ps F) (hg : Gl X x) (hd : (x == ("__debug__" : Str)) = false := by decide) : SE X O false (.Name x pos) (eFn x) := by
  obtain ⟨f, fd, h1, h2, h3, h4⟩ := H
  exact PE.weak (pe_glob (v := .ref f) hg h2 rfl hd) fun σ H Q ⟨dr, B, G0, δ, G, w, d', w', S, hf, k⟩ => by
    obtain ⟨h1, h2'⟩ := pure_some hf
    subst h1; subst h2'
    exact k (.ref f) G H (.refl _ G H) S (.fn h2)
def eDyn (tb : Str → Option (List D → M D)) (i : Nat) (fs : Env → M (List D)) : Env → M D := fun δ => match δ[i]? with
  | some (some (.fn x)) => match tb x with
    | some F => fs δ >>= F
    | none => fail
  | _ => fail
theorem eDyn_some {tb : Str → Option (List D → M D)} {i : Nat} {δ : Env} {w w' : Dw} {d : D} (h : eDyn tb i fs δ w = some (d, w')) : ∃ x F, δ[i]? = some (some (.fn x)) ∧ tb x = some F ∧ eDef F fs δ w = some (d, w') := by
  unfold eDyn at h
  cases q : δ[i]? with
  | none => rw [q] at h; cases h
  | some o =>
    cases o with
    | none => rw [q] at h; cases h
    | some d' =>
      cases d' <;> try (rw [q] at h; cases h; done)
      rename_i x
      rw [q] at h
      cases q2 : tb x with
      | none => simp only [q2] at h; cases h
      | some F =>
        simp only [q2] at h
        exact ⟨x, F, rfl, q2, h⟩
/-- a call through a name that holds one of the defs that tb tells -/
theorem se_dyn (i : Nat) {y : Str} {k : Nat} {tb : Str → Option (List D → M D)} (hT : ∀ x F, tb x = some F → ∃ ps, Has X.prog X.w X.K X.mg X.base k x ps F) (hr : Room k X.A) (ha : SA X O false (e :: es) fs) (hO : i ∉ O := by decide) (hN : X.N[i]? = some y := by rfl)
    (hv : Vis X.env.scope y := by first | exact Or.inl rfl | exact Or.inr (Or.inl rfl) | exact Or.inr (Or.inr rfl)) (hd : (y == ("__debug__" : Str)) = false := by decide) (hcd : (y == ("__classdict__" : Str)) = false := by decide)
    (he : starEach (e :: es) X.env = (false, eval e X.env) :: starEach es X.env := by rfl) (hpl : (backTo pos (starEach es X.env)).any (·.1) = false := by rfl) :
    SE X O false (.Call (.Name y p) (e :: es) [] pos) (eDyn tb i fs) := by
  refine ⟨fun pins s σ H Q I h => ?_⟩
  obtain ⟨dr, B, G0, δ, G, w, d, w', S, hf, kk⟩ := h
  obtain ⟨x, F, h1, h2, h3⟩ := eDyn_some hf
  obtain ⟨ps, f, fd, H1, H2, H3, H4⟩ := hT x F h2
  obtain ⟨v, ev, rv⟩ := S.vals i _ h1 fun z => hO z.1
  have evf : v = .ref f := by
    cases rv with
    | fn hm =>
      have hm' : X.mg x = some (.ref _) := hm
      rw [H2] at hm'
      cases hm'
      rfl
  subst evf
  refine (ItX.pe_callV (H1.raw (ds := []) (dvs := []) H4 .nil) hr H3 (E := E0) pass0 hN hv ha hd hcd he hpl).run pins s σ H Q I ⟨ev, ?_⟩
  exact tOf_def ⟨dr, B, G0, δ, G, w, d, w', S, h3, kk⟩
/-! ### a place of one's own list -/
def opSet (d : D) (i : Int) (ds : List D) : Option (List D) := (ixN ds.length i).map fun j => ds.set j d
def sSetIx (i : Nat) (f g : Env → M D) : F1 := fun δ => do
  let d ← f δ
  let n ← g δ
  let k ← liftO (asI n)
  let δ' ← liftO (chg i (opSet d k) δ)
  pure (.nx, δ')
theorem ss_setIx (i : Nat) {x : Str} {p2 p3 : Pos} (ha : SE X O false e f) (hb : SE X O bl b g) (hO : i ∈ O := by decide) (hN : X.N[i]? = some x := by rfl) (hv : Vis X.env.scope x := by first | exact Or.inl rfl | exact Or.inr (Or.inl rfl))
    (hsub : ∀ v, assign (.Subscript (.Name x p2) b p3) X.env v = (do
      let ov ← holding [v] (eval (.Name x p2) X.env)
      let iv ← holding [v, ov] (eval b X.env)
      standAt p3
      holding [v, ov, iv] (setItem ov iv v)
      release [v, ov, iv] []) := by intro _; rfl)
    (hd : (x == ("__debug__" : Str)) = false := by decide) (hcd : (x == ("__classdict__" : Str)) = false := by decide)
    (hs : swapsWithSole [(.Subscript (.Name x p2) b p3)] e pos.line X.env = pure false := by rfl) (hw : swappedStores [(.Subscript (.Name x p2) b p3)] e X.env = pure none := by rfl)
    (h1 : (assignEach [(.Subscript (.Name x p2) b p3)] X.env).map (·.2) = [assign (.Subscript (.Name x p2) b p3) X.env] := by rfl) : SS X O (.Assign [.Subscript (.Name x p2) b p3] e pos) (sSetIx i f g) :=
  PS.weak (ps_asg ha (pg_sub (pe_var hN (by rcases hv with h | h; exact .inl h; exact .inr h) hd hcd) hb set_list hsub) hs hw h1) fun E σ H ⟨dr, B, G0, δ, G, w, o, δ', w', S, hf, k⟩ => by
    obtain ⟨d, w1, h1, hf1⟩ := bind_some hf
    obtain ⟨n, w2, h2, hf2⟩ := bind_some hf1
    obtain ⟨j, w3, h3, hf3⟩ := bind_some hf2
    obtain ⟨h4, rfl⟩ := liftO_some h3
    obtain ⟨δ1, w4, h5, hf4⟩ := bind_some hf3
    obtain ⟨h6, rfl⟩ := liftO_some h5
    obtain ⟨e, rfl⟩ := pure_some hf4
    cases e
    obtain ⟨ds, ds', e1, e2, e3⟩ := chg_some h6
    subst e3
    obtain ⟨a, vs, ds0, z0, z1, z2, z3, z4, z5⟩ := S.owns i _ e1 hO rfl
    refine ⟨dr, B, G0, δ, G, w, d, w1, S, h1, fun v G1 H1 g1 S1 r1 => ?_⟩
    refine ⟨.ref a, z1, dr, B, G0, δ, G1, w1, n, _, S1, h2, fun u G2 H2 g2 S2 r2 => ?_⟩
    obtain ⟨a', vs', ds1, y0, y1, y2, y3, y4, y5⟩ := S2.owns i _ e1 hO rfl
    rw [z1] at y1
    cases y1
    cases y0
    unfold opSet at e2
    cases q : ixN ds.length j with
    | none => rw [q] at e2; cases e2
    | some m =>
      rw [q] at e2
      have e2' : some (ds.set m d) = some ds' := e2
      cases e2'
      cases n <;> try (cases h4; done)
      cases h4
      refine ⟨a, vs', _, m, rfl, r2.x.int, y2, by rw [y5.length]; exact q, ?_⟩
      exact k σ G2 _ (S2.mut hO e1 z1 y2 (RepAll.set (Rep.mono g2.g r1) m y5)) (g1.g.trans g2.g)
end
end Fc

/-! Fc, part K: three names at once; tables of defs. -/
namespace Fc
open PySem PySem.Spec PyProof.Rows L2
section
variable {P : Program} {w : World} {K : PySem.W.Frag} {mg : Str → Option Value} {base : Heap} {j k : Nat} {x : Str} {ps : List Str} {F : List D → M D}
theorem Has.mono (H : Has P w K mg base j x ps F) (h : j ≤ k) : Has P w K mg base k x ps F := by
  obtain ⟨f, fd, h1, h2, h3, h4⟩ := H
  exact ⟨f, fd, h1.mono h, h2, h3, h4⟩
/-- a table of defs -/
def tbN : Str → Option (List D → M D) := fun _ => none
def tbC (x0 : Str) (F0 : List D → M D) (rest : Str → Option (List D → M D)) : Str → Option (List D → M D) := fun x => if x = x0 then some F0 else rest x
theorem tbN_has : ∀ x F, tbN x = some F → ∃ ps, Has P w K mg base k x ps F := fun x F h => by cases h
theorem tbC_has {x0 : Str} {F0 : List D → M D} {rest : Str → Option (List D → M D)} (h0 : Has P w K mg base k x0 ps F0) (hr : ∀ x F, rest x = some F → ∃ ps, Has P w K mg base k x ps F) : ∀ x F, tbC x0 F0 rest x = some F → ∃ ps, Has P w K mg base k x ps F := by
  intro x F h
  unfold tbC at h
  split at h
  · rename_i e
    cases h
    subst e
    exact ⟨_, h0⟩
  · exact hr x F h
end
section
variable {X : Cx} {O : List Nat} {a b c : Expr} {fs : Env → M (List D)} {pos : Pos}
theorem RepAs.three {p : Par} {al : Bool} {G H : Hp} {vs : List V} {d e f : D} (r : RepAs p al G H vs [d, e, f]) : ∃ v u t, vs = [v, u, t] ∧ RepA p al G H v d ∧ RepA p al G H u e ∧ RepA p al G H t f := by
  cases r with
  | cons r t => cases t with
    | cons r2 t => cases t with
      | cons r3 t => cases t; exact ⟨_, _, _, rfl, r, r2, r3⟩
/-- a, b, c = x, y, z of three local names -/
def sPar3 (i j l : Nat) (fs : Env → M (List D)) : F1 := fun δ => do
  let xs ← fs δ
  match xs with
  | [x, y, z] => pure (.nx, ((δ.set i (some x)).set j (some y)).set l (some z))
  | _ => fail
theorem ss_par3 (i j l : Nat) {x y z : Str} {px py pz pt : Pos} {kt k2 pt2} (hc : X.calm = true) (hN : X.N.Nodup) (ha : SA X O false [a, b, c] fs) (hO : i ∉ O := by decide) (hO2 : j ∉ O := by decide) (hO3 : l ∉ O := by decide) (hi : X.N[i]? = some x := by rfl) (hj : X.N[j]? = some y := by rfl) (hl : X.N[l]? = some z := by rfl)
    (hij : i ≠ j := by decide) (hil : i ≠ l := by decide) (hjl : j ≠ l := by decide)
    (hx : X.env.scope.names.lookup x = some .local := by rfl) (hy : X.env.scope.names.lookup y = some .local := by rfl) (hz : X.env.scope.names.lookup z = some .local := by rfl)
    (hw : swappedStores [.Tuple [.Name x px, .Name y py, .Name z pz] kt pt] (.Tuple [a, b, c] k2 pt2) X.env = pure (some [x, y, z]) := by rfl)
    (hs : swapsWithSole [.Tuple [.Name x px, .Name y py, .Name z pz] kt pt] (.Tuple [a, b, c] k2 pt2) pos.line X.env = pure false := by rfl) :
    SS X O (.Assign [.Tuple [.Name x px, .Name y py, .Name z pz] kt pt] (.Tuple [a, b, c] k2 pt2) pos) (sPar3 i j l fs) :=
  PS.weak (ps_par3 hc hN hi hj hl hij hil hjl hx hy hz ha hw hs) fun E σ H ⟨dr, B, G0, δ, G, w, o, δ', w', S, hf, k⟩ => by
    obtain ⟨xs, w1, h1, hf1⟩ := bind_some hf
    refine ⟨dr, B, G0, δ, G, w, xs, w1, S, h1, fun vs G1 H1 g1 S1 r1 => ?_⟩
    match xs, hf1, r1 with
    | [d1, d2, d3], hf1, r1 =>
      obtain ⟨e, rfl⟩ := pure_some hf1
      cases e
      obtain ⟨v, u, t, rfl, ra, rb, rc⟩ := r1.three
      exact ⟨v, u, t, rfl, k _ G1 H1 (((S1.set hO ra).set hO2 rb).set hO3 rc) g1.g⟩
end
end Fc

/-! Fc, part L: enumerate and zip of lists and tuples; slots that hold a list first and another thing then; two new lists at once; lists joined and repeated. -/
namespace Fc
open PySem PySem.Spec PyProof.Rows L2

/-! ### enumerate(v) of anything that begins -/
set_option maxHeartbeats 4000000 in
theorem enumNew1 {v : Value} {ob : Obj} {Hh : Heap → Prop} (B : Begins v ob Hh) :
    Meets (Builtin.«enumerate.__new__» ⟨[.type "enumerate", v], []⟩) (fun _ R s => Hh s.heap ∧
      R (.ok (.ret (.ref (s.heap.push ob).objs.size))) { s with heap := (s.heap.push ob).push { cls := .type "enumerate", data := .fields #[.none, .bool false, .ref s.heap.objs.size, rawInt 0, .none, .none] } }) :=
  .of_wp fun prog w A R s h => by
    obtain ⟨hp, gs, dr, tk, os⟩ := s; obtain ⟨hh1, hR⟩ := h
    have isSub := sub_enumerate
    have begin1 : ∀ {A' : Around} {E : Value → Shared → Prop} {Q : Value → Shared → Prop}, Q (.ref hp.objs.size) ⟨hp.push ob, gs, dr, tk, os⟩ → wpAny (model prog w) A' (pyIter v) Q E ⟨hp, gs, dr, tk, os⟩ :=
      fun k => B.iter prog w _ _ ⟨hp, gs, dr, tk, os⟩ _ hh1 k
    wp_walk using begin1
    refine wpAny_stack_any fun _ => wpAny_pure ?_
    split
    · rename_i cc _ _ _ _ _
      cases (cc == Value.type "enumerate") <;> (wp_walk using begin1; exact ⟨_, rfl, hR⟩)
    · wp_walk using begin1
      exact ⟨_, rfl, hR⟩
theorem enumCall1 {prog : Program} {w : World} {A : Around} {E : Value → Shared → Prop} {s : Shared} {v : Value} {ob : Obj} {Hh : Heap → Prop} {Q : Value → Shared → Prop} (B : Begins v ob Hh) (hh1 : Hh s.heap)
    (k : ∀ h', IsEnum h' (s.heap.objs.size + 1) s.heap.objs.size 0 .none → h'.get? s.heap.objs.size = some ob → (∀ b o, s.heap.get? b = some o → h'.get? b = some o) → Q (.ref (s.heap.objs.size + 1)) { s with heap := h' }) :
    wpAny (model prog w) A (call (.type "enumerate") [v]) Q E s := by
  have sz : (s.heap.push ob).objs.size = s.heap.objs.size + 1 := Heap.size_push ..
  have en : IsEnum ((s.heap.push ob).push { cls := .type "enumerate", data := .fields #[.none, .bool false, .ref s.heap.objs.size, rawInt 0, .none, .none] }) (s.heap.objs.size + 1) s.heap.objs.size 0 .none := by
    have z := Heap.get?_push_size (s.heap.push ob) (o := { cls := .type "enumerate", data := .fields #[.none, .bool false, .ref s.heap.objs.size, rawInt 0, .none, .none] }) rfl
    rw [sz] at z
    exact z
  refine callType_new F.called_enumerate (by decide) (F.typeCall_enumerate_1 _) (F.newCall_enumerate_1 _) (fun ob' => F.args_object_init_2 ob' _) F.entry_enumerate_new (enumNew1 B) ⟨hh1, ?_⟩
  show _ ∧ _
  rw [sz]
  exact ⟨⟨_, en, rfl⟩, k _ en (Heap.get?_push_of_some _ (Heap.get?_push_size _ B.free)) fun b o q => Heap.get?_push_of_some _ (Heap.get?_push_of_some _ q)⟩
/-- the tuple at a as it stands at each turn, its items with their numbers -/
def IteT (K : PySem.W.Frag) (a : Addr) : It where
  go := fun i H => ∃ (xs : List V) (x : V), SqT K H a xs ∧ xs[i]? = some x
  yld := fun i H v H' => ∃ T x, v = .ref T ∧ H T = none ∧ H' = upd H T (.tup [.int (i : Nat), x]) ∧ ∀ xs, SqT K H a xs → xs[i]? = some x
  stop := fun i H => ∃ xs : List V, SqT K H a xs ∧ xs.length = i
theorem turnEnumT {P : Program} {w : World} {K : PySem.W.Frag} {elts : List Expr} {kk : Nat} {tpos : Pos} (a e it : Addr) :
    Turn P w K (.Tuple elts kk tpos) (IteT K a) [e, it] e (fun i h => (∃ old, IsEnum h e it ((i : Nat) : Int) old) ∧ h.IsTupleIter it a i ∧ e ≠ it ∧ a ≠ it ∧ e ≠ a) where
  mem := by simp
  obj := fun i h st b hb => by
    obtain ⟨⟨old, en⟩, ⟨ob, hob, _, hdat⟩, _⟩ := st
    have two : b = e ∨ b = it := by simpa using hb
    rcases two with rfl | rfl
    · exact ⟨_, en, fun v z => nomatch z⟩
    · exact ⟨ob, hob, fun v z => by rw [hdat] at z; cases z⟩
  keep := fun i h h' st k => let ⟨⟨old, en⟩, ti, ne⟩ := st; ⟨⟨old, k e (by simp) _ en⟩, ti.at fun o z => k it (by simp) o z, ne⟩
  item := by
    intro X hP hw hK hc i pins s σ H E I hf st hg
    subst hP hw hK
    obtain ⟨⟨old, en⟩, ti, ne, na, nea⟩ := st
    obtain ⟨xs, x, hq, hx⟩ := hg
    obtain ⟨its, rv, tp, _⟩ := I.tuple hq
    obtain ⟨u, hu, ru⟩ := rv.get hx
    have el : e < s.heap.objs.size := Heap.lt_size en
    have il : it < s.heap.objs.size := by obtain ⟨_, z, _⟩ := ti; exact Heap.lt_size z
    have hlt : i < its.toArray.size := by
      have := (List.getElem?_eq_some_iff.mp hu).1
      simpa using this
    have hef : e ∉ [it, a] := by simp [ne, nea]
    refine wpAny_pyNext_enum_itemC (Draws.tuple (A := X.A.in1) (prog := X.prog) (w := X.w) (show X.A.in1.handled = none from I.ok.hd hc) it a na its.toArray) en ⟨ti, tp⟩ hlt ne hef fun x' h' tk hP ho st' hT hsz hk => ?_
    have ex : x' = u := by
      have hP' : its.toArray[i]? = some x' := hP
      have : its.toArray[i]? = some u := by simpa using hu
      rw [this] at hP'
      exact (Option.some.inj hP').symm
    subst ex
    refine ⟨_, rfl, wpAny_letOwnedTupleGo_enum (s := { s with heap := h', toks := tk + 1 }) ho fun h'' en' sb => ?_⟩
    have hT2 : h''.get? s.heap.objs.size = some { cls := .type "tuple", data := .seq #[.int i tk, x'] } := (sb.2 _ (Nat.ne_of_gt el)).trans hT
    have nw : ObjOk X.prog X.w (upd H s.heap.objs.size (.tup [.int (i : Nat), x])) h'' s.heap.objs.size (.tup [.int (i : Nat), x]) :=
      ⟨by show 2 ≤ sizeLine; decide, [.int i tk, x'], .cons ⟨_, rfl⟩ (.cons ru .nil), ⟨_, hT2, rfl, _, rfl⟩⟩
    have I1 : Inv X pins σ (upd H s.heap.objs.size (.tup [.int (i : Nat), x])) { s with heap := h'', toks := tk + 1 } :=
      I.turnedNew (ch := [e, it]) (fun b ob hb z => (sb.2 b (fun z' => hb (by simp [z']))).trans (hk b ob (fun z' => hb (by simp [z'])) (fun z' => hb (by simp [z'])) z)) hf (Nat.le_refl _) nw
    refine ⟨.ref s.heap.objs.size, _, I1, rfl, ⟨_, x, rfl, I.hok.fresh (Nat.le_refl _), rfl, fun ys hy => by rw [I.tuple_inj hy hq]; exact hx⟩, ⟨⟨x', ?_⟩, st'.1.at fun o z => (sb.2 it (Ne.symm ne)).trans z, ne, na, nea⟩, fun b hb => ?_⟩
    · have e1 : ((i + 1 : Nat) : Int) = (i : Int) + 1 := by omega
      rw [e1]; exact en'
    · have hb' : b < s.heap.objs.size := by
        have two : b = e ∨ b = it := by simpa using hb
        rcases two with rfl | rfl
        · exact el
        · exact il
      rw [upd_ne (Nat.ne_of_lt hb')]
      exact (hf b hb).1
  done := by
    intro X hP hw hK hc i pins s σ H E I hf st hg
    subst hP hw hK
    obtain ⟨⟨old, en⟩, ti, ne, na, nea⟩ := st
    obtain ⟨xs, hq, hx⟩ := hg
    obtain ⟨its, rv, tp, _⟩ := I.tuple hq
    obtain ⟨f0, f1, f2, f3, f4, f5⟩ := hf it (by simp)
    have hl := rv.length
    have hsz : i = its.toArray.size := by simp; omega
    exact wpAny_pyNext_enum_endD (Draws.tuple (A := X.A.in1) (prog := X.prog) (w := X.w) (show X.A.in1.handled = none from I.ok.hd hc) it a na its.toArray) en (hsz ▸ ⟨ti, tp⟩) fun h' eb => ⟨rfl, I.turned (t' := s.toks) (fun b o hb z => eb b o hb z) f0 f1 f3 f4 f5⟩
  self := fun A i s Q E st h => let ⟨⟨_, en⟩, _⟩ := st; wpAny_pyIter_enum en h
def iEnumA (K : PySem.W.Frag) (ta : TA) : TI := fun σ H R => ta σ H fun vs H1 => ∃ a xs, vs = [.ref a] ∧ ((SqL K H1 a xs ∧ R (Ite K a) H1) ∨ (SqT K H1 a xs ∧ R (IteT K a) H1))
theorem pi_enumA {X : Cx} {e : Expr} {ta : TA} {p pos tpos : Pos} {elts : List Expr} {kk : Nat} (hg : Gl X "enumerate") (hm : X.mg "enumerate" = none) (ha : PA X [e] ta) (hs : starEach [e] X.env = [(false, eval e X.env)] := by rfl) :
    PI X (.Tuple elts kk tpos) (.Call (.Name "enumerate" p) [e] [] pos) (iEnumA X.K ta) := by
  refine ⟨fun pins s σ H R I h => ?_⟩
  refine Call_ (ld_blt I hg hm boot_enumerate (PyProof.Rows.callWith_type1 (thn (ha.run pos pins s σ H _ I h) fun us s1 ⟨vs, H1, I1, r1, q1⟩ => ?_) hs rfl))
  obtain ⟨a, xs, ex, q1⟩ := q1
  subst ex
  cases r1 with
  | cons r rr =>
    cases rr
    cases r
    have two : ∀ b, b ∈ [s1.heap.objs.size + 1, s1.heap.objs.size] → FpOk X pins H1 b := fun b hb => by
      have hle : s1.heap.objs.size ≤ b := by
        have e' : b = s1.heap.objs.size + 1 ∨ b = s1.heap.objs.size := by simpa using hb
        rcases e' with z | z <;> rw [z]
        · exact Nat.le_add_right _ _
        · exact Nat.le_refl _
      exact I1.fpOk hle (I1.hok.fresh hle)
    rcases q1 with ⟨hq, q⟩ | ⟨hq, q⟩
    · obtain ⟨its, rv, lp, _⟩ := I1.list hq
      refine call_enumerate_list lp.isList fun h' en li _ hk => wpAny_pyIter_enum en ?_
      have I2 : Inv X pins σ H1 { s1 with heap := h' } := I1.kept (t' := s1.toks) hk
      exact ⟨s1.heap.objs.size + 1, _, _, _, H1, rfl, I2, turn_enum a (s1.heap.objs.size + 1) s1.heap.objs.size, ⟨⟨.none, en⟩, li, Nat.succ_ne_self _⟩, two, q⟩
    · obtain ⟨its, rv, tp, _⟩ := I1.tuple hq
      obtain ⟨ob, hob, _⟩ := id tp
      have hal : a < s1.heap.objs.size := Heap.lt_size hob
      refine enumCall1 (begins_tuple a its.toArray) tp fun h' en ti hk => wpAny_pyIter_enum en ?_
      have I2 : Inv X pins σ H1 { s1 with heap := h' } := I1.kept (t' := s1.toks) hk
      exact ⟨s1.heap.objs.size + 1, _, _, _, H1, rfl, I2, turnEnumT a (s1.heap.objs.size + 1) s1.heap.objs.size, ⟨⟨.none, en⟩, ⟨_, ti, rfl, rfl⟩, Nat.succ_ne_self _, Nat.ne_of_lt hal, Nat.ne_of_gt (Nat.lt_succ_of_lt hal)⟩, two, q⟩

section
variable {X : Cx} {O : List Nat} {al bl cl : Bool} {a b c e : Expr} {es elts : List Expr} {f g h : Env → M D} {fs : Env → M (List D)} {pos q tpos : Pos} {kk : Nat}
/-! ### as data -/
def enumD (n : Nat) : List D → List D
  | [] => []
  | d :: ds => .tup [.int (n : Nat), d] :: enumD (n + 1) ds
theorem enumD_len : ∀ (ds : List D) (n : Nat), (enumD n ds).length = ds.length
  | [], _ => rfl
  | d :: ds, n => by
    show (enumD (n + 1) ds).length + 1 = _
    rw [enumD_len ds (n + 1)]
    rfl
theorem enumD_get : ∀ (ds : List D) (n i : Nat) (d : D), ds[i]? = some d → (enumD n ds)[i]? = some (.tup [.int ((n + i : Nat) : Int), d])
  | [], _, _, _, h => by simp at h
  | d :: ds, n, 0, _, h => by
    cases h
    rfl
  | d :: ds, n, i + 1, _, h => by
    have e : n + (i + 1) = n + 1 + i := by omega
    rw [e]
    exact enumD_get ds (n + 1) i _ h
def dEnum : List D → Option (List D)
  | [.tup l] => some (enumD 0 l)
  | [.lst l] => some (enumD 0 l)
  | _ => none
theorem walksEnumT {p : Par} {G : Hp} {a : Addr} {vs : List V} {ds : List D} {Ok : Hp → Prop} (h : SqT p.K G a vs) (r : RepAll p G vs ds) : WalksD p (IteT p.K a) G Ok (enumD 0 ds) where
  go := fun i G1 H1 s1 s2 _ hi => by
    rw [enumD_len, ← r.length] at hi
    exact ⟨vs, vs[i], sub_t (s1.trans s2) h, List.getElem?_eq_getElem hi⟩
  yl := fun i G1 H1 x H2 s1 s2 _ hi y => by
    obtain ⟨T, v, rfl, hT, rfl, hv⟩ := y
    obtain ⟨d, hd, rd⟩ := r.getV (hv vs (sub_t (s1.trans s2) h))
    have e := enumD_get ds 0 i d hd
    rw [Nat.zero_add] at e
    obtain ⟨gr, rz⟩ := Rep.newT (p := p) (vs := [.int (i : Nat), v]) (ds := [.int (i : Nat), d]) s2 hT (.cons (.int _) (.cons (rd.mono s1) .nil))
    exact ⟨_, _, e, gr, rz⟩
  st := fun G1 H1 s1 s2 _ => ⟨vs, sub_t (s1.trans s2) h, by rw [enumD_len, r.length]⟩
theorem walksEnumL {p : Par} {G : Hp} {a : Addr} {vs : List V} {ds : List D} {Ok : Hp → Prop} (h : ∀ G1 H1, Sub G G1 → Sub G1 H1 → Ok H1 → H1 a = some (.lst vs)) (r : RepAll p G vs ds) : WalksD p (Ite p.K a) G Ok (enumD 0 ds) where
  go := fun i G1 H1 s1 s2 o hi => by
    rw [enumD_len, ← r.length] at hi
    exact ⟨vs, vs[i], SqL.of (h G1 H1 s1 s2 o), List.getElem?_eq_getElem hi⟩
  yl := fun i G1 H1 x H2 s1 s2 o hi y => by
    obtain ⟨T, v, rfl, hT, rfl, hv⟩ := y
    obtain ⟨d, hd, rd⟩ := r.getV (hv vs (SqL.of (h G1 H1 s1 s2 o)))
    have e := enumD_get ds 0 i d hd
    rw [Nat.zero_add] at e
    obtain ⟨gr, rz⟩ := Rep.newT (p := p) (vs := [.int (i : Nat), v]) (ds := [.int (i : Nat), d]) s2 hT (.cons (.int _) (.cons (rd.mono s1) .nil))
    exact ⟨_, _, e, gr, rz⟩
  st := fun G1 H1 s1 s2 o => ⟨vs, SqL.of (h G1 H1 s1 s2 o), by rw [enumD_len, r.length]; exact Nat.le_refl _⟩
theorem si_enum (hm : X.mg "enumerate" = none) (hg : Gl X "enumerate") (ha : SA X O false [e] fs) (hs : starEach [e] X.env = [(false, eval e X.env)] := by rfl) : SI X O false (.Tuple elts kk tpos) (.Call (.Name "enumerate" q) [e] [] pos) (itCall dEnum fs) :=
  PI.weak (pi_enumA hg hm ha hs) fun σ H R ⟨dr, B, G0, δ, G, w, ds, w', S, hf, k⟩ => by
    obtain ⟨xs, w1, h1, hf1⟩ := bind_some hf
    obtain ⟨h3, rfl⟩ := liftO_some hf1
    refine ⟨dr, B, G0, δ, G, w, xs, _, S, h1, fun vs G1 H1 g1 S1 r1 => ?_⟩
    match xs, h3, r1 with
    | [.tup l], h3, r1 =>
      cases h3
      obtain ⟨v, rfl, rr⟩ := r1.one
      have r2 : Rep _ G1 v (.tup l) := rr
      cases r2 with
      | @tup a vs _ h4 h5 => exact ⟨a, vs, rfl, .inr ⟨sub_t S1.sub h4, k _ G1 H1 g1 S1 (walksEnumT h4 h5)⟩⟩
    | [.lst l], h3, r1 =>
      cases h3
      obtain ⟨v, rfl, rr⟩ := r1.one
      have r2 : Rep _ G1 v (.lst l) := rr
      cases r2 with
      | @lst a vs _ h4 h5 => exact ⟨a, vs, rfl, .inl ⟨SqL.of (S1.sub _ _ h4), k _ G1 H1 g1 S1 (walksEnumL (fun G2 H2 s1 s2 _ => s2 _ _ (s1 _ _ h4)) h5)⟩⟩
end
end Fc

/-! Fc, part O: slots that hold a list of the def's own and later another thing; two new lists at once; lists joined, repeated. -/
namespace Fc
open PySem PySem.Spec PyProof.Rows L2
section
variable {p : Par} {δ : Env} {σ : L2.St} {G H G' H' : Hp} {w : Dw}
theorem SR.setV {i : Nat} {d : D} {v : V} (S : SR p δ σ G H w) (hd : d.isL = false) (r : Rep p G v d) : SR p (δ.set i (some d)) (σ.set i (some v)) G H w := by
  have at_i : ∀ {e : D}, (δ.set i (some d))[i]? = some (some e) → e = d := fun {e} h => by
    have hl : i < δ.length := by
      have := (List.getElem?_eq_some_iff.mp h).1
      rwa [List.length_set] at this
    rw [List.getElem?_set_self hl] at h
    cases h
    rfl
  refine ⟨S.sub, S.g0, S.bas, S.bd, by rw [List.length_set, List.length_set]; exact S.len, fun j e h n => ?_, fun j e h n l => ?_, fun a b d1 d2 x na nb la lb h1 h2 h3 h4 => ?_, S.draw, S.kp⟩
  · by_cases hj : i = j
    · subst hj
      have hl : i < δ.length := by
        have := (List.getElem?_eq_some_iff.mp h).1
        rwa [List.length_set] at this
      rw [List.getElem?_set_self hl] at h
      cases h
      exact ⟨v, List.getElem?_set_self (by rw [← S.len]; exact hl), r⟩
    · rw [List.getElem?_set_ne hj] at h
      obtain ⟨u, e1, r1⟩ := S.vals j e h n
      exact ⟨u, by rw [List.getElem?_set_ne hj]; exact e1, r1⟩
  · have hj : i ≠ j := fun z => by
      subst z
      rw [at_i h, hd] at l
      cases l
    rw [List.getElem?_set_ne hj] at h
    rw [List.getElem?_set_ne hj]
    exact S.owns j e h n l
  · have ha : i ≠ a := fun z => by
      subst z
      rw [at_i h1, hd] at la
      cases la
    have hb : i ≠ b := fun z => by
      subst z
      rw [at_i h2, hd] at lb
      cases lb
    rw [List.getElem?_set_ne ha] at h1 h3
    rw [List.getElem?_set_ne hb] at h2 h4
    exact S.inj a b d1 d2 x na nb la lb h1 h2 h3 h4
end
section
variable {X : Cx} {O : List Nat} {al bl : Bool} {a b e : Expr} {f g : Env → M D} {fs : Env → M (List D)} {pos : Pos}
/-- a name that holds no list -/
def eVal (i : Nat) : Env → M D := fun δ => match δ[i]? with
  | some (some d) => if d.isL = true then fail else pure d
  | _ => fail
theorem eVal_some {i : Nat} {δ : Env} {w w' : Dw} {d : D} (h : eVal i δ w = some (d, w')) : δ[i]? = some (some d) ∧ d.isL = false ∧ w = w' := by
  unfold eVal at h
  cases q : δ[i]? with
  | none => rw [q] at h; cases h
  | some o =>
    cases o with
    | none => rw [q] at h; cases h
    | some d' =>
      rw [q] at h
      cases hl : d'.isL with
      | true =>
        simp only [hl, if_true] at h
        cases h
      | false =>
        have h' : (pure d' : M D) w = some (d, w') := by simpa only [hl, Bool.false_eq_true, if_false] using h
        obtain ⟨e1, e2⟩ := pure_some h'
        subst e1
        exact ⟨rfl, hl, e2⟩
theorem se_val (i : Nat) {x : Str} (hN : X.N[i]? = some x := by rfl) (hv : Vis X.env.scope x := by first | exact Or.inl rfl | exact Or.inr (Or.inl rfl) | exact Or.inr (Or.inr rfl)) (hd : (x == ("__debug__" : Str)) = false := by decide)
    (hcd : (x == ("__classdict__" : Str)) = false := by decide) : SE X O false (.Name x pos) (eVal i) :=
  PE.weak (pe_var hN hv hd hcd) fun σ H Q ⟨dr, B, G0, δ, G, w, d, w', S, hf, k⟩ => by
    obtain ⟨h1, hl, h2⟩ := eVal_some hf
    subst h2
    obtain ⟨v, e, r⟩ := S.vals i d h1 fun z => by rw [hl] at z; cases z.2
    exact ⟨v, e, k v G H (.refl _ G H) S r⟩
/-- such a name takes a value that is no list -/
def sAsgV (i : Nat) (f : Env → M D) : F1 := fun δ => do
  let d ← f δ
  if d.isL = true then fail else pure (.nx, δ.set i (some d))
theorem ss_setV (i : Nat) {x : Str} {p2 : Pos} (hN : X.N.Nodup) (ha : SE X O false e f) (hi : X.N[i]? = some x := by rfl) (hx : Loc X.env.scope x := by first | exact Or.inl rfl | exact Or.inr rfl) (hs : swapsWith e (some (.Name x p2)) pos.line X.env = pure false := by rfl)
    (hf : X.fn x = true ∨ X.env.scope.names.lookup x = some .local := by first | exact .inl rfl | exact .inr rfl) : SS X O (.Assign [.Name x p2] e pos) (sAsgV i f) :=
  PS.weak (ps_set hN hi hx ha hs hf) fun E σ H ⟨dr, B, G0, δ, G, w, o, δ', w', S, hf, k⟩ => by
    obtain ⟨d, w1, h1, hf1⟩ := bind_some hf
    cases hl : d.isL with
    | true =>
      simp only [hl, if_true] at hf1
      cases hf1
    | false =>
      have hf2 : (pure (Out.nx, δ.set i (some d)) : M (Out × Env)) w1 = some ((o, δ'), w') := by simpa only [hl, Bool.false_eq_true, if_false] using hf1
      obtain ⟨e, rfl⟩ := pure_some hf2
      cases e
      exact ⟨dr, B, G0, δ, G, w, d, _, S, h1, fun v G1 H1 g1 S1 r1 => k _ G1 H1 (S1.setV hl r1) g1.g⟩
/-- two lists, each new when it came, given to two names -/
theorem SR.two {K : PySem.W.Frag} {mg : Str → Option Value} {dr : Addr} {B G0 : Hp} {i j : Nat} {δ : Env} {σ : L2.St} {G H G1 H1 G2 H2 : Hp} {w w1 w2 : Dw} {a1 a2 : Addr} {vs1 vs2 : List V} {ds1 ds2 : List D} (S : SR ⟨K, mg, dr, O, B, G0⟩ δ σ G H w) (S1 : SR ⟨K, mg, dr, O, B, G0⟩ δ σ G1 H1 w1) (S2 : SR ⟨K, mg, dr, O, B, G0⟩ δ σ G2 H2 w2) (g2 : Grow ⟨K, mg, dr, O, B, G0⟩ G1 H1 G2 H2)
    (hO : i ∈ O) (hO2 : j ∈ O) (z0 : H a1 = none) (z1 : H1 a1 = some (.lst vs1)) (z2 : G1 a1 = none) (hne1 : a1 ≠ dr) (r1 : RepAll ⟨K, mg, dr, O, B, G0⟩ G1 vs1 ds1) (y0 : H1 a2 = none) (y1 : H2 a2 = some (.lst vs2)) (y2 : G2 a2 = none) (hne2 : a2 ≠ dr) (r2 : RepAll ⟨K, mg, dr, O, B, G0⟩ G2 vs2 ds2) :
    SR ⟨K, mg, dr, O, B, G0⟩ ((δ.set i (some (.lst ds1))).set j (some (.lst ds2))) ((σ.set i (some (.ref a1))).set j (some (.ref a2))) G2 H2 w2 := by
  have hB1 : B a1 = none := by
    cases q : B a1 with
    | none => rfl
    | some o => have := S.bas a1 o hne1 q; rw [z0] at this; cases this
  have hB2 : B a2 = none := by
    cases q : B a2 with
    | none => rfl
    | some o => have := S1.bas a2 o hne2 q; rw [y0] at this; cases this
  have hX1 : ∀ (m : Nat) (u : D), m ∈ O → u.isL = true → δ[m]? = some (some u) → σ[m]? ≠ some (some (.ref a1)) := fun m u hm lu hu hs => by
    obtain ⟨a', vs', ds', q0, q1, q2, _⟩ := S.owns m u hu hm lu
    rw [hs] at q1
    cases q1
    rw [z0] at q2
    cases q2
  have hX2 : ∀ (m : Nat) (u : D), m ∈ O → u.isL = true → δ[m]? = some (some u) → σ[m]? ≠ some (some (.ref a2)) := fun m u hm lu hu hs => by
    obtain ⟨a', vs', ds', q0, q1, q2, _⟩ := S1.owns m u hu hm lu
    rw [hs] at q1
    cases q1
    rw [y0] at q2
    cases q2
  have k1 : H2 a1 = some (.lst vs1) := g2.h _ _ hne1 z1
  have k2 : G2 a1 = none := g2.k _ _ z1 z2
  rcases S2.setO (i := i) k1 k2 hB1 hX1 (r1.mono g2.g) with S3 | n
  · have ne : a1 ≠ a2 := fun z => by rw [z, y0] at z1; cases z1
    have hX3 : ∀ (m : Nat) (u : D), m ∈ O → u.isL = true → (δ.set i (some (.lst ds1)))[m]? = some (some u) → (σ.set i (some (.ref a1)))[m]? ≠ some (some (.ref a2)) := fun m u hm lu hu hs => by
      by_cases hmi : i = m
      · subst hmi
        have hl : i < σ.length := by
          have := (List.getElem?_eq_some_iff.mp hs).1
          rwa [List.length_set] at this
        rw [List.getElem?_set_self hl] at hs
        exact ne (by injection hs with hs; injection hs with hs; injection hs)
      · rw [List.getElem?_set_ne hmi] at hu hs
        exact hX2 m u hm lu hu hs
    rcases S3.setO (i := j) y1 y2 hB2 hX3 r2 with S4 | n
    · exact S4
    · exact absurd hO2 n
  · exact absurd hO n
/-- x, y = [..], [..]: two new lists of the def's own -/
def sParO (i j : Nat) (f g : Env → M D) : F1 := fun δ => do
  let x ← f δ
  let y ← g δ
  pure (.nx, (δ.set i (some x)).set j (some y))
theorem ss_parO (i j : Nat) {x y : Str} {px py pt : Pos} {kt k2 pt2} (hc : X.calm = true) (hN : X.N.Nodup) (ha : SF X O a f) (hb : SF X O b g) (hO : i ∈ O := by decide) (hO2 : j ∈ O := by decide) (hi : X.N[i]? = some x := by rfl) (hj : X.N[j]? = some y := by rfl) (hij : i ≠ j := by decide)
    (hx : X.env.scope.names.lookup x = some .local := by rfl) (hy : X.env.scope.names.lookup y = some .local := by rfl)
    (hw : swappedStores [.Tuple [.Name x px, .Name y py] kt pt] (.Tuple [a, b] k2 pt2) X.env = pure (some [x, y]) := by rfl)
    (hs : swapsWithSole [.Tuple [.Name x px, .Name y py] kt pt] (.Tuple [a, b] k2 pt2) pos.line X.env = pure false := by rfl)
    (he1 : starEach [a, b] X.env = (false, eval a X.env) :: starEach [b] X.env := by rfl) (he2 : starEach [b] X.env = (false, eval b X.env) :: starEach [] X.env := by rfl) :
    SS X O (.Assign [.Tuple [.Name x px, .Name y py] kt pt] (.Tuple [a, b] k2 pt2) pos) (sParO i j f g) :=
  PS.weak (ps_par hc hN hi hj hij hx hy (pa_cons ha (pa_cons hb pa_nil he2) he1) hw hs) fun E σ H ⟨dr, B, G0, δ, G, w, o, δ', w', S, hf, k⟩ => by
    obtain ⟨d1, w1, h1, hf1⟩ := bind_some hf
    obtain ⟨d2, w2, h2, hf2⟩ := bind_some hf1
    obtain ⟨e, rfl⟩ := pure_some hf2
    cases e
    refine ⟨dr, B, G0, δ, G, w, d1, w1, S, h1, fun a1 vs1 ds1 G1 H1 ed1 g1 S1 z0 z1 z2 hne1 r1 => ?_⟩
    refine ⟨dr, B, G0, δ, G1, w1, d2, _, S1, h2, fun a2 vs2 ds2 G2 H2 ed2 g2 S2 y0 y1 y2 hne2 r2 => ?_⟩
    subst ed1 ed2
    exact ⟨.ref a1, .ref a2, rfl, k _ G2 H2 (S.two S1 S2 g2 hO hO2 z0 z1 z2 hne1 r1 y0 y1 y2 hne2 r2) (g1.g.trans g2.g)⟩
/-- the same by a tuple, where one of the names is kept in a cell -/
theorem ss_parT (i j : Nat) {x y : Str} {px py pt : Pos} {kt k2 pt2} (hc : X.calm = true) (hN : X.N.Nodup) (ha : SF X O a f) (hb : SF X O b g) (hO : i ∈ O := by decide) (hO2 : j ∈ O := by decide) (hi : X.N[i]? = some x := by rfl) (hj : X.N[j]? = some y := by rfl)
    (hx : Loc X.env.scope x := by first | exact Or.inl rfl | exact Or.inr rfl) (hy : Loc X.env.scope y := by first | exact Or.inl rfl | exact Or.inr rfl)
    (hfx : X.fn x = true ∨ X.env.scope.names.lookup x = some .local := by first | exact .inl rfl | exact .inr rfl) (hfy : X.fn y = true ∨ X.env.scope.names.lookup y = some .local := by first | exact .inl rfl | exact .inr rfl)
    (hs : swapsWithSole [.Tuple [.Name x px, .Name y py] kt pt] (.Tuple [a, b] k2 pt2) pos.line X.env = pure false := by rfl) (hw : swappedStores [.Tuple [.Name x px, .Name y py] kt pt] (.Tuple [a, b] k2 pt2) X.env = pure none := by rfl)
    (h1 : (assignEach [.Tuple [.Name x px, .Name y py] kt pt] X.env).map (·.2) = [assign (.Tuple [.Name x px, .Name y py] kt pt) X.env] := by rfl)
    (he1 : starEach [a, b] X.env = (false, eval a X.env) :: starEach [b] X.env := by rfl) (he2 : starEach [b] X.env = (false, eval b X.env) :: starEach [] X.env := by rfl)
    (hn : (assignEach [.Name x px, .Name y py] X.env).length = 2 := by rfl) (hst : (assignEach [.Name x px, .Name y py] X.env).findIdx? (·.1) = none := by rfl)
    (hc1 : (assignEach [.Name x px, .Name y py] X.env).map (·.2) = assign (.Name x px) X.env :: (assignEach [.Name y py] X.env).map (·.2) := by rfl) (hc2 : (assignEach [.Name y py] X.env).map (·.2) = assign (.Name y py) X.env :: (assignEach [] X.env).map (·.2) := by rfl) :
    SS X O (.Assign [.Tuple [.Name x px, .Name y py] kt pt] (.Tuple [a, b] k2 pt2) pos) (sParO i j f g) :=
  PS.weak (ps_asg (pe_tup (pa_cons ha (pa_cons hb pa_nil he2) he1)) (pg_tup hc (pgs_cons (pg_name hN hi hx hfx) (pgs_cons (pg_name hN hj hy hfy) pgs_nil hc2) hc1) hn hst) hs hw h1) fun E σ H ⟨dr, B, G0, δ, G, w, o, δ', w', S, hf, k⟩ => by
    obtain ⟨d1, w1, h1, hf1⟩ := bind_some hf
    obtain ⟨d2, w2, h2, hf2⟩ := bind_some hf1
    obtain ⟨e, rfl⟩ := pure_some hf2
    cases e
    refine ⟨dr, B, G0, δ, G, w, d1, w1, S, h1, fun a1 vs1 ds1 G1 H1 ed1 g1 S1 z0 z1 z2 hne1 r1 => ?_⟩
    refine ⟨dr, B, G0, δ, G1, w1, d2, _, S1, h2, fun a2 vs2 ds2 G2 H2 ed2 g2 S2 y0 y1 y2 hne2 r2 => ?_⟩
    subst ed1 ed2
    refine ⟨by show 2 ≤ sizeLine; decide, fun q hq => ?_⟩
    have S3 := S2.gr (Gr.laid (o := .tup [.ref a1, .ref a2]) S2.sub hq)
    have gq : Grow ⟨X.K, X.mg, dr, O, B, G0⟩ G2 H2 G2 (upd H2 q (.tup [.ref a1, .ref a2])) := (Gr.laid S2.sub hq).grow
    have ne2 : a2 ≠ q := fun z => by rw [z, hq] at y1; cases y1
    have S4 := S.two S1 S3 (g2.trans gq) hO hO2 z0 z1 z2 hne1 r1 y0 (by rw [upd_ne ne2]; exact y1) y2 hne2 r2
    exact ⟨q, [.ref a1, .ref a2], rfl, .inl (.inl upd_same), rfl, _, _, rfl, _, _, rfl, rfl, k _ G2 _ S4 (g1.g.trans g2.g)⟩
/-! ### lists joined and repeated -/
variable {K : PySem.W.Frag} {mg : Str → Option Value}
def dCat : D → D → Option D
  | .lst xs, .lst ys => if xs.length + ys.length ≤ LIM then some (.lst (xs ++ ys)) else none
  | _, _ => none
theorem os_cat : OpS K mg rCat dCat := by
  intro p G H v u x y d Q hK hmg s rx ry hd k
  subst hK
  cases x <;> cases y <;> try (cases hd; done)
  rename_i l m
  simp only [dCat] at hd
  split at hd
  · rename_i hl
    cases hd
    obtain ⟨a, vs, rfl, ha, ra⟩ := rx.lst s
    obtain ⟨b, us, rfl, hb, rb⟩ := ry.lst s
    refine ⟨a, b, vs, us, rfl, rfl, ha, hb, ?_, fun q hq => ?_⟩
    · rw [ra.length, rb.length]
      exact lim_ok hl
    · obtain ⟨gr, rz⟩ := Rep.newL s hq (ra.append rb)
      exact k _ _ _ gr rz
  · cases hd
theorem st_in (ha : SE X O al a f) (hb : SE X O bl b g) (hm : behindInMarks .In b = false := by first | exact nomark _ | rfl) : ST X O (.Compare a [.In] [b] pos) (tB (eBin dIn f g)) := st_cmp op_in_seq os_inB ha hb hm
theorem st_notIn (ha : SE X O al a f) (hb : SE X O bl b g) (hm : behindInMarks .NotIn b = false := by first | exact nomark _ | rfl) : ST X O (.Compare a [.NotIn] [b] pos) (tB (eBin dNotIn f g)) := st_cmp op_notIn_seq os_inB ha hb hm
theorem se_cat (ha : SE X O al a f) (hb : SE X O bl b g) : SE X O false (.BinOp a .Add b pos) (eBin dCat f g) := se_bin op_cat os_cat ha hb
def dRepL : D → D → Option D
  | .lst xs, .int k => if -1000000 ≤ k ∧ k ≤ 1000000 ∧ xs.length * k.toNat ≤ LIM then some (.lst (List.replicate k.toNat xs).flatten) else none
  | _, _ => none
theorem os_repL : OpS K mg rRep dRepL := by
  intro p G H v u x y d Q hK hmg s rx ry hd k
  subst hK
  cases x <;> cases y <;> try (cases hd; done)
  rename_i l m
  simp only [dRepL] at hd
  split at hd
  · rename_i hl
    cases hd
    obtain ⟨a, vs, rfl, ha, ra⟩ := rx.lst s
    refine ⟨a, m, vs, rfl, ry.int, ha, by omega, by omega, ?_, fun q hq => ?_⟩
    · rw [ra.length]
      exact lim_ok hl.2.2
    · obtain ⟨gr, rz⟩ := Rep.newL s hq (ra.rep m.toNat)
      exact k _ _ _ gr rz
  · cases hd
theorem se_repL (ha : SE X O al a f) (hb : SE X O bl b g) : SE X O false (.BinOp a .Mult b pos) (eBin dRepL f g) := se_bin op_rep os_repL ha hb
end
end Fc

/-! Fc, part M: working out what bodies compute. -/
namespace Fc
open PySem L2

/-- m runs from w, and its end is as Q says -/
def wp {α : Type} (m : M α) (Q : α → Dw → Prop) (w : Dw) : Prop := ∃ a w', m w = some (a, w') ∧ Q a w'
section
variable {α β : Type} {Q : α → Dw → Prop} {R : β → Dw → Prop} {w : Dw}
theorem wp_pure (a : α) : wp (pure a) Q w = Q a w := propext ⟨fun ⟨b, w', h, q⟩ => by
  obtain ⟨rfl, rfl⟩ := pure_some h
  exact q, fun q => ⟨a, w, rfl, q⟩⟩
theorem wp_bind (m : M α) (f : α → M β) : wp (m >>= f) R w = wp m (fun a => wp (f a) R) w := propext ⟨fun ⟨b, w', h, q⟩ => by
  obtain ⟨a, w1, h1, h2⟩ := bind_some h
  exact ⟨a, w1, h1, b, w', h2, q⟩, fun ⟨a, w1, h1, b, w', h2, q⟩ => ⟨b, w', by
    show (m w).bind (fun p => f p.1 p.2) = _
    rw [h1]
    exact h2, q⟩⟩
theorem liftO_pure (a : α) : liftO (some a) = (pure a : M α) := rfl
theorem wp_liftO (a : α) : wp (liftO (some a)) Q w = Q a w := wp_pure a
theorem wp_mono {Q' : α → Dw → Prop} {m : M α} (h : wp m Q w) (k : ∀ a w', Q a w' → Q' a w') : wp m Q' w := let ⟨a, w', h1, q⟩ := h; ⟨a, w', h1, k a w' q⟩
theorem wp_next {m : Int} {Q : D → Dw → Prop} (hm : 0 < m ∧ m < 1073741824) (h : ∀ k w', 0 ≤ k → k < m → Q (.int k) w') : wp (nextF [.drw, .int m]) Q w := by
  refine ⟨.int (nextW m w).1, (nextW m w).2, ?_, ?_⟩
  · show (if 0 < m ∧ m < 1073741824 then some _ else none) = _
    rw [if_pos hm]
  · obtain ⟨h1, h2⟩ := nextW_lt (w := w) hm.1
    exact h _ _ h1 h2
theorem wp_ite {c : Prop} [Decidable c] {m n : M α} : wp (if c then m else n) Q w = if c then wp m Q w else wp n Q w := by
  split <;> rfl
end

/-! ### small facts that simp uses -/
theorem eVar_at {i : Nat} {δ : Env} {d : D} (h : δ[i]? = some (some d)) : eVar i δ = pure d := by
  have e : eVar i δ = (match δ[i]? with | some (some d) => pure d | _ => fail) := rfl
  rw [e, h]
theorem eVar_zero (d : D) (δ : Env) : eVar 0 (some d :: δ) = pure d := rfl
theorem eVar_succ (i : Nat) (o : Option D) (δ : Env) : eVar (i + 1) (o :: δ) = eVar i δ := rfl
theorem dEq_int (a b : Int) : dEq (.int a) (.int b) = some (.bl (decide (a = b))) := by
  show (if (D.int a).sh = true ∧ (D.int b).sh = true then some (D.bl ((D.int a).eqv (.int b))) else none) = _
  have h : ∀ x : Int, (D.int x).sh = true := fun x => rfl
  rw [if_pos ⟨h a, h b⟩]
  show some (D.bl (a == b)) = _
  rw [Bool.beq_eq_decide_eq]
theorem dNe_int (a b : Int) : dNe (.int a) (.int b) = some (.bl (!decide (a = b))) := by
  show (if (D.int a).sh = true ∧ (D.int b).sh = true then some (D.bl (!(D.int a).eqv (.int b))) else none) = _
  have h : ∀ x : Int, (D.int x).sh = true := fun x => rfl
  rw [if_pos ⟨h a, h b⟩]
  show some (D.bl (!(a == b))) = _
  rw [Bool.beq_eq_decide_eq]
end Fc
namespace Fc
open PySem L2
theorem pb {α β : Type} (a : α) (f : α → M β) : (pure a >>= f) = f a := rfl
theorem bb {α β γ : Type} (m : M α) (f : α → M β) (g : β → M γ) : ((m >>= f) >>= g) = (m >>= fun a => f a >>= g) := by
  funext w
  show ((m w).bind fun p => f p.1 p.2).bind (fun p => g p.1 p.2) = (m w).bind fun p => ((f p.1 p.2).bind fun q => g q.1 q.2)
  cases m w <;> rfl
/-- the end of a body -/
def endF (p : Out × Env) : M D := match p.1 with
  | .rt d => pure d
  | .nx => pure .non
  | _ => fail
theorem bodyF_eq {n m : Nat} {F : F1} {ds : List D} (h : ds.length = n) : bodyF n m F ds = (F (ds.map some ++ List.replicate (m - ds.length) none) >>= endF) := by
  unfold bodyF
  rw [if_pos h]
  rfl
theorem bodyF_1 {m : Nat} {F : F1} {a : D} : bodyF 1 m F [a] = (F (some a :: List.replicate (m - 1) none) >>= endF) := rfl
theorem bodyF_2 {m : Nat} {F : F1} {a b : D} : bodyF 2 m F [a, b] = (F (some a :: some b :: List.replicate (m - 2) none) >>= endF) := rfl
theorem bodyF_3 {m : Nat} {F : F1} {a b c : D} : bodyF 3 m F [a, b, c] = (F (some a :: some b :: some c :: List.replicate (m - 3) none) >>= endF) := rfl
theorem bodyF_4 {m : Nat} {F : F1} {a b c d : D} : bodyF 4 m F [a, b, c, d] = (F (some a :: some b :: some c :: some d :: List.replicate (m - 4) none) >>= endF) := rfl
theorem bodyF_5 {m : Nat} {F : F1} {a b c d e : D} : bodyF 5 m F [a, b, c, d, e] = (F (some a :: some b :: some c :: some d :: some e :: List.replicate (m - 5) none) >>= endF) := rfl
theorem sSeq_eq (F F' : F1) (δ : Env) : sSeq F F' δ = (F δ >>= fun p => match p.1 with | .nx => F' p.2 | o => pure (o, p.2)) := rfl
theorem sSeq_nx {F F' : F1} {δ δ1 : Env} (h : F δ = pure (.nx, δ1)) : sSeq F F' δ = F' δ1 := by
  rw [sSeq_eq, h]
  rfl
theorem sSeq_rt {F F' : F1} {δ δ1 : Env} {d : D} (h : F δ = pure (.rt d, δ1)) : sSeq F F' δ = pure (.rt d, δ1) := by
  rw [sSeq_eq, h]
  rfl
theorem endF_rt (d : D) (δ : Env) : endF (.rt d, δ) = pure d := rfl
theorem endF_nx (δ : Env) : endF (.nx, δ) = pure .non := rfl
theorem set_zero {α : Type} (a b : α) (l : List α) : (a :: l).set 0 b = b :: l := rfl
theorem set_succ {α : Type} (a b : α) (n : Nat) (l : List α) : (a :: l).set (n + 1) b = a :: l.set n b := rfl
theorem if_tt {α : Type} (a b : α) : (if true = true then a else b) = a := rfl
/-! statements in a row, by equations -/
section
variable {F F' A C : F1} {δ δ1 δ2 : Env} {d : D} {r : M D} {g : Out × Env → M D} {c : Env → M Bool} {b : Bool}
theorem q_seq (h : F δ = pure (.nx, δ1)) (k : (F' δ1 >>= g) = r) : (sSeq F F' δ >>= g) = r := by
  rw [sSeq_nx h]
  exact k
theorem q_ret (h : F δ = pure (.rt d, δ1)) (k : g (.rt d, δ1) = r) : (sSeq F F' δ >>= g) = r := by
  rw [sSeq_rt h]
  exact k
theorem q_end (h : F δ = pure (.rt d, δ1)) (k : g (.rt d, δ1) = r) : (F δ >>= g) = r := by
  rw [h]
  exact k
theorem sIf_t (h : c δ = pure true) : sIf c A C δ = A δ := by
  show (c δ >>= fun k => if k = true then A δ else C δ) = _
  rw [h]
  rfl
theorem sIf_f (h : c δ = pure false) : sIf c A C δ = C δ := by
  show (c δ >>= fun k => if k = true then A δ else C δ) = _
  rw [h]
  rfl
theorem sIf_b (h : c δ = pure b) : sIf c A C δ = if b = true then A δ else C δ := by
  show (c δ >>= fun k => if k = true then A δ else C δ) = _
  rw [h]
  rfl
end
/-! loops -/
section
variable {T : Tg} {F : F1} {t : Env → M Bool} {f : Env → M D}
/-- every turn goes on -/
theorem forL_all (I : Env → Prop) : ∀ {ds : List D} {δ : Env}, I δ → (∀ d ∈ ds, ∀ δ, I δ → ∃ δ1 δ2, setT T d δ = some δ1 ∧ F δ1 = pure (.nx, δ2) ∧ I δ2) → ∃ δ', forL T F ds δ = pure (.nx, δ') ∧ I δ'
  | [], δ, h, _ => ⟨δ, rfl, h⟩
  | d :: ds, δ, h, k => by
    obtain ⟨δ1, δ2, h1, h2, h3⟩ := k d List.mem_cons_self δ h
    obtain ⟨δ', e, h4⟩ := forL_all I h3 fun d' hd => k d' (List.mem_cons_of_mem _ hd)
    refine ⟨δ', ?_, h4⟩
    show (liftO (setT T d δ) >>= fun δ1 => F δ1 >>= _) = _
    rw [h1, liftO_pure, pb, h2]
    exact e
/-- a search: the first that P takes is handed back by r -/
theorem forL_find (I : Env → Prop) (P : D → Bool) (r : D → D) : ∀ {ds : List D} {δ : Env}, I δ → (∀ d ∈ ds, ∀ δ, I δ → ∃ δ1 δ2, setT T d δ = some δ1 ∧ ((P d = true ∧ F δ1 = pure (.rt (r d), δ2)) ∨ (P d = false ∧ F δ1 = pure (.nx, δ2) ∧ I δ2))) →
    (∃ d δ', ds.find? P = some d ∧ forL T F ds δ = pure (.rt (r d), δ')) ∨ (∃ δ', ds.find? P = none ∧ forL T F ds δ = pure (.nx, δ') ∧ I δ')
  | [], δ, h, _ => .inr ⟨δ, rfl, rfl, h⟩
  | d :: ds, δ, h, k => by
    obtain ⟨δ1, δ2, h1, h2⟩ := k d List.mem_cons_self δ h
    have e0 : forL T F (d :: ds) δ = (liftO (setT T d δ) >>= fun δ1 => F δ1 >>= fun p => match p.1 with
      | .nx => forL T F ds p.2
      | .ct => forL T F ds p.2
      | .bk => pure (.nx, p.2)
      | .rt d => pure (.rt d, p.2)) := rfl
    rw [e0, h1, liftO_pure, pb]
    rcases h2 with ⟨hp, h2⟩ | ⟨hp, h2, h3⟩
    · exact .inl ⟨d, δ2, by rw [List.find?_cons, hp], by rw [h2]; rfl⟩
    · rw [h2, List.find?_cons, hp]
      exact forL_find I P r h3 fun d' hd => k d' (List.mem_cons_of_mem _ hd)
/-- a loop that carries a state s -/
theorem forL_fold {σ : Type} (I : σ → Env → Prop) (step : σ → D → σ) : ∀ {ds : List D} {δ : Env} {s : σ}, I s δ → (∀ d ∈ ds, ∀ s δ, I s δ → ∃ δ1 δ2, setT T d δ = some δ1 ∧ (F δ1 = pure (.nx, δ2) ∨ F δ1 = pure (.ct, δ2)) ∧ I (step s d) δ2) → ∃ δ', forL T F ds δ = pure (.nx, δ') ∧ I (ds.foldl step s) δ'
  | [], δ, s, h, _ => ⟨δ, rfl, h⟩
  | d :: ds, δ, s, h, k => by
    obtain ⟨δ1, δ2, h1, h2, h3⟩ := k d List.mem_cons_self s δ h
    obtain ⟨δ', e, h4⟩ := forL_fold I step h3 fun d' hd => k d' (List.mem_cons_of_mem _ hd)
    refine ⟨δ', ?_, h4⟩
    have e0 : forL T F (d :: ds) δ = (liftO (setT T d δ) >>= fun δ1 => F δ1 >>= fun p => match p.1 with
      | .nx => forL T F ds p.2
      | .ct => forL T F ds p.2
      | .bk => pure (.nx, p.2)
      | .rt d => pure (.rt d, p.2)) := rfl
    rw [e0, h1, liftO_pure, pb]
    rcases h2 with h2 | h2
    · rw [h2]
      exact e
    · rw [h2]
      exact e
/-- a comprehension: the items that q takes, by v -/
theorem lcL_pure {δ : Env} (q : D → Bool) (v : D → D) : ∀ {ds : List D}, (∀ d ∈ ds, ∃ δ1, setT T d δ = some δ1 ∧ t δ1 = pure (q d) ∧ (q d = true → f δ1 = pure (v d))) → lcL T t f δ ds = pure ((ds.filter q).map v)
  | [], _ => rfl
  | d :: ds, h => by
    obtain ⟨δ1, h1, h2, h3⟩ := h d List.mem_cons_self
    have ih := lcL_pure q v (ds := ds) fun d' hd => h d' (List.mem_cons_of_mem _ hd)
    have e0 : lcL T t f δ (d :: ds) = (liftO (setT T d δ) >>= fun δ1 => t δ1 >>= fun k => if k = true then f δ1 >>= fun y => lcL T t f δ ds >>= fun ys => pure (y :: ys) else lcL T t f δ ds) := rfl
    rw [e0, h1, liftO_pure, pb, h2, pb, List.filter_cons]
    cases hq : q d with
    | true =>
      rw [if_pos rfl, if_pos rfl, h3 hq, pb, ih, pb]
      rfl
    | false =>
      rw [if_neg Bool.false_ne_true, if_neg Bool.false_ne_true]
      exact ih
theorem lcL_map {δ : Env} (v : D → D) {ds : List D} (h : ∀ d ∈ ds, ∃ δ1, setT T d δ = some δ1 ∧ f δ1 = pure (v d)) : lcL T tYesF f δ ds = pure (ds.map v) := by
  rw [lcL_pure (t := tYesF) (fun _ => true) v (fun d hd => let ⟨δ1, h1, h2⟩ := h d hd; ⟨δ1, h1, rfl, fun _ => h2⟩), List.filter_eq_self.mpr fun _ _ => rfl]
end
/-! ### lists of numbers -/
def zl (l : List Int) : List D := l.map D.int
theorem ints_len (l : List Int) : (zl l).length = l.length := List.length_map _
theorem ints_cut (l : List Int) (lo hi : Option Int) : cutD (zl l) lo hi = zl (cutD l lo hi) := by
  unfold cutD zl
  rw [List.length_map, List.map_take, List.map_drop]
theorem ints_at (l : List Int) (i : Int) : atI (zl l) i = (atI l i).map D.int := by
  unfold atI zl
  rw [List.length_map]
  cases ixN l.length i with
  | none => rfl
  | some j => simp
theorem ints_rep (l : List Int) (k : Nat) : (List.replicate k (zl l)).flatten = zl (List.replicate k l).flatten := by
  unfold zl
  rw [List.map_flatten, List.map_replicate]
theorem ints_app (l m : List Int) : zl l ++ zl m = zl (l ++ m) := by
  unfold zl
  rw [List.map_append]
theorem pds_ints : ∀ l : List Int, D.pds (zl l) = l.map PyData.int
  | [] => rfl
  | x :: l => by
    show D.pd (.int x) :: D.pds (zl l) = _
    rw [pds_ints l]
    rfl
theorem dats_ints : ∀ l : List Int, D.dats (zl l) = true
  | [] => rfl
  | x :: l => by
    show (D.dat (.int x) && D.dats (zl l)) = true
    rw [dats_ints l]
    rfl
theorem lay_ints : ∀ l : List Int, PyData.canLayAll0 (l.map PyData.int) = true
  | [] => rfl
  | x :: l => by
    show (PyData.canLay0 (.int x) && PyData.canLayAll0 (l.map PyData.int)) = true
    rw [lay_ints l]
    rfl
theorem depth_ints : ∀ l : List Int, PyData.depthAll (l.map PyData.int) = 0
  | [] => rfl
  | x :: l => by
    show max (PyData.depth (.int x)) (PyData.depthAll (l.map PyData.int)) = 0
    rw [depth_ints l]
    rfl
theorem sh_ints (l : List Int) : (D.tup (zl l)).sh = true := by
  show (D.dats (zl l) && (PyData.canLayAll0 (D.pds (zl l)) && decide (PyData.depthAll (D.pds (zl l)) + 1 ≤ 64))) = true
  rw [dats_ints, pds_ints, lay_ints, depth_ints]
  rfl
theorem eqv_ints : ∀ l m : List Int, PyData.eqvAll (l.map PyData.int) (m.map PyData.int) = decide (l = m)
  | [], [] => rfl
  | [], y :: m => by simp [PyData.eqvAll]
  | x :: l, [] => by simp [PyData.eqvAll]
  | x :: l, y :: m => by
    rw [List.map_cons, List.map_cons, PyData.eqvAll, PyData.eqv, eqv_ints l m]
    by_cases h : x = y
    · subst h
      simp
    · simp [h]
theorem dEq_ints (l m : List Int) : dEq (.tup (zl l)) (.tup (zl m)) = some (.bl (decide (l = m))) := by
  unfold dEq
  rw [if_pos ⟨sh_ints l, sh_ints m⟩]
  show some (D.bl (PyData.eqv (.tuple (D.pds (zl l))) (.tuple (D.pds (zl m))))) = _
  rw [PyData.eqv, pds_ints, pds_ints, eqv_ints]
theorem if_ff {α : Type} (a b : α) : (if false = true then a else b) = b := rfl
theorem isTy_int_non  : isTy "int" .non = some false := by show kitB "NoneType" "int" = _; decide +kernel
theorem isTy_int_bl (b : Bool) : isTy "int" (.bl b) = some true := by show kitB "bool" "int" = _; decide +kernel
theorem isTy_int_int (i : Int) : isTy "int" (.int i) = some true := by show kitB "int" "int" = _; decide +kernel
theorem isTy_int_str (x : Str) : isTy "int" (.str x) = some false := by show kitB "str" "int" = _; decide +kernel
theorem isTy_int_tup (l : List D) : isTy "int" (.tup l) = some false := by show kitB "tuple" "int" = _; decide +kernel
theorem isTy_int_lst (l : List D) : isTy "int" (.lst l) = some false := by show kitB "list" "int" = _; decide +kernel
theorem isTy_bool_non  : isTy "bool" .non = some false := by show kitB "NoneType" "bool" = _; decide +kernel
theorem isTy_bool_bl (b : Bool) : isTy "bool" (.bl b) = some true := by show kitB "bool" "bool" = _; decide +kernel
theorem isTy_bool_int (i : Int) : isTy "bool" (.int i) = some false := by show kitB "int" "bool" = _; decide +kernel
theorem isTy_bool_str (x : Str) : isTy "bool" (.str x) = some false := by show kitB "str" "bool" = _; decide +kernel
theorem isTy_bool_tup (l : List D) : isTy "bool" (.tup l) = some false := by show kitB "tuple" "bool" = _; decide +kernel
theorem isTy_bool_lst (l : List D) : isTy "bool" (.lst l) = some false := by show kitB "list" "bool" = _; decide +kernel
theorem isTy_tuple_non  : isTy "tuple" .non = some false := by show kitB "NoneType" "tuple" = _; decide +kernel
theorem isTy_tuple_bl (b : Bool) : isTy "tuple" (.bl b) = some false := by show kitB "bool" "tuple" = _; decide +kernel
theorem isTy_tuple_int (i : Int) : isTy "tuple" (.int i) = some false := by show kitB "int" "tuple" = _; decide +kernel
theorem isTy_tuple_str (x : Str) : isTy "tuple" (.str x) = some false := by show kitB "str" "tuple" = _; decide +kernel
theorem isTy_tuple_tup (l : List D) : isTy "tuple" (.tup l) = some true := by show kitB "tuple" "tuple" = _; decide +kernel
theorem isTy_tuple_lst (l : List D) : isTy "tuple" (.lst l) = some false := by show kitB "list" "tuple" = _; decide +kernel
theorem isTy_list_non  : isTy "list" .non = some false := by show kitB "NoneType" "list" = _; decide +kernel
theorem isTy_list_bl (b : Bool) : isTy "list" (.bl b) = some false := by show kitB "bool" "list" = _; decide +kernel
theorem isTy_list_int (i : Int) : isTy "list" (.int i) = some false := by show kitB "int" "list" = _; decide +kernel
theorem isTy_list_str (x : Str) : isTy "list" (.str x) = some false := by show kitB "str" "list" = _; decide +kernel
theorem isTy_list_tup (l : List D) : isTy "list" (.tup l) = some false := by show kitB "tuple" "list" = _; decide +kernel
theorem isTy_list_lst (l : List D) : isTy "list" (.lst l) = some true := by show kitB "list" "list" = _; decide +kernel
theorem isTy_str_non  : isTy "str" .non = some false := by show kitB "NoneType" "str" = _; decide +kernel
theorem isTy_str_bl (b : Bool) : isTy "str" (.bl b) = some false := by show kitB "bool" "str" = _; decide +kernel
theorem isTy_str_int (i : Int) : isTy "str" (.int i) = some false := by show kitB "int" "str" = _; decide +kernel
theorem isTy_str_str (x : Str) : isTy "str" (.str x) = some true := by show kitB "str" "str" = _; decide +kernel
theorem isTy_str_tup (l : List D) : isTy "str" (.tup l) = some false := by show kitB "tuple" "str" = _; decide +kernel
theorem isTy_str_lst (l : List D) : isTy "str" (.lst l) = some false := by show kitB "list" "str" = _; decide +kernel
theorem opt_bind_some {α β : Type} (a : α) (f : α → Option β) : (some a).bind f = f a := rfl
theorem opt_map_some {α β : Type} (a : α) (f : α → β) : (some a).map f = some (f a) := rfl
theorem pure_inj {α : Type} {a b : α} (h : a = b) : (pure a : M α) = pure b := by rw [h]
theorem andV_b (a : Bool) (m : M D) : (if a = true then m else pure (.bl false)) = if a = true then m else pure (.bl false) := rfl
theorem shB (b : Bool) : (D.bl b).sh = true := rfl
theorem at0 {α : Type} (a : α) (l : List α) : atI (a :: l) 0 = some a := by
  have : atI (a :: l) ((0 : Nat) : Int) = some a := atI_nat rfl
  exact this
theorem at1 {α : Type} (a b : α) (l : List α) : atI (a :: b :: l) 1 = some b := by
  have : atI (a :: b :: l) ((1 : Nat) : Int) = some b := atI_nat rfl
  exact this
theorem at2 {α : Type} (a b c : α) (l : List α) : atI (a :: b :: c :: l) 2 = some c := by
  have : atI (a :: b :: c :: l) ((2 : Nat) : Int) = some c := atI_nat rfl
  exact this
theorem dIx_tup (l : List D) (i : Int) : dIx (.tup l) (.int i) = atI l i := rfl
theorem dIx_lst (l : List D) (i : Int) : dIx (.lst l) (.int i) = atI l i := rfl

theorem dDiv_ok {i j : Int} (h : j ≠ 0) (h2 : j.natAbs < 1073741824) : dDiv (.int i) (.int j) = some (.int (i.fdiv j)) := by
  unfold dDiv
  exact if_pos ⟨h, h2⟩
theorem dMod_ok {i j : Int} (h : j ≠ 0) : dMod (.int i) (.int j) = some (.int (i.fmod j)) := by
  unfold dMod
  exact if_pos h
theorem dMul_okL {i j : Int} (h1 : -18446744073709551616 < i) (h2 : i < 18446744073709551616) : dMul (.int i) (.int j) = some (.int (i * j)) := by
  unfold dMul small64
  refine if_pos ?_
  have e : (2 : Int) ^ 64 = 18446744073709551616 := by decide
  rw [e, decide_eq_true h1, decide_eq_true h2]
  rfl
theorem dMul_okR {i j : Int} (h1 : -18446744073709551616 < j) (h2 : j < 18446744073709551616) : dMul (.int i) (.int j) = some (.int (i * j)) := by
  unfold dMul small64
  refine if_pos ?_
  have e : (2 : Int) ^ 64 = 18446744073709551616 := by decide
  rw [e, decide_eq_true h1, decide_eq_true h2]
  simp
theorem len_ok {α : Type} {n : Nat} {a b : M α} (h : n ≤ 100000) : (if n ≤ LIM then a else b) = a := if_pos h

theorem dRange1_ok {n : Int} (h1 : -1000000000 ≤ n) (h2 : n ≤ 1000000000) : dRange1 [.int n] = some (rangeD 0 n.toNat) := by
  unfold dRange1 BIG
  exact if_pos ⟨h1, h2⟩
theorem dRange2_ok {i n : Int} (h1 : -1000000000 ≤ i) (h2 : i ≤ 1000000000) (h3 : -1000000000 ≤ n) (h4 : n ≤ 1000000000) : dRange2 [.int i, .int n] = some (rangeD i (n - i).toNat) := by
  unfold dRange2 BIG
  exact if_pos ⟨h1, h2, h3, h4⟩
theorem dMul_tup {xs : List D} {k : Int} (h1 : -1000 ≤ k) (h2 : k ≤ 1000) (h3 : xs.length ≤ 1000) : dMul (.tup xs) (.int k) = some (.tup (List.replicate k.toNat xs).flatten) := by
  unfold dMul
  exact if_pos ⟨h1, h2, h3⟩
theorem dAdd_tup {xs ys : List D} (h : xs.length + ys.length ≤ 100000) : dAdd (.tup xs) (.tup ys) = some (.tup (xs ++ ys)) := by
  unfold dAdd
  exact if_pos h
theorem dAdd_int (i j : Int) : dAdd (.int i) (.int j) = some (.int (i + j)) := rfl
theorem q_for {T : Tg} {fs : Env → M (List D)} {F F' : F1} {δ : Env} {g : Out × Env → M D} {r : M D} {ds : List D} (h : fs δ = pure ds) (k : (forL T F ds δ >>= fun p => (match p.1 with | .nx => F' p.2 | o => pure (o, p.2)) >>= g) = r) : (sSeq (sFor T fs F) F' δ >>= g) = r := by
  rw [sSeq_eq, bb]
  have e : sFor T fs F δ = forL T F ds δ := by
    unfold sFor
    rw [h, pb]
  rw [e]
  exact k

theorem eLc_eq {own : List Nat} {T : Tg} {fs : Env → M (List D)} {t : Env → M Bool} {f : Env → M D} {δ : Env} {ds ys : List D} (h : fs δ = pure ds) (hl : ds.length ≤ 100000) (hc : lcL T t f (wipeD δ own) ds = pure ys) : eLc own T fs t f δ = pure (.lst ys) := by
  unfold eLc
  rw [h, pb]
  have e : (if ds.length ≤ LIM then (do let ys ← lcL T t f (wipeD δ own) ds; pure (D.lst ys)) else fail) = (do let ys ← lcL T t f (wipeD δ own) ds; pure (D.lst ys)) := if_pos hl
  rw [e, hc, pb]
theorem if_T {α : Type} (a b : α) : (if True then a else b) = a := if_pos trivial
theorem if_F {α : Type} (a b : α) : (if False then a else b) = b := if_neg id
theorem whileL_step {n : Nat} {c : Env → M Bool} {F : F1} {δ δ1 : Env} (h : c δ = pure true) (h1 : F δ = pure (.nx, δ1)) : whileL (n + 1) c F δ = whileL n c F δ1 := by
  have e : whileL (n + 1) c F δ = (c δ >>= fun k => if k = true then F δ >>= fun p => match p.1 with
    | .nx => whileL n c F p.2
    | .ct => whileL n c F p.2
    | .bk => pure (.nx, p.2)
    | .rt d => pure (.rt d, p.2) else pure (.nx, δ)) := rfl
  rw [e, h, pb, if_pos rfl, h1]
  rfl
theorem whileL_end {n : Nat} {c : Env → M Bool} {F : F1} {δ : Env} (h : c δ = pure false) : whileL (n + 1) c F δ = pure (.nx, δ) := by
  have e : whileL (n + 1) c F δ = (c δ >>= fun k => if k = true then F δ >>= fun p => match p.1 with
    | .nx => whileL n c F p.2
    | .ct => whileL n c F p.2
    | .bk => pure (.nx, p.2)
    | .rt d => pure (.rt d, p.2) else pure (.nx, δ)) := rfl
  rw [e, h]
  rfl
/-- two lists of numbers in a pair -/
def calD (h t : List Int) : D := .tup [.tup (zl h), .tup (zl t)]
theorem sh_calD (h t : List Int) : (calD h t).sh = true := by
  show ((D.dats (zl h) && (D.dats (zl t) && true)) && ((PyData.canLayAll0 (D.pds (zl h)) && (PyData.canLayAll0 (D.pds (zl t)) && true)) && decide (max (PyData.depthAll (D.pds (zl h)) + 1) (max (PyData.depthAll (D.pds (zl t)) + 1) 0) + 1 ≤ 64))) = true
  rw [dats_ints, dats_ints, pds_ints, pds_ints, lay_ints, lay_ints, depth_ints, depth_ints]
  rfl
theorem eqv_calD (a b c d : List Int) : (calD a b).eqv (calD c d) = decide (a = c ∧ b = d) := by
  show (PyData.eqvAll (D.pds (zl a)) (D.pds (zl c)) && (PyData.eqvAll (D.pds (zl b)) (D.pds (zl d)) && true)) = _
  rw [pds_ints, pds_ints, pds_ints, pds_ints, eqv_ints, eqv_ints, Bool.and_true]
  simp
theorem dEq_cal (a b c d : List Int) : dEq (.tup [.tup (zl a), .tup (zl b)]) (.tup [.tup (zl c), .tup (zl d)]) = some (.bl (decide (a = c ∧ b = d))) := by
  unfold dEq
  rw [if_pos ⟨sh_calD a b, sh_calD c d⟩]
  show some (D.bl ((calD a b).eqv (calD c d))) = _
  rw [eqv_calD]

theorem asBs_map {α : Type} (f : α → Bool) : ∀ l : List α, asBs (l.map fun x => D.bl (f x)) = some (l.map f)
  | [] => rfl
  | x :: l => by
    rw [List.map_cons, asBs, asBs_map f l]
    rfl
theorem dAll_map {α : Type} (f : α → Bool) (l : List α) : dAll [.lst (l.map fun x => D.bl (f x))] = some (.bl (l.all f)) := by
  show (asBs (l.map fun x => D.bl (f x))).map (fun bs => D.bl (bs.all id)) = _
  rw [asBs_map]
  show some (D.bl ((l.map f).all id)) = _
  rw [List.all_map]
  rfl
theorem dAny_map {α : Type} (f : α → Bool) (l : List α) : dAny [.lst (l.map fun x => D.bl (f x))] = some (.bl (l.any f)) := by
  show (asBs (l.map fun x => D.bl (f x))).map (fun bs => D.bl (bs.any id)) = _
  rw [asBs_map]
  show some (D.bl ((l.map f).any id)) = _
  rw [List.any_map]
  rfl

theorem dEq_bl (a b : Bool) : dEq (.bl a) (.bl b) = some (.bl (decide (a = b))) := by cases a <;> cases b <;> rfl
theorem dNe_bl (a b : Bool) : dNe (.bl a) (.bl b) = some (.bl (!decide (a = b))) := by cases a <;> cases b <;> rfl
theorem isNon_int (i : Int) : (D.int i).isNon = false := rfl
theorem isNon_bl (i : Bool) : (D.bl i).isNon = false := rfl
theorem isNon_str (i : Str) : (D.str i).isNon = false := rfl
theorem isNon_tup (i : List D) : (D.tup i).isNon = false := rfl
theorem isNon_lst (i : List D) : (D.lst i).isNon = false := rfl
theorem isNon_non : D.non.isNon = true := rfl
theorem dIs_non (x : D) : dIs x .non = some (.bl x.isNon) := by cases x <;> rfl
theorem dIsNot_non (x : D) : dIsNot x .non = some (.bl (!x.isNon)) := by cases x <;> rfl
theorem dIs_bl (a b : Bool) : dIs (.bl a) (.bl b) = some (.bl (decide (a = b))) := rfl
theorem dIsNot_bl (a b : Bool) : dIsNot (.bl a) (.bl b) = some (.bl (!decide (a = b))) := rfl
theorem all_true {α : Type} (l : List α) : l.all (fun _ => true) = true := by simp
end Fc

/-! Fc, part N: evaluation of the further forms. -/
namespace Fc
open PySem L2
theorem asIs_zl (l : List Int) : asIs (zl l) = some l := asIs_map l
theorem dSum_tup (l : List Int) : dSum [.tup (zl l)] = some (.int l.sum) := by
  show (asIs (zl l)).map (fun ns => D.int ns.sum) = _
  rw [asIs_zl]
  rfl
theorem dSum_lst (l : List Int) : dSum [.lst (zl l)] = some (.int l.sum) := by
  show (asIs (zl l)).map (fun ns => D.int ns.sum) = _
  rw [asIs_zl]
  rfl
theorem dMax1_zl {l : List Int} {m : Int} (h : l.max? = some m) : dMax1 [.lst (zl l)] = some (.int m) := by
  show (asIs (zl l)).bind (fun ns => ns.max?.map D.int) = _
  rw [asIs_zl]
  show (l.max?).map D.int = _
  rw [h]
  rfl
theorem dMin1_zl {l : List Int} {m : Int} (h : l.min? = some m) : dMin1 [.lst (zl l)] = some (.int m) := by
  show (asIs (zl l)).bind (fun ns => ns.min?.map D.int) = _
  rw [asIs_zl]
  show (l.min?).map D.int = _
  rw [h]
  rfl
theorem dLcm_ok {i j : Int} (h1 : -18446744073709551616 < i) (h2 : i < 18446744073709551616) (h3 : -18446744073709551616 < j) (h4 : j < 18446744073709551616) : dLcm [.int i, .int j] = some (.int (Nat.lcm i.natAbs j.natAbs : Nat)) := if_pos ⟨by omega, by omega⟩
theorem dDivmod_ok {i j : Int} (h1 : 0 < j) (h2 : j < 1073741824) : dDivmod [.int i, .int j] = some (.tup [.int (i / j), .int (i % j)]) := if_pos ⟨h1, h2⟩
theorem dMax2_eq (i j : Int) : dMax2 [.int i, .int j] = some (.int (max i j)) := by
  show some (D.int (if j > i then j else i)) = _
  congr 2
  split <;> omega
/-- a loop, with its place counted -/
theorem forL_ix {T : Tg} {F : F1} (Pv : Nat → Env → Prop) : ∀ {ds : List D} {δ : Env} {n : Nat}, Pv n δ → (∀ i d δ, ds[i]? = some d → Pv (n + i) δ → ∃ δ1 δ2, setT T d δ = some δ1 ∧ (F δ1 = pure (.nx, δ2) ∨ F δ1 = pure (.ct, δ2)) ∧ Pv (n + i + 1) δ2) → ∃ δ', forL T F ds δ = pure (.nx, δ') ∧ Pv (n + ds.length) δ'
  | [], δ, n, h, _ => ⟨δ, rfl, h⟩
  | d :: ds, δ, n, h, k => by
    obtain ⟨δ1, δ2, h1, h2, h3⟩ := k 0 d δ rfl h
    obtain ⟨δ', e, h4⟩ := forL_ix (T := T) (F := F) Pv (ds := ds) (δ := δ2) (n := n + 1) h3 fun i d' δ3 hi hp => by
      have e1 : n + 1 + i = n + (i + 1) := by omega
      rw [e1] at hp ⊢
      exact k (i + 1) d' δ3 hi hp
    have e2 : n + (d :: ds).length = n + 1 + ds.length := by
      rw [List.length_cons]
      omega
    refine ⟨δ', ?_, by rw [e2]; exact h4⟩
    have e0 : forL T F (d :: ds) δ = (liftO (setT T d δ) >>= fun δ1 => F δ1 >>= fun p => match p.1 with
      | .nx => forL T F ds p.2
      | .ct => forL T F ds p.2
      | .bk => pure (.nx, p.2)
      | .rt d => pure (.rt d, p.2)) := rfl
    rw [e0, h1, liftO_pure, pb]
    rcases h2 with h2 | h2
    · rw [h2]
      exact e
    · rw [h2]
      exact e
theorem rangeD_get (lo : Int) (n i : Nat) (d : D) (h : (rangeD lo n)[i]? = some d) : i < n ∧ d = .int (lo + i) := by
  unfold rangeD at h
  rw [List.getElem?_map] at h
  by_cases hi : i < n
  · rw [List.getElem?_range hi] at h
    exact ⟨hi, (Option.some.inj h).symm⟩
  · rw [List.getElem?_eq_none (by rw [List.length_range]; omega)] at h
    cases h
theorem forL_rng {T : Tg} {F : F1} (Pv : Nat → Env → Prop) {lo : Int} {n : Nat} {δ : Env} (h0 : Pv 0 δ) (hs : ∀ i δ, i < n → Pv i δ → ∃ δ1 δ2, setT T (.int (lo + i)) δ = some δ1 ∧ (F δ1 = pure (.nx, δ2) ∨ F δ1 = pure (.ct, δ2)) ∧ Pv (i + 1) δ2) : ∃ δ', forL T F (rangeD lo n) δ = pure (.nx, δ') ∧ Pv n δ' := by
  obtain ⟨δ', e, h⟩ := forL_ix (T := T) (F := F) Pv (ds := rangeD lo n) (n := 0) h0 fun i d δ hi hp => by
    obtain ⟨h1, rfl⟩ := rangeD_get lo n i d hi
    rw [Nat.zero_add] at hp ⊢
    exact hs i δ h1 hp
  rw [Nat.zero_add, rangeD_len] at h
  exact ⟨δ', e, h⟩
/-- a comprehension whose items draw: items of P, as many as ds -/
theorem wp_lcL {T : Tg} {f : Env → M D} {δ : Env} (P : Int → Prop) : ∀ {ds : List D} {Q : List D → Dw → Prop} {w : Dw}, (∀ d ∈ ds, ∃ δ1, setT T d δ = some δ1 ∧ ∀ (R : D → Dw → Prop) w, (∀ k w', P k → R (.int k) w') → wp (f δ1) R w) → (∀ l w', l.length = ds.length → (∀ x ∈ l, P x) → Q (zl l) w') → wp (lcL T tYesF f δ ds) Q w
  | [], Q, w, _, hq => by
    show wp (pure []) Q w
    rw [wp_pure]
    exact hq [] w rfl fun x hx => by cases hx
  | d :: ds, Q, w, h, hq => by
    obtain ⟨δ1, h1, h2⟩ := h d List.mem_cons_self
    have e0 : lcL T tYesF f δ (d :: ds) = (liftO (setT T d δ) >>= fun δ1 => tYesF δ1 >>= fun k => if k = true then f δ1 >>= fun y => lcL T tYesF f δ ds >>= fun ys => pure (y :: ys) else lcL T tYesF f δ ds) := rfl
    rw [e0, h1, liftO_pure, pb]
    show wp (f δ1 >>= fun y => lcL T tYesF f δ ds >>= fun ys => pure (y :: ys)) Q w
    rw [wp_bind]
    refine h2 _ w fun k w1 hk => ?_
    rw [wp_bind]
    refine wp_lcL P (fun d' hd => h d' (List.mem_cons_of_mem _ hd)) fun l w2 hl hp => ?_
    rw [wp_pure]
    exact hq (k :: l) w2 (by rw [List.length_cons, List.length_cons, hl]) fun x hx => by
      rcases List.mem_cons.mp hx with rfl | hx
      · exact hk
      · exact hp x hx
/-- the same, of the comprehension -/
theorem wp_eLc {own : List Nat} {T : Tg} {fs : Env → M (List D)} {f : Env → M D} {δ : Env} {ds : List D} (P : Int → Prop) {Q : D → Dw → Prop} {w : Dw} (hl : ds.length ≤ 100000) (h : ∀ d ∈ ds, ∃ δ1, setT T d (wipeD δ own) = some δ1 ∧ ∀ (R : D → Dw → Prop) w, (∀ k w', P k → R (.int k) w') → wp (f δ1) R w) (hf : wp (fs δ) (fun xs w' => xs = ds ∧ ∀ l w2, l.length = ds.length → (∀ x ∈ l, P x) → Q (.lst (zl l)) w2) w) : wp (eLc own T fs tYesF f δ) Q w := by
  have e0 : eLc own T fs tYesF f δ = (fs δ >>= fun xs => if xs.length ≤ LIM then lcL T tYesF f (wipeD δ own) xs >>= fun ys => pure (.lst ys) else fail) := rfl
  rw [e0, wp_bind]
  refine wp_mono hf fun xs w' ⟨e, hq⟩ => ?_
  subst e
  rw [if_pos (show xs.length ≤ LIM from hl), wp_bind]
  refine wp_lcL P h fun l w2 h1 h2 => ?_
  rw [wp_pure]
  exact hq l w2 h1 h2
end Fc

set_option maxHeartbeats 1000000
/-! Calendars as pairs of lists: the shortest pair for a set of times is one. -/
namespace Cal
/-- the flag at a time -/
def val (h t : List Int) (i : Nat) : Int := if i < h.length then h.getD i 0 else t.getD ((i - h.length) % t.length) 0

/-! ### a list again and again -/
theorem rep_get (s : List Int) : ∀ (k i : Nat), i < k * s.length → ((List.replicate k s).flatten).getD i 0 = s.getD (i % s.length) 0
  | 0, i, h => by simp at h
  | k + 1, i, h => by
    rw [List.replicate_succ, List.flatten_cons]
    by_cases hi : i < s.length
    · rw [List.getD_eq_getElem?_getD, List.getElem?_append_left hi, ← List.getD_eq_getElem?_getD, Nat.mod_eq_of_lt hi]
    · have h1 : i - s.length < k * s.length := by
        rw [Nat.add_mul, Nat.one_mul] at h
        omega
      rw [List.getD_eq_getElem?_getD, List.getElem?_append_right (by omega), ← List.getD_eq_getElem?_getD, rep_get s k _ h1, Nat.mod_eq_sub_mod (show i ≥ s.length by omega)]
theorem rep_len (s : List Int) (k : Nat) : ((List.replicate k s).flatten).length = k * s.length := by
  induction k with
  | zero => simp
  | succ k ih => rw [List.replicate_succ, List.flatten_cons, List.length_append, ih, Nat.add_mul, Nat.one_mul, Nat.add_comm]
theorem ext_getD {l m : List Int} (hl : l.length = m.length) (h : ∀ i, i < l.length → l.getD i 0 = m.getD i 0) : l = m := by
  refine List.ext_getElem hl fun i h1 h2 => ?_
  have := h i h1
  rw [List.getD_eq_getElem?_getD, List.getD_eq_getElem?_getD, List.getElem?_eq_getElem h1, List.getElem?_eq_getElem h2] at this
  exact this
theorem take_getD (l : List Int) {n i : Nat} (h : i < n) : (l.take n).getD i 0 = l.getD i 0 := by
  rw [List.getD_eq_getElem?_getD, List.getD_eq_getElem?_getD, List.getElem?_take_of_lt h]
theorem drop_getD (l : List Int) (n i : Nat) : (l.drop n).getD i 0 = l.getD (n + i) 0 := by
  rw [List.getD_eq_getElem?_getD, List.getD_eq_getElem?_getD, List.getElem?_drop]

def rootAt (l : List Int) (k : Nat) : Bool := decide (l.length % k = 0) && decide (l = (List.replicate (l.length / k) (l.take k)).flatten)
def leastRoot (l : List Int) : List Int := match (List.range (l.length - 1)).find? fun i => rootAt l (i + 1) with
  | some i => l.take (i + 1)
  | none => l
theorem range_find_some {n i : Nat} {p : Nat → Bool} (h : (List.range n).find? p = some i) : p i = true ∧ i < n ∧ ∀ j, j < i → p j = false := by
  refine ⟨List.find?_some h, List.mem_range.mp (List.mem_of_find?_eq_some h), fun j hj => ?_⟩
  obtain ⟨_, as, bs, e, h3⟩ := List.find?_eq_some_iff_append.mp h
  have hn : i < n := List.mem_range.mp (List.mem_of_find?_eq_some h)
  have hlen : as.length = i := by
    have h1 : (List.range n)[as.length]? = some i := by rw [e]; simp
    rw [List.getElem?_range (by
      have : (List.range n).length = as.length + (bs.length + 1) := by rw [e]; simp
      rw [List.length_range] at this
      omega)] at h1
    exact Option.some.inj h1
  have hm : j ∈ as := by
    have h1 : (List.range n)[j]? = some j := List.getElem?_range (by omega)
    rw [e, List.getElem?_append_left (by omega)] at h1
    exact List.mem_of_getElem? h1
  simpa using h3 j hm
/-- what least root says: a divisor of the length, a root, and the least -/
theorem root_spec {l : List Int} (hl : l ≠ []) : ∃ L, leastRoot l = l.take L ∧ 0 < L ∧ L ≤ l.length ∧ (∀ i, i < l.length → l.getD i 0 = l.getD (i % L) 0) ∧ l.length % L = 0 ∧ ∀ k, 0 < k → k < L → rootAt l k = false := by
  have hn : 0 < l.length := List.length_pos_iff.mpr hl
  unfold leastRoot
  cases h : (List.range (l.length - 1)).find? fun i => rootAt l (i + 1) with
  | none =>
    refine ⟨l.length, (List.take_length).symm, hn, Nat.le_refl _, fun i hi => by rw [Nat.mod_eq_of_lt hi], Nat.mod_self _, fun k h1 h2 => ?_⟩
    have := List.find?_eq_none.mp h (k - 1) (List.mem_range.mpr (by omega))
    have e : k - 1 + 1 = k := by omega
    rw [e] at this
    simpa using this
  | some i =>
    obtain ⟨h1, h2, h3⟩ := range_find_some h
    unfold rootAt at h1
    rw [Bool.and_eq_true, decide_eq_true_eq, decide_eq_true_eq] at h1
    refine ⟨i + 1, rfl, by omega, by omega, fun j hj => ?_, h1.1, fun k h4 h5 => ?_⟩
    · have tl : (l.take (i + 1)).length = i + 1 := by rw [List.length_take]; omega
      have e := rep_get (l.take (i + 1)) (l.length / (i + 1)) j (by rw [tl, Nat.div_mul_cancel (Nat.dvd_of_mod_eq_zero h1.1)]; exact hj)
      rw [← h1.2, tl, take_getD _ (Nat.mod_lt _ (by omega))] at e
      exact e
    · have := h3 (k - 1) (by omega)
      have e : k - 1 + 1 = k := by omega
      rw [e] at this
      exact this
theorem root_of {l : List Int} {d : Nat} (hd : 0 < d) (hdv : l.length % d = 0) (h : ∀ i, i < l.length → l.getD i 0 = l.getD (i % d) 0) (hle : d ≤ l.length) : rootAt l d = true := by
  unfold rootAt
  rw [Bool.and_eq_true, decide_eq_true_eq, decide_eq_true_eq]
  refine ⟨hdv, ?_⟩
  have tl : (l.take d).length = d := by rw [List.length_take]; omega
  have hm : l.length / d * d = l.length := Nat.div_mul_cancel (Nat.dvd_of_mod_eq_zero hdv)
  refine ext_getD (by rw [rep_len, tl, hm]) fun i hi => ?_
  rw [rep_get _ _ _ (by rw [tl, hm]; exact hi), tl, take_getD _ (Nat.mod_lt _ hd)]
  exact h i hi

/-! ### periods -/
def Per (g : Nat → Int) (q : Nat) : Prop := ∀ i, g (i + q) = g i
theorem Per.mul {g : Nat → Int} {q : Nat} (h : Per g q) (i : Nat) : ∀ m, g (i + m * q) = g i
  | 0 => by rw [Nat.zero_mul]; rfl
  | m + 1 => by
    have e : i + (m + 1) * q = (i + m * q) + q := by rw [Nat.add_mul, Nat.one_mul]; omega
    rw [e, h, Per.mul h i m]
theorem Per.gcd {g : Nat → Int} (m n : Nat) : Per g m → Per g n → Per g (Nat.gcd m n) := by
  induction m, n using Nat.gcd.induction with
  | H0 n => intro _ h; rw [Nat.gcd_zero_left]; exact h
  | H1 m n hm ih =>
    intro h1 h2
    rw [Nat.gcd_rec]
    refine ih (fun i => ?_) h1
    have e : i + n % m + n / m * m = i + n := by
      have := Nat.mod_add_div n m
      rw [Nat.mul_comm] at this
      omega
    rw [← Per.mul h1 (i + n % m) (n / m), e, h2]
theorem Per.mod {g : Nat → Int} {q : Nat} (h : Per g q) (i : Nat) : g i = g (i % q) := by
  have e : i % q + i / q * q = i := by
    have := Nat.mod_add_div i q
    rw [Nat.mul_comm] at this
    omega
  rw [← Per.mul h (i % q) (i / q), e]

/-! ### the shortest pair -/
/-- the flag of the turn at a time that may lie in the head -/
def vt (n : Nat) (t : List Int) (i : Nat) : Int := t.getD (((i : Int) - n) % t.length).toNat 0
def trim (h t : List Int) : Nat → Nat
  | 0 => 0
  | i + 1 => if h.getD i 0 = vt h.length t i then trim h t i else i + 1
def calOf (h t : List Int) : List Int × List Int :=
  let r := leastRoot t
  let last := trim h r h.length
  let moved := (((last : Int) - h.length) % r.length).toNat
  (h.take last, r.drop moved ++ r.take moved)
theorem trim_le (h t : List Int) : ∀ n, trim h t n ≤ n
  | 0 => Nat.le_refl 0
  | n + 1 => by
    unfold trim
    split
    · have := trim_le h t n; omega
    · omega
theorem trim_eq (h t : List Int) : ∀ n i, trim h t n ≤ i → i < n → h.getD i 0 = vt h.length t i
  | 0, i, _, h2 => by omega
  | n + 1, i, h1, h2 => by
    unfold trim at h1
    split at h1
    · rename_i e
      by_cases hi : i = n
      · rw [hi]; exact e
      · exact trim_eq h t n i h1 (by omega)
    · omega
theorem trim_ne (h t : List Int) : ∀ n, 0 < trim h t n → h.getD (trim h t n - 1) 0 ≠ vt h.length t (trim h t n - 1)
  | 0, h0 => by simp [trim] at h0
  | n + 1, h0 => by
    unfold trim at h0 ⊢
    split
    · rename_i e
      rw [if_pos e] at h0
      exact trim_ne h t n h0
    · rename_i e
      exact e
theorem vt_per (n : Nat) (t : List Int) (i : Nat) : vt n t (i + t.length) = vt n t i := by
  unfold vt
  have e : (((i + t.length : Nat) : Int) - n) = ((i : Int) - n) + t.length := by omega
  rw [e, Int.add_emod_right]
theorem vt_high {n : Nat} {t : List Int} {i : Nat} (h : n ≤ i) : vt n t i = t.getD ((i - n) % t.length) 0 := by
  unfold vt
  have e : ((i : Int) - n) = ((i - n : Nat) : Int) := by omega
  rw [e, ← Int.natCast_emod]
  rfl
section
variable {h t : List Int} (ht : t ≠ [])
include ht
/-- the facts of the shortest pair: with L, N its lengths, f its flags -/
theorem calOf_spec : ∃ L N, 0 < L ∧ N ≤ h.length ∧ (calOf h t).1 = (List.range N).map (val h t) ∧ (calOf h t).2 = (List.range L).map (fun j => val h t (N + j)) ∧
    (∀ i, N ≤ i → val h t (i + L) = val h t i) ∧ (0 < N → val h t (N - 1 + L) ≠ val h t (N - 1)) ∧ (∀ q M, 0 < q → (∀ i, M ≤ i → val h t (i + q) = val h t i) → L ≤ q) := by
  obtain ⟨L, hr, hL, hLn, hget, hdv, hleast⟩ := root_spec ht
  have hn : 0 < t.length := List.length_pos_iff.mpr ht
  have rl : (leastRoot t).length = L := by rw [hr, List.length_take]; omega
  -- the flags behind the head
  have high : ∀ i, h.length ≤ i → val h t i = vt h.length (leastRoot t) i := fun i hi => by
    rw [vt_high hi, rl, hr, take_getD _ (Nat.mod_lt _ hL)]
    unfold val
    rw [if_neg (by omega), hget _ (Nat.mod_lt _ hn), Nat.mod_mod_of_dvd _ (Nat.dvd_of_mod_eq_zero hdv)]
  have all : ∀ i, trim h (leastRoot t) h.length ≤ i → val h t i = vt h.length (leastRoot t) i := fun i hi => by
    by_cases hh : i < h.length
    · unfold val
      rw [if_pos hh]
      exact trim_eq h _ h.length i hi hh
    · exact high i (by omega)
  have per : ∀ i, vt h.length (leastRoot t) (i + L) = vt h.length (leastRoot t) i := fun i => by
    have := vt_per h.length (leastRoot t) i
    rw [rl] at this
    exact this
  have hN := trim_le h (leastRoot t) h.length
  refine ⟨L, trim h (leastRoot t) h.length, hL, hN, ?_, ?_, fun i hi => ?_, fun h0 => ?_, fun q M hq hp => ?_⟩
  · refine ext_getD ?_ fun i hi => ?_
    · show (h.take _).length = _
      rw [List.length_take, List.length_map, List.length_range]
      omega
    · have hi' : i < trim h (leastRoot t) h.length := by
        have : (h.take (trim h (leastRoot t) h.length)).length = _ := List.length_take
        have h2 : i < (h.take (trim h (leastRoot t) h.length)).length := hi
        omega
      show (h.take _).getD i 0 = _
      rw [take_getD _ hi', List.getD_eq_getElem?_getD, List.getD_eq_getElem?_getD, List.getElem?_map, List.getElem?_range hi']
      show _ = (val h t i)
      unfold val
      rw [if_pos (by omega), List.getD_eq_getElem?_getD]
  · have hml : ((((trim h (leastRoot t) h.length : Nat) : Int) - h.length) % L).toNat < L := by
      have h1 := Int.emod_nonneg (((trim h (leastRoot t) h.length : Nat) : Int) - h.length) (by omega : (L : Int) ≠ 0)
      have h2 := Int.emod_lt_of_pos (((trim h (leastRoot t) h.length : Nat) : Int) - h.length) (by omega : (0 : Int) < L)
      omega
    have e2 : (calOf h t).2 = (leastRoot t).drop ((((trim h (leastRoot t) h.length : Nat) : Int) - h.length) % L).toNat ++ (leastRoot t).take ((((trim h (leastRoot t) h.length : Nat) : Int) - h.length) % L).toNat := by
      show (leastRoot t).drop ((((trim h (leastRoot t) h.length : Nat) : Int) - h.length) % (leastRoot t).length).toNat ++ (leastRoot t).take ((((trim h (leastRoot t) h.length : Nat) : Int) - h.length) % (leastRoot t).length).toNat = _
      rw [rl]
    rw [e2]
    generalize hm : ((((trim h (leastRoot t) h.length : Nat) : Int) - h.length) % L).toNat = m at hml ⊢
    have hmI : (m : Int) = (((trim h (leastRoot t) h.length : Nat) : Int) - h.length) % L := by
      have h1 := Int.emod_nonneg (((trim h (leastRoot t) h.length : Nat) : Int) - h.length) (by omega : (L : Int) ≠ 0)
      omega
    refine ext_getD ?_ fun i hi => ?_
    · rw [List.length_append, List.length_drop, List.length_take, List.length_map, List.length_range, rl]
      omega
    · have hi' : i < L := by
        rw [List.length_append, List.length_drop, List.length_take, rl] at hi
        omega
      have e3 : ((List.range L).map fun j => val h t (trim h (leastRoot t) h.length + j)).getD i 0 = val h t (trim h (leastRoot t) h.length + i) := by
        rw [List.getD_eq_getElem?_getD, List.getElem?_map, List.getElem?_range hi']
        rfl
      rw [e3, all _ (Nat.le_add_right _ _)]
      unfold vt
      rw [rl]
      have e4 : (((trim h (leastRoot t) h.length + i : Nat) : Int) - h.length) % L = ((m : Int) + i) % L := by
        have e5 : (((trim h (leastRoot t) h.length + i : Nat) : Int) - h.length) = (((trim h (leastRoot t) h.length : Nat) : Int) - h.length) + i := by omega
        rw [e5, Int.add_emod, ← hmI, ← Int.add_emod_emod, hmI, Int.emod_emod_of_dvd _ (Int.dvd_refl _)]
        simp [Int.add_emod]
      rw [e4]
      by_cases hw : m + i < L
      · have e6 : (((m : Int) + i) % L).toNat = m + i := by rw [Int.emod_eq_of_lt (by omega) (by omega)]; omega
        rw [e6, List.getD_eq_getElem?_getD, List.getElem?_append_left (by rw [List.length_drop, rl]; omega), ← List.getD_eq_getElem?_getD, drop_getD]
      · have e6 : (((m : Int) + i) % L).toNat = m + i - L := by
          have e7 : ((m : Int) + i) = ((m : Int) + i - L) + L := by omega
          rw [e7, Int.add_emod_right, Int.emod_eq_of_lt (by omega) (by omega)]
          omega
        rw [e6, List.getD_eq_getElem?_getD, List.getElem?_append_right (by rw [List.length_drop, rl]; omega), ← List.getD_eq_getElem?_getD, List.length_drop, rl]
        have e8 : i - (L - m) = m + i - L := by omega
        rw [e8, take_getD _ (by omega)]
  · rw [all _ (by omega), all _ hi, per]
  · have h1 : val h t (trim h (leastRoot t) h.length - 1) = h.getD (trim h (leastRoot t) h.length - 1) 0 := by
      unfold val
      rw [if_pos (by omega)]
    rw [h1, all _ (by omega), per]
    exact Ne.symm (trim_ne h _ _ h0)
  · -- a period of the flags is one of the turn
    have gper : Per (fun i => t.getD (i % t.length) 0) t.length := fun i => by
      show t.getD ((i + t.length) % t.length) 0 = _
      rw [Nat.add_mod_right]
    have gval : ∀ i, val h t (h.length + i) = t.getD (i % t.length) 0 := fun i => by
      unfold val
      rw [if_neg (by omega)]
      have : h.length + i - h.length = i := by omega
      rw [this]
    have gq : Per (fun i => t.getD (i % t.length) 0) q := fun i => by
      have e1 := Per.mul gper (i + q) M
      have e2 := Per.mul gper i M
      have e3 : i + q + M * t.length = (i + M * t.length) + q := by omega
      rw [e3] at e1
      have hM : M ≤ M * t.length := Nat.le_mul_of_pos_right M hn
      have e4 := hp (h.length + (i + M * t.length)) (by omega)
      have e5 : h.length + (i + M * t.length) + q = h.length + (i + M * t.length + q) := by omega
      rw [e5, gval, gval] at e4
      show t.getD ((i + q) % t.length) 0 = t.getD (i % t.length) 0
      have e1' : t.getD ((i + M * t.length + q) % t.length) 0 = t.getD ((i + q) % t.length) 0 := e1
      have e2' : t.getD ((i + M * t.length) % t.length) 0 = t.getD (i % t.length) 0 := e2
      rw [← e1', ← e2', e4]
    have gd := Per.gcd q t.length gq gper
    have hd0 : 0 < Nat.gcd q t.length := Nat.gcd_pos_of_pos_left _ hq
    have hdq : Nat.gcd q t.length ≤ q := Nat.le_of_dvd hq (Nat.gcd_dvd_left _ _)
    have hdn : Nat.gcd q t.length ≤ t.length := Nat.le_of_dvd hn (Nat.gcd_dvd_right _ _)
    have root : rootAt t (Nat.gcd q t.length) = true := root_of hd0 (Nat.mod_eq_zero_of_dvd (Nat.gcd_dvd_right _ _)) (fun i hi => by
      have e := Per.mod gd i
      have e' : t.getD (i % t.length) 0 = t.getD (i % Nat.gcd q t.length % t.length) 0 := e
      rw [Nat.mod_eq_of_lt hi, Nat.mod_eq_of_lt (Nat.lt_of_lt_of_le (Nat.mod_lt _ hd0) hdn)] at e'
      exact e') hdn
    by_cases hc : L ≤ Nat.gcd q t.length
    · omega
    · rw [hleast _ hd0 (by omega)] at root
      cases root
theorem calOf_ne : (calOf h t).2 ≠ [] := by
  obtain ⟨L, N, hL, _, _, e, _⟩ := calOf_spec (h := h) ht
  rw [e]
  intro z
  have := congrArg List.length z
  rw [List.length_map, List.length_range] at this
  have h0 : ([] : List Int).length = 0 := rfl
  omega
/-- the shortest pair tells the same set -/
theorem calOf_val (i : Nat) : val (calOf h t).1 (calOf h t).2 i = val h t i := by
  obtain ⟨L, N, hL, hN, e1, e2, hp, _, _⟩ := calOf_spec (h := h) ht
  rw [e1, e2]
  show (if i < ((List.range N).map (val h t)).length then ((List.range N).map (val h t)).getD i 0 else ((List.range L).map fun j => val h t (N + j)).getD ((i - ((List.range N).map (val h t)).length) % ((List.range L).map fun j => val h t (N + j)).length) 0) = _
  rw [List.length_map, List.length_range, List.length_map, List.length_range]
  by_cases hi : i < N
  · rw [if_pos hi, List.getD_eq_getElem?_getD, List.getElem?_map, List.getElem?_range hi]
    rfl
  · rw [if_neg hi, List.getD_eq_getElem?_getD, List.getElem?_map, List.getElem?_range (Nat.mod_lt _ hL)]
    show val h t (N + (i - N) % L) = _
    have key : ∀ m, val h t (N + (i - N) % L + m * L) = val h t (N + (i - N) % L) := by
      intro m
      induction m with
      | zero => rw [Nat.zero_mul]; rfl
      | succ m ih =>
        have e : N + (i - N) % L + (m + 1) * L = (N + (i - N) % L + m * L) + L := by rw [Nat.add_mul, Nat.one_mul]; omega
        rw [e, hp _ (by omega), ih]
    have e3 : N + (i - N) % L + (i - N) / L * L = i := by
      have := Nat.mod_add_div (i - N) L
      rw [Nat.mul_comm] at this
      omega
    rw [← key ((i - N) / L), e3]
end
/-- there is one shortest pair for each set -/
theorem calOf_uniq {h t h' t' : List Int} (ht : t ≠ []) (ht' : t' ≠ []) (e : ∀ i, val h t i = val h' t' i) : calOf h t = calOf h' t' := by
  obtain ⟨L, N, hL, hN, e1, e2, hp, hm, hl⟩ := calOf_spec (h := h) ht
  obtain ⟨L', N', hL', hN', e1', e2', hp', hm', hl'⟩ := calOf_spec (h := h') ht'
  have ev : val h t = val h' t' := funext e
  rw [ev] at e1 e2 hp hm hl
  have eL : L = L' := by
    have a := hl L' N' hL' hp'
    have b := hl' L N hL hp
    omega
  subst eL
  have eN : N = N' := by
    by_cases h1 : N < N'
    · exact absurd (hp (N' - 1) (by omega)) (hm' (by omega))
    · by_cases h2 : N' < N
      · exact absurd (hp' (N - 1) (by omega)) (hm (by omega))
      · omega
  subst eN
  rw [← e1'] at e1
  rw [← e2'] at e2
  exact Prod.ext e1 e2
theorem calOf_idem {h t : List Int} (ht : t ≠ []) : calOf (calOf h t).1 (calOf h t).2 = calOf h t := calOf_uniq (calOf_ne ht) ht (calOf_val ht)
end Cal

/-! Defs that several laws share, as functions on data (printed by gen.py). -/
namespace Sh
open PySem PySem.Spec L2 Fc
def F__law_same (self : List D → M D) : F1 :=
    (sSeq (sIf (tT (eIsi2 "list" "tuple" (eVar 1))) (sSeq (sIf (tOrF (tB (eBin dNe (eIsi "list" (eVar 1)) (eIsi "list" (eVar 0)))) (tB (eBin dNe (eIsi "tuple" (eVar 1)) (eIsi "tuple" (eVar 0))))) (sRet (eC (.bl false))) sNil)
      (sSeq (sIf (tB (eBin dNe (eCall dLen (aCons (eVar 0) aNil)) (eCall dLen (aCons (eVar 1) aNil)))) (sRet (eC (.bl false))) sNil)
      (sRet (eCall dAll (aCons (eLc [2] (.nm 2) (itCall dRange1 (aCons (eCall dLen (aCons (eVar 1) aNil)) aNil)) tYesF (eDef self (aCons (eBin dIx (eVar 0) (eVar 2)) (aCons (eBin dIx (eVar 1) (eVar 2)) aNil)))) aNil))))) sNil)
    (sSeq (sIf (tB (eBin dIs (eVar 1) (eC .non))) (sRet (eBin dIs (eVar 0) (eC .non))) sNil)
    (sSeq (sIf (tB (eBin dNe (eIsi "bool" (eVar 1)) (eIsi "bool" (eVar 0)))) (sRet (eC (.bl false))) sNil)
    (sSeq (sIf (tT (eIsi "str" (eVar 1))) (sRet (eAndV (eIsi "str" (eVar 0)) (eBin dEq (eVar 0) (eVar 1)))) sNil)
    (sRet (eAndV (eIsi "int" (eVar 0)) (eBin dEq (eVar 0) (eVar 1))))))))
def r__law_same : Nat → List D → M D
  | 0 => fun _ => fail
  | n + 1 => bodyF 2 3 (F__law_same (r__law_same n))
def m__law_same : List D → M D := r__law_same 30
def F_ratio : F1 :=
    (sSeq (sIf (tB (eBin dLt (eVar 1) (eC (.int 0)))) (sPar 0 1 (aCons (eUn dNeg (eVar 0)) (aCons (eUn dNeg (eVar 1)) aNil))) sNil)
    (sSeq (sAsg (.nm 2) (eCall dGcd (aCons (eVar 0) (aCons (eVar 1) aNil))))
    (sRet (eTup (aCons (eBin dDiv (eVar 0) (eVar 2)) (aCons (eBin dDiv (eVar 1) (eVar 2)) aNil))))))
def m_ratio : List D → M D := bodyF 2 3 F_ratio
def F_add : F1 :=
    (sRet (eDef m_ratio (aCons (eBin dAdd (eBin dMul (eBin dIx (eVar 0) (eC (.int 0))) (eBin dIx (eVar 1) (eC (.int 1)))) (eBin dMul (eBin dIx (eVar 1) (eC (.int 0))) (eBin dIx (eVar 0) (eC (.int 1))))) (aCons (eBin dMul (eBin dIx (eVar 0) (eC (.int 1))) (eBin dIx (eVar 1) (eC (.int 1)))) aNil))))
def m_add : List D → M D := bodyF 2 2 F_add
def F_subtract : F1 :=
    (sRet (eDef m_ratio (aCons (eBin dSub (eBin dMul (eBin dIx (eVar 0) (eC (.int 0))) (eBin dIx (eVar 1) (eC (.int 1)))) (eBin dMul (eBin dIx (eVar 1) (eC (.int 0))) (eBin dIx (eVar 0) (eC (.int 1))))) (aCons (eBin dMul (eBin dIx (eVar 0) (eC (.int 1))) (eBin dIx (eVar 1) (eC (.int 1)))) aNil))))
def m_subtract : List D → M D := bodyF 2 2 F_subtract
def F_multiply : F1 :=
    (sRet (eDef m_ratio (aCons (eBin dMul (eBin dIx (eVar 0) (eC (.int 0))) (eBin dIx (eVar 1) (eC (.int 0)))) (aCons (eBin dMul (eBin dIx (eVar 0) (eC (.int 1))) (eBin dIx (eVar 1) (eC (.int 1)))) aNil))))
def m_multiply : List D → M D := bodyF 2 2 F_multiply
def F_divide : F1 :=
    (sRet (eDef m_ratio (aCons (eBin dMul (eBin dIx (eVar 0) (eC (.int 0))) (eBin dIx (eVar 1) (eC (.int 1)))) (aCons (eBin dMul (eBin dIx (eVar 0) (eC (.int 1))) (eBin dIx (eVar 1) (eC (.int 0)))) aNil))))
def m_divide : List D → M D := bodyF 2 2 F_divide
def F_less : F1 :=
    (sRet (eBin dLt (eBin dMul (eBin dIx (eVar 0) (eC (.int 0))) (eBin dIx (eVar 1) (eC (.int 1)))) (eBin dMul (eBin dIx (eVar 1) (eC (.int 0))) (eBin dIx (eVar 0) (eC (.int 1))))))
def m_less : List D → M D := bodyF 2 2 F_less
def F_is_ratio : F1 :=
    (sSeq (sIf (tOrF (tNotF (tT (eIsi "tuple" (eVar 0)))) (tB (eBin dNe (eCall dLen (aCons (eVar 0) aNil)) (eC (.int 2))))) (sRet (eC (.bl false))) sNil)
    (sSeq (sFor (.nm 1) (itSeq (eVar 0)) (sIf (tOrF (tT (eIsi "bool" (eVar 1))) (tNotF (tT (eIsi "int" (eVar 1))))) (sRet (eC (.bl false))) sNil))
    (sRet (eAndV (eBin dGe (eBin dIx (eVar 0) (eC (.int 1))) (eC (.int 1))) (eBin dEq (eCall dGcd (aCons (eBin dIx (eVar 0) (eC (.int 0))) (aCons (eBin dIx (eVar 0) (eC (.int 1))) aNil))) (eC (.int 1)))))))
def m_is_ratio : List D → M D := bodyF 1 2 F_is_ratio
def F_floor_of : F1 :=
    (sRet (eBin dDiv (eBin dIx (eVar 0) (eC (.int 0))) (eBin dIx (eVar 0) (eC (.int 1)))))
def m_floor_of : List D → M D := bodyF 1 1 F_floor_of
def F_ceiling_of : F1 :=
    (sRet (eUn dNeg (eBin dDiv (eUn dNeg (eBin dIx (eVar 0) (eC (.int 0)))) (eBin dIx (eVar 0) (eC (.int 1))))))
def m_ceiling_of : List D → M D := bodyF 1 1 F_ceiling_of
def F_least_turn : F1 :=
    (sSeq (sFor (.nm 1) (itCall dRange2 (aCons (eC (.int 1)) (aCons (eCall dLen (aCons (eVar 0) aNil)) aNil))) (sIf (tAndF (tB (eBin dEq (eBin dMod (eCall dLen (aCons (eVar 0) aNil)) (eVar 1)) (eC (.int 0)))) (tB (eBin dEq (eVar 0) (eBin dMul (eSl (eVar 0) oNone (oSome (eVar 1))) (eBin dDiv (eCall dLen (aCons (eVar 0) aNil)) (eVar 1)))))) (sRet (eSl (eVar 0) oNone (oSome (eVar 1)))) sNil))
    (sRet (eVar 0)))
def m_least_turn : List D → M D := bodyF 1 2 F_least_turn
def F_calendar_of : F1 :=
    (sSeq (sAsg (.nm 1) (eDef m_least_turn (aCons (eVar 1) aNil)))
    (sSeq (sAsg (.nm 2) (eCall dLen (aCons (eVar 0) aNil)))
    (sSeq (whileL 1000 (tAndF (tB (eBin dGt (eVar 2) (eC (.int 0)))) (tB (eBin dEq (eBin dIx (eVar 0) (eBin dSub (eVar 2) (eC (.int 1)))) (eBin dIx (eVar 1) (eBin dMod (eBin dSub (eBin dSub (eVar 2) (eCall dLen (aCons (eVar 0) aNil))) (eC (.int 1))) (eCall dLen (aCons (eVar 1) aNil))))))) (sAsg (.nm 2) (eBin dSub (eVar 2) (eC (.int 1)))))
    (sSeq (sAsg (.nm 3) (eBin dMod (eBin dSub (eVar 2) (eCall dLen (aCons (eVar 0) aNil))) (eCall dLen (aCons (eVar 1) aNil))))
    (sRet (eTup (aCons (eSl (eVar 0) oNone (oSome (eVar 2))) (aCons (eBin dAdd (eSl (eVar 1) (oSome (eVar 3)) oNone) (eSl (eVar 1) oNone (oSome (eVar 3)))) aNil))))))))
def m_calendar_of : List D → M D := bodyF 2 4 F_calendar_of
def F_every : F1 :=
    (sSeq (sAsg (.nm 3) (eCall dTuple (aCons (eLc [4] (.nm 4) (itCall dRange1 (aCons (eVar 1) aNil)) tYesF (eIf (tB (eBin dLt (eVar 4) (eVar 2))) (eC (.int 1)) (eC (.int 0)))) aNil)))
    (sRet (eDef m_calendar_of (aCons (eBin dMul (eTup (aCons (eC (.int 0)) aNil)) (eVar 0)) (aCons (eVar 3) aNil)))))
def m_every : List D → M D := bodyF 3 5 F_every
def F_flag_at : F1 :=
    (sSeq (sAsg (.tp [(.nm 2), (.nm 3)]) (eVar 0))
    (sSeq (sIf (tB (eBin dLt (eVar 1) (eCall dLen (aCons (eVar 2) aNil)))) (sRet (eBin dIx (eVar 2) (eVar 1))) sNil)
    (sRet (eBin dIx (eVar 3) (eBin dMod (eBin dSub (eVar 1) (eCall dLen (aCons (eVar 2) aNil))) (eCall dLen (aCons (eVar 3) aNil)))))))
def m_flag_at : List D → M D := bodyF 2 4 F_flag_at
def F_holds : F1 :=
    (sRet (eBin dEq (eDef m_flag_at (aCons (eVar 0) (aCons (eVar 1) aNil))) (eC (.int 1))))
def m_holds : List D → M D := bodyF 2 2 F_holds
def F_is_row : F1 :=
    (sRet (eAndV (eIsi "tuple" (eVar 0)) (eAndV (eBin dGe (eCall dLen (aCons (eVar 0) aNil)) (eVar 1)) (eOrV (eBin dIs (eVar 2) (eC .non)) (eBin dLe (eCall dLen (aCons (eVar 0) aNil)) (eVar 2))))))
def m_is_row : List D → M D := bodyF 3 3 F_is_row
def F_is_whole : F1 :=
    (sSeq (sIf (tOrF (tT (eIsi "bool" (eVar 0))) (tNotF (tT (eIsi "int" (eVar 0))))) (sRet (eC (.bl false))) sNil)
    (sRet (eAndV (eOrV (eBin dIs (eVar 1) (eC .non)) (eBin dGe (eVar 0) (eVar 1))) (eOrV (eBin dIs (eVar 2) (eC .non)) (eBin dLe (eVar 0) (eVar 2))))))
def m_is_whole : List D → M D := bodyF 3 3 F_is_whole
def F_is_integer : F1 :=
    (sRet (eAndV (eIsi "int" (eVar 0)) (eNotT (eIsi "bool" (eVar 0)))))
def m_is_integer : List D → M D := bodyF 1 1 F_is_integer
def F_is_number : F1 :=
    (sRet (eAndV (eDef m_is_integer (aCons (eVar 0) aNil)) (eAndV (eBin dGe (eVar 0) (eVar 1)) (eOrV (eBin dIs (eVar 2) (eC .non)) (eBin dLe (eVar 0) (eVar 2))))))
def m_is_number : List D → M D := bodyF 3 3 F_is_number
def F_are_flags : F1 :=
    (sRet (eAndV (eIsi "tuple" (eVar 0)) (eCall dAll (aCons (eLc [1] (.nm 1) (itSeq (eVar 0)) tYesF (eDef m_is_number (aCons (eVar 1) (aCons (eC (.int 0)) (aCons (eC (.int 1)) aNil))))) aNil))))
def m_are_flags : List D → M D := bodyF 1 2 F_are_flags
def F_is_calendar : F1 :=
    (sSeq (sIf (tOrF (tNotF (tT (eIsi "tuple" (eVar 0)))) (tB (eBin dNe (eCall dLen (aCons (eVar 0) aNil)) (eC (.int 2))))) (sRet (eC (.bl false))) sNil)
    (sSeq (sAsg (.tp [(.nm 1), (.nm 2)]) (eVar 0))
    (sSeq (sIf (tOrF (tNotF (tT (eDef m_are_flags (aCons (eVar 1) aNil)))) (tOrF (tNotF (tT (eDef m_are_flags (aCons (eVar 2) aNil)))) (tB (eBin dEq (eVar 2) (eTup aNil))))) (sRet (eC (.bl false))) sNil)
    (sRet (eBin dEq (eDef m_calendar_of (aCons (eVar 1) (aCons (eVar 2) aNil))) (eVar 0))))))
def m_is_calendar : List D → M D := bodyF 1 3 F_is_calendar
def F_is_load : F1 :=
    (sRet (eAndV (eDef m_is_row (aCons (eVar 0) (aCons (eC (.int 2)) (aCons (eC (.int 2)) aNil)))) (eAndV (eDef m_is_whole (aCons (eBin dIx (eVar 0) (eC (.int 0))) (aCons (eC (.int 1)) (aCons (eC (.int 999)) aNil)))) (eDef m_is_calendar (aCons (eBin dIx (eVar 0) (eC (.int 1))) aNil)))))
def m_is_load : List D → M D := bodyF 1 1 F_is_load
end Sh

namespace Sh
open PySem L2 Fc
local macro_rules | `(tactic| walk_at "ev") => `(tactic| simp (disch := omega) only [List.map_cons, List.map_nil, List.length_cons, List.length_nil, List.replicate, List.cons_append, List.nil_append,
  sIf, Fc.tB, tT, tAndF, tOrF, tNotF, eBin, eUn, eVar_zero, eVar_succ, eC, pb, asB, asI, liftO_pure, sPar, aCons, aNil, sAsg, eCall, eDef, setT, setTs, sRet, sNil, eTup, eLst, eIf, eIsi, eIsi2, isTy2, eNotT, eAndV, eOrV, eChain, eSl, oNone, oSome, sBk, sCt, itCall, itSeq, dItems,
  dAdd_int, dAdd_tup, dMul_tup, dRange1_ok, dRange2_ok, dSub, dDiv_ok, dMod_ok, dMul_okL, dMul_okR, len_ok, dLt, dLe, dGt, dGe, dEq_int, dNe_int, dNeg, dLen, dAbs, dInt, dGcd, dMax2, dMin2, dTuple, dList, dTru, dIs_non, dIsNot_non, dIs_bl, dIsNot_bl, isNon_int, isNon_bl, isNon_str, isNon_tup, isNon_lst, isNon_non, dEq_bl, dNe_bl, dIx_tup, dIx_lst, at0, at1, at2, dSl,
  isTy_int_non, isTy_int_bl, isTy_int_int, isTy_int_str, isTy_int_tup, isTy_int_lst, isTy_bool_non, isTy_bool_bl, isTy_bool_int, isTy_bool_str, isTy_bool_tup, isTy_bool_lst, isTy_tuple_non, isTy_tuple_bl, isTy_tuple_int, isTy_tuple_str, isTy_tuple_tup, isTy_tuple_lst, isTy_list_non, isTy_list_bl, isTy_list_int, isTy_list_str, isTy_list_tup, isTy_list_lst, isTy_str_non, isTy_str_bl, isTy_str_int, isTy_str_str, isTy_str_tup, isTy_str_lst,
  opt_bind_some, opt_map_some, Bool.or_true, Bool.true_or, Bool.or_false, Bool.false_or, Bool.not_true, Bool.not_false, Bool.and_true, Bool.true_and,
  decide_true, decide_false, if_tt, if_ff, if_T, if_F, set_zero, set_succ, endF_rt, endF_nx, decide_eq_true, decide_eq_false, *])
/-! ### cuts -/
theorem cut_take {α : Type} (l : List α) {k : Int} (h : 0 ≤ k) : cutD l none (some k) = l.take k.toNat := by
  unfold cutD HT.sIx
  dsimp only
  rw [if_neg (by omega), List.drop_zero, Nat.sub_zero]
  by_cases h1 : k.toNat ≤ l.length
  · rw [Nat.min_eq_left h1]
  · rw [Nat.min_eq_right (by omega), List.take_length, List.take_of_length_le (by omega)]
theorem cut_drop {α : Type} (l : List α) {k : Int} (h : 0 ≤ k) : cutD l (some k) none = l.drop k.toNat := by
  unfold cutD HT.sIx
  dsimp only
  rw [if_neg (by omega)]
  by_cases h1 : k.toNat ≤ l.length
  · rw [Nat.min_eq_left h1, List.take_of_length_le (by rw [List.length_drop]; omega)]
  · rw [Nat.min_eq_right (by omega), List.drop_length, List.drop_of_length_le (by omega), List.take_nil]
theorem at_getD (l : List Int) {k : Int} (h0 : 0 ≤ k) (h : k < l.length) : atI (zl l) k = some (.int (l.getD k.toNat 0)) := by
  have e : k = (k.toNat : Int) := by omega
  have hl : k.toNat < l.length := by omega
  have h1 : atI l (k.toNat : Int) = some l[k.toNat] := atI_nat (List.getElem?_eq_getElem hl)
  rw [← e] at h1
  rw [ints_at, h1, List.getD_eq_getElem?_getD, List.getElem?_eq_getElem hl]
  rfl
theorem range_mem {lo : Int} {n : Nat} {d : D} (h : d ∈ rangeD lo n) : ∃ i, i < n ∧ d = .int (lo + (i : Nat)) := by
  unfold rangeD at h
  obtain ⟨i, hi, e⟩ := List.mem_map.mp h
  exact ⟨i, List.mem_range.mp hi, e.symm⟩
theorem find_range (lo : Int) (n : Nat) (p : D → Bool) : (rangeD lo n).find? p = ((List.range n).find? fun i => p (.int (lo + (i : Nat)))).map fun (i : Nat) => D.int (lo + i) := by
  unfold rangeD
  rw [List.find?_map]
  rfl

/-! ### the shortest turn -/
def leP (l : List Int) : D → Bool
  | .int k => Cal.rootAt l k.toNat
  | _ => false
def leR (l : List Int) : D → D
  | .int k => .tup (zl (l.take k.toNat))
  | _ => .non
theorem m_least_turn_eq (l : List Int) (hl : l.length ≤ 1000) : m_least_turn [.tup (zl l)] = pure (.tup (zl (Cal.leastRoot l))) := by
  unfold m_least_turn
  rw [bodyF_1]
  show (F_least_turn [some (.tup (zl l)), none] >>= endF) = _
  unfold F_least_turn
  have hlen : (zl l).length = l.length := ints_len l
  refine q_for (ds := rangeD 1 ((l.length : Int) - 1).toNat) (by walk_at "ev") ?_
  have loop := forL_find (T := .nm 1) (F := sIf (tAndF (Fc.tB (eBin dEq (eBin dMod (eCall dLen (aCons (eVar 0) aNil)) (eVar 1)) (eC (.int 0)))) (Fc.tB (eBin dEq (eVar 0) (eBin dMul (eSl (eVar 0) oNone (oSome (eVar 1))) (eBin dDiv (eCall dLen (aCons (eVar 0) aNil)) (eVar 1)))))) (sRet (eSl (eVar 0) oNone (oSome (eVar 1)))) sNil)
    (fun δ => ∃ x, δ = [some (.tup (zl l)), x]) (leP l) (leR l) (ds := rangeD 1 ((l.length : Int) - 1).toNat) (δ := [some (.tup (zl l)), none]) ⟨none, rfl⟩ fun d hd δ hδ => by
    obtain ⟨x, rfl⟩ := hδ
    obtain ⟨i, hi, rfl⟩ := range_mem hd
    refine ⟨[some (.tup (zl l)), some (.int (1 + i))], [some (.tup (zl l)), some (.int (1 + i))], rfl, ?_⟩
    have k0 : (0 : Int) ≤ 1 + i := by omega
    have tn : ((1 : Int) + i).toNat = i + 1 := by omega
    have fm : ((l.length : Int)).fmod (1 + i) = ((l.length % (i + 1) : Nat) : Int) := by
      rw [fmod_pos (by omega)]
      have : ((1 : Int) + i) = ((i + 1 : Nat) : Int) := by omega
      rw [this, Int.natCast_emod]
    have fd : ((l.length : Int)).fdiv (1 + i) = ((l.length / (i + 1) : Nat) : Int) := by
      rw [fdiv_pos (by omega)]
      have : ((1 : Int) + i) = ((i + 1 : Nat) : Int) := by omega
      rw [this, Int.natCast_ediv]
    show (Cal.rootAt l ((1 : Int) + i).toNat = true ∧ _) ∨ (Cal.rootAt l ((1 : Int) + i).toNat = false ∧ _)
    rw [tn]
    have hq : l.length / (i + 1) ≤ 1000 := Nat.le_trans (Nat.div_le_self _ _) hl
    have ecut : cutD (zl l) none (some (1 + (i : Int))) = zl (l.take (i + 1)) := by rw [ints_cut, cut_take _ k0, tn]
    have emulA : ∀ q : Nat, q ≤ 1000 → dMul (.tup (zl (l.take (i + 1)))) (.int (q : Int)) = some (.tup (zl (List.replicate q (l.take (i + 1))).flatten)) := fun q hq => by
      rw [dMul_tup (by omega) (by omega) (by rw [ints_len, List.length_take]; omega), ints_rep]
      rfl
    have emul := emulA _ hq
    have c0 : (tAndF (Fc.tB (eBin dEq (eBin dMod (eCall dLen (aCons (eVar 0) aNil)) (eVar 1)) (eC (.int 0)))) (Fc.tB (eBin dEq (eVar 0) (eBin dMul (eSl (eVar 0) oNone (oSome (eVar 1))) (eBin dDiv (eCall dLen (aCons (eVar 0) aNil)) (eVar 1)))))) [some (.tup (zl l)), some (.int (1 + i))] = pure (Cal.rootAt l (i + 1)) := by
      unfold Cal.rootAt
      by_cases hm : l.length % (i + 1) = 0
      · have hm' : ((l.length % (i + 1) : Nat) : Int) = 0 := by omega
        walk_at "ev"
        rw [dEq_ints]
        rfl
      · have hm' : ¬ ((l.length % (i + 1) : Nat) : Int) = 0 := by omega
        walk_at "ev"
        rfl
    cases hc : Cal.rootAt l (i + 1) with
    | true =>
      refine .inl ⟨rfl, ?_⟩
      rw [hc] at c0
      rw [sIf_t c0]
      walk_at "ev"
      show _ = pure (Out.rt (D.tup (zl (l.take ((1 : Int) + i).toNat))), _)
      rw [tn]
    | false =>
      refine .inr ⟨rfl, ?_, _, rfl⟩
      rw [hc] at c0
      rw [sIf_f c0]
      rfl
  have hlen1 : ((l.length : Int) - 1).toNat = l.length - 1 := by omega
  have tn : ∀ i : Nat, ((1 : Int) + i).toNat = i + 1 := fun i => by omega
  have hP : (fun (i : Nat) => leP l (.int (1 + (i : Nat)))) = fun i => Cal.rootAt l (i + 1) := by
    funext i
    show Cal.rootAt l ((1 : Int) + i).toNat = _
    rw [tn]
  rw [hlen1] at loop ⊢
  rw [find_range, hP] at loop
  unfold Cal.leastRoot
  rcases loop with ⟨d, δ', h1, h2⟩ | ⟨δ', h1, h2, x, rfl⟩
  · rw [h2, pb]
    cases hf : (List.range (l.length - 1)).find? fun i => Cal.rootAt l (i + 1) with
    | none => rw [hf] at h1; cases h1
    | some i =>
      rw [hf] at h1
      cases h1
      show (pure (D.tup (zl (l.take ((1 : Int) + i).toNat))) : M D) = _
      rw [tn]
  · rw [h2, pb]
    cases hf : (List.range (l.length - 1)).find? fun i => Cal.rootAt l (i + 1) with
    | some i => rw [hf] at h1; cases h1
    | none => rfl

/-! ### the shortest pair -/
theorem vt_at {n : Nat} {t : List Int} {i : Nat} (ht : t ≠ []) : atI (zl t) (((i : Int) - n).fmod t.length) = some (.int (Cal.vt n t i)) := by
  have hp : 0 < (t.length : Int) := by have := List.length_pos_iff.mpr ht; omega
  rw [fmod_pos hp]
  have h1 := Int.emod_nonneg ((i : Int) - n) (by omega : (t.length : Int) ≠ 0)
  have h2 := Int.emod_lt_of_pos ((i : Int) - n) hp
  rw [at_getD t h1 h2]
  rfl
theorem root_ne {t : List Int} (ht : t ≠ []) : Cal.leastRoot t ≠ [] := by
  obtain ⟨L, hr, hL, hLn, _⟩ := Cal.root_spec ht
  rw [hr]
  intro z
  have := congrArg List.length z
  rw [List.length_take] at this
  have h0 : ([] : List Int).length = 0 := rfl
  omega
theorem root_len {t : List Int} : (Cal.leastRoot t).length ≤ t.length := by
  unfold Cal.leastRoot
  split
  · rw [List.length_take]; omega
  · exact Nat.le_refl _
theorem m_calendar_of_eq (h t : List Int) (ht : t ≠ []) (h1 : h.length ≤ 900) (h2 : t.length ≤ 900) : m_calendar_of [.tup (zl h), .tup (zl t)] = pure (calD (Cal.calOf h t).1 (Cal.calOf h t).2) := by
  have hr := root_ne ht
  have hrl := root_len (t := t)
  have hlen : (zl h).length = h.length := ints_len h
  have rlen : (zl (Cal.leastRoot t)).length = (Cal.leastRoot t).length := ints_len _
  have hp : 0 < ((Cal.leastRoot t).length : Int) := by have := List.length_pos_iff.mpr hr; omega
  have hlt := m_least_turn_eq t (by omega)
  unfold m_calendar_of
  rw [bodyF_2]
  show (F_calendar_of [some (.tup (zl h)), some (.tup (zl t)), none, none] >>= endF) = _
  unfold F_calendar_of
  refine q_seq (δ1 := [some (.tup (zl h)), some (.tup (zl (Cal.leastRoot t))), none, none]) (by walk_at "ev") ?_
  refine q_seq (δ1 := [some (.tup (zl h)), some (.tup (zl (Cal.leastRoot t))), some (.int (h.length : Int)), none]) (by walk_at "ev") ?_
  have loop : ∀ k n, k ≤ h.length → k < n → whileL n (tAndF (Fc.tB (eBin dGt (eVar 2) (eC (.int 0)))) (Fc.tB (eBin dEq (eBin dIx (eVar 0) (eBin dSub (eVar 2) (eC (.int 1)))) (eBin dIx (eVar 1) (eBin dMod (eBin dSub (eBin dSub (eVar 2) (eCall dLen (aCons (eVar 0) aNil))) (eC (.int 1))) (eCall dLen (aCons (eVar 1) aNil))))))) (sAsg (.nm 2) (eBin dSub (eVar 2) (eC (.int 1)))) [some (.tup (zl h)), some (.tup (zl (Cal.leastRoot t))), some (.int (k : Int)), none] =
      pure (.nx, [some (.tup (zl h)), some (.tup (zl (Cal.leastRoot t))), some (.int (Cal.trim h (Cal.leastRoot t) k : Int)), none]) := by
    intro k
    induction k with
    | zero =>
      intro n hk hn
      obtain ⟨n, rfl⟩ : ∃ m, n = m + 1 := ⟨n - 1, by omega⟩
      refine whileL_end ?_
      walk_at "ev"
    | succ k ih =>
      intro n hk hn
      obtain ⟨n, rfl⟩ : ∃ m, n = m + 1 := ⟨n - 1, by omega⟩
      have e1 : (((k + 1 : Nat) : Int) - 1) = (k : Int) := by omega
      have e2 : (((k + 1 : Nat) : Int) - (h.length : Int) - 1) = ((k : Int) - h.length) := by omega
      have e3 : atI (zl h) (k : Int) = some (.int (h.getD k 0)) := by
        have := at_getD h (k := (k : Int)) (by omega) (by omega)
        rw [this]
        rfl
      have e4 := vt_at (n := h.length) (i := k) hr
      unfold Cal.trim
      by_cases hc : h.getD k 0 = Cal.vt h.length (Cal.leastRoot t) k
      · rw [if_pos hc, ← ih n (by omega) (by omega)]
        refine whileL_step ?_ ?_
        · walk_at "ev"
        · walk_at "ev"
      · rw [if_neg hc]
        refine whileL_end ?_
        walk_at "ev"
  refine q_seq (loop h.length 1000 (Nat.le_refl _) (by omega)) ?_
  have hN := Cal.trim_le h (Cal.leastRoot t) h.length
  generalize hNN : Cal.trim h (Cal.leastRoot t) h.length = N at hN ⊢
  refine q_seq (δ1 := [some (.tup (zl h)), some (.tup (zl (Cal.leastRoot t))), some (.int (N : Int)), some (.int (((N : Int) - h.length) % (Cal.leastRoot t).length))]) (by
    have e := fmod_pos (a := (N : Int) - h.length) hp
    walk_at "ev") ?_
  have m0 := Int.emod_nonneg ((N : Int) - h.length) (by omega : ((Cal.leastRoot t).length : Int) ≠ 0)
  have m1 := Int.emod_lt_of_pos ((N : Int) - h.length) hp
  have c1 : cutD (zl h) none (some (N : Int)) = zl (h.take N) := by
    rw [ints_cut, cut_take _ (by omega)]
    rfl
  have c2 : cutD (zl (Cal.leastRoot t)) (some (((N : Int) - h.length) % (Cal.leastRoot t).length)) none = zl ((Cal.leastRoot t).drop (((N : Int) - h.length) % (Cal.leastRoot t).length).toNat) := by rw [ints_cut, cut_drop _ m0]
  have c3 : cutD (zl (Cal.leastRoot t)) none (some (((N : Int) - h.length) % (Cal.leastRoot t).length)) = zl ((Cal.leastRoot t).take (((N : Int) - h.length) % (Cal.leastRoot t).length).toNat) := by rw [ints_cut, cut_take _ m0]
  have l2 : (zl ((Cal.leastRoot t).drop (((N : Int) - h.length) % (Cal.leastRoot t).length).toNat)).length + (zl ((Cal.leastRoot t).take (((N : Int) - h.length) % (Cal.leastRoot t).length).toNat)).length ≤ 100000 := by
    rw [ints_len, ints_len, List.length_drop, List.length_take]
    omega
  refine q_end (d := calD (h.take N) ((Cal.leastRoot t).drop (((N : Int) - h.length) % (Cal.leastRoot t).length).toNat ++ (Cal.leastRoot t).take (((N : Int) - h.length) % (Cal.leastRoot t).length).toNat)) (by
    have e5 := dAdd_tup l2
    rw [ints_app] at e5
    walk_at "ev"
    rfl) ?_
  rw [endF_rt]
  unfold Cal.calOf
  dsimp only
  rw [hNN]

/-! ### flags, and what is in a calendar -/
theorem m_flag_at_eq (h t : List Int) (k : Int) (ht : t ≠ []) (h0 : 0 ≤ k) : m_flag_at [calD h t, .int k] = pure (.int (Cal.val h t k.toNat)) := by
  have hlen : (zl h).length = h.length := ints_len h
  have tlen : (zl t).length = t.length := ints_len t
  have hp : 0 < (t.length : Int) := by have := List.length_pos_iff.mpr ht; omega
  unfold m_flag_at
  rw [bodyF_2]
  show (F_flag_at [some (.tup [.tup (zl h), .tup (zl t)]), some (.int k), none, none] >>= endF) = _
  unfold F_flag_at
  refine q_seq (δ1 := [some (.tup [.tup (zl h), .tup (zl t)]), some (.int k), some (.tup (zl h)), some (.tup (zl t))]) (by walk_at "ev") ?_
  by_cases hk : k < h.length
  · have e := at_getD h h0 hk
    refine q_ret (d := .int (h.getD k.toNat 0)) (by walk_at "ev"; rfl) ?_
    rw [endF_rt]
    unfold Cal.val
    rw [if_pos (by omega)]
  · refine q_seq (δ1 := [some (.tup [.tup (zl h), .tup (zl t)]), some (.int k), some (.tup (zl h)), some (.tup (zl t))]) (by walk_at "ev") ?_
    have e2 : (k - (h.length : Int)).fmod t.length = (((k.toNat - h.length) % t.length : Nat) : Int) := by
      rw [fmod_pos hp]
      have : k - (h.length : Int) = ((k.toNat - h.length : Nat) : Int) := by omega
      rw [this, Int.natCast_emod]
    have hm : (k.toNat - h.length) % t.length < t.length := Nat.mod_lt _ (by omega)
    generalize hq : (k.toNat - h.length) % t.length = q at e2 hm
    have e3 := at_getD t (k := (q : Int)) (by omega) (by omega)
    refine q_end (d := .int (t.getD q 0)) (by walk_at "ev"; rfl) ?_
    rw [endF_rt]
    unfold Cal.val
    rw [if_neg (by omega), hq]
theorem m_holds_eq (h t : List Int) (k : Int) (ht : t ≠ []) (h0 : 0 ≤ k) : m_holds [calD h t, .int k] = pure (.bl (decide (Cal.val h t k.toNat = 1))) := by
  have e := m_flag_at_eq h t k ht h0
  unfold m_holds
  rw [bodyF_2]
  show (F_holds [some (calD h t), some (.int k)] >>= endF) = _
  unfold F_holds
  refine q_end (d := .bl (decide (Cal.val h t k.toNat = 1))) (by walk_at "ev" <;> rfl) ?_
  rw [endF_rt]
/-- the turn of every so many times -/
def evT (period long : Int) : List Int := (List.range period.toNat).map fun (i : Nat) => if (i : Int) < long then (1 : Int) else 0
theorem zl_rep (n : Nat) (x : Int) : List.replicate n (D.int x) = zl (List.replicate n x) := by
  unfold zl
  rw [List.map_replicate]
theorem m_every_eq (first period long : Int) (h1 : 0 ≤ first ∧ first ≤ 200) (h2 : 1 ≤ period ∧ period ≤ 60) : m_every [.int first, .int period, .int long] = pure (calD (Cal.calOf (List.replicate first.toNat 0) (evT period long)).1 (Cal.calOf (List.replicate first.toNat 0) (evT period long)).2) := by
  unfold m_every
  rw [bodyF_3]
  show (F_every [some (.int first), some (.int period), some (.int long), none, none] >>= endF) = _
  unfold F_every
  have comp : lcL (.nm 4) tYesF (eIf (Fc.tB (eBin dLt (eVar 4) (eVar 2))) (eC (.int 1)) (eC (.int 0))) [some (.int first), some (.int period), some (.int long), none, none] (rangeD 0 period.toNat) = pure (zl (evT period long)) := by
    rw [lcL_map (fun d => match d with | .int i => .int (if i < long then 1 else 0) | _ => .non) fun d hd => ?_]
    · refine pure_inj ?_
      unfold rangeD evT zl
      rw [List.map_map, List.map_map]
      refine List.map_congr_left fun i _ => ?_
      show D.int (if (0 : Int) + i < long then 1 else 0) = D.int (if (i : Int) < long then 1 else 0)
      rw [Int.zero_add]
    · obtain ⟨i, hi, rfl⟩ := range_mem hd
      refine ⟨[some (.int first), some (.int period), some (.int long), none, some (.int (0 + i))], rfl, ?_⟩
      show _ = pure (D.int (if (0 : Int) + i < long then 1 else 0))
      by_cases hc : (0 : Int) + i < long
      · rw [if_pos hc]
        walk_at "ev"
      · rw [if_neg hc]
        walk_at "ev"
  have hl : (rangeD 0 period.toNat).length = period.toNat := rangeD_len _ _
  have e0 : eLc [4] (.nm 4) (itCall dRange1 (aCons (eVar 1) aNil)) tYesF (eIf (Fc.tB (eBin dLt (eVar 4) (eVar 2))) (eC (.int 1)) (eC (.int 0))) [some (.int first), some (.int period), some (.int long), none, none] = pure (.lst (zl (evT period long))) := eLc_eq (ds := rangeD 0 period.toNat) (by walk_at "ev") (by omega) comp
  refine q_seq (δ1 := [some (.int first), some (.int period), some (.int long), some (.tup (zl (evT period long))), none]) (by
    walk_at "ev") ?_
  have el : (evT period long).length = period.toNat := by unfold evT; rw [List.length_map, List.length_range]
  have ene : evT period long ≠ [] := by
    intro z
    rw [z] at el
    have h0 : ([] : List Int).length = 0 := rfl
    omega
  have e1 : dMul (.tup [.int 0]) (.int first) = some (.tup (zl (List.replicate first.toNat 0))) := by
    rw [dMul_tup (by omega) (by omega) (by simp)]
    have : (List.replicate first.toNat [D.int 0]).flatten = zl (List.replicate first.toNat 0) := by
      have e := ints_rep [0] first.toNat
      have e9 : (List.replicate first.toNat [(0 : Int)]).flatten = List.replicate first.toNat 0 := by simp
      rw [← e9, ← e]
      rfl
    rw [this]
  have e2 := m_calendar_of_eq (List.replicate first.toNat 0) (evT period long) ene (by rw [List.length_replicate]; omega) (by rw [el]; omega)
  refine q_end (d := calD (Cal.calOf (List.replicate first.toNat 0) (evT period long)).1 (Cal.calOf (List.replicate first.toNat 0) (evT period long)).2) (by walk_at "ev" <;> rfl) ?_
  rw [endF_rt]
/-! ### shapes -/
theorem m_is_number_eq (k a b : Int) : m_is_number [.int k, .int a, .int b] = pure (.bl (decide (a ≤ k ∧ k ≤ b))) := by
  have e : m_is_integer [.int k] = pure (.bl true) := rfl
  unfold m_is_number
  rw [bodyF_3]
  show (F_is_number [some (.int k), some (.int a), some (.int b)] >>= endF) = _
  unfold F_is_number
  by_cases h1 : a ≤ k
  · by_cases h2 : k ≤ b
    · refine q_end (d := .bl true) (by walk_at "ev" <;> rfl) ?_
      rw [endF_rt, decide_eq_true (show a ≤ k ∧ k ≤ b from ⟨h1, h2⟩)]
    · refine q_end (d := .bl false) (by walk_at "ev" <;> rfl) ?_
      rw [endF_rt, decide_eq_false (show ¬ (a ≤ k ∧ k ≤ b) from fun z => h2 z.2)]
  · refine q_end (d := .bl false) (by walk_at "ev" <;> rfl) ?_
    rw [endF_rt, decide_eq_false (show ¬ (a ≤ k ∧ k ≤ b) from fun z => h1 z.1)]
theorem m_are_flags_eq (l : List Int) (hl : l.length ≤ 100000) : m_are_flags [.tup (zl l)] = pure (.bl (l.all fun k => decide (0 ≤ k ∧ k ≤ 1))) := by
  unfold m_are_flags
  rw [bodyF_1]
  show (F_are_flags [some (.tup (zl l)), none] >>= endF) = _
  unfold F_are_flags
  have comp : lcL (.nm 1) tYesF (eDef m_is_number (aCons (eVar 1) (aCons (eC (.int 0)) (aCons (eC (.int 1)) aNil)))) [some (.tup (zl l)), none] (zl l) = pure (l.map fun k => .bl (decide (0 ≤ k ∧ k ≤ 1))) := by
    rw [lcL_map (fun d => match d with | .int k => .bl (decide (0 ≤ k ∧ k ≤ 1)) | _ => .non) fun d hd => ?_]
    · refine pure_inj ?_
      unfold zl
      rw [List.map_map]
      rfl
    · obtain ⟨k, _, rfl⟩ := List.mem_map.mp hd
      refine ⟨[some (.tup (zl l)), some (.int k)], rfl, ?_⟩
      have e := m_is_number_eq k 0 1
      walk_at "ev"
  have hlen : (zl l).length = l.length := ints_len l
  have e0 : eLc [1] (.nm 1) (itSeq (eVar 0)) tYesF (eDef m_is_number (aCons (eVar 1) (aCons (eC (.int 0)) (aCons (eC (.int 1)) aNil)))) [some (.tup (zl l)), none] = pure (.lst (l.map fun k => .bl (decide (0 ≤ k ∧ k ≤ 1)))) := eLc_eq (ds := zl l) (by walk_at "ev") (by omega) comp
  have e1 : dAll [.lst (l.map fun k => .bl (decide (0 ≤ k ∧ k ≤ 1)))] = some (.bl (l.all fun k => decide (0 ≤ k ∧ k ≤ 1))) := dAll_map (fun k => decide (0 ≤ k ∧ k ≤ 1)) l
  refine q_end (d := .bl (l.all fun k => decide (0 ≤ k ∧ k ≤ 1))) (by walk_at "ev" <;> rfl) ?_
  rw [endF_rt]
theorem m_is_calendar_eq (h t : List Int) (ht : t ≠ []) (h1 : h.length ≤ 900) (h2 : t.length ≤ 900) (f1 : (h.all fun k => decide (0 ≤ k ∧ k ≤ 1)) = true) (f2 : (t.all fun k => decide (0 ≤ k ∧ k ≤ 1)) = true) : m_is_calendar [calD h t] = pure (.bl (decide ((Cal.calOf h t).1 = h ∧ (Cal.calOf h t).2 = t))) := by
  have e1 := m_are_flags_eq h (by omega)
  have e2 := m_are_flags_eq t (by omega)
  rw [f1] at e1
  rw [f2] at e2
  have e3 := m_calendar_of_eq h t ht h1 h2
  have e4 : dEq (.tup (zl t)) (.tup []) = some (.bl false) := by
    have := dEq_ints t []
    rw [decide_eq_false ht] at this
    exact this
  have e5 := dEq_cal (Cal.calOf h t).1 (Cal.calOf h t).2 h t
  unfold m_is_calendar
  rw [bodyF_1]
  show (F_is_calendar [some (.tup [.tup (zl h), .tup (zl t)]), none, none] >>= endF) = _
  unfold F_is_calendar
  unfold calD at e3
  refine q_seq (δ1 := [some (.tup [.tup (zl h), .tup (zl t)]), none, none]) (by walk_at "ev") ?_
  refine q_seq (δ1 := [some (.tup [.tup (zl h), .tup (zl t)]), some (.tup (zl h)), some (.tup (zl t))]) (by walk_at "ev") ?_
  refine q_seq (δ1 := [some (.tup [.tup (zl h), .tup (zl t)]), some (.tup (zl h)), some (.tup (zl t))]) (by walk_at "ev") ?_
  refine q_end (d := .bl (decide ((Cal.calOf h t).1 = h ∧ (Cal.calOf h t).2 = t))) (by walk_at "ev" <;> rfl) ?_
  rw [endF_rt]

/-! ### the same data -/
def okD : Nat → D → Bool
  | _, .non => true
  | _, .bl _ => true
  | _, .int _ => true
  | _, .str s => (D.str s).sh
  | n + 1, .tup l => decide (l.length ≤ 100000) && l.all (okD n)
  | n + 1, .lst l => decide (l.length ≤ 100000) && l.all (okD n)
  | _, _ => false
theorem same_refl : ∀ (n : Nat) (d : D), okD n d = true → r__law_same (n + 1) [d, d] = pure (.bl true)
  | n, .non, _ => rfl
  | n, .bl b, _ => by cases b <;> rfl
  | n, .int i, _ => by
    show (F__law_same (r__law_same n) [some (.int i), some (.int i), none] >>= endF) = _
    unfold F__law_same
    refine q_seq (δ1 := [some (.int i), some (.int i), none]) (by walk_at "ev" <;> rfl) ?_
    refine q_seq (δ1 := [some (.int i), some (.int i), none]) (by walk_at "ev" <;> rfl) ?_
    refine q_seq (δ1 := [some (.int i), some (.int i), none]) (by walk_at "ev" <;> rfl) ?_
    refine q_seq (δ1 := [some (.int i), some (.int i), none]) (by walk_at "ev" <;> rfl) ?_
    refine q_end (d := .bl true) (by walk_at "ev" <;> rfl) ?_
    rfl
  | n, .str i, h => by
    have h' : (D.str i).sh = true := by cases n <;> exact h
    have e : dEq (.str i) (.str i) = some (.bl true) := by
      unfold dEq
      rw [if_pos ⟨h', h'⟩]
      show some (D.bl (i == i)) = _
      rw [beq_self_eq_true]
    show (F__law_same (r__law_same n) [some (.str i), some (.str i), none] >>= endF) = _
    unfold F__law_same
    refine q_seq (δ1 := [some (.str i), some (.str i), none]) (by walk_at "ev" <;> rfl) ?_
    refine q_seq (δ1 := [some (.str i), some (.str i), none]) (by walk_at "ev" <;> rfl) ?_
    refine q_seq (δ1 := [some (.str i), some (.str i), none]) (by walk_at "ev" <;> rfl) ?_
    refine q_ret (d := .bl true) (by walk_at "ev" <;> rfl) ?_
    rfl
  | 0, .tup l, h => by cases h
  | 0, .lst l, h => by cases h
  | n, .fn _, h => by cases n <;> cases h
  | n, .drw, h => by cases n <;> cases h
  | n + 1, .tup l, h => by
    have h' : (decide (l.length ≤ 100000) && l.all (okD n)) = true := h
    rw [Bool.and_eq_true, decide_eq_true_eq, List.all_eq_true] at h'
    obtain ⟨hl, ha⟩ := h'
    have comp : lcL (.nm 2) tYesF (eDef (r__law_same (n + 1)) (aCons (eBin dIx (eVar 0) (eVar 2)) (aCons (eBin dIx (eVar 1) (eVar 2)) aNil))) [some (.tup l), some (.tup l), none] (rangeD 0 l.length) = pure ((rangeD 0 l.length).map fun _ => .bl true) := by
      refine lcL_map (fun _ => .bl true) fun d hd => ?_
      obtain ⟨i, hi, rfl⟩ := range_mem hd
      refine ⟨[some (.tup l), some (.tup l), some (.int (0 + i))], rfl, ?_⟩
      have e : atI l ((0 : Int) + i) = some l[i] := by
        rw [Int.zero_add]
        exact atI_nat (List.getElem?_eq_getElem hi)
      have ih := same_refl n l[i] (ha _ (List.getElem_mem hi))
      walk_at "ev"
    have e0 : eLc [2] (.nm 2) (itCall dRange1 (aCons (eCall dLen (aCons (eVar 1) aNil)) aNil)) tYesF (eDef (r__law_same (n + 1)) (aCons (eBin dIx (eVar 0) (eVar 2)) (aCons (eBin dIx (eVar 1) (eVar 2)) aNil))) [some (.tup l), some (.tup l), none] = pure (.lst ((rangeD 0 l.length).map fun _ => .bl true)) :=
      eLc_eq (ds := rangeD 0 l.length) (by walk_at "ev" <;> rfl) (by rw [rangeD_len]; exact hl) comp
    have e1 : dAll [.lst ((rangeD 0 l.length).map fun _ => .bl true)] = some (.bl true) := by
      have := dAll_map (fun _ => true) (rangeD 0 l.length)
      rw [all_true] at this
      exact this
    show (F__law_same (r__law_same (n + 1)) [some (.tup l), some (.tup l), none] >>= endF) = _
    unfold F__law_same
    refine q_ret (d := .bl true) (δ1 := [some (.tup l), some (.tup l), none]) ?_ rfl
    rw [sIf_t (by walk_at "ev" <;> rfl)]
    rw [sSeq_nx (δ1 := [some (.tup l), some (.tup l), none]) (by walk_at "ev" <;> rfl)]
    rw [sSeq_nx (δ1 := [some (.tup l), some (.tup l), none]) (by walk_at "ev" <;> rfl)]
    walk_at "ev"
  | n + 1, .lst l, h => by
    have h' : (decide (l.length ≤ 100000) && l.all (okD n)) = true := h
    rw [Bool.and_eq_true, decide_eq_true_eq, List.all_eq_true] at h'
    obtain ⟨hl, ha⟩ := h'
    have comp : lcL (.nm 2) tYesF (eDef (r__law_same (n + 1)) (aCons (eBin dIx (eVar 0) (eVar 2)) (aCons (eBin dIx (eVar 1) (eVar 2)) aNil))) [some (.lst l), some (.lst l), none] (rangeD 0 l.length) = pure ((rangeD 0 l.length).map fun _ => .bl true) := by
      refine lcL_map (fun _ => .bl true) fun d hd => ?_
      obtain ⟨i, hi, rfl⟩ := range_mem hd
      refine ⟨[some (.lst l), some (.lst l), some (.int (0 + i))], rfl, ?_⟩
      have e : atI l ((0 : Int) + i) = some l[i] := by
        rw [Int.zero_add]
        exact atI_nat (List.getElem?_eq_getElem hi)
      have ih := same_refl n l[i] (ha _ (List.getElem_mem hi))
      walk_at "ev"
    have e0 : eLc [2] (.nm 2) (itCall dRange1 (aCons (eCall dLen (aCons (eVar 1) aNil)) aNil)) tYesF (eDef (r__law_same (n + 1)) (aCons (eBin dIx (eVar 0) (eVar 2)) (aCons (eBin dIx (eVar 1) (eVar 2)) aNil))) [some (.lst l), some (.lst l), none] = pure (.lst ((rangeD 0 l.length).map fun _ => .bl true)) :=
      eLc_eq (ds := rangeD 0 l.length) (by walk_at "ev" <;> rfl) (by rw [rangeD_len]; exact hl) comp
    have e1 : dAll [.lst ((rangeD 0 l.length).map fun _ => .bl true)] = some (.bl true) := by
      have := dAll_map (fun _ => true) (rangeD 0 l.length)
      rw [all_true] at this
      exact this
    show (F__law_same (r__law_same (n + 1)) [some (.lst l), some (.lst l), none] >>= endF) = _
    unfold F__law_same
    refine q_ret (d := .bl true) (δ1 := [some (.lst l), some (.lst l), none]) ?_ rfl
    rw [sIf_t (by walk_at "ev" <;> rfl)]
    rw [sSeq_nx (δ1 := [some (.lst l), some (.lst l), none]) (by walk_at "ev" <;> rfl)]
    rw [sSeq_nx (δ1 := [some (.lst l), some (.lst l), none]) (by walk_at "ev" <;> rfl)]
    walk_at "ev"
theorem m_law_same_refl (d : D) (h : okD 29 d = true) : m__law_same [d, d] = pure (.bl true) := same_refl 29 d h
/-! ### rows, numbers, loads -/
theorem m_is_row_tup (l : List D) (a b : Int) : m_is_row [.tup l, .int a, .int b] = pure (.bl (decide (a ≤ l.length ∧ (l.length : Int) ≤ b))) := by
  unfold m_is_row
  rw [bodyF_3]
  show (F_is_row [some (.tup l), some (.int a), some (.int b)] >>= endF) = _
  unfold F_is_row
  by_cases h1 : a ≤ l.length
  · by_cases h2 : (l.length : Int) ≤ b
    · refine q_end (d := .bl true) (by walk_at "ev" <;> rfl) ?_
      rw [endF_rt, decide_eq_true (show a ≤ l.length ∧ (l.length : Int) ≤ b from ⟨h1, h2⟩)]
    · refine q_end (d := .bl false) (by walk_at "ev" <;> rfl) ?_
      rw [endF_rt, decide_eq_false (show ¬ (a ≤ l.length ∧ (l.length : Int) ≤ b) from fun z => h2 z.2)]
  · refine q_end (d := .bl false) (by walk_at "ev" <;> rfl) ?_
    rw [endF_rt, decide_eq_false (show ¬ (a ≤ l.length ∧ (l.length : Int) ≤ b) from fun z => h1 z.1)]
theorem m_is_whole_int (k a b : Int) : m_is_whole [.int k, .int a, .int b] = pure (.bl (decide (a ≤ k ∧ k ≤ b))) := by
  unfold m_is_whole
  rw [bodyF_3]
  show (F_is_whole [some (.int k), some (.int a), some (.int b)] >>= endF) = _
  unfold F_is_whole
  refine q_seq (δ1 := [some (.int k), some (.int a), some (.int b)]) (by walk_at "ev" <;> rfl) ?_
  by_cases h1 : a ≤ k
  · by_cases h2 : k ≤ b
    · refine q_end (d := .bl true) (by walk_at "ev" <;> rfl) ?_
      rw [endF_rt, decide_eq_true (show a ≤ k ∧ k ≤ b from ⟨h1, h2⟩)]
    · refine q_end (d := .bl false) (by walk_at "ev" <;> rfl) ?_
      rw [endF_rt, decide_eq_false (show ¬ (a ≤ k ∧ k ≤ b) from fun z => h2 z.2)]
  · refine q_end (d := .bl false) (by walk_at "ev" <;> rfl) ?_
    rw [endF_rt, decide_eq_false (show ¬ (a ≤ k ∧ k ≤ b) from fun z => h1 z.1)]
end Sh

/-! Fractions: what ratio, add .. compute. -/
namespace Sh
open PySem L2 Fc
local macro_rules | `(tactic| walk_at "ev") => `(tactic| simp (disch := omega) only [List.map_cons, List.map_nil, List.length_cons, List.length_nil, List.replicate, List.cons_append, List.nil_append,
  sIf, Fc.tB, tT, tAndF, tOrF, tNotF, eBin, eUn, eVar_zero, eVar_succ, eC, pb, asB, asI, liftO_pure, sPar, aCons, aNil, sAsg, eCall, eDef, setT, setTs, sRet, sNil, eTup, eLst, eIf, eIsi, eIsi2, isTy2, eNotT, eAndV, eOrV, eChain, eSl, oNone, oSome, sBk, sCt, itCall, itSeq, dItems,
  dAdd_int, dAdd_tup, dMul_tup, dRange1_ok, dRange2_ok, dSub, dDiv_ok, dMod_ok, dMul_okL, dMul_okR, len_ok, dLt, dLe, dGt, dGe, dEq_int, dNe_int, dNeg, dLen, dAbs, dInt, dGcd, dMax2, dMin2, dTuple, dList, dTru, dIs_non, dIsNot_non, dIs_bl, dIsNot_bl, isNon_int, isNon_bl, isNon_str, isNon_tup, isNon_lst, isNon_non, dEq_bl, dNe_bl, dIx_tup, dIx_lst, at0, at1, at2, dSl,
  isTy_int_non, isTy_int_bl, isTy_int_int, isTy_int_str, isTy_int_tup, isTy_int_lst, isTy_bool_non, isTy_bool_bl, isTy_bool_int, isTy_bool_str, isTy_bool_tup, isTy_bool_lst, isTy_tuple_non, isTy_tuple_bl, isTy_tuple_int, isTy_tuple_str, isTy_tuple_tup, isTy_tuple_lst, isTy_list_non, isTy_list_bl, isTy_list_int, isTy_list_str, isTy_list_tup, isTy_list_lst, isTy_str_non, isTy_str_bl, isTy_str_int, isTy_str_str, isTy_str_tup, isTy_str_lst,
  opt_bind_some, opt_map_some, Bool.or_true, Bool.true_or, Bool.or_false, Bool.false_or, Bool.not_true, Bool.not_false, Bool.and_true, Bool.true_and,
  decide_true, decide_false, if_tt, if_ff, if_T, if_F, set_zero, set_succ, endF_rt, endF_nx, decide_eq_true, decide_eq_false, *])
def rg (a b : Int) : Nat := Nat.gcd a.natAbs b.natAbs
def rn (a b : Int) : Int := (if b < 0 then -a else a) / (rg a b : Nat)
def rd (a b : Int) : Int := (if b < 0 then -b else b) / (rg a b : Nat)
section
variable {a b : Int} (hb : b ≠ 0)
include hb
theorem rg_pos : 0 < rg a b := Nat.gcd_pos_of_pos_right _ (by omega)
/-- a and b by their greatest common divisor -/
theorem rat_split : ∃ x y : Int, (if b < 0 then -a else a) = rg a b * x ∧ (if b < 0 then -b else b) = rg a b * y ∧ rn a b = x ∧ rd a b = y ∧ 0 < y ∧ Nat.gcd x.natAbs y.natAbs = 1 := by
  have hg := rg_pos (a := a) hb
  have d1 : ((rg a b : Nat) : Int) ∣ (if b < 0 then -a else a) := by
    rw [Int.ofNat_dvd_left]
    have : (if b < 0 then -a else a).natAbs = a.natAbs := by split <;> simp
    rw [this]
    exact Nat.gcd_dvd_left _ _
  have d2 : ((rg a b : Nat) : Int) ∣ (if b < 0 then -b else b) := by
    rw [Int.ofNat_dvd_left]
    have : (if b < 0 then -b else b).natAbs = b.natAbs := by split <;> simp
    rw [this]
    exact Nat.gcd_dvd_right _ _
  obtain ⟨x, hx⟩ := d1
  obtain ⟨y, hy⟩ := d2
  have hgi : ((rg a b : Nat) : Int) ≠ 0 := by omega
  have ex : rn a b = x := by unfold rn; rw [hx, Int.mul_ediv_cancel_left _ hgi]
  have ey : rd a b = y := by unfold rd; rw [hy, Int.mul_ediv_cancel_left _ hgi]
  have hy0 : 0 < y := by
    have h1 : 0 < (if b < 0 then -b else b) := by split <;> omega
    rw [hy] at h1
    exact Int.pos_of_mul_pos_right h1 (by omega)
  refine ⟨x, y, hx, hy, ex, ey, hy0, ?_⟩
  have n1 : a.natAbs = rg a b * x.natAbs := by
    have : (if b < 0 then -a else a).natAbs = a.natAbs := by split <;> simp
    rw [← this, hx, Int.natAbs_mul]
    rfl
  have n2 : b.natAbs = rg a b * y.natAbs := by
    have : (if b < 0 then -b else b).natAbs = b.natAbs := by split <;> simp
    rw [← this, hy, Int.natAbs_mul]
    rfl
  have e : rg a b * Nat.gcd x.natAbs y.natAbs = rg a b * 1 := by
    rw [← Nat.gcd_mul_left, ← n1, ← n2, Nat.mul_one]
    rfl
  exact Nat.eq_of_mul_eq_mul_left hg e
theorem rd_pos : 0 < rd a b := by
  obtain ⟨x, y, _, _, _, e, h, _⟩ := rat_split (a := a) hb
  rw [e]; exact h
theorem rat_cross : rn a b * b = a * rd a b := by
  obtain ⟨x, y, h1, h2, e1, e2, _, _⟩ := rat_split (a := a) hb
  rw [e1, e2]
  by_cases h : b < 0
  · rw [if_pos h] at h1 h2
    have ea : a = -(rg a b * x) := by omega
    have eb : b = -(rg a b * y) := by omega
    generalize rg a b = g at ea eb
    rw [ea, eb, Int.mul_neg, Int.neg_mul, Int.mul_left_comm, Int.mul_assoc]
  · rw [if_neg h] at h1 h2
    generalize rg a b = g at h1 h2
    rw [h1, h2, Int.mul_left_comm, Int.mul_assoc]
theorem rat_cop : Nat.gcd (rn a b).natAbs (rd a b).natAbs = 1 := by
  obtain ⟨x, y, _, _, e1, e2, _, h⟩ := rat_split (a := a) hb
  rw [e1, e2]; exact h
theorem rn_le : (rn a b).natAbs ≤ a.natAbs := by
  obtain ⟨x, y, h1, _, e1, _, _, _⟩ := rat_split (a := a) hb
  have hg := rg_pos (a := a) hb
  have : (if b < 0 then -a else a).natAbs = a.natAbs := by split <;> simp
  rw [e1, ← this, h1, Int.natAbs_mul]
  exact Nat.le_mul_of_pos_left _ (by omega)
theorem rd_le : (rd a b).natAbs ≤ b.natAbs := by
  obtain ⟨x, y, _, h1, _, e1, _, _⟩ := rat_split (a := a) hb
  have hg := rg_pos (a := a) hb
  have : (if b < 0 then -b else b).natAbs = b.natAbs := by split <;> simp
  rw [e1, ← this, h1, Int.natAbs_mul]
  exact Nat.le_mul_of_pos_left _ (by omega)
end
theorem mul_bd {x y : Int} {p q : Nat} (h1 : x.natAbs ≤ p) (h2 : y.natAbs ≤ q) : (x * y).natAbs ≤ p * q := by
  rw [Int.natAbs_mul]
  exact Nat.mul_le_mul h1 h2
/-- the fraction a / b as data -/
def ratD (a b : Int) : D := .tup [.int (rn a b), .int (rd a b)]
theorem m_ratio_eq (a b : Int) (hb : b ≠ 0) (hs : b.natAbs < 1073741824) : m_ratio [.int a, .int b] = pure (ratD a b) := by
  have hg := rg_pos (a := a) hb
  have hgi : (0 : Int) < (rg a b : Nat) := by omega
  have hl : rg a b ≤ b.natAbs := Nat.le_of_dvd (by omega) (Nat.gcd_dvd_right _ _)
  unfold m_ratio
  rw [bodyF_2]
  show (F_ratio [some (.int a), some (.int b), none] >>= endF) = _
  unfold F_ratio ratD rn rd
  have e0 : Nat.gcd a.natAbs b.natAbs = rg a b := rfl
  by_cases h : b < 0
  · have e1 : (-a).natAbs = a.natAbs := Int.natAbs_neg a
    have e2 : (-b).natAbs = b.natAbs := Int.natAbs_neg b
    refine q_seq (by walk_at "ev" <;> rfl) ?_
    refine q_seq (by walk_at "ev" <;> rfl) ?_
    refine q_end (by walk_at "ev" <;> rfl) ?_
    rw [endF_rt, if_pos h, if_pos h, fdiv_pos hgi, fdiv_pos hgi]
  · refine q_seq (by walk_at "ev" <;> rfl) ?_
    refine q_seq (by walk_at "ev" <;> rfl) ?_
    refine q_end (by walk_at "ev" <;> rfl) ?_
    rw [endF_rt, if_neg h, if_neg h, fdiv_pos hgi, fdiv_pos hgi]
/-- a fraction, its parts of less than 31 bits -/
structure Sm (a b : Int) : Prop where
  a1 : -1000000000 < a
  a2 : a < 1000000000
  b1 : -1000000000 < b
  b2 : b < 1000000000
theorem m_add_eq (a b c d : Int) (h1 : Sm a b) (h2 : Sm c d) (hb : b * d ≠ 0) (hs : (b * d).natAbs < 1073741824) : m_add [.tup [.int a, .int b], .tup [.int c, .int d]] = pure (ratD (a * d + c * b) (b * d)) := by
  obtain ⟨x1, x2, x3, x4⟩ := h1
  obtain ⟨y1, y2, y3, y4⟩ := h2
  have e := m_ratio_eq (a * d + c * b) (b * d) hb hs
  unfold m_add
  rw [bodyF_2]
  show (F_add [some (.tup [.int a, .int b]), some (.tup [.int c, .int d])] >>= endF) = _
  unfold F_add
  refine q_end (d := ratD (a * d + c * b) (b * d)) (by walk_at "ev" <;> rfl) ?_
  rw [endF_rt]
theorem m_subtract_eq (a b c d : Int) (h1 : Sm a b) (h2 : Sm c d) (hb : b * d ≠ 0) (hs : (b * d).natAbs < 1073741824) : m_subtract [.tup [.int a, .int b], .tup [.int c, .int d]] = pure (ratD (a * d - c * b) (b * d)) := by
  obtain ⟨x1, x2, x3, x4⟩ := h1
  obtain ⟨y1, y2, y3, y4⟩ := h2
  have e := m_ratio_eq (a * d - c * b) (b * d) hb hs
  unfold m_subtract
  rw [bodyF_2]
  show (F_subtract [some (.tup [.int a, .int b]), some (.tup [.int c, .int d])] >>= endF) = _
  unfold F_subtract
  refine q_end (d := ratD (a * d - c * b) (b * d)) (by walk_at "ev" <;> rfl) ?_
  rw [endF_rt]
theorem m_multiply_eq (a b c d : Int) (h1 : Sm a b) (h2 : Sm c d) (hb : b * d ≠ 0) (hs : (b * d).natAbs < 1073741824) : m_multiply [.tup [.int a, .int b], .tup [.int c, .int d]] = pure (ratD (a * c) (b * d)) := by
  obtain ⟨x1, x2, x3, x4⟩ := h1
  obtain ⟨y1, y2, y3, y4⟩ := h2
  have e := m_ratio_eq (a * c) (b * d) hb hs
  unfold m_multiply
  rw [bodyF_2]
  show (F_multiply [some (.tup [.int a, .int b]), some (.tup [.int c, .int d])] >>= endF) = _
  unfold F_multiply
  refine q_end (d := ratD (a * c) (b * d)) (by walk_at "ev" <;> rfl) ?_
  rw [endF_rt]
theorem m_divide_eq (a b c d : Int) (h1 : Sm a b) (h2 : Sm c d) (hb : b * c ≠ 0) (hs : (b * c).natAbs < 1073741824) : m_divide [.tup [.int a, .int b], .tup [.int c, .int d]] = pure (ratD (a * d) (b * c)) := by
  obtain ⟨x1, x2, x3, x4⟩ := h1
  obtain ⟨y1, y2, y3, y4⟩ := h2
  have e := m_ratio_eq (a * d) (b * c) hb hs
  unfold m_divide
  rw [bodyF_2]
  show (F_divide [some (.tup [.int a, .int b]), some (.tup [.int c, .int d])] >>= endF) = _
  unfold F_divide
  refine q_end (d := ratD (a * d) (b * c)) (by walk_at "ev" <;> rfl) ?_
  rw [endF_rt]
theorem m_less_eq (a b c d : Int) (h1 : Sm a b) (h2 : Sm c d) : m_less [.tup [.int a, .int b], .tup [.int c, .int d]] = pure (.bl (decide (a * d < c * b))) := by
  obtain ⟨x1, x2, x3, x4⟩ := h1
  obtain ⟨y1, y2, y3, y4⟩ := h2
  unfold m_less
  rw [bodyF_2]
  show (F_less [some (.tup [.int a, .int b]), some (.tup [.int c, .int d])] >>= endF) = _
  unfold F_less
  refine q_end (d := .bl (decide (a * d < c * b))) (by walk_at "ev" <;> rfl) ?_
  rw [endF_rt]
theorem m_floor_of_eq (a b : Int) (hb : 0 < b) (hs : b < 1073741824) : m_floor_of [.tup [.int a, .int b]] = pure (.int (a / b)) := by
  have e := fdiv_pos (a := a) hb
  unfold m_floor_of
  rw [bodyF_1]
  show (F_floor_of [some (.tup [.int a, .int b])] >>= endF) = _
  unfold F_floor_of
  refine q_end (d := .int (a / b)) (by walk_at "ev" <;> rfl) ?_
  rw [endF_rt]
theorem m_ceiling_of_eq (a b : Int) (hb : 0 < b) (hs : b < 1073741824) : m_ceiling_of [.tup [.int a, .int b]] = pure (.int (-(-a / b))) := by
  have e := fdiv_pos (a := -a) hb
  unfold m_ceiling_of
  rw [bodyF_1]
  show (F_ceiling_of [some (.tup [.int a, .int b])] >>= endF) = _
  unfold F_ceiling_of
  refine q_end (d := .int (-(-a / b))) (by walk_at "ev" <;> rfl) ?_
  rw [endF_rt]
theorem m_is_ratio_eq (a b : Int) : m_is_ratio [.tup [.int a, .int b]] = pure (.bl (decide (1 ≤ b ∧ Nat.gcd a.natAbs b.natAbs = 1))) := by
  unfold m_is_ratio
  rw [bodyF_1]
  show (F_is_ratio [some (.tup [.int a, .int b]), none] >>= endF) = _
  unfold F_is_ratio
  refine q_seq (δ1 := [some (.tup [.int a, .int b]), none]) (by walk_at "ev" <;> rfl) ?_
  refine q_for (ds := [.int a, .int b]) (by walk_at "ev" <;> rfl) ?_
  have loop : forL (.nm 1) (sIf (tOrF (tT (eIsi "bool" (eVar 1))) (tNotF (tT (eIsi "int" (eVar 1))))) (sRet (eC (.bl false))) sNil) [.int a, .int b] [some (.tup [.int a, .int b]), none] = pure (.nx, [some (.tup [.int a, .int b]), some (.int b)]) := rfl
  rw [loop, pb]
  show (sRet _ [some (.tup [.int a, .int b]), some (.int b)] >>= endF) = _
  by_cases h1 : 1 ≤ b
  · have e1 : decide (((Nat.gcd a.natAbs b.natAbs : Nat) : Int) = 1) = decide (1 ≤ b ∧ Nat.gcd a.natAbs b.natAbs = 1) := by
      refine decide_eq_decide.mpr ⟨fun z => ⟨h1, by omega⟩, fun z => by omega⟩
    refine q_end (d := .bl (decide (1 ≤ b ∧ Nat.gcd a.natAbs b.natAbs = 1))) (by walk_at "ev" <;> rfl) ?_
    rw [endF_rt]
  · refine q_end (d := .bl false) (by walk_at "ev" <;> rfl) ?_
    rw [endF_rt, decide_eq_false (show ¬ (1 ≤ b ∧ Nat.gcd a.natAbs b.natAbs = 1) from fun z => h1 z.1)]
end Sh

namespace K89
open PySem PySem.Spec L2 Fc

def F__law_low : F1 :=
    (sSeq (sIf (tB (eBin dLt (eVar 1) (eC (.int 0)))) (sPar 0 1 (aCons (eBin dSub (eC (.int 0)) (eVar 0)) (aCons (eBin dSub (eC (.int 0)) (eVar 1)) aNil))) sNil)
    (sSeq (sPar 2 3 (aCons (eCall dAbs (aCons (eVar 0) aNil)) (aCons (eVar 1) aNil)))
    (sSeq (whileL 100000 (tB (eBin dGt (eVar 3) (eC (.int 0)))) (sPar 2 3 (aCons (eVar 3) (aCons (eBin dMod (eVar 2) (eVar 3)) aNil))))
    (sRet (eTup (aCons (eBin dDiv (eVar 0) (eVar 2)) (aCons (eBin dDiv (eVar 1) (eVar 2)) aNil)))))))
def m__law_low : List D → M D := bodyF 2 4 F__law_low
abbrev F_less := @Sh.F_less
abbrev m_less := @Sh.m_less
def F_greatest_of : F1 :=
    (sSeq (sAsg (.nm 1) (eBin dIx (eVar 0) (eC (.int 0))))
    (sSeq (sFor (.nm 2) (itSeq (eVar 0)) (sIf (tT (eDef m_less (aCons (eVar 1) (aCons (eVar 2) aNil)))) (sAsg (.nm 1) (eVar 2)) sNil))
    (sRet (eVar 1))))
def m_greatest_of : List D → M D := bodyF 1 3 F_greatest_of
abbrev F_ratio := @Sh.F_ratio
abbrev m_ratio := @Sh.m_ratio
abbrev F_add := @Sh.F_add
abbrev m_add := @Sh.m_add
abbrev F_multiply := @Sh.F_multiply
abbrev m_multiply := @Sh.m_multiply
def F_grown : F1 :=
    (sRet (eDef m_add (aCons (eVar 0) (aCons (eDef m_multiply (aCons (eVar 1) (aCons (eTup (aCons (eVar 2) (aCons (eC (.int 1)) aNil))) aNil))) aNil))))
def m_grown : List D → M D := bodyF 3 3 F_grown
def F_least_by : F1 :=
    (sSeq (sAsg (.nm 3) (eBin dSub (eVar 2) (eBin dIx (eVar 1) (eC (.int 0)))))
    (sRet (eDef m_grown (aCons (eBin dIx (eVar 1) (eC (.int 1))) (aCons (eIf (tB (eBin dGe (eVar 3) (eC (.int 0)))) (eBin dIx (eVar 0) (eC (.int 0))) (eBin dIx (eVar 0) (eC (.int 1)))) (aCons (eVar 3) aNil))))))
def m_least_by : List D → M D := bodyF 3 4 F_least_by
def F_least_reading : F1 :=
    (sRet (eDef m_greatest_of (aCons (eLc [3] (.nm 3) (itSeq (eVar 1)) tYesF (eDef m_least_by (aCons (eVar 0) (aCons (eVar 3) (aCons (eVar 2) aNil))))) aNil)))
def m_least_reading : List D → M D := bodyF 3 4 F_least_reading
def F_least_of : F1 :=
    (sSeq (sAsg (.nm 1) (eBin dIx (eVar 0) (eC (.int 0))))
    (sSeq (sFor (.nm 2) (itSeq (eVar 0)) (sIf (tT (eDef m_less (aCons (eVar 2) (aCons (eVar 1) aNil)))) (sAsg (.nm 1) (eVar 2)) sNil))
    (sRet (eVar 1))))
def m_least_of : List D → M D := bodyF 1 3 F_least_of
def F_greatest_by : F1 :=
    (sSeq (sAsg (.nm 3) (eBin dSub (eVar 2) (eBin dIx (eVar 1) (eC (.int 0)))))
    (sRet (eDef m_grown (aCons (eBin dIx (eVar 1) (eC (.int 2))) (aCons (eIf (tB (eBin dGe (eVar 3) (eC (.int 0)))) (eBin dIx (eVar 0) (eC (.int 1))) (eBin dIx (eVar 0) (eC (.int 0)))) (aCons (eVar 3) aNil))))))
def m_greatest_by : List D → M D := bodyF 3 4 F_greatest_by
def F_greatest_reading : F1 :=
    (sRet (eDef m_least_of (aCons (eLc [3] (.nm 3) (itSeq (eVar 1)) tYesF (eDef m_greatest_by (aCons (eVar 0) (aCons (eVar 3) (aCons (eVar 2) aNil))))) aNil)))
def m_greatest_reading : List D → M D := bodyF 3 4 F_greatest_reading
def F_readings : F1 :=
    (sRet (eTup (aCons (eDef m_least_reading (aCons (eVar 0) (aCons (eVar 1) (aCons (eVar 2) aNil)))) (aCons (eDef m_greatest_reading (aCons (eVar 0) (aCons (eVar 1) (aCons (eVar 2) aNil)))) aNil))))
def m_readings : List D → M D := bodyF 3 3 F_readings
def F_is_idle : F1 :=
    (sSeq (sIf (tNotF (tT (eVar 2))) (sRet (eC (.bl false))) sNil)
    (sSeq (sAsg (.tp [(.nm 3), (.nm 4)]) (eDef m_readings (aCons (eVar 0) (aCons (eVar 2) (aCons (eBin dIx (eVar 1) (eC (.int 0))) aNil)))))
    (sRet (eAndV (eNotT (eDef m_less (aCons (eVar 3) (aCons (eBin dIx (eVar 1) (eC (.int 1))) aNil)))) (eNotT (eDef m_less (aCons (eBin dIx (eVar 1) (eC (.int 2))) (aCons (eVar 4) aNil))))))))
def m_is_idle : List D → M D := bodyF 3 5 F_is_idle
def F_idle_stamps : F1 :=
    (sSeq (sAsg (.nm 2) (eLst aNil))
    (sSeq (sFor (.tp [(.nm 3), (.nm 4)]) (itCall dEnum (aCons (eVar 1) aNil)) (sIf (tT (eDef m_is_idle (aCons (eVar 0) (aCons (eVar 4) (aCons (eBin dAdd (eSl (eVar 1) oNone (oSome (eVar 3))) (eSl (eVar 1) (oSome (eBin dAdd (eVar 3) (eC (.int 1)))) oNone)) aNil))))) (sApp 2 (eVar 3)) sNil))
    (sRet (eVar 2))))
def m_idle_stamps : List D → M D := bodyF 2 5 F_idle_stamps
abbrev F_subtract := @Sh.F_subtract
abbrev m_subtract := @Sh.m_subtract
abbrev F_floor_of := @Sh.F_floor_of
abbrev m_floor_of := @Sh.m_floor_of
abbrev F_divide := @Sh.F_divide
abbrev m_divide := @Sh.m_divide
def F_last_with : F1 :=
    (sSeq (sAsg (.tp [(.nm 3), (.nm 4), (.nm 5)]) (eVar 1))
    (sSeq (sAsg (.nm 6) (eDef m_subtract (aCons (eVar 2) (aCons (eVar 4) aNil))))
    (sSeq (sAsg (.nm 7) (eIf (tT (eDef m_less (aCons (eVar 6) (aCons (eTup (aCons (eC (.int 0)) (aCons (eC (.int 1)) aNil))) aNil)))) (eBin dIx (eVar 0) (eC (.int 1))) (eBin dIx (eVar 0) (eC (.int 0)))))
    (sRet (eBin dAdd (eVar 3) (eDef m_floor_of (aCons (eDef m_divide (aCons (eVar 6) (aCons (eVar 7) aNil))) aNil)))))))
def m_last_with : List D → M D := bodyF 3 8 F_last_with
abbrev F_ceiling_of := @Sh.F_ceiling_of
abbrev m_ceiling_of := @Sh.m_ceiling_of
def F_first_with : F1 :=
    (sSeq (sAsg (.tp [(.nm 3), (.nm 4), (.nm 5)]) (eVar 1))
    (sSeq (sAsg (.nm 6) (eDef m_subtract (aCons (eVar 2) (aCons (eVar 5) aNil))))
    (sSeq (sAsg (.nm 7) (eIf (tT (eDef m_less (aCons (eTup (aCons (eC (.int 0)) (aCons (eC (.int 1)) aNil))) (aCons (eVar 6) aNil)))) (eBin dIx (eVar 0) (eC (.int 1))) (eBin dIx (eVar 0) (eC (.int 0)))))
    (sRet (eBin dAdd (eVar 3) (eDef m_ceiling_of (aCons (eDef m_divide (aCons (eVar 6) (aCons (eVar 7) aNil))) aNil)))))))
def m_first_with : List D → M D := bodyF 3 8 F_first_with
def F_times_of : F1 :=
    (sSeq (sAsg (.nm 3) (eCall dMax1 (aCons (eBin dCat (eLst (aCons (eC (.int 0)) aNil)) (eLc [5] (.nm 5) (itSeq (eVar 1)) tYesF (eDef m_first_with (aCons (eVar 0) (aCons (eVar 5) (aCons (eVar 2) aNil)))))) aNil)))
    (sSeq (sAsg (.nm 4) (eCall dMin1 (aCons (eLc [5] (.nm 5) (itSeq (eVar 1)) tYesF (eDef m_last_with (aCons (eVar 0) (aCons (eVar 5) (aCons (eVar 2) aNil))))) aNil)))
    (sRet (eIf (tB (eBin dLe (eVar 3) (eVar 4))) (eTup (aCons (eVar 3) (aCons (eVar 4) aNil))) (eC .non)))))
def m_times_of : List D → M D := bodyF 3 6 F_times_of
def F__law_add : F1 :=
    (sRet (eDef m__law_low (aCons (eBin dAdd (eBin dMul (eBin dIx (eVar 0) (eC (.int 0))) (eBin dIx (eVar 1) (eC (.int 1)))) (eBin dMul (eBin dIx (eVar 1) (eC (.int 0))) (eBin dIx (eVar 0) (eC (.int 1))))) (aCons (eBin dMul (eBin dIx (eVar 0) (eC (.int 1))) (eBin dIx (eVar 1) (eC (.int 1)))) aNil))))
def m__law_add : List D → M D := bodyF 2 2 F__law_add
def F_are_barring : F1 :=
    (sSeq (sIf (tB (eBin dGt (eBin dIx (eVar 1) (eC (.int 0))) (eBin dIx (eVar 2) (eC (.int 0))))) (sPar 1 2 (aCons (eVar 2) (aCons (eVar 1) aNil))) sNil)
    (sSeq (sAsg (.nm 3) (eBin dSub (eBin dIx (eVar 2) (eC (.int 0))) (eBin dIx (eVar 1) (eC (.int 0)))))
    (sSeq (sIf (tT (eDef m_less (aCons (eDef m_grown (aCons (eBin dIx (eVar 1) (eC (.int 2))) (aCons (eBin dIx (eVar 0) (eC (.int 1))) (aCons (eVar 3) aNil)))) (aCons (eBin dIx (eVar 2) (eC (.int 1))) aNil)))) (sRet (eC (.bl true))) sNil)
    (sRet (eDef m_less (aCons (eBin dIx (eVar 2) (eC (.int 2))) (aCons (eDef m_grown (aCons (eBin dIx (eVar 1) (eC (.int 1))) (aCons (eBin dIx (eVar 0) (eC (.int 0))) (aCons (eVar 3) aNil)))) aNil)))))))
def m_are_barring : List D → M D := bodyF 3 4 F_are_barring
def F_barring : F1 :=
    (sSeq (sFor (.tp [(.nm 2), (.nm 3)]) (itCall dEnum (aCons (eVar 1) aNil)) (sFor (.nm 4) (itCall dRange2 (aCons (eBin dAdd (eVar 2) (eC (.int 1))) (aCons (eCall dLen (aCons (eVar 1) aNil)) aNil))) (sIf (tT (eDef m_are_barring (aCons (eVar 0) (aCons (eVar 3) (aCons (eBin dIx (eVar 1) (eVar 4)) aNil))))) (sRet (eTup (aCons (eVar 2) (aCons (eVar 4) aNil)))) sNil)))
    (sRet (eC .non)))
def m_barring : List D → M D := bodyF 2 5 F_barring
def F__law_below : F1 :=
    (sRet (eBin dLt (eBin dMul (eBin dIx (eVar 0) (eC (.int 0))) (eBin dIx (eVar 1) (eC (.int 1)))) (eBin dMul (eBin dIx (eVar 1) (eC (.int 0))) (eBin dIx (eVar 0) (eC (.int 1))))))
def m__law_below : List D → M D := bodyF 2 2 F__law_below
def F__law_less_by : F1 :=
    (sRet (eDef m__law_low (aCons (eBin dSub (eBin dMul (eBin dIx (eVar 0) (eC (.int 0))) (eBin dIx (eVar 1) (eC (.int 1)))) (eBin dMul (eBin dIx (eVar 1) (eC (.int 0))) (eBin dIx (eVar 0) (eC (.int 1))))) (aCons (eBin dMul (eBin dIx (eVar 0) (eC (.int 1))) (eBin dIx (eVar 1) (eC (.int 1)))) aNil))))
def m__law_less_by : List D → M D := bodyF 2 2 F__law_less_by
def F__law_times : F1 :=
    (sRet (eDef m__law_low (aCons (eBin dMul (eBin dIx (eVar 0) (eC (.int 0))) (eBin dIx (eVar 1) (eC (.int 0)))) (aCons (eBin dMul (eBin dIx (eVar 0) (eC (.int 1))) (eBin dIx (eVar 1) (eC (.int 1)))) aNil))))
def m__law_times : List D → M D := bodyF 2 2 F__law_times
def F_law : F1 :=
    (sSeq (sAsg (.nm 2) (eDef m__law_low (aCons (eBin dAdd (eC (.int 1)) (eDef nextF (aCons (eVar 1) (aCons (eC (.int 4)) aNil)))) (aCons (eC (.int 2)) aNil))))
    (sSeq (sAsg (.nm 3) (eTup (aCons (eVar 2) (aCons (eDef m__law_add (aCons (eVar 2) (aCons (eDef m__law_low (aCons (eDef nextF (aCons (eVar 1) (aCons (eC (.int 4)) aNil))) (aCons (eC (.int 3)) aNil))) aNil))) aNil))))
    (sSeq (sParO 4 5 (eLst (aCons (eTup (aCons (eBin dSub (eDef nextF (aCons (eVar 1) (aCons (eC (.int 9)) aNil))) (eC (.int 4))) (aCons (eC (.int 1)) aNil))) aNil)) (eLst aNil))
    (sSeq (sFor (.nm 6) (itCall dRange1 (aCons (eC (.int 12)) aNil)) (sSeq (sAsg (.nm 7) (eDef m__law_low (aCons (eDef nextF (aCons (eVar 1) (aCons (eC (.int 3)) aNil))) (aCons (eC (.int 2)) aNil))))
      (sApp 4 (eDef m__law_add (aCons (eBin dIx (eVar 4) (eUn dNeg (eC (.int 1)))) (aCons (eDef m__law_add (aCons (eBin dIx (eVar 3) (eC (.int 0))) (aCons (eDef m__law_times (aCons (eVar 7) (aCons (eDef m__law_less_by (aCons (eBin dIx (eVar 3) (eC (.int 1))) (aCons (eBin dIx (eVar 3) (eC (.int 0))) aNil))) aNil))) aNil))) aNil))))))
    (sSeq (sFor (.nm 8) (itCall dRange1 (aCons (eBin dAdd (eC (.int 1)) (eDef nextF (aCons (eVar 1) (aCons (eC (.int 4)) aNil)))) aNil)) (sSeq (sAsg (.nm 6) (eDef nextF (aCons (eVar 1) (aCons (eC (.int 13)) aNil))))
      (sApp 5 (eTup (aCons (eVar 6) (aCons (eDef m__law_less_by (aCons (eBin dIx (eVar 4) (eVar 6)) (aCons (eTup (aCons (eDef nextF (aCons (eVar 1) (aCons (eC (.int 4)) aNil))) (aCons (eC (.int 1)) aNil))) aNil))) (aCons (eDef m__law_add (aCons (eBin dIx (eVar 4) (eVar 6)) (aCons (eTup (aCons (eDef nextF (aCons (eVar 1) (aCons (eC (.int 4)) aNil))) (aCons (eC (.int 1)) aNil))) aNil))) aNil)))))))
    (sSeq (sAsgV 5 (eCall dTuple (aCons (eVar 5) aNil)))
    (sSeq (sIf (tB (eBin dIsNot (eDef m_barring (aCons (eVar 3) (aCons (eVal 5) aNil))) (eC .non))) (sRet (eC (.bl false))) sNil)
    (sSeq (sAsg (.nm 9) (eLc [6] (.nm 6) (itCall dRange1 (aCons (eC (.int 13)) aNil)) tYesF (eDef m_readings (aCons (eVar 3) (aCons (eVal 5) (aCons (eVar 6) aNil))))))
    (sSeq (sFor (.nm 6) (itCall dRange1 (aCons (eC (.int 13)) aNil)) (sIf (tOrF (tT (eDef m__law_below (aCons (eBin dIx (eVar 4) (eVar 6)) (aCons (eBin dIx (eBin dIx (eVar 9) (eVar 6)) (eC (.int 0))) aNil)))) (tT (eDef m__law_below (aCons (eBin dIx (eBin dIx (eVar 9) (eVar 6)) (eC (.int 1))) (aCons (eBin dIx (eVar 4) (eVar 6)) aNil))))) (sRet (eC (.bl false))) sNil))
    (sSeq (sAsg (.nm 10) (eDef nextF (aCons (eVar 1) (aCons (eC (.int 13)) aNil))))
    (sSeq (sAsg (.nm 11) (eBin dAdd (eVar 5) (eTup (aCons (eBin dAdd (eTup (aCons (eVar 10) aNil)) (eBin dIx (eVar 9) (eVar 10))) aNil))))
    (sSeq (sIf (tOrF (tB (eBin dIsNot (eDef m_barring (aCons (eVar 3) (aCons (eVar 11) aNil))) (eC .non))) (tOrF (tB (eBin dNotIn (eBin dSub (eCall dLen (aCons (eVar 11) aNil)) (eC (.int 1))) (eDef m_idle_stamps (aCons (eVar 3) (aCons (eVar 11) aNil))))) (tT (eCall dAny (aCons (eLc [6] (.nm 6) (itCall dRange1 (aCons (eC (.int 13)) aNil)) tYesF (eBin dNe (eDef m_readings (aCons (eVar 3) (aCons (eVar 11) (aCons (eVar 6) aNil)))) (eBin dIx (eVar 9) (eVar 6)))) aNil))))) (sRet (eC (.bl false))) sNil)
    (sSeq (sFor (.nm 12) (itSeq (eTup (aCons (eC (.int 0)) (aCons (eC (.int 1)) aNil)))) (sFor (.nm 6) (itCall dRange1 (aCons (eC (.int 12)) aNil)) (sSeq (sAsg (.nm 13) (eDef m__law_less_by (aCons (eBin dIx (eBin dIx (eVar 9) (eBin dAdd (eVar 6) (eC (.int 1)))) (eVar 12)) (aCons (eBin dIx (eBin dIx (eVar 9) (eVar 6)) (eVar 12)) aNil))))
        (sIf (tOrF (tT (eDef m__law_below (aCons (eVar 13) (aCons (eBin dIx (eVar 3) (eC (.int 0))) aNil)))) (tT (eDef m__law_below (aCons (eBin dIx (eVar 3) (eC (.int 1))) (aCons (eVar 13) aNil))))) (sRet (eC (.bl false))) sNil))))
    (sSeq (sAsg (.nm 14) (eBin dAdd (eVar 5) (eTup (aCons (eTup (aCons (eVar 10) (aCons (eBin dIx (eVar 4) (eVar 10)) (aCons (eBin dIx (eVar 4) (eVar 10)) aNil)))) aNil))))
    (sSeq (sFor (.nm 6) (itCall dRange1 (aCons (eC (.int 13)) aNil)) (sSeq (sAsg (.nm 15) (eDef m_readings (aCons (eVar 3) (aCons (eVar 14) (aCons (eVar 6) aNil)))))
      (sIf (tOrF (tT (eDef m__law_below (aCons (eBin dIx (eVar 15) (eC (.int 0))) (aCons (eBin dIx (eBin dIx (eVar 9) (eVar 6)) (eC (.int 0))) aNil)))) (tOrF (tT (eDef m__law_below (aCons (eBin dIx (eBin dIx (eVar 9) (eVar 6)) (eC (.int 1))) (aCons (eBin dIx (eVar 15) (eC (.int 1))) aNil)))) (tAndF (tB (eBin dEq (eVar 6) (eVar 10))) (tB (eBin dNe (eVar 15) (eTup (aCons (eBin dIx (eVar 4) (eVar 10)) (aCons (eBin dIx (eVar 4) (eVar 10)) aNil)))))))) (sRet (eC (.bl false))) sNil)))
    (sSeq (sFor (.nm 16) (itSeq (eDef m_idle_stamps (aCons (eVar 3) (aCons (eVal 5) aNil)))) (sSeq (sAsg (.nm 17) (eBin dAdd (eSl (eVar 5) oNone (oSome (eVar 16))) (eSl (eVar 5) (oSome (eBin dAdd (eVar 16) (eC (.int 1)))) oNone)))
      (sIf (tAndF (tB (eBin dNe (eVar 17) (eTup aNil))) (tT (eCall dAny (aCons (eLc [6] (.nm 6) (itCall dRange1 (aCons (eC (.int 13)) aNil)) tYesF (eBin dNe (eDef m_readings (aCons (eVar 3) (aCons (eVar 17) (aCons (eVar 6) aNil)))) (eBin dIx (eVar 9) (eVar 6)))) aNil)))) (sRet (eC (.bl false))) sNil)))
    (sSeq (sAsg (.nm 18) (eDef m_times_of (aCons (eVar 3) (aCons (eVal 5) (aCons (eBin dIx (eVar 4) (eVar 10)) aNil)))))
    (sRet (eAndV (eBin dIsNot (eVar 18) (eC .non)) (eChain dLe dLe (eBin dIx (eVar 18) (eC (.int 0))) (eVar 10) (eBin dIx (eVar 18) (eC (.int 1)))))))))))))))))))))))
end K89

/-! k89: the plain law (readings counted in sixths). -/
namespace K89
structure St where
  t : Nat
  lo : Int
  hi : Int
/-- the greatest, the least -/
def mx (l : List Int) : Int := l.foldl max (l.headD 0)
def mn (l : List Int) : Int := l.foldl min (l.headD 0)
theorem foldl_max (l : List Int) : ∀ x : Int, (l.foldl max x = x ∨ l.foldl max x ∈ l) ∧ x ≤ l.foldl max x ∧ ∀ y ∈ l, y ≤ l.foldl max x := by
  induction l with
  | nil => intro x; exact ⟨.inl rfl, Int.le_refl _, fun y hy => by cases hy⟩
  | cons z l ih =>
    intro x
    obtain ⟨h1, h2, h3⟩ := ih (max x z)
    show ((l.foldl max (max x z) = x ∨ _) ∧ x ≤ l.foldl max (max x z) ∧ ∀ y ∈ z :: l, y ≤ l.foldl max (max x z))
    refine ⟨?_, by omega, fun y hy => ?_⟩
    · rcases h1 with h1 | h1
      · by_cases c : z ≤ x
        · left; rw [h1]; omega
        · right
          have : l.foldl max (max x z) = z := by rw [h1]; omega
          show l.foldl max (max x z) ∈ z :: l
          rw [this]
          exact List.mem_cons_self
      · right
        exact List.mem_cons_of_mem _ h1
    · rcases List.mem_cons.mp hy with rfl | hy
      · omega
      · exact h3 y hy
theorem foldl_min (l : List Int) : ∀ x : Int, (l.foldl min x = x ∨ l.foldl min x ∈ l) ∧ l.foldl min x ≤ x ∧ ∀ y ∈ l, l.foldl min x ≤ y := by
  induction l with
  | nil => intro x; exact ⟨.inl rfl, Int.le_refl _, fun y hy => by cases hy⟩
  | cons z l ih =>
    intro x
    obtain ⟨h1, h2, h3⟩ := ih (min x z)
    show ((l.foldl min (min x z) = x ∨ _) ∧ l.foldl min (min x z) ≤ x ∧ ∀ y ∈ z :: l, l.foldl min (min x z) ≤ y)
    refine ⟨?_, by omega, fun y hy => ?_⟩
    · rcases h1 with h1 | h1
      · by_cases c : x ≤ z
        · left; rw [h1]; omega
        · right
          have : l.foldl min (min x z) = z := by rw [h1]; omega
          show l.foldl min (min x z) ∈ z :: l
          rw [this]
          exact List.mem_cons_self
      · right
        exact List.mem_cons_of_mem _ h1
    · rcases List.mem_cons.mp hy with rfl | hy
      · omega
      · exact h3 y hy
theorem mx_spec {l : List Int} (h : l ≠ []) : mx l ∈ l ∧ ∀ y ∈ l, y ≤ mx l := by
  obtain ⟨h1, _, h3⟩ := foldl_max l (l.headD 0)
  refine ⟨?_, h3⟩
  rcases h1 with h1 | h1
  · cases l with
    | nil => exact absurd rfl h
    | cons z l =>
      show List.foldl max ((z :: l).headD 0) (z :: l) ∈ _
      rw [h1]
      exact List.mem_cons_self
  · exact h1
theorem mn_spec {l : List Int} (h : l ≠ []) : mn l ∈ l ∧ ∀ y ∈ l, mn l ≤ y := by
  obtain ⟨h1, _, h3⟩ := foldl_min l (l.headD 0)
  refine ⟨?_, h3⟩
  rcases h1 with h1 | h1
  · cases l with
    | nil => exact absurd rfl h
    | cons z l =>
      show List.foldl min ((z :: l).headD 0) (z :: l) ∈ _
      rw [h1]
      exact List.mem_cons_self
  · exact h1
theorem mx_uniq {l : List Int} {m : Int} (h1 : m ∈ l) (h2 : ∀ y ∈ l, y ≤ m) : mx l = m := by
  have hne : l ≠ [] := fun z => by rw [z] at h1; cases h1
  obtain ⟨a, b⟩ := mx_spec hne
  exact Int.le_antisymm (h2 _ a) (b _ h1)
theorem mn_uniq {l : List Int} {m : Int} (h1 : m ∈ l) (h2 : ∀ y ∈ l, m ≤ y) : mn l = m := by
  have hne : l ≠ [] := fun z => by rw [z] at h1; cases h1
  obtain ⟨a, b⟩ := mn_spec hne
  exact Int.le_antisymm (b _ h1) (h2 _ a)

def fl (a b : Int) (s : St) (t : Nat) : Int := s.lo + (if s.t ≤ t then a else b) * ((t : Int) - s.t)
def fu (a b : Int) (s : St) (t : Nat) : Int := s.hi + (if s.t ≤ t then b else a) * ((t : Int) - s.t)
def lw (a b : Int) (ss : List St) (t : Nat) : Int := mx (ss.map fun s => fl a b s t)
def up (a b : Int) (ss : List St) (t : Nat) : Int := mn (ss.map fun s => fu a b s t)
section
variable {a b : Int} {ss : List St} {C : Nat → Int}
theorem lw_spec (h : ss ≠ []) (t : Nat) : (∃ s ∈ ss, lw a b ss t = fl a b s t) ∧ ∀ s ∈ ss, fl a b s t ≤ lw a b ss t := by
  have hne : (ss.map fun s => fl a b s t) ≠ [] := by simpa using h
  obtain ⟨h1, h2⟩ := mx_spec hne
  obtain ⟨s, hs, e⟩ := List.mem_map.mp h1
  exact ⟨⟨s, hs, e.symm⟩, fun s hs => h2 _ (List.mem_map_of_mem hs)⟩
theorem up_spec (h : ss ≠ []) (t : Nat) : (∃ s ∈ ss, up a b ss t = fu a b s t) ∧ ∀ s ∈ ss, up a b ss t ≤ fu a b s t := by
  have hne : (ss.map fun s => fu a b s t) ≠ [] := by simpa using h
  obtain ⟨h1, h2⟩ := mn_spec hne
  obtain ⟨s, hs, e⟩ := List.mem_map.mp h1
  exact ⟨⟨s, hs, e.symm⟩, fun s hs => h2 _ (List.mem_map_of_mem hs)⟩
/-! ### steps -/
theorem fl_step (hab : a ≤ b) (s : St) (t : Nat) : a ≤ fl a b s (t + 1) - fl a b s t ∧ fl a b s (t + 1) - fl a b s t ≤ b := by
  unfold fl
  have e : ∀ x : Int, x * (((t + 1 : Nat) : Int) - s.t) = x * ((t : Int) - s.t) + x := fun x => by
    have : ((t + 1 : Nat) : Int) - s.t = ((t : Int) - s.t) + 1 := by omega
    rw [this, Int.mul_add, Int.mul_one]
  by_cases h : s.t ≤ t
  · rw [if_pos h, if_pos (by omega), e]
    omega
  · by_cases h2 : s.t ≤ t + 1
    · have z : ((t + 1 : Nat) : Int) - s.t = 0 := by omega
      have z2 : ((t : Nat) : Int) - s.t = -1 := by omega
      rw [if_pos h2, if_neg h, z, z2]
      omega
    · rw [if_neg h, if_neg h2, e]
      omega
theorem fu_step (hab : a ≤ b) (s : St) (t : Nat) : a ≤ fu a b s (t + 1) - fu a b s t ∧ fu a b s (t + 1) - fu a b s t ≤ b := by
  unfold fu
  have e : ∀ x : Int, x * (((t + 1 : Nat) : Int) - s.t) = x * ((t : Int) - s.t) + x := fun x => by
    have : ((t + 1 : Nat) : Int) - s.t = ((t : Int) - s.t) + 1 := by omega
    rw [this, Int.mul_add, Int.mul_one]
  by_cases h : s.t ≤ t
  · rw [if_pos h, if_pos (by omega), e]
    omega
  · by_cases h2 : s.t ≤ t + 1
    · have z : ((t + 1 : Nat) : Int) - s.t = 0 := by omega
      have z2 : ((t : Nat) : Int) - s.t = -1 := by omega
      rw [if_pos h2, if_neg h, z, z2]
      omega
    · rw [if_neg h, if_neg h2, e]
      omega
theorem lw_step (hab : a ≤ b) (h : ss ≠ []) (t : Nat) : a ≤ lw a b ss (t + 1) - lw a b ss t ∧ lw a b ss (t + 1) - lw a b ss t ≤ b := by
  obtain ⟨⟨s1, m1, e1⟩, u1⟩ := lw_spec (a := a) (b := b) h t
  obtain ⟨⟨s2, m2, e2⟩, u2⟩ := lw_spec (a := a) (b := b) h (t + 1)
  have f1 := fl_step hab s1 t
  have f2 := fl_step hab s2 t
  have g1 := u2 s1 m1
  have g2 := u1 s2 m2
  omega
theorem up_step (hab : a ≤ b) (h : ss ≠ []) (t : Nat) : a ≤ up a b ss (t + 1) - up a b ss t ∧ up a b ss (t + 1) - up a b ss t ≤ b := by
  obtain ⟨⟨s1, m1, e1⟩, u1⟩ := up_spec (a := a) (b := b) h t
  obtain ⟨⟨s2, m2, e2⟩, u2⟩ := up_spec (a := a) (b := b) h (t + 1)
  have f1 := fu_step hab s1 t
  have f2 := fu_step hab s2 t
  have g1 := u2 s1 m1
  have g2 := u1 s2 m2
  omega
/-- steps between a and b add up -/
def Lip (a b : Int) (n : Nat) (f : Nat → Int) : Prop := ∀ t, t < n → a ≤ f (t + 1) - f t ∧ f (t + 1) - f t ≤ b
theorem Lip.far {f : Nat → Int} {n : Nat} (h : Lip a b n f) (t : Nat) : ∀ k, t + k ≤ n → f t + a * k ≤ f (t + k) ∧ f (t + k) ≤ f t + b * k
  | 0, _ => by simp
  | k + 1, hk => by
    obtain ⟨h1, h2⟩ := Lip.far h t k (by omega)
    obtain ⟨h3, h4⟩ := h (t + k) (by omega)
    have e : ((k + 1 : Nat) : Int) = k + 1 := by omega
    rw [e, Int.mul_add, Int.mul_add, Int.mul_one, Int.mul_one]
    have e2 : t + (k + 1) = t + k + 1 := by omega
    rw [e2]
    omega
theorem Lip.fl {f : Nat → Int} {n : Nat} (h : Lip a b n f) {s : St} (hs : s.lo ≤ f s.t) (hn : s.t ≤ n) {t : Nat} (ht : t ≤ n) : fl a b s t ≤ f t := by
  unfold K89.fl
  by_cases c : s.t ≤ t
  · rw [if_pos c]
    obtain ⟨k, rfl⟩ : ∃ k, t = s.t + k := ⟨t - s.t, by omega⟩
    have := (h.far s.t k (by omega)).1
    have e : ((s.t + k : Nat) : Int) - s.t = k := by omega
    rw [e]
    omega
  · rw [if_neg c]
    obtain ⟨k, hk⟩ : ∃ k, s.t = t + k := ⟨s.t - t, by omega⟩
    have := (h.far t k (by omega)).2
    have e : ((t : Nat) : Int) - s.t = -k := by omega
    rw [e, Int.mul_neg]
    rw [hk] at hs
    omega
theorem Lip.fu {f : Nat → Int} {n : Nat} (h : Lip a b n f) {s : St} (hs : f s.t ≤ s.hi) (hn : s.t ≤ n) {t : Nat} (ht : t ≤ n) : f t ≤ fu a b s t := by
  unfold K89.fu
  by_cases c : s.t ≤ t
  · rw [if_pos c]
    obtain ⟨k, rfl⟩ : ∃ k, t = s.t + k := ⟨t - s.t, by omega⟩
    have := (h.far s.t k (by omega)).2
    have e : ((s.t + k : Nat) : Int) - s.t = k := by omega
    rw [e]
    omega
  · rw [if_neg c]
    obtain ⟨k, hk⟩ : ∃ k, s.t = t + k := ⟨s.t - t, by omega⟩
    have := (h.far t k (by omega)).1
    have e : ((t : Nat) : Int) - s.t = -k := by omega
    rw [e, Int.mul_neg]
    rw [hk] at hs
    omega
theorem lw_lip (hab : a ≤ b) (h : ss ≠ []) (n : Nat) : Lip a b n (lw a b ss) := fun t _ => lw_step hab h t
theorem up_lip (hab : a ≤ b) (h : ss ≠ []) (n : Nat) : Lip a b n (up a b ss) := fun t _ => up_step hab h t
/-! ### a course through all stamps -/
def Fit (C : Nat → Int) (n : Nat) (s : St) : Prop := s.lo ≤ C s.t ∧ C s.t ≤ s.hi ∧ s.t ≤ n
theorem lw_le {n : Nat} (hC : Lip a b n C) (h : ss ≠ []) (hf : ∀ s ∈ ss, Fit C n s) {t : Nat} (ht : t ≤ n) : lw a b ss t ≤ C t := by
  obtain ⟨⟨s, m, e⟩, _⟩ := lw_spec (a := a) (b := b) h t
  obtain ⟨f1, f2, f3⟩ := hf s m
  rw [e]
  exact hC.fl f1 f3 ht
theorem le_up {n : Nat} (hC : Lip a b n C) (h : ss ≠ []) (hf : ∀ s ∈ ss, Fit C n s) {t : Nat} (ht : t ≤ n) : C t ≤ up a b ss t := by
  obtain ⟨⟨s, m, e⟩, _⟩ := up_spec (a := a) (b := b) h t
  obtain ⟨f1, f2, f3⟩ := hf s m
  rw [e]
  exact hC.fu f2 f3 ht
/-- none bars: o not behind p -/
theorem no_bar {n : Nat} (hC : Lip a b n C) {o p : St} (ho : Fit C n o) (hp : Fit C n p) (h : o.t ≤ p.t) : ¬ (o.hi + b * ((p.t : Int) - o.t) < p.lo) ∧ ¬ (p.hi < o.lo + a * ((p.t : Int) - o.t)) := by
  obtain ⟨o1, o2, o3⟩ := ho
  obtain ⟨p1, p2, p3⟩ := hp
  obtain ⟨k, hk⟩ : ∃ k, p.t = o.t + k := ⟨p.t - o.t, by omega⟩
  obtain ⟨h1, h2⟩ := hC.far o.t k (by omega)
  have e : ((p.t : Nat) : Int) - o.t = k := by omega
  rw [e]
  rw [← hk] at h1 h2
  omega
/-! ### a stamp more -/
theorem lw_app (h : ss ≠ []) (s : St) (t : Nat) (hs : fl a b s t ≤ lw a b ss t) : lw a b (ss ++ [s]) t = lw a b ss t := by
  obtain ⟨⟨s1, m1, e1⟩, u1⟩ := lw_spec (a := a) (b := b) h t
  refine mx_uniq ?_ fun y hy => ?_
  · rw [e1]
    exact List.mem_map.mpr ⟨s1, List.mem_append_left _ m1, rfl⟩
  · obtain ⟨s2, m2, rfl⟩ := List.mem_map.mp hy
    rcases List.mem_append.mp m2 with m2 | m2
    · exact u1 s2 m2
    · obtain rfl := List.mem_singleton.mp m2
      exact hs
theorem up_app (h : ss ≠ []) (s : St) (t : Nat) (hs : up a b ss t ≤ fu a b s t) : up a b (ss ++ [s]) t = up a b ss t := by
  obtain ⟨⟨s1, m1, e1⟩, u1⟩ := up_spec (a := a) (b := b) h t
  refine mn_uniq ?_ fun y hy => ?_
  · rw [e1]
    exact List.mem_map.mpr ⟨s1, List.mem_append_left _ m1, rfl⟩
  · obtain ⟨s2, m2, rfl⟩ := List.mem_map.mp hy
    rcases List.mem_append.mp m2 with m2 | m2
    · exact u1 s2 m2
    · obtain rfl := List.mem_singleton.mp m2
      exact hs
/-- one stamp among others that is told by them -/
theorem lw_mid {l r : List St} {s : St} (h : l ++ r ≠ []) (t : Nat) (hs : fl a b s t ≤ lw a b (l ++ r) t) : lw a b (l ++ r) t = lw a b (l ++ s :: r) t := by
  obtain ⟨⟨s1, m1, e1⟩, u1⟩ := lw_spec (a := a) (b := b) h t
  refine (mx_uniq ?_ fun y hy => ?_).symm
  · rw [e1]
    refine List.mem_map.mpr ⟨s1, ?_, rfl⟩
    rcases List.mem_append.mp m1 with m1 | m1
    · exact List.mem_append_left _ m1
    · exact List.mem_append_right _ (List.mem_cons_of_mem _ m1)
  · obtain ⟨s2, m2, rfl⟩ := List.mem_map.mp hy
    rcases List.mem_append.mp m2 with m2 | m2
    · exact u1 s2 (List.mem_append_left _ m2)
    · rcases List.mem_cons.mp m2 with rfl | m2
      · exact hs
      · exact u1 s2 (List.mem_append_right _ m2)
theorem up_mid {l r : List St} {s : St} (h : l ++ r ≠ []) (t : Nat) (hs : up a b (l ++ r) t ≤ fu a b s t) : up a b (l ++ r) t = up a b (l ++ s :: r) t := by
  obtain ⟨⟨s1, m1, e1⟩, u1⟩ := up_spec (a := a) (b := b) h t
  refine (mn_uniq ?_ fun y hy => ?_).symm
  · rw [e1]
    refine List.mem_map.mpr ⟨s1, ?_, rfl⟩
    rcases List.mem_append.mp m1 with m1 | m1
    · exact List.mem_append_left _ m1
    · exact List.mem_append_right _ (List.mem_cons_of_mem _ m1)
  · obtain ⟨s2, m2, rfl⟩ := List.mem_map.mp hy
    rcases List.mem_append.mp m2 with m2 | m2
    · exact u1 s2 (List.mem_append_left _ m2)
    · rcases List.mem_cons.mp m2 with rfl | m2
      · exact hs
      · exact u1 s2 (List.mem_append_right _ m2)
/-- what is known already -/
theorem known_lw (hab : a ≤ b) (h : ss ≠ []) {at_ n : Nat} (hn : at_ ≤ n) {hi : Int} {t : Nat} (ht : t ≤ n) : lw a b (ss ++ [⟨at_, lw a b ss at_, hi⟩]) t = lw a b ss t :=
  lw_app h _ t ((lw_lip hab h n).fl (s := ⟨at_, lw a b ss at_, hi⟩) (Int.le_refl _) hn ht)
theorem known_up (hab : a ≤ b) (h : ss ≠ []) {at_ n : Nat} (hn : at_ ≤ n) {lo : Int} {t : Nat} (ht : t ≤ n) : up a b (ss ++ [⟨at_, lo, up a b ss at_⟩]) t = up a b ss t :=
  up_app h _ t ((up_lip hab h n).fu (s := ⟨at_, lo, up a b ss at_⟩) (Int.le_refl _) hn ht)
theorem idle_lw (hab : a ≤ b) {l r : List St} {s : St} (h : l ++ r ≠ []) {n : Nat} (hn : s.t ≤ n) (hs : s.lo ≤ lw a b (l ++ r) s.t) {t : Nat} (ht : t ≤ n) : lw a b (l ++ r) t = lw a b (l ++ s :: r) t :=
  lw_mid h t ((lw_lip hab h n).fl hs hn ht)
theorem idle_up (hab : a ≤ b) {l r : List St} {s : St} (h : l ++ r ≠ []) {n : Nat} (hn : s.t ≤ n) (hs : up a b (l ++ r) s.t ≤ s.hi) {t : Nat} (ht : t ≤ n) : up a b (l ++ r) t = up a b (l ++ s :: r) t :=
  up_mid h t ((up_lip hab h n).fu hs hn ht)
/-- narrower -/
theorem narrow_lw (h : ss ≠ []) (s : St) (t : Nat) : lw a b ss t ≤ lw a b (ss ++ [s]) t := by
  obtain ⟨⟨s1, m1, e1⟩, _⟩ := lw_spec (a := a) (b := b) h t
  rw [e1]
  exact (lw_spec (a := a) (b := b) (ss := ss ++ [s]) (by simp) t).2 s1 (List.mem_append_left _ m1)
theorem narrow_up (h : ss ≠ []) (s : St) (t : Nat) : up a b (ss ++ [s]) t ≤ up a b ss t := by
  obtain ⟨⟨s1, m1, e1⟩, _⟩ := up_spec (a := a) (b := b) h t
  rw [e1]
  exact (up_spec (a := a) (b := b) (ss := ss ++ [s]) (by simp) t).2 s1 (List.mem_append_left _ m1)
theorem narrow_at {n : Nat} (hC : Lip a b n C) (h : ss ≠ []) (hf : ∀ s ∈ ss, Fit C n s) {t : Nat} (ht : t ≤ n) : lw a b (ss ++ [⟨t, C t, C t⟩]) t = C t ∧ up a b (ss ++ [⟨t, C t, C t⟩]) t = C t := by
  have hf' : ∀ s ∈ ss ++ [(⟨t, C t, C t⟩ : St)], Fit C n s := fun s hs => by
    rcases List.mem_append.mp hs with hs | hs
    · exact hf s hs
    · obtain rfl := List.mem_singleton.mp hs
      exact ⟨Int.le_refl _, Int.le_refl _, ht⟩
  have hne : ss ++ [(⟨t, C t, C t⟩ : St)] ≠ [] := by simp
  have m : (⟨t, C t, C t⟩ : St) ∈ ss ++ [(⟨t, C t, C t⟩ : St)] := List.mem_append_right _ List.mem_cons_self
  have e1 : fl a b ⟨t, C t, C t⟩ t = C t := by
    unfold fl
    rw [if_pos (Nat.le_refl _), Int.sub_self, Int.mul_zero, Int.add_zero]
  have e2 : fu a b ⟨t, C t, C t⟩ t = C t := by
    unfold fu
    rw [if_pos (Nat.le_refl _), Int.sub_self, Int.mul_zero, Int.add_zero]
  refine ⟨Int.le_antisymm (lw_le hC hne hf' ht) ?_, Int.le_antisymm ?_ (le_up hC hne hf' ht)⟩
  · have := (lw_spec (a := a) (b := b) hne t).2 _ m
    rw [e1] at this
    exact this
  · have := (up_spec (a := a) (b := b) hne t).2 _ m
    rw [e2] at this
    exact this
/-! ### when a reading can be -/
def fw (a b : Int) (s : St) (c : Int) : Int := s.t + -(-(c - s.hi) / (if 0 < c - s.hi then b else a))
def lwi (a b : Int) (s : St) (c : Int) : Int := s.t + (c - s.lo) / (if c - s.lo < 0 then b else a)
theorem fw_le {n : Nat} (ha : 0 < a) (hab : a ≤ b) (hC : Lip a b n C) {s : St} (hs : Fit C n s) {t : Nat} (ht : t ≤ n) : fw a b s (C t) ≤ t := by
  obtain ⟨s1, s2, s3⟩ := hs
  unfold fw
  have main : ∀ r : Int, 0 < r → C t - s.hi ≤ r * ((t : Int) - s.t) → (s.t : Int) + -(-(C t - s.hi) / r) ≤ t := fun r hr h => by
    have h2 : -(r * ((t : Int) - s.t)) ≤ -(C t - s.hi) := by omega
    have e : -(r * ((t : Int) - s.t)) = (-((t : Int) - s.t)) * r := by rw [Int.neg_mul, Int.mul_comm]
    rw [e] at h2
    have := (Int.le_ediv_iff_mul_le hr).mpr h2
    omega
  by_cases c : s.t ≤ t
  · obtain ⟨k, rfl⟩ : ∃ k, t = s.t + k := ⟨t - s.t, by omega⟩
    obtain ⟨h1, h2⟩ := hC.far s.t k (by omega)
    have ek : ((s.t + k : Nat) : Int) - s.t = k := by omega
    by_cases p : 0 < C (s.t + k) - s.hi
    · rw [if_pos p]
      refine main b (by omega) ?_
      rw [ek]
      omega
    · rw [if_neg p]
      refine main a ha ?_
      rw [ek]
      have : 0 ≤ a * (k : Int) := Int.mul_nonneg (by omega) (by omega)
      omega
  · obtain ⟨k, hk⟩ : ∃ k, s.t = t + k := ⟨s.t - t, by omega⟩
    obtain ⟨h1, h2⟩ := hC.far t k (by omega)
    have ek : ((t : Nat) : Int) - s.t = -k := by omega
    rw [← hk] at h1 h2
    have pa : 0 ≤ a * (k : Int) := Int.mul_nonneg (by omega) (by omega)
    rw [if_neg (by omega)]
    refine main a ha ?_
    rw [ek, Int.mul_neg]
    omega
theorem le_lwi {n : Nat} (ha : 0 < a) (hab : a ≤ b) (hC : Lip a b n C) {s : St} (hs : Fit C n s) {t : Nat} (ht : t ≤ n) : (t : Int) ≤ lwi a b s (C t) := by
  obtain ⟨s1, s2, s3⟩ := hs
  unfold lwi
  have main : ∀ r : Int, 0 < r → r * ((t : Int) - s.t) ≤ C t - s.lo → (t : Int) ≤ (s.t : Int) + (C t - s.lo) / r := fun r hr h => by
    rw [Int.mul_comm] at h
    have := (Int.le_ediv_iff_mul_le hr).mpr h
    omega
  by_cases c : s.t ≤ t
  · obtain ⟨k, rfl⟩ : ∃ k, t = s.t + k := ⟨t - s.t, by omega⟩
    obtain ⟨h1, h2⟩ := hC.far s.t k (by omega)
    have ek : ((s.t + k : Nat) : Int) - s.t = k := by omega
    have pa : 0 ≤ a * (k : Int) := Int.mul_nonneg (by omega) (by omega)
    rw [if_neg (by omega)]
    refine main a ha ?_
    rw [ek]
    omega
  · obtain ⟨k, hk⟩ : ∃ k, s.t = t + k := ⟨s.t - t, by omega⟩
    obtain ⟨h1, h2⟩ := hC.far t k (by omega)
    have ek : ((t : Nat) : Int) - s.t = -k := by omega
    rw [← hk] at h1 h2
    by_cases p : C t - s.lo < 0
    · rw [if_pos p]
      refine main b (by omega) ?_
      rw [ek, Int.mul_neg]
      omega
    · rw [if_neg p]
      refine main a ha ?_
      rw [ek, Int.mul_neg]
      have : 0 ≤ a * (k : Int) := Int.mul_nonneg (by omega) (by omega)
      omega
end
end K89

namespace K89
open PySem L2 Fc Sh
local macro_rules | `(tactic| walk_at "ev") => `(tactic| simp (disch := omega) only [List.map_cons, List.map_nil, List.length_cons, List.length_nil, List.replicate, List.cons_append, List.nil_append,
  sIf, Fc.tB, tT, tAndF, tOrF, tNotF, eBin, eUn, eVar_zero, eVar_succ, eC, pb, asB, asI, liftO_pure, sPar, aCons, aNil, sAsg, eCall, eDef, setT, setTs, sRet, sNil, sPar3, eTup, eLst, eIf, eIsi, eIsi2, isTy2, eNotT, eAndV, eOrV, eChain, eSl, oNone, oSome, sBk, sCt, itCall, itSeq, dItems,
  dAdd_int, dAdd_tup, dMul_tup, dRange1_ok, dRange2_ok, dSub, dDiv_ok, dMod_ok, dMul_okL, dMul_okR, len_ok, dLt, dLe, dGt, dGe, dEq_int, dNe_int, dNeg, dLen, dAbs, dInt, dGcd, dMax2_eq, dMin2, dSum_tup, dSum_lst, dLcm_ok, dDivmod_ok, dTuple, dList, dTru, dIs_non, dIsNot_non, dIs_bl, dIsNot_bl, isNon_int, isNon_bl, isNon_str, isNon_tup, isNon_lst, isNon_non, dEq_bl, dNe_bl, dIx_tup, dIx_lst, at0, at1, at2, dSl,
  isTy_int_non, isTy_int_bl, isTy_int_int, isTy_int_str, isTy_int_tup, isTy_int_lst, isTy_bool_non, isTy_bool_bl, isTy_bool_int, isTy_bool_str, isTy_bool_tup, isTy_bool_lst, isTy_tuple_non, isTy_tuple_bl, isTy_tuple_int, isTy_tuple_str, isTy_tuple_tup, isTy_tuple_lst, isTy_list_non, isTy_list_bl, isTy_list_int, isTy_list_str, isTy_list_tup, isTy_list_lst, isTy_str_non, isTy_str_bl, isTy_str_int, isTy_str_str, isTy_str_tup, isTy_str_lst,
  opt_bind_some, opt_map_some, Bool.or_true, Bool.true_or, Bool.or_false, Bool.false_or, Bool.not_true, Bool.not_false, Bool.and_true, Bool.true_and,
  decide_true, decide_false, if_tt, if_ff, if_T, if_F, set_zero, set_succ, endF_rt, endF_nx, decide_eq_true, decide_eq_false, *])
/-! ### sixths -/
theorem cop_eq {x y x' y' : Int} (hy : 0 < y) (hy' : 0 < y') (c : Nat.gcd x.natAbs y.natAbs = 1) (c' : Nat.gcd x'.natAbs y'.natAbs = 1) (h : x * y' = x' * y) : x = x' ∧ y = y' := by
  have hn : x.natAbs * y'.natAbs = x'.natAbs * y.natAbs := by
    have := congrArg Int.natAbs h
    rw [Int.natAbs_mul, Int.natAbs_mul] at this
    exact this
  have d1 : y.natAbs ∣ y'.natAbs := Nat.Coprime.dvd_of_dvd_mul_left (k := y.natAbs) (m := x.natAbs) (n := y'.natAbs) (by rw [Nat.Coprime, Nat.gcd_comm]; exact c) ⟨x'.natAbs, by rw [hn, Nat.mul_comm]⟩
  have d2 : y'.natAbs ∣ y.natAbs := Nat.Coprime.dvd_of_dvd_mul_left (k := y'.natAbs) (m := x'.natAbs) (n := y.natAbs) (by rw [Nat.Coprime, Nat.gcd_comm]; exact c') ⟨x.natAbs, by rw [← hn, Nat.mul_comm]⟩
  have e : y.natAbs = y'.natAbs := Nat.dvd_antisymm d1 d2
  have ey : y = y' := by omega
  subst ey
  exact ⟨Int.eq_of_mul_eq_mul_right (by omega) h, rfl⟩
theorem ratD_eq {a b c d : Int} (hb : b ≠ 0) (hd : d ≠ 0) (h : a * d = c * b) : ratD a b = ratD c d := by
  have key : rn a b = rn c d ∧ rd a b = rd c d := by
    refine cop_eq (rd_pos hb) (rd_pos hd) (rat_cop hb) (rat_cop hd) ?_
    have h1 := rat_cross (a := a) hb
    have h2 := rat_cross (a := c) hd
    refine Int.eq_of_mul_eq_mul_right (a := b * d) (fun z => ?_) ?_
    · rcases Int.mul_eq_zero.mp z with z | z
      · exact hb z
      · exact hd z
    · generalize rn a b = x at *
      generalize rd a b = y at *
      generalize rn c d = x' at *
      generalize rd c d = y' at *
      grind
  unfold ratD
  rw [key.1, key.2]
/-- n sixths -/
def R6 (n : Int) : D := ratD n 6
/-- the parts of n sixths -/
theorem r6_parts (n : Int) (hn : n.natAbs ≤ 100000) : ∃ x y : Int, R6 n = .tup [.int x, .int y] ∧ x * 6 = n * y ∧ 0 < y ∧ y ≤ 6 ∧ -100000 ≤ x ∧ x ≤ 100000 := by
  have h6 : (6 : Int) ≠ 0 := by decide
  have h1 := rat_cross (a := n) h6
  have h2 := rd_pos (a := n) h6
  have h3 := rd_le (a := n) h6
  have h4 := rn_le (a := n) h6
  exact ⟨_, _, rfl, h1, h2, by omega, by omega, by omega⟩
theorem r6_of {x y n : Int} (hy : y ≠ 0) (h : x * 6 = n * y) : ratD x y = R6 n := ratD_eq hy (by decide) h
theorem yy {y1 y2 : Int} (h1 : 0 < y1) (h2 : y1 ≤ 6) (h3 : 0 < y2) (h4 : y2 ≤ 6) : y1 * y2 ≠ 0 ∧ (y1 * y2).natAbs ≤ 6 * 6 := by
  have := Int.mul_pos h1 h3
  exact ⟨by omega, mul_bd (by omega) (by omega)⟩
theorem r6_add {m n : Int} (hm : m.natAbs ≤ 100000) (hn : n.natAbs ≤ 100000) : m_add [R6 m, R6 n] = pure (R6 (m + n)) := by
  obtain ⟨x1, y1, e1, c1, p1, q1, b1, b2⟩ := r6_parts m hm
  obtain ⟨x2, y2, e2, c2, p2, q2, b3, b4⟩ := r6_parts n hn
  obtain ⟨z1, z2⟩ := yy p1 q1 p2 q2
  have e := m_add_eq x1 y1 x2 y2 ⟨by omega, by omega, by omega, by omega⟩ ⟨by omega, by omega, by omega, by omega⟩ z1 (by omega)
  rw [e1, e2]
  show Sh.m_add _ = _
  rw [e, r6_of z1 (n := m + n) (by grind)]
theorem r6_sub {m n : Int} (hm : m.natAbs ≤ 100000) (hn : n.natAbs ≤ 100000) : m_subtract [R6 m, R6 n] = pure (R6 (m - n)) := by
  obtain ⟨x1, y1, e1, c1, p1, q1, b1, b2⟩ := r6_parts m hm
  obtain ⟨x2, y2, e2, c2, p2, q2, b3, b4⟩ := r6_parts n hn
  obtain ⟨z1, z2⟩ := yy p1 q1 p2 q2
  have e := m_subtract_eq x1 y1 x2 y2 ⟨by omega, by omega, by omega, by omega⟩ ⟨by omega, by omega, by omega, by omega⟩ z1 (by omega)
  rw [e1, e2]
  show Sh.m_subtract _ = _
  rw [e, r6_of z1 (n := m - n) (by grind)]
theorem r6_mul {m k : Int} (hm : m.natAbs ≤ 100000) (hk : k.natAbs ≤ 100000) : m_multiply [R6 m, .tup [.int k, .int 1]] = pure (R6 (m * k)) := by
  obtain ⟨x1, y1, e1, c1, p1, q1, b1, b2⟩ := r6_parts m hm
  have e := m_multiply_eq x1 y1 k 1 ⟨by omega, by omega, by omega, by omega⟩ ⟨by omega, by omega, by omega, by omega⟩ (by omega) (by omega)
  rw [e1]
  show Sh.m_multiply _ = _
  rw [e, r6_of (n := m * k) (by omega) (by grind)]
theorem r6_div {m n : Int} (hm : m.natAbs ≤ 100000) (hn : n.natAbs ≤ 100000) (h0 : 0 < n) : m_divide [R6 m, R6 n] = pure (ratD m n) := by
  obtain ⟨x1, y1, e1, c1, p1, q1, b1, b2⟩ := r6_parts m hm
  obtain ⟨x2, y2, e2, c2, p2, q2, b3, b4⟩ := r6_parts n hn
  have px : 0 < x2 := by
    have : 0 < x2 * 6 := by rw [c2]; exact Int.mul_pos h0 p2
    omega
  have hz : y1 * x2 ≠ 0 := by
    have := Int.mul_pos p1 px
    omega
  have hb : (y1 * x2).natAbs ≤ 6 * 100000 := mul_bd (by omega) (by omega)
  have e := m_divide_eq x1 y1 x2 y2 ⟨by omega, by omega, by omega, by omega⟩ ⟨by omega, by omega, by omega, by omega⟩ hz (by omega)
  rw [e1, e2]
  show Sh.m_divide _ = _
  rw [e, ratD_eq (c := m) (d := n) hz (by omega) (by grind)]
theorem lt_cross {x1 y1 x2 y2 m n : Int} (c1 : x1 * 6 = m * y1) (c2 : x2 * 6 = n * y2) (p1 : 0 < y1) (p2 : 0 < y2) : (x1 * y2 < x2 * y1) ↔ m < n := by
  have py : 0 < y1 * y2 := Int.mul_pos p1 p2
  have e1 : x1 * y2 * 6 = m * (y1 * y2) := by grind
  have e2 : x2 * y1 * 6 = n * (y1 * y2) := by grind
  constructor
  · intro h
    have : m * (y1 * y2) < n * (y1 * y2) := by omega
    exact Int.lt_of_mul_lt_mul_right this (by omega)
  · intro h
    have := Int.mul_lt_mul_of_pos_right h py
    omega
theorem r6_less {m n : Int} (hm : m.natAbs ≤ 100000) (hn : n.natAbs ≤ 100000) : m_less [R6 m, R6 n] = pure (.bl (decide (m < n))) := by
  obtain ⟨x1, y1, e1, c1, p1, q1, b1, b2⟩ := r6_parts m hm
  obtain ⟨x2, y2, e2, c2, p2, q2, b3, b4⟩ := r6_parts n hn
  have e := m_less_eq x1 y1 x2 y2 ⟨by omega, by omega, by omega, by omega⟩ ⟨by omega, by omega, by omega, by omega⟩
  rw [e1, e2]
  show Sh.m_less _ = _
  rw [e, decide_eq_decide.mpr (lt_cross c1 c2 p1 p2)]
theorem st_below {x1 y1 x2 y2 : Int} (h1 : -100000 ≤ x1 ∧ x1 ≤ 100000) (h2 : -100000 ≤ x2 ∧ x2 ≤ 100000) : m__law_below [.tup [.int x1, .int y1], .tup [.int x2, .int y2]] = pure (.bl (decide (x1 * y2 < x2 * y1))) := by
  unfold m__law_below
  rw [bodyF_2]
  show (F__law_below [some (.tup [.int x1, .int y1]), some (.tup [.int x2, .int y2])] >>= endF) = _
  unfold F__law_below
  refine q_end (d := .bl (decide (x1 * y2 < x2 * y1))) (by walk_at "ev" <;> rfl) ?_
  rw [endF_rt]
theorem r6_below {m n : Int} (hm : m.natAbs ≤ 100000) (hn : n.natAbs ≤ 100000) : m__law_below [R6 m, R6 n] = pure (.bl (decide (m < n))) := by
  obtain ⟨x1, y1, e1, c1, p1, q1, b1, b2⟩ := r6_parts m hm
  obtain ⟨x2, y2, e2, c2, p2, q2, b3, b4⟩ := r6_parts n hn
  rw [e1, e2, st_below ⟨by omega, by omega⟩ ⟨by omega, by omega⟩, decide_eq_decide.mpr (lt_cross c1 c2 p1 p2)]
theorem ediv_eq {a b c d : Int} (hb : 0 < b) (hd : 0 < d) (h : a * d = c * b) : a / b = c / d := by
  have e1 : a / b = (a * d) / (b * d) := (Int.mul_ediv_mul_of_pos_left a b hd).symm
  have e2 : c / d = (c * b) / (d * b) := (Int.mul_ediv_mul_of_pos_left c d hb).symm
  rw [e1, e2, h, Int.mul_comm b d]
theorem floor_rat {m n : Int} (h0 : 0 < n) (hn : n.natAbs ≤ 100000) : m_floor_of [ratD m n] = pure (.int (m / n)) := by
  have h := rat_cross (a := m) (b := n) (by omega)
  have p := rd_pos (a := m) (b := n) (by omega)
  have q := rd_le (a := m) (b := n) (by omega)
  have e := m_floor_of_eq (rn m n) (rd m n) p (by omega)
  show Sh.m_floor_of [.tup [.int (rn m n), .int (rd m n)]] = _
  rw [e, ediv_eq p h0 (c := m) (d := n) h]
theorem ceil_rat {m n : Int} (h0 : 0 < n) (hn : n.natAbs ≤ 100000) : m_ceiling_of [ratD m n] = pure (.int (-(-m / n))) := by
  have h := rat_cross (a := m) (b := n) (by omega)
  have p := rd_pos (a := m) (b := n) (by omega)
  have q := rd_le (a := m) (b := n) (by omega)
  have e := m_ceiling_of_eq (rn m n) (rd m n) p (by omega)
  show Sh.m_ceiling_of [.tup [.int (rn m n), .int (rd m n)]] = _
  rw [e, ediv_eq p h0 (a := -rn m n) (c := -m) (d := n) (by rw [Int.neg_mul, Int.neg_mul, h])]
/-! ### the law's own -/
theorem low_loop (N B : D) : ∀ (two one n : Nat), two < n → two < 1000000 → whileL n (Fc.tB (eBin dGt (eVar 3) (eC (.int 0)))) (sPar 2 3 (aCons (eVar 3) (aCons (eBin dMod (eVar 2) (eVar 3)) aNil))) [some N, some B, some (.int (one : Nat)), some (.int (two : Nat))] = pure (.nx, [some N, some B, some (.int (Nat.gcd one two : Nat)), some (.int 0)]) := by
  intro two
  induction two using Nat.strongRecOn with
  | _ two ih =>
    intro one n hn hb
    obtain ⟨n, rfl⟩ : ∃ m, n = m + 1 := ⟨n - 1, by omega⟩
    by_cases h : two = 0
    · subst h
      rw [Nat.gcd_zero_right]
      exact whileL_end rfl
    · have hm : one % two < two := Nat.mod_lt _ (by omega)
      have e := ih (one % two) hm two n (by omega) (by omega)
      have hg : Nat.gcd two (one % two) = Nat.gcd one two := by
        rw [Nat.gcd_comm one two, Nat.gcd_rec two one, Nat.gcd_comm]
      rw [hg] at e
      rw [← e]
      refine whileL_step ?_ ?_
      · have : ((two : Nat) : Int) > 0 := by omega
        walk_at "ev"
      · have f1 : ((one : Nat) : Int).fmod (two : Nat) = ((one % two : Nat) : Int) := by
          rw [fmod_pos (by omega), Int.natCast_emod]
        have f2 : ((two : Nat) : Int) ≠ 0 := by omega
        clear e ih hg hm
        walk_at "ev"
theorem m_law_low_eq (a b : Int) (hb : b ≠ 0) (hs : b.natAbs < 90000) : m__law_low [.int a, .int b] = pure (ratD a b) := by
  have hg : 0 < Nat.gcd a.natAbs b.natAbs := Nat.gcd_pos_of_pos_right _ (by omega)
  have hle : Nat.gcd a.natAbs b.natAbs ≤ b.natAbs := Nat.le_of_dvd (by omega) (Nat.gcd_dvd_right _ _)
  have hgi : 0 < ((Nat.gcd a.natAbs b.natAbs : Nat) : Int) := by omega
  have key : ∀ a' b' : Int, 0 < b' → a'.natAbs = a.natAbs → b'.natAbs = b.natAbs → (sSeq (sPar 2 3 (aCons (eCall dAbs (aCons (eVar 0) aNil)) (aCons (eVar 1) aNil)))
      (sSeq (whileL 100000 (Fc.tB (eBin dGt (eVar 3) (eC (.int 0)))) (sPar 2 3 (aCons (eVar 3) (aCons (eBin dMod (eVar 2) (eVar 3)) aNil))))
      (sRet (eTup (aCons (eBin dDiv (eVar 0) (eVar 2)) (aCons (eBin dDiv (eVar 1) (eVar 2)) aNil)))))) [some (.int a'), some (.int b'), none, none] >>= endF = pure (.tup [.int (a' / (Nat.gcd a.natAbs b.natAbs : Nat)), .int (b' / (Nat.gcd a.natAbs b.natAbs : Nat))]) := by
    intro a' b' h0 h1 h2
    have e1 : (if a' < 0 then -a' else a') = ((a'.natAbs : Nat) : Int) := by split <;> omega
    have e2 : ((b'.natAbs : Nat) : Int) = b' := by omega
    have lp := low_loop (.int a') (.int b') b'.natAbs a'.natAbs 100000 (by omega) (by omega)
    rw [e2] at lp
    rw [h1, h2] at lp
    refine q_seq (δ1 := [some (.int a'), some (.int b'), some (.int (a.natAbs : Nat)), some (.int b')]) (by
      rw [h1] at e1
      clear e2 lp h1 h2
      walk_at "ev" <;> rfl) ?_
    refine q_seq lp ?_
    have f1 := fdiv_pos (a := a') hgi
    have f2 := fdiv_pos (a := b') hgi
    have hh : ((Nat.gcd a.natAbs b.natAbs : Nat) : Int) < 1000000 := by omega
    clear lp e1 e2 h1 h2
    generalize ((Nat.gcd a.natAbs b.natAbs : Nat) : Int) = gg at *
    refine q_end (d := .tup [.int (a' / gg), .int (b' / gg)]) (by walk_at "ev" <;> rfl) ?_
    rw [endF_rt]
  unfold m__law_low
  rw [bodyF_2]
  show (F__law_low [some (.int a), some (.int b), none, none] >>= endF) = _
  unfold F__law_low
  by_cases h : b < 0
  · refine q_seq (δ1 := [some (.int (0 - a)), some (.int (0 - b)), none, none]) (by
      clear key
      walk_at "ev" <;> rfl) ?_
    rw [key (0 - a) (0 - b) (by omega) (by omega) (by omega)]
    unfold ratD rn rd rg
    rw [if_pos h, if_pos h, Int.zero_sub, Int.zero_sub]
  · refine q_seq (δ1 := [some (.int a), some (.int b), none, none]) (by
      clear key
      walk_at "ev" <;> rfl) ?_
    rw [key a b (by omega) rfl rfl]
    unfold ratD rn rd rg
    rw [if_neg h, if_neg h]
section
variable {a b c d : Int} (h1 : Sm a b) (h2 : Sm c d) (hb : b * d ≠ 0) (hs : (b * d).natAbs < 90000)
include h1 h2 hb hs
theorem st_ladd : m__law_add [.tup [.int a, .int b], .tup [.int c, .int d]] = pure (ratD (a * d + c * b) (b * d)) := by
  obtain ⟨x1, x2, x3, x4⟩ := h1
  obtain ⟨y1, y2, y3, y4⟩ := h2
  have e := m_law_low_eq (a * d + c * b) (b * d) hb hs
  unfold m__law_add
  rw [bodyF_2]
  show (F__law_add [some (.tup [.int a, .int b]), some (.tup [.int c, .int d])] >>= endF) = _
  unfold F__law_add
  refine q_end (d := ratD (a * d + c * b) (b * d)) (by walk_at "ev" <;> rfl) ?_
  rw [endF_rt]
theorem st_lsub : m__law_less_by [.tup [.int a, .int b], .tup [.int c, .int d]] = pure (ratD (a * d - c * b) (b * d)) := by
  obtain ⟨x1, x2, x3, x4⟩ := h1
  obtain ⟨y1, y2, y3, y4⟩ := h2
  have e := m_law_low_eq (a * d - c * b) (b * d) hb hs
  unfold m__law_less_by
  rw [bodyF_2]
  show (F__law_less_by [some (.tup [.int a, .int b]), some (.tup [.int c, .int d])] >>= endF) = _
  unfold F__law_less_by
  refine q_end (d := ratD (a * d - c * b) (b * d)) (by walk_at "ev" <;> rfl) ?_
  rw [endF_rt]
theorem st_lmul : m__law_times [.tup [.int a, .int b], .tup [.int c, .int d]] = pure (ratD (a * c) (b * d)) := by
  obtain ⟨x1, x2, x3, x4⟩ := h1
  obtain ⟨y1, y2, y3, y4⟩ := h2
  have e := m_law_low_eq (a * c) (b * d) hb hs
  unfold m__law_times
  rw [bodyF_2]
  show (F__law_times [some (.tup [.int a, .int b]), some (.tup [.int c, .int d])] >>= endF) = _
  unfold F__law_times
  refine q_end (d := ratD (a * c) (b * d)) (by walk_at "ev" <;> rfl) ?_
  rw [endF_rt]
end
theorem r6_ladd {m n : Int} (hm : m.natAbs ≤ 100000) (hn : n.natAbs ≤ 100000) : m__law_add [R6 m, R6 n] = pure (R6 (m + n)) := by
  obtain ⟨x1, y1, e1, c1, p1, q1, b1, b2⟩ := r6_parts m hm
  obtain ⟨x2, y2, e2, c2, p2, q2, b3, b4⟩ := r6_parts n hn
  obtain ⟨z1, z2⟩ := yy p1 q1 p2 q2
  rw [e1, e2, st_ladd ⟨by omega, by omega, by omega, by omega⟩ ⟨by omega, by omega, by omega, by omega⟩ z1 (by omega), r6_of z1 (n := m + n) (by grind)]
theorem r6_lsub {m n : Int} (hm : m.natAbs ≤ 100000) (hn : n.natAbs ≤ 100000) : m__law_less_by [R6 m, R6 n] = pure (R6 (m - n)) := by
  obtain ⟨x1, y1, e1, c1, p1, q1, b1, b2⟩ := r6_parts m hm
  obtain ⟨x2, y2, e2, c2, p2, q2, b3, b4⟩ := r6_parts n hn
  obtain ⟨z1, z2⟩ := yy p1 q1 p2 q2
  rw [e1, e2, st_lsub ⟨by omega, by omega, by omega, by omega⟩ ⟨by omega, by omega, by omega, by omega⟩ z1 (by omega), r6_of z1 (n := m - n) (by grind)]
theorem r6_lmul {m n s : Int} (hm : m.natAbs ≤ 100000) (hn : n.natAbs ≤ 100000) (h : m * n = 6 * s) : m__law_times [R6 m, R6 n] = pure (R6 s) := by
  obtain ⟨x1, y1, e1, c1, p1, q1, b1, b2⟩ := r6_parts m hm
  obtain ⟨x2, y2, e2, c2, p2, q2, b3, b4⟩ := r6_parts n hn
  obtain ⟨z1, z2⟩ := yy p1 q1 p2 q2
  have e : x1 * x2 * 6 = s * (y1 * y2) := by
    have : x1 * x2 * 6 * 6 = s * (y1 * y2) * 6 := by grind
    omega
  rw [e1, e2, st_lmul ⟨by omega, by omega, by omega, by omega⟩ ⟨by omega, by omega, by omega, by omega⟩ z1 (by omega), r6_of z1 (n := s) e]
theorem r6_int (k : Int) : .tup [.int k, .int 1] = R6 (6 * k) := by
  have h : ratD k 1 = R6 (6 * k) := r6_of (by decide) (by omega)
  rw [← h]
  unfold ratD
  have h1 := rat_cross (a := k) (b := 1) (by decide)
  have h2 := rd_pos (a := k) (b := 1) (by decide)
  have h3 := rd_le (a := k) (b := 1) (by decide)
  have e : rd k 1 = 1 := by omega
  rw [e] at h1 ⊢
  have e2 : rn k 1 = k := by omega
  rw [e2]
end K89

namespace K89
open PySem L2 Fc Sh
local macro_rules | `(tactic| walk_at "ev") => `(tactic| simp (disch := omega) only [List.map_cons, List.map_nil, List.length_cons, List.length_nil, List.replicate, List.cons_append, List.nil_append,
  sIf, Fc.tB, tT, tAndF, tOrF, tNotF, eBin, eUn, eVar_zero, eVar_succ, eC, pb, asB, asI, liftO_pure, sPar, aCons, aNil, sAsg, eCall, eDef, setT, setTs, sRet, sNil, sPar3, eTup, eLst, eIf, eIsi, eIsi2, isTy2, eNotT, eAndV, eOrV, eChain, eSl, oNone, oSome, sBk, sCt, itCall, itSeq, dItems,
  dAdd_int, dAdd_tup, dMul_tup, dRange1_ok, dRange2_ok, dSub, dDiv_ok, dMod_ok, dMul_okL, dMul_okR, len_ok, dLt, dLe, dGt, dGe, dEq_int, dNe_int, dNeg, dLen, dAbs, dInt, dGcd, dMax2_eq, dMin2, dSum_tup, dSum_lst, dLcm_ok, dDivmod_ok, dTuple, dList, dTru, dIs_non, dIsNot_non, dIs_bl, dIsNot_bl, isNon_int, isNon_bl, isNon_str, isNon_tup, isNon_lst, isNon_non, dEq_bl, dNe_bl, dIx_tup, dIx_lst, at0, at1, at2, dSl,
  isTy_int_non, isTy_int_bl, isTy_int_int, isTy_int_str, isTy_int_tup, isTy_int_lst, isTy_bool_non, isTy_bool_bl, isTy_bool_int, isTy_bool_str, isTy_bool_tup, isTy_bool_lst, isTy_tuple_non, isTy_tuple_bl, isTy_tuple_int, isTy_tuple_str, isTy_tuple_tup, isTy_tuple_lst, isTy_list_non, isTy_list_bl, isTy_list_int, isTy_list_str, isTy_list_tup, isTy_list_lst, isTy_str_non, isTy_str_bl, isTy_str_int, isTy_str_str, isTy_str_tup, isTy_str_lst,
  opt_bind_some, opt_map_some, Bool.or_true, Bool.true_or, Bool.or_false, Bool.false_or, Bool.not_true, Bool.not_false, Bool.and_true, Bool.true_and,
  decide_true, decide_false, if_tt, if_ff, if_T, if_F, set_zero, set_succ, endF_rt, endF_nx, decide_eq_true, decide_eq_false, *])
/-! ### a stamp as data -/
def stD (s : St) : D := .tup [.int (s.t : Nat), R6 s.lo, R6 s.hi]
def drD (a b : Int) : D := .tup [R6 a, R6 b]
theorem st_grown {v p q r x : D} {k : Int} (h1 : m_multiply [p, .tup [.int k, .int 1]] = pure q) (h2 : m_add [v, q] = pure r) : m_grown [v, p, .int k] = pure r := by
  unfold m_grown
  rw [bodyF_3]
  show (F_grown [some v, some p, some (.int k)] >>= endF) = _
  unfold F_grown
  refine q_end (d := r) (by walk_at "ev" <;> rfl) ?_
  rw [endF_rt]
theorem grown6 {v r k : Int} (hv : v.natAbs ≤ 2000) (hr : r.natAbs ≤ 100) (hk : k.natAbs ≤ 100) : m_grown [R6 v, R6 r, .int k] = pure (R6 (v + r * k)) := by
  have hb : (r * k).natAbs ≤ 100 * 100 := mul_bd hr hk
  exact st_grown (x := .non) (r6_mul (by omega) (by omega)) (r6_add (by omega) (by omega))
section
variable {A B lo hi r : D} {T t : Int}
theorem st_least (h : m_grown [lo, if T ≤ t then A else B, .int (t - T)] = pure r) : m_least_by [.tup [A, B], .tup [.int T, lo, hi], .int t] = pure r := by
  unfold m_least_by
  rw [bodyF_3]
  show (F_least_by [some (.tup [A, B]), some (.tup [.int T, lo, hi]), some (.int t), none] >>= endF) = _
  unfold F_least_by
  refine q_seq (δ1 := [some (.tup [A, B]), some (.tup [.int T, lo, hi]), some (.int t), some (.int (t - T))]) (by
    clear h
    walk_at "ev" <;> rfl) ?_
  by_cases c : T ≤ t
  · rw [if_pos c] at h
    have c2 : 0 ≤ t - T := by omega
    clear c
    generalize t - T = u at *
    refine q_end (d := r) (by walk_at "ev" <;> rfl) ?_
    rw [endF_rt]
  · rw [if_neg c] at h
    have c2 : ¬ 0 ≤ t - T := by omega
    clear c
    generalize t - T = u at *
    refine q_end (d := r) (by walk_at "ev" <;> rfl) ?_
    rw [endF_rt]
theorem st_great (h : m_grown [hi, if T ≤ t then B else A, .int (t - T)] = pure r) : m_greatest_by [.tup [A, B], .tup [.int T, lo, hi], .int t] = pure r := by
  unfold m_greatest_by
  rw [bodyF_3]
  show (F_greatest_by [some (.tup [A, B]), some (.tup [.int T, lo, hi]), some (.int t), none] >>= endF) = _
  unfold F_greatest_by
  refine q_seq (δ1 := [some (.tup [A, B]), some (.tup [.int T, lo, hi]), some (.int t), some (.int (t - T))]) (by
    clear h
    walk_at "ev" <;> rfl) ?_
  by_cases c : T ≤ t
  · rw [if_pos c] at h
    have c2 : 0 ≤ t - T := by omega
    clear c
    generalize t - T = u at *
    refine q_end (d := r) (by walk_at "ev" <;> rfl) ?_
    rw [endF_rt]
  · rw [if_neg c] at h
    have c2 : ¬ 0 ≤ t - T := by omega
    clear c
    generalize t - T = u at *
    refine q_end (d := r) (by walk_at "ev" <;> rfl) ?_
    rw [endF_rt]
end
/-- bounds of a stamp -/
structure Bs (s : St) : Prop where
  t : s.t ≤ 12
  lo : s.lo.natAbs ≤ 2000
  hi : s.hi.natAbs ≤ 2000
/-- closer bounds -/
structure Bs1 (s : St) : Prop where
  t : s.t ≤ 12
  lo : s.lo.natAbs ≤ 1000
  hi : s.hi.natAbs ≤ 1000
theorem Bs1.bs {s : St} (h : Bs1 s) : Bs s := ⟨h.t, by have := h.lo; omega, by have := h.hi; omega⟩
structure Br (a b : Int) : Prop where
  a0 : 0 < a
  ab : a ≤ b
  b1 : b ≤ 50
section
variable {a b : Int} (R : Br a b)
include R
theorem fl_bd {s : St} (hs : Bs s) {t : Nat} (ht : t ≤ 12) : (fl a b s t).natAbs ≤ 3000 := by
  have := R.a0; have := R.ab; have := R.b1
  obtain ⟨h1, h2, h3⟩ := hs
  unfold fl
  have q : ((if s.t ≤ t then a else b) * ((t : Int) - s.t)).natAbs ≤ 50 * 12 := mul_bd (by split <;> omega) (by omega)
  omega
theorem fu_bd {s : St} (hs : Bs s) {t : Nat} (ht : t ≤ 12) : (fu a b s t).natAbs ≤ 3000 := by
  have := R.a0; have := R.ab; have := R.b1
  obtain ⟨h1, h2, h3⟩ := hs
  unfold fu
  have q : ((if s.t ≤ t then b else a) * ((t : Int) - s.t)).natAbs ≤ 50 * 12 := mul_bd (by split <;> omega) (by omega)
  omega
theorem least6 {s : St} (hs : Bs s) {t : Nat} (ht : t ≤ 12) : m_least_by [drD a b, stD s, .int (t : Nat)] = pure (R6 (fl a b s t)) := by
  have := R.a0; have := R.ab; have := R.b1
  obtain ⟨h1, h2, h3⟩ := hs
  refine st_least ?_
  have e : (if (s.t : Int) ≤ (t : Nat) then R6 a else R6 b) = R6 (if s.t ≤ t then a else b) := by
    by_cases c : s.t ≤ t
    · rw [if_pos c, if_pos (by omega)]
    · rw [if_neg c, if_neg (by omega)]
  rw [e]
  exact grown6 (by omega) (by split <;> omega) (by omega)
theorem great6 {s : St} (hs : Bs s) {t : Nat} (ht : t ≤ 12) : m_greatest_by [drD a b, stD s, .int (t : Nat)] = pure (R6 (fu a b s t)) := by
  have := R.a0; have := R.ab; have := R.b1
  obtain ⟨h1, h2, h3⟩ := hs
  refine st_great ?_
  have e : (if (s.t : Int) ≤ (t : Nat) then R6 b else R6 a) = R6 (if s.t ≤ t then b else a) := by
    by_cases c : s.t ≤ t
    · rw [if_pos c, if_pos (by omega)]
    · rw [if_neg c, if_neg (by omega)]
  rw [e]
  exact grown6 (by omega) (by split <;> omega) (by omega)
end
/-! ### greatest and least of a list -/
theorem st_gstep {L v f : D} {c : Bool} (h : m_less [f, v] = pure (.bl c)) : (sIf (tT (eDef m_less (aCons (eVar 1) (aCons (eVar 2) aNil)))) (sAsg (.nm 1) (eVar 2)) sNil) [some L, some f, some v] = pure (.nx, [some L, some (if c = true then v else f), some v]) := by
  cases c <;> walk_at "ev"
theorem st_lstep {L v f : D} {c : Bool} (h : m_less [v, f] = pure (.bl c)) : (sIf (tT (eDef m_less (aCons (eVar 2) (aCons (eVar 1) aNil)))) (sAsg (.nm 1) (eVar 2)) sNil) [some L, some f, some v] = pure (.nx, [some L, some (if c = true then v else f), some v]) := by
  cases c <;> walk_at "ev"
theorem g_loop (L : D) : ∀ (l : List Int) (x : Int) (o : Option D), (∀ y ∈ l, y.natAbs ≤ 100000) → x.natAbs ≤ 100000 → ∃ o', forL (.nm 2) (sIf (tT (eDef m_less (aCons (eVar 1) (aCons (eVar 2) aNil)))) (sAsg (.nm 1) (eVar 2)) sNil) (l.map R6) [some L, some (R6 x), o] = pure (.nx, [some L, some (R6 (l.foldl max x)), o'])
  | [], x, o, _, _ => ⟨o, rfl⟩
  | y :: l, x, o, h, hx => by
    have hy := h y List.mem_cons_self
    have e := st_gstep (L := L) (r6_less hx hy)
    have ev : (if decide (x < y) = true then R6 y else R6 x) = R6 (max x y) := by
      by_cases c : x < y
      · rw [if_pos (decide_eq_true c)]
        congr 1
        omega
      · rw [if_neg (by simpa using c)]
        congr 1
        omega
    rw [ev] at e
    obtain ⟨o', ih⟩ := g_loop L l (max x y) (some (R6 y)) (fun z hz => h z (List.mem_cons_of_mem _ hz)) (by omega)
    refine ⟨o', ?_⟩
    show (liftO (some [some L, some (R6 x), some (R6 y)]) >>= fun δ1 => (sIf _ _ _) δ1 >>= fun p => match p.1 with
      | .nx => forL (.nm 2) _ (l.map R6) p.2
      | .ct => forL (.nm 2) _ (l.map R6) p.2
      | .bk => pure (.nx, p.2)
      | .rt d => pure (.rt d, p.2)) = _
    rw [liftO_pure, pb, e, pb]
    exact ih
theorem l_loop (L : D) : ∀ (l : List Int) (x : Int) (o : Option D), (∀ y ∈ l, y.natAbs ≤ 100000) → x.natAbs ≤ 100000 → ∃ o', forL (.nm 2) (sIf (tT (eDef m_less (aCons (eVar 2) (aCons (eVar 1) aNil)))) (sAsg (.nm 1) (eVar 2)) sNil) (l.map R6) [some L, some (R6 x), o] = pure (.nx, [some L, some (R6 (l.foldl min x)), o'])
  | [], x, o, _, _ => ⟨o, rfl⟩
  | y :: l, x, o, h, hx => by
    have hy := h y List.mem_cons_self
    have e := st_lstep (L := L) (r6_less hy hx)
    have ev : (if decide (y < x) = true then R6 y else R6 x) = R6 (min x y) := by
      by_cases c : y < x
      · rw [if_pos (decide_eq_true c)]
        congr 1
        omega
      · rw [if_neg (by simpa using c)]
        congr 1
        omega
    rw [ev] at e
    obtain ⟨o', ih⟩ := l_loop L l (min x y) (some (R6 y)) (fun z hz => h z (List.mem_cons_of_mem _ hz)) (by omega)
    refine ⟨o', ?_⟩
    show (liftO (some [some L, some (R6 x), some (R6 y)]) >>= fun δ1 => (sIf _ _ _) δ1 >>= fun p => match p.1 with
      | .nx => forL (.nm 2) _ (l.map R6) p.2
      | .ct => forL (.nm 2) _ (l.map R6) p.2
      | .bk => pure (.nx, p.2)
      | .rt d => pure (.rt d, p.2)) = _
    rw [liftO_pure, pb, e, pb]
    exact ih
theorem great_of {l : List Int} (hne : l ≠ []) (h : ∀ y ∈ l, y.natAbs ≤ 100000) : m_greatest_of [.lst (l.map R6)] = pure (R6 (mx l)) := by
  obtain ⟨x, l', rfl⟩ : ∃ x l', l = x :: l' := by
    cases l with
    | nil => exact absurd rfl hne
    | cons x l' => exact ⟨x, l', rfl⟩
  obtain ⟨o', e⟩ := g_loop (.lst ((x :: l').map R6)) (x :: l') x none h (h x List.mem_cons_self)
  unfold m_greatest_of
  rw [bodyF_1]
  show (F_greatest_of [some (.lst ((x :: l').map R6)), none, none] >>= endF) = _
  unfold F_greatest_of
  refine q_seq (δ1 := [some (.lst ((x :: l').map R6)), some (R6 x), none]) ?_ ?_
  · show (eVar 0 _ >>= fun z => eC (.int 0) _ >>= fun y => liftO (dIx z y)) >>= (fun d => liftO (setT (.nm 1) d _) >>= fun δ' => pure (Out.nx, δ')) = _
    show (liftO (atI (R6 x :: l'.map R6) 0) >>= fun d => liftO (setT (.nm 1) d _) >>= fun δ' => pure (Out.nx, δ')) = _
    rw [at0]
    rfl
  · refine q_for (ds := (x :: l').map R6) rfl ?_
    rw [e, pb]
    rfl
theorem least_of {l : List Int} (hne : l ≠ []) (h : ∀ y ∈ l, y.natAbs ≤ 100000) : m_least_of [.lst (l.map R6)] = pure (R6 (mn l)) := by
  obtain ⟨x, l', rfl⟩ : ∃ x l', l = x :: l' := by
    cases l with
    | nil => exact absurd rfl hne
    | cons x l' => exact ⟨x, l', rfl⟩
  obtain ⟨o', e⟩ := l_loop (.lst ((x :: l').map R6)) (x :: l') x none h (h x List.mem_cons_self)
  unfold m_least_of
  rw [bodyF_1]
  show (F_least_of [some (.lst ((x :: l').map R6)), none, none] >>= endF) = _
  unfold F_least_of
  refine q_seq (δ1 := [some (.lst ((x :: l').map R6)), some (R6 x), none]) ?_ ?_
  · show (eVar 0 _ >>= fun z => eC (.int 0) _ >>= fun y => liftO (dIx z y)) >>= (fun d => liftO (setT (.nm 1) d _) >>= fun δ' => pure (Out.nx, δ')) = _
    show (liftO (atI (R6 x :: l'.map R6) 0) >>= fun d => liftO (setT (.nm 1) d _) >>= fun δ' => pure (Out.nx, δ')) = _
    rw [at0]
    rfl
  · refine q_for (ds := (x :: l').map R6) rfl ?_
    rw [e, pb]
    rfl
/-! ### readings -/
section
variable {a b : Int} {ss : List St} (R : Br a b) (hne : ss ≠ []) (hss : ∀ s ∈ ss, Bs s) (hl : ss.length ≤ 1000)
include R hne hss hl
theorem lreading {t : Nat} (ht : t ≤ 12) : m_least_reading [drD a b, .tup (ss.map stD), .int (t : Nat)] = pure (R6 (lw a b ss t)) := by
  have comp : lcL (.nm 3) tYesF (eDef m_least_by (aCons (eVar 0) (aCons (eVar 3) (aCons (eVar 2) aNil)))) [some (drD a b), some (.tup (ss.map stD)), some (.int (t : Nat)), none] (ss.map stD) = pure ((ss.map fun s => fl a b s t).map R6) := by
    have : ∀ l : List St, (∀ s ∈ l, Bs s) → lcL (.nm 3) tYesF (eDef m_least_by (aCons (eVar 0) (aCons (eVar 3) (aCons (eVar 2) aNil)))) [some (drD a b), some (.tup (ss.map stD)), some (.int (t : Nat)), none] (l.map stD) = pure ((l.map fun s => fl a b s t).map R6) := by
      intro l
      induction l with
      | nil => intro _; rfl
      | cons s l ih =>
        intro h
        show (m_least_by [drD a b, stD s, .int (t : Nat)] >>= fun y => lcL _ _ _ _ (l.map stD) >>= fun ys => pure (y :: ys)) = _
        rw [least6 R (h s List.mem_cons_self) ht, pb, ih fun x hx => h x (List.mem_cons_of_mem _ hx), pb]
        rfl
    exact this ss hss
  have e0 := eLc_eq (own := [3]) (T := .nm 3) (fs := itSeq (eVar 1)) (t := tYesF) (f := eDef m_least_by (aCons (eVar 0) (aCons (eVar 3) (aCons (eVar 2) aNil)))) (δ := [some (drD a b), some (.tup (ss.map stD)), some (.int (t : Nat)), none]) (ds := ss.map stD) rfl (by rw [List.length_map]; omega) comp
  have e1 := great_of (l := ss.map fun s => fl a b s t) (by simpa using hne) (fun y hy => by
    obtain ⟨s, hs, rfl⟩ := List.mem_map.mp hy
    have := fl_bd R (hss s hs) ht
    omega)
  unfold m_least_reading
  rw [bodyF_3]
  show (F_least_reading [some (drD a b), some (.tup (ss.map stD)), some (.int (t : Nat)), none] >>= endF) = _
  show (((eLc _ _ _ _ _ _ >>= fun y => (pure [] : M (List D)) >>= fun ys => pure (y :: ys)) >>= m_greatest_of) >>= fun d => pure (Out.rt d, _)) >>= endF = _
  rw [e0, pb, pb, pb]
  show (m_greatest_of [.lst ((ss.map fun s => fl a b s t).map R6)] >>= fun d => pure (Out.rt d, _)) >>= endF = _
  rw [e1]
  rfl
theorem greading {t : Nat} (ht : t ≤ 12) : m_greatest_reading [drD a b, .tup (ss.map stD), .int (t : Nat)] = pure (R6 (up a b ss t)) := by
  have comp : lcL (.nm 3) tYesF (eDef m_greatest_by (aCons (eVar 0) (aCons (eVar 3) (aCons (eVar 2) aNil)))) [some (drD a b), some (.tup (ss.map stD)), some (.int (t : Nat)), none] (ss.map stD) = pure ((ss.map fun s => fu a b s t).map R6) := by
    have : ∀ l : List St, (∀ s ∈ l, Bs s) → lcL (.nm 3) tYesF (eDef m_greatest_by (aCons (eVar 0) (aCons (eVar 3) (aCons (eVar 2) aNil)))) [some (drD a b), some (.tup (ss.map stD)), some (.int (t : Nat)), none] (l.map stD) = pure ((l.map fun s => fu a b s t).map R6) := by
      intro l
      induction l with
      | nil => intro _; rfl
      | cons s l ih =>
        intro h
        show (m_greatest_by [drD a b, stD s, .int (t : Nat)] >>= fun y => lcL _ _ _ _ (l.map stD) >>= fun ys => pure (y :: ys)) = _
        rw [great6 R (h s List.mem_cons_self) ht, pb, ih fun x hx => h x (List.mem_cons_of_mem _ hx), pb]
        rfl
    exact this ss hss
  have e0 := eLc_eq (own := [3]) (T := .nm 3) (fs := itSeq (eVar 1)) (t := tYesF) (f := eDef m_greatest_by (aCons (eVar 0) (aCons (eVar 3) (aCons (eVar 2) aNil)))) (δ := [some (drD a b), some (.tup (ss.map stD)), some (.int (t : Nat)), none]) (ds := ss.map stD) rfl (by rw [List.length_map]; omega) comp
  have e1 := least_of (l := ss.map fun s => fu a b s t) (by simpa using hne) (fun y hy => by
    obtain ⟨s, hs, rfl⟩ := List.mem_map.mp hy
    have := fu_bd R (hss s hs) ht
    omega)
  unfold m_greatest_reading
  rw [bodyF_3]
  show (F_greatest_reading [some (drD a b), some (.tup (ss.map stD)), some (.int (t : Nat)), none] >>= endF) = _
  show (((eLc _ _ _ _ _ _ >>= fun y => (pure [] : M (List D)) >>= fun ys => pure (y :: ys)) >>= m_least_of) >>= fun d => pure (Out.rt d, _)) >>= endF = _
  rw [e0, pb, pb, pb]
  show (m_least_of [.lst ((ss.map fun s => fu a b s t).map R6)] >>= fun d => pure (Out.rt d, _)) >>= endF = _
  rw [e1]
  rfl
end
theorem st_readings {d s t x y : D} (h1 : m_least_reading [d, s, t] = pure x) (h2 : m_greatest_reading [d, s, t] = pure y) : m_readings [d, s, t] = pure (.tup [x, y]) := by
  unfold m_readings
  rw [bodyF_3]
  show (F_readings [some d, some s, some t] >>= endF) = _
  unfold F_readings
  refine q_end (d := .tup [x, y]) (by walk_at "ev" <;> rfl) ?_
  rw [endF_rt]
theorem readings6 {a b : Int} {ss : List St} (R : Br a b) (hne : ss ≠ []) (hss : ∀ s ∈ ss, Bs s) (hl : ss.length ≤ 1000) {t : Nat} (ht : t ≤ 12) : m_readings [drD a b, .tup (ss.map stD), .int (t : Nat)] = pure (.tup [R6 (lw a b ss t), R6 (up a b ss t)]) :=
  st_readings (lreading R hne hss hl ht) (greading R hne hss hl ht)
theorem lw_bd {a b : Int} {ss : List St} (R : Br a b) (hne : ss ≠ []) (hss : ∀ s ∈ ss, Bs s) {t : Nat} (ht : t ≤ 12) : (lw a b ss t).natAbs ≤ 3000 ∧ (up a b ss t).natAbs ≤ 3000 := by
  obtain ⟨⟨s, m, e⟩, _⟩ := lw_spec (a := a) (b := b) hne t
  obtain ⟨⟨s', m', e'⟩, _⟩ := up_spec (a := a) (b := b) hne t
  have h1 := fl_bd R (hss s m) ht
  have h2 := fu_bd R (hss s' m') ht
  omega
theorem lw_bd1 {a b : Int} {ss : List St} (R : Br a b) (hne : ss ≠ []) (hss : ∀ s ∈ ss, Bs1 s) {t : Nat} (ht : t ≤ 12) : (lw a b ss t).natAbs ≤ 2000 ∧ (up a b ss t).natAbs ≤ 2000 := by
  have := R.a0; have := R.ab; have := R.b1
  obtain ⟨⟨s, m, e⟩, _⟩ := lw_spec (a := a) (b := b) hne t
  obtain ⟨⟨s', m', e'⟩, _⟩ := up_spec (a := a) (b := b) hne t
  have h1 := (hss s m).lo
  have h2 := (hss s' m').hi
  have h3 := (hss s m).t
  have h4 := (hss s' m').t
  unfold fl at e
  unfold fu at e'
  have q : ((if s.t ≤ t then a else b) * ((t : Int) - s.t)).natAbs ≤ 50 * 12 := mul_bd (by split <;> omega) (by omega)
  have q' : ((if s'.t ≤ t then b else a) * ((t : Int) - s'.t)).natAbs ≤ 50 * 12 := mul_bd (by split <;> omega) (by omega)
  omega
end K89

namespace K89
open PySem L2 Fc Sh
local macro_rules | `(tactic| walk_at "ev") => `(tactic| simp (disch := omega) only [List.map_cons, List.map_nil, List.length_cons, List.length_nil, List.replicate, List.cons_append, List.nil_append,
  sIf, Fc.tB, tT, tAndF, tOrF, tNotF, eBin, eUn, eVar_zero, eVar_succ, eC, pb, asB, asI, liftO_pure, sPar, aCons, aNil, sAsg, eCall, eDef, setT, setTs, sRet, sNil, sPar3, eTup, eLst, eIf, eIsi, eIsi2, isTy2, eNotT, eAndV, eOrV, eChain, eSl, oNone, oSome, sBk, sCt, itCall, itSeq, dItems,
  dAdd_int, dAdd_tup, dMul_tup, dRange1_ok, dRange2_ok, dSub, dDiv_ok, dMod_ok, dMul_okL, dMul_okR, len_ok, dLt, dLe, dGt, dGe, dEq_int, dNe_int, dNeg, dLen, dAbs, dInt, dGcd, dMax2_eq, dMin2, dSum_tup, dSum_lst, dLcm_ok, dDivmod_ok, dTuple, dList, dTru, dIs_non, dIsNot_non, dIs_bl, dIsNot_bl, isNon_int, isNon_bl, isNon_str, isNon_tup, isNon_lst, isNon_non, dEq_bl, dNe_bl, dIx_tup, dIx_lst, at0, at1, at2, dSl,
  isTy_int_non, isTy_int_bl, isTy_int_int, isTy_int_str, isTy_int_tup, isTy_int_lst, isTy_bool_non, isTy_bool_bl, isTy_bool_int, isTy_bool_str, isTy_bool_tup, isTy_bool_lst, isTy_tuple_non, isTy_tuple_bl, isTy_tuple_int, isTy_tuple_str, isTy_tuple_tup, isTy_tuple_lst, isTy_list_non, isTy_list_bl, isTy_list_int, isTy_list_str, isTy_list_tup, isTy_list_lst, isTy_str_non, isTy_str_bl, isTy_str_int, isTy_str_str, isTy_str_tup, isTy_str_lst,
  opt_bind_some, opt_map_some, Bool.or_true, Bool.true_or, Bool.or_false, Bool.false_or, Bool.not_true, Bool.not_false, Bool.and_true, Bool.true_and,
  decide_true, decide_false, if_tt, if_ff, if_T, if_F, set_zero, set_succ, endF_rt, endF_nx, decide_eq_true, decide_eq_false, *])
/-! ### idle stamps -/
def idleB (a b : Int) (s : St) (os : List St) : Bool := !os.isEmpty && (decide (s.lo ≤ lw a b os s.t) && decide (up a b os s.t ≤ s.hi))
section
variable {d T lo hi x y : D} {z : List D} {c1 c2 : Bool}
theorem st_idle0 : m_is_idle [d, x, .tup []] = pure (.bl false) := by
  unfold m_is_idle
  rw [bodyF_3]
  show (F_is_idle [some d, some x, some (.tup []), none, none] >>= endF) = _
  unfold F_is_idle
  refine q_ret (d := .bl false) (by
    rw [sIf_t (by rfl)]
    rfl) ?_
  rfl
theorem st_idle {v : D} (h : m_readings [d, .tup (v :: z), T] = pure (.tup [x, y])) (h1 : m_less [x, lo] = pure (.bl c1)) (h2 : m_less [hi, y] = pure (.bl c2)) : m_is_idle [d, .tup [T, lo, hi], .tup (v :: z)] = pure (.bl (!c1 && !c2)) := by
  unfold m_is_idle
  rw [bodyF_3]
  show (F_is_idle [some d, some (.tup [T, lo, hi]), some (.tup (v :: z)), none, none] >>= endF) = _
  unfold F_is_idle
  refine q_seq (δ1 := [some d, some (.tup [T, lo, hi]), some (.tup (v :: z)), none, none]) (by
    rw [sIf_f (by rfl)]
    rfl) ?_
  have e1 : eDef m_readings (aCons (eVar 0) (aCons (eVar 2) (aCons (eBin dIx (eVar 1) (eC (.int 0))) aNil))) [some d, some (.tup [T, lo, hi]), some (.tup (v :: z)), none, none] = pure (.tup [x, y]) := by
    generalize v :: z = zz at *
    walk_at "ev"
  refine q_seq (δ1 := [some d, some (.tup [T, lo, hi]), some (.tup (v :: z)), some x, some y]) (by
    show (eDef m_readings _ _ >>= fun dd => liftO (setT (.tp [.nm 3, .nm 4]) dd _) >>= fun δ' => pure (Out.nx, δ')) = _
    rw [e1, pb]
    rfl) ?_
  clear e1 h
  generalize v :: z = zz at *
  cases c1 <;> cases c2
  · refine q_end (d := .bl true) (by walk_at "ev" <;> rfl) ?_
    rfl
  · refine q_end (d := .bl false) (by walk_at "ev" <;> rfl) ?_
    rfl
  · refine q_end (d := .bl false) (by walk_at "ev" <;> rfl) ?_
    rfl
  · refine q_end (d := .bl false) (by walk_at "ev" <;> rfl) ?_
    rfl
end
section
variable {a b : Int} (R : Br a b)
include R
theorem is_idle6 {s : St} {os : List St} (hs : Bs s) (hos : ∀ o ∈ os, Bs o) (hl : os.length ≤ 1000) : m_is_idle [drD a b, stD s, .tup (os.map stD)] = pure (.bl (idleB a b s os)) := by
  cases os with
  | nil => exact st_idle0
  | cons o os =>
    have e := readings6 R (ss := o :: os) (by simp) hos hl hs.t
    obtain ⟨b1, b2⟩ := lw_bd R (ss := o :: os) (by simp) hos hs.t
    have h2 := hs.lo
    have h3 := hs.hi
    have e1 := r6_less (m := lw a b (o :: os) s.t) (n := s.lo) (by omega) (by omega)
    have e2 := r6_less (m := s.hi) (n := up a b (o :: os) s.t) (by omega) (by omega)
    have := st_idle (lo := R6 s.lo) (hi := R6 s.hi) e e1 e2
    show m_is_idle [drD a b, .tup [.int (s.t : Nat), R6 s.lo, R6 s.hi], .tup (stD o :: os.map stD)] = _
    rw [this]
    refine pure_inj ?_
    congr 1
    unfold idleB
    show (!decide (lw a b (o :: os) s.t < s.lo) && !decide (s.hi < up a b (o :: os) s.t)) = (true && (decide (s.lo ≤ lw a b (o :: os) s.t) && decide (up a b (o :: os) s.t ≤ s.hi)))
    rw [Bool.true_and]
    by_cases q1 : s.lo ≤ lw a b (o :: os) s.t <;> by_cases q2 : up a b (o :: os) s.t ≤ s.hi <;> simp [q1, q2] <;> omega
end
/-- is the k-th stamp idle -/
def idleAt (a b : Int) (ss : List St) (k : Nat) : Bool := match ss[k]? with
  | some s => idleB a b s (ss.take k ++ ss.drop (k + 1))
  | none => false
def idBody : F1 := (sIf (tT (eDef m_is_idle (aCons (eVar 0) (aCons (eVar 4) (aCons (eBin dAdd (eSl (eVar 1) oNone (oSome (eVar 3))) (eSl (eVar 1) (oSome (eBin dAdd (eVar 3) (eC (.int 1)))) oNone)) aNil))))) (sApp 2 (eVar 3)) sNil)
theorem st_idb {d S s : D} {l1 l2 L : List D} {k : Int} {c : Bool} (h1 : cutD L none (some k) = l1) (h2 : cutD L (some (k + 1)) none = l2) (hl : l1.length + l2.length ≤ 100000) (h : m_is_idle [d, s, .tup (l1 ++ l2)] = pure (.bl c)) {fl : List D} (hf : fl.length < 100000) :
    idBody [some d, some (.tup L), some (.lst fl), some (.int k), some s] = pure (.nx, [some d, some (.tup L), some (.lst (if c = true then fl ++ [.int k] else fl)), some (.int k), some s]) := by
  unfold idBody
  have e : eDef m_is_idle (aCons (eVar 0) (aCons (eVar 4) (aCons (eBin dAdd (eSl (eVar 1) oNone (oSome (eVar 3))) (eSl (eVar 1) (oSome (eBin dAdd (eVar 3) (eC (.int 1)))) oNone)) aNil))) [some d, some (.tup L), some (.lst fl), some (.int k), some s] = pure (.bl c) := by
    have e1 := dAdd_tup hl
    clear hf hl
    walk_at "ev"
  have t : tT (eDef m_is_idle (aCons (eVar 0) (aCons (eVar 4) (aCons (eBin dAdd (eSl (eVar 1) oNone (oSome (eVar 3))) (eSl (eVar 1) (oSome (eBin dAdd (eVar 3) (eC (.int 1)))) oNone)) aNil)))) [some d, some (.tup L), some (.lst fl), some (.int k), some s] = pure c := by
    show (eDef m_is_idle _ _ >>= fun x => liftO (dTru x)) = _
    rw [e, pb]
    rfl
  cases c with
  | false =>
    rw [sIf_f t]
    rfl
  | true =>
    rw [sIf_t t]
    have q : chg 2 (opApp (.int k)) [some d, some (.tup L), some (.lst fl), some (.int k), some s] = some [some d, some (.tup L), some (.lst (fl ++ [.int k])), some (.int k), some s] := by
      show (opApp (.int k) fl).map (fun ds' => _) = _
      unfold opApp
      rw [if_pos (show fl.length < LIM from hf), opt_map_some]
      rfl
    show ((pure (D.int k) : M D) >>= fun dd => liftO (chg 2 (opApp dd) _) >>= fun δ' => pure (Out.nx, δ')) = _
    rw [pb, q]
    rfl
theorem idle_list {a b : Int} {ss : List St} (R : Br a b) (hss : ∀ s ∈ ss, Bs s) (hl : ss.length ≤ 900) : m_idle_stamps [drD a b, .tup (ss.map stD)] = pure (.lst (((List.range ss.length).filter (idleAt a b ss)).map fun (k : Nat) => D.int (k : Nat))) := by
  obtain ⟨δ', e, x, y, rfl⟩ := forL_ix (T := .tp [.nm 3, .nm 4]) (F := idBody) (fun n δ => ∃ x y, δ = [some (drD a b), some (.tup (ss.map stD)), some (.lst (((List.range n).filter (idleAt a b ss)).map fun (k : Nat) => D.int (k : Nat))), x, y]) (ds := enumD 0 (ss.map stD)) (n := 0) (δ := [some (drD a b), some (.tup (ss.map stD)), some (.lst []), none, none]) ⟨none, none, rfl⟩ fun i d δ hi hδ => by
    rw [Nat.zero_add] at hδ ⊢
    obtain ⟨x, y, rfl⟩ := hδ
    have hlt : i < ss.length := by
      have := (List.getElem?_eq_some_iff.mp hi).1
      rw [enumD_len, List.length_map] at this
      exact this
    have hget : (ss.map stD)[i]? = some (stD ss[i]) := by rw [List.getElem?_map, List.getElem?_eq_getElem hlt]; rfl
    have hd := enumD_get (ss.map stD) 0 i _ hget
    rw [hi, Nat.zero_add] at hd
    cases hd
    have c1 : cutD (ss.map stD) none (some (i : Nat)) = (ss.take i).map stD := by
      rw [cut_take _ (by omega), ← List.map_take]
      congr 1
    have c2 : cutD (ss.map stD) (some ((i : Nat) + 1)) none = (ss.drop (i + 1)).map stD := by
      rw [cut_drop _ (by omega), ← List.map_drop]
      congr 1
    have idl : idleAt a b ss i = idleB a b ss[i] (ss.take i ++ ss.drop (i + 1)) := by
      unfold idleAt
      rw [List.getElem?_eq_getElem hlt]
    have ho : ∀ o ∈ ss.take i ++ ss.drop (i + 1), Bs o := fun o ho => by
      rcases List.mem_append.mp ho with ho | ho
      · exact hss o (List.mem_of_mem_take ho)
      · exact hss o (List.mem_of_mem_drop ho)
    have hll : (ss.take i ++ ss.drop (i + 1)).length ≤ 1000 := by
      rw [List.length_append, List.length_take, List.length_drop]
      omega
    have h := is_idle6 R (hss _ (List.getElem_mem hlt)) ho hll
    rw [List.map_append, ← idl] at h
    have st := st_idb (S := .non) (d := drD a b) (s := stD ss[i]) c1 c2 (by rw [List.length_map, List.length_map, List.length_take, List.length_drop]; omega) h (fl := ((List.range i).filter (idleAt a b ss)).map fun (k : Nat) => D.int (k : Nat)) (by
      rw [List.length_map]
      have := List.length_filter_le (idleAt a b ss) (List.range i)
      rw [List.length_range] at this
      omega)
    refine ⟨[some (drD a b), some (.tup (ss.map stD)), some (.lst (((List.range i).filter (idleAt a b ss)).map fun (k : Nat) => D.int (k : Nat))), some (.int (i : Nat)), some (stD ss[i])], _, rfl, .inl st, some (.int (i : Nat)), some (stD ss[i]), ?_⟩
    rw [List.range_succ, List.filter_append, List.map_append]
    cases hc : idleAt a b ss i with
    | true =>
      have : [i].filter (idleAt a b ss) = [i] := by simp [hc]
      rw [this]
      rfl
    | false =>
      have : [i].filter (idleAt a b ss) = [] := by simp [hc]
      rw [this, List.map_nil, List.append_nil]
      rfl
  rw [Nat.zero_add, enumD_len, List.length_map] at e
  unfold m_idle_stamps
  rw [bodyF_2]
  show (F_idle_stamps [some (drD a b), some (.tup (ss.map stD)), none, none, none] >>= endF) = _
  unfold F_idle_stamps
  refine q_seq (δ1 := [some (drD a b), some (.tup (ss.map stD)), some (.lst []), none, none]) rfl ?_
  refine q_for (ds := enumD 0 (ss.map stD)) rfl ?_
  show (forL _ idBody _ _ >>= _) = _
  rw [e, pb]
  rfl
/-! ### barring -/
section
variable {d T lo hi x y p q A B : D} {t u : Int}
theorem st_bar {T1 T2 : Int} {l1 h1 l2 h2 : D} (hT : T1 ≤ T2) (g1 : m_grown [h1, B, .int (T2 - T1)] = pure x) (g2 : m_less [x, l2] = pure (.bl false)) (g3 : m_grown [l1, A, .int (T2 - T1)] = pure y) (g4 : m_less [h2, y] = pure (.bl false)) :
    m_are_barring [.tup [A, B], .tup [.int T1, l1, h1], .tup [.int T2, l2, h2]] = pure (.bl false) := by
  unfold m_are_barring
  rw [bodyF_3]
  show (F_are_barring [some (.tup [A, B]), some (.tup [.int T1, l1, h1]), some (.tup [.int T2, l2, h2]), none] >>= endF) = _
  unfold F_are_barring
  have c : ¬ T2 < T1 := by omega
  refine q_seq (δ1 := [some (.tup [A, B]), some (.tup [.int T1, l1, h1]), some (.tup [.int T2, l2, h2]), none]) (by
    rw [sIf_f (by
      clear g1 g2 g3 g4
      walk_at "ev")]
    rfl) ?_
  refine q_seq (δ1 := [some (.tup [A, B]), some (.tup [.int T1, l1, h1]), some (.tup [.int T2, l2, h2]), some (.int (T2 - T1))]) (by
    clear g1 g2 g3 g4
    walk_at "ev" <;> rfl) ?_
  clear c hT
  generalize T2 - T1 = u at *
  refine q_seq (δ1 := [some (.tup [A, B]), some (.tup [.int T1, l1, h1]), some (.tup [.int T2, l2, h2]), some (.int u)]) (by
    rw [sIf_f (by
      clear g3 g4
      walk_at "ev")]
    rfl) ?_
  clear g1 g2
  refine q_end (d := .bl false) (by walk_at "ev" <;> rfl) ?_
  rfl
theorem st_bar' {T1 T2 : Int} {l1 h1 l2 h2 : D} (hT : T2 < T1) (g1 : m_grown [h2, B, .int (T1 - T2)] = pure x) (g2 : m_less [x, l1] = pure (.bl false)) (g3 : m_grown [l2, A, .int (T1 - T2)] = pure y) (g4 : m_less [h1, y] = pure (.bl false)) :
    m_are_barring [.tup [A, B], .tup [.int T1, l1, h1], .tup [.int T2, l2, h2]] = pure (.bl false) := by
  unfold m_are_barring
  rw [bodyF_3]
  show (F_are_barring [some (.tup [A, B]), some (.tup [.int T1, l1, h1]), some (.tup [.int T2, l2, h2]), none] >>= endF) = _
  unfold F_are_barring
  refine q_seq (δ1 := [some (.tup [A, B]), some (.tup [.int T2, l2, h2]), some (.tup [.int T1, l1, h1]), none]) (by
    rw [sIf_t (by
      clear g1 g2 g3 g4
      walk_at "ev")]
    rfl) ?_
  refine q_seq (δ1 := [some (.tup [A, B]), some (.tup [.int T2, l2, h2]), some (.tup [.int T1, l1, h1]), some (.int (T1 - T2))]) (by
    clear g1 g2 g3 g4
    walk_at "ev" <;> rfl) ?_
  clear hT
  generalize T1 - T2 = u at *
  refine q_seq (δ1 := [some (.tup [A, B]), some (.tup [.int T2, l2, h2]), some (.tup [.int T1, l1, h1]), some (.int u)]) (by
    rw [sIf_f (by
      clear g3 g4
      walk_at "ev")]
    rfl) ?_
  clear g1 g2
  refine q_end (d := .bl false) (by walk_at "ev" <;> rfl) ?_
  rfl
end
section
variable {a b : Int} {C : Nat → Int} (R : Br a b) (hC : Lip a b 12 C)
include R hC
theorem bar6 {s o : St} (hs : Bs s) (ho : Bs o) (fs : Fit C 12 s) (fo : Fit C 12 o) : m_are_barring [drD a b, stD s, stD o] = pure (.bl false) := by
  have := R.a0; have := R.ab; have := R.b1
  have b1 := hs.t; have b2 := hs.lo; have b3 := hs.hi
  have b4 := ho.t; have b5 := ho.lo; have b6 := ho.hi
  by_cases c : s.t ≤ o.t
  · obtain ⟨n1, n2⟩ := no_bar hC fs fo c
    have q1 : (b * ((o.t : Int) - s.t)).natAbs ≤ 50 * 12 := mul_bd (by omega) (by omega)
    have q2 : (a * ((o.t : Int) - s.t)).natAbs ≤ 50 * 12 := mul_bd (by omega) (by omega)
    refine st_bar (by omega) (grown6 (by omega) (by omega) (by omega)) ?_ (grown6 (by omega) (by omega) (by omega)) ?_
    · rw [r6_less (by omega) (by omega), decide_eq_false n1]
    · rw [r6_less (by omega) (by omega), decide_eq_false n2]
  · obtain ⟨n1, n2⟩ := no_bar hC fo fs (by omega)
    have q1 : (b * ((s.t : Int) - o.t)).natAbs ≤ 50 * 12 := mul_bd (by omega) (by omega)
    have q2 : (a * ((s.t : Int) - o.t)).natAbs ≤ 50 * 12 := mul_bd (by omega) (by omega)
    refine st_bar' (by omega) (grown6 (by omega) (by omega) (by omega)) ?_ (grown6 (by omega) (by omega) (by omega)) ?_
    · rw [r6_less (by omega) (by omega), decide_eq_false n1]
    · rw [r6_less (by omega) (by omega), decide_eq_false n2]
omit R hC in
theorem sFor_eq (T : Tg) (fs : Fc.Env → M (List D)) (F : F1) (δ : Fc.Env) : sFor T fs F δ = (fs δ >>= fun ds => forL T F ds δ) := rfl
omit R hC in
theorem st_rng {d s : D} {x : Option D} {L ds : List D} {k : Int} (h : dRange2 [.int (k + 1), .int (L.length : Nat)] = some ds) : itCall dRange2 (aCons (eBin dAdd (eVar 2) (eC (.int 1))) (aCons (eCall dLen (aCons (eVar 1) aNil)) aNil)) [some d, some (.tup L), some (.int k), some s, x] = pure ds := by
  walk_at "ev"
def barIn : F1 := (sIf (tT (eDef m_are_barring (aCons (eVar 0) (aCons (eVar 3) (aCons (eBin dIx (eVar 1) (eVar 4)) aNil))))) (sRet (eTup (aCons (eVar 2) (aCons (eVar 4) aNil)))) sNil)
omit R hC in
theorem st_barIn {d s o k : D} {L : List D} {j : Int} (h1 : atI L j = some o) (h2 : m_are_barring [d, s, o] = pure (.bl false)) : barIn [some d, some (.tup L), some k, some s, some (.int j)] = pure (.nx, [some d, some (.tup L), some k, some s, some (.int j)]) := by
  unfold barIn
  rw [sIf_f (by walk_at "ev")]
  rfl
theorem barring6 {ss : List St} (hss : ∀ s ∈ ss, Bs s) (hf : ∀ s ∈ ss, Fit C 12 s) (hl : ss.length ≤ 900) : m_barring [drD a b, .tup (ss.map stD)] = pure .non := by
  have outer : ∃ δ', forL (.tp [.nm 2, .nm 3]) (sFor (.nm 4) (itCall dRange2 (aCons (eBin dAdd (eVar 2) (eC (.int 1))) (aCons (eCall dLen (aCons (eVar 1) aNil)) aNil))) barIn) (enumD 0 (ss.map stD)) [some (drD a b), some (.tup (ss.map stD)), none, none, none] = pure (.nx, δ') ∧ ∃ x y z, δ' = [some (drD a b), some (.tup (ss.map stD)), x, y, z] := by
    obtain ⟨δ', e, h⟩ := forL_ix (T := .tp [.nm 2, .nm 3]) (F := sFor (.nm 4) (itCall dRange2 (aCons (eBin dAdd (eVar 2) (eC (.int 1))) (aCons (eCall dLen (aCons (eVar 1) aNil)) aNil))) barIn) (fun _ δ => ∃ x y z, δ = [some (drD a b), some (.tup (ss.map stD)), x, y, z]) (ds := enumD 0 (ss.map stD)) (n := 0) (δ := [some (drD a b), some (.tup (ss.map stD)), none, none, none]) ⟨none, none, none, rfl⟩ fun i d δ hi hδ => by
      obtain ⟨x, y, z, rfl⟩ := hδ
      have hlt : i < ss.length := by
        have := (List.getElem?_eq_some_iff.mp hi).1
        rw [enumD_len, List.length_map] at this
        exact this
      have hget : (ss.map stD)[i]? = some (stD ss[i]) := by rw [List.getElem?_map, List.getElem?_eq_getElem hlt]; rfl
      have hd := enumD_get (ss.map stD) 0 i _ hget
      rw [hi, Nat.zero_add] at hd
      cases hd
      obtain ⟨δ2, e2, w, rfl⟩ := forL_rng (T := .nm 4) (F := barIn) (fun _ δ => ∃ w, δ = [some (drD a b), some (.tup (ss.map stD)), some (.int (i : Nat)), some (stD ss[i]), w]) (lo := (i : Nat) + 1) (n := ss.length - (i + 1)) (δ := [some (drD a b), some (.tup (ss.map stD)), some (.int (i : Nat)), some (stD ss[i]), z]) ⟨z, rfl⟩ fun k δ hk hδ => by
        obtain ⟨w, rfl⟩ := hδ
        have hz : ((i : Nat) : Int) + 1 + k = ((i + 1 + k : Nat) : Int) := by omega
        rw [hz]
        have hlt2 : i + 1 + k < ss.length := by omega
        have at2 : atI (ss.map stD) ((i + 1 + k : Nat) : Int) = some (stD ss[i + 1 + k]) := atI_nat (by rw [List.getElem?_map, List.getElem?_eq_getElem hlt2]; rfl)
        have hb := bar6 R hC (hss _ (List.getElem_mem hlt)) (hss _ (List.getElem_mem hlt2)) (hf _ (List.getElem_mem hlt)) (hf _ (List.getElem_mem hlt2))
        exact ⟨_, _, rfl, .inl (st_barIn at2 hb), _, rfl⟩
      refine ⟨[some (drD a b), some (.tup (ss.map stD)), some (.int (i : Nat)), some (stD ss[i]), z], [some (drD a b), some (.tup (ss.map stD)), some (.int (i : Nat)), some (stD ss[i]), w], rfl, .inl ?_, some (.int (i : Nat)), some (stD ss[i]), w, rfl⟩
      · have e3 : itCall dRange2 (aCons (eBin dAdd (eVar 2) (eC (.int 1))) (aCons (eCall dLen (aCons (eVar 1) aNil)) aNil)) [some (drD a b), some (.tup (ss.map stD)), some (.int (i : Nat)), some (stD ss[i]), z] = pure (rangeD ((i : Nat) + 1) (ss.length - (i + 1))) := by
          have ed : dRange2 [.int ((i : Nat) + 1), .int ((ss.map stD).length : Nat)] = some (rangeD ((i : Nat) + 1) (ss.length - (i + 1))) := by
            rw [List.length_map, dRange2_ok (by omega) (by omega) (by omega) (by omega)]
            have : (((ss.length : Nat) : Int) - ((i : Nat) + 1)).toNat = ss.length - (i + 1) := by omega
            rw [this]
          exact st_rng ed
        rw [sFor_eq, e3, pb]
        exact e2
    exact ⟨δ', e, h⟩
  obtain ⟨δ', e, x, y, z, rfl⟩ := outer
  unfold m_barring
  rw [bodyF_2]
  show (F_barring [some (drD a b), some (.tup (ss.map stD)), none, none, none] >>= endF) = _
  unfold F_barring
  refine q_for (ds := enumD 0 (ss.map stD)) rfl ?_
  show (forL _ (sFor (.nm 4) _ barIn) _ _ >>= _) = _
  rw [e, pb]
  rfl
end
end K89

namespace K89
open PySem L2 Fc Sh
local macro_rules | `(tactic| walk_at "ev") => `(tactic| simp (disch := omega) only [List.map_cons, List.map_nil, List.length_cons, List.length_nil, List.replicate, List.cons_append, List.nil_append,
  sIf, Fc.tB, tT, tAndF, tOrF, tNotF, eBin, eUn, eVar_zero, eVar_succ, eC, pb, asB, asI, liftO_pure, sPar, aCons, aNil, sAsg, eCall, eDef, setT, setTs, sRet, sNil, sPar3, eTup, eLst, eIf, eIsi, eIsi2, isTy2, eNotT, eAndV, eOrV, eChain, eSl, oNone, oSome, sBk, sCt, itCall, itSeq, dItems,
  dAdd_int, dAdd_tup, dMul_tup, dRange1_ok, dRange2_ok, dSub, dDiv_ok, dMod_ok, dMul_okL, dMul_okR, len_ok, dLt, dLe, dGt, dGe, dEq_int, dNe_int, dNeg, dLen, dAbs, dInt, dGcd, dMax2_eq, dMin2, dSum_tup, dSum_lst, dLcm_ok, dDivmod_ok, dTuple, dList, dTru, dIs_non, dIsNot_non, dIs_bl, dIsNot_bl, isNon_int, isNon_bl, isNon_str, isNon_tup, isNon_lst, isNon_non, dEq_bl, dNe_bl, dIx_tup, dIx_lst, at0, at1, at2, dSl,
  isTy_int_non, isTy_int_bl, isTy_int_int, isTy_int_str, isTy_int_tup, isTy_int_lst, isTy_bool_non, isTy_bool_bl, isTy_bool_int, isTy_bool_str, isTy_bool_tup, isTy_bool_lst, isTy_tuple_non, isTy_tuple_bl, isTy_tuple_int, isTy_tuple_str, isTy_tuple_tup, isTy_tuple_lst, isTy_list_non, isTy_list_bl, isTy_list_int, isTy_list_str, isTy_list_tup, isTy_list_lst, isTy_str_non, isTy_str_bl, isTy_str_int, isTy_str_str, isTy_str_tup, isTy_str_lst,
  opt_bind_some, opt_map_some, Bool.or_true, Bool.true_or, Bool.or_false, Bool.false_or, Bool.not_true, Bool.not_false, Bool.and_true, Bool.true_and,
  decide_true, decide_false, if_tt, if_ff, if_T, if_F, set_zero, set_succ, endF_rt, endF_nx, decide_eq_true, decide_eq_false, *])
/-! ### when a reading can be -/
section
variable {A B lo hi v w q : D} {T k : Int} {c : Bool}
theorem st_fw (h1 : m_subtract [v, hi] = pure w) (h2 : m_less [.tup [.int 0, .int 1], w] = pure (.bl c)) (h3 : m_divide [w, if c = true then B else A] = pure q) (h4 : m_ceiling_of [q] = pure (.int k)) : m_first_with [.tup [A, B], .tup [.int T, lo, hi], v] = pure (.int (T + k)) := by
  unfold m_first_with
  rw [bodyF_3]
  show (F_first_with [some (.tup [A, B]), some (.tup [.int T, lo, hi]), some v, none, none, none, none, none] >>= endF) = _
  unfold F_first_with
  refine q_seq (δ1 := [some (.tup [A, B]), some (.tup [.int T, lo, hi]), some v, some (.int T), some lo, some hi, none, none]) rfl ?_
  refine q_seq (δ1 := [some (.tup [A, B]), some (.tup [.int T, lo, hi]), some v, some (.int T), some lo, some hi, some w, none]) (by
    clear h2 h3 h4
    walk_at "ev" <;> rfl) ?_
  refine q_seq (δ1 := [some (.tup [A, B]), some (.tup [.int T, lo, hi]), some v, some (.int T), some lo, some hi, some w, some (if c = true then B else A)]) (by
    clear h1 h3 h4
    cases c <;> walk_at "ev" <;> rfl) ?_
  clear h1 h2
  generalize (if c = true then B else A) = r at *
  refine q_end (d := .int (T + k)) (by walk_at "ev" <;> rfl) ?_
  rfl
theorem st_lw (h1 : m_subtract [v, lo] = pure w) (h2 : m_less [w, .tup [.int 0, .int 1]] = pure (.bl c)) (h3 : m_divide [w, if c = true then B else A] = pure q) (h4 : m_floor_of [q] = pure (.int k)) : m_last_with [.tup [A, B], .tup [.int T, lo, hi], v] = pure (.int (T + k)) := by
  unfold m_last_with
  rw [bodyF_3]
  show (F_last_with [some (.tup [A, B]), some (.tup [.int T, lo, hi]), some v, none, none, none, none, none] >>= endF) = _
  unfold F_last_with
  refine q_seq (δ1 := [some (.tup [A, B]), some (.tup [.int T, lo, hi]), some v, some (.int T), some lo, some hi, none, none]) rfl ?_
  refine q_seq (δ1 := [some (.tup [A, B]), some (.tup [.int T, lo, hi]), some v, some (.int T), some lo, some hi, some w, none]) (by
    clear h2 h3 h4
    walk_at "ev" <;> rfl) ?_
  refine q_seq (δ1 := [some (.tup [A, B]), some (.tup [.int T, lo, hi]), some v, some (.int T), some lo, some hi, some w, some (if c = true then B else A)]) (by
    clear h1 h3 h4
    cases c <;> walk_at "ev" <;> rfl) ?_
  clear h1 h2
  generalize (if c = true then B else A) = r at *
  refine q_end (d := .int (T + k)) (by walk_at "ev" <;> rfl) ?_
  rfl
end
section
variable {a b : Int} (R : Br a b)
include R
theorem fw6 {s : St} (hs : Bs s) {v : Int} (hv : v.natAbs ≤ 2000) : m_first_with [drD a b, stD s, R6 v] = pure (.int (fw a b s v)) := by
  have := R.a0; have := R.ab; have := R.b1
  have h3 := hs.hi
  have z : (.tup [.int 0, .int 1] : D) = R6 0 := r6_int 0
  have e2 := r6_less (m := 0) (n := v - s.hi) (by omega) (by omega)
  rw [← z] at e2
  have er : (if decide (0 < v - s.hi) = true then R6 b else R6 a) = R6 (if 0 < v - s.hi then b else a) := by
    by_cases c : 0 < v - s.hi
    · rw [if_pos (decide_eq_true c), if_pos c]
    · rw [if_neg (by simpa using c), if_neg c]
  have hr : 0 < (if 0 < v - s.hi then b else a) ∧ (if 0 < v - s.hi then b else a) ≤ 50 := by split <;> omega
  refine st_fw (r6_sub (by omega) (by omega)) e2 ?_ (ceil_rat hr.1 (by omega))
  rw [er]
  exact r6_div (by omega) (by omega) hr.1
theorem lw6 {s : St} (hs : Bs s) {v : Int} (hv : v.natAbs ≤ 2000) : m_last_with [drD a b, stD s, R6 v] = pure (.int (lwi a b s v)) := by
  have := R.a0; have := R.ab; have := R.b1
  have h3 := hs.lo
  have z : (.tup [.int 0, .int 1] : D) = R6 0 := r6_int 0
  have e2 := r6_less (m := v - s.lo) (n := 0) (by omega) (by omega)
  rw [← z] at e2
  have er : (if decide (v - s.lo < 0) = true then R6 b else R6 a) = R6 (if v - s.lo < 0 then b else a) := by
    by_cases c : v - s.lo < 0
    · rw [if_pos (decide_eq_true c), if_pos c]
    · rw [if_neg (by simpa using c), if_neg c]
  have hr : 0 < (if v - s.lo < 0 then b else a) ∧ (if v - s.lo < 0 then b else a) ≤ 50 := by split <;> omega
  refine st_lw (r6_sub (by omega) (by omega)) e2 ?_ (floor_rat hr.1 (by omega))
  rw [er]
  exact r6_div (by omega) (by omega) hr.1
end
theorem st_times {d S v : D} {l1 l2 : List Int} {F L : Int} (h1 : ∀ δ : Fc.Env, δ = [some d, some S, some v, none, none, none] → eLc [5] (.nm 5) (itSeq (eVar 1)) tYesF (eDef m_first_with (aCons (eVar 0) (aCons (eVar 5) (aCons (eVar 2) aNil)))) δ = pure (.lst (zl l1)))
    (h2 : ∀ δ : Fc.Env, δ = [some d, some S, some v, some (.int F), none, none] → eLc [5] (.nm 5) (itSeq (eVar 1)) tYesF (eDef m_last_with (aCons (eVar 0) (aCons (eVar 5) (aCons (eVar 2) aNil)))) δ = pure (.lst (zl l2)))
    (hF : (0 :: l1).max? = some F) (hL : l2.min? = some L) (hl : l1.length ≤ 1000) (hFL : F ≤ L) : m_times_of [d, S, v] = pure (.tup [.int F, .int L]) := by
  have e1 := h1 _ rfl
  have e2 := h2 _ rfl
  have ec : dCat (.lst [.int 0]) (.lst (zl l1)) = some (.lst (zl (0 :: l1))) := by
    show (if ([D.int 0] : List D).length + (zl l1).length ≤ LIM then some (D.lst ([.int 0] ++ zl l1)) else none) = _
    rw [if_pos (by
      rw [ints_len]
      show 1 + l1.length ≤ 100000
      omega)]
    rfl
  have em := dMax1_zl hF
  have en := dMin1_zl hL
  unfold m_times_of
  rw [bodyF_3]
  show (F_times_of [some d, some S, some v, none, none, none] >>= endF) = _
  unfold F_times_of
  clear h1 h2 hF hL hl
  refine q_seq (δ1 := [some d, some S, some v, some (.int F), none, none]) (by
    clear e2 en hFL
    walk_at "ev" <;> rfl) ?_
  refine q_seq (δ1 := [some d, some S, some v, some (.int F), some (.int L), none]) (by
    clear e1 ec em hFL
    walk_at "ev" <;> rfl) ?_
  clear e1 e2 ec em en
  refine q_end (d := .tup [.int F, .int L]) (by walk_at "ev" <;> rfl) ?_
  rfl
theorem times6 {a b : Int} {C : Nat → Int} {ss : List St} (R : Br a b) (hC : Lip a b 12 C) (hne : ss ≠ []) (hss : ∀ s ∈ ss, Bs s) (hf : ∀ s ∈ ss, Fit C 12 s) (hl : ss.length ≤ 900) {t : Nat} (ht : t ≤ 12) (hv : (C t).natAbs ≤ 2000) :
    ∃ F L : Int, m_times_of [drD a b, .tup (ss.map stD), R6 (C t)] = pure (.tup [.int F, .int L]) ∧ F ≤ t ∧ t ≤ L := by
  have h1 : ∀ s ∈ ss, fw a b s (C t) ≤ t := fun s hs => fw_le R.a0 R.ab hC (hf s hs) ht
  have h2 : ∀ s ∈ ss, (t : Int) ≤ lwi a b s (C t) := fun s hs => le_lwi R.a0 R.ab hC (hf s hs) ht
  obtain ⟨F, hF⟩ : ∃ F, (0 :: ss.map fun s => fw a b s (C t)).max? = some F := by
    cases q : (0 :: ss.map fun s => fw a b s (C t)).max? with
    | some F => exact ⟨F, rfl⟩
    | none => simp at q
  obtain ⟨L, hL⟩ : ∃ L, (ss.map fun s => lwi a b s (C t)).min? = some L := by
    cases q : (ss.map fun s => lwi a b s (C t)).min? with
    | some L => exact ⟨L, rfl⟩
    | none =>
      rw [List.min?_eq_none_iff, List.map_eq_nil_iff] at q
      exact absurd q hne
  have f1 : F ≤ t := by
    obtain ⟨m, _⟩ := List.max?_eq_some_iff.mp hF
    rcases List.mem_cons.mp m with e | m
    · omega
    · obtain ⟨s, hs, rfl⟩ := List.mem_map.mp m
      exact h1 s hs
  have f2 : (t : Int) ≤ L := by
    obtain ⟨m, _⟩ := List.min?_eq_some_iff.mp hL
    obtain ⟨s, hs, rfl⟩ := List.mem_map.mp m
    exact h2 s hs
  refine ⟨F, L, st_times (l1 := ss.map fun s => fw a b s (C t)) (l2 := ss.map fun s => lwi a b s (C t)) (fun δ hδ => ?_) (fun δ hδ => ?_) hF hL (by rw [List.length_map]; omega) (by omega), f1, f2⟩
  · subst hδ
    refine eLc_eq (ds := ss.map stD) rfl (by rw [List.length_map]; omega) ?_
    show lcL (.nm 5) tYesF _ [some (drD a b), some (.tup (ss.map stD)), some (R6 (C t)), none, none, none] (ss.map stD) = _
    have : ∀ l : List St, (∀ s ∈ l, Bs s) → lcL (.nm 5) tYesF (eDef m_first_with (aCons (eVar 0) (aCons (eVar 5) (aCons (eVar 2) aNil)))) [some (drD a b), some (.tup (ss.map stD)), some (R6 (C t)), none, none, none] (l.map stD) = pure (zl (l.map fun s => fw a b s (C t))) := by
      intro l
      induction l with
      | nil => intro _; rfl
      | cons s l ih =>
        intro h
        show (m_first_with [drD a b, stD s, R6 (C t)] >>= fun y => lcL _ _ _ _ (l.map stD) >>= fun ys => pure (y :: ys)) = _
        rw [fw6 R (h s List.mem_cons_self) hv, pb, ih fun x hx => h x (List.mem_cons_of_mem _ hx), pb]
        rfl
    exact this ss hss
  · subst hδ
    refine eLc_eq (ds := ss.map stD) rfl (by rw [List.length_map]; omega) ?_
    show lcL (.nm 5) tYesF _ [some (drD a b), some (.tup (ss.map stD)), some (R6 (C t)), some (.int F), none, none] (ss.map stD) = _
    have : ∀ l : List St, (∀ s ∈ l, Bs s) → lcL (.nm 5) tYesF (eDef m_last_with (aCons (eVar 0) (aCons (eVar 5) (aCons (eVar 2) aNil)))) [some (drD a b), some (.tup (ss.map stD)), some (R6 (C t)), some (.int F), none, none] (l.map stD) = pure (zl (l.map fun s => lwi a b s (C t))) := by
      intro l
      induction l with
      | nil => intro _; rfl
      | cons s l ih =>
        intro h
        show (m_last_with [drD a b, stD s, R6 (C t)] >>= fun y => lcL _ _ _ _ (l.map stD) >>= fun ys => pure (y :: ys)) = _
        rw [lw6 R (h s List.mem_cons_self) hv, pb, ih fun x hx => h x (List.mem_cons_of_mem _ hx), pb]
        rfl
    exact this ss hss
end K89

namespace K89
open PySem L2 Fc Sh
local macro_rules | `(tactic| walk_at "ev") => `(tactic| simp (disch := omega) only [List.map_cons, List.map_nil, List.length_cons, List.length_nil, List.replicate, List.cons_append, List.nil_append,
  sIf, Fc.tB, tT, tAndF, tOrF, tNotF, eBin, eUn, eVar_zero, eVar_succ, eC, pb, asB, asI, liftO_pure, sPar, aCons, aNil, sAsg, eCall, eDef, setT, setTs, sRet, sNil, sPar3, eTup, eLst, eIf, eIsi, eIsi2, isTy2, eNotT, eAndV, eOrV, eChain, eSl, oNone, oSome, sBk, sCt, itCall, itSeq, dItems,
  dAdd_int, dAdd_tup, dMul_tup, dRange1_ok, dRange2_ok, dSub, dDiv_ok, dMod_ok, dMul_okL, dMul_okR, len_ok, dLt, dLe, dGt, dGe, dEq_int, dNe_int, dNeg, dLen, dAbs, dInt, dGcd, dMax2_eq, dMin2, dSum_tup, dSum_lst, dLcm_ok, dDivmod_ok, dTuple, dList, dTru, dIs_non, dIsNot_non, dIs_bl, dIsNot_bl, isNon_int, isNon_bl, isNon_str, isNon_tup, isNon_lst, isNon_non, dEq_bl, dNe_bl, dIx_tup, dIx_lst, at0, at1, at2, dSl,
  isTy_int_non, isTy_int_bl, isTy_int_int, isTy_int_str, isTy_int_tup, isTy_int_lst, isTy_bool_non, isTy_bool_bl, isTy_bool_int, isTy_bool_str, isTy_bool_tup, isTy_bool_lst, isTy_tuple_non, isTy_tuple_bl, isTy_tuple_int, isTy_tuple_str, isTy_tuple_tup, isTy_tuple_lst, isTy_list_non, isTy_list_bl, isTy_list_int, isTy_list_str, isTy_list_tup, isTy_list_lst, isTy_str_non, isTy_str_bl, isTy_str_int, isTy_str_str, isTy_str_tup, isTy_str_lst,
  opt_bind_some, opt_map_some, Bool.or_true, Bool.true_or, Bool.or_false, Bool.false_or, Bool.not_true, Bool.not_false, Bool.and_true, Bool.true_and,
  decide_true, decide_false, if_tt, if_ff, if_T, if_F, set_zero, set_succ, endF_rt, endF_nx, decide_eq_true, decide_eq_false, *])
theorem wp_seq {F F' : F1} {δ δ1 : Fc.Env} {Q : Out × Fc.Env → Dw → Prop} {w : Dw} (h : F δ = pure (.nx, δ1)) (k : wp (F' δ1) Q w) : wp (sSeq F F' δ) Q w := by
  rw [sSeq_nx h]
  exact k
theorem wp_seqW {F F' : F1} {δ : Fc.Env} {Q : Out × Fc.Env → Dw → Prop} {w : Dw} (h : wp (F δ) (fun p w' => ∃ δ1, p = (.nx, δ1) ∧ wp (F' δ1) Q w') w) : wp (sSeq F F' δ) Q w := by
  rw [sSeq_eq, wp_bind]
  refine wp_mono h fun p w' ⟨δ1, e, k⟩ => ?_
  subst e
  exact k
def EndT (p : Out × Fc.Env) (_ : Dw) : Prop := ∃ δ, p = (.rt (.bl true), δ)
theorem wp_if {c : Fc.Env → M Bool} {A F' : F1} {δ : Fc.Env} {Q : Out × Fc.Env → Dw → Prop} {w : Dw} (h : c δ = pure false) (k : wp (F' δ) Q w) : wp (sSeq (sIf c A sNil) F' δ) Q w := by
  rw [sSeq_nx (δ1 := δ) (by rw [sIf_f h]; rfl)]
  exact k
theorem sIf_no {c : Fc.Env → M Bool} {A : F1} {δ : Fc.Env} (h : c δ = pure false) : sIf c A sNil δ = pure (.nx, δ) := by
  rw [sIf_f h]
  rfl
/-- a loop whose turns draw -/
theorem wp_forL {T : Tg} {F : F1} (Pv : Nat → Fc.Env → Prop) : ∀ {ds : List D} {δ : Fc.Env} {n : Nat} {Q : Out × Fc.Env → Dw → Prop} {w : Dw}, Pv n δ → (∀ i d δ w, ds[i]? = some d → Pv (n + i) δ → ∃ δ1, setT T d δ = some δ1 ∧ wp (F δ1) (fun p _ => ∃ δ2, p = (.nx, δ2) ∧ Pv (n + i + 1) δ2) w) → (∀ δ' w', Pv (n + ds.length) δ' → Q (.nx, δ') w') → wp (forL T F ds δ) Q w
  | [], δ, n, Q, w, h, _, hq => by
    show wp (pure (Out.nx, δ)) Q w
    rw [wp_pure]
    exact hq δ w h
  | d :: ds, δ, n, Q, w, h, k, hq => by
    obtain ⟨δ1, h1, h2⟩ := k 0 d δ w rfl h
    have e0 : forL T F (d :: ds) δ = (liftO (setT T d δ) >>= fun δ1 => F δ1 >>= fun p => match p.1 with
      | .nx => forL T F ds p.2
      | .ct => forL T F ds p.2
      | .bk => pure (.nx, p.2)
      | .rt d => pure (.rt d, p.2)) := rfl
    rw [e0, h1, liftO_pure, pb, wp_bind]
    refine wp_mono h2 fun p w' ⟨δ2, e, hp⟩ => ?_
    subst e
    refine wp_forL Pv (n := n + 1) hp (fun i d' δ' w'' hi hp' => ?_) fun δ' w'' hp' => hq δ' w'' (by
      have e2 : n + (d :: ds).length = n + 1 + ds.length := by
        rw [List.length_cons]
        omega
      rw [e2]
      exact hp')
    have e1 : n + 1 + i = n + (i + 1) := by omega
    rw [e1] at hp' ⊢
    exact k (i + 1) d' δ' w'' hi hp'
theorem lcL_rng {T : Tg} {f : Fc.Env → M D} {δ : Fc.Env} (v : Nat → D) {n : Nat} (h : ∀ i, i < n → ∃ δ1, setT T (.int (i : Nat)) δ = some δ1 ∧ f δ1 = pure (v i)) : lcL T tYesF f δ (rangeD 0 n) = pure ((List.range n).map v) := by
  rw [lcL_map (fun d => match d with | .int k => v k.toNat | _ => .non) fun d hd => ?_]
  · refine pure_inj ?_
    unfold rangeD
    rw [List.map_map]
    refine List.map_congr_left fun i _ => ?_
    show v ((0 : Int) + (i : Nat)).toNat = v i
    have : ((0 : Int) + (i : Nat)).toNat = i := by omega
    rw [this]
  · obtain ⟨i, hi, rfl⟩ := range_mem hd
    have hz : (0 : Int) + i = (i : Nat) := by omega
    rw [hz]
    obtain ⟨δ1, h1, h2⟩ := h i hi
    refine ⟨δ1, h1, ?_⟩
    show _ = pure (v ((i : Nat) : Int).toNat)
    have : ((i : Nat) : Int).toNat = i := by omega
    rw [this]
    exact h2
/-! ### data that may be compared -/
theorem sh_pair (a b c d : Int) : (D.tup [.tup [.int a, .int b], .tup [.int c, .int d]]).sh = true := rfl
theorem eqv_pair (a b c d : Int) : (D.tup [.tup [.int a, .int b], .tup [.int c, .int d]]).eqv (.tup [.tup [.int a, .int b], .tup [.int c, .int d]]) = true := by
  show (((a == a) && ((b == b) && true)) && (((c == c) && ((d == d) && true)) && true)) = true
  simp
theorem dNe_pair (m n : Int) : dNe (.tup [R6 m, R6 n]) (.tup [R6 m, R6 n]) = some (.bl false) := by
  unfold R6 ratD dNe
  rw [if_pos ⟨sh_pair _ _ _ _, sh_pair _ _ _ _⟩]
  show some (D.bl (!(D.tup [.tup [.int (rn m 6), .int (rd m 6)], .tup [.int (rn n 6), .int (rd n 6)]]).eqv (.tup [.tup [.int (rn m 6), .int (rd m 6)], .tup [.int (rn n 6), .int (rd n 6)]]))) = _
  rw [eqv_pair]
  rfl
theorem sts_dats : ∀ l : List St, D.dats (l.map stD) = true
  | [] => rfl
  | s :: l => by
    show (D.dat (stD s) && D.dats (l.map stD)) = true
    rw [sts_dats l]
    rfl
theorem sts_lay : ∀ l : List St, PyData.canLayAll0 (D.pds (l.map stD)) = true
  | [] => rfl
  | s :: l => by
    show (PyData.canLay0 (D.pd (stD s)) && PyData.canLayAll0 (D.pds (l.map stD))) = true
    rw [sts_lay l]
    rfl
theorem sts_depth : ∀ l : List St, PyData.depthAll (D.pds (l.map stD)) ≤ 2
  | [] => Nat.zero_le _
  | s :: l => by
    show max (PyData.depth (D.pd (stD s))) (PyData.depthAll (D.pds (l.map stD))) ≤ 2
    have := sts_depth l
    have e : PyData.depth (D.pd (stD s)) = 2 := rfl
    omega
theorem sh_sts (l : List St) : (D.tup (l.map stD)).sh = true := by
  have := sts_depth l
  show (D.dats (l.map stD) && (PyData.canLayAll0 (D.pds (l.map stD)) && decide (PyData.depthAll (D.pds (l.map stD)) + 1 ≤ 64))) = true
  rw [sts_dats, sts_lay, decide_eq_true (by omega)]
  rfl
theorem dNe_nil (l : List St) : dNe (.tup (l.map stD)) (.tup []) = some (.bl (!l.isEmpty)) := by
  unfold dNe
  rw [if_pos ⟨sh_sts l, rfl⟩]
  show some (D.bl (!PyData.eqv (.tuple (D.pds (l.map stD))) (.tuple []))) = _
  rw [PyData.eqv]
  cases l with
  | nil => rfl
  | cons s l =>
    show some (D.bl (!PyData.eqvAll (D.pd (stD s) :: D.pds (l.map stD)) [])) = _
    have : PyData.eqvAll (D.pd (stD s) :: D.pds (l.map stD)) [] = false := by simp [PyData.eqvAll]
    rw [this]
    rfl
theorem flats_ints : ∀ l : List Int, flats (zl l) = some (l.map V.int)
  | [] => rfl
  | x :: l => by
    show (some (V.int x)).bind (fun v => (flats (zl l)).map (v :: ·)) = _
    rw [flats_ints l]
    rfl
theorem dNotIn_mem {k : Int} {l : List Int} (h : k ∈ l) : dNotIn (.int k) (.lst (zl l)) = some (.bl false) := by
  show (some (V.int k)).bind (fun u => (flats (zl l)).map fun us => D.bl (!inV u us)) = _
  rw [flats_ints]
  show some (D.bl (!inV (.int k) (l.map V.int))) = _
  have : inV (.int k) (l.map V.int) = true := by
    unfold inV
    rw [List.any_eq_true]
    exact ⟨.int k, List.mem_map_of_mem h, beq_self_eq_true k⟩
  rw [this]
  rfl
theorem any_no (n : Nat) : dAny [.lst ((List.range n).map fun _ => D.bl false)] = some (.bl false) := by
  have := dAny_map (fun _ : Nat => false) (List.range n)
  rw [this]
  simp
theorem get_map {α : Type} (v : Nat → α) {n i : Nat} (h : i < n) : atI ((List.range n).map v) ((i : Nat) : Int) = some (v i) := atI_nat (by rw [List.getElem?_map, List.getElem?_range h]; rfl)
/-- 1 + next(4) .. -/
theorem low6 {x y n : Int} (hy : y ≠ 0) (hb : y.natAbs < 90000) (h : x * 6 = n * y) : m__law_low [.int x, .int y] = pure (R6 n) := by
  rw [m_law_low_eq x y hy hb, r6_of hy h]
end K89

namespace K89
open PySem L2 Fc Sh
local macro_rules | `(tactic| walk_at "ev") => `(tactic| simp (disch := omega) only [List.map_cons, List.map_nil, List.length_cons, List.length_nil, List.replicate, List.cons_append, List.nil_append,
  sIf, Fc.tB, tT, tAndF, tOrF, tNotF, eBin, eUn, eVar_zero, eVar_succ, eC, pb, asB, asI, liftO_pure, sPar, aCons, aNil, sAsg, eCall, eDef, setT, setTs, sRet, sNil, sPar3, eTup, eLst, eIf, eIsi, eIsi2, isTy2, eNotT, eAndV, eOrV, eChain, eSl, oNone, oSome, sBk, sCt, itCall, itSeq, dItems,
  dAdd_int, dAdd_tup, dMul_tup, dRange1_ok, dRange2_ok, dSub, dDiv_ok, dMod_ok, dMul_okL, dMul_okR, len_ok, dLt, dLe, dGt, dGe, dEq_int, dNe_int, dNeg, dLen, dAbs, dInt, dGcd, dMax2_eq, dMin2, dSum_tup, dSum_lst, dLcm_ok, dDivmod_ok, dTuple, dList, dTru, dIs_non, dIsNot_non, dIs_bl, dIsNot_bl, isNon_int, isNon_bl, isNon_str, isNon_tup, isNon_lst, isNon_non, dEq_bl, dNe_bl, dIx_tup, dIx_lst, at0, at1, at2, dSl,
  isTy_int_non, isTy_int_bl, isTy_int_int, isTy_int_str, isTy_int_tup, isTy_int_lst, isTy_bool_non, isTy_bool_bl, isTy_bool_int, isTy_bool_str, isTy_bool_tup, isTy_bool_lst, isTy_tuple_non, isTy_tuple_bl, isTy_tuple_int, isTy_tuple_str, isTy_tuple_tup, isTy_tuple_lst, isTy_list_non, isTy_list_bl, isTy_list_int, isTy_list_str, isTy_list_tup, isTy_list_lst, isTy_str_non, isTy_str_bl, isTy_str_int, isTy_str_str, isTy_str_tup, isTy_str_lst,
  opt_bind_some, opt_map_some, Bool.or_true, Bool.true_or, Bool.or_false, Bool.false_or, Bool.not_true, Bool.not_false, Bool.and_true, Bool.true_and,
  decide_true, decide_false, if_tt, if_ff, if_T, if_F, set_zero, set_succ, endF_rt, endF_nx, decide_eq_true, decide_eq_false, *])

section
variable {lo dr c x y x' y' e1 e2 v : D} {CS SL KN AL IL NL : List D} {T AT n : Int} {x6 x7 x8 x9 x10 x11 x12 x13 x14 x15 x16 x17 x18 : Option D}
theorem g7 (h : m_barring [dr, .tup SL] = pure .non) : (Fc.tB (eBin dIsNot (eDef m_barring (aCons (eVar 3) (aCons (eVal 5) aNil))) (eC .non))) [none, some .drw, some lo, some dr, some (.lst CS), some (.tup SL), x6, x7, x8, x9, x10, x11, x12, x13, x14, x15, x16, x17, x18] = pure false := by
  have hv : eVal 5 [none, some .drw, some lo, some dr, some (.lst CS), some (.tup SL), x6, x7, x8, x9, x10, x11, x12, x13, x14, x15, x16, x17, x18] = pure (.tup SL) := rfl
  walk_at "ev"
theorem g9 (h1 : atI CS T = some c) (h2 : atI KN T = some (.tup [x, y])) (h3 : m__law_below [c, x] = pure (.bl false)) (h4 : m__law_below [y, c] = pure (.bl false)) :
    (tOrF (tT (eDef m__law_below (aCons (eBin dIx (eVar 4) (eVar 6)) (aCons (eBin dIx (eBin dIx (eVar 9) (eVar 6)) (eC (.int 0))) aNil)))) (tT (eDef m__law_below (aCons (eBin dIx (eBin dIx (eVar 9) (eVar 6)) (eC (.int 1))) (aCons (eBin dIx (eVar 4) (eVar 6)) aNil))))) [none, some .drw, some lo, some dr, some (.lst CS), some (.tup SL), some (.int T), x7, x8, some (.lst KN), x10, x11, x12, x13, x14, x15, x16, x17, x18] = pure false := by
  walk_at "ev"
theorem g11 (h1 : atI KN AT = some (.tup [x, y])) (hl : SL.length ≤ 1000) : sAsg (.nm 11) (eBin dAdd (eVar 5) (eTup (aCons (eBin dAdd (eTup (aCons (eVar 10) aNil)) (eBin dIx (eVar 9) (eVar 10))) aNil))) [none, some .drw, some lo, some dr, some (.lst CS), some (.tup SL), x6, x7, x8, some (.lst KN), some (.int AT), x11, x12, x13, x14, x15, x16, x17, x18] = pure (.nx, [none, some .drw, some lo, some dr, some (.lst CS), some (.tup SL), x6, x7, x8, some (.lst KN), some (.int AT), some (.tup (SL ++ [.tup [.int AT, x, y]])), x12, x13, x14, x15, x16, x17, x18]) := by
  have q1 : dAdd (.tup [.int AT]) (.tup [x, y]) = some (.tup [.int AT, x, y]) := dAdd_tup (by simp)
  have q2 : dAdd (.tup SL) (.tup [.tup [.int AT, x, y]]) = some (.tup (SL ++ [.tup [.int AT, x, y]])) := dAdd_tup (by
    show SL.length + 1 ≤ 100000
    omega)
  clear hl
  walk_at "ev"
theorem g12 {fl : List D} (h1 : m_barring [dr, .tup AL] = pure .non) (h2 : m_idle_stamps [dr, .tup AL] = pure (.lst IL)) (h3 : dNotIn (.int ((AL.length : Nat) - 1)) (.lst IL) = some (.bl false)) (h4 : dAny [.lst fl] = some (.bl false))
    (h5 : eLc [6] (.nm 6) (itCall dRange1 (aCons (eC (.int 13)) aNil)) tYesF (eBin dNe (eDef m_readings (aCons (eVar 3) (aCons (eVar 11) (aCons (eVar 6) aNil)))) (eBin dIx (eVar 9) (eVar 6))) [none, some .drw, some lo, some dr, some (.lst CS), some (.tup SL), x6, x7, x8, some (.lst KN), x10, some (.tup AL), x12, x13, x14, x15, x16, x17, x18] = pure (.lst fl)) :
    (tOrF (Fc.tB (eBin dIsNot (eDef m_barring (aCons (eVar 3) (aCons (eVar 11) aNil))) (eC .non))) (tOrF (Fc.tB (eBin dNotIn (eBin dSub (eCall dLen (aCons (eVar 11) aNil)) (eC (.int 1))) (eDef m_idle_stamps (aCons (eVar 3) (aCons (eVar 11) aNil))))) (tT (eCall dAny (aCons (eLc [6] (.nm 6) (itCall dRange1 (aCons (eC (.int 13)) aNil)) tYesF (eBin dNe (eDef m_readings (aCons (eVar 3) (aCons (eVar 11) (aCons (eVar 6) aNil)))) (eBin dIx (eVar 9) (eVar 6)))) aNil))))) [none, some .drw, some lo, some dr, some (.lst CS), some (.tup SL), x6, x7, x8, some (.lst KN), x10, some (.tup AL), x12, x13, x14, x15, x16, x17, x18] = pure false := by
  walk_at "ev"
theorem g12c {SD : D} (h1 : m_readings [dr, SD, .int T] = pure x) (h2 : atI KN T = some x') (h3 : dNe x x' = some (.bl false)) :
    (eBin dNe (eDef m_readings (aCons (eVar 3) (aCons (eVar 11) (aCons (eVar 6) aNil)))) (eBin dIx (eVar 9) (eVar 6))) [none, some .drw, some lo, some dr, some (.lst CS), some (.tup SL), some (.int T), x7, x8, some (.lst KN), x10, some SD, x12, x13, x14, x15, x16, x17, x18] = pure (.bl false) := by
  walk_at "ev"
theorem g16c {SD : D} (h1 : m_readings [dr, SD, .int T] = pure x) (h2 : atI KN T = some x') (h3 : dNe x x' = some (.bl false)) :
    (eBin dNe (eDef m_readings (aCons (eVar 3) (aCons (eVar 17) (aCons (eVar 6) aNil)))) (eBin dIx (eVar 9) (eVar 6))) [none, some .drw, some lo, some dr, some (.lst CS), some (.tup SL), some (.int T), x7, x8, some (.lst KN), x10, x11, x12, x13, x14, x15, x16, some SD, x18] = pure (.bl false) := by
  walk_at "ev"
/-- one step on one side -/
def stBody : F1 := (sSeq (sAsg (.nm 13) (eDef m__law_less_by (aCons (eBin dIx (eBin dIx (eVar 9) (eBin dAdd (eVar 6) (eC (.int 1)))) (eVar 12)) (aCons (eBin dIx (eBin dIx (eVar 9) (eVar 6)) (eVar 12)) aNil))))
        (sIf (tOrF (tT (eDef m__law_below (aCons (eVar 13) (aCons (eBin dIx (eVar 3) (eC (.int 0))) aNil)))) (tT (eDef m__law_below (aCons (eBin dIx (eVar 3) (eC (.int 1))) (aCons (eVar 13) aNil))))) (sRet (eC (.bl false))) sNil))
theorem g13 {sd : Int} {K1 K0 : List D} {A B : D} (h1 : atI KN (T + 1) = some (.tup K1)) (h2 : atI KN T = some (.tup K0)) (h3 : atI K1 sd = some e1) (h4 : atI K0 sd = some e2) (h5 : m__law_less_by [e1, e2] = pure v) (h6 : m__law_below [v, A] = pure (.bl false)) (h7 : m__law_below [B, v] = pure (.bl false)) :
    stBody [none, some .drw, some lo, some (.tup [A, B]), some (.lst CS), some (.tup SL), some (.int T), x7, x8, some (.lst KN), x10, x11, some (.int sd), x13, x14, x15, x16, x17, x18] = pure (.nx, [none, some .drw, some lo, some (.tup [A, B]), some (.lst CS), some (.tup SL), some (.int T), x7, x8, some (.lst KN), x10, x11, some (.int sd), some v, x14, x15, x16, x17, x18]) := by
  unfold stBody
  rw [sSeq_nx (δ1 := [none, some .drw, some lo, some (.tup [A, B]), some (.lst CS), some (.tup SL), some (.int T), x7, x8, some (.lst KN), x10, x11, some (.int sd), some v, x14, x15, x16, x17, x18]) (by
    clear h6 h7
    walk_at "ev")]
  refine sIf_no ?_
  clear h1 h2 h3 h4 h5
  walk_at "ev"
theorem g14 (h1 : atI CS AT = some c) (hl : SL.length ≤ 1000) : sAsg (.nm 14) (eBin dAdd (eVar 5) (eTup (aCons (eTup (aCons (eVar 10) (aCons (eBin dIx (eVar 4) (eVar 10)) (aCons (eBin dIx (eVar 4) (eVar 10)) aNil)))) aNil))) [none, some .drw, some lo, some dr, some (.lst CS), some (.tup SL), x6, x7, x8, x9, some (.int AT), x11, x12, x13, x14, x15, x16, x17, x18] = pure (.nx, [none, some .drw, some lo, some dr, some (.lst CS), some (.tup SL), x6, x7, x8, x9, some (.int AT), x11, x12, x13, some (.tup (SL ++ [.tup [.int AT, c, c]])), x15, x16, x17, x18]) := by
  have q2 : dAdd (.tup SL) (.tup [.tup [.int AT, c, c]]) = some (.tup (SL ++ [.tup [.int AT, c, c]])) := dAdd_tup (by
    show SL.length + 1 ≤ 100000
    omega)
  clear hl
  walk_at "ev"
def nrBody : F1 := (sSeq (sAsg (.nm 15) (eDef m_readings (aCons (eVar 3) (aCons (eVar 14) (aCons (eVar 6) aNil)))))
      (sIf (tOrF (tT (eDef m__law_below (aCons (eBin dIx (eVar 15) (eC (.int 0))) (aCons (eBin dIx (eBin dIx (eVar 9) (eVar 6)) (eC (.int 0))) aNil)))) (tOrF (tT (eDef m__law_below (aCons (eBin dIx (eBin dIx (eVar 9) (eVar 6)) (eC (.int 1))) (aCons (eBin dIx (eVar 15) (eC (.int 1))) aNil)))) (tAndF (Fc.tB (eBin dEq (eVar 6) (eVar 10))) (Fc.tB (eBin dNe (eVar 15) (eTup (aCons (eBin dIx (eVar 4) (eVar 10)) (aCons (eBin dIx (eVar 4) (eVar 10)) aNil)))))))) (sRet (eC (.bl false))) sNil))
theorem g15 {N : D} (h1 : m_readings [dr, N, .int T] = pure (.tup [x, y])) (h2 : atI KN T = some (.tup [x', y'])) (h3 : m__law_below [x, x'] = pure (.bl false)) (h4 : m__law_below [y', y] = pure (.bl false)) (h5 : atI CS AT = some c) (h6 : T = AT → dNe (.tup [x, y]) (.tup [c, c]) = some (.bl false)) :
    nrBody [none, some .drw, some lo, some dr, some (.lst CS), some (.tup SL), some (.int T), x7, x8, some (.lst KN), some (.int AT), x11, x12, x13, some N, x15, x16, x17, x18] = pure (.nx, [none, some .drw, some lo, some dr, some (.lst CS), some (.tup SL), some (.int T), x7, x8, some (.lst KN), some (.int AT), x11, x12, x13, some N, some (.tup [x, y]), x16, x17, x18]) := by
  unfold nrBody
  rw [sSeq_nx (δ1 := [none, some .drw, some lo, some dr, some (.lst CS), some (.tup SL), some (.int T), x7, x8, some (.lst KN), some (.int AT), x11, x12, x13, some N, some (.tup [x, y]), x16, x17, x18]) (by
    clear h3 h4 h5 h6 h2
    walk_at "ev")]
  refine sIf_no ?_
  clear h1
  by_cases q : T = AT
  · have h7 := h6 q
    clear h6
    subst q
    walk_at "ev"
  · clear h6
    walk_at "ev"
def idlBody : F1 := (sSeq (sAsg (.nm 17) (eBin dAdd (eSl (eVar 5) oNone (oSome (eVar 16))) (eSl (eVar 5) (oSome (eBin dAdd (eVar 16) (eC (.int 1)))) oNone)))
      (sIf (tAndF (Fc.tB (eBin dNe (eVar 17) (eTup aNil))) (tT (eCall dAny (aCons (eLc [6] (.nm 6) (itCall dRange1 (aCons (eC (.int 13)) aNil)) tYesF (eBin dNe (eDef m_readings (aCons (eVar 3) (aCons (eVar 17) (aCons (eVar 6) aNil)))) (eBin dIx (eVar 9) (eVar 6)))) aNil)))) (sRet (eC (.bl false))) sNil))
theorem g16 {l1 l2 fl : List D} {k : Int} {b : Bool} (h1 : cutD SL none (some k) = l1) (h2 : cutD SL (some (k + 1)) none = l2) (hl : l1.length + l2.length ≤ 100000) (h3 : dNe (.tup (l1 ++ l2)) (.tup []) = some (.bl b))
    (h4 : b = true → eLc [6] (.nm 6) (itCall dRange1 (aCons (eC (.int 13)) aNil)) tYesF (eBin dNe (eDef m_readings (aCons (eVar 3) (aCons (eVar 17) (aCons (eVar 6) aNil)))) (eBin dIx (eVar 9) (eVar 6))) [none, some .drw, some lo, some dr, some (.lst CS), some (.tup SL), x6, x7, x8, some (.lst KN), x10, x11, x12, x13, x14, x15, some (.int k), some (.tup (l1 ++ l2)), x18] = pure (.lst fl)) (h5 : dAny [.lst fl] = some (.bl false)) :
    idlBody [none, some .drw, some lo, some dr, some (.lst CS), some (.tup SL), x6, x7, x8, some (.lst KN), x10, x11, x12, x13, x14, x15, some (.int k), x17, x18] = pure (.nx, [none, some .drw, some lo, some dr, some (.lst CS), some (.tup SL), x6, x7, x8, some (.lst KN), x10, x11, x12, x13, x14, x15, some (.int k), some (.tup (l1 ++ l2)), x18]) := by
  unfold idlBody
  have q := dAdd_tup hl
  rw [sSeq_nx (δ1 := [none, some .drw, some lo, some dr, some (.lst CS), some (.tup SL), x6, x7, x8, some (.lst KN), x10, x11, x12, x13, x14, x15, some (.int k), some (.tup (l1 ++ l2)), x18]) (by
    clear h3 h4 h5 hl
    walk_at "ev")]
  refine sIf_no ?_
  clear h1 h2 hl q
  cases b with
  | false =>
    clear h4 h5
    walk_at "ev"
  | true =>
    have h6 := h4 rfl
    clear h4
    generalize l1 ++ l2 = zz at *
    walk_at "ev"
theorem g17 (h1 : atI CS AT = some c) (h2 : m_times_of [dr, .tup SL, c] = pure v) : sAsg (.nm 18) (eDef m_times_of (aCons (eVar 3) (aCons (eVal 5) (aCons (eBin dIx (eVar 4) (eVar 10)) aNil)))) [none, some .drw, some lo, some dr, some (.lst CS), some (.tup SL), x6, x7, x8, x9, some (.int AT), x11, x12, x13, x14, x15, x16, x17, x18] = pure (.nx, [none, some .drw, some lo, some dr, some (.lst CS), some (.tup SL), x6, x7, x8, x9, some (.int AT), x11, x12, x13, x14, x15, x16, x17, some v]) := by
  have hv : eVal 5 [none, some .drw, some lo, some dr, some (.lst CS), some (.tup SL), x6, x7, x8, x9, some (.int AT), x11, x12, x13, x14, x15, x16, x17, x18] = pure (.tup SL) := rfl
  walk_at "ev"
theorem g18 {F L : Int} (h1 : F ≤ AT) (h2 : AT ≤ L) : sRet (eAndV (eBin dIsNot (eVar 18) (eC .non)) (eChain dLe dLe (eBin dIx (eVar 18) (eC (.int 0))) (eVar 10) (eBin dIx (eVar 18) (eC (.int 1))))) [none, some .drw, some lo, some dr, some (.lst CS), some (.tup SL), x6, x7, x8, x9, some (.int AT), x11, x12, x13, x14, x15, x16, x17, some (.tup [.int F, .int L])] = pure (.rt (.bl true), [none, some .drw, some lo, some dr, some (.lst CS), some (.tup SL), x6, x7, x8, x9, some (.int AT), x11, x12, x13, x14, x15, x16, x17, some (.tup [.int F, .int L])]) := by
  walk_at "ev"
end
end K89

namespace K89
open PySem L2 Fc Sh
local macro_rules | `(tactic| walk_at "ev") => `(tactic| simp (disch := omega) only [List.map_cons, List.map_nil, List.length_cons, List.length_nil, List.replicate, List.cons_append, List.nil_append,
  sIf, Fc.tB, tT, tAndF, tOrF, tNotF, eBin, eUn, eVar_zero, eVar_succ, eC, pb, asB, asI, liftO_pure, sPar, aCons, aNil, sAsg, eCall, eDef, setT, setTs, sRet, sNil, sPar3, sParO, eTup, eLst, eIf, eIsi, eIsi2, isTy2, eNotT, eAndV, eOrV, eChain, eSl, oNone, oSome, sBk, sCt, itCall, itSeq, dItems,
  dAdd_int, dAdd_tup, dMul_tup, dRange1_ok, dRange2_ok, dSub, dDiv_ok, dMod_ok, dMul_okL, dMul_okR, len_ok, dLt, dLe, dGt, dGe, dEq_int, dNe_int, dNeg, dLen, dAbs, dInt, dGcd, dMax2_eq, dMin2, dSum_tup, dSum_lst, dLcm_ok, dDivmod_ok, dTuple, dList, dTru, dIs_non, dIsNot_non, dIs_bl, dIsNot_bl, isNon_int, isNon_bl, isNon_str, isNon_tup, isNon_lst, isNon_non, dEq_bl, dNe_bl, dIx_tup, dIx_lst, at0, at1, at2, dSl,
  isTy_int_non, isTy_int_bl, isTy_int_int, isTy_int_str, isTy_int_tup, isTy_int_lst, isTy_bool_non, isTy_bool_bl, isTy_bool_int, isTy_bool_str, isTy_bool_tup, isTy_bool_lst, isTy_tuple_non, isTy_tuple_bl, isTy_tuple_int, isTy_tuple_str, isTy_tuple_tup, isTy_tuple_lst, isTy_list_non, isTy_list_bl, isTy_list_int, isTy_list_str, isTy_list_tup, isTy_list_lst, isTy_str_non, isTy_str_bl, isTy_str_int, isTy_str_str, isTy_str_tup, isTy_str_lst,
  opt_bind_some, opt_map_some, Bool.or_true, Bool.true_or, Bool.or_false, Bool.false_or, Bool.not_true, Bool.not_false, Bool.and_true, Bool.true_and,
  decide_true, decide_false, if_tt, if_ff, if_T, if_F, set_zero, set_succ, endF_rt, endF_nx, decide_eq_true, decide_eq_false, *])
local macro_rules | `(tactic| walk_at "ew") => `(tactic| simp (disch := omega) only [List.map_cons, List.map_nil, List.length_cons, List.length_nil, List.replicate, List.cons_append, List.nil_append,
  sIf, Fc.tB, tT, tAndF, tOrF, tNotF, eBin, eUn, eVar_zero, eVar_succ, eC, pb, asB, asI, liftO_pure, sPar, aCons, aNil, sAsg, eCall, eDef, setT, setTs, sRet, sNil, sPar3, sParO, eTup, eLst, eIf, eIsi, eIsi2, isTy2, eNotT, eAndV, eOrV, eChain, eSl, oNone, oSome, sBk, sCt, itCall, itSeq, dItems,
  dAdd_int, dAdd_tup, dMul_tup, dRange1_ok, dRange2_ok, dSub, dDiv_ok, dMod_ok, dMul_okL, dMul_okR, len_ok, dLt, dLe, dGt, dGe, dEq_int, dNe_int, dNeg, dLen, dAbs, dInt, dGcd, dMax2_eq, dMin2, dSum_tup, dSum_lst, dLcm_ok, dDivmod_ok, dTuple, dList, dTru, dIs_non, dIsNot_non, dIs_bl, dIsNot_bl, isNon_int, isNon_bl, isNon_str, isNon_tup, isNon_lst, isNon_non, dEq_bl, dNe_bl, dIx_tup, dIx_lst, at0, at1, at2, dSl,
  isTy_int_non, isTy_int_bl, isTy_int_int, isTy_int_str, isTy_int_tup, isTy_int_lst, isTy_bool_non, isTy_bool_bl, isTy_bool_int, isTy_bool_str, isTy_bool_tup, isTy_bool_lst, isTy_tuple_non, isTy_tuple_bl, isTy_tuple_int, isTy_tuple_str, isTy_tuple_tup, isTy_tuple_lst, isTy_list_non, isTy_list_bl, isTy_list_int, isTy_list_str, isTy_list_tup, isTy_list_lst, isTy_str_non, isTy_str_bl, isTy_str_int, isTy_str_str, isTy_str_tup, isTy_str_lst,
  wp_bind, wp_pure, wp_liftO, opt_bind_some, opt_map_some, Bool.or_true, Bool.true_or, Bool.or_false, Bool.false_or, Bool.not_true, Bool.not_false, Bool.and_true, Bool.true_and,
  decide_true, decide_false, if_tt, if_ff, if_T, if_F, set_zero, set_succ, endF_rt, endF_nx, decide_eq_true, decide_eq_false, *])
/-! ### the drawn course and stamps -/
theorem app_env (x0 x1 x2 x3 : Option D) (l : List D) (d : D) (rest : Fc.Env) (hl : l.length < 1000) : chg 4 (opApp d) (x0 :: x1 :: x2 :: x3 :: some (.lst l) :: rest) = some (x0 :: x1 :: x2 :: x3 :: some (.lst (l ++ [d])) :: rest) := by
  show (opApp d l).map (fun ds' => _) = _
  unfold opApp
  rw [if_pos (show l.length < LIM from by show l.length < 100000; omega), opt_map_some]
  rfl
theorem app_env5 (x0 x1 x2 x3 x4 : Option D) (l : List D) (d : D) (rest : Fc.Env) (hl : l.length < 1000) : chg 5 (opApp d) (x0 :: x1 :: x2 :: x3 :: x4 :: some (.lst l) :: rest) = some (x0 :: x1 :: x2 :: x3 :: x4 :: some (.lst (l ++ [d])) :: rest) := by
  show (opApp d l).map (fun ds' => _) = _
  unfold opApp
  rw [if_pos (show l.length < LIM from by show l.length < 100000; omega), opt_map_some]
  rfl
theorem atNeg {α : Type} (xs : List α) (x : α) : atI (xs ++ [x]) (-1) = some x := by
  have e : (-1 : Int) = -((1 : Nat) : Int) := rfl
  unfold atI ixN
  rw [if_neg (by omega), if_pos (by rw [List.length_append, List.length_singleton]; omega)]
  show (xs ++ [x])[_]? = _
  have : ((-1 : Int) + ((xs ++ [x]).length : Nat)).toNat = xs.length := by
    rw [List.length_append, List.length_singleton]
    omega
  rw [this]
  simp
/-- a course of n steps -/
structure Crs (a b : Int) (n : Nat) (cs : List Int) : Prop where
  len : cs.length = n + 1
  st : ∀ i, i < n → a ≤ cs.getD (i + 1) 0 - cs.getD i 0 ∧ cs.getD (i + 1) 0 - cs.getD i 0 ≤ b
  bd : ∀ i, i ≤ n → -30 ≤ cs.getD i 0 ∧ cs.getD i 0 ≤ 30 + 50 * (i : Int)
theorem getD_app (cs : List Int) (x : Int) (i : Nat) : (cs ++ [x]).getD i 0 = if i < cs.length then cs.getD i 0 else if i = cs.length then x else 0 := by
  rw [List.getD_eq_getElem?_getD, List.getD_eq_getElem?_getD]
  by_cases h : i < cs.length
  · rw [if_pos h, List.getElem?_append_left h]
  · rw [if_neg h, List.getElem?_append_right (by omega)]
    by_cases h2 : i = cs.length
    · rw [if_pos h2, h2]
      simp
    · rw [if_neg h2]
      have : ([x] : List Int)[i - cs.length]? = none := List.getElem?_eq_none (by simp; omega)
      rw [this]
      rfl
theorem Crs.next {a b : Int} {n : Nat} {cs : List Int} (h : Crs a b n cs) (R : Br a b) {x : Int} (h1 : a ≤ x - cs.getD n 0) (h2 : x - cs.getD n 0 ≤ b) : Crs a b (n + 1) (cs ++ [x]) := by
  have := R.a0; have := R.ab; have := R.b1
  refine ⟨by rw [List.length_append, h.len]; rfl, fun i hi => ?_, fun i hi => ?_⟩
  · rw [getD_app, getD_app, h.len]
    by_cases c : i < n
    · rw [if_pos (by omega), if_pos (by omega)]
      exact h.st i c
    · have e : i = n := by omega
      subst e
      rw [if_neg (by omega), if_pos rfl, if_pos (by omega)]
      exact ⟨h1, h2⟩
  · rw [getD_app, h.len]
    by_cases c : i < n + 1
    · rw [if_pos c]
      exact h.bd i (by omega)
    · have e : i = n + 1 := by omega
      rw [if_neg c, if_pos e]
      have := h.bd n (Nat.le_refl _)
      omega
theorem at_crs {a b : Int} {n : Nat} {cs : List Int} (h : Crs a b n cs) {i : Nat} (hi : i ≤ n) : atI (cs.map R6) ((i : Nat) : Int) = some (R6 (cs.getD i 0)) := by
  have hl : i < cs.length := by rw [h.len]; omega
  refine atI_nat ?_
  rw [List.getElem?_map, List.getD_eq_getElem?_getD, List.getElem?_eq_getElem hl]
  rfl
theorem split_last {a b : Int} {n : Nat} {cs : List Int} (h : Crs a b n cs) : ∃ l, cs = l ++ [cs.getD n 0] := by
  have hne : cs ≠ [] := fun z => by have := h.len; rw [z] at this; simp at this
  refine ⟨cs.dropLast, ?_⟩
  have e := List.dropLast_concat_getLast hne
  have : cs.getLast hne = cs.getD n 0 := by
    rw [List.getLast_eq_getElem, List.getD_eq_getElem?_getD, List.getElem?_eq_getElem (by rw [h.len]; omega)]
    have : cs.length - 1 = n := by rw [h.len]; rfl
    simp [this]
  rw [← this]
  exact e.symm
theorem st_app4 {lo A B P q r t u v : D} {CS : List D} {x5 x6 x8 x9 : Option D} {rest δ' : Fc.Env} (h1 : atI CS (-1) = some v) (h2 : m__law_less_by [B, A] = pure q) (h3 : m__law_times [P, q] = pure r) (h4 : m__law_add [A, r] = pure t) (h5 : m__law_add [v, t] = pure u)
    (h6 : chg 4 (opApp u) (none :: some .drw :: some lo :: some (.tup [A, B]) :: some (.lst CS) :: x5 :: x6 :: some P :: x8 :: x9 :: rest) = some δ') :
    sApp 4 (eDef m__law_add (aCons (eBin dIx (eVar 4) (eUn dNeg (eC (.int 1)))) (aCons (eDef m__law_add (aCons (eBin dIx (eVar 3) (eC (.int 0))) (aCons (eDef m__law_times (aCons (eVar 7) (aCons (eDef m__law_less_by (aCons (eBin dIx (eVar 3) (eC (.int 1))) (aCons (eBin dIx (eVar 3) (eC (.int 0))) aNil))) aNil))) aNil))) aNil))) (none :: some .drw :: some lo :: some (.tup [A, B]) :: some (.lst CS) :: x5 :: x6 :: some P :: x8 :: x9 :: rest) = pure (.nx, δ') := by
  have e : eDef m__law_add (aCons (eBin dIx (eVar 4) (eUn dNeg (eC (.int 1)))) (aCons (eDef m__law_add (aCons (eBin dIx (eVar 3) (eC (.int 0))) (aCons (eDef m__law_times (aCons (eVar 7) (aCons (eDef m__law_less_by (aCons (eBin dIx (eVar 3) (eC (.int 1))) (aCons (eBin dIx (eVar 3) (eC (.int 0))) aNil))) aNil))) aNil))) aNil)) (none :: some .drw :: some lo :: some (.tup [A, B]) :: some (.lst CS) :: x5 :: x6 :: some P :: x8 :: x9 :: rest) = pure u := by
    clear h6
    walk_at "ev"
  show (eDef _ _ _ >>= fun d => liftO (chg 4 (opApp d) _) >>= fun δ' => pure (Out.nx, δ')) = _
  rw [e, Fc.pb, h6]
  rfl
theorem nx_draw1 {i : Nat} {mx : Int} {F' : F1} {δ : Fc.Env} {w : Dw} (hm : 0 < mx ∧ mx < 1073741824) {Q : Out × Fc.Env → Dw → Prop} (e : eVar 1 δ = pure .drw) {f : Fc.Env → M D} (hf : f δ = pure (.int mx))
    (k : ∀ k w', 0 ≤ k → k < mx → wp (F' (δ.set i (some (.int k)))) Q w') : wp (sSeq (sAsg (.nm i) (eDef nextF (aCons (eVar 1) (aCons f aNil)))) F' δ) Q w := by
  refine wp_seqW ?_
  show wp (eDef nextF (aCons (eVar 1) (aCons f aNil)) δ >>= fun x => liftO (setT (.nm i) x δ) >>= fun δ' => pure (Out.nx, δ')) _ w
  rw [wp_bind]
  have e2 : eDef nextF (aCons (eVar 1) (aCons f aNil)) δ = nextF [.drw, .int mx] := by
    unfold eDef aCons aNil
    rw [e, hf]
    rfl
  rw [e2]
  refine wp_next hm fun k' w' h1 h2 => ?_
  show wp (pure (Out.nx, δ.set i (some (D.int k')))) _ w'
  rw [wp_pure]
  exact ⟨_, rfl, k k' w' h1 h2⟩
/-- the law behind its stamps -/
def RESTF : F1 :=
    (sSeq (sAsgV 5 (eCall dTuple (aCons (eVar 5) aNil)))
    (sSeq (sIf (tB (eBin dIsNot (eDef m_barring (aCons (eVar 3) (aCons (eVal 5) aNil))) (eC .non))) (sRet (eC (.bl false))) sNil)
    (sSeq (sAsg (.nm 9) (eLc [6] (.nm 6) (itCall dRange1 (aCons (eC (.int 13)) aNil)) tYesF (eDef m_readings (aCons (eVar 3) (aCons (eVal 5) (aCons (eVar 6) aNil))))))
    (sSeq (sFor (.nm 6) (itCall dRange1 (aCons (eC (.int 13)) aNil)) (sIf (tOrF (tT (eDef m__law_below (aCons (eBin dIx (eVar 4) (eVar 6)) (aCons (eBin dIx (eBin dIx (eVar 9) (eVar 6)) (eC (.int 0))) aNil)))) (tT (eDef m__law_below (aCons (eBin dIx (eBin dIx (eVar 9) (eVar 6)) (eC (.int 1))) (aCons (eBin dIx (eVar 4) (eVar 6)) aNil))))) (sRet (eC (.bl false))) sNil))
    (sSeq (sAsg (.nm 10) (eDef nextF (aCons (eVar 1) (aCons (eC (.int 13)) aNil))))
    (sSeq (sAsg (.nm 11) (eBin dAdd (eVar 5) (eTup (aCons (eBin dAdd (eTup (aCons (eVar 10) aNil)) (eBin dIx (eVar 9) (eVar 10))) aNil))))
    (sSeq (sIf (tOrF (tB (eBin dIsNot (eDef m_barring (aCons (eVar 3) (aCons (eVar 11) aNil))) (eC .non))) (tOrF (tB (eBin dNotIn (eBin dSub (eCall dLen (aCons (eVar 11) aNil)) (eC (.int 1))) (eDef m_idle_stamps (aCons (eVar 3) (aCons (eVar 11) aNil))))) (tT (eCall dAny (aCons (eLc [6] (.nm 6) (itCall dRange1 (aCons (eC (.int 13)) aNil)) tYesF (eBin dNe (eDef m_readings (aCons (eVar 3) (aCons (eVar 11) (aCons (eVar 6) aNil)))) (eBin dIx (eVar 9) (eVar 6)))) aNil))))) (sRet (eC (.bl false))) sNil)
    (sSeq (sFor (.nm 12) (itSeq (eTup (aCons (eC (.int 0)) (aCons (eC (.int 1)) aNil)))) (sFor (.nm 6) (itCall dRange1 (aCons (eC (.int 12)) aNil)) (sSeq (sAsg (.nm 13) (eDef m__law_less_by (aCons (eBin dIx (eBin dIx (eVar 9) (eBin dAdd (eVar 6) (eC (.int 1)))) (eVar 12)) (aCons (eBin dIx (eBin dIx (eVar 9) (eVar 6)) (eVar 12)) aNil))))
        (sIf (tOrF (tT (eDef m__law_below (aCons (eVar 13) (aCons (eBin dIx (eVar 3) (eC (.int 0))) aNil)))) (tT (eDef m__law_below (aCons (eBin dIx (eVar 3) (eC (.int 1))) (aCons (eVar 13) aNil))))) (sRet (eC (.bl false))) sNil))))
    (sSeq (sAsg (.nm 14) (eBin dAdd (eVar 5) (eTup (aCons (eTup (aCons (eVar 10) (aCons (eBin dIx (eVar 4) (eVar 10)) (aCons (eBin dIx (eVar 4) (eVar 10)) aNil)))) aNil))))
    (sSeq (sFor (.nm 6) (itCall dRange1 (aCons (eC (.int 13)) aNil)) (sSeq (sAsg (.nm 15) (eDef m_readings (aCons (eVar 3) (aCons (eVar 14) (aCons (eVar 6) aNil)))))
      (sIf (tOrF (tT (eDef m__law_below (aCons (eBin dIx (eVar 15) (eC (.int 0))) (aCons (eBin dIx (eBin dIx (eVar 9) (eVar 6)) (eC (.int 0))) aNil)))) (tOrF (tT (eDef m__law_below (aCons (eBin dIx (eBin dIx (eVar 9) (eVar 6)) (eC (.int 1))) (aCons (eBin dIx (eVar 15) (eC (.int 1))) aNil)))) (tAndF (tB (eBin dEq (eVar 6) (eVar 10))) (tB (eBin dNe (eVar 15) (eTup (aCons (eBin dIx (eVar 4) (eVar 10)) (aCons (eBin dIx (eVar 4) (eVar 10)) aNil)))))))) (sRet (eC (.bl false))) sNil)))
    (sSeq (sFor (.nm 16) (itSeq (eDef m_idle_stamps (aCons (eVar 3) (aCons (eVal 5) aNil)))) (sSeq (sAsg (.nm 17) (eBin dAdd (eSl (eVar 5) oNone (oSome (eVar 16))) (eSl (eVar 5) (oSome (eBin dAdd (eVar 16) (eC (.int 1)))) oNone)))
      (sIf (tAndF (tB (eBin dNe (eVar 17) (eTup aNil))) (tT (eCall dAny (aCons (eLc [6] (.nm 6) (itCall dRange1 (aCons (eC (.int 13)) aNil)) tYesF (eBin dNe (eDef m_readings (aCons (eVar 3) (aCons (eVar 17) (aCons (eVar 6) aNil)))) (eBin dIx (eVar 9) (eVar 6)))) aNil)))) (sRet (eC (.bl false))) sNil)))
    (sSeq (sAsg (.nm 18) (eDef m_times_of (aCons (eVar 3) (aCons (eVal 5) (aCons (eBin dIx (eVar 4) (eVar 10)) aNil)))))
    (sRet (eAndV (eBin dIsNot (eVar 18) (eC .non)) (eChain dLe dLe (eBin dIx (eVar 18) (eC (.int 0))) (eVar 10) (eBin dIx (eVar 18) (eC (.int 1))))))))))))))))))
def REST3 : F1 :=
    (sSeq (sAsg (.nm 11) (eBin dAdd (eVar 5) (eTup (aCons (eBin dAdd (eTup (aCons (eVar 10) aNil)) (eBin dIx (eVar 9) (eVar 10))) aNil))))
    (sSeq (sIf (tOrF (tB (eBin dIsNot (eDef m_barring (aCons (eVar 3) (aCons (eVar 11) aNil))) (eC .non))) (tOrF (tB (eBin dNotIn (eBin dSub (eCall dLen (aCons (eVar 11) aNil)) (eC (.int 1))) (eDef m_idle_stamps (aCons (eVar 3) (aCons (eVar 11) aNil))))) (tT (eCall dAny (aCons (eLc [6] (.nm 6) (itCall dRange1 (aCons (eC (.int 13)) aNil)) tYesF (eBin dNe (eDef m_readings (aCons (eVar 3) (aCons (eVar 11) (aCons (eVar 6) aNil)))) (eBin dIx (eVar 9) (eVar 6)))) aNil))))) (sRet (eC (.bl false))) sNil)
    (sSeq (sFor (.nm 12) (itSeq (eTup (aCons (eC (.int 0)) (aCons (eC (.int 1)) aNil)))) (sFor (.nm 6) (itCall dRange1 (aCons (eC (.int 12)) aNil)) (sSeq (sAsg (.nm 13) (eDef m__law_less_by (aCons (eBin dIx (eBin dIx (eVar 9) (eBin dAdd (eVar 6) (eC (.int 1)))) (eVar 12)) (aCons (eBin dIx (eBin dIx (eVar 9) (eVar 6)) (eVar 12)) aNil))))
        (sIf (tOrF (tT (eDef m__law_below (aCons (eVar 13) (aCons (eBin dIx (eVar 3) (eC (.int 0))) aNil)))) (tT (eDef m__law_below (aCons (eBin dIx (eVar 3) (eC (.int 1))) (aCons (eVar 13) aNil))))) (sRet (eC (.bl false))) sNil))))
    (sSeq (sAsg (.nm 14) (eBin dAdd (eVar 5) (eTup (aCons (eTup (aCons (eVar 10) (aCons (eBin dIx (eVar 4) (eVar 10)) (aCons (eBin dIx (eVar 4) (eVar 10)) aNil)))) aNil))))
    (sSeq (sFor (.nm 6) (itCall dRange1 (aCons (eC (.int 13)) aNil)) (sSeq (sAsg (.nm 15) (eDef m_readings (aCons (eVar 3) (aCons (eVar 14) (aCons (eVar 6) aNil)))))
      (sIf (tOrF (tT (eDef m__law_below (aCons (eBin dIx (eVar 15) (eC (.int 0))) (aCons (eBin dIx (eBin dIx (eVar 9) (eVar 6)) (eC (.int 0))) aNil)))) (tOrF (tT (eDef m__law_below (aCons (eBin dIx (eBin dIx (eVar 9) (eVar 6)) (eC (.int 1))) (aCons (eBin dIx (eVar 15) (eC (.int 1))) aNil)))) (tAndF (tB (eBin dEq (eVar 6) (eVar 10))) (tB (eBin dNe (eVar 15) (eTup (aCons (eBin dIx (eVar 4) (eVar 10)) (aCons (eBin dIx (eVar 4) (eVar 10)) aNil)))))))) (sRet (eC (.bl false))) sNil)))
    (sSeq (sFor (.nm 16) (itSeq (eDef m_idle_stamps (aCons (eVar 3) (aCons (eVal 5) aNil)))) (sSeq (sAsg (.nm 17) (eBin dAdd (eSl (eVar 5) oNone (oSome (eVar 16))) (eSl (eVar 5) (oSome (eBin dAdd (eVar 16) (eC (.int 1)))) oNone)))
      (sIf (tAndF (tB (eBin dNe (eVar 17) (eTup aNil))) (tT (eCall dAny (aCons (eLc [6] (.nm 6) (itCall dRange1 (aCons (eC (.int 13)) aNil)) tYesF (eBin dNe (eDef m_readings (aCons (eVar 3) (aCons (eVar 17) (aCons (eVar 6) aNil)))) (eBin dIx (eVar 9) (eVar 6)))) aNil)))) (sRet (eC (.bl false))) sNil)))
    (sSeq (sAsg (.nm 18) (eDef m_times_of (aCons (eVar 3) (aCons (eVal 5) (aCons (eBin dIx (eVar 4) (eVar 10)) aNil)))))
    (sRet (eAndV (eBin dIsNot (eVar 18) (eC .non)) (eChain dLe dLe (eBin dIx (eVar 18) (eC (.int 0))) (eVar 10) (eBin dIx (eVar 18) (eC (.int 1)))))))))))))
def REST4 : F1 :=
    (sSeq (sAsg (.nm 14) (eBin dAdd (eVar 5) (eTup (aCons (eTup (aCons (eVar 10) (aCons (eBin dIx (eVar 4) (eVar 10)) (aCons (eBin dIx (eVar 4) (eVar 10)) aNil)))) aNil))))
    (sSeq (sFor (.nm 6) (itCall dRange1 (aCons (eC (.int 13)) aNil)) (sSeq (sAsg (.nm 15) (eDef m_readings (aCons (eVar 3) (aCons (eVar 14) (aCons (eVar 6) aNil)))))
      (sIf (tOrF (tT (eDef m__law_below (aCons (eBin dIx (eVar 15) (eC (.int 0))) (aCons (eBin dIx (eBin dIx (eVar 9) (eVar 6)) (eC (.int 0))) aNil)))) (tOrF (tT (eDef m__law_below (aCons (eBin dIx (eBin dIx (eVar 9) (eVar 6)) (eC (.int 1))) (aCons (eBin dIx (eVar 15) (eC (.int 1))) aNil)))) (tAndF (tB (eBin dEq (eVar 6) (eVar 10))) (tB (eBin dNe (eVar 15) (eTup (aCons (eBin dIx (eVar 4) (eVar 10)) (aCons (eBin dIx (eVar 4) (eVar 10)) aNil)))))))) (sRet (eC (.bl false))) sNil)))
    (sSeq (sFor (.nm 16) (itSeq (eDef m_idle_stamps (aCons (eVar 3) (aCons (eVal 5) aNil)))) (sSeq (sAsg (.nm 17) (eBin dAdd (eSl (eVar 5) oNone (oSome (eVar 16))) (eSl (eVar 5) (oSome (eBin dAdd (eVar 16) (eC (.int 1)))) oNone)))
      (sIf (tAndF (tB (eBin dNe (eVar 17) (eTup aNil))) (tT (eCall dAny (aCons (eLc [6] (.nm 6) (itCall dRange1 (aCons (eC (.int 13)) aNil)) tYesF (eBin dNe (eDef m_readings (aCons (eVar 3) (aCons (eVar 17) (aCons (eVar 6) aNil)))) (eBin dIx (eVar 9) (eVar 6)))) aNil)))) (sRet (eC (.bl false))) sNil)))
    (sSeq (sAsg (.nm 18) (eDef m_times_of (aCons (eVar 3) (aCons (eVal 5) (aCons (eBin dIx (eVar 4) (eVar 10)) aNil)))))
    (sRet (eAndV (eBin dIsNot (eVar 18) (eC .non)) (eChain dLe dLe (eBin dIx (eVar 18) (eC (.int 0))) (eVar 10) (eBin dIx (eVar 18) (eC (.int 1))))))))))
def stmps : F1 := (sSeq (sAsg (.nm 6) (eDef nextF (aCons (eVar 1) (aCons (eC (.int 13)) aNil))))
      (sApp 5 (eTup (aCons (eVar 6) (aCons (eDef m__law_less_by (aCons (eBin dIx (eVar 4) (eVar 6)) (aCons (eTup (aCons (eDef nextF (aCons (eVar 1) (aCons (eC (.int 4)) aNil))) (aCons (eC (.int 1)) aNil))) aNil))) (aCons (eDef m__law_add (aCons (eBin dIx (eVar 4) (eVar 6)) (aCons (eTup (aCons (eDef nextF (aCons (eVar 1) (aCons (eC (.int 4)) aNil))) (aCons (eC (.int 1)) aNil))) aNil))) aNil))))))
theorem stmps_ok {a b : Int} (R : Br a b) {cs : List Int} (hc : Crs a b 12 cs) {n : Nat} (hn : n ≤ 100) {δ : Fc.Env} {w : Dw} (h : ∃ (ss : List St) (x6 x7 x8 : Option D), (∀ s ∈ ss, Bs1 s ∧ Fit (fun i => cs.getD i 0) 12 s) ∧ ss.length = n ∧ δ = [none, some .drw, some (R6 a), some (.tup [R6 a, R6 b]), some (.lst (cs.map R6)), some (.lst (ss.map stD)), x6, x7, x8, none, none, none, none, none, none, none, none, none, none]) :
    wp (stmps δ) (fun p _ => ∃ δ2, p = (.nx, δ2) ∧ ∃ (ss : List St) (x6 x7 x8 : Option D), (∀ s ∈ ss, Bs1 s ∧ Fit (fun i => cs.getD i 0) 12 s) ∧ ss.length = n + 1 ∧ δ2 = [none, some .drw, some (R6 a), some (.tup [R6 a, R6 b]), some (.lst (cs.map R6)), some (.lst (ss.map stD)), x6, x7, x8, none, none, none, none, none, none, none, none, none, none]) w := by
  obtain ⟨ss, x6, x7, x8, hs, hl, rfl⟩ := h
  unfold stmps
  refine nx_draw1 (mx := 13) (by omega) rfl rfl fun t w ta tb => ?_
  obtain ⟨t, rfl⟩ : ∃ t' : Nat, t = (t' : Nat) := ⟨t.toNat, by omega⟩
  have cb := hc.bd t (by omega)
  have ec := at_crs hc (i := t) (by omega)
  have hlen : (ss.map stD).length < 1000 := by
    rw [List.length_map]
    omega
  generalize hct : cs.getD t 0 = c at *
  generalize hCS : cs.map R6 = CS at *
  generalize hSL : ss.map stD = SL at *
  generalize hT : ((t : Nat) : Int) = T at *
  show wp (sApp 5 _ [none, some .drw, some (R6 a), some (.tup [R6 a, R6 b]), some (.lst CS), some (.lst SL), some (.int T), x7, x8, none, none, none, none, none, none, none, none, none, none]) _ w
  show wp (eTup _ _ >>= fun d => liftO (chg 5 (opApp d) _) >>= fun δ' => pure (Out.nx, δ')) _ w
  have keep : id (cs.getD t 0 = c ∧ cs.map R6 = CS ∧ ss.map stD = SL ∧ ((t : Nat) : Int) = T) := ⟨hct, hCS, hSL, hT⟩
  have ht12 : t ≤ 12 := by omega
  clear hct hCS hSL hT
  walk_at "ew"
  refine wp_next (by omega) fun j1 w j1a j1b => ?_
  have q1 : m__law_less_by [R6 c, .tup [.int j1, .int 1]] = pure (R6 (c - 6 * j1)) := by
    rw [r6_int j1]
    exact r6_lsub (by omega) (by omega)
  walk_at "ew"
  refine wp_next (by omega) fun j2 w j2a j2b => ?_
  have q2 : m__law_add [R6 c, .tup [.int j2, .int 1]] = pure (R6 (c + 6 * j2)) := by
    rw [r6_int j2]
    exact r6_ladd (by omega) (by omega)
  walk_at "ew"
  rw [app_env5 _ _ _ _ _ _ _ _ hlen, wp_liftO, wp_pure]
  obtain ⟨hct, hCS, hSL, hT⟩ := keep
  refine ⟨_, rfl, ss ++ [⟨t, c - 6 * j1, c + 6 * j2⟩], some (.int T), x7, x8, fun s hs' => ?_, by rw [List.length_append, hl]; rfl, ?_⟩
  · rcases List.mem_append.mp hs' with hs' | hs'
    · exact hs s hs'
    · obtain rfl := List.mem_singleton.mp hs'
      refine ⟨⟨ht12, ?_, ?_⟩, ?_, ?_, ht12⟩
      · show (c - 6 * j1).natAbs ≤ 1000
        omega
      · show (c + 6 * j2).natAbs ≤ 1000
        omega
      · show c - 6 * j1 ≤ cs.getD t 0
        omega
      · show cs.getD t 0 ≤ c + 6 * j2
        omega
  · rw [List.map_append, hSL]
    show _ = [none, some D.drw, some (R6 a), some (D.tup [R6 a, R6 b]), some (D.lst CS), some (D.lst (SL ++ [.tup [.int (t : Nat), R6 (c - 6 * j1), R6 (c + 6 * j2)]])), some (D.int T), x7, x8, none, none, none, none, none, none, none, none, none, none]
    rw [hT]
/-- the narrower readings -/
theorem narrow_ok {a b : Int} (R : Br a b) {C : Nat → Int} (hC : Lip a b 12 C) {ss : List St} (hne : ss ≠ []) (hss : ∀ s ∈ ss, Bs1 s) (hf : ∀ s ∈ ss, Fit C 12 s) (hl : ss.length ≤ 5) {KN CS : List D} (kat : ∀ t : Nat, t ≤ 12 → atI KN ((t : Nat) : Int) = some (.tup [R6 (lw a b ss t), R6 (up a b ss t)])) (cat : ∀ t : Nat, t ≤ 12 → atI CS ((t : Nat) : Int) = some (R6 (C t)))
    (kbd : ∀ t : Nat, t ≤ 12 → (lw a b ss t).natAbs ≤ 2000 ∧ (up a b ss t).natAbs ≤ 2000) (cin : ∀ t : Nat, t ≤ 12 → lw a b ss t ≤ C t ∧ C t ≤ up a b ss t) (hb : ∀ t : Nat, t ≤ 12 → -30 ≤ C t ∧ C t ≤ 30 + 50 * (t : Int)) {t : Nat} (ht : t ≤ 12) {SL : List D} {N : D} (hN : N = .tup ((ss ++ [(⟨t, C t, C t⟩ : St)]).map stD)) {x6 x7 x8 x11 x12 x13 x15 : Option D} :
    ∃ y6 y15, forL (.nm 6) nrBody (rangeD 0 13) [none, some .drw, some (R6 a), some (.tup [R6 a, R6 b]), some (.lst CS), some (.tup SL), x6, x7, x8, some (.lst KN), some (.int (t : Nat)), x11, x12, x13, some N, x15, none, none, none] = pure (.nx, [none, some .drw, some (R6 a), some (.tup [R6 a, R6 b]), some (.lst CS), some (.tup SL), y6, x7, x8, some (.lst KN), some (.int (t : Nat)), x11, x12, x13, some N, y15, none, none, none]) := by
  have := R.a0; have := R.ab; have := R.b1
  have hbt := hb t ht
  have hb' : ∀ s ∈ ss ++ [(⟨t, C t, C t⟩ : St)], Bs s := fun s hs => by
    rcases List.mem_append.mp hs with hs | hs
    · exact (hss s hs).bs
    · obtain rfl := List.mem_singleton.mp hs
      refine ⟨ht, ?_, ?_⟩
      · show (C t).natAbs ≤ 2000
        omega
      · show (C t).natAbs ≤ 2000
        omega
  have hne' : ss ++ [(⟨t, C t, C t⟩ : St)] ≠ [] := by simp
  have hl' : (ss ++ [(⟨t, C t, C t⟩ : St)]).length ≤ 1000 := by
    rw [List.length_append]
    show ss.length + 1 ≤ 1000
    omega
  have rd : ∀ i : Nat, i ≤ 12 → m_readings [.tup [R6 a, R6 b], N, .int (i : Nat)] = pure (.tup [R6 (lw a b (ss ++ [⟨t, C t, C t⟩]) i), R6 (up a b (ss ++ [⟨t, C t, C t⟩]) i)]) := fun i hi => by
    rw [hN]
    exact readings6 R hne' hb' hl' hi
  have bd : ∀ i : Nat, i ≤ 12 → (lw a b (ss ++ [⟨t, C t, C t⟩]) i).natAbs ≤ 3000 ∧ (up a b (ss ++ [⟨t, C t, C t⟩]) i).natAbs ≤ 3000 := fun i hi => lw_bd R hne' hb' hi
  have n1 : ∀ i : Nat, lw a b ss i ≤ lw a b (ss ++ [⟨t, C t, C t⟩]) i ∧ up a b (ss ++ [⟨t, C t, C t⟩]) i ≤ up a b ss i := fun i => ⟨narrow_lw hne _ i, narrow_up hne _ i⟩
  obtain ⟨z1, z2⟩ := narrow_at hC hne hf ht
  have ct := cat t ht
  clear hN hb' hne' hl'
  obtain ⟨δ', e, y6, y15, rfl⟩ := forL_rng (T := .nm 6) (F := nrBody) (fun _ δ => ∃ y6 y15, δ = [none, some .drw, some (R6 a), some (.tup [R6 a, R6 b]), some (.lst CS), some (.tup SL), y6, x7, x8, some (.lst KN), some (.int (t : Nat)), x11, x12, x13, some N, y15, none, none, none]) (lo := 0) (n := 13) (δ := [none, some .drw, some (R6 a), some (.tup [R6 a, R6 b]), some (.lst CS), some (.tup SL), x6, x7, x8, some (.lst KN), some (.int (t : Nat)), x11, x12, x13, some N, x15, none, none, none]) ⟨x6, x15, rfl⟩ fun i δ hi hδ => by
    obtain ⟨y6, y15, rfl⟩ := hδ
    have hz : (0 : Int) + i = (i : Nat) := by omega
    rw [hz]
    have b1 := bd i (by omega)
    have b2 := kbd i (by omega)
    have b3 := n1 i
    refine ⟨_, _, rfl, .inl (g15 (rd i (by omega)) (kat i (by omega)) ?_ ?_ ct fun q => ?_), _, _, rfl⟩
    · rw [r6_below (by omega) (by omega), decide_eq_false (by omega)]
    · rw [r6_below (by omega) (by omega), decide_eq_false (by omega)]
    · have : i = t := by omega
      subst this
      rw [z1, z2]
      exact dNe_pair _ _
  exact ⟨y6, y15, e⟩
/-- without an idle stamp -/
theorem idle_ok {a b : Int} (R : Br a b) {C : Nat → Int} (hC : Lip a b 12 C) {ss : List St} (hne : ss ≠ []) (hss : ∀ s ∈ ss, Bs1 s) (hf : ∀ s ∈ ss, Fit C 12 s) (hl : ss.length ≤ 5) {KN CS : List D} (kat : ∀ t : Nat, t ≤ 12 → atI KN ((t : Nat) : Int) = some (.tup [R6 (lw a b ss t), R6 (up a b ss t)])) (cat : ∀ t : Nat, t ≤ 12 → atI CS ((t : Nat) : Int) = some (R6 (C t)))
    (kbd : ∀ t : Nat, t ≤ 12 → (lw a b ss t).natAbs ≤ 2000 ∧ (up a b ss t).natAbs ≤ 2000) (cin : ∀ t : Nat, t ≤ 12 → lw a b ss t ≤ C t ∧ C t ≤ up a b ss t) (hb : ∀ t : Nat, t ≤ 12 → -30 ≤ C t ∧ C t ≤ 30 + 50 * (t : Int)) {t : Nat} (ht : t ≤ 12) {SL : List D} (hSL : SL = ss.map stD) {x6 x7 x8 x11 x12 x13 x14 x15 : Option D} :
    ∃ y16 y17, forL (.nm 16) idlBody (((List.range ss.length).filter (idleAt a b ss)).map fun (k : Nat) => D.int (k : Nat)) [none, some .drw, some (R6 a), some (.tup [R6 a, R6 b]), some (.lst CS), some (.tup SL), x6, x7, x8, some (.lst KN), some (.int (t : Nat)), x11, x12, x13, x14, x15, none, none, none] = pure (.nx, [none, some .drw, some (R6 a), some (.tup [R6 a, R6 b]), some (.lst CS), some (.tup SL), x6, x7, x8, some (.lst KN), some (.int (t : Nat)), x11, x12, x13, x14, x15, y16, y17, none]) := by
  have bss : ∀ s ∈ ss, Bs s := fun s hs => (hss s hs).bs
  obtain ⟨δ', e, y16, y17, rfl⟩ := forL_ix (T := .nm 16) (F := idlBody) (fun _ δ => ∃ y16 y17, δ = [none, some .drw, some (R6 a), some (.tup [R6 a, R6 b]), some (.lst CS), some (.tup SL), x6, x7, x8, some (.lst KN), some (.int (t : Nat)), x11, x12, x13, x14, x15, y16, y17, none]) (ds := ((List.range ss.length).filter (idleAt a b ss)).map fun (k : Nat) => D.int (k : Nat)) (n := 0) (δ := [none, some .drw, some (R6 a), some (.tup [R6 a, R6 b]), some (.lst CS), some (.tup SL), x6, x7, x8, some (.lst KN), some (.int (t : Nat)), x11, x12, x13, x14, x15, none, none, none]) ⟨none, none, rfl⟩ fun i d δ hi hδ => by
    obtain ⟨y16, y17, rfl⟩ := hδ
    obtain ⟨k, hk, rfl⟩ := List.mem_map.mp (List.mem_of_getElem? hi)
    obtain ⟨hk1, hk2⟩ := List.mem_filter.mp hk
    have hlt := List.mem_range.mp hk1
    unfold idleAt at hk2
    rw [List.getElem?_eq_getElem hlt] at hk2
    have c1 : cutD SL none (some (k : Nat)) = (ss.take k).map stD := by
      rw [hSL, cut_take _ (by omega), ← List.map_take]
      congr 1
    have c2 : cutD SL (some ((k : Nat) + 1)) none = (ss.drop (k + 1)).map stD := by
      rw [hSL, cut_drop _ (by omega), ← List.map_drop]
      congr 1
    have es : ss = ss.take k ++ ss[k] :: ss.drop (k + 1) := by
      rw [List.getElem_cons_drop hlt, List.take_append_drop]
    have hos : ∀ o ∈ ss.take k ++ ss.drop (k + 1), Bs o := fun o ho => by
      rcases List.mem_append.mp ho with ho | ho
      · exact bss o (List.mem_of_mem_take ho)
      · exact bss o (List.mem_of_mem_drop ho)
    have hll : (ss.take k ++ ss.drop (k + 1)).length ≤ 1000 := by
      rw [List.length_append, List.length_take, List.length_drop]
      omega
    have hst : (ss[k]).t ≤ 12 := (hss _ (List.getElem_mem hlt)).t
    have nn := dNe_nil (ss.take k ++ ss.drop (k + 1))
    rw [List.map_append] at nn
    have body := g16 (lo := R6 a) (dr := .tup [R6 a, R6 b]) (CS := CS) (SL := SL) (KN := KN) (x6 := x6) (x7 := x7) (x8 := x8) (x10 := some (.int (t : Nat))) (x11 := x11) (x12 := x12) (x13 := x13) (x14 := x14) (x15 := x15) (x17 := y17) (x18 := none) c1 c2 (by rw [List.length_map, List.length_map, List.length_take, List.length_drop]; omega) nn (fl := (List.range 13).map fun _ => .bl false) (fun hb1 => ?_) (any_no 13)
    · exact ⟨_, _, rfl, .inl body, _, _, rfl⟩
    · have rne : ss.take k ++ ss.drop (k + 1) ≠ [] := fun z => by
        rw [z] at hb1
        cases hb1
      unfold idleB at hk2
      rw [Bool.and_eq_true, Bool.and_eq_true, decide_eq_true_eq, decide_eq_true_eq] at hk2
      obtain ⟨_, i1, i2⟩ := hk2
      have fi : ∀ i : Nat, i < 13 → (eBin dNe (eDef m_readings (aCons (eVar 3) (aCons (eVar 17) (aCons (eVar 6) aNil)))) (eBin dIx (eVar 9) (eVar 6))) [none, some .drw, some (R6 a), some (.tup [R6 a, R6 b]), some (.lst CS), some (.tup SL), some (.int (i : Nat)), x7, x8, some (.lst KN), some (.int (t : Nat)), x11, x12, x13, x14, x15, some (.int (k : Nat)), some (.tup ((ss.take k).map stD ++ (ss.drop (k + 1)).map stD)), none] = pure (.bl false) := fun i hi => by
        have e := readings6 R rne hos hll (t := i) (by omega)
        have q1 := idle_lw R.ab rne (n := 12) hst i1 (t := i) (by omega)
        have q2 := idle_up R.ab rne (n := 12) hst i2 (t := i) (by omega)
        rw [← es] at q1 q2
        rw [q1, q2, List.map_append] at e
        exact g16c e (kat i (by omega)) (dNe_pair _ _)
      generalize (ss.take k).map stD ++ (ss.drop (k + 1)).map stD = RL at *
      exact eLc_eq (ds := rangeD 0 13) rfl (by rw [rangeD_len]; omega) (lcL_rng (fun _ => .bl false) fun i hi => ⟨_, rfl, fi i hi⟩)
  exact ⟨y16, y17, e⟩
/-- behind the steps -/
theorem rest4 {a b : Int} (R : Br a b) {C : Nat → Int} (hC : Lip a b 12 C) {ss : List St} (hne : ss ≠ []) (hss : ∀ s ∈ ss, Bs1 s) (hf : ∀ s ∈ ss, Fit C 12 s) (hl : ss.length ≤ 5) {KN CS : List D} (kat : ∀ t : Nat, t ≤ 12 → atI KN ((t : Nat) : Int) = some (.tup [R6 (lw a b ss t), R6 (up a b ss t)])) (cat : ∀ t : Nat, t ≤ 12 → atI CS ((t : Nat) : Int) = some (R6 (C t)))
    (kbd : ∀ t : Nat, t ≤ 12 → (lw a b ss t).natAbs ≤ 2000 ∧ (up a b ss t).natAbs ≤ 2000) (cin : ∀ t : Nat, t ≤ 12 → lw a b ss t ≤ C t ∧ C t ≤ up a b ss t) (hb : ∀ t : Nat, t ≤ 12 → -30 ≤ C t ∧ C t ≤ 30 + 50 * (t : Int)) {t : Nat} (ht : t ≤ 12) {x6 x7 x8 x11 x12 x13 : Option D} (w : Dw) :
    wp (REST4 [none, some .drw, some (R6 a), some (.tup [R6 a, R6 b]), some (.lst CS), some (.tup (ss.map stD)), x6, x7, x8, some (.lst KN), some (.int (t : Nat)), x11, x12, x13, none, none, none, none, none]) EndT w := by
  have := R.a0; have := R.ab; have := R.b1
  unfold REST4
  have st14 := g14 (lo := R6 a) (dr := .tup [R6 a, R6 b]) (CS := CS) (SL := ss.map stD) (x6 := x6) (x7 := x7) (x8 := x8) (x9 := some (.lst KN)) (x11 := x11) (x12 := x12) (x13 := x13) (x14 := none) (x15 := none) (x16 := none) (x17 := none) (x18 := none) (cat t ht) (by rw [List.length_map]; omega)
  refine wp_seq st14 ?_
  clear st14
  have eN : D.tup (ss.map stD ++ [.tup [.int ((t : Nat) : Int), R6 (C t), R6 (C t)]]) = .tup ((ss ++ [(⟨t, C t, C t⟩ : St)]).map stD) := by
    rw [List.map_append]
    rfl
  obtain ⟨y6, y15, e1⟩ := narrow_ok R hC hne hss hf hl kat cat kbd cin hb ht (SL := ss.map stD) eN (x6 := x6) (x7 := x7) (x8 := x8) (x11 := x11) (x12 := x12) (x13 := x13) (x15 := none)
  refine wp_seq (F := sFor _ _ _) (by
    rw [sFor_eq]
    exact e1) ?_
  clear e1
  generalize D.tup (ss.map stD ++ [.tup [.int ((t : Nat) : Int), R6 (C t), R6 (C t)]]) = N at *
  have bss : ∀ s ∈ ss, Bs s := fun s hs => (hss s hs).bs
  have idl := idle_list R bss (by omega)
  obtain ⟨y16, y17, e2⟩ := idle_ok R hC hne hss hf hl kat cat kbd cin hb ht (SL := ss.map stD) rfl (x6 := y6) (x7 := x7) (x8 := x8) (x11 := x11) (x12 := x12) (x13 := x13) (x14 := some N) (x15 := y15)
  obtain ⟨F, L, et, f1, f2⟩ := times6 R hC hne bss hf (by omega) ht (by
    have := hb t ht
    omega)
  have et' : m_times_of [.tup [R6 a, R6 b], .tup (ss.map stD), R6 (C t)] = pure (.tup [.int F, .int L]) := et
  have idl' : m_idle_stamps [.tup [R6 a, R6 b], .tup (ss.map stD)] = pure (.lst (((List.range ss.length).filter (idleAt a b ss)).map fun (k : Nat) => D.int (k : Nat))) := idl
  generalize ((List.range ss.length).filter (idleAt a b ss)).map (fun (k : Nat) => D.int (k : Nat)) = IL at *
  generalize ss.map stD = SL at *
  have ei : itSeq (eDef m_idle_stamps (aCons (eVar 3) (aCons (eVal 5) aNil))) [none, some .drw, some (R6 a), some (.tup [R6 a, R6 b]), some (.lst CS), some (.tup SL), y6, x7, x8, some (.lst KN), some (.int (t : Nat)), x11, x12, x13, some N, y15, none, none, none] = pure IL := by
    show (m_idle_stamps [.tup [R6 a, R6 b], .tup SL] >>= fun x => liftO (dItems x)) = _
    rw [idl', Fc.pb]
    rfl
  refine wp_seq (F := sFor _ _ _) (by
    rw [sFor_eq, ei, Fc.pb]
    exact e2) ?_
  clear e2 ei
  refine wp_seq (g17 (cat t ht) et') ?_
  rw [g18 f1 f2, wp_pure]
  exact ⟨_, rfl⟩
/-- what is known already, as a stamp -/
theorem cond12 {a b : Int} (R : Br a b) {C : Nat → Int} (hC : Lip a b 12 C) {ss : List St} (hne : ss ≠ []) (hss : ∀ s ∈ ss, Bs1 s) (hf : ∀ s ∈ ss, Fit C 12 s) (hl : ss.length ≤ 5) {KN CS : List D} (kat : ∀ t : Nat, t ≤ 12 → atI KN ((t : Nat) : Int) = some (.tup [R6 (lw a b ss t), R6 (up a b ss t)])) (cat : ∀ t : Nat, t ≤ 12 → atI CS ((t : Nat) : Int) = some (R6 (C t)))
    (kbd : ∀ t : Nat, t ≤ 12 → (lw a b ss t).natAbs ≤ 2000 ∧ (up a b ss t).natAbs ≤ 2000) (cin : ∀ t : Nat, t ≤ 12 → lw a b ss t ≤ C t ∧ C t ≤ up a b ss t) (hb : ∀ t : Nat, t ≤ 12 → -30 ≤ C t ∧ C t ≤ 30 + 50 * (t : Int)) {t : Nat} (ht : t ≤ 12) {AL : List D} (hA : AL = (ss ++ [(⟨t, lw a b ss t, up a b ss t⟩ : St)]).map stD) {x6 x7 x8 x10 x12 x13 x14 x15 x16 x17 x18 : Option D} :
    (tOrF (Fc.tB (eBin dIsNot (eDef m_barring (aCons (eVar 3) (aCons (eVar 11) aNil))) (eC .non))) (tOrF (Fc.tB (eBin dNotIn (eBin dSub (eCall dLen (aCons (eVar 11) aNil)) (eC (.int 1))) (eDef m_idle_stamps (aCons (eVar 3) (aCons (eVar 11) aNil))))) (tT (eCall dAny (aCons (eLc [6] (.nm 6) (itCall dRange1 (aCons (eC (.int 13)) aNil)) tYesF (eBin dNe (eDef m_readings (aCons (eVar 3) (aCons (eVar 11) (aCons (eVar 6) aNil)))) (eBin dIx (eVar 9) (eVar 6)))) aNil))))) [none, some .drw, some (R6 a), some (.tup [R6 a, R6 b]), some (.lst CS), some (.tup (ss.map stD)), x6, x7, x8, some (.lst KN), x10, some (.tup AL), x12, x13, x14, x15, x16, x17, x18] = pure false := by
  have kb := kbd t ht
  have ci := cin t ht
  have hb' : ∀ s ∈ ss ++ [(⟨t, lw a b ss t, up a b ss t⟩ : St)], Bs s := fun s hs => by
    rcases List.mem_append.mp hs with hs | hs
    · exact (hss s hs).bs
    · obtain rfl := List.mem_singleton.mp hs
      exact ⟨ht, kb.1, kb.2⟩
  have hf' : ∀ s ∈ ss ++ [(⟨t, lw a b ss t, up a b ss t⟩ : St)], Fit C 12 s := fun s hs => by
    rcases List.mem_append.mp hs with hs | hs
    · exact hf s hs
    · obtain rfl := List.mem_singleton.mp hs
      exact ⟨ci.1, ci.2, ht⟩
  have hl' : (ss ++ [(⟨t, lw a b ss t, up a b ss t⟩ : St)]).length = ss.length + 1 := by rw [List.length_append]; rfl
  have bss : ∀ s ∈ ss, Bs s := fun s hs => (hss s hs).bs
  have hne' : ss ++ [(⟨t, lw a b ss t, up a b ss t⟩ : St)] ≠ [] := by simp
  have bar' := barring6 R hC hb' hf' (by omega)
  have idl := idle_list R hb' (by omega)
  have last : idleAt a b (ss ++ [⟨t, lw a b ss t, up a b ss t⟩]) ss.length = true := by
    unfold idleAt
    rw [List.getElem?_append_right (Nat.le_refl _), Nat.sub_self]
    show idleB a b ⟨t, lw a b ss t, up a b ss t⟩ _ = true
    rw [List.take_append_of_le_length (Nat.le_refl _), List.take_length, List.drop_of_length_le (by omega), List.append_nil]
    unfold idleB
    have : ss.isEmpty = false := by
      cases ss with
      | nil => exact absurd rfl hne
      | cons _ _ => rfl
    rw [this, decide_eq_true (Int.le_refl _), decide_eq_true (Int.le_refl _)]
    rfl
  have notin : dNotIn (.int ((((ss ++ [(⟨t, lw a b ss t, up a b ss t⟩ : St)]).map stD).length : Nat) - 1)) (.lst (((List.range (ss ++ [(⟨t, lw a b ss t, up a b ss t⟩ : St)]).length).filter (idleAt a b (ss ++ [⟨t, lw a b ss t, up a b ss t⟩]))).map fun (k : Nat) => D.int (k : Nat))) = some (.bl false) := by
    have e : (((List.range (ss ++ [(⟨t, lw a b ss t, up a b ss t⟩ : St)]).length).filter (idleAt a b (ss ++ [⟨t, lw a b ss t, up a b ss t⟩]))).map fun (k : Nat) => D.int (k : Nat)) = zl (((List.range (ss ++ [(⟨t, lw a b ss t, up a b ss t⟩ : St)]).length).filter (idleAt a b (ss ++ [⟨t, lw a b ss t, up a b ss t⟩]))).map fun (k : Nat) => (k : Int)) := by
      unfold zl
      rw [List.map_map]
      rfl
    rw [e]
    refine dNotIn_mem (List.mem_map.mpr ⟨ss.length, List.mem_filter.mpr ⟨List.mem_range.mpr (by omega), last⟩, ?_⟩)
    rw [List.length_map, hl']
    omega
  have same' : ∀ i : Nat, i ≤ 12 → lw a b (ss ++ [⟨t, lw a b ss t, up a b ss t⟩]) i = lw a b ss i ∧ up a b (ss ++ [⟨t, lw a b ss t, up a b ss t⟩]) i = up a b ss i := fun i hi => ⟨known_lw R.ab hne ht hi, known_up R.ab hne ht hi⟩
  have fi : ∀ i : Nat, i < 13 → (eBin dNe (eDef m_readings (aCons (eVar 3) (aCons (eVar 11) (aCons (eVar 6) aNil)))) (eBin dIx (eVar 9) (eVar 6))) [none, some .drw, some (R6 a), some (.tup [R6 a, R6 b]), some (.lst CS), some (.tup (ss.map stD)), some (.int (i : Nat)), x7, x8, some (.lst KN), x10, some (.tup AL), x12, x13, x14, x15, x16, x17, x18] = pure (.bl false) := fun i hi => by
    have e := readings6 R hne' hb' (by omega) (t := i) (by omega)
    rw [(same' i (by omega)).1, (same' i (by omega)).2, ← hA] at e
    exact g12c e (kat i (by omega)) (dNe_pair _ _)
  rw [← hA] at bar' idl notin
  clear hA
  generalize ss.map stD = SL at *
  have cmp : eLc [6] (.nm 6) (itCall dRange1 (aCons (eC (.int 13)) aNil)) tYesF (eBin dNe (eDef m_readings (aCons (eVar 3) (aCons (eVar 11) (aCons (eVar 6) aNil)))) (eBin dIx (eVar 9) (eVar 6))) [none, some .drw, some (R6 a), some (.tup [R6 a, R6 b]), some (.lst CS), some (.tup SL), x6, x7, x8, some (.lst KN), x10, some (.tup AL), x12, x13, x14, x15, x16, x17, x18] = pure (.lst ((List.range 13).map fun _ => .bl false)) :=
    eLc_eq (ds := rangeD 0 13) rfl (by rw [rangeD_len]; omega) (lcL_rng (fun _ => .bl false) fun i hi => ⟨_, rfl, fi i hi⟩)
  exact g12 bar' idl notin (any_no 13) cmp
/-- the steps of what is known -/
theorem steps_ok {a b : Int} (R : Br a b) {ss : List St} (hne : ss ≠ []) {KN CS SL : List D} {AT AD : D} (kat : ∀ t : Nat, t ≤ 12 → atI KN ((t : Nat) : Int) = some (.tup [R6 (lw a b ss t), R6 (up a b ss t)])) (kbd : ∀ t : Nat, t ≤ 12 → (lw a b ss t).natAbs ≤ 2000 ∧ (up a b ss t).natAbs ≤ 2000) {x6 x7 x8 x12 x13 : Option D} :
    ∃ y6 y12 y13, forL (.nm 12) (sFor (.nm 6) (itCall dRange1 (aCons (eC (.int 12)) aNil)) stBody) [.int 0, .int 1] [none, some .drw, some (R6 a), some (.tup [R6 a, R6 b]), some (.lst CS), some (.tup SL), x6, x7, x8, some (.lst KN), some AT, some AD, x12, x13, none, none, none, none, none] = pure (.nx, [none, some .drw, some (R6 a), some (.tup [R6 a, R6 b]), some (.lst CS), some (.tup SL), y6, x7, x8, some (.lst KN), some AT, some AD, y12, y13, none, none, none, none, none]) := by
  have := R.a0; have := R.ab; have := R.b1
  obtain ⟨δ1, e1, y6, y12, y13, rfl⟩ := forL_ix (T := .nm 12) (F := sFor (.nm 6) (itCall dRange1 (aCons (eC (.int 12)) aNil)) stBody) (fun _ δ => ∃ y6 y12 y13, δ = [none, some .drw, some (R6 a), some (.tup [R6 a, R6 b]), some (.lst CS), some (.tup SL), y6, x7, x8, some (.lst KN), some AT, some AD, y12, y13, none, none, none, none, none]) (ds := [.int 0, .int 1]) (n := 0) (δ := [none, some .drw, some (R6 a), some (.tup [R6 a, R6 b]), some (.lst CS), some (.tup SL), x6, x7, x8, some (.lst KN), some AT, some AD, x12, x13, none, none, none, none, none]) ⟨x6, x12, x13, rfl⟩ fun i d δ hi hδ => by
    obtain ⟨y6, y12, y13, rfl⟩ := hδ
    have two : ∃ (sd : Int) (v : Nat → Int), d = .int sd ∧ (∀ k, k ≤ 12 → atI [R6 (lw a b ss k), R6 (up a b ss k)] sd = some (R6 (v k))) ∧ (∀ k, k ≤ 12 → (v k).natAbs ≤ 2000) ∧ ∀ k, a ≤ v (k + 1) - v k ∧ v (k + 1) - v k ≤ b := by
      match i, hi with
      | 0, hi =>
        cases hi
        exact ⟨0, fun k => lw a b ss k, rfl, fun k hk => at0 _ _, fun k hk => (kbd k hk).1, fun k => lw_step R.ab hne k⟩
      | 1, hi =>
        cases hi
        exact ⟨1, fun k => up a b ss k, rfl, fun k hk => at1 _ _ _, fun k hk => (kbd k hk).2, fun k => up_step R.ab hne k⟩
      | i + 2, hi => simp at hi
    obtain ⟨sd, v, rfl, v1, v2, v3⟩ := two
    obtain ⟨δ2, e2, z6, z13, rfl⟩ := forL_rng (T := .nm 6) (F := stBody) (fun _ δ => ∃ z6 z13, δ = [none, some .drw, some (R6 a), some (.tup [R6 a, R6 b]), some (.lst CS), some (.tup SL), z6, x7, x8, some (.lst KN), some AT, some AD, some (.int sd), z13, none, none, none, none, none]) (lo := 0) (n := 12) (δ := [none, some .drw, some (R6 a), some (.tup [R6 a, R6 b]), some (.lst CS), some (.tup SL), y6, x7, x8, some (.lst KN), some AT, some AD, some (.int sd), y13, none, none, none, none, none]) ⟨y6, y13, rfl⟩ fun k δ hk hδ => by
      obtain ⟨z6, z13, rfl⟩ := hδ
      have hz : (0 : Int) + k = (k : Nat) := by omega
      rw [hz]
      have k1 := kat (k + 1) (by omega)
      have hk1 : ((k + 1 : Nat) : Int) = (k : Nat) + 1 := by omega
      rw [hk1] at k1
      have w1 := v2 k (by omega)
      have w2 := v2 (k + 1) (by omega)
      have w3 := v3 k
      refine ⟨_, _, rfl, .inl (g13 k1 (kat k (by omega)) (v1 (k + 1) (by omega)) (v1 k (by omega)) (r6_lsub (by omega) (by omega)) ?_ ?_), _, _, rfl⟩
      · rw [r6_below (by omega) (by omega), decide_eq_false (by omega)]
      · rw [r6_below (by omega) (by omega), decide_eq_false (by omega)]
    exact ⟨_, _, rfl, .inl (by
      rw [sFor_eq]
      exact e2), _, _, _, rfl⟩
  exact ⟨y6, y12, y13, e1⟩
/-- the rest, with a time t -/
theorem rest3 {a b : Int} (R : Br a b) {C : Nat → Int} (hC : Lip a b 12 C) {ss : List St} (hne : ss ≠ []) (hss : ∀ s ∈ ss, Bs1 s) (hf : ∀ s ∈ ss, Fit C 12 s) (hl : ss.length ≤ 5) {KN CS : List D} (kat : ∀ t : Nat, t ≤ 12 → atI KN ((t : Nat) : Int) = some (.tup [R6 (lw a b ss t), R6 (up a b ss t)])) (cat : ∀ t : Nat, t ≤ 12 → atI CS ((t : Nat) : Int) = some (R6 (C t)))
    (kbd : ∀ t : Nat, t ≤ 12 → (lw a b ss t).natAbs ≤ 2000 ∧ (up a b ss t).natAbs ≤ 2000) (cin : ∀ t : Nat, t ≤ 12 → lw a b ss t ≤ C t ∧ C t ≤ up a b ss t) (hb : ∀ t : Nat, t ≤ 12 → -30 ≤ C t ∧ C t ≤ 30 + 50 * (t : Int)) {t : Nat} (ht : t ≤ 12) {x6 x7 x8 : Option D} (w : Dw) :
    wp (REST3 [none, some .drw, some (R6 a), some (.tup [R6 a, R6 b]), some (.lst CS), some (.tup (ss.map stD)), x6, x7, x8, some (.lst KN), some (.int (t : Nat)), none, none, none, none, none, none, none, none]) EndT w := by
  have := R.a0; have := R.ab; have := R.b1
  unfold REST3
  -- a stamp of what is known
  have eA : ss.map stD ++ [.tup [.int ((t : Nat) : Int), R6 (lw a b ss t), R6 (up a b ss t)]] = (ss ++ [(⟨t, lw a b ss t, up a b ss t⟩ : St)]).map stD := by
    rw [List.map_append]
    rfl
  have st11 := g11 (lo := R6 a) (dr := .tup [R6 a, R6 b]) (CS := CS) (SL := ss.map stD) (x6 := x6) (x7 := x7) (x8 := x8) (x11 := none) (x12 := none) (x13 := none) (x14 := none) (x15 := none) (x16 := none) (x17 := none) (x18 := none) (kat t ht) (by rw [List.length_map]; omega)
  rw [eA] at st11
  refine wp_seq st11 ?_
  clear st11 eA
  refine wp_if (cond12 R hC hne hss hf hl kat cat kbd cin hb ht rfl) ?_
  generalize (ss ++ [(⟨t, lw a b ss t, up a b ss t⟩ : St)]).map stD = AL
  obtain ⟨y6, y12, y13, e1⟩ := steps_ok R hne (SL := ss.map stD) (CS := CS) (AT := .int (t : Nat)) (AD := .tup AL) (x6 := x6) (x7 := x7) (x8 := x8) (x12 := none) (x13 := none) kat kbd
  have ei : ∀ δ : Fc.Env, itSeq (eTup (aCons (eC (.int 0)) (aCons (eC (.int 1)) aNil))) δ = pure [.int 0, .int 1] := fun _ => rfl
  refine wp_seq (F := sFor _ _ _) (by
    rw [sFor_eq, ei, Fc.pb]
    exact e1) ?_
  clear e1
  exact rest4 R hC hne hss hf hl kat cat kbd cin hb ht w
/-- behind the drawing of the stamps -/
theorem rest2 {a b : Int} (R : Br a b) {cs : List Int} (hc : Crs a b 12 cs) {ss : List St} (hne : ss ≠ []) (hss : ∀ s ∈ ss, Bs1 s) (hf : ∀ s ∈ ss, Fit (fun i => cs.getD i 0) 12 s) (hl : ss.length ≤ 5) {x6 x7 x8 : Option D} (w : Dw) : wp (RESTF [none, some .drw, some (R6 a), some (.tup [R6 a, R6 b]), some (.lst (cs.map R6)), some (.lst (ss.map stD)), x6, x7, x8, none, none, none, none, none, none, none, none, none, none]) EndT w := by
  have hC : Lip a b 12 (fun i => cs.getD i 0) := fun t ht => hc.st t ht
  have hb := fun (t : Nat) (ht : t ≤ 12) => hc.bd t ht
  unfold RESTF
  refine wp_seq (δ1 := [none, some .drw, some (R6 a), some (.tup [R6 a, R6 b]), some (.lst (cs.map R6)), some (.tup (ss.map stD)), x6, x7, x8, none, none, none, none, none, none, none, none, none, none]) rfl ?_
  refine wp_if (g7 (barring6 R hC (fun s hs => (hss s hs).bs) hf (by omega))) ?_
  -- what is known
  have kn : eLc [6] (.nm 6) (itCall dRange1 (aCons (eC (.int 13)) aNil)) tYesF (eDef m_readings (aCons (eVar 3) (aCons (eVal 5) (aCons (eVar 6) aNil)))) [none, some .drw, some (R6 a), some (.tup [R6 a, R6 b]), some (.lst (cs.map R6)), some (.tup (ss.map stD)), x6, x7, x8, none, none, none, none, none, none, none, none, none, none] = pure (.lst ((List.range 13).map fun t => .tup [R6 (lw a b ss t), R6 (up a b ss t)])) :=
    eLc_eq (ds := rangeD 0 13) rfl (by rw [rangeD_len]; omega) (lcL_rng (fun t => .tup [R6 (lw a b ss t), R6 (up a b ss t)]) fun i hi => ⟨_, rfl, readings6 R hne (fun s hs => (hss s hs).bs) (by omega) (by omega)⟩)
  have kat : ∀ t : Nat, t ≤ 12 → atI ((List.range 13).map fun t => D.tup [R6 (lw a b ss t), R6 (up a b ss t)]) ((t : Nat) : Int) = some (.tup [R6 (lw a b ss t), R6 (up a b ss t)]) := fun t ht => get_map _ (by omega)
  have cat : ∀ t : Nat, t ≤ 12 → atI (cs.map R6) ((t : Nat) : Int) = some (R6 (cs.getD t 0)) := fun t ht => at_crs hc ht
  have kbd : ∀ t : Nat, t ≤ 12 → (lw a b ss t).natAbs ≤ 2000 ∧ (up a b ss t).natAbs ≤ 2000 := fun t ht => lw_bd1 R hne hss ht
  have cin : ∀ t : Nat, t ≤ 12 → lw a b ss t ≤ cs.getD t 0 ∧ cs.getD t 0 ≤ up a b ss t := fun t ht => ⟨lw_le hC hne hf ht, le_up hC hne hf ht⟩
  refine wp_seq (δ1 := [none, some .drw, some (R6 a), some (.tup [R6 a, R6 b]), some (.lst (cs.map R6)), some (.tup (ss.map stD)), x6, x7, x8, some (.lst ((List.range 13).map fun t => .tup [R6 (lw a b ss t), R6 (up a b ss t)])), none, none, none, none, none, none, none, none, none]) (by
    show (eLc _ _ _ _ _ _ >>= fun d => liftO (setT (.nm 9) d _) >>= fun δ' => pure (Out.nx, δ')) = _
    rw [kn, Fc.pb]
    rfl) ?_
  clear kn
  generalize hKN : (List.range 13).map (fun t => D.tup [R6 (lw a b ss t), R6 (up a b ss t)]) = KN at *
  generalize hCS : cs.map R6 = CS at *
  -- the course lies in it
  obtain ⟨δ', e, y6, rfl⟩ := forL_rng (T := .nm 6) (F := sIf (tOrF (tT (eDef m__law_below (aCons (eBin dIx (eVar 4) (eVar 6)) (aCons (eBin dIx (eBin dIx (eVar 9) (eVar 6)) (eC (.int 0))) aNil)))) (tT (eDef m__law_below (aCons (eBin dIx (eBin dIx (eVar 9) (eVar 6)) (eC (.int 1))) (aCons (eBin dIx (eVar 4) (eVar 6)) aNil))))) (sRet (eC (.bl false))) sNil) (fun _ δ => ∃ y6, δ = [none, some .drw, some (R6 a), some (.tup [R6 a, R6 b]), some (.lst CS), some (.tup (ss.map stD)), y6, x7, x8, some (.lst KN), none, none, none, none, none, none, none, none, none]) (lo := 0) (n := 13) (δ := [none, some .drw, some (R6 a), some (.tup [R6 a, R6 b]), some (.lst CS), some (.tup (ss.map stD)), x6, x7, x8, some (.lst KN), none, none, none, none, none, none, none, none, none]) ⟨x6, rfl⟩ fun i δ hi hδ => by
    obtain ⟨y6, rfl⟩ := hδ
    have hz : (0 : Int) + i = (i : Nat) := by omega
    rw [hz]
    have c1 := cin i (by omega)
    have c2 := kbd i (by omega)
    have c3 := hb i (by omega)
    refine ⟨_, _, rfl, .inl (sIf_no (g9 (cat i (by omega)) (kat i (by omega)) ?_ ?_)), _, rfl⟩
    · rw [r6_below (by omega) (by omega), decide_eq_false (by omega)]
    · rw [r6_below (by omega) (by omega), decide_eq_false (by omega)]
  refine wp_seq (F := sFor _ _ _) (by
    rw [sFor_eq]
    exact e) ?_
  clear e
  refine nx_draw1 (mx := 13) (by omega) rfl rfl fun at_ w ata atb => ?_
  obtain ⟨t, rfl⟩ : ∃ t' : Nat, at_ = (t' : Nat) := ⟨at_.toNat, by omega⟩
  have ht : t ≤ 12 := by omega
  exact rest3 R hC hne hss hf hl kat cat kbd cin hb ht w
/-- behind the drawing of the course -/
theorem rest_true {a b : Int} (R : Br a b) {cs : List Int} (hc : Crs a b 12 cs) {x6 x7 : Option D} (w : Dw) : wp ((sSeq (sFor (.nm 8) (itCall dRange1 (aCons (eBin dAdd (eC (.int 1)) (eDef nextF (aCons (eVar 1) (aCons (eC (.int 4)) aNil)))) aNil)) stmps) RESTF) [none, some .drw, some (R6 a), some (.tup [R6 a, R6 b]), some (.lst (cs.map R6)), some (.lst []), x6, x7, none, none, none, none, none, none, none, none, none, none, none]) EndT w := by
  -- the stamps
  refine wp_seqW ?_
  rw [sFor_eq]
  walk_at "ew"
  refine wp_next (by omega) fun k w ka kb => ?_
  have er : dRange1 [.int (1 + k)] = some (rangeD 0 (1 + k).toNat) := dRange1_ok (by omega) (by omega)
  walk_at "ew"
  refine wp_forL (n := 0) (fun n δ => n ≤ 4 ∧ ∃ (ss : List St) (x6 x7 x8 : Option D), (∀ s ∈ ss, Bs1 s ∧ Fit (fun i => cs.getD i 0) 12 s) ∧ ss.length = n ∧ δ = [none, some .drw, some (R6 a), some (.tup [R6 a, R6 b]), some (.lst (cs.map R6)), some (.lst (ss.map stD)), x6, x7, x8, none, none, none, none, none, none, none, none, none, none]) ⟨by omega, [], x6, x7, none, fun s hs => (by cases hs), rfl, rfl⟩ (fun i d δ w hi hδ => ?_) fun δ' w' hδ => ?_
  · rw [Nat.zero_add] at hδ ⊢
    obtain ⟨hn, ss, y6, y7, y8, h1, h2, rfl⟩ := hδ
    obtain ⟨hik, rfl⟩ := rangeD_get 0 _ i d hi
    refine ⟨_, rfl, ?_⟩
    refine wp_mono (stmps_ok R hc (n := i) (by omega) ⟨ss, y6, y7, _, h1, h2, rfl⟩) fun p w' ⟨δ2, e, h⟩ => ⟨δ2, e, by omega, h⟩
  rw [Nat.zero_add, rangeD_len] at hδ
  obtain ⟨_, ss, y6, y7, y8, h1, h2, rfl⟩ := hδ
  refine ⟨_, rfl, ?_⟩
  have hne : ss ≠ [] := fun z => by
    rw [z] at h2
    have : ([] : List St).length = 0 := rfl
    omega
  have hl4 : ss.length ≤ 5 := by omega
  clear h2 er ka kb
  exact rest2 R hc hne (fun s hs => (h1 s hs).1) (fun s hs => (h1 s hs).2) hl4 w'
theorem law_true : ∀ ns : List Int, ns.length ≤ 63 → ∃ δ' w', F_law (none :: some .drw :: List.replicate 17 none) ⟨ns, 0, 0, 17⟩ = some ((.rt (.bl true), δ'), w') := by
  intro ns _
  suffices h : wp (F_law [none, some .drw, none, none, none, none, none, none, none, none, none, none, none, none, none, none, none, none, none]) EndT ⟨ns, 0, 0, 17⟩ by
    obtain ⟨p, w', e, δ, rfl⟩ := h
    exact ⟨δ, w', e⟩
  unfold F_law
  generalize (⟨ns, 0, 0, 17⟩ : Dw) = w
  -- the drift
  refine wp_seqW ?_
  walk_at "ew"
  refine wp_next (by omega) fun k1 w k1a k1b => ?_
  have e1 : m__law_low [.int (1 + k1), .int 2] = pure (R6 (3 * (1 + k1))) := low6 (by decide) (by decide) (by omega)
  walk_at "ew"
  refine ⟨_, rfl, ?_⟩
  obtain ⟨a, ha⟩ : ∃ a, a = 3 * (1 + k1) := ⟨_, rfl⟩
  rw [← ha]
  have ua : 3 ≤ a ∧ a ≤ 12 := by omega
  clear e1 ha k1a k1b k1
  refine wp_seqW ?_
  walk_at "ew"
  refine wp_next (by omega) fun k2 w k2a k2b => ?_
  have e1 : m__law_low [.int k2, .int 3] = pure (R6 (2 * k2)) := low6 (by decide) (by decide) (by omega)
  have e2 := r6_ladd (m := a) (n := 2 * k2) (by omega) (by omega)
  walk_at "ew"
  refine ⟨_, rfl, ?_⟩
  obtain ⟨b, hb⟩ : ∃ b, b = a + 2 * k2 := ⟨_, rfl⟩
  rw [← hb]
  have R : Br a b := ⟨by omega, by omega, by omega⟩
  have hkk : b - a = 2 * k2 := by omega
  clear e1 e2 hb
  -- the course
  refine wp_seqW ?_
  walk_at "ew"
  refine wp_next (by omega) fun k3 w k3a k3b => ?_
  walk_at "ew"
  refine ⟨_, rfl, ?_⟩
  rw [r6_int (k3 - 4)]
  have c0 : Crs a b 0 [6 * (k3 - 4)] := ⟨rfl, fun i hi => by omega, fun i hi => by
    have : i = 0 := by omega
    subst this
    show -30 ≤ 6 * (k3 - 4) ∧ 6 * (k3 - 4) ≤ _
    omega⟩
  refine wp_seqW ?_
  show wp (forL (.nm 6) _ (rangeD 0 12) _) _ w
  refine wp_forL (fun n δ => ∃ (cs : List Int) (x6 x7 : Option D), Crs a b n cs ∧ δ = [none, some .drw, some (R6 a), some (.tup [R6 a, R6 b]), some (.lst (cs.map R6)), some (.lst []), x6, x7, none, none, none, none, none, none, none, none, none, none, none]) ⟨_, none, none, c0, rfl⟩ (fun i d δ w hi hδ => ?_) fun δ' w' hδ => ?_
  · rw [Nat.zero_add] at hδ ⊢
    obtain ⟨cs, x6, x7, hc, rfl⟩ := hδ
    obtain ⟨hi12, rfl⟩ := rangeD_get 0 12 i d hi
    refine ⟨_, rfl, ?_⟩
    show wp (sSeq _ _ [none, some .drw, some (R6 a), some (.tup [R6 a, R6 b]), some (.lst (cs.map R6)), some (.lst []), some (.int (0 + i)), x7, none, none, none, none, none, none, none, none, none, none, none]) _ w
    refine wp_seqW ?_
    walk_at "ew"
    refine wp_next (by omega) fun p w pa pb' => ?_
    have e1 : m__law_low [.int p, .int 2] = pure (R6 (3 * p)) := low6 (by decide) (by decide) (by omega)
    walk_at "ew"
    refine ⟨_, rfl, ?_⟩
    have := R.b1
    have cb := hc.bd i (Nat.le_refl _)
    have pq : 0 ≤ p * k2 ∧ p * k2 ≤ 2 * k2 := ⟨Int.mul_nonneg pa k2a, Int.mul_le_mul_of_nonneg_right (by omega) k2a⟩
    have e2 : m__law_less_by [R6 b, R6 a] = pure (R6 (b - a)) := r6_lsub (by omega) (by omega)
    have e3 : m__law_times [R6 (3 * p), R6 (b - a)] = pure (R6 (p * k2)) := r6_lmul (by omega) (by omega) (by
      have : b - a = 2 * k2 := by omega
      rw [this]
      grind)
    have e4 : m__law_add [R6 a, R6 (p * k2)] = pure (R6 (a + p * k2)) := r6_ladd (by omega) (by omega)
    have e5 : m__law_add [R6 (cs.getD i 0), R6 (a + p * k2)] = pure (R6 (cs.getD i 0 + (a + p * k2))) := r6_ladd (by omega) (by omega)
    obtain ⟨l, hl⟩ := split_last hc
    have e6 : atI (cs.map R6) (-1) = some (R6 (cs.getD i 0)) := by
      rw [hl, List.map_append]
      rw [← hl]
      exact atNeg _ _
    have hlen : (cs.map R6).length < 1000 := by
      rw [List.length_map, hc.len]
      omega
    have e7 := app_env none (some .drw) (some (R6 a)) (some (.tup [R6 a, R6 b])) (cs.map R6) (R6 (cs.getD i 0 + (a + p * k2))) [some (.lst []), some (.int (0 + i)), some (R6 (3 * p)), none, none, none, none, none, none, none, none, none, none, none] hlen
    have st := st_app4 (x5 := some (.lst [])) (x6 := some (.int (0 + i))) (x8 := none) (x9 := none) (rest := [none, none, none, none, none, none, none, none, none]) (lo := R6 a) e6 e2 e3 e4 e5 e7
    rw [st, wp_pure]
    refine ⟨_, rfl, cs ++ [cs.getD i 0 + (a + p * k2)], some (.int (0 + i)), some (R6 (3 * p)), hc.next R (by omega) (by omega), ?_⟩
    rw [List.map_append]
    rfl
  · rw [Nat.zero_add, rangeD_len] at hδ
    obtain ⟨cs, x6, x7, hc, rfl⟩ := hδ
    refine ⟨_, rfl, ?_⟩
    clear c0 k3a k3b
    exact rest_true R hc w'
end K89

namespace K89
open PySem PySem.Spec PyProof.Rows L2 Fc

def top (i : Nat) : Stmt := PySem.Challenge.pw_farcall_k89_stamps_that_say_nothing_new.main.body.getD i (.Pass ⟨0, 0, 0, 0⟩)
abbrev s__law_draw : Stmt := top 27
abbrev s__law_next : Stmt := top 28
abbrev s__law_low : Stmt := top 30
abbrev s_less : Stmt := top 7
abbrev s_greatest_of : Stmt := top 11
abbrev s_ratio : Stmt := top 2
abbrev s_add : Stmt := top 3
abbrev s_multiply : Stmt := top 5
abbrev s_grown : Stmt := top 13
abbrev s_least_by : Stmt := top 16
abbrev s_least_reading : Stmt := top 18
abbrev s_least_of : Stmt := top 10
abbrev s_greatest_by : Stmt := top 17
abbrev s_greatest_reading : Stmt := top 19
abbrev s_readings : Stmt := top 20
abbrev s_is_idle : Stmt := top 24
abbrev s_idle_stamps : Stmt := top 25
abbrev s_subtract : Stmt := top 4
abbrev s_floor_of : Stmt := top 8
abbrev s_divide : Stmt := top 6
abbrev s_last_with : Stmt := top 22
abbrev s_ceiling_of : Stmt := top 9
abbrev s_first_with : Stmt := top 21
abbrev s_times_of : Stmt := top 23
abbrev s__law_add : Stmt := top 31
abbrev s_are_barring : Stmt := top 14
abbrev s_barring : Stmt := top 15
abbrev s__law_below : Stmt := top 34
abbrev s__law_less_by : Stmt := top 32
abbrev s__law_times : Stmt := top 33
abbrev s_law : Stmt := top 36
structure Tx (K : PySem.W.Frag) (mg : Str → Option Value) : Prop where
  g_abs : mg "abs" = none
  g_any : mg "any" = none
  g_enumerate : mg "enumerate" = none
  g_gcd : mg "gcd" = some (.builtin "math.gcd")
  g_int : mg "int" = none
  g_len : mg "len" = none
  g_list : mg "list" = none
  g_max : mg "max" = none
  g_min : mg "min" = none
  g_range : mg "range" = none
  g_tuple : mg "tuple" = none
section
variable {P : Program} {w : World} {K : PySem.W.Frag} {mg : Str → Option Value} {base : Heap}
theorem sc__law_draw : FnScope ["script"] ["script"] (defScope s__law_draw) := ⟨rfl, rfl, rfl, by decide +kernel, rfl, by decide +kernel, by decide +kernel⟩
theorem sc__law_next : FnScope ["draw", "many", "found", "cell"] ["draw", "many"] (defScope s__law_next) := ⟨rfl, rfl, rfl, by decide +kernel, rfl, by decide +kernel, by decide +kernel⟩
theorem ok__law_draw (T : Tx K mg) {f : Addr} {fd : FuncData} (Fu : Fun K "_law_draw" "_law_draw" s__law_draw f fd) : FnOk P w K mg base CX0 1 f fd ["script"] (spDraw K) :=
  draw_ok Fu sc__law_draw fun cdv A outer s H E => pss_one (ps_ret (pe_lst (pa_cons (pe_callTy call_list_of rfl T.g_list (by decide +kernel) (pa_cons (pv 0) pa_nil)) (pa_cons pe_int (pa_cons pe_int (pa_cons pe_int pa_nil))))))
theorem ok__law_next (T : Tx K mg) {f : Addr} {fd : FuncData} (Fu : Fun K "_law_next" "_law_next" s__law_next f fd) (hm : mg "_law_next" = some (.ref f)) : Has P w K mg base 1 "_law_next" ["draw", "many"] nextF :=
  ⟨f, fd, next_ok Fu sc__law_next fun cdv A outer s H E =>
    pss_cons (ps_if (pt_cmpR op_gt (pe_ix ix_list (pv 0) pe_int (fun _ _ => rfl)) pe_int (nomark _)) (pss_cons (ps_set (i := 2) sc__law_next.nd rfl (.inl rfl) (pe_op op_modN (pe_callTy call_int1 rfl T.g_int (by decide +kernel) (pa_cons (pe_ix ix_list (pv 0) pe_int (fun _ _ => rfl)) pa_nil)) (pv 1))) (pss_cons (ps_asg (pe_op op_fdivN (pe_ix ix_list (pv 0) pe_int (fun _ _ => rfl)) (pv 1)) (pg_sub (pv 0) pe_int set_list)) (pss_one (ps_ret (pv 2))))) pss_nil)
    (pss_cons (ps_if (pt_cmpR op_lt (pe_ix ix_list (pv 0) pe_int (fun _ _ => rfl)) (pe_callB call_len rfl T.g_len PySem.boot_len (pa_cons (pe_ix ix_list (pv 0) pe_int (fun _ _ => rfl)) pa_nil)) (nomark _))
      (pss_cons (ps_set (i := 3) sc__law_next.nd rfl (.inl rfl) (pe_callB call_abs rfl T.g_abs (by decide +kernel) (pa_cons (pe_ix ix_list (pe_ix ix_list (pv 0) pe_int (fun _ _ => rfl)) (pe_ix ix_list (pv 0) pe_int (fun _ _ => rfl)) (fun _ _ => rfl)) pa_nil)))
      (pss_cons (ps_asg (pe_op op_add (pe_ix ix_list (pv 0) pe_int (fun _ _ => rfl)) pe_int) (pg_sub (pv 0) pe_int set_list))
      (pss_cons (ps_if (pt_cmpR op_ge (pv 3) (pe_op op_pow pe_int pe_int) (nomark _)) (pss_cons (ps_asg (pe_op op_fdivN (pv 3) (pv 1)) (pg_sub (pv 0) pe_int set_list)) (pss_one (ps_ret (pe_op op_modN (pe_callTy call_int1 rfl T.g_int (by decide +kernel) (pa_cons (pv 3) pa_nil)) (pv 1))))) pss_nil)
      (pss_one (ps_asg (pe_op op_modN (pe_callTy call_int1 rfl T.g_int (by decide +kernel) (pa_cons (pe_op op_add (pe_op op_add (pe_op op_mul (pe_ix ix_list (pv 0) pe_int (fun _ _ => rfl)) pe_int) (pv 3)) pe_int) pa_nil)) pe_int) (pg_sub (pv 0) pe_int set_list))))))
      (pss_one (ps_asg (pe_op op_modN (pe_callTy call_int1 rfl T.g_int (by decide +kernel) (pa_cons (pe_op op_add (pe_op op_mul (pe_ix ix_list (pv 0) pe_int (fun _ _ => rfl)) pe_int) pe_int) pa_nil)) pe_int) (pg_sub (pv 0) pe_int set_list))))
    (pss_one (ps_ret (pe_op op_modN (pe_op op_fdivN (pe_callTy call_int1 rfl T.g_int (by decide +kernel) (pa_cons (pe_op op_modN (pe_op op_mul (pe_ix ix_list (pv 0) pe_int (fun _ _ => rfl)) pe_int) pe_int) pa_nil)) pe_int) (pv 1))))),
    hm, Fu.kp, Fu.binds fun _ _ _ _ _ _ us hl => match us, hl with | [_, _], _ => rfl⟩
theorem sc__law_low : FnScope ["number", "by", "one", "two"] ["number", "by"] (defScope s__law_low) := ⟨rfl, rfl, rfl, by decide +kernel, rfl, by decide +kernel, by decide +kernel⟩
theorem ok__law_low (T : Tx K mg)  {f : Addr} {fd : FuncData} (Fu : Fun K "_law_low" "_law_low" s__law_low f fd) (hm : mg "_law_low" = some (.ref f)) : Has P w K mg base 1 "_law_low" ["number", "by"] m__law_low :=
  ⟨f, fd, fn_ok (k := 0) (O := []) Fu sc__law_low (by decide) (by decide) (fun cdv A outer s H E hr => (ss_cons (ss_if (st_lt (se_var 1) se_int) (ss_one (ss_par 0 1 rfl sc__law_low.nd (sa_cons (se_sub se_int (se_var 0)) (sa_cons (se_sub se_int (se_var 1)) sa_nil)))) ss_nil)
    (ss_cons (ss_par 2 3 rfl sc__law_low.nd (sa_cons (se_abs T.g_abs rfl (sa_consA (se_var 0) sa_nil)) (sa_cons (se_var 1) sa_nil)))
    (ss_cons (ss_while 100000 PassesOwn.never (st_gt (se_var 3) se_int) (ss_one (ss_par 2 3 rfl sc__law_low.nd (sa_cons (se_var 3) (sa_cons (se_mod (se_var 2) (se_var 3)) sa_nil)))))
    (ss_one (ss_ret (se_tup (sa_cons (se_div (se_var 0) (se_var 2)) (sa_cons (se_div (se_var 1) (se_var 2)) sa_nil))))))))), hm, Fu.kp, Fu.binds fun _ _ _ _ _ _ us hl => match us, hl with | [_, _], _ => rfl⟩
theorem sc_less : FnScope ["one", "other"] ["one", "other"] (defScope s_less) := ⟨rfl, rfl, rfl, by decide +kernel, rfl, by decide +kernel, by decide +kernel⟩
theorem ok_less (T : Tx K mg)  {f : Addr} {fd : FuncData} (Fu : Fun K "less" "less" s_less f fd) (hm : mg "less" = some (.ref f)) : Has P w K mg base 1 "less" ["one", "other"] m_less :=
  ⟨f, fd, fn_ok (k := 0) (O := []) Fu sc_less (by decide) (by decide) (fun cdv A outer s H E hr => (ss_one (ss_ret (se_lt (se_mul (se_ix (se_var 0) se_int) (se_ix (se_var 1) se_int)) (se_mul (se_ix (se_var 1) se_int) (se_ix (se_var 0) se_int)))))), hm, Fu.kp, Fu.binds fun _ _ _ _ _ _ us hl => match us, hl with | [_, _], _ => rfl⟩
theorem sc_greatest_of : FnScope ["values", "found", "value"] ["values"] (defScope s_greatest_of) := ⟨rfl, rfl, rfl, by decide +kernel, rfl, by decide +kernel, by decide +kernel⟩
theorem ok_greatest_of (T : Tx K mg) (h_less : Has P w K mg base 1 "less" ["one", "other"] m_less) {f : Addr} {fd : FuncData} (Fu : Fun K "greatest_of" "greatest_of" s_greatest_of f fd) (hm : mg "greatest_of" = some (.ref f)) : Has P w K mg base 2 "greatest_of" ["values"] m_greatest_of :=
  ⟨f, fd, fn_ok (k := 1) (O := []) Fu sc_greatest_of (by decide) (by decide) (fun cdv A outer s H E hr => (ss_cons (ss_set 1 sc_greatest_of.nd (se_ix (se_var 0) se_int))
    (ss_cons (ss_for PassesOwn.never rfl (si_seq (se_var 0)) (sg_name 2 sc_greatest_of.nd) (ss_one (ss_if (st_truth (se_has h_less (hr.mono (by first | decide | omega)) rfl (sa_cons (se_var 1) (sa_cons (se_var 2) sa_nil)))) (ss_one (ss_set 1 sc_greatest_of.nd (se_var 2))) ss_nil)))
    (ss_one (ss_ret (se_var 1)))))), hm, Fu.kp, Fu.binds fun _ _ _ _ _ _ us hl => match us, hl with | [_], _ => rfl⟩
theorem sc_ratio : FnScope ["number", "by", "common"] ["number", "by"] (defScope s_ratio) := ⟨rfl, rfl, rfl, by decide +kernel, rfl, by decide +kernel, by decide +kernel⟩
theorem ok_ratio (T : Tx K mg)  {f : Addr} {fd : FuncData} (Fu : Fun K "ratio" "ratio" s_ratio f fd) (hm : mg "ratio" = some (.ref f)) : Has P w K mg base 1 "ratio" ["number", "by"] m_ratio :=
  ⟨f, fd, fn_ok (k := 0) (O := []) Fu sc_ratio (by decide) (by decide) (fun cdv A outer s H E hr => (ss_cons (ss_if (st_lt (se_var 1) se_int) (ss_one (ss_par 0 1 rfl sc_ratio.nd (sa_cons (se_neg (se_var 0)) (sa_cons (se_neg (se_var 1)) sa_nil)))) ss_nil)
    (ss_cons (ss_set 2 sc_ratio.nd (se_gcd T.g_gcd rfl (sa_consA (se_var 0) (sa_consA (se_var 1) sa_nil))))
    (ss_one (ss_ret (se_tup (sa_cons (se_div (se_var 0) (se_var 2)) (sa_cons (se_div (se_var 1) (se_var 2)) sa_nil)))))))), hm, Fu.kp, Fu.binds fun _ _ _ _ _ _ us hl => match us, hl with | [_, _], _ => rfl⟩
theorem sc_add : FnScope ["one", "other"] ["one", "other"] (defScope s_add) := ⟨rfl, rfl, rfl, by decide +kernel, rfl, by decide +kernel, by decide +kernel⟩
theorem ok_add (T : Tx K mg) (h_ratio : Has P w K mg base 1 "ratio" ["number", "by"] m_ratio) {f : Addr} {fd : FuncData} (Fu : Fun K "add" "add" s_add f fd) (hm : mg "add" = some (.ref f)) : Has P w K mg base 2 "add" ["one", "other"] m_add :=
  ⟨f, fd, fn_ok (k := 1) (O := []) Fu sc_add (by decide) (by decide) (fun cdv A outer s H E hr => (ss_one (ss_ret (se_has h_ratio (hr.mono (by first | decide | omega)) rfl (sa_cons (se_add (se_mul (se_ix (se_var 0) se_int) (se_ix (se_var 1) se_int)) (se_mul (se_ix (se_var 1) se_int) (se_ix (se_var 0) se_int))) (sa_cons (se_mul (se_ix (se_var 0) se_int) (se_ix (se_var 1) se_int)) sa_nil)))))), hm, Fu.kp, Fu.binds fun _ _ _ _ _ _ us hl => match us, hl with | [_, _], _ => rfl⟩
theorem sc_multiply : FnScope ["one", "other"] ["one", "other"] (defScope s_multiply) := ⟨rfl, rfl, rfl, by decide +kernel, rfl, by decide +kernel, by decide +kernel⟩
theorem ok_multiply (T : Tx K mg) (h_ratio : Has P w K mg base 1 "ratio" ["number", "by"] m_ratio) {f : Addr} {fd : FuncData} (Fu : Fun K "multiply" "multiply" s_multiply f fd) (hm : mg "multiply" = some (.ref f)) : Has P w K mg base 2 "multiply" ["one", "other"] m_multiply :=
  ⟨f, fd, fn_ok (k := 1) (O := []) Fu sc_multiply (by decide) (by decide) (fun cdv A outer s H E hr => (ss_one (ss_ret (se_has h_ratio (hr.mono (by first | decide | omega)) rfl (sa_cons (se_mul (se_ix (se_var 0) se_int) (se_ix (se_var 1) se_int)) (sa_cons (se_mul (se_ix (se_var 0) se_int) (se_ix (se_var 1) se_int)) sa_nil)))))), hm, Fu.kp, Fu.binds fun _ _ _ _ _ _ us hl => match us, hl with | [_, _], _ => rfl⟩
theorem sc_grown : FnScope ["reading", "rate", "turns"] ["reading", "rate", "turns"] (defScope s_grown) := ⟨rfl, rfl, rfl, by decide +kernel, rfl, by decide +kernel, by decide +kernel⟩
theorem ok_grown (T : Tx K mg) (h_add : Has P w K mg base 2 "add" ["one", "other"] m_add) (h_multiply : Has P w K mg base 2 "multiply" ["one", "other"] m_multiply) {f : Addr} {fd : FuncData} (Fu : Fun K "grown" "grown" s_grown f fd) (hm : mg "grown" = some (.ref f)) : Has P w K mg base 3 "grown" ["reading", "rate", "turns"] m_grown :=
  ⟨f, fd, fn_ok (k := 2) (O := []) Fu sc_grown (by decide) (by decide) (fun cdv A outer s H E hr => (ss_one (ss_ret (se_has h_add (hr.mono (by first | decide | omega)) rfl (sa_cons (se_var 0) (sa_cons (se_has h_multiply (hr.mono (by first | decide | omega)) rfl (sa_cons (se_var 1) (sa_cons (se_tup (sa_cons (se_var 2) (sa_cons se_int sa_nil))) sa_nil))) sa_nil)))))), hm, Fu.kp, Fu.binds fun _ _ _ _ _ _ us hl => match us, hl with | [_, _, _], _ => rfl⟩
theorem sc_least_by : FnScope ["drift", "stamp", "time", "turns"] ["drift", "stamp", "time"] (defScope s_least_by) := ⟨rfl, rfl, rfl, by decide +kernel, rfl, by decide +kernel, by decide +kernel⟩
theorem ok_least_by (T : Tx K mg) (h_grown : Has P w K mg base 3 "grown" ["reading", "rate", "turns"] m_grown) {f : Addr} {fd : FuncData} (Fu : Fun K "least_by" "least_by" s_least_by f fd) (hm : mg "least_by" = some (.ref f)) : Has P w K mg base 4 "least_by" ["drift", "stamp", "time"] m_least_by :=
  ⟨f, fd, fn_ok (k := 3) (O := []) Fu sc_least_by (by decide) (by decide) (fun cdv A outer s H E hr => (ss_cons (ss_set 3 sc_least_by.nd (se_sub (se_var 2) (se_ix (se_var 1) se_int)))
    (ss_one (ss_ret (se_has h_grown (hr.mono (by first | decide | omega)) rfl (sa_cons (se_ix (se_var 1) se_int) (sa_cons (se_if (st_ge (se_var 3) se_int) (se_ix (se_var 0) se_int) (se_ix (se_var 0) se_int)) (sa_cons (se_var 3) sa_nil)))))))), hm, Fu.kp, Fu.binds fun _ _ _ _ _ _ us hl => match us, hl with | [_, _, _], _ => rfl⟩
theorem sc_least_reading : FnScope ["drift", "stamps", "time", "stamp"] ["drift", "stamps", "time"] (defScope s_least_reading) := ⟨rfl, rfl, rfl, by decide +kernel, rfl, by decide +kernel, by decide +kernel⟩
theorem ok_least_reading (T : Tx K mg) (h_greatest_of : Has P w K mg base 2 "greatest_of" ["values"] m_greatest_of) (h_least_by : Has P w K mg base 4 "least_by" ["drift", "stamp", "time"] m_least_by) {f : Addr} {fd : FuncData} (Fu : Fun K "least_reading" "least_reading" s_least_reading f fd) (hm : mg "least_reading" = some (.ref f)) : Has P w K mg base 5 "least_reading" ["drift", "stamps", "time"] m_least_reading :=
  ⟨f, fd, fn_ok (k := 4) (O := []) Fu sc_least_reading (by decide) (by decide) (fun cdv A outer s H E hr => (ss_one (ss_ret (se_has h_greatest_of (hr.mono (by first | decide | omega)) rfl (sa_cons (se_lc rfl sc_least_reading.nd (si_seq (se_var 1)) (blkOk_by (own := [("stamp", 3)]) (N := ["drift", "stamps", "time", "stamp"]) (sc := (defScope s_least_reading)) (by decide +kernel)) (by decide) (fun _ _ _ _ _ => (sg_name 3 sc_least_reading.nd)) (fun _ _ _ _ _ => sts_nil) (fun _ _ _ _ _ => (se_has h_least_by (hr.mono (by first | decide | omega)) rfl (sa_cons (se_var 0) (sa_cons (se_var 3) (sa_cons (se_var 2) sa_nil)))))) sa_nil))))), hm, Fu.kp, Fu.binds fun _ _ _ _ _ _ us hl => match us, hl with | [_, _, _], _ => rfl⟩
theorem sc_least_of : FnScope ["values", "found", "value"] ["values"] (defScope s_least_of) := ⟨rfl, rfl, rfl, by decide +kernel, rfl, by decide +kernel, by decide +kernel⟩
theorem ok_least_of (T : Tx K mg) (h_less : Has P w K mg base 1 "less" ["one", "other"] m_less) {f : Addr} {fd : FuncData} (Fu : Fun K "least_of" "least_of" s_least_of f fd) (hm : mg "least_of" = some (.ref f)) : Has P w K mg base 2 "least_of" ["values"] m_least_of :=
  ⟨f, fd, fn_ok (k := 1) (O := []) Fu sc_least_of (by decide) (by decide) (fun cdv A outer s H E hr => (ss_cons (ss_set 1 sc_least_of.nd (se_ix (se_var 0) se_int))
    (ss_cons (ss_for PassesOwn.never rfl (si_seq (se_var 0)) (sg_name 2 sc_least_of.nd) (ss_one (ss_if (st_truth (se_has h_less (hr.mono (by first | decide | omega)) rfl (sa_cons (se_var 2) (sa_cons (se_var 1) sa_nil)))) (ss_one (ss_set 1 sc_least_of.nd (se_var 2))) ss_nil)))
    (ss_one (ss_ret (se_var 1)))))), hm, Fu.kp, Fu.binds fun _ _ _ _ _ _ us hl => match us, hl with | [_], _ => rfl⟩
theorem sc_greatest_by : FnScope ["drift", "stamp", "time", "turns"] ["drift", "stamp", "time"] (defScope s_greatest_by) := ⟨rfl, rfl, rfl, by decide +kernel, rfl, by decide +kernel, by decide +kernel⟩
theorem ok_greatest_by (T : Tx K mg) (h_grown : Has P w K mg base 3 "grown" ["reading", "rate", "turns"] m_grown) {f : Addr} {fd : FuncData} (Fu : Fun K "greatest_by" "greatest_by" s_greatest_by f fd) (hm : mg "greatest_by" = some (.ref f)) : Has P w K mg base 4 "greatest_by" ["drift", "stamp", "time"] m_greatest_by :=
  ⟨f, fd, fn_ok (k := 3) (O := []) Fu sc_greatest_by (by decide) (by decide) (fun cdv A outer s H E hr => (ss_cons (ss_set 3 sc_greatest_by.nd (se_sub (se_var 2) (se_ix (se_var 1) se_int)))
    (ss_one (ss_ret (se_has h_grown (hr.mono (by first | decide | omega)) rfl (sa_cons (se_ix (se_var 1) se_int) (sa_cons (se_if (st_ge (se_var 3) se_int) (se_ix (se_var 0) se_int) (se_ix (se_var 0) se_int)) (sa_cons (se_var 3) sa_nil)))))))), hm, Fu.kp, Fu.binds fun _ _ _ _ _ _ us hl => match us, hl with | [_, _, _], _ => rfl⟩
theorem sc_greatest_reading : FnScope ["drift", "stamps", "time", "stamp"] ["drift", "stamps", "time"] (defScope s_greatest_reading) := ⟨rfl, rfl, rfl, by decide +kernel, rfl, by decide +kernel, by decide +kernel⟩
theorem ok_greatest_reading (T : Tx K mg) (h_least_of : Has P w K mg base 2 "least_of" ["values"] m_least_of) (h_greatest_by : Has P w K mg base 4 "greatest_by" ["drift", "stamp", "time"] m_greatest_by) {f : Addr} {fd : FuncData} (Fu : Fun K "greatest_reading" "greatest_reading" s_greatest_reading f fd) (hm : mg "greatest_reading" = some (.ref f)) : Has P w K mg base 5 "greatest_reading" ["drift", "stamps", "time"] m_greatest_reading :=
  ⟨f, fd, fn_ok (k := 4) (O := []) Fu sc_greatest_reading (by decide) (by decide) (fun cdv A outer s H E hr => (ss_one (ss_ret (se_has h_least_of (hr.mono (by first | decide | omega)) rfl (sa_cons (se_lc rfl sc_greatest_reading.nd (si_seq (se_var 1)) (blkOk_by (own := [("stamp", 3)]) (N := ["drift", "stamps", "time", "stamp"]) (sc := (defScope s_greatest_reading)) (by decide +kernel)) (by decide) (fun _ _ _ _ _ => (sg_name 3 sc_greatest_reading.nd)) (fun _ _ _ _ _ => sts_nil) (fun _ _ _ _ _ => (se_has h_greatest_by (hr.mono (by first | decide | omega)) rfl (sa_cons (se_var 0) (sa_cons (se_var 3) (sa_cons (se_var 2) sa_nil)))))) sa_nil))))), hm, Fu.kp, Fu.binds fun _ _ _ _ _ _ us hl => match us, hl with | [_, _, _], _ => rfl⟩
theorem sc_readings : FnScope ["drift", "stamps", "time"] ["drift", "stamps", "time"] (defScope s_readings) := ⟨rfl, rfl, rfl, by decide +kernel, rfl, by decide +kernel, by decide +kernel⟩
theorem ok_readings (T : Tx K mg) (h_least_reading : Has P w K mg base 5 "least_reading" ["drift", "stamps", "time"] m_least_reading) (h_greatest_reading : Has P w K mg base 5 "greatest_reading" ["drift", "stamps", "time"] m_greatest_reading) {f : Addr} {fd : FuncData} (Fu : Fun K "readings" "readings" s_readings f fd) (hm : mg "readings" = some (.ref f)) : Has P w K mg base 6 "readings" ["drift", "stamps", "time"] m_readings :=
  ⟨f, fd, fn_ok (k := 5) (O := []) Fu sc_readings (by decide) (by decide) (fun cdv A outer s H E hr => (ss_one (ss_ret (se_tup (sa_cons (se_has h_least_reading (hr.mono (by first | decide | omega)) rfl (sa_cons (se_var 0) (sa_cons (se_var 1) (sa_cons (se_var 2) sa_nil)))) (sa_cons (se_has h_greatest_reading (hr.mono (by first | decide | omega)) rfl (sa_cons (se_var 0) (sa_cons (se_var 1) (sa_cons (se_var 2) sa_nil)))) sa_nil)))))), hm, Fu.kp, Fu.binds fun _ _ _ _ _ _ us hl => match us, hl with | [_, _, _], _ => rfl⟩
theorem sc_is_idle : FnScope ["drift", "stamp", "others", "least", "greatest"] ["drift", "stamp", "others"] (defScope s_is_idle) := ⟨rfl, rfl, rfl, by decide +kernel, rfl, by decide +kernel, by decide +kernel⟩
theorem ok_is_idle (T : Tx K mg) (h_readings : Has P w K mg base 6 "readings" ["drift", "stamps", "time"] m_readings) (h_less : Has P w K mg base 1 "less" ["one", "other"] m_less) {f : Addr} {fd : FuncData} (Fu : Fun K "is_idle" "is_idle" s_is_idle f fd) (hm : mg "is_idle" = some (.ref f)) : Has P w K mg base 7 "is_idle" ["drift", "stamp", "others"] m_is_idle :=
  ⟨f, fd, fn_ok (k := 6) (O := []) Fu sc_is_idle (by decide) (by decide) (fun cdv A outer s H E hr => (ss_cons (ss_if (st_not (st_truth (se_var 2))) (ss_one (ss_ret se_bl)) ss_nil)
    (ss_cons (ss_asg (se_has h_readings (hr.mono (by first | decide | omega)) rfl (sa_cons (se_var 0) (sa_cons (se_var 2) (sa_cons (se_ix (se_var 1) se_int) sa_nil)))) (sg_tup rfl (sgs_cons (sg_name 3 sc_is_idle.nd) (sgs_cons (sg_name 4 sc_is_idle.nd) sgs_nil))))
    (ss_one (ss_ret (se_and (se_notT (se_has h_less (hr.mono (by first | decide | omega)) rfl (sa_cons (se_var 3) (sa_cons (se_ix (se_var 1) se_int) sa_nil)))) (se_one (se_notT (se_has h_less (hr.mono (by first | decide | omega)) rfl (sa_cons (se_ix (se_var 1) se_int) (sa_cons (se_var 4) sa_nil))))))))))), hm, Fu.kp, Fu.binds fun _ _ _ _ _ _ us hl => match us, hl with | [_, _, _], _ => rfl⟩
theorem sc_idle_stamps : FnScope ["drift", "stamps", "found", "number", "stamp"] ["drift", "stamps"] (defScope s_idle_stamps) := ⟨rfl, rfl, rfl, by decide +kernel, rfl, by decide +kernel, by decide +kernel⟩
theorem ok_idle_stamps (T : Tx K mg) (h_is_idle : Has P w K mg base 7 "is_idle" ["drift", "stamp", "others"] m_is_idle) {f : Addr} {fd : FuncData} (Fu : Fun K "idle_stamps" "idle_stamps" s_idle_stamps f fd) (hm : mg "idle_stamps" = some (.ref f)) : Has P w K mg base 8 "idle_stamps" ["drift", "stamps"] m_idle_stamps :=
  ⟨f, fd, fn_ok (k := 7) (O := [2]) Fu sc_idle_stamps (by decide) (by decide) (fun cdv A outer s H E hr => (ss_cons (ss_setO 2 sc_idle_stamps.nd (sf_lst sa_nil))
    (ss_cons (ss_for PassesOwn.never rfl (si_enum T.g_enumerate rfl (sa_cons (se_var 1) sa_nil)) (sg_tup rfl (sgs_cons (sg_name 3 sc_idle_stamps.nd) (sgs_cons (sg_name 4 sc_idle_stamps.nd) sgs_nil))) (ss_one (ss_if (st_truth (se_has h_is_idle (hr.mono (by first | decide | omega)) rfl (sa_cons (se_var 0) (sa_cons (se_var 4) (sa_cons (se_add (se_slice (se_var 1) so_none (so_some (se_var 3))) (se_slice (se_var 1) (so_some (se_add (se_var 3) se_int)) so_none)) sa_nil))))) (ss_one (ss_app 2 (se_var 3))) ss_nil)))
    (ss_one (ss_ret (se_own 2)))))), hm, Fu.kp, Fu.binds fun _ _ _ _ _ _ us hl => match us, hl with | [_, _], _ => rfl⟩
theorem sc_subtract : FnScope ["one", "other"] ["one", "other"] (defScope s_subtract) := ⟨rfl, rfl, rfl, by decide +kernel, rfl, by decide +kernel, by decide +kernel⟩
theorem ok_subtract (T : Tx K mg) (h_ratio : Has P w K mg base 1 "ratio" ["number", "by"] m_ratio) {f : Addr} {fd : FuncData} (Fu : Fun K "subtract" "subtract" s_subtract f fd) (hm : mg "subtract" = some (.ref f)) : Has P w K mg base 2 "subtract" ["one", "other"] m_subtract :=
  ⟨f, fd, fn_ok (k := 1) (O := []) Fu sc_subtract (by decide) (by decide) (fun cdv A outer s H E hr => (ss_one (ss_ret (se_has h_ratio (hr.mono (by first | decide | omega)) rfl (sa_cons (se_sub (se_mul (se_ix (se_var 0) se_int) (se_ix (se_var 1) se_int)) (se_mul (se_ix (se_var 1) se_int) (se_ix (se_var 0) se_int))) (sa_cons (se_mul (se_ix (se_var 0) se_int) (se_ix (se_var 1) se_int)) sa_nil)))))), hm, Fu.kp, Fu.binds fun _ _ _ _ _ _ us hl => match us, hl with | [_, _], _ => rfl⟩
theorem sc_floor_of : FnScope ["value"] ["value"] (defScope s_floor_of) := ⟨rfl, rfl, rfl, by decide +kernel, rfl, by decide +kernel, by decide +kernel⟩
theorem ok_floor_of (T : Tx K mg)  {f : Addr} {fd : FuncData} (Fu : Fun K "floor_of" "floor_of" s_floor_of f fd) (hm : mg "floor_of" = some (.ref f)) : Has P w K mg base 1 "floor_of" ["value"] m_floor_of :=
  ⟨f, fd, fn_ok (k := 0) (O := []) Fu sc_floor_of (by decide) (by decide) (fun cdv A outer s H E hr => (ss_one (ss_ret (se_div (se_ix (se_var 0) se_int) (se_ix (se_var 0) se_int))))), hm, Fu.kp, Fu.binds fun _ _ _ _ _ _ us hl => match us, hl with | [_], _ => rfl⟩
theorem sc_divide : FnScope ["one", "other"] ["one", "other"] (defScope s_divide) := ⟨rfl, rfl, rfl, by decide +kernel, rfl, by decide +kernel, by decide +kernel⟩
theorem ok_divide (T : Tx K mg) (h_ratio : Has P w K mg base 1 "ratio" ["number", "by"] m_ratio) {f : Addr} {fd : FuncData} (Fu : Fun K "divide" "divide" s_divide f fd) (hm : mg "divide" = some (.ref f)) : Has P w K mg base 2 "divide" ["one", "other"] m_divide :=
  ⟨f, fd, fn_ok (k := 1) (O := []) Fu sc_divide (by decide) (by decide) (fun cdv A outer s H E hr => (ss_one (ss_ret (se_has h_ratio (hr.mono (by first | decide | omega)) rfl (sa_cons (se_mul (se_ix (se_var 0) se_int) (se_ix (se_var 1) se_int)) (sa_cons (se_mul (se_ix (se_var 0) se_int) (se_ix (se_var 1) se_int)) sa_nil)))))), hm, Fu.kp, Fu.binds fun _ _ _ _ _ _ us hl => match us, hl with | [_, _], _ => rfl⟩
theorem sc_last_with : FnScope ["drift", "stamp", "reading", "time", "least", "_", "apart", "rate"] ["drift", "stamp", "reading"] (defScope s_last_with) := ⟨rfl, rfl, rfl, by decide +kernel, rfl, by decide +kernel, by decide +kernel⟩
theorem ok_last_with (T : Tx K mg) (h_subtract : Has P w K mg base 2 "subtract" ["one", "other"] m_subtract) (h_less : Has P w K mg base 1 "less" ["one", "other"] m_less) (h_floor_of : Has P w K mg base 1 "floor_of" ["value"] m_floor_of) (h_divide : Has P w K mg base 2 "divide" ["one", "other"] m_divide) {f : Addr} {fd : FuncData} (Fu : Fun K "last_with" "last_with" s_last_with f fd) (hm : mg "last_with" = some (.ref f)) : Has P w K mg base 3 "last_with" ["drift", "stamp", "reading"] m_last_with :=
  ⟨f, fd, fn_ok (k := 2) (O := []) Fu sc_last_with (by decide) (by decide) (fun cdv A outer s H E hr => (ss_cons (ss_asg (se_var 1) (sg_tup rfl (sgs_cons (sg_name 3 sc_last_with.nd) (sgs_cons (sg_name 4 sc_last_with.nd) (sgs_cons (sg_name 5 sc_last_with.nd) sgs_nil)))))
    (ss_cons (ss_set 6 sc_last_with.nd (se_has h_subtract (hr.mono (by first | decide | omega)) rfl (sa_cons (se_var 2) (sa_cons (se_var 4) sa_nil))))
    (ss_cons (ss_set 7 sc_last_with.nd (se_if (st_truth (se_has h_less (hr.mono (by first | decide | omega)) rfl (sa_cons (se_var 6) (sa_cons (se_tup (sa_cons se_int (sa_cons se_int sa_nil))) sa_nil)))) (se_ix (se_var 0) se_int) (se_ix (se_var 0) se_int)))
    (ss_one (ss_ret (se_add (se_var 3) (se_has h_floor_of (hr.mono (by first | decide | omega)) rfl (sa_cons (se_has h_divide (hr.mono (by first | decide | omega)) rfl (sa_cons (se_var 6) (sa_cons (se_var 7) sa_nil))) sa_nil))))))))), hm, Fu.kp, Fu.binds fun _ _ _ _ _ _ us hl => match us, hl with | [_, _, _], _ => rfl⟩
theorem sc_ceiling_of : FnScope ["value"] ["value"] (defScope s_ceiling_of) := ⟨rfl, rfl, rfl, by decide +kernel, rfl, by decide +kernel, by decide +kernel⟩
theorem ok_ceiling_of (T : Tx K mg)  {f : Addr} {fd : FuncData} (Fu : Fun K "ceiling_of" "ceiling_of" s_ceiling_of f fd) (hm : mg "ceiling_of" = some (.ref f)) : Has P w K mg base 1 "ceiling_of" ["value"] m_ceiling_of :=
  ⟨f, fd, fn_ok (k := 0) (O := []) Fu sc_ceiling_of (by decide) (by decide) (fun cdv A outer s H E hr => (ss_one (ss_ret (se_neg (se_div (se_neg (se_ix (se_var 0) se_int)) (se_ix (se_var 0) se_int)))))), hm, Fu.kp, Fu.binds fun _ _ _ _ _ _ us hl => match us, hl with | [_], _ => rfl⟩
theorem sc_first_with : FnScope ["drift", "stamp", "reading", "time", "_", "most", "apart", "rate"] ["drift", "stamp", "reading"] (defScope s_first_with) := ⟨rfl, rfl, rfl, by decide +kernel, rfl, by decide +kernel, by decide +kernel⟩
theorem ok_first_with (T : Tx K mg) (h_subtract : Has P w K mg base 2 "subtract" ["one", "other"] m_subtract) (h_less : Has P w K mg base 1 "less" ["one", "other"] m_less) (h_ceiling_of : Has P w K mg base 1 "ceiling_of" ["value"] m_ceiling_of) (h_divide : Has P w K mg base 2 "divide" ["one", "other"] m_divide) {f : Addr} {fd : FuncData} (Fu : Fun K "first_with" "first_with" s_first_with f fd) (hm : mg "first_with" = some (.ref f)) : Has P w K mg base 3 "first_with" ["drift", "stamp", "reading"] m_first_with :=
  ⟨f, fd, fn_ok (k := 2) (O := []) Fu sc_first_with (by decide) (by decide) (fun cdv A outer s H E hr => (ss_cons (ss_asg (se_var 1) (sg_tup rfl (sgs_cons (sg_name 3 sc_first_with.nd) (sgs_cons (sg_name 4 sc_first_with.nd) (sgs_cons (sg_name 5 sc_first_with.nd) sgs_nil)))))
    (ss_cons (ss_set 6 sc_first_with.nd (se_has h_subtract (hr.mono (by first | decide | omega)) rfl (sa_cons (se_var 2) (sa_cons (se_var 5) sa_nil))))
    (ss_cons (ss_set 7 sc_first_with.nd (se_if (st_truth (se_has h_less (hr.mono (by first | decide | omega)) rfl (sa_cons (se_tup (sa_cons se_int (sa_cons se_int sa_nil))) (sa_cons (se_var 6) sa_nil)))) (se_ix (se_var 0) se_int) (se_ix (se_var 0) se_int)))
    (ss_one (ss_ret (se_add (se_var 3) (se_has h_ceiling_of (hr.mono (by first | decide | omega)) rfl (sa_cons (se_has h_divide (hr.mono (by first | decide | omega)) rfl (sa_cons (se_var 6) (sa_cons (se_var 7) sa_nil))) sa_nil))))))))), hm, Fu.kp, Fu.binds fun _ _ _ _ _ _ us hl => match us, hl with | [_, _, _], _ => rfl⟩
theorem sc_times_of : FnScope ["drift", "stamps", "reading", "first", "last", "stamp"] ["drift", "stamps", "reading"] (defScope s_times_of) := ⟨rfl, rfl, rfl, by decide +kernel, rfl, by decide +kernel, by decide +kernel⟩
theorem ok_times_of (T : Tx K mg) (h_last_with : Has P w K mg base 3 "last_with" ["drift", "stamp", "reading"] m_last_with) (h_first_with : Has P w K mg base 3 "first_with" ["drift", "stamp", "reading"] m_first_with) {f : Addr} {fd : FuncData} (Fu : Fun K "times_of" "times_of" s_times_of f fd) (hm : mg "times_of" = some (.ref f)) : Has P w K mg base 4 "times_of" ["drift", "stamps", "reading"] m_times_of :=
  ⟨f, fd, fn_ok (k := 3) (O := []) Fu sc_times_of (by decide) (by decide) (fun cdv A outer s H E hr => (ss_cons (ss_set 3 sc_times_of.nd (se_max1 rfl T.g_max rfl (sa_consA (se_cat (se_lst (sa_cons se_int sa_nil)) (se_lc rfl sc_times_of.nd (si_seq (se_var 1)) (blkOk_by (own := [("stamp", 5)]) (N := ["drift", "stamps", "reading", "first", "last", "stamp"]) (sc := (defScope s_times_of)) (by decide +kernel)) (by decide) (fun _ _ _ _ _ => (sg_name 5 sc_times_of.nd)) (fun _ _ _ _ _ => sts_nil) (fun _ _ _ _ _ => (se_has h_first_with (hr.mono (by first | decide | omega)) rfl (sa_cons (se_var 0) (sa_cons (se_var 5) (sa_cons (se_var 2) sa_nil))))))) sa_nil)))
    (ss_cons (ss_set 4 sc_times_of.nd (se_min1 rfl T.g_min rfl (sa_consA (se_lc rfl sc_times_of.nd (si_seq (se_var 1)) (blkOk_by (own := [("stamp", 5)]) (N := ["drift", "stamps", "reading", "first", "last", "stamp"]) (sc := (defScope s_times_of)) (by decide +kernel)) (by decide) (fun _ _ _ _ _ => (sg_name 5 sc_times_of.nd)) (fun _ _ _ _ _ => sts_nil) (fun _ _ _ _ _ => (se_has h_last_with (hr.mono (by first | decide | omega)) rfl (sa_cons (se_var 0) (sa_cons (se_var 5) (sa_cons (se_var 2) sa_nil)))))) sa_nil)))
    (ss_one (ss_ret (se_if (st_le (se_var 3) (se_var 4)) (se_tup (sa_cons (se_var 3) (sa_cons (se_var 4) sa_nil))) se_non)))))), hm, Fu.kp, Fu.binds fun _ _ _ _ _ _ us hl => match us, hl with | [_, _, _], _ => rfl⟩
theorem sc__law_add : FnScope ["one", "two"] ["one", "two"] (defScope s__law_add) := ⟨rfl, rfl, rfl, by decide +kernel, rfl, by decide +kernel, by decide +kernel⟩
theorem ok__law_add (T : Tx K mg) (h__law_low : Has P w K mg base 1 "_law_low" ["number", "by"] m__law_low) {f : Addr} {fd : FuncData} (Fu : Fun K "_law_add" "_law_add" s__law_add f fd) (hm : mg "_law_add" = some (.ref f)) : Has P w K mg base 2 "_law_add" ["one", "two"] m__law_add :=
  ⟨f, fd, fn_ok (k := 1) (O := []) Fu sc__law_add (by decide) (by decide) (fun cdv A outer s H E hr => (ss_one (ss_ret (se_has h__law_low (hr.mono (by first | decide | omega)) rfl (sa_cons (se_add (se_mul (se_ix (se_var 0) se_int) (se_ix (se_var 1) se_int)) (se_mul (se_ix (se_var 1) se_int) (se_ix (se_var 0) se_int))) (sa_cons (se_mul (se_ix (se_var 0) se_int) (se_ix (se_var 1) se_int)) sa_nil)))))), hm, Fu.kp, Fu.binds fun _ _ _ _ _ _ us hl => match us, hl with | [_, _], _ => rfl⟩
theorem sc_are_barring : FnScope ["drift", "one", "other", "turns"] ["drift", "one", "other"] (defScope s_are_barring) := ⟨rfl, rfl, rfl, by decide +kernel, rfl, by decide +kernel, by decide +kernel⟩
theorem ok_are_barring (T : Tx K mg) (h_less : Has P w K mg base 1 "less" ["one", "other"] m_less) (h_grown : Has P w K mg base 3 "grown" ["reading", "rate", "turns"] m_grown) {f : Addr} {fd : FuncData} (Fu : Fun K "are_barring" "are_barring" s_are_barring f fd) (hm : mg "are_barring" = some (.ref f)) : Has P w K mg base 4 "are_barring" ["drift", "one", "other"] m_are_barring :=
  ⟨f, fd, fn_ok (k := 3) (O := []) Fu sc_are_barring (by decide) (by decide) (fun cdv A outer s H E hr => (ss_cons (ss_if (st_gt (se_ix (se_var 1) se_int) (se_ix (se_var 2) se_int)) (ss_one (ss_par 1 2 rfl sc_are_barring.nd (sa_cons (se_var 2) (sa_cons (se_var 1) sa_nil)))) ss_nil)
    (ss_cons (ss_set 3 sc_are_barring.nd (se_sub (se_ix (se_var 2) se_int) (se_ix (se_var 1) se_int)))
    (ss_cons (ss_if (st_truth (se_has h_less (hr.mono (by first | decide | omega)) rfl (sa_cons (se_has h_grown (hr.mono (by first | decide | omega)) rfl (sa_cons (se_ix (se_var 1) se_int) (sa_cons (se_ix (se_var 0) se_int) (sa_cons (se_var 3) sa_nil)))) (sa_cons (se_ix (se_var 2) se_int) sa_nil)))) (ss_one (ss_ret se_bl)) ss_nil)
    (ss_one (ss_ret (se_has h_less (hr.mono (by first | decide | omega)) rfl (sa_cons (se_ix (se_var 2) se_int) (sa_cons (se_has h_grown (hr.mono (by first | decide | omega)) rfl (sa_cons (se_ix (se_var 1) se_int) (sa_cons (se_ix (se_var 0) se_int) (sa_cons (se_var 3) sa_nil)))) sa_nil))))))))), hm, Fu.kp, Fu.binds fun _ _ _ _ _ _ us hl => match us, hl with | [_, _, _], _ => rfl⟩
theorem sc_barring : FnScope ["drift", "stamps", "first", "one", "second"] ["drift", "stamps"] (defScope s_barring) := ⟨rfl, rfl, rfl, by decide +kernel, rfl, by decide +kernel, by decide +kernel⟩
theorem ok_barring (T : Tx K mg) (h_are_barring : Has P w K mg base 4 "are_barring" ["drift", "one", "other"] m_are_barring) {f : Addr} {fd : FuncData} (Fu : Fun K "barring" "barring" s_barring f fd) (hm : mg "barring" = some (.ref f)) : Has P w K mg base 5 "barring" ["drift", "stamps"] m_barring :=
  ⟨f, fd, fn_ok (k := 4) (O := []) Fu sc_barring (by decide) (by decide) (fun cdv A outer s H E hr => (ss_cons (ss_for PassesOwn.never rfl (si_enum T.g_enumerate rfl (sa_cons (se_var 1) sa_nil)) (sg_tup rfl (sgs_cons (sg_name 2 sc_barring.nd) (sgs_cons (sg_name 3 sc_barring.nd) sgs_nil))) (ss_one (ss_for PassesOwn.never rfl (si_range2 T.g_range rfl (sa_consA (se_add (se_var 2) se_int) (sa_consA (se_len T.g_len rfl (sa_consA (se_var 1) sa_nil)) sa_nil))) (sg_name 4 sc_barring.nd) (ss_one (ss_if (st_truth (se_has h_are_barring (hr.mono (by first | decide | omega)) rfl (sa_cons (se_var 0) (sa_cons (se_var 3) (sa_cons (se_ix (se_var 1) (se_var 4)) sa_nil))))) (ss_one (ss_ret (se_tup (sa_cons (se_var 2) (sa_cons (se_var 4) sa_nil))))) ss_nil)))))
    (ss_one (ss_ret se_non)))), hm, Fu.kp, Fu.binds fun _ _ _ _ _ _ us hl => match us, hl with | [_, _], _ => rfl⟩
theorem sc__law_below : FnScope ["one", "two"] ["one", "two"] (defScope s__law_below) := ⟨rfl, rfl, rfl, by decide +kernel, rfl, by decide +kernel, by decide +kernel⟩
theorem ok__law_below (T : Tx K mg)  {f : Addr} {fd : FuncData} (Fu : Fun K "_law_below" "_law_below" s__law_below f fd) (hm : mg "_law_below" = some (.ref f)) : Has P w K mg base 1 "_law_below" ["one", "two"] m__law_below :=
  ⟨f, fd, fn_ok (k := 0) (O := []) Fu sc__law_below (by decide) (by decide) (fun cdv A outer s H E hr => (ss_one (ss_ret (se_lt (se_mul (se_ix (se_var 0) se_int) (se_ix (se_var 1) se_int)) (se_mul (se_ix (se_var 1) se_int) (se_ix (se_var 0) se_int)))))), hm, Fu.kp, Fu.binds fun _ _ _ _ _ _ us hl => match us, hl with | [_, _], _ => rfl⟩
theorem sc__law_less_by : FnScope ["one", "two"] ["one", "two"] (defScope s__law_less_by) := ⟨rfl, rfl, rfl, by decide +kernel, rfl, by decide +kernel, by decide +kernel⟩
theorem ok__law_less_by (T : Tx K mg) (h__law_low : Has P w K mg base 1 "_law_low" ["number", "by"] m__law_low) {f : Addr} {fd : FuncData} (Fu : Fun K "_law_less_by" "_law_less_by" s__law_less_by f fd) (hm : mg "_law_less_by" = some (.ref f)) : Has P w K mg base 2 "_law_less_by" ["one", "two"] m__law_less_by :=
  ⟨f, fd, fn_ok (k := 1) (O := []) Fu sc__law_less_by (by decide) (by decide) (fun cdv A outer s H E hr => (ss_one (ss_ret (se_has h__law_low (hr.mono (by first | decide | omega)) rfl (sa_cons (se_sub (se_mul (se_ix (se_var 0) se_int) (se_ix (se_var 1) se_int)) (se_mul (se_ix (se_var 1) se_int) (se_ix (se_var 0) se_int))) (sa_cons (se_mul (se_ix (se_var 0) se_int) (se_ix (se_var 1) se_int)) sa_nil)))))), hm, Fu.kp, Fu.binds fun _ _ _ _ _ _ us hl => match us, hl with | [_, _], _ => rfl⟩
theorem sc__law_times : FnScope ["one", "two"] ["one", "two"] (defScope s__law_times) := ⟨rfl, rfl, rfl, by decide +kernel, rfl, by decide +kernel, by decide +kernel⟩
theorem ok__law_times (T : Tx K mg) (h__law_low : Has P w K mg base 1 "_law_low" ["number", "by"] m__law_low) {f : Addr} {fd : FuncData} (Fu : Fun K "_law_times" "_law_times" s__law_times f fd) (hm : mg "_law_times" = some (.ref f)) : Has P w K mg base 2 "_law_times" ["one", "two"] m__law_times :=
  ⟨f, fd, fn_ok (k := 1) (O := []) Fu sc__law_times (by decide) (by decide) (fun cdv A outer s H E hr => (ss_one (ss_ret (se_has h__law_low (hr.mono (by first | decide | omega)) rfl (sa_cons (se_mul (se_ix (se_var 0) se_int) (se_ix (se_var 1) se_int)) (sa_cons (se_mul (se_ix (se_var 0) se_int) (se_ix (se_var 1) se_int)) sa_nil)))))), hm, Fu.kp, Fu.binds fun _ _ _ _ _ _ us hl => match us, hl with | [_, _], _ => rfl⟩
theorem sc_law : FnScope ["script", "draw", "low", "drift", "course", "stamps", "time", "part", "k", "known", "at", "again", "side", "step", "narrow", "told", "number", "rest", "span"] ["script"] (defScope s_law) := ⟨rfl, rfl, rfl, by decide +kernel, rfl, by decide +kernel, by decide +kernel⟩
theorem ok_law (T : Tx K mg) {fD : Addr} {fdD : FuncData} (FD : FnOk P w K mg base CX0 1 fD fdD ["script"] (spDraw K)) (gD : mg "_law_draw" = some (.ref fD)) (kD : PySem.W.keepIn K (.ref fD) = true) (bD : Binds K fdD ["script"] []) (h__law_low : Has P w K mg base 1 "_law_low" ["number", "by"] m__law_low) (h__law_next : Has P w K mg base 1 "_law_next" ["draw", "many"] nextF) (h_idle_stamps : Has P w K mg base 8 "idle_stamps" ["drift", "stamps"] m_idle_stamps) (h_times_of : Has P w K mg base 4 "times_of" ["drift", "stamps", "reading"] m_times_of) (h__law_add : Has P w K mg base 2 "_law_add" ["one", "two"] m__law_add) (h_barring : Has P w K mg base 5 "barring" ["drift", "stamps"] m_barring) (h_readings : Has P w K mg base 6 "readings" ["drift", "stamps", "time"] m_readings) (h__law_below : Has P w K mg base 1 "_law_below" ["one", "two"] m__law_below) (h__law_less_by : Has P w K mg base 2 "_law_less_by" ["one", "two"] m__law_less_by) (h__law_times : Has P w K mg base 2 "_law_times" ["one", "two"] m__law_times)
    (hF : ∀ ns : List Int, ns.length ≤ 63 → ∃ δ' w', F_law (none :: some .drw :: List.replicate 17 none) ⟨ns, 0, 0, 17⟩ = some ((.rt (.bl true), δ'), w')) {f : Addr} {fd : FuncData} (Fu : Fun K "law" "law" s_law f fd) : FnOk P w K mg base CX0 9 f fd ["script"] (spLaw K) :=
  law_ok (O := [4, 5]) Fu sc_law rfl (by decide) (by decide) (fun cdv A outer s H E hr => ps_set (i := 1) sc_law.nd rfl (by first | exact Or.inl rfl | exact Or.inr rfl) (pe_call FD (hr.mono (by decide)) rfl gD kD bD .nil pass0 (pa_cons (pv 0) pa_nil)))
    (fun cdv A outer s H E hr => (ss_cons (ss_set 2 sc_law.nd (se_has h__law_low (hr.mono (by first | decide | omega)) rfl (sa_cons (se_add se_int (se_has h__law_next (hr.mono (by first | decide | omega)) rfl (sa_cons (se_var 1) (sa_cons se_int sa_nil)))) (sa_cons se_int sa_nil))))
    (ss_cons (ss_set 3 sc_law.nd (se_tup (sa_cons (se_var 2) (sa_cons (se_has h__law_add (hr.mono (by first | decide | omega)) rfl (sa_cons (se_var 2) (sa_cons (se_has h__law_low (hr.mono (by first | decide | omega)) rfl (sa_cons (se_has h__law_next (hr.mono (by first | decide | omega)) rfl (sa_cons (se_var 1) (sa_cons se_int sa_nil))) (sa_cons se_int sa_nil))) sa_nil))) sa_nil))))
    (ss_cons (ss_parT 4 5 rfl sc_law.nd (sf_lst (sa_cons (se_tup (sa_cons (se_sub (se_has h__law_next (hr.mono (by first | decide | omega)) rfl (sa_cons (se_var 1) (sa_cons se_int sa_nil))) se_int) (sa_cons se_int sa_nil))) sa_nil)) (sf_lst sa_nil))
    (ss_cons (ss_for PassesOwn.never rfl (si_range1 T.g_range rfl (sa_consA se_int sa_nil)) (sg_name 6 sc_law.nd) (ss_cons (ss_set 7 sc_law.nd (se_has h__law_low (hr.mono (by first | decide | omega)) rfl (sa_cons (se_has h__law_next (hr.mono (by first | decide | omega)) rfl (sa_cons (se_var 1) (sa_cons se_int sa_nil))) (sa_cons se_int sa_nil))))
      (ss_one (ss_app 4 (se_has h__law_add (hr.mono (by first | decide | omega)) rfl (sa_cons (se_ix (se_own 4) (se_neg se_int)) (sa_cons (se_has h__law_add (hr.mono (by first | decide | omega)) rfl (sa_cons (se_ix (se_var 3) se_int) (sa_cons (se_has h__law_times (hr.mono (by first | decide | omega)) rfl (sa_cons (se_var 7) (sa_cons (se_has h__law_less_by (hr.mono (by first | decide | omega)) rfl (sa_cons (se_ix (se_var 3) se_int) (sa_cons (se_ix (se_var 3) se_int) sa_nil))) sa_nil))) sa_nil))) sa_nil)))))))
    (ss_cons (ss_for PassesOwn.never rfl (si_range1 T.g_range rfl (sa_consA (se_add se_int (se_has h__law_next (hr.mono (by first | decide | omega)) rfl (sa_cons (se_var 1) (sa_cons se_int sa_nil)))) sa_nil)) (sg_name 8 sc_law.nd) (ss_cons (ss_set 6 sc_law.nd (se_has h__law_next (hr.mono (by first | decide | omega)) rfl (sa_cons (se_var 1) (sa_cons se_int sa_nil))))
      (ss_one (ss_app 5 (se_tup (sa_cons (se_var 6) (sa_cons (se_has h__law_less_by (hr.mono (by first | decide | omega)) rfl (sa_cons (se_ix (se_own 4) (se_var 6)) (sa_cons (se_tup (sa_cons (se_has h__law_next (hr.mono (by first | decide | omega)) rfl (sa_cons (se_var 1) (sa_cons se_int sa_nil))) (sa_cons se_int sa_nil))) sa_nil))) (sa_cons (se_has h__law_add (hr.mono (by first | decide | omega)) rfl (sa_cons (se_ix (se_own 4) (se_var 6)) (sa_cons (se_tup (sa_cons (se_has h__law_next (hr.mono (by first | decide | omega)) rfl (sa_cons (se_var 1) (sa_cons se_int sa_nil))) (sa_cons se_int sa_nil))) sa_nil))) sa_nil))))))))
    (ss_cons (ss_setV 5 sc_law.nd (se_tuple T.g_tuple rfl (sa_consA (se_own 5) sa_nil)))
    (ss_cons (ss_if (st_isNot (se_has h_barring (hr.mono (by first | decide | omega)) rfl (sa_cons (se_var 3) (sa_cons (se_val 5) sa_nil))) se_non) (ss_one (ss_ret se_bl)) ss_nil)
    (ss_cons (ss_set 9 sc_law.nd (se_lc rfl sc_law.nd (si_range1 T.g_range rfl (sa_consA se_int sa_nil)) (blkOk_by (own := [("time", 6)]) (N := ["script", "draw", "low", "drift", "course", "stamps", "time", "part", "k", "known", "at", "again", "side", "step", "narrow", "told", "number", "rest", "span"]) (sc := (defScope s_law)) (by decide +kernel)) (by decide) (fun _ _ _ _ _ => (sg_name 6 sc_law.nd)) (fun _ _ _ _ _ => sts_nil) (fun _ _ _ _ _ => (se_has h_readings (hr.mono (by first | decide | omega)) rfl (sa_cons (se_var 3) (sa_cons (se_val 5) (sa_cons (se_var 6) sa_nil)))))))
    (ss_cons (ss_for PassesOwn.never rfl (si_range1 T.g_range rfl (sa_consA se_int sa_nil)) (sg_name 6 sc_law.nd) (ss_one (ss_if (st_w (sw_or (st_truth (se_has h__law_below (hr.mono (by first | decide | omega)) rfl (sa_cons (se_ix (se_own 4) (se_var 6)) (sa_cons (se_ix (se_ix (se_var 9) (se_var 6)) se_int) sa_nil)))) (sw_or1 (st_truth (se_has h__law_below (hr.mono (by first | decide | omega)) rfl (sa_cons (se_ix (se_ix (se_var 9) (se_var 6)) se_int) (sa_cons (se_ix (se_own 4) (se_var 6)) sa_nil))))))) (ss_one (ss_ret se_bl)) ss_nil)))
    (ss_cons (ss_set 10 sc_law.nd (se_has h__law_next (hr.mono (by first | decide | omega)) rfl (sa_cons (se_var 1) (sa_cons se_int sa_nil))))
    (ss_cons (ss_set 11 sc_law.nd (se_add (se_own 5) (se_tup (sa_cons (se_add (se_tup (sa_cons (se_var 10) sa_nil)) (se_ix (se_var 9) (se_var 10))) sa_nil))))
    (ss_cons (ss_if (st_w (sw_or (st_isNot (se_has h_barring (hr.mono (by first | decide | omega)) rfl (sa_cons (se_var 3) (sa_cons (se_var 11) sa_nil))) se_non) (sw_or (st_notIn (se_sub (se_len T.g_len rfl (sa_consA (se_var 11) sa_nil)) se_int) (se_has h_idle_stamps (hr.mono (by first | decide | omega)) rfl (sa_cons (se_var 3) (sa_cons (se_var 11) sa_nil)))) (sw_or1 (st_truth (se_any rfl T.g_any rfl (sa_consA (se_lc rfl sc_law.nd (si_range1 T.g_range rfl (sa_consA se_int sa_nil)) (blkOk_by (own := [("time", 6)]) (N := ["script", "draw", "low", "drift", "course", "stamps", "time", "part", "k", "known", "at", "again", "side", "step", "narrow", "told", "number", "rest", "span"]) (sc := (defScope s_law)) (by decide +kernel)) (by decide) (fun _ _ _ _ _ => (sg_name 6 sc_law.nd)) (fun _ _ _ _ _ => sts_nil) (fun _ _ _ _ _ => (se_ne hr.units (se_has h_readings (hr.mono (by first | decide | omega)) rfl (sa_cons (se_var 3) (sa_cons (se_var 11) (sa_cons (se_var 6) sa_nil)))) (se_ix (se_var 9) (se_var 6))))) sa_nil))))))) (ss_one (ss_ret se_bl)) ss_nil)
    (ss_cons (ss_for PassesOwn.never rfl (si_seq (se_tup (sa_cons se_int (sa_cons se_int sa_nil)))) (sg_name 12 sc_law.nd) (ss_one (ss_for PassesOwn.never rfl (si_range1 T.g_range rfl (sa_consA se_int sa_nil)) (sg_name 6 sc_law.nd) (ss_cons (ss_set 13 sc_law.nd (se_has h__law_less_by (hr.mono (by first | decide | omega)) rfl (sa_cons (se_ix (se_ix (se_var 9) (se_add (se_var 6) se_int)) (se_var 12)) (sa_cons (se_ix (se_ix (se_var 9) (se_var 6)) (se_var 12)) sa_nil))))
        (ss_one (ss_if (st_w (sw_or (st_truth (se_has h__law_below (hr.mono (by first | decide | omega)) rfl (sa_cons (se_var 13) (sa_cons (se_ix (se_var 3) se_int) sa_nil)))) (sw_or1 (st_truth (se_has h__law_below (hr.mono (by first | decide | omega)) rfl (sa_cons (se_ix (se_var 3) se_int) (sa_cons (se_var 13) sa_nil))))))) (ss_one (ss_ret se_bl)) ss_nil))))))
    (ss_cons (ss_set 14 sc_law.nd (se_add (se_own 5) (se_tup (sa_cons (se_tup (sa_cons (se_var 10) (sa_cons (se_ix (se_own 4) (se_var 10)) (sa_cons (se_ix (se_own 4) (se_var 10)) sa_nil)))) sa_nil))))
    (ss_cons (ss_for PassesOwn.never rfl (si_range1 T.g_range rfl (sa_consA se_int sa_nil)) (sg_name 6 sc_law.nd) (ss_cons (ss_set 15 sc_law.nd (se_has h_readings (hr.mono (by first | decide | omega)) rfl (sa_cons (se_var 3) (sa_cons (se_var 14) (sa_cons (se_var 6) sa_nil)))))
      (ss_one (ss_if (st_w (sw_or (st_truth (se_has h__law_below (hr.mono (by first | decide | omega)) rfl (sa_cons (se_ix (se_var 15) se_int) (sa_cons (se_ix (se_ix (se_var 9) (se_var 6)) se_int) sa_nil)))) (sw_or (st_truth (se_has h__law_below (hr.mono (by first | decide | omega)) rfl (sa_cons (se_ix (se_ix (se_var 9) (se_var 6)) se_int) (sa_cons (se_ix (se_var 15) se_int) sa_nil)))) (sw_or1 (st_w (sw_and (st_eq hr.units (se_var 6) (se_var 10)) (sw_and1 (st_ne hr.units (se_var 15) (se_tup (sa_cons (se_ix (se_own 4) (se_var 10)) (sa_cons (se_ix (se_own 4) (se_var 10)) sa_nil))))))))))) (ss_one (ss_ret se_bl)) ss_nil))))
    (ss_cons (ss_for PassesOwn.never rfl (si_seq (se_has h_idle_stamps (hr.mono (by first | decide | omega)) rfl (sa_cons (se_var 3) (sa_cons (se_val 5) sa_nil)))) (sg_name 16 sc_law.nd) (ss_cons (ss_set 17 sc_law.nd (se_add (se_slice (se_own 5) so_none (so_some (se_var 16))) (se_slice (se_own 5) (so_some (se_add (se_var 16) se_int)) so_none)))
      (ss_one (ss_if (st_w (sw_and (st_ne hr.units (se_var 17) (se_tup sa_nil)) (sw_and1 (st_truth (se_any rfl T.g_any rfl (sa_consA (se_lc rfl sc_law.nd (si_range1 T.g_range rfl (sa_consA se_int sa_nil)) (blkOk_by (own := [("time", 6)]) (N := ["script", "draw", "low", "drift", "course", "stamps", "time", "part", "k", "known", "at", "again", "side", "step", "narrow", "told", "number", "rest", "span"]) (sc := (defScope s_law)) (by decide +kernel)) (by decide) (fun _ _ _ _ _ => (sg_name 6 sc_law.nd)) (fun _ _ _ _ _ => sts_nil) (fun _ _ _ _ _ => (se_ne hr.units (se_has h_readings (hr.mono (by first | decide | omega)) rfl (sa_cons (se_var 3) (sa_cons (se_var 17) (sa_cons (se_var 6) sa_nil)))) (se_ix (se_var 9) (se_var 6))))) sa_nil)))))) (ss_one (ss_ret se_bl)) ss_nil))))
    (ss_cons (ss_set 18 sc_law.nd (se_has h_times_of (hr.mono (by first | decide | omega)) rfl (sa_cons (se_var 3) (sa_cons (se_val 5) (sa_cons (se_ix (se_own 4) (se_var 10)) sa_nil)))))
    (ss_one (ss_ret (se_and (se_isNot (se_var 18) se_non) (se_one (se_chain op_le op_le os_le os_le (se_ix (se_var 18) se_int) (se_var 10) (se_ix (se_var 18) se_int)))))))))))))))))))))))) hF
end
end K89

namespace K89
open PySem PySem.Spec PyProof.Rows L2 Fc
theorem all_mk {l : PySem.W.OpenLaw} {w : World} {K : PySem.W.Frag} {h : Heap} {mg : Str → Option Value} {fa f0 f1 f2 f3 f4 f5 f6 f7 f8 f9 f10 f11 f12 f13 f14 f15 f16 f17 f18 f19 f20 f21 f22 f23 f24 f25 f26 f27 f28 f29 f30 : Addr} (X : K.In h) (G : h.Ns mainGlobals mg) (hfa : mg "law" = some (.ref fa))
    {od0 an0 od1 an1 od2 an2 od3 an3 od4 an4 od5 an5 od6 an6 od7 an7 od8 an8 od9 an9 od10 an10 od11 an11 od12 an12 od13 an13 od14 an14 od15 an15 od16 an16 od17 an17 od18 an18 od19 an19 od20 an20 od21 an21 od22 an22 od23 an23 od24 an24 od25 an25 od26 an26 od27 an27 od28 an28 od29 an29 od30 an30 : Option Addr} {sl0 sl1 sl2 sl3 sl4 sl5 sl6 sl7 sl8 sl9 sl10 sl11 sl12 sl13 sl14 sl15 sl16 sl17 sl18 sl19 sl20 sl21 sl22 sl23 sl24 sl25 sl26 sl27 sl28 sl29 sl30 : Array (Option Value)} {oc0 kV0 dc0 pm0 cd0 ct0 oc1 kV1 dc1 pm1 cd1 ct1 oc2 kV2 dc2 pm2 cd2 ct2 oc3 kV3 dc3 pm3 cd3 ct3 oc4 kV4 dc4 pm4 cd4 ct4 oc5 kV5 dc5 pm5 cd5 ct5 oc6 kV6 dc6 pm6 cd6 ct6 oc7 kV7 dc7 pm7 cd7 ct7 oc8 kV8 dc8 pm8 cd8 ct8 oc9 kV9 dc9 pm9 cd9 ct9 oc10 kV10 dc10 pm10 cd10 ct10 oc11 kV11 dc11 pm11 cd11 ct11 oc12 kV12 dc12 pm12 cd12 ct12 oc13 kV13 dc13 pm13 cd13 ct13 oc14 kV14 dc14 pm14 cd14 ct14 oc15 kV15 dc15 pm15 cd15 ct15 oc16 kV16 dc16 pm16 cd16 ct16 oc17 kV17 dc17 pm17 cd17 ct17 oc18 kV18 dc18 pm18 cd18 ct18 oc19 kV19 dc19 pm19 cd19 ct19 oc20 kV20 dc20 pm20 cd20 ct20 oc21 kV21 dc21 pm21 cd21 ct21 oc22 kV22 dc22 pm22 cd22 ct22 oc23 kV23 dc23 pm23 cd23 ct23 oc24 kV24 dc24 pm24 cd24 ct24 oc25 kV25 dc25 pm25 cd25 ct25 oc26 kV26 dc26 pm26 cd26 ct26 oc27 kV27 dc27 pm27 cd27 ct27 oc28 kV28 dc28 pm28 cd28 ct28 oc29 kV29 dc29 pm29 cd29 ct29 oc30 kV30 dc30 pm30 cd30 ct30 : Value}
    (a0 : PySem.W.nsIn K mainGlobals "_law_draw" = some (some (.ref f0))) (l0 : K.lookup f0 = some ⟨oc0, od0, .func (PySem.W.fnOf "_law_draw" "_law_draw" (defArgs s__law_draw) (defBody s__law_draw) (defScope s__law_draw) .none kV0 dc0 pm0 an0 cd0 ct0), sl0⟩) (c0 : PySem.W.codeIn K cd0 "_law_draw" = true) (k0 : PySem.W.keepIn K (.ref f0) = true)
    (a1 : PySem.W.nsIn K mainGlobals "_law_next" = some (some (.ref f1))) (l1 : K.lookup f1 = some ⟨oc1, od1, .func (PySem.W.fnOf "_law_next" "_law_next" (defArgs s__law_next) (defBody s__law_next) (defScope s__law_next) .none kV1 dc1 pm1 an1 cd1 ct1), sl1⟩) (c1 : PySem.W.codeIn K cd1 "_law_next" = true) (k1 : PySem.W.keepIn K (.ref f1) = true)
    (a2 : PySem.W.nsIn K mainGlobals "_law_low" = some (some (.ref f2))) (l2 : K.lookup f2 = some ⟨oc2, od2, .func (PySem.W.fnOf "_law_low" "_law_low" (defArgs s__law_low) (defBody s__law_low) (defScope s__law_low) .none kV2 dc2 pm2 an2 cd2 ct2), sl2⟩) (c2 : PySem.W.codeIn K cd2 "_law_low" = true) (k2 : PySem.W.keepIn K (.ref f2) = true)
    (a3 : PySem.W.nsIn K mainGlobals "less" = some (some (.ref f3))) (l3 : K.lookup f3 = some ⟨oc3, od3, .func (PySem.W.fnOf "less" "less" (defArgs s_less) (defBody s_less) (defScope s_less) .none kV3 dc3 pm3 an3 cd3 ct3), sl3⟩) (c3 : PySem.W.codeIn K cd3 "less" = true) (k3 : PySem.W.keepIn K (.ref f3) = true)
    (a4 : PySem.W.nsIn K mainGlobals "greatest_of" = some (some (.ref f4))) (l4 : K.lookup f4 = some ⟨oc4, od4, .func (PySem.W.fnOf "greatest_of" "greatest_of" (defArgs s_greatest_of) (defBody s_greatest_of) (defScope s_greatest_of) .none kV4 dc4 pm4 an4 cd4 ct4), sl4⟩) (c4 : PySem.W.codeIn K cd4 "greatest_of" = true) (k4 : PySem.W.keepIn K (.ref f4) = true)
    (a5 : PySem.W.nsIn K mainGlobals "ratio" = some (some (.ref f5))) (l5 : K.lookup f5 = some ⟨oc5, od5, .func (PySem.W.fnOf "ratio" "ratio" (defArgs s_ratio) (defBody s_ratio) (defScope s_ratio) .none kV5 dc5 pm5 an5 cd5 ct5), sl5⟩) (c5 : PySem.W.codeIn K cd5 "ratio" = true) (k5 : PySem.W.keepIn K (.ref f5) = true)
    (a6 : PySem.W.nsIn K mainGlobals "add" = some (some (.ref f6))) (l6 : K.lookup f6 = some ⟨oc6, od6, .func (PySem.W.fnOf "add" "add" (defArgs s_add) (defBody s_add) (defScope s_add) .none kV6 dc6 pm6 an6 cd6 ct6), sl6⟩) (c6 : PySem.W.codeIn K cd6 "add" = true) (k6 : PySem.W.keepIn K (.ref f6) = true)
    (a7 : PySem.W.nsIn K mainGlobals "multiply" = some (some (.ref f7))) (l7 : K.lookup f7 = some ⟨oc7, od7, .func (PySem.W.fnOf "multiply" "multiply" (defArgs s_multiply) (defBody s_multiply) (defScope s_multiply) .none kV7 dc7 pm7 an7 cd7 ct7), sl7⟩) (c7 : PySem.W.codeIn K cd7 "multiply" = true) (k7 : PySem.W.keepIn K (.ref f7) = true)
    (a8 : PySem.W.nsIn K mainGlobals "grown" = some (some (.ref f8))) (l8 : K.lookup f8 = some ⟨oc8, od8, .func (PySem.W.fnOf "grown" "grown" (defArgs s_grown) (defBody s_grown) (defScope s_grown) .none kV8 dc8 pm8 an8 cd8 ct8), sl8⟩) (c8 : PySem.W.codeIn K cd8 "grown" = true) (k8 : PySem.W.keepIn K (.ref f8) = true)
    (a9 : PySem.W.nsIn K mainGlobals "least_by" = some (some (.ref f9))) (l9 : K.lookup f9 = some ⟨oc9, od9, .func (PySem.W.fnOf "least_by" "least_by" (defArgs s_least_by) (defBody s_least_by) (defScope s_least_by) .none kV9 dc9 pm9 an9 cd9 ct9), sl9⟩) (c9 : PySem.W.codeIn K cd9 "least_by" = true) (k9 : PySem.W.keepIn K (.ref f9) = true)
    (a10 : PySem.W.nsIn K mainGlobals "least_reading" = some (some (.ref f10))) (l10 : K.lookup f10 = some ⟨oc10, od10, .func (PySem.W.fnOf "least_reading" "least_reading" (defArgs s_least_reading) (defBody s_least_reading) (defScope s_least_reading) .none kV10 dc10 pm10 an10 cd10 ct10), sl10⟩) (c10 : PySem.W.codeIn K cd10 "least_reading" = true) (k10 : PySem.W.keepIn K (.ref f10) = true)
    (a11 : PySem.W.nsIn K mainGlobals "least_of" = some (some (.ref f11))) (l11 : K.lookup f11 = some ⟨oc11, od11, .func (PySem.W.fnOf "least_of" "least_of" (defArgs s_least_of) (defBody s_least_of) (defScope s_least_of) .none kV11 dc11 pm11 an11 cd11 ct11), sl11⟩) (c11 : PySem.W.codeIn K cd11 "least_of" = true) (k11 : PySem.W.keepIn K (.ref f11) = true)
    (a12 : PySem.W.nsIn K mainGlobals "greatest_by" = some (some (.ref f12))) (l12 : K.lookup f12 = some ⟨oc12, od12, .func (PySem.W.fnOf "greatest_by" "greatest_by" (defArgs s_greatest_by) (defBody s_greatest_by) (defScope s_greatest_by) .none kV12 dc12 pm12 an12 cd12 ct12), sl12⟩) (c12 : PySem.W.codeIn K cd12 "greatest_by" = true) (k12 : PySem.W.keepIn K (.ref f12) = true)
    (a13 : PySem.W.nsIn K mainGlobals "greatest_reading" = some (some (.ref f13))) (l13 : K.lookup f13 = some ⟨oc13, od13, .func (PySem.W.fnOf "greatest_reading" "greatest_reading" (defArgs s_greatest_reading) (defBody s_greatest_reading) (defScope s_greatest_reading) .none kV13 dc13 pm13 an13 cd13 ct13), sl13⟩) (c13 : PySem.W.codeIn K cd13 "greatest_reading" = true) (k13 : PySem.W.keepIn K (.ref f13) = true)
    (a14 : PySem.W.nsIn K mainGlobals "readings" = some (some (.ref f14))) (l14 : K.lookup f14 = some ⟨oc14, od14, .func (PySem.W.fnOf "readings" "readings" (defArgs s_readings) (defBody s_readings) (defScope s_readings) .none kV14 dc14 pm14 an14 cd14 ct14), sl14⟩) (c14 : PySem.W.codeIn K cd14 "readings" = true) (k14 : PySem.W.keepIn K (.ref f14) = true)
    (a15 : PySem.W.nsIn K mainGlobals "is_idle" = some (some (.ref f15))) (l15 : K.lookup f15 = some ⟨oc15, od15, .func (PySem.W.fnOf "is_idle" "is_idle" (defArgs s_is_idle) (defBody s_is_idle) (defScope s_is_idle) .none kV15 dc15 pm15 an15 cd15 ct15), sl15⟩) (c15 : PySem.W.codeIn K cd15 "is_idle" = true) (k15 : PySem.W.keepIn K (.ref f15) = true)
    (a16 : PySem.W.nsIn K mainGlobals "idle_stamps" = some (some (.ref f16))) (l16 : K.lookup f16 = some ⟨oc16, od16, .func (PySem.W.fnOf "idle_stamps" "idle_stamps" (defArgs s_idle_stamps) (defBody s_idle_stamps) (defScope s_idle_stamps) .none kV16 dc16 pm16 an16 cd16 ct16), sl16⟩) (c16 : PySem.W.codeIn K cd16 "idle_stamps" = true) (k16 : PySem.W.keepIn K (.ref f16) = true)
    (a17 : PySem.W.nsIn K mainGlobals "subtract" = some (some (.ref f17))) (l17 : K.lookup f17 = some ⟨oc17, od17, .func (PySem.W.fnOf "subtract" "subtract" (defArgs s_subtract) (defBody s_subtract) (defScope s_subtract) .none kV17 dc17 pm17 an17 cd17 ct17), sl17⟩) (c17 : PySem.W.codeIn K cd17 "subtract" = true) (k17 : PySem.W.keepIn K (.ref f17) = true)
    (a18 : PySem.W.nsIn K mainGlobals "floor_of" = some (some (.ref f18))) (l18 : K.lookup f18 = some ⟨oc18, od18, .func (PySem.W.fnOf "floor_of" "floor_of" (defArgs s_floor_of) (defBody s_floor_of) (defScope s_floor_of) .none kV18 dc18 pm18 an18 cd18 ct18), sl18⟩) (c18 : PySem.W.codeIn K cd18 "floor_of" = true) (k18 : PySem.W.keepIn K (.ref f18) = true)
    (a19 : PySem.W.nsIn K mainGlobals "divide" = some (some (.ref f19))) (l19 : K.lookup f19 = some ⟨oc19, od19, .func (PySem.W.fnOf "divide" "divide" (defArgs s_divide) (defBody s_divide) (defScope s_divide) .none kV19 dc19 pm19 an19 cd19 ct19), sl19⟩) (c19 : PySem.W.codeIn K cd19 "divide" = true) (k19 : PySem.W.keepIn K (.ref f19) = true)
    (a20 : PySem.W.nsIn K mainGlobals "last_with" = some (some (.ref f20))) (l20 : K.lookup f20 = some ⟨oc20, od20, .func (PySem.W.fnOf "last_with" "last_with" (defArgs s_last_with) (defBody s_last_with) (defScope s_last_with) .none kV20 dc20 pm20 an20 cd20 ct20), sl20⟩) (c20 : PySem.W.codeIn K cd20 "last_with" = true) (k20 : PySem.W.keepIn K (.ref f20) = true)
    (a21 : PySem.W.nsIn K mainGlobals "ceiling_of" = some (some (.ref f21))) (l21 : K.lookup f21 = some ⟨oc21, od21, .func (PySem.W.fnOf "ceiling_of" "ceiling_of" (defArgs s_ceiling_of) (defBody s_ceiling_of) (defScope s_ceiling_of) .none kV21 dc21 pm21 an21 cd21 ct21), sl21⟩) (c21 : PySem.W.codeIn K cd21 "ceiling_of" = true) (k21 : PySem.W.keepIn K (.ref f21) = true)
    (a22 : PySem.W.nsIn K mainGlobals "first_with" = some (some (.ref f22))) (l22 : K.lookup f22 = some ⟨oc22, od22, .func (PySem.W.fnOf "first_with" "first_with" (defArgs s_first_with) (defBody s_first_with) (defScope s_first_with) .none kV22 dc22 pm22 an22 cd22 ct22), sl22⟩) (c22 : PySem.W.codeIn K cd22 "first_with" = true) (k22 : PySem.W.keepIn K (.ref f22) = true)
    (a23 : PySem.W.nsIn K mainGlobals "times_of" = some (some (.ref f23))) (l23 : K.lookup f23 = some ⟨oc23, od23, .func (PySem.W.fnOf "times_of" "times_of" (defArgs s_times_of) (defBody s_times_of) (defScope s_times_of) .none kV23 dc23 pm23 an23 cd23 ct23), sl23⟩) (c23 : PySem.W.codeIn K cd23 "times_of" = true) (k23 : PySem.W.keepIn K (.ref f23) = true)
    (a24 : PySem.W.nsIn K mainGlobals "_law_add" = some (some (.ref f24))) (l24 : K.lookup f24 = some ⟨oc24, od24, .func (PySem.W.fnOf "_law_add" "_law_add" (defArgs s__law_add) (defBody s__law_add) (defScope s__law_add) .none kV24 dc24 pm24 an24 cd24 ct24), sl24⟩) (c24 : PySem.W.codeIn K cd24 "_law_add" = true) (k24 : PySem.W.keepIn K (.ref f24) = true)
    (a25 : PySem.W.nsIn K mainGlobals "are_barring" = some (some (.ref f25))) (l25 : K.lookup f25 = some ⟨oc25, od25, .func (PySem.W.fnOf "are_barring" "are_barring" (defArgs s_are_barring) (defBody s_are_barring) (defScope s_are_barring) .none kV25 dc25 pm25 an25 cd25 ct25), sl25⟩) (c25 : PySem.W.codeIn K cd25 "are_barring" = true) (k25 : PySem.W.keepIn K (.ref f25) = true)
    (a26 : PySem.W.nsIn K mainGlobals "barring" = some (some (.ref f26))) (l26 : K.lookup f26 = some ⟨oc26, od26, .func (PySem.W.fnOf "barring" "barring" (defArgs s_barring) (defBody s_barring) (defScope s_barring) .none kV26 dc26 pm26 an26 cd26 ct26), sl26⟩) (c26 : PySem.W.codeIn K cd26 "barring" = true) (k26 : PySem.W.keepIn K (.ref f26) = true)
    (a27 : PySem.W.nsIn K mainGlobals "_law_below" = some (some (.ref f27))) (l27 : K.lookup f27 = some ⟨oc27, od27, .func (PySem.W.fnOf "_law_below" "_law_below" (defArgs s__law_below) (defBody s__law_below) (defScope s__law_below) .none kV27 dc27 pm27 an27 cd27 ct27), sl27⟩) (c27 : PySem.W.codeIn K cd27 "_law_below" = true) (k27 : PySem.W.keepIn K (.ref f27) = true)
    (a28 : PySem.W.nsIn K mainGlobals "_law_less_by" = some (some (.ref f28))) (l28 : K.lookup f28 = some ⟨oc28, od28, .func (PySem.W.fnOf "_law_less_by" "_law_less_by" (defArgs s__law_less_by) (defBody s__law_less_by) (defScope s__law_less_by) .none kV28 dc28 pm28 an28 cd28 ct28), sl28⟩) (c28 : PySem.W.codeIn K cd28 "_law_less_by" = true) (k28 : PySem.W.keepIn K (.ref f28) = true)
    (a29 : PySem.W.nsIn K mainGlobals "_law_times" = some (some (.ref f29))) (l29 : K.lookup f29 = some ⟨oc29, od29, .func (PySem.W.fnOf "_law_times" "_law_times" (defArgs s__law_times) (defBody s__law_times) (defScope s__law_times) .none kV29 dc29 pm29 an29 cd29 ct29), sl29⟩) (c29 : PySem.W.codeIn K cd29 "_law_times" = true) (k29 : PySem.W.keepIn K (.ref f29) = true)
    (a30 : PySem.W.nsIn K mainGlobals "law" = some (some (.ref f30))) (l30 : K.lookup f30 = some ⟨oc30, od30, .func (PySem.W.fnOf "law" "law" (defArgs s_law) (defBody s_law) (defScope s_law) .none kV30 dc30 pm30 an30 cd30 ct30), sl30⟩) (c30 : PySem.W.codeIn K cd30 "law" = true) (k30 : PySem.W.keepIn K (.ref f30) = true)
    (z_abs : PySem.W.nsIn K mainGlobals "abs" = some none)
    (z_any : PySem.W.nsIn K mainGlobals "any" = some none)
    (z_enumerate : PySem.W.nsIn K mainGlobals "enumerate" = some none)
    (z_gcd : PySem.W.nsIn K mainGlobals "gcd" = some (some (.builtin "math.gcd")))
    (z_int : PySem.W.nsIn K mainGlobals "int" = some none)
    (z_len : PySem.W.nsIn K mainGlobals "len" = some none)
    (z_list : PySem.W.nsIn K mainGlobals "list" = some none)
    (z_max : PySem.W.nsIn K mainGlobals "max" = some none)
    (z_min : PySem.W.nsIn K mainGlobals "min" = some none)
    (z_range : PySem.W.nsIn K mainGlobals "range" = some none)
    (z_tuple : PySem.W.nsIn K mainGlobals "tuple" = some none)
    (hF : ∀ ns : List Int, ns.length ≤ 63 → ∃ δ' w', F_law (none :: some .drw :: List.replicate 17 none) ⟨ns, 0, 0, 17⟩ = some ((.rt (.bl true), δ'), w')) :
    ∃ fd : FuncData, (∀ (s : Shared) (v : Value), BindsTo s fd ⟨[v], []⟩ [("script", v)]) ∧ ∀ base : Heap, K.In base → base.Ns mainGlobals mg → FnOk l.prog w K mg base CX0 9 fa fd ["script"] (spLaw K) := by
  have e := hfa.symm.trans (PySem.W.mg_of X G a30)
  cases e
  have T : Tx K mg := ⟨PySem.W.mg_none_of X G z_abs, PySem.W.mg_none_of X G z_any, PySem.W.mg_none_of X G z_enumerate, PySem.W.mg_of X G z_gcd, PySem.W.mg_none_of X G z_int, PySem.W.mg_none_of X G z_len, PySem.W.mg_none_of X G z_list, PySem.W.mg_none_of X G z_max, PySem.W.mg_none_of X G z_min, PySem.W.mg_none_of X G z_range, PySem.W.mg_none_of X G z_tuple⟩
  have F0 := fun_mk (st := s__law_draw) l0 c0 k0
  have F1 := fun_mk (st := s__law_next) l1 c1 k1
  have F2 := fun_mk (st := s__law_low) l2 c2 k2
  have F3 := fun_mk (st := s_less) l3 c3 k3
  have F4 := fun_mk (st := s_greatest_of) l4 c4 k4
  have F5 := fun_mk (st := s_ratio) l5 c5 k5
  have F6 := fun_mk (st := s_add) l6 c6 k6
  have F7 := fun_mk (st := s_multiply) l7 c7 k7
  have F8 := fun_mk (st := s_grown) l8 c8 k8
  have F9 := fun_mk (st := s_least_by) l9 c9 k9
  have F10 := fun_mk (st := s_least_reading) l10 c10 k10
  have F11 := fun_mk (st := s_least_of) l11 c11 k11
  have F12 := fun_mk (st := s_greatest_by) l12 c12 k12
  have F13 := fun_mk (st := s_greatest_reading) l13 c13 k13
  have F14 := fun_mk (st := s_readings) l14 c14 k14
  have F15 := fun_mk (st := s_is_idle) l15 c15 k15
  have F16 := fun_mk (st := s_idle_stamps) l16 c16 k16
  have F17 := fun_mk (st := s_subtract) l17 c17 k17
  have F18 := fun_mk (st := s_floor_of) l18 c18 k18
  have F19 := fun_mk (st := s_divide) l19 c19 k19
  have F20 := fun_mk (st := s_last_with) l20 c20 k20
  have F21 := fun_mk (st := s_ceiling_of) l21 c21 k21
  have F22 := fun_mk (st := s_first_with) l22 c22 k22
  have F23 := fun_mk (st := s_times_of) l23 c23 k23
  have F24 := fun_mk (st := s__law_add) l24 c24 k24
  have F25 := fun_mk (st := s_are_barring) l25 c25 k25
  have F26 := fun_mk (st := s_barring) l26 c26 k26
  have F27 := fun_mk (st := s__law_below) l27 c27 k27
  have F28 := fun_mk (st := s__law_less_by) l28 c28 k28
  have F29 := fun_mk (st := s__law_times) l29 c29 k29
  have F30 := fun_mk (st := s_law) l30 c30 k30
  refine ⟨PySem.W.fnOf "law" "law" (defArgs s_law) (defBody s_law) (defScope s_law) .none kV30 dc30 pm30 an30 cd30 ct30, fun s v => .of_eq rfl, fun base _ _ => ?_⟩
  have FD := ok__law_draw (P := l.prog) (w := w) (base := base) T F0
  have h__law_next := ok__law_next (P := l.prog) (w := w) (base := base) T F1 (PySem.W.mg_of X G a1)
  have h__law_low := ok__law_low (P := l.prog) (w := w) (base := base) T  F2 (PySem.W.mg_of X G a2)
  have h_less := ok_less (P := l.prog) (w := w) (base := base) T  F3 (PySem.W.mg_of X G a3)
  have h_greatest_of := ok_greatest_of (P := l.prog) (w := w) (base := base) T h_less F4 (PySem.W.mg_of X G a4)
  have h_ratio := ok_ratio (P := l.prog) (w := w) (base := base) T  F5 (PySem.W.mg_of X G a5)
  have h_add := ok_add (P := l.prog) (w := w) (base := base) T h_ratio F6 (PySem.W.mg_of X G a6)
  have h_multiply := ok_multiply (P := l.prog) (w := w) (base := base) T h_ratio F7 (PySem.W.mg_of X G a7)
  have h_grown := ok_grown (P := l.prog) (w := w) (base := base) T h_add h_multiply F8 (PySem.W.mg_of X G a8)
  have h_least_by := ok_least_by (P := l.prog) (w := w) (base := base) T h_grown F9 (PySem.W.mg_of X G a9)
  have h_least_reading := ok_least_reading (P := l.prog) (w := w) (base := base) T h_greatest_of h_least_by F10 (PySem.W.mg_of X G a10)
  have h_least_of := ok_least_of (P := l.prog) (w := w) (base := base) T h_less F11 (PySem.W.mg_of X G a11)
  have h_greatest_by := ok_greatest_by (P := l.prog) (w := w) (base := base) T h_grown F12 (PySem.W.mg_of X G a12)
  have h_greatest_reading := ok_greatest_reading (P := l.prog) (w := w) (base := base) T h_least_of h_greatest_by F13 (PySem.W.mg_of X G a13)
  have h_readings := ok_readings (P := l.prog) (w := w) (base := base) T h_least_reading h_greatest_reading F14 (PySem.W.mg_of X G a14)
  have h_is_idle := ok_is_idle (P := l.prog) (w := w) (base := base) T h_readings h_less F15 (PySem.W.mg_of X G a15)
  have h_idle_stamps := ok_idle_stamps (P := l.prog) (w := w) (base := base) T h_is_idle F16 (PySem.W.mg_of X G a16)
  have h_subtract := ok_subtract (P := l.prog) (w := w) (base := base) T h_ratio F17 (PySem.W.mg_of X G a17)
  have h_floor_of := ok_floor_of (P := l.prog) (w := w) (base := base) T  F18 (PySem.W.mg_of X G a18)
  have h_divide := ok_divide (P := l.prog) (w := w) (base := base) T h_ratio F19 (PySem.W.mg_of X G a19)
  have h_last_with := ok_last_with (P := l.prog) (w := w) (base := base) T h_subtract h_less h_floor_of h_divide F20 (PySem.W.mg_of X G a20)
  have h_ceiling_of := ok_ceiling_of (P := l.prog) (w := w) (base := base) T  F21 (PySem.W.mg_of X G a21)
  have h_first_with := ok_first_with (P := l.prog) (w := w) (base := base) T h_subtract h_less h_ceiling_of h_divide F22 (PySem.W.mg_of X G a22)
  have h_times_of := ok_times_of (P := l.prog) (w := w) (base := base) T h_last_with h_first_with F23 (PySem.W.mg_of X G a23)
  have h__law_add := ok__law_add (P := l.prog) (w := w) (base := base) T h__law_low F24 (PySem.W.mg_of X G a24)
  have h_are_barring := ok_are_barring (P := l.prog) (w := w) (base := base) T h_less h_grown F25 (PySem.W.mg_of X G a25)
  have h_barring := ok_barring (P := l.prog) (w := w) (base := base) T h_are_barring F26 (PySem.W.mg_of X G a26)
  have h__law_below := ok__law_below (P := l.prog) (w := w) (base := base) T  F27 (PySem.W.mg_of X G a27)
  have h__law_less_by := ok__law_less_by (P := l.prog) (w := w) (base := base) T h__law_low F28 (PySem.W.mg_of X G a28)
  have h__law_times := ok__law_times (P := l.prog) (w := w) (base := base) T h__law_low F29 (PySem.W.mg_of X G a29)
  exact ok_law T FD (PySem.W.mg_of X G a0) F0.kp (F0.binds fun _ _ _ _ _ _ us hl => match us, hl with | [_], _ => rfl) h__law_low h__law_next h_idle_stamps h_times_of h__law_add h_barring h_readings h__law_below h__law_less_by h__law_times hF F30
end K89

open PySem PySem.W PyProof.Rows
set_option maxRecDepth 100000 in
set_option maxHeartbeats 0 in
theorem PySem.Challenge.cw_farcall_k89_stamps_that_say_nothing_new_holds : PySem.Challenge.rw_farcall_k89_stamps_that_say_nothing_new.Holds := by
  w_on; o_law; k_head; (case hw => w_witness2)
  k_fill
  refine L2.walk_of (l := PySem.Challenge.rw_farcall_k89_stamps_that_say_nothing_new) (n := 63) (k := 9) (x := "script") (CX := fun _ => L2.CX0) (sp := fun w => Fc.spLaw _) rfl (by decide) rfl ⟨rfl, by decide, by decide⟩ (fun w h Y => PySem.W.kIn_of Y) ?F (fun _ _ a ns hl _ hS => ⟨a, ns, rfl, hS, hl, fun _ => rfl⟩) (fun _ _ _ _ _ h => h)
  case F =>
    intro w mg fa h KX G hmg
    refine' K89.all_mk KX G hmg ?a0 ?l0 ?c0 ?k0 ?a1 ?l1 ?c1 ?k1 ?a2 ?l2 ?c2 ?k2 ?a3 ?l3 ?c3 ?k3 ?a4 ?l4 ?c4 ?k4 ?a5 ?l5 ?c5 ?k5 ?a6 ?l6 ?c6 ?k6 ?a7 ?l7 ?c7 ?k7 ?a8 ?l8 ?c8 ?k8 ?a9 ?l9 ?c9 ?k9 ?a10 ?l10 ?c10 ?k10 ?a11 ?l11 ?c11 ?k11 ?a12 ?l12 ?c12 ?k12 ?a13 ?l13 ?c13 ?k13 ?a14 ?l14 ?c14 ?k14 ?a15 ?l15 ?c15 ?k15 ?a16 ?l16 ?c16 ?k16 ?a17 ?l17 ?c17 ?k17 ?a18 ?l18 ?c18 ?k18 ?a19 ?l19 ?c19 ?k19 ?a20 ?l20 ?c20 ?k20 ?a21 ?l21 ?c21 ?k21 ?a22 ?l22 ?c22 ?k22 ?a23 ?l23 ?c23 ?k23 ?a24 ?l24 ?c24 ?k24 ?a25 ?l25 ?c25 ?k25 ?a26 ?l26 ?c26 ?k26 ?a27 ?l27 ?c27 ?k27 ?a28 ?l28 ?c28 ?k28 ?a29 ?l29 ?c29 ?k29 ?a30 ?l30 ?c30 ?k30 ?z_abs ?z_any ?z_enumerate ?z_gcd ?z_int ?z_len ?z_list ?z_max ?z_min ?z_range ?z_tuple K89.law_true
    (case a0 => k_is)
    (case l0 => k_is)
    (case c0 => k_is)
    (case k0 => k_is)
    (case a1 => k_is)
    (case l1 => k_is)
    (case c1 => k_is)
    (case k1 => k_is)
    (case a2 => k_is)
    (case l2 => k_is)
    (case c2 => k_is)
    (case k2 => k_is)
    (case a3 => k_is)
    (case l3 => k_is)
    (case c3 => k_is)
    (case k3 => k_is)
    (case a4 => k_is)
    (case l4 => k_is)
    (case c4 => k_is)
    (case k4 => k_is)
    (case a5 => k_is)
    (case l5 => k_is)
    (case c5 => k_is)
    (case k5 => k_is)
    (case a6 => k_is)
    (case l6 => k_is)
    (case c6 => k_is)
    (case k6 => k_is)
    (case a7 => k_is)
    (case l7 => k_is)
    (case c7 => k_is)
    (case k7 => k_is)
    (case a8 => k_is)
    (case l8 => k_is)
    (case c8 => k_is)
    (case k8 => k_is)
    (case a9 => k_is)
    (case l9 => k_is)
    (case c9 => k_is)
    (case k9 => k_is)
    (case a10 => k_is)
    (case l10 => k_is)
    (case c10 => k_is)
    (case k10 => k_is)
    (case a11 => k_is)
    (case l11 => k_is)
    (case c11 => k_is)
    (case k11 => k_is)
    (case a12 => k_is)
    (case l12 => k_is)
    (case c12 => k_is)
    (case k12 => k_is)
    (case a13 => k_is)
    (case l13 => k_is)
    (case c13 => k_is)
    (case k13 => k_is)
    (case a14 => k_is)
    (case l14 => k_is)
    (case c14 => k_is)
    (case k14 => k_is)
    (case a15 => k_is)
    (case l15 => k_is)
    (case c15 => k_is)
    (case k15 => k_is)
    (case a16 => k_is)
    (case l16 => k_is)
    (case c16 => k_is)
    (case k16 => k_is)
    (case a17 => k_is)
    (case l17 => k_is)
    (case c17 => k_is)
    (case k17 => k_is)
    (case a18 => k_is)
    (case l18 => k_is)
    (case c18 => k_is)
    (case k18 => k_is)
    (case a19 => k_is)
    (case l19 => k_is)
    (case c19 => k_is)
    (case k19 => k_is)
    (case a20 => k_is)
    (case l20 => k_is)
    (case c20 => k_is)
    (case k20 => k_is)
    (case a21 => k_is)
    (case l21 => k_is)
    (case c21 => k_is)
    (case k21 => k_is)
    (case a22 => k_is)
    (case l22 => k_is)
    (case c22 => k_is)
    (case k22 => k_is)
    (case a23 => k_is)
    (case l23 => k_is)
    (case c23 => k_is)
    (case k23 => k_is)
    (case a24 => k_is)
    (case l24 => k_is)
    (case c24 => k_is)
    (case k24 => k_is)
    (case a25 => k_is)
    (case l25 => k_is)
    (case c25 => k_is)
    (case k25 => k_is)
    (case a26 => k_is)
    (case l26 => k_is)
    (case c26 => k_is)
    (case k26 => k_is)
    (case a27 => k_is)
    (case l27 => k_is)
    (case c27 => k_is)
    (case k27 => k_is)
    (case a28 => k_is)
    (case l28 => k_is)
    (case c28 => k_is)
    (case k28 => k_is)
    (case a29 => k_is)
    (case l29 => k_is)
    (case c29 => k_is)
    (case k29 => k_is)
    (case a30 => k_is)
    (case l30 => k_is)
    (case c30 => k_is)
    (case k30 => k_is)
    (case z_abs => k_is)
    (case z_any => k_is)
    (case z_enumerate => k_is)
    (case z_gcd => k_is)
    (case z_int => k_is)
    (case z_len => k_is)
    (case z_list => k_is)
    (case z_max => k_is)
    (case z_min => k_is)
    (case z_range => k_is)
    (case z_tuple => k_is)
