import PyProof.Rows.All
import Wide.All
import OpenK.AllK
import Wide.FinOn
import HandS.ForMost
import HandS.Walk
import HandS.TupAny
import HandS.TupMul
import HandS.IsInst
import HandS.Gcd
import HandS.Flow
import HandS.TupLe
import HandS.Conv
import HandS.Rev
import HandS.Zip
import HandS.Deep
import KE.LtData
import HandS.SetFor
import HandS.IterVal
import HandS.SortInts
import KE.KTupSum
import KE.KMathGC
import HandS.Style
import PySem.Challenge.RW_farcall_k80_sets_of_times_add_up
set_option Elab.async false
set_option linter.all false
set_option maxRecDepth 100000
set_option maxHeartbeats 4000000
/-! Fc, part A: data, their standing in the heap, the state a body has, readings of functions on data. -/
namespace Fc
open PySem PySem.Spec PyProof.Rows L2

/-! ### data -/
inductive D where
  | non | bl (b : Bool) | int (i : Int) | str (s : Str) | tup (l : List D) | lst (l : List D) | fn (x : Str) | drw

/-- what the drawing list holds -/
structure Dw where
  sc : List Int
  ix : Int
  big : Int
  seed : Int
structure Dw.Ok (w : Dw) : Prop where
  len : w.sc.length ≤ 63
  ix0 : 0 ≤ w.ix
  big : 0 ≤ w.big
  s0 : 0 ≤ w.seed
  s1 : w.seed < 2147483647

abbrev M := StateT Dw Option
abbrev Env := List (Option D)
/-- no value -/
def fail {α : Type} : M α := fun _ => none
def liftO {α : Type} (o : Option α) : M α := fun w => o.map fun a => (a, w)

section
variable {α β : Type}
theorem bind_some {m : M α} {k : α → M β} {w w' : Dw} {b : β} (h : (m >>= k) w = some (b, w')) : ∃ a w1, m w = some (a, w1) ∧ k a w1 = some (b, w') := by
  have h' : (m w).bind (fun p => k p.1 p.2) = some (b, w') := h
  cases hm : m w with
  | none => rw [hm] at h'; cases h'
  | some p =>
    rw [hm] at h'
    exact ⟨p.1, p.2, rfl, h'⟩
theorem pure_some {a b : α} {w w' : Dw} (h : (pure a : M α) w = some (b, w')) : a = b ∧ w = w' := by
  have h' : some (a, w) = some (b, w') := h
  cases h'
  exact ⟨rfl, rfl⟩
theorem liftO_some {o : Option α} {b : α} {w w' : Dw} (h : liftO o w = some (b, w')) : o = some b ∧ w = w' := by
  cases o with
  | none => cases h
  | some a =>
    have h' : some (a, w) = some (b, w') := h
    cases h'
    exact ⟨rfl, rfl⟩
end

/-! ### how data stand in a heap -/
structure Par where
  K : PySem.W.Frag
  mg : Str → Option Value
  dr : Addr
  O : List Nat
  B : Hp
  G0 : Hp

mutual
inductive Rep (p : Par) (G : Hp) : V → D → Prop
  | non : Rep p G .non .non
  | bl (b : Bool) : Rep p G (.bl b) (.bl b)
  | int (i : Int) : Rep p G (.int i) (.int i)
  | str (x : Str) : Rep p G (.str x) (.str x)
  | tup {a : Addr} {vs : List V} {ds : List D} : SqT p.K G a vs → RepAll p G vs ds → Rep p G (.ref a) (.tup ds)
  | lst {a : Addr} {vs : List V} {ds : List D} : G a = some (.lst vs) → RepAll p G vs ds → Rep p G (.ref a) (.lst ds)
  | fn {x : Str} {f : Addr} : p.mg x = some (.ref f) → Rep p G (.ref f) (.fn x)
  | drw : Rep p G (.ref p.dr) .drw
inductive RepAll (p : Par) (G : Hp) : List V → List D → Prop
  | nil : RepAll p G [] []
  | cons {v : V} {vs : List V} {d : D} {ds : List D} : Rep p G v d → RepAll p G vs ds → RepAll p G (v :: vs) (d :: ds)
end

def Sub (G H : Hp) : Prop := ∀ a o, G a = some o → H a = some o
theorem Sub.refl (G : Hp) : Sub G G := fun _ _ h => h
theorem Sub.trans {G H J : Hp} (a : Sub G H) (b : Sub H J) : Sub G J := fun x o h => b x o (a x o h)
theorem sub_t {K : PySem.W.Frag} {H H' : Hp} {a : Addr} {xs : List V} (e : Sub H H') (h : SqT K H a xs) : SqT K H' a xs := by
  rcases h with (h | ⟨o, h⟩) | h
  · exact .inl (.inl (e _ _ h))
  · exact .inl (.inr ⟨o, e _ _ h⟩)
  · exact .inr h
theorem sub_l {K : PySem.W.Frag} {H H' : Hp} {a : Addr} {xs : List V} (e : Sub H H') (h : SqL K H a xs) : SqL K H' a xs := by
  rcases h with (h | ⟨o, h⟩) | h
  · exact .inl (.inl (e _ _ h))
  · exact .inl (.inr ⟨o, e _ _ h⟩)
  · exact .inr h

mutual
theorem Rep.mono {p : Par} {G G' : Hp} (e : Sub G G') : ∀ {v : V} {d : D}, Rep p G v d → Rep p G' v d
  | _, _, .non => .non
  | _, _, .bl b => .bl b
  | _, _, .int i => .int i
  | _, _, .str x => .str x
  | _, _, .tup h r => .tup (sub_t e h) (RepAll.mono e r)
  | _, _, .lst h r => .lst (e _ _ h) (RepAll.mono e r)
  | _, _, .fn h => .fn h
  | _, _, .drw => .drw
theorem RepAll.mono {p : Par} {G G' : Hp} (e : Sub G G') : ∀ {vs : List V} {ds : List D}, RepAll p G vs ds → RepAll p G' vs ds
  | _, _, .nil => .nil
  | _, _, .cons h r => .cons (Rep.mono e h) (RepAll.mono e r)
end
theorem RepAll.length {p : Par} {G : Hp} : ∀ {vs : List V} {ds : List D}, RepAll p G vs ds → vs.length = ds.length
  | _, _, .nil => rfl
  | _, _, .cons _ r => congrArg (· + 1) (RepAll.length r)
theorem RepAll.get {p : Par} {G : Hp} : ∀ {vs : List V} {ds : List D} {i : Nat} {d : D}, RepAll p G vs ds → ds[i]? = some d → ∃ v, vs[i]? = some v ∧ Rep p G v d
  | _, _, _, _, .nil, h => by simp at h
  | _, _, 0, _, .cons r _, h => by simp at h; subst h; exact ⟨_, rfl, r⟩
  | _, _, i + 1, _, .cons _ t, h => by
    obtain ⟨v, h1, h2⟩ := RepAll.get (i := i) t (by simpa using h)
    exact ⟨v, by simpa using h1, h2⟩
theorem RepAll.getV {p : Par} {G : Hp} : ∀ {vs : List V} {ds : List D} {i : Nat} {v : V}, RepAll p G vs ds → vs[i]? = some v → ∃ d, ds[i]? = some d ∧ Rep p G v d
  | _, _, _, _, .nil, h => by simp at h
  | _, _, 0, _, .cons r _, h => by simp at h; subst h; exact ⟨_, rfl, r⟩
  | _, _, i + 1, _, .cons _ t, h => by
    obtain ⟨v, h1, h2⟩ := RepAll.getV (i := i) t (by simpa using h)
    exact ⟨v, by simpa using h1, h2⟩
theorem RepAll.append {p : Par} {G : Hp} : ∀ {vs us : List V} {ds es : List D}, RepAll p G vs ds → RepAll p G us es → RepAll p G (vs ++ us) (ds ++ es)
  | _, _, _, _, .nil, s => s
  | _, _, _, _, .cons r t, s => .cons r (RepAll.append t s)
theorem RepAll.take {p : Par} {G : Hp} : ∀ {vs : List V} {ds : List D} (n : Nat), RepAll p G vs ds → RepAll p G (vs.take n) (ds.take n)
  | _, _, 0, _ => .nil
  | _, _, _ + 1, .nil => .nil
  | _, _, n + 1, .cons r t => .cons r (RepAll.take n t)
theorem RepAll.drop {p : Par} {G : Hp} : ∀ {vs : List V} {ds : List D} (n : Nat), RepAll p G vs ds → RepAll p G (vs.drop n) (ds.drop n)
  | _, _, 0, r => r
  | _, _, _ + 1, .nil => .nil
  | _, _, n + 1, .cons _ t => RepAll.drop n t
theorem RepAll.set {p : Par} {G : Hp} {v : V} {d : D} (r : Rep p G v d) : ∀ {vs : List V} {ds : List D} (i : Nat), RepAll p G vs ds → RepAll p G (vs.set i v) (ds.set i d)
  | _, _, _, .nil => .nil
  | _, _, 0, .cons _ t => .cons r t
  | _, _, i + 1, .cons q t => .cons q (RepAll.set r i t)
theorem RepAll.rep {p : Par} {G : Hp} {vs : List V} {ds : List D} (h : RepAll p G vs ds) : ∀ k : Nat, RepAll p G (List.replicate k vs).flatten (List.replicate k ds).flatten
  | 0 => .nil
  | k + 1 => by
    rw [List.replicate_succ, List.flatten_cons, List.replicate_succ, List.flatten_cons]
    exact h.append (RepAll.rep h k)

/-- may be read now: data that stands still, or a list that is still changed -/
inductive RepX (p : Par) (G H : Hp) : V → D → Prop
  | rep {v : V} {d : D} : Rep p G v d → RepX p G H v d
  | own {a : Addr} {vs : List V} {ds : List D} : a ≠ p.dr → p.B a = none → H a = some (.lst vs) → RepAll p G vs ds → RepX p G H (.ref a) (.lst ds)
def RepA (p : Par) (al : Bool) (G H : Hp) (v : V) (d : D) : Prop := if al = true then RepX p G H v d else Rep p G v d
theorem RepA.x {p : Par} {al : Bool} {G H : Hp} {v : V} {d : D} (h : RepA p al G H v d) : RepX p G H v d := by
  cases al with
  | true => exact h
  | false => exact .rep h

/-- the heap behind an expression: nothing lost but the drawing list's state -/
structure Grow (p : Par) (G H G' H' : Hp) : Prop where
  g : Sub G G'
  h : ∀ a o, a ≠ p.dr → H a = some o → H' a = some o
  hd : ∀ o, H p.dr = some o → ∃ o', H' p.dr = some o'
  k : ∀ a o, H a = some o → G a = none → G' a = none
theorem Grow.refl (p : Par) (G H : Hp) : Grow p G H G H := ⟨Sub.refl G, fun _ _ _ h => h, fun o h => ⟨o, h⟩, fun _ _ _ h => h⟩
theorem Grow.trans {p : Par} {G H G1 H1 G2 H2 : Hp} (a : Grow p G H G1 H1) (b : Grow p G1 H1 G2 H2) : Grow p G H G2 H2 :=
  ⟨a.g.trans b.g, fun x o n h => b.h x o n (a.h x o n h), fun o h => let ⟨o1, h1⟩ := a.hd o h; b.hd o1 h1, fun x o h n => by
    by_cases q : x = p.dr
    · rw [q] at h n ⊢
      obtain ⟨o1, h1⟩ := a.hd o h
      exact b.k _ o1 h1 (a.k _ o h n)
    · exact b.k x o (a.h x o q h) (a.k x o h n)⟩
theorem RepX.grow {p : Par} {G H G' H' : Hp} {v : V} {d : D} (r : RepX p G H v d) (g : Grow p G H G' H') : RepX p G' H' v d := by
  cases r with
  | rep r => exact .rep (r.mono g.g)
  | own n b h r => exact .own n b (g.h _ _ n h) (r.mono g.g)
theorem RepA.grow {p : Par} {al : Bool} {G H G' H' : Hp} {v : V} {d : D} (r : RepA p al G H v d) (g : Grow p G H G' H') : RepA p al G' H' v d := by
  cases al with
  | true => exact RepX.grow r g
  | false => exact Rep.mono g.g r
/-- the heap behind an operation: only new objects -/
structure Gr (G H G' H' : Hp) : Prop where
  g : Sub G G'
  h : Sub H H'
  s : Sub G' H'
  k : ∀ a o, H a = some o → G a = none → G' a = none
theorem Gr.refl {G H : Hp} (s : Sub G H) : Gr G H G H := ⟨Sub.refl G, Sub.refl H, s, fun _ _ _ h => h⟩
theorem Gr.trans {G H G1 H1 G2 H2 : Hp} (a : Gr G H G1 H1) (b : Gr G1 H1 G2 H2) : Gr G H G2 H2 :=
  ⟨a.g.trans b.g, a.h.trans b.h, b.s, fun x o h n => b.k x o (a.h x o h) (a.k x o h n)⟩
theorem sub_none {G H : Hp} (s : Sub G H) {a : Addr} (h : H a = none) : G a = none := by
  cases q : G a with
  | none => rfl
  | some o => rw [s a o q] at h; cases h
theorem Gr.new {G H : Hp} (s : Sub G H) {a : Addr} {o : HO} (h : H a = none) : Gr G H (upd G a o) (upd H a o) where
  g := fun b u e => by rw [upd_ne (ne_of_none e (sub_none s h))]; exact e
  h := fun b u e => by rw [upd_ne (ne_of_none e h)]; exact e
  s := fun b u e => by
    by_cases hb : b = a
    · subst hb; rw [upd_same] at e ⊢; exact e
    · rw [upd_ne hb] at e ⊢; exact s b u e
  k := fun b u e n => by rw [upd_ne (ne_of_none e h)]; exact n
/-- new, and not told to stand still -/
theorem Gr.laid {G H : Hp} (s : Sub G H) {a : Addr} {o : HO} (h : H a = none) : Gr G H G (upd H a o) where
  g := Sub.refl G
  h := fun b u e => by rw [upd_ne (ne_of_none e h)]; exact e
  s := fun b u e => by rw [upd_ne (ne_of_none (s b u e) h)]; exact s b u e
  k := fun b u e n => n
theorem Gr.grow {p : Par} {G H G' H' : Hp} (g : Gr G H G' H') : Grow p G H G' H' := ⟨g.g, fun a o _ h => g.h a o h, fun o h => ⟨o, g.h _ o h⟩, g.k⟩

mutual
theorem Rep.to {p q : Par} (hK : p.K = q.K) (hm : p.mg = q.mg) (hd : p.dr = q.dr) {G : Hp} : ∀ {v : V} {d : D}, Rep p G v d → Rep q G v d
  | _, _, .non => .non
  | _, _, .bl b => .bl b
  | _, _, .int i => .int i
  | _, _, .str x => .str x
  | _, _, .tup h r => .tup (hK ▸ h) (RepAll.to hK hm hd r)
  | _, _, .lst h r => .lst h (RepAll.to hK hm hd r)
  | _, _, .fn h => .fn (hm ▸ h)
  | _, _, .drw => by
    rw [hd]
    exact .drw
theorem RepAll.to {p q : Par} (hK : p.K = q.K) (hm : p.mg = q.mg) (hd : p.dr = q.dr) {G : Hp} : ∀ {vs : List V} {ds : List D}, RepAll p G vs ds → RepAll q G vs ds
  | _, _, .nil => .nil
  | _, _, .cons h r => .cons (Rep.to hK hm hd h) (RepAll.to hK hm hd r)
end

/-! ### the state of a body -/
structure DrawAt (p : Par) (w : Dw) (G H : Hp) : Prop where
  ok : w.Ok
  at_ : ∃ sc, H p.dr = some (.lst [.ref sc, .int w.ix, .int w.big, .int w.seed]) ∧ SqL p.K G sc (w.sc.map V.int)
  out : G p.dr = none
structure SR (p : Par) (δ : Env) (σ : L2.St) (G H : Hp) (w : Dw) : Prop where
  sub : Sub G H
  g0 : Sub p.G0 G
  bas : ∀ a o, a ≠ p.dr → p.B a = some o → H a = some o
  bd : ∃ o, p.B p.dr = some o
  len : δ.length = σ.length
  vals : ∀ (i : Nat) (d : D), δ[i]? = some (some d) → i ∉ p.O → ∃ v, σ[i]? = some (some v) ∧ Rep p G v d
  owns : ∀ (i : Nat) (d : D), δ[i]? = some (some d) → i ∈ p.O → ∃ a vs ds, d = .lst ds ∧ σ[i]? = some (some (.ref a)) ∧ H a = some (.lst vs) ∧ G a = none ∧ p.B a = none ∧ RepAll p G vs ds
  inj : ∀ (i j : Nat) (d e : D) (a : Addr), i ∈ p.O → j ∈ p.O → δ[i]? = some (some d) → δ[j]? = some (some e) → σ[i]? = some (some (.ref a)) → σ[j]? = some (some (.ref a)) → i = j
  draw : DrawAt p w G H
  kp : ∀ a o, p.B a = some o → p.G0 a = none → G a = none
section
variable {p : Par} {δ : Env} {σ : L2.St} {G H G' H' : Hp} {w : Dw}
theorem SR.drS (S : SR p δ σ G H w) : ∃ o, H p.dr = some o := let ⟨_, h, _⟩ := S.draw.at_; ⟨_, h⟩
/-- behind whatever leaves what stood there as it was but the drawing list -/
theorem SR.step {w' : Dw} (S : SR p δ σ G H w) (g : Grow p G H G' H') (s : Sub G' H') (d : DrawAt p w' G' H') : SR p δ σ G' H' w' where
  sub := s
  g0 := S.g0.trans g.g
  bas := fun a o n h => g.h a o n (S.bas a o n h)
  bd := S.bd
  len := S.len
  vals := fun i d h n => let ⟨v, e, r⟩ := S.vals i d h n; ⟨v, e, r.mono g.g⟩
  owns := fun i d h n => by
    obtain ⟨a, vs, ds, e, e1, e2, e3, e4, r⟩ := S.owns i d h n
    refine ⟨a, vs, ds, e, e1, g.h _ _ (fun q => ?_) e2, g.k _ _ e2 e3, e4, r.mono g.g⟩
    obtain ⟨o, z⟩ := S.bd
    rw [← q, e4] at z
    cases z
  inj := S.inj
  draw := d
  kp := fun a o e n => by
    by_cases q : a = p.dr
    · rw [q]; exact d.out
    · exact g.k a o (S.bas a o q e) (S.kp a o e n)
theorem SR.gr (S : SR p δ σ G H w) (g : Gr G H G' H') : SR p δ σ G' H' w := by
  refine S.step g.grow g.s ?_
  obtain ⟨ok, ⟨sc, h1, h2⟩, h3⟩ := S.draw
  exact ⟨ok, ⟨sc, g.h _ _ h1, sub_l g.g h2⟩, g.k _ _ h1 h3⟩
theorem SR.grow {S : SR p δ σ G H w} (g : Gr G H G' H') : Grow p G H G' H' := g.grow
theorem own_ne (S : SR p δ σ G H w) {a : Addr} (h : p.B a = none) : a ≠ p.dr := fun e => by
  obtain ⟨o, q⟩ := S.bd
  rw [← e, h] at q
  cases q
/-- a name's data may be read -/
theorem SR.read (S : SR p δ σ G H w) {i : Nat} {d : D} (h : δ[i]? = some (some d)) : ∃ v, σ[i]? = some (some v) ∧ RepX p G H v d := by
  by_cases hi : i ∈ p.O
  · obtain ⟨a, vs, ds, e, e1, e2, e3, e4, r⟩ := S.owns i d h hi
    subst e
    exact ⟨_, e1, .own (own_ne S e4) e4 e2 r⟩
  · obtain ⟨v, e, r⟩ := S.vals i d h hi
    exact ⟨v, e, .rep r⟩
end

/-! ### readings of functions on data -/
/-- what is wanted of an expression's value -/
def Kont (p : Par) (δ : Env) (σ : L2.St) (G H : Hp) (w' : Dw) (al : Bool) (d : D) (Q : VK) : Prop :=
  ∀ v G' H', Grow p G H G' H' → SR p δ σ G' H' w' → RepA p al G' H' v d → Q v H'
def tOf (K : PySem.W.Frag) (mg : Str → Option Value) (O : List Nat) (al : Bool) (f : Env → M D) : TE := fun σ H Q =>
  ∃ (dr : Addr) (B G0 : Hp) (δ : Env) (G : Hp) (w : Dw) (d : D) (w' : Dw), SR ⟨K, mg, dr, O, B, G0⟩ δ σ G H w ∧ f δ w = some (d, w') ∧ Kont ⟨K, mg, dr, O, B, G0⟩ δ σ G H w' al d Q
def ttOf (K : PySem.W.Frag) (mg : Str → Option Value) (O : List Nat) (f : Env → M Bool) : TT := fun σ H Q =>
  ∃ (dr : Addr) (B G0 : Hp) (δ : Env) (G : Hp) (w : Dw) (d : Bool) (w' : Dw), SR ⟨K, mg, dr, O, B, G0⟩ δ σ G H w ∧ f δ w = some (d, w') ∧
    ∀ G' H', Grow ⟨K, mg, dr, O, B, G0⟩ G H G' H' → SR ⟨K, mg, dr, O, B, G0⟩ δ σ G' H' w' → Q d H'
inductive RepAs (p : Par) (al : Bool) (G H : Hp) : List V → List D → Prop
  | nil : RepAs p al G H [] []
  | cons {v : V} {vs : List V} {d : D} {ds : List D} : RepA p al G H v d → RepAs p al G H vs ds → RepAs p al G H (v :: vs) (d :: ds)
theorem RepAs.grow {p : Par} {al : Bool} {G H G' H' : Hp} (g : Grow p G H G' H') : ∀ {vs : List V} {ds : List D}, RepAs p al G H vs ds → RepAs p al G' H' vs ds
  | _, _, .nil => .nil
  | _, _, .cons r t => .cons (r.grow g) (t.grow g)
theorem RepAs.all {p : Par} {G H : Hp} : ∀ {vs : List V} {ds : List D}, RepAs p false G H vs ds → RepAll p G vs ds
  | _, _, .nil => .nil
  | _, _, .cons r t => .cons r t.all
theorem RepAs.length {p : Par} {al : Bool} {G H : Hp} : ∀ {vs : List V} {ds : List D}, RepAs p al G H vs ds → vs.length = ds.length
  | _, _, .nil => rfl
  | _, _, .cons _ r => congrArg (· + 1) r.length
def taOf (K : PySem.W.Frag) (mg : Str → Option Value) (O : List Nat) (al : Bool) (f : Env → M (List D)) : TA := fun σ H Q =>
  ∃ (dr : Addr) (B G0 : Hp) (δ : Env) (G : Hp) (w : Dw) (d : List D) (w' : Dw), SR ⟨K, mg, dr, O, B, G0⟩ δ σ G H w ∧ f δ w = some (d, w') ∧
    ∀ vs G' H', Grow ⟨K, mg, dr, O, B, G0⟩ G H G' H' → SR ⟨K, mg, dr, O, B, G0⟩ δ σ G' H' w' → RepAs ⟨K, mg, dr, O, B, G0⟩ al G' H' vs d → Q vs H'
/-- a list that is new: nobody holds it -/
def tfOf (K : PySem.W.Frag) (mg : Str → Option Value) (O : List Nat) (f : Env → M D) : TE := fun σ H Q =>
  ∃ (dr : Addr) (B G0 : Hp) (δ : Env) (G : Hp) (w : Dw) (d : D) (w' : Dw), SR ⟨K, mg, dr, O, B, G0⟩ δ σ G H w ∧ f δ w = some (d, w') ∧
    ∀ a vs ds G' H', d = .lst ds → Grow ⟨K, mg, dr, O, B, G0⟩ G H G' H' → SR ⟨K, mg, dr, O, B, G0⟩ δ σ G' H' w' → H a = none → H' a = some (.lst vs) → G' a = none → a ≠ dr → RepAll ⟨K, mg, dr, O, B, G0⟩ G' vs ds → Q (.ref a) H'

/-- an expression computes f -/
def SE (X : Cx) (O : List Nat) (al : Bool) (e : Expr) (f : Env → M D) : Prop := PE X e (tOf X.K X.mg O al f)
def SF (X : Cx) (O : List Nat) (e : Expr) (f : Env → M D) : Prop := PE X e (tfOf X.K X.mg O f)
def ST (X : Cx) (O : List Nat) (e : Expr) (f : Env → M Bool) : Prop := PT X e (ttOf X.K X.mg O f)
def SW (X : Cx) (O : List Nat) (e : Expr) (f : Env → M Bool) : Prop := PW X e (ttOf X.K X.mg O f)
def SA (X : Cx) (O : List Nat) (al : Bool) (es : List Expr) (f : Env → M (List D)) : Prop := PA X es (taOf X.K X.mg O al f)

theorem PE.weak {X : Cx} {e : Expr} {t t' : TE} (h : PE X e t) (k : ∀ σ H Q, t' σ H Q → t σ H Q) : PE X e t' := ⟨fun pins s σ H Q I q => h.run pins s σ H Q I (k σ H Q q)⟩
theorem PT.weak {X : Cx} {e : Expr} {t t' : TT} (h : PT X e t) (k : ∀ σ H Q, t' σ H Q → t σ H Q) : PT X e t' := ⟨fun pins s σ H Q I q => h.run pins s σ H Q I (k σ H Q q)⟩
theorem PW.weak {X : Cx} {e : Expr} {t t' : TT} (h : PW X e t) (k : ∀ σ H Q, t' σ H Q → t σ H Q) : PW X e t' := ⟨fun wh pins s σ H Q I q => h.run wh pins s σ H Q I (k σ H Q q)⟩
theorem PA.weak {X : Cx} {e : List Expr} {t t' : TA} (h : PA X e t) (k : ∀ σ H Q, t' σ H Q → t σ H Q) : PA X e t' := ⟨fun pos pins s σ H Q I q => h.run pos pins s σ H Q I (k σ H Q q)⟩
theorem PS.weak {X : Cx} {e : Stmt} {t t' : TS} (h : PS X e t) (k : ∀ D σ H, t' D σ H → t D σ H) : PS X e t' := ⟨fun pins s σ H D I q => h.run pins s σ H D I (k D σ H q)⟩
theorem PSs.weak {X : Cx} {e : List Stmt} {t t' : TS} (h : PSs X e t) (k : ∀ D σ H, t' D σ H → t D σ H) : PSs X e t' := ⟨fun pins s σ H D I q => h.run pins s σ H D I (k D σ H q)⟩
theorem PI.weak {X : Cx} {tg e : Expr} {t t' : TI} (h : PI X tg e t) (k : ∀ σ H Q, t' σ H Q → t σ H Q) : PI X tg e t' := ⟨fun pins s σ H Q I q => h.run pins s σ H Q I (k σ H Q q)⟩

section
variable {X : Cx} {O : List Nat} {al bl : Bool} {a b c e : Expr} {f g : Env → M D} {pos : Pos}
theorem SE.weak (h : SE X O false e f) : SE X O true e f := PE.weak h fun σ H Q ⟨dr, B, G0, δ, G, w, d, w', S, hf, k⟩ => ⟨dr, B, G0, δ, G, w, d, w', S, hf, fun v G' H' gr S' r => k v G' H' gr S' (.rep r)⟩
theorem SE.any (h : SE X O al e f) : SE X O true e f := by
  cases al with
  | true => exact h
  | false => exact h.weak
/-! names, constants -/
def eVar (i : Nat) : Env → M D := fun δ => match δ[i]? with
  | some (some d) => pure d
  | _ => fail
theorem eVar_some {i : Nat} {δ : Env} {w w' : Dw} {d : D} (h : eVar i δ w = some (d, w')) : δ[i]? = some (some d) ∧ w = w' := by
  have e : eVar i δ = (match δ[i]? with | some (some d) => pure d | _ => fail) := rfl
  rw [e] at h
  cases q : δ[i]? with
  | none => rw [q] at h; cases h
  | some o =>
    cases o with
    | none => rw [q] at h; cases h
    | some d' =>
      rw [q] at h
      obtain ⟨e1, e2⟩ := pure_some h
      subst e1
      exact ⟨rfl, e2⟩
theorem se_var (i : Nat) {x : Str} (hO : i ∉ O := by decide) (hN : X.N[i]? = some x := by rfl) (hv : Vis X.env.scope x := by first | exact Or.inl rfl | exact Or.inr (Or.inl rfl) | exact Or.inr (Or.inr rfl)) (hd : (x == ("__debug__" : Str)) = false := by decide)
    (hcd : (x == ("__classdict__" : Str)) = false := by decide) : SE X O false (.Name x pos) (eVar i) :=
  PE.weak (pe_var hN hv hd hcd) fun σ H Q ⟨dr, B, G0, δ, G, w, d, w', S, hf, k⟩ => by
    obtain ⟨h1, h2⟩ := eVar_some hf
    subst h2
    obtain ⟨v, e, r⟩ := S.vals i d h1 hO
    exact ⟨v, e, k v G H (.refl _ G H) S r⟩
/-- a name of a list that is still changed -/
theorem se_own (i : Nat) {x : Str} (hN : X.N[i]? = some x := by rfl) (hv : Vis X.env.scope x := by first | exact Or.inl rfl | exact Or.inr (Or.inl rfl) | exact Or.inr (Or.inr rfl)) (hd : (x == ("__debug__" : Str)) = false := by decide)
    (hcd : (x == ("__classdict__" : Str)) = false := by decide) : SE X O true (.Name x pos) (eVar i) :=
  PE.weak (pe_var hN hv hd hcd) fun σ H Q ⟨dr, B, G0, δ, G, w, d, w', S, hf, k⟩ => by
    obtain ⟨h1, h2⟩ := eVar_some hf
    subst h2
    obtain ⟨v, e, r⟩ := S.read h1
    exact ⟨v, e, k v G H (.refl _ G H) S r⟩
def eC (d : D) : Env → M D := fun _ => pure d
theorem se_c {v : V} {d : D} (h : PE X e (tC v)) (hr : ∀ p G, Rep p G v d) : SE X O false e (eC d) :=
  PE.weak h fun σ H Q ⟨dr, B, G0, δ, G, w, d', w', S, hf, k⟩ => by
    obtain ⟨h1, h2⟩ := pure_some hf
    subst h1; subst h2
    exact k v G H (.refl _ G H) S (hr _ _)
theorem se_int {i j} : SE X O false (.Constant (.int i) j pos) (eC (.int i)) := se_c pe_int fun _ _ => .int i
theorem se_bl {i j} : SE X O false (.Constant (.bool i) j pos) (eC (.bl i)) := se_c pe_bl fun _ _ => .bl i
theorem se_non {j} : SE X O false (.Constant .none j pos) (eC .non) := se_c pe_non fun _ _ => .non
theorem se_str {x j} : SE X O false (.Constant (.str x) j pos) (eC (.str x)) := se_c pe_str fun _ _ => .str x

/-! two operands -/
def eBin (op : D → D → Option D) (f g : Env → M D) : Env → M D := fun δ => do
  let x ← f δ
  let y ← g δ
  liftO (op x y)
theorem eBin_some {op : D → D → Option D} {δ : Env} {w w' : Dw} {d : D} (h : eBin op f g δ w = some (d, w')) : ∃ x w1 y, f δ w = some (x, w1) ∧ g δ w1 = some (y, w') ∧ op x y = some d := by
  obtain ⟨x, w1, h1, h⟩ := bind_some h
  obtain ⟨y, w2, h2, h⟩ := bind_some h
  obtain ⟨h3, e⟩ := liftO_some h
  subst e
  exact ⟨x, w1, y, h1, h2, h3⟩
/-- what an operation on values must do -/
def OpS (K : PySem.W.Frag) (mg : Str → Option Value) (r : R2) (op : D → D → Option D) : Prop :=
  ∀ (p : Par) (G H : Hp) (v u : V) (x y d : D) (Q : VK), p.K = K → p.mg = mg → Sub G H → RepX p G H v x → RepX p G H u y → op x y = some d → (∀ z G' H', Gr G H G' H' → Rep p G' z d → Q z H') → r v u H Q
theorem tOf_bin {K : PySem.W.Frag} {mg : Str → Option Value} {r : R2} {op : D → D → Option D} (hs : OpS K mg r op) {σ : L2.St} {H : Hp} {Q : VK} (h : tOf K mg O false (eBin op f g) σ H Q) : tOp r (tOf K mg O al f) (tOf K mg O bl g) σ H Q := by
  obtain ⟨dr, B, G0, δ, G, w, d, w', S, hf, k⟩ := h
  obtain ⟨x, w1, y, h1, h2, h3⟩ := eBin_some hf
  refine ⟨dr, B, G0, δ, G, w, x, w1, S, h1, fun v G1 H1 g1 S1 r1 => ?_⟩
  refine ⟨dr, B, G0, δ, G1, w1, y, w', S1, h2, fun u G2 H2 g2 S2 r2 => ?_⟩
  exact hs _ G2 H2 v u x y d Q rfl rfl S2.sub (r1.grow g2).x r2.x h3 fun z G' H' gr rz => k z G' H' ((g1.trans g2).trans gr.grow) (S2.gr gr) rz
theorem se_bin {o : Operator} {r : R2} {op : D → D → Option D} (ho : OpR X (binaryOp o) r) (hs : OpS X.K X.mg r op) (ha : SE X O al a f) (hb : SE X O bl b g) : SE X O false (.BinOp a o b pos) (eBin op f g) :=
  PE.weak (pe_op ho ha hb) fun _ _ _ h => tOf_bin hs h
theorem se_cmp {o : CmpOp} {r : R2} {op : D → D → Option D} (ho : OpR X (compareOp o) r) (hs : OpS X.K X.mg r op) (ha : SE X O al a f) (hb : SE X O bl b g) (hm : behindInMarks o b = false := by first | exact nomark _ | rfl) : SE X O false (.Compare a [o] [b] pos) (eBin op f g) :=
  PE.weak (pe_cmpR ho ha hb hm) fun _ _ _ h => tOf_bin hs h
/-- as a test -/
def asB : D → Option Bool
  | .bl b => some b
  | _ => none
def tB (f : Env → M D) : Env → M Bool := fun δ => do
  let x ← f δ
  liftO (asB x)
theorem tB_some {δ : Env} {w w' : Dw} {b : Bool} (h : tB f δ w = some (b, w')) : f δ w = some (.bl b, w') := by
  obtain ⟨x, w1, h1, h⟩ := bind_some h
  obtain ⟨h3, e⟩ := liftO_some h
  subst e
  cases x <;> cases h3
  exact h1
theorem ttOf_B {K : PySem.W.Frag} {mg : Str → Option Value} {σ : L2.St} {H : Hp} {Q : Bool → Hp → Prop} (h : ttOf K mg O (tB f) σ H Q) : tTest (tOf K mg O false f) σ H Q := by
  obtain ⟨dr, B, G0, δ, G, w, d, w', S, hf, k⟩ := h
  refine ⟨dr, B, G0, δ, G, w, .bl d, w', S, tB_some hf, fun v G1 H1 g1 S1 r1 => ?_⟩
  cases (show Rep _ G1 v (.bl d) from r1)
  exact ⟨d, rfl, k G1 H1 g1 S1⟩
theorem st_cmp {o : CmpOp} {r : R2} {op : D → D → Option D} (ho : OpR X (compareOp o) r) (hs : OpS X.K X.mg r op) (ha : SE X O al a f) (hb : SE X O bl b g) (hm : behindInMarks o b = false := by first | exact nomark _ | rfl) : ST X O (.Compare a [o] [b] pos) (tB (eBin op f g)) :=
  PT.weak (pt_cmpR ho ha hb hm) fun σ H Q h => by
    obtain ⟨dr, B, G0, δ, G, w, d, w', S, hf, k⟩ := ttOf_B h
    exact tOf_bin (O := O) (al := al) (bl := bl) hs ⟨dr, B, G0, δ, G, w, d, w', S, hf, k⟩
/-- any expression that gives True or False -/
theorem st_val (he : SE X O false e f) (hp : ∀ whole, isTrue e X.env whole = (do let v ← whole; standAt e.pos; holding [v] (truthy v)) := by intro _; rfl) : ST X O e (tB f) :=
  PT.weak (pt_val he hp) fun σ H Q h => by
    obtain ⟨dr, B, G0, δ, G, w, d, w', S, hf, k⟩ := h
    refine ⟨dr, B, G0, δ, G, w, .bl d, w', S, tB_some hf, fun v G1 H1 g1 S1 r1 => ?_⟩
    cases (show Rep _ G1 v (.bl d) from r1)
    exact ⟨d, rfl, k G1 H1 g1 S1⟩
end
end Fc

/-! Fc, part B: operations on data. -/
namespace Fc
open PySem PySem.Spec PyProof.Rows L2

/-! ### tuple * int, any number of times -/
theorem tuple_mulSame (l : Addr) (items : Array Value) (n : Nat) (dd : Option Addr) (sl : Array (Option Value)) (x : Int) (u : Tok) (c0 : (decide (x < -(2 ^ 63)) || decide (x ≥ 2 ^ 63)) = false) (c1 : (items.isEmpty || x == 1) = true) :
    Meets (Builtin.«tuple.__mul__» ⟨[.ref l, .int x u], []⟩) (fun _ R s => s.heap.get? l = some { cls := .type "tuple", dict := dd, data := .seq items n, slots := sl } ∧ R (.ok (.ret (Value.ref l))) s) :=
  .of_wp fun prog w A R s h => by
    obtain ⟨hp, g, d, tk, os⟩ := s
    obtain ⟨hl, h⟩ := h
    have f1 := AutoSeq1.idx_int
    wp_walk using wpAny_loadPart' hl
    repeat (first
      | (refine wpAny_ite_false (decide_eq_false (by rw [c0]; exact Bool.false_ne_true)) ?_; wp_walk using wpAny_loadPart' hl)
      | (refine wpAny_ite_true (decide_eq_true c1) ?_; wp_walk using wpAny_loadPart' hl))
    exact ⟨_, rfl, h⟩
theorem tuple_mulNone (l : Addr) (items : Array Value) (n : Nat) (dd : Option Addr) (sl : Array (Option Value)) (x : Int) (u : Tok) (c0 : (decide (x < -(2 ^ 63)) || decide (x ≥ 2 ^ 63)) = false) (c1 : (items.isEmpty || x == 1) = false) (c2 : (decide (x ≤ 0) || items.isEmpty) = true) :
    Meets (Builtin.«tuple.__mul__» ⟨[.ref l, .int x u], []⟩) (fun _ R s => s.heap.get? l = some { cls := .type "tuple", dict := dd, data := .seq items n, slots := sl } ∧
      R (.ok (.ret (Value.ref s.heap.objs.size))) { s with heap := s.heap.push { cls := Value.type "tuple", data := Data.seq #[] }, toks := s.toks }) :=
  .of_wp fun prog w A R s h => by
    obtain ⟨hp, g, d, tk, os⟩ := s
    obtain ⟨hl, h⟩ := h
    have f1 := AutoSeq1.idx_int
    wp_walk using wpAny_loadPart' hl
    repeat (first
      | (refine wpAny_ite_false (decide_eq_false (by rw [c0]; exact Bool.false_ne_true)) ?_; wp_walk using wpAny_loadPart' hl)
      | (refine wpAny_ite_false (decide_eq_false (by rw [c1]; exact Bool.false_ne_true)) ?_; wp_walk using wpAny_loadPart' hl)
      | (refine wpAny_ite_true (decide_eq_true c2) ?_; wp_walk using wpAny_loadPart' hl))
    exact ⟨_, rfl, h⟩
def rRepA (K : PySem.W.Frag) : R2 := fun x y H Q => ∃ l k xs, x = .ref l ∧ y = .int k ∧ SqT K H l xs ∧ -1000 ≤ k ∧ k ≤ 1000 ∧ xs.length ≤ 1000 ∧ (xs = [] ∨ k = 1 → Q (.ref l) H) ∧
  (¬ (xs = [] ∨ k = 1) → ∀ p, H p = none → Q (.ref p) (upd H p (.tup (List.replicate k.toNat xs).flatten)))
section
variable {X : Cx}
theorem op_repA : OpR X (binaryOp .Mult) (rRepA X.K) := by
  intro pins s σ H x y v u Q I rx ry h
  obtain ⟨l, k, xs, rfl, rfl, hT, h1, h2, hz, q1, q2⟩ := h
  by_cases hk : xs ≠ [] ∧ 2 ≤ k
  · exact op_repT pins s σ H _ _ v u Q I rx ry ⟨l, k, xs, rfl, rfl, hT, hk.1, hk.2, h2, hz, q2 (fun e => by
      rcases e with e | e
      · exact hk.1 e
      · omega)⟩
  cases rx
  obtain ⟨t, rfl⟩ := ry
  obtain ⟨its, r, ⟨⟨cls, dd, data, sl⟩, ho, hc, n, hd⟩, hs⟩ := I.tuple hT
  simp only at hc hd
  subst hc hd
  have hle : its.length = xs.length := r.length.symm
  have c0 : (decide (k < -(2 ^ 63)) || decide (k ≥ 2 ^ 63)) = false := by
    rw [decide_eq_false (by omega), decide_eq_false (by omega)] <;> rfl
  by_cases hs1 : xs = [] ∨ k = 1
  · have c1 : (its.toArray.isEmpty || k == 1) = true := by
      rcases hs1 with e | e
      · subst e
        cases r
        rfl
      · subst e
        simp
    refine wpAny_binaryOp_repeat_ref (T := "tuple") (U := "int") (by decide) ⟨_, ho, rfl⟩ (fun s' => typeIs_int s' k t) noFill_tuple_mul F.fills_int_mul F.slot_int_rmul repeat_tuple F.slot_int_index.lookup
      (call_meets F.slot_int_rmul (typeIs_int s k t) F.entry_int_rmul (F.args_int_rmul_2 _ _) (int_rmul_tuple k t l its.toArray n dd sl)
        ⟨ho, rfl, ⟨_, ho, rfl⟩, call_meets F.slot_tuple_mul ⟨_, ho, rfl⟩ F.entry_tuple_mul (F.args_tuple_mul_2 _ _) (tuple_mulSame l its.toArray n dd sl k t c0 c1) ⟨ho, ?_⟩⟩)
    exact ⟨.ref l, H, I, rfl, q1 hs1⟩
  · have hn : its ≠ [] := fun e => hs1 (Or.inl (by
      rw [e] at hle
      exact List.eq_nil_of_length_eq_zero hle.symm))
    have hi : its.toArray.isEmpty = false := by
      cases its with
      | nil => exact absurd rfl hn
      | cons a b => rfl
    have hk0 : k ≤ 0 := by
      by_cases h0 : k ≤ 0
      · exact h0
      · refine absurd ⟨fun e => hs1 (.inl e), ?_⟩ hk
        have : k ≠ 1 := fun e => hs1 (.inr e)
        omega
    have c1 : (its.toArray.isEmpty || k == 1) = false := by
      rw [hi, Bool.false_or]
      exact beq_eq_false_iff_ne.mpr (by omega)
    have c2 : (decide (k ≤ 0) || its.toArray.isEmpty) = true := by
      rw [decide_eq_true hk0]
      rfl
    refine wpAny_binaryOp_repeat_ref (T := "tuple") (U := "int") (by decide) ⟨_, ho, rfl⟩ (fun s' => typeIs_int s' k t) noFill_tuple_mul F.fills_int_mul F.slot_int_rmul repeat_tuple F.slot_int_index.lookup
      (call_meets F.slot_int_rmul (typeIs_int s k t) F.entry_int_rmul (F.args_int_rmul_2 _ _) (int_rmul_tuple k t l its.toArray n dd sl)
        ⟨ho, rfl, ⟨_, ho, rfl⟩, call_meets F.slot_tuple_mul ⟨_, ho, rfl⟩ F.entry_tuple_mul (F.args_tuple_mul_2 _ _) (tuple_mulNone l its.toArray n dd sl k t c0 c1 c2) ⟨ho, ?_⟩⟩)
    have e0 : (List.replicate k.toNat xs).flatten = [] := by
      have : k.toNat = 0 := by omega
      rw [this]
      rfl
    have q := q2 hs1
    rw [e0] at q
    refine ⟨.ref s.heap.objs.size, _, I.laid (t' := s.toks) (o := .tup []) (fun b ob q => Heap.get?_push_of_some _ q) (Nat.le_refl _) ?_, rfl, q _ (I.hok.fresh (Nat.le_refl _))⟩
    exact ⟨Nat.zero_le _, [], .nil, IsTup.new _ _⟩
end

/-! ### what stands as which data -/
section
variable {p : Par} {G H : Hp} {v : V}
theorem RepX.int {i : Int} (r : RepX p G H v (.int i)) : v = .int i := by
  cases r with
  | rep r => cases r; rfl
theorem RepX.bl {i : Bool} (r : RepX p G H v (.bl i)) : v = .bl i := by
  cases r with
  | rep r => cases r; rfl
theorem RepX.non (r : RepX p G H v .non) : v = .non := by
  cases r with
  | rep r => cases r; rfl
theorem RepX.str {i : Str} (r : RepX p G H v (.str i)) : v = .str i := by
  cases r with
  | rep r => cases r; rfl
theorem RepX.tup {ds : List D} (r : RepX p G H v (.tup ds)) (s : Sub G H) : ∃ a vs, v = .ref a ∧ SqT p.K H a vs ∧ RepAll p G vs ds ∧ Rep p G v (.tup ds) := by
  cases r with
  | rep r => cases id r with
    | tup h1 h2 => exact ⟨_, _, rfl, sub_t s h1, h2, r⟩
theorem RepX.lst {ds : List D} (r : RepX p G H v (.lst ds)) (s : Sub G H) : ∃ a vs, v = .ref a ∧ H a = some (.lst vs) ∧ RepAll p G vs ds := by
  cases r with
  | rep r => cases r with
    | lst h1 h2 => exact ⟨_, _, rfl, s _ _ h1, h2⟩
  | own n b h r => exact ⟨_, _, rfl, h, r⟩
theorem RepX.tupR {ds : List D} (r : RepX p G H v (.tup ds)) : Rep p G v (.tup ds) := by
  cases r with
  | rep r => exact r
theorem RepAll.ints : ∀ {vs : List V} {ns : List Int}, RepAll p G vs (ns.map D.int) → vs = ns.map V.int
  | _, [], .nil => rfl
  | _, _ :: _, .cons r t => by
    cases r
    rw [RepAll.ints t]
    rfl
theorem RepAll.bls : ∀ {vs : List V} {ns : List Bool}, RepAll p G vs (ns.map D.bl) → vs = ns.map V.bl
  | _, [], .nil => rfl
  | _, _ :: _, .cons r t => by
    cases r
    rw [RepAll.bls t]
    rfl
/-- a new tuple -/
theorem Rep.newT {vs : List V} {ds : List D} (s : Sub G H) {a : Addr} (h : H a = none) (r : RepAll p G vs ds) : Gr G H (upd G a (.tup vs)) (upd H a (.tup vs)) ∧ Rep p (upd G a (.tup vs)) (.ref a) (.tup ds) :=
  ⟨Gr.new s h, .tup (SqT.of upd_same) (r.mono (Gr.new s h).g)⟩
theorem Rep.newL {vs : List V} {ds : List D} (s : Sub G H) {a : Addr} (h : H a = none) (r : RepAll p G vs ds) : Gr G H (upd G a (.lst vs)) (upd H a (.lst vs)) ∧ Rep p (upd G a (.lst vs)) (.ref a) (.lst ds) :=
  ⟨Gr.new s h, .lst upd_same (r.mono (Gr.new s h).g)⟩
end

/-! ### arithmetic -/
section
variable {X : Cx}
theorem OpS.or {K : PySem.W.Frag} {mg : Str → Option Value} {r r' : R2} {f : D → D → Option D} (h : ∀ (p : Par) (G H : Hp) (v u : V) (x y d : D) (Q : VK), p.K = K → p.mg = mg → Sub G H → RepX p G H v x → RepX p G H u y → f x y = some d →
    (∀ z G' H', Gr G H G' H' → Rep p G' z d → Q z H') → r v u H Q ∨ r' v u H Q) : OpS K mg (fun x y H Q => r x y H Q ∨ r' x y H Q) f := h
def LIM : Nat := 100000
theorem lim_ok {n : Nat} (h : n ≤ LIM) : n ≤ sizeLine := Nat.le_trans h (by decide)
theorem lim_lt {n : Nat} (h : n < LIM) : n < sizeLine := Nat.lt_of_lt_of_le h (by decide)
def dAdd : D → D → Option D
  | .int i, .int j => some (.int (i + j))
  | .str i, .str j => if i.length + j.length ≤ LIM then some (.str (i ++ j)) else none
  | .tup xs, .tup ys => if xs.length + ys.length ≤ LIM then some (.tup (xs ++ ys)) else none
  | _, _ => none
def rAddA (K : PySem.W.Frag) : R2 := fun x y H Q => (rI0 fun i j => .int (i + j)) x y H Q ∨ (∃ i j, x = .str i ∧ y = .str j ∧ i.length + j.length ≤ sizeLine ∧ Q (.str (i ++ j)) H) ∨ rCatA K x y H Q
theorem op_addA : OpR X (binaryOp .Add) (rAddA X.K) := op_add.or (op_add_str.or op_catA)
theorem os_add {K : PySem.W.Frag} {mg : Str → Option Value} : OpS K mg (rAddA K) dAdd := by
  intro p G H v u x y d Q hK hmg s rx ry hd k
  subst hK
  cases x <;> cases y <;> try (cases hd; done)
  · cases hd
    rw [rx.int, ry.int]
    exact .inl ⟨_, _, rfl, rfl, k _ G H (.refl s) (.int _)⟩
  · rename_i i j
    simp only [dAdd] at hd
    split at hd
    · rename_i hl
      cases hd
      rw [rx.str, ry.str]
      exact .inr (.inl ⟨_, _, rfl, rfl, lim_ok hl, k _ G H (.refl s) (.str _)⟩)
    · cases hd
  · rename_i xs ys
    simp only [dAdd] at hd
    split at hd
    · rename_i hl
      cases hd
      obtain ⟨a, vs, rfl, ha, ra, Ra⟩ := rx.tup s
      obtain ⟨b, us, rfl, hb, rb, Rb⟩ := ry.tup s
      refine .inr (.inr ⟨a, b, vs, us, rfl, rfl, ha, hb, by rw [ra.length, rb.length]; exact lim_ok hl, fun e => ?_, fun _ e => ?_, fun _ _ q hq => ?_⟩)
      · subst e
        cases ra
        exact k _ G H (.refl s) Rb
      · subst e
        cases rb
        rw [List.append_nil] at k
        exact k _ G H (.refl s) Ra
      · obtain ⟨g, r⟩ := Rep.newT s hq (ra.append rb)
        exact k _ _ _ g r
    · cases hd
def dSub : D → D → Option D
  | .int i, .int j => some (.int (i - j))
  | _, _ => none
theorem os_I0 {K : PySem.W.Frag} {mg : Str → Option Value} {g : Int → Int → V} {h : Int → Int → D} {op : D → D → Option D} (ho : ∀ x y d, op x y = some d → ∃ i j, x = .int i ∧ y = .int j ∧ d = h i j)
    (hr : ∀ (p : Par) G i j, Rep p G (g i j) (h i j)) : OpS K mg (rI0 g) op := by
  intro p G H v u x y d Q hK hmg s rx ry hd k
  obtain ⟨i, j, rfl, rfl, rfl⟩ := ho x y d hd
  rw [rx.int, ry.int]
  exact ⟨_, _, rfl, rfl, k _ G H (.refl s) (hr p G i j)⟩
theorem os_I {K : PySem.W.Frag} {mg : Str → Option Value} {C : Int → Int → Prop} {g : Int → Int → V} {h : Int → Int → D} {op : D → D → Option D} (ho : ∀ x y d, op x y = some d → ∃ i j, x = .int i ∧ y = .int j ∧ C i j ∧ d = h i j)
    (hr : ∀ (p : Par) G i j, Rep p G (g i j) (h i j)) : OpS K mg (rI C g) op := by
  intro p G H v u x y d Q hK hmg s rx ry hd k
  obtain ⟨i, j, rfl, rfl, hc, rfl⟩ := ho x y d hd
  rw [rx.int, ry.int]
  exact ⟨_, _, rfl, rfl, hc, k _ G H (.refl s) (hr p G i j)⟩
theorem os_sub {K : PySem.W.Frag} {mg : Str → Option Value} : OpS K mg (rI0 fun i j => .int (i - j)) dSub :=
  os_I0 (h := fun i j => .int (i - j)) (fun x y d e => by cases x <;> cases y <;> cases e; exact ⟨_, _, rfl, rfl, rfl⟩) fun _ _ _ _ => .int _
/-- * of numbers (one below 2^64), of a tuple and a number -/
def small64 (i j : Int) : Bool := (decide (-(2 ^ 64) < i) && decide (i < 2 ^ 64)) || (decide (-(2 ^ 64) < j) && decide (j < 2 ^ 64))
def dMul : D → D → Option D
  | .int i, .int j => if small64 i j = true then some (.int (i * j)) else none
  | .tup xs, .int k => if -1000 ≤ k ∧ k ≤ 1000 ∧ xs.length ≤ 1000 then some (.tup (List.replicate k.toNat xs).flatten) else none
  | _, _ => none
theorem op_mulA : OpR X (binaryOp .Mult) (fun x y H Q => (rI CMul fun i j => .int (i * j)) x y H Q ∨ rRepA X.K x y H Q) := op_mul.or op_repA
theorem os_mul {K : PySem.W.Frag} {mg : Str → Option Value} : OpS K mg (fun x y H Q => (rI CMul fun i j => .int (i * j)) x y H Q ∨ rRepA K x y H Q) dMul := by
  intro p G H v u x y d Q hK hmg s rx ry hd k
  subst hK
  cases x <;> cases y <;> try (cases hd; done)
  · rename_i i j
    simp only [dMul] at hd
    split at hd
    · rename_i hc
      cases hd
      rw [rx.int, ry.int]
      refine .inl ⟨_, _, rfl, rfl, ?_, k _ G H (.refl s) (.int _)⟩
      unfold small64 at hc
      simpa [CMul] using hc
    · cases hd
  · rename_i xs n
    simp only [dMul] at hd
    split at hd
    · rename_i hc
      cases hd
      obtain ⟨a, vs, rfl, ha, ra, Ra⟩ := rx.tup s
      rw [ry.int]
      have el := ra.length
      refine .inr ⟨a, n, vs, rfl, rfl, ha, hc.1, hc.2.1, by omega, fun e => ?_, fun _ q hq => ?_⟩
      · refine k _ G H (.refl s) ?_
        rcases e with e | e
        · subst e
          cases ra
          have : (List.replicate n.toNat ([] : List D)).flatten = [] := by simp
          rw [this]
          exact Ra
        · subst e
          have : (List.replicate (1 : Int).toNat xs).flatten = xs := by simp
          rw [this]
          exact Ra
      · obtain ⟨g, r⟩ := Rep.newT s hq (ra.rep n.toNat)
        exact k _ _ _ g r
    · cases hd
/-- // and %, the divisor not 0 and below 2^30 -/
def dDiv : D → D → Option D
  | .int i, .int j => if j ≠ 0 ∧ j.natAbs < 1073741824 then some (.int (i.fdiv j)) else none
  | _, _ => none
def dMod : D → D → Option D
  | .int i, .int j => if j ≠ 0 then some (.int (i.fmod j)) else none
  | _, _ => none
theorem os_div {K : PySem.W.Frag} {mg : Str → Option Value} : OpS K mg (rI CDivN fun i j => .int (i.fdiv j)) dDiv :=
  os_I (h := fun i j => .int (i.fdiv j)) (fun x y d e => by
    cases x <;> cases y <;> try (cases e; done)
    simp only [dDiv] at e
    split at e
    · rename_i hc
      cases e
      exact ⟨_, _, rfl, rfl, hc, rfl⟩
    · cases e) fun _ _ _ _ => .int _
theorem os_mod {K : PySem.W.Frag} {mg : Str → Option Value} : OpS K mg (rI (fun _ j => j ≠ 0) fun i j => .int (i.fmod j)) dMod :=
  os_I (h := fun i j => .int (i.fmod j)) (fun x y d e => by
    cases x <;> cases y <;> try (cases e; done)
    simp only [dMod] at e
    split at e
    · rename_i hc
      cases e
      exact ⟨_, _, rfl, rfl, hc, rfl⟩
    · cases e) fun _ _ _ _ => .int _
/-! ### order of numbers -/
def dLt : D → D → Option D
  | .int i, .int j => some (.bl (decide (i < j)))
  | _, _ => none
def dLe : D → D → Option D
  | .int i, .int j => some (.bl (decide (i ≤ j)))
  | _, _ => none
def dGt : D → D → Option D
  | .int i, .int j => some (.bl (decide (j < i)))
  | _, _ => none
def dGe : D → D → Option D
  | .int i, .int j => some (.bl (decide (j ≤ i)))
  | _, _ => none
theorem os_lt {K : PySem.W.Frag} {mg : Str → Option Value} : OpS K mg (rI0 fun i j => .bl (decide (i < j))) dLt :=
  os_I0 (h := fun i j => .bl (decide (i < j))) (fun x y d e => by cases x <;> cases y <;> cases e; exact ⟨_, _, rfl, rfl, rfl⟩) fun _ _ _ _ => .bl _
theorem os_le {K : PySem.W.Frag} {mg : Str → Option Value} : OpS K mg (rI0 fun i j => .bl (decide (i ≤ j))) dLe :=
  os_I0 (h := fun i j => .bl (decide (i ≤ j))) (fun x y d e => by cases x <;> cases y <;> cases e; exact ⟨_, _, rfl, rfl, rfl⟩) fun _ _ _ _ => .bl _
theorem os_gt {K : PySem.W.Frag} {mg : Str → Option Value} : OpS K mg (rI0 fun i j => .bl (decide (j < i))) dGt :=
  os_I0 (h := fun i j => .bl (decide (j < i))) (fun x y d e => by cases x <;> cases y <;> cases e; exact ⟨_, _, rfl, rfl, rfl⟩) fun _ _ _ _ => .bl _
theorem os_ge {K : PySem.W.Frag} {mg : Str → Option Value} : OpS K mg (rI0 fun i j => .bl (decide (j ≤ i))) dGe :=
  os_I0 (h := fun i j => .bl (decide (j ≤ i))) (fun x y d e => by cases x <;> cases y <;> cases e; exact ⟨_, _, rfl, rfl, rfl⟩) fun _ _ _ _ => .bl _

/-! ### equality -/
mutual
def D.pd : D → PyData
  | .non => .none
  | .bl b => .bool b
  | .int i => .int i
  | .str x => .str x
  | .tup l => .tuple (D.pds l)
  | .lst l => .list (D.pds l)
  | .fn _ => .none
  | .drw => .none
def D.pds : List D → List PyData
  | [] => []
  | x :: l => D.pd x :: D.pds l
end
mutual
def D.dat : D → Bool
  | .tup l => D.dats l
  | .lst l => D.dats l
  | .fn _ => false
  | .drw => false
  | _ => true
def D.dats : List D → Bool
  | [] => true
  | x :: l => D.dat x && D.dats l
end
mutual
theorem Rep.dp {p : Par} {G : Hp} : ∀ {v : V} {d : D}, Rep p G v d → d.dat = true → Dp p.K G v d.pd
  | _, _, .non, _ => .non
  | _, _, .bl b, _ => .bl b
  | _, _, .int i, _ => .int i
  | _, _, .str x, _ => .str x
  | _, _, .tup h r, e => .tup h (RepAll.dp r e)
  | _, _, .lst h r, e => .lst (.inl (.inl h)) (RepAll.dp r e)
  | _, _, .fn _, e => nomatch e
  | _, _, .drw, e => nomatch e
theorem RepAll.dp {p : Par} {G : Hp} : ∀ {vs : List V} {ds : List D}, RepAll p G vs ds → D.dats ds = true → DpAll p.K G vs (D.pds ds)
  | _, _, .nil, _ => .nil
  | _, _, .cons h r, e => by
    have e' := Bool.and_eq_true_iff.mp e
    exact .cons (Rep.dp h e'.1) (RepAll.dp r e'.2)
end
mutual
theorem Dp.sub {K : PySem.W.Frag} {G H : Hp} (s : Sub G H) : ∀ {v : V} {d : PyData}, Dp K G v d → Dp K H v d
  | _, _, .non => .non
  | _, _, .bl b => .bl b
  | _, _, .int i => .int i
  | _, _, .str x => .str x
  | _, _, .lst h r => .lst (sub_l s h) (DpAll.sub s r)
  | _, _, .tup h r => .tup (sub_t s h) (DpAll.sub s r)
theorem DpAll.sub {K : PySem.W.Frag} {G H : Hp} (s : Sub G H) : ∀ {vs : List V} {ds : List PyData}, DpAll K G vs ds → DpAll K H vs ds
  | _, _, .nil => .nil
  | _, _, .cons h r => .cons (Dp.sub s h) (DpAll.sub s r)
end
theorem RepX.dp {p : Par} {G H : Hp} {v : V} {d : D} (r : RepX p G H v d) (s : Sub G H) (e : d.dat = true) : Dp p.K H v d.pd := by
  cases r with
  | rep r => exact Dp.sub s (r.dp e)
  | own n b h r => exact .lst (.inl (.inl h)) (DpAll.sub s (r.dp e))
def D.sh (d : D) : Bool := d.dat && SeqAt.shaped d.pd
def D.eqv (x y : D) : Bool := PyData.eqv x.pd y.pd
def dEq (x y : D) : Option D := if x.sh = true ∧ y.sh = true then some (.bl (x.eqv y)) else none
def dNe (x y : D) : Option D := if x.sh = true ∧ y.sh = true then some (.bl (!x.eqv y)) else none
theorem os_eq {K : PySem.W.Frag} {mg : Str → Option Value} : OpS K mg (rEqD K) dEq := by
  intro p G H v u x y d Q hK hmg s rx ry hd k
  subst hK
  simp only [dEq] at hd
  split at hd
  · rename_i hc
    cases hd
    obtain ⟨h1, h2⟩ := Bool.and_eq_true_iff.mp hc.1
    obtain ⟨h3, h4⟩ := Bool.and_eq_true_iff.mp hc.2
    exact ⟨x.pd, y.pd, rx.dp s h1, ry.dp s h3, h2, h4, k _ G H (.refl s) (.bl _)⟩
  · cases hd
theorem os_ne {K : PySem.W.Frag} {mg : Str → Option Value} : OpS K mg (rNeD K) dNe := by
  intro p G H v u x y d Q hK hmg s rx ry hd k
  subst hK
  simp only [dNe] at hd
  split at hd
  · rename_i hc
    cases hd
    obtain ⟨h1, h2⟩ := Bool.and_eq_true_iff.mp hc.1
    obtain ⟨h3, h4⟩ := Bool.and_eq_true_iff.mp hc.2
    exact ⟨x.pd, y.pd, rx.dp s h1, ry.dp s h3, h2, h4, k _ G H (.refl s) (.bl _)⟩
  · cases hd
/-! ### is -/
def D.isNon : D → Bool
  | .non => true
  | _ => false
def dIs : D → D → Option D
  | x, .non => some (.bl x.isNon)
  | .bl a, .bl b => some (.bl (decide (a = b)))
  | _, _ => none
def dIsNot : D → D → Option D
  | x, .non => some (.bl (!x.isNon))
  | .bl a, .bl b => some (.bl (!decide (a = b)))
  | _, _ => none
theorem RepX.isNon {p : Par} {G H : Hp} {v : V} {d : D} (r : RepX p G H v d) : decide (v = .non) = d.isNon := by
  cases r with
  | rep r => cases r <;> rfl
  | own => rfl
theorem op_isA : OpR X (compareOp .Is) (fun x y H Q => (y = .non ∧ Q (.bl (decide (x = .non))) H) ∨ (∃ a b, x = .bl a ∧ y = .bl b ∧ Q (.bl (decide (a = b))) H)) := op_isN.or op_is_bl
theorem op_isNotA : OpR X (compareOp .IsNot) (fun x y H Q => (y = .non ∧ Q (.bl (!decide (x = .non))) H) ∨ (∃ a b, x = .bl a ∧ y = .bl b ∧ Q (.bl (!decide (a = b))) H)) := op_notN.or op_isnot_bl
theorem os_is {K : PySem.W.Frag} {mg : Str → Option Value} : OpS K mg (fun x y H Q => (y = .non ∧ Q (.bl (decide (x = .non))) H) ∨ (∃ a b, x = .bl a ∧ y = .bl b ∧ Q (.bl (decide (a = b))) H)) dIs := by
  intro p G H v u x y d Q hK hmg s rx ry hd k
  by_cases hy : y = .non
  · subst hy
    have e : some (D.bl x.isNon) = some d := by rw [← hd]; cases x <;> rfl
    cases e
    refine .inl ⟨ry.non, ?_⟩
    rw [rx.isNon]
    exact k _ G H (.refl s) (.bl _)
  · cases y <;> try (cases x <;> cases hd; done)
    · exact absurd rfl hy
    · rename_i b
      cases x <;> try (cases hd; done)
      rename_i a
      cases hd
      exact .inr ⟨a, b, rx.bl, ry.bl, k _ G H (.refl s) (.bl _)⟩
theorem os_isNot {K : PySem.W.Frag} {mg : Str → Option Value} : OpS K mg (fun x y H Q => (y = .non ∧ Q (.bl (!decide (x = .non))) H) ∨ (∃ a b, x = .bl a ∧ y = .bl b ∧ Q (.bl (!decide (a = b))) H)) dIsNot := by
  intro p G H v u x y d Q hK hmg s rx ry hd k
  by_cases hy : y = .non
  · subst hy
    have e : some (D.bl (!x.isNon)) = some d := by rw [← hd]; cases x <;> rfl
    cases e
    refine .inl ⟨ry.non, ?_⟩
    rw [rx.isNon]
    exact k _ G H (.refl s) (.bl _)
  · cases y <;> try (cases x <;> cases hd; done)
    · exact absurd rfl hy
    · rename_i b
      cases x <;> try (cases hd; done)
      rename_i a
      cases hd
      exact .inr ⟨a, b, rx.bl, ry.bl, k _ G H (.refl s) (.bl _)⟩
end
end Fc

/-! Fc, part C: expressions. -/
namespace Fc
open PySem PySem.Spec PyProof.Rows L2

section
variable {X : Cx} {O : List Nat} {al bl cl : Bool} {a b c e : Expr} {es : List Expr} {f g h : Env → M D} {fs : Env → M (List D)} {pos : Pos}

/-! ### the operators by name -/
theorem se_add (ha : SE X O al a f) (hb : SE X O bl b g) : SE X O false (.BinOp a .Add b pos) (eBin dAdd f g) := se_bin op_addA os_add ha hb
theorem se_sub (ha : SE X O al a f) (hb : SE X O bl b g) : SE X O false (.BinOp a .Sub b pos) (eBin dSub f g) := se_bin op_sub os_sub ha hb
theorem se_mul (ha : SE X O al a f) (hb : SE X O bl b g) : SE X O false (.BinOp a .Mult b pos) (eBin dMul f g) := se_bin op_mulA os_mul ha hb
theorem se_div (ha : SE X O al a f) (hb : SE X O bl b g) : SE X O false (.BinOp a .FloorDiv b pos) (eBin dDiv f g) := se_bin op_fdivN os_div ha hb
theorem se_mod (ha : SE X O al a f) (hb : SE X O bl b g) : SE X O false (.BinOp a .Mod b pos) (eBin dMod f g) := se_bin op_modN os_mod ha hb
theorem se_lt (ha : SE X O al a f) (hb : SE X O bl b g) : SE X O false (.Compare a [.Lt] [b] pos) (eBin dLt f g) := se_cmp op_lt os_lt ha hb
theorem se_le (ha : SE X O al a f) (hb : SE X O bl b g) : SE X O false (.Compare a [.LtE] [b] pos) (eBin dLe f g) := se_cmp op_le os_le ha hb
theorem se_gt (ha : SE X O al a f) (hb : SE X O bl b g) : SE X O false (.Compare a [.Gt] [b] pos) (eBin dGt f g) := se_cmp op_gt os_gt ha hb
theorem se_ge (ha : SE X O al a f) (hb : SE X O bl b g) : SE X O false (.Compare a [.GtE] [b] pos) (eBin dGe f g) := se_cmp op_ge os_ge ha hb
theorem se_eq (hu : X.A.units + 64 < cLine) (ha : SE X O al a f) (hb : SE X O bl b g) : SE X O false (.Compare a [.Eq] [b] pos) (eBin dEq f g) := se_cmp (op_eqD hu) os_eq ha hb
theorem se_ne (hu : X.A.units + 64 < cLine) (ha : SE X O al a f) (hb : SE X O bl b g) : SE X O false (.Compare a [.NotEq] [b] pos) (eBin dNe f g) := se_cmp (op_neD hu) os_ne ha hb
theorem se_is (ha : SE X O al a f) (hb : SE X O bl b g) : SE X O false (.Compare a [.Is] [b] pos) (eBin dIs f g) := se_cmp op_isA os_is ha hb
theorem se_isNot (ha : SE X O al a f) (hb : SE X O bl b g) : SE X O false (.Compare a [.IsNot] [b] pos) (eBin dIsNot f g) := se_cmp op_isNotA os_isNot ha hb
theorem st_lt (ha : SE X O al a f) (hb : SE X O bl b g) : ST X O (.Compare a [.Lt] [b] pos) (tB (eBin dLt f g)) := st_cmp op_lt os_lt ha hb
theorem st_le (ha : SE X O al a f) (hb : SE X O bl b g) : ST X O (.Compare a [.LtE] [b] pos) (tB (eBin dLe f g)) := st_cmp op_le os_le ha hb
theorem st_gt (ha : SE X O al a f) (hb : SE X O bl b g) : ST X O (.Compare a [.Gt] [b] pos) (tB (eBin dGt f g)) := st_cmp op_gt os_gt ha hb
theorem st_ge (ha : SE X O al a f) (hb : SE X O bl b g) : ST X O (.Compare a [.GtE] [b] pos) (tB (eBin dGe f g)) := st_cmp op_ge os_ge ha hb
theorem st_eq (hu : X.A.units + 64 < cLine) (ha : SE X O al a f) (hb : SE X O bl b g) : ST X O (.Compare a [.Eq] [b] pos) (tB (eBin dEq f g)) := st_cmp (op_eqD hu) os_eq ha hb
theorem st_ne (hu : X.A.units + 64 < cLine) (ha : SE X O al a f) (hb : SE X O bl b g) : ST X O (.Compare a [.NotEq] [b] pos) (tB (eBin dNe f g)) := st_cmp (op_neD hu) os_ne ha hb
theorem st_is (ha : SE X O al a f) (hb : SE X O bl b g) : ST X O (.Compare a [.Is] [b] pos) (tB (eBin dIs f g)) := st_cmp op_isA os_is ha hb
theorem st_isNot (ha : SE X O al a f) (hb : SE X O bl b g) : ST X O (.Compare a [.IsNot] [b] pos) (tB (eBin dIsNot f g)) := st_cmp op_isNotA os_isNot ha hb

/-! ### two comparisons in a row -/
def asBl : D → Option Bool := asB
def eChain (o1 o2 : D → D → Option D) (f g h : Env → M D) : Env → M D := fun δ => do
  let x ← f δ
  let y ← g δ
  let z ← liftO (o1 x y)
  let k ← liftO (asB z)
  if k = true then do
    let u ← h δ
    liftO (o2 y u)
  else pure (.bl false)
theorem tOf_chain {r1 r2 : R2} {o1 o2 : D → D → Option D} {K : PySem.W.Frag} {mg : Str → Option Value} (h1 : OpS K mg r1 o1) (h2 : OpS K mg r2 o2) {σ : L2.St} {H : Hp} {Q : VK} (q : tOf K mg O false (eChain o1 o2 f g h) σ H Q) :
    tChain r1 r2 (tOf K mg O al f) (tOf K mg O bl g) (tOf K mg O cl h) σ H Q := by
  obtain ⟨dr, B, G0, δ, G, w, d, w', S, hf, k⟩ := q
  obtain ⟨x, w1, e1, hf⟩ := bind_some hf
  obtain ⟨y, w2, e2, hf⟩ := bind_some hf
  obtain ⟨z, w3, e3, hf⟩ := bind_some hf
  obtain ⟨b, w4, e4, hf5⟩ := bind_some hf
  obtain ⟨h3, rfl⟩ := liftO_some e3
  obtain ⟨h4, rfl⟩ := liftO_some e4
  refine ⟨dr, B, G0, δ, G, w, x, w1, S, e1, fun v G1 H1 g1 S1 r1 => ⟨dr, B, G0, δ, G1, w1, y, _, S1, e2, fun u G2 H2 g2 S2 r2 => ?_⟩⟩
  refine h1 _ G2 H2 v u x y z _ rfl rfl S2.sub (r1.grow g2).x r2.x h3 fun zv G3 H3 gr rz => ?_
  cases z <;> try (cases h4; done)
  cases h4
  cases rz
  refine ⟨b, rfl, ?_⟩
  have S3 := S2.gr gr
  cases b with
  | false =>
    rw [if_neg Bool.false_ne_true] at hf5 ⊢
    obtain ⟨rfl, rfl⟩ := pure_some hf5
    exact k _ G3 H3 ((g1.trans g2).trans gr.grow) S3 (.bl false)
  | true =>
    rw [if_pos rfl] at hf5 ⊢
    obtain ⟨u', w5, e5, hf6⟩ := bind_some hf5
    obtain ⟨e6, rfl⟩ := liftO_some hf6
    refine ⟨dr, B, G0, δ, G3, _, u', _, S3, e5, fun u2 G4 H4 g4 S4 r4 => ?_⟩
    exact h2 _ G4 H4 u u2 y u' d Q rfl rfl S4.sub ((r2.grow gr.grow).grow g4).x r4.x e6 fun zv G5 H5 gr5 rz5 => k zv G5 H5 ((((g1.trans g2).trans gr.grow).trans g4).trans gr5.grow) (S4.gr gr5) rz5
theorem se_chain {p p' : CmpOp} {r1 r2 : R2} {o1 o2 : D → D → Option D} (c1 : OpR X (compareOp p) r1) (c2 : OpR X (compareOp p') r2) (h1 : OpS X.K X.mg r1 o1) (h2 : OpS X.K X.mg r2 o2) (ha : SE X O al a f) (hb : SE X O bl b g) (hc : SE X O cl c h)
    (hm : lastMarks [p, p'] [b, c] = false := by with_unfolding_all rfl) : SE X O false (.Compare a [p, p'] [b, c] pos) (eChain o1 o2 f g h) :=
  PE.weak (pe_chain c1 c2 ha hb hc hm) fun _ _ _ q => tOf_chain h1 h2 q
theorem st_chain {p p' : CmpOp} {r1 r2 : R2} {o1 o2 : D → D → Option D} (c1 : OpR X (compareOp p) r1) (c2 : OpR X (compareOp p') r2) (h1 : OpS X.K X.mg r1 o1) (h2 : OpS X.K X.mg r2 o2) (ha : SE X O al a f) (hb : SE X O bl b g) (hc : SE X O cl c h)
    (hm : lastMarks [p, p'] [b, c] = false := by with_unfolding_all rfl) : ST X O (.Compare a [p, p'] [b, c] pos) (tB (eChain o1 o2 f g h)) :=
  PT.weak (pt_chain c1 c2 ha hb hc hm) fun σ H Q q => by
    obtain ⟨dr, B, G0, δ, G, w, d, w', S, hf, k⟩ := ttOf_B q
    exact tOf_chain (al := al) (bl := bl) (cl := cl) h1 h2 ⟨dr, B, G0, δ, G, w, d, w', S, hf, k⟩

/-! ### - -/
def eUn (op : D → Option D) (f : Env → M D) : Env → M D := fun δ => do
  let x ← f δ
  liftO (op x)
theorem eUn_some {op : D → Option D} {δ : Env} {w w' : Dw} {d : D} (q : eUn op f δ w = some (d, w')) : ∃ x, f δ w = some (x, w') ∧ op x = some d := by
  obtain ⟨x, w1, h1, q⟩ := bind_some q
  obtain ⟨h3, e⟩ := liftO_some q
  subst e
  exact ⟨x, h1, h3⟩
def dNeg : D → Option D
  | .int i => some (.int (-i))
  | _ => none
theorem se_neg (ha : SE X O al a f) : SE X O false (.UnaryOp .USub a pos) (eUn dNeg f) :=
  PE.weak (pe_un un_neg ha) fun σ H Q ⟨dr, B, G0, δ, G, w, d, w', S, hf, k⟩ => by
    obtain ⟨x, h1, h2⟩ := eUn_some hf
    refine ⟨dr, B, G0, δ, G, w, x, w', S, h1, fun v G1 H1 g1 S1 r1 => ?_⟩
    cases x <;> try (cases h2; done)
    cases h2
    rw [r1.x.int]
    exact ⟨_, rfl, k _ G1 H1 g1 S1 (.int _)⟩

/-! ### truth: and, or, not -/
def tAndF (s t : Env → M Bool) : Env → M Bool := fun δ => do
  let x ← s δ
  if x = true then t δ else pure false
def tOrF (s t : Env → M Bool) : Env → M Bool := fun δ => do
  let x ← s δ
  if x = true then pure true else t δ
def tNotF (s : Env → M Bool) : Env → M Bool := fun δ => do
  let x ← s δ
  pure (!x)
variable {s t : Env → M Bool} {rest : List Expr}
theorem sw_and1 (ha : ST X O a s) : SW X O (.BoolOp .And [a] pos) s := pw_and1 ha
theorem sw_or1 (ha : ST X O a s) : SW X O (.BoolOp .Or [a] pos) s := pw_or1 ha
theorem sw_and (ha : ST X O a s) (hb : SW X O (.BoolOp .And (b :: rest) pos) t) : SW X O (.BoolOp .And (a :: b :: rest) pos) (tAndF s t) :=
  PW.weak (pw_and ha hb) fun σ H Q ⟨dr, B, G0, δ, G, w, d, w', S, hf, k⟩ => by
    obtain ⟨x, w1, h1, hf⟩ := bind_some hf
    refine ⟨dr, B, G0, δ, G, w, x, w1, S, h1, fun G1 H1 g1 S1 => ?_⟩
    cases x with
    | true =>
      rw [if_pos rfl] at hf ⊢
      exact ⟨dr, B, G0, δ, G1, w1, d, w', S1, hf, fun G2 H2 g2 S2 => k G2 H2 (g1.trans g2) S2⟩
    | false =>
      rw [if_neg Bool.false_ne_true] at hf ⊢
      obtain ⟨rfl, rfl⟩ := pure_some hf
      exact k G1 H1 g1 S1
theorem sw_or (ha : ST X O a s) (hb : SW X O (.BoolOp .Or (b :: rest) pos) t) : SW X O (.BoolOp .Or (a :: b :: rest) pos) (tOrF s t) :=
  PW.weak (pw_or ha hb) fun σ H Q ⟨dr, B, G0, δ, G, w, d, w', S, hf, k⟩ => by
    obtain ⟨x, w1, h1, hf⟩ := bind_some hf
    refine ⟨dr, B, G0, δ, G, w, x, w1, S, h1, fun G1 H1 g1 S1 => ?_⟩
    cases x with
    | false =>
      rw [if_neg Bool.false_ne_true] at hf ⊢
      exact ⟨dr, B, G0, δ, G1, w1, d, w', S1, hf, fun G2 H2 g2 S2 => k G2 H2 (g1.trans g2) S2⟩
    | true =>
      rw [if_pos rfl] at hf ⊢
      obtain ⟨rfl, rfl⟩ := pure_some hf
      exact k G1 H1 g1 S1
theorem st_w (h : SW X O a s) : ST X O a s := PW.pt h
theorem st_not (ha : ST X O a s) : ST X O (.UnaryOp .Not a pos) (tNotF s) :=
  PT.weak (pt_not ha) fun σ H Q ⟨dr, B, G0, δ, G, w, d, w', S, hf, k⟩ => by
    obtain ⟨x, w1, h1, hf⟩ := bind_some hf
    obtain ⟨e, rfl⟩ := pure_some hf
    subst e
    exact ⟨dr, B, G0, δ, G, w, x, w1, S, h1, k⟩
/-- .. as values: all of them True or False -/
def eAndV (f g : Env → M D) : Env → M D := fun δ => do
  let x ← f δ
  let k ← liftO (asB x)
  if k = true then g δ else pure (.bl false)
def eOrV (f g : Env → M D) : Env → M D := fun δ => do
  let x ← f δ
  let k ← liftO (asB x)
  if k = true then pure (.bl true) else g δ
def dNot : D → Option D
  | .bl b => some (.bl (!b))
  | _ => none
theorem se_one {op} (ha : SE X O al a f) : SE X O al (.BoolOp op [a] pos) f := pe_one ha
theorem se_and (ha : SE X O false a f) (hb : SE X O al (.BoolOp .And (b :: rest) pos) g) : SE X O al (.BoolOp .And (a :: b :: rest) pos) (eAndV f g) :=
  PE.weak (pe_and ha hb) fun σ H Q ⟨dr, B, G0, δ, G, w, d, w', S, hf, k⟩ => by
    obtain ⟨x, w1, h1, hf⟩ := bind_some hf
    obtain ⟨b, w2, h20, hf2⟩ := bind_some hf
    obtain ⟨h2, rfl⟩ := liftO_some h20
    refine ⟨dr, B, G0, δ, G, w, x, w1, S, h1, fun v G1 H1 g1 S1 r1 => ?_⟩
    cases x <;> try (cases h2; done)
    cases h2
    cases (show Rep _ G1 v (.bl b) from r1)
    refine ⟨b, rfl, ?_⟩
    cases b with
    | true =>
      rw [if_pos rfl] at hf2 ⊢
      exact ⟨dr, B, G0, δ, G1, w1, d, w', S1, hf2, fun v2 G2 H2 g2 S2 r2 => k v2 G2 H2 (g1.trans g2) S2 r2⟩
    | false =>
      rw [if_neg Bool.false_ne_true] at hf2 ⊢
      obtain ⟨rfl, rfl⟩ := pure_some hf2
      refine k _ G1 H1 g1 S1 ?_
      cases al with
      | true => exact RepX.rep (.bl false)
      | false => exact Rep.bl false
theorem se_or (ha : SE X O false a f) (hb : SE X O al (.BoolOp .Or (b :: rest) pos) g) : SE X O al (.BoolOp .Or (a :: b :: rest) pos) (eOrV f g) :=
  PE.weak (pe_or ha hb) fun σ H Q ⟨dr, B, G0, δ, G, w, d, w', S, hf, k⟩ => by
    obtain ⟨x, w1, h1, hf⟩ := bind_some hf
    obtain ⟨b, w2, h20, hf2⟩ := bind_some hf
    obtain ⟨h2, rfl⟩ := liftO_some h20
    refine ⟨dr, B, G0, δ, G, w, x, w1, S, h1, fun v G1 H1 g1 S1 r1 => ?_⟩
    cases x <;> try (cases h2; done)
    cases h2
    cases (show Rep _ G1 v (.bl b) from r1)
    refine ⟨b, rfl, ?_⟩
    cases b with
    | false =>
      rw [if_neg Bool.false_ne_true] at hf2 ⊢
      exact ⟨dr, B, G0, δ, G1, w1, d, w', S1, hf2, fun v2 G2 H2 g2 S2 r2 => k v2 G2 H2 (g1.trans g2) S2 r2⟩
    | true =>
      rw [if_pos rfl] at hf2 ⊢
      obtain ⟨rfl, rfl⟩ := pure_some hf2
      refine k _ G1 H1 g1 S1 ?_
      cases al with
      | true => exact RepX.rep (.bl true)
      | false => exact Rep.bl true
theorem se_not (ha : SE X O false a f) : SE X O false (.UnaryOp .Not a pos) (eUn dNot f) :=
  PE.weak (pe_not ha) fun σ H Q ⟨dr, B, G0, δ, G, w, d, w', S, hf, k⟩ => by
    obtain ⟨x, h1, h2⟩ := eUn_some hf
    refine ⟨dr, B, G0, δ, G, w, x, w', S, h1, fun v G1 H1 g1 S1 r1 => ?_⟩
    cases x <;> try (cases h2; done)
    cases h2
    cases (show Rep _ G1 v (.bl _) from r1)
    exact ⟨_, rfl, k _ G1 H1 g1 S1 (.bl _)⟩
def eIf (s : Env → M Bool) (f g : Env → M D) : Env → M D := fun δ => do
  let x ← s δ
  if x = true then f δ else g δ
theorem se_if (hc : ST X O c s) (ha : SE X O al a f) (hb : SE X O al b g) : SE X O al (.IfExp c a b pos) (eIf s f g) :=
  PE.weak (pe_ifExp hc ha hb) fun σ H Q ⟨dr, B, G0, δ, G, w, d, w', S, hf, k⟩ => by
    obtain ⟨x, w1, h1, hf⟩ := bind_some hf
    refine ⟨dr, B, G0, δ, G, w, x, w1, S, h1, fun G1 H1 g1 S1 => ?_⟩
    cases x with
    | true =>
      rw [if_pos rfl] at hf ⊢
      exact ⟨dr, B, G0, δ, G1, w1, d, w', S1, hf, fun v2 G2 H2 g2 S2 r2 => k v2 G2 H2 (g1.trans g2) S2 r2⟩
    | false =>
      rw [if_neg Bool.false_ne_true] at hf ⊢
      exact ⟨dr, B, G0, δ, G1, w1, d, w', S1, hf, fun v2 G2 H2 g2 S2 r2 => k v2 G2 H2 (g1.trans g2) S2 r2⟩
/-- the truth of any data -/
def dTru : D → Option Bool
  | .non => some false
  | .bl b => some b
  | .int i => some (i != 0)
  | .str x => if x.length ≤ LIM then some ((x.length : Int) != 0) else none
  | .tup l => some (!l.isEmpty)
  | .lst l => some (!l.isEmpty)
  | _ => none
def tT (f : Env → M D) : Env → M Bool := fun δ => do
  let x ← f δ
  liftO (dTru x)
theorem RepAll.isEmpty {p : Par} {G : Hp} {vs : List V} {ds : List D} (r : RepAll p G vs ds) : vs.isEmpty = ds.isEmpty := by
  cases r <;> rfl
theorem RepX.tru {p : Par} {G H : Hp} {v : V} {d : D} {k : Bool} (r : RepX p G H v d) (s : Sub G H) (h : dTru d = some k) : TruV p.K v H k := by
  cases d <;> try (cases h; done)
  · cases h
    rw [r.non]
    exact rfl
  · cases h
    rw [r.bl]
    exact rfl
  · cases h
    rw [r.int]
    exact rfl
  · rename_i x
    simp only [dTru] at h
    split at h
    · rename_i hl
      cases h
      rw [r.str]
      exact ⟨lim_ok hl, rfl⟩
    · cases h
  · cases h
    obtain ⟨a, vs, rfl, ha, ra, _⟩ := r.tup s
    exact .inr (.inl ⟨vs, ha, by rw [ra.isEmpty]⟩)
  · cases h
    obtain ⟨a, vs, rfl, ha, ra⟩ := r.lst s
    exact .inl ⟨vs, SqL.of ha, by rw [ra.isEmpty]⟩
theorem st_truth (ha : SE X O al a f) (he : ∀ whole, isTrue a X.env whole = (do let v ← whole; standAt a.pos; holding [v] (truthy v)) := by intro _; rfl) : ST X O a (tT f) :=
  PT.weak (pt_truth ha he) fun σ H Q ⟨dr, B, G0, δ, G, w, d, w', S, hf, k⟩ => by
    obtain ⟨x, w1, h1, hf⟩ := bind_some hf
    obtain ⟨h2, rfl⟩ := liftO_some hf
    exact ⟨dr, B, G0, δ, G, w, x, w1, S, h1, fun v G1 H1 g1 S1 r1 => ⟨d, r1.x.tru S1.sub h2, k G1 H1 g1 S1⟩⟩

/-! ### argument lists, tuples, lists -/
def aNil : Env → M (List D) := fun _ => pure []
def aCons (f : Env → M D) (fs : Env → M (List D)) : Env → M (List D) := fun δ => do
  let x ← f δ
  let xs ← fs δ
  pure (x :: xs)
theorem sa_nil : SA X O al [] aNil := PA.weak pa_nil fun σ H Q ⟨dr, B, G0, δ, G, w, d, w', S, hf, k⟩ => by
  obtain ⟨rfl, rfl⟩ := pure_some hf
  exact k [] G H (.refl _ G H) S .nil
theorem sa_cons (ha : SE X O al e f) (hr : SA X O al es fs) (hs : starEach (e :: es) X.env = (false, eval e X.env) :: starEach es X.env := by rfl) : SA X O al (e :: es) (aCons f fs) :=
  PA.weak (pa_cons ha hr hs) fun σ H Q ⟨dr, B, G0, δ, G, w, d, w', S, hf, k⟩ => by
    obtain ⟨x, w1, h1, hf⟩ := bind_some hf
    obtain ⟨xs, w2, h2, hf⟩ := bind_some hf
    obtain ⟨e, rfl⟩ := pure_some hf
    subst e
    refine ⟨dr, B, G0, δ, G, w, x, w1, S, h1, fun v G1 H1 g1 S1 r1 => ⟨dr, B, G0, δ, G1, w1, xs, w2, S1, h2, fun vs G2 H2 g2 S2 r2 => ?_⟩⟩
    exact k (v :: vs) G2 H2 (g1.trans g2) S2 (.cons (r1.grow g2) r2)
theorem sa_consA (ha : SE X O al e f) (hr : SA X O true es fs) (hs : starEach (e :: es) X.env = (false, eval e X.env) :: starEach es X.env := by rfl) : SA X O true (e :: es) (aCons f fs) := sa_cons ha.any hr hs
def eTup (fs : Env → M (List D)) : Env → M D := fun δ => do
  let xs ← fs δ
  if xs.length ≤ LIM then pure (.tup xs) else fail
def eLst (fs : Env → M (List D)) : Env → M D := fun δ => do
  let xs ← fs δ
  if xs.length ≤ LIM then pure (.lst xs) else fail
theorem se_tup {x1} (h : SA X O false es fs) : SE X O false (.Tuple es x1 pos) (eTup fs) :=
  PE.weak (pe_tup h) fun σ H Q ⟨dr, B, G0, δ, G, w, d, w', S, hf, k⟩ => by
    obtain ⟨xs, w1, h1, hf⟩ := bind_some hf
    refine ⟨dr, B, G0, δ, G, w, xs, w1, S, h1, fun vs G1 H1 g1 S1 r1 => ?_⟩
    split at hf
    · rename_i hl
      obtain ⟨rfl, rfl⟩ := pure_some hf
      refine ⟨by rw [r1.length]; exact lim_ok hl, fun p hp => ?_⟩
      obtain ⟨gr, r⟩ := Rep.newT (p := ⟨X.K, X.mg, dr, O, B, G0⟩) S1.sub hp r1.all
      exact k _ _ _ (g1.trans gr.grow) (S1.gr gr) r
    · cases hf
theorem sf_lst (h : SA X O false es fs) : SF X O (.List es pos) (eLst fs) :=
  PE.weak (pe_lst h) fun σ H Q ⟨dr, B, G0, δ, G, w, d, w', S, hf, k⟩ => by
    obtain ⟨xs, w1, h1, hf⟩ := bind_some hf
    refine ⟨dr, B, G0, δ, G, w, xs, w1, S, h1, fun vs G1 H1 g1 S1 r1 => ?_⟩
    split at hf
    · rename_i hl
      obtain ⟨rfl, rfl⟩ := pure_some hf
      refine ⟨by rw [r1.length]; exact lim_ok hl, fun p hp => ?_⟩
      have gr : Gr G1 H1 G1 (upd H1 p (.lst vs)) := Gr.laid S1.sub hp
      have ne : p ≠ dr := fun z => by
        obtain ⟨o, q⟩ := S1.drS
        rw [show (Par.dr ⟨X.K, X.mg, dr, O, B, G0⟩) = p from z.symm] at q
        rw [hp] at q
        cases q
      have hn : H p = none := by
        cases q : H p with
        | none => rfl
        | some o => rw [g1.h p o ne q] at hp; cases hp
      exact k p vs xs G1 _ rfl (g1.trans gr.grow) (S1.gr gr) hn upd_same (sub_none S1.sub hp) ne r1.all
    · cases hf
/-- a new list, from now on as it is -/
theorem se_new (h : SF X O e f) : SE X O false e f :=
  PE.weak h fun σ H Q ⟨dr, B, G0, δ, G, w, d, w', S, hf, k⟩ => by
    refine ⟨dr, B, G0, δ, G, w, d, w', S, hf, fun a vs ds G1 H1 ed g1 S1 h0 h1 h2 hne r => ?_⟩
    subst ed
    have sb : Sub (upd G1 a (.lst vs)) H1 := fun b o q => by
      by_cases hb : b = a
      · subst hb
        rw [upd_same] at q
        cases q
        exact h1
      · rw [upd_ne hb] at q
        exact S1.sub b o q
    have sg : Sub G1 (upd G1 a (.lst vs)) := fun b o q => by
      rw [upd_ne (ne_of_none q h2)]
      exact q
    have hB : B a = none := by
      cases q : B a with
      | none => rfl
      | some o => rw [S.bas a o hne q] at h0; cases h0
    have sk : ∀ b o, H b = some o → G b = none → (upd G1 a (HO.lst vs)) b = none := fun b o q1 q2 => by
      have hb : b ≠ a := fun z => by rw [z, h0] at q1; cases q1
      rw [upd_ne hb]
      exact g1.k b o q1 q2
    refine k _ (upd G1 a (.lst vs)) H1 ⟨g1.g.trans sg, g1.h, g1.hd, sk⟩ ?_ (.lst upd_same (r.mono sg))
    refine ⟨sb, S1.g0.trans sg, S1.bas, S1.bd, S1.len, fun i d' q n => ?_, fun i d' q n => ?_, S1.inj, ?_, fun b o q1 q2 => ?_⟩
    · obtain ⟨v, e1, r1⟩ := S1.vals i d' q n
      exact ⟨v, e1, r1.mono sg⟩
    · obtain ⟨b, us, es, e0, e1, e2, e3, e4, r1⟩ := S1.owns i d' q n
      refine ⟨b, us, es, e0, e1, e2, ?_, e4, r1.mono sg⟩
      have hb : b ≠ a := fun z => by
        -- an own list stood before
        obtain ⟨b', us', es', e0', e1', e2', e3', e4', r1'⟩ := S.owns i d' q n
        rw [e1] at e1'
        cases e1'
        rw [z, h0] at e2'
        cases e2'
      rw [upd_ne hb]
      exact e3
    · obtain ⟨ok, ⟨sc, d1, d2⟩, d3⟩ := S1.draw
      refine ⟨ok, ⟨sc, d1, sub_l sg d2⟩, ?_⟩
      rw [upd_ne (fun z => hne z.symm)]
      exact d3
    · have q1' : B b = some o := q1
      have hb : b ≠ a := fun z => by rw [z, hB] at q1'; cases q1'
      rw [upd_ne hb]
      exact S1.kp b o q1 q2
theorem eLst_lst {δ : Env} {w w' : Dw} {d : D} (h : eLst fs δ w = some (d, w')) : ∃ ds, d = .lst ds := by
  obtain ⟨xs, w1, h1, hf⟩ := bind_some h
  split at hf
  · obtain ⟨rfl, rfl⟩ := pure_some hf
    exact ⟨_, rfl⟩
  · cases hf
theorem se_lst (h : SA X O false es fs) : SE X O false (.List es pos) (eLst fs) := se_new (sf_lst h)

/-! ### built-in functions by values -/
def CallS (K : PySem.W.Frag) (mg : Str → Option Value) (r : List V → Hp → VK → Prop) (op : List D → Option D) : Prop :=
  ∀ (p : Par) (G H : Hp) (vs : List V) (ds : List D) (d : D) (Q : VK), p.K = K → p.mg = mg → Sub G H → RepAs p true G H vs ds → op ds = some d → (∀ z G' H', Gr G H G' H' → Rep p G' z d → Q z H') → r vs H Q
def eCall (op : List D → Option D) (fs : Env → M (List D)) : Env → M D := fun δ => do
  let xs ← fs δ
  liftO (op xs)
theorem tOf_call {K : PySem.W.Frag} {mg : Str → Option Value} {r : List V → Hp → VK → Prop} {op : List D → Option D} (hs : CallS K mg r op) {σ : L2.St} {H : Hp} {Q : VK} (q : tOf K mg O false (eCall op fs) σ H Q) : tCB r (taOf K mg O true fs) σ H Q := by
  obtain ⟨dr, B, G0, δ, G, w, d, w', S, hf, k⟩ := q
  obtain ⟨xs, w1, h1, hf⟩ := bind_some hf
  obtain ⟨h2, rfl⟩ := liftO_some hf
  refine ⟨dr, B, G0, δ, G, w, xs, w1, S, h1, fun vs G1 H1 g1 S1 r1 => ?_⟩
  exact hs _ G1 H1 vs xs d Q rfl rfl S1.sub r1 h2 fun z G' H' gr rz => k z G' H' (g1.trans gr.grow) (S1.gr gr) rz
variable {x : Str} {p : Pos} {r : List V → Hp → VK → Prop} {op : List D → Option D} {id T : String}
theorem se_callB (hc : CallR X (.builtin id) r) (hs : CallS X.K X.mg r op) (hg : Gl X x) (hm : X.mg x = none) (hv : bootBuiltins x = some (.builtin id)) (ha : SA X O true (e :: es) fs) (hn : x ≠ "__name__" := by decide) (hdb : (x == ("__debug__" : Str)) = false := by decide)
    (he : starEach (e :: es) X.env = (false, eval e X.env) :: starEach es X.env := by rfl) (hpl : (backTo pos (starEach es X.env)).any (·.1) = false := by rfl) : SE X O false (.Call (.Name x p) (e :: es) [] pos) (eCall op fs) :=
  PE.weak (pe_callB hc hg hm hv ha hn hdb he hpl) fun _ _ _ q => tOf_call hs q
theorem se_callTy (hc : CallR X (.type T) r) (hs : CallS X.K X.mg r op) (hg : Gl X x) (hm : X.mg x = none) (hv : bootBuiltins x = some (.type T)) (ha : SA X O true (e :: es) fs) (hn : x ≠ "__name__" := by decide) (hdb : (x == ("__debug__" : Str)) = false := by decide)
    (he : starEach (e :: es) X.env = (false, eval e X.env) :: starEach es X.env := by rfl) (hpl : (backTo pos (starEach es X.env)).any (·.1) = false := by rfl) : SE X O false (.Call (.Name x p) (e :: es) [] pos) (eCall op fs) :=
  PE.weak (pe_callTy hc hg hm hv ha hn hdb he hpl) fun _ _ _ q => tOf_call hs q
theorem se_callF (hc : CallR X (.builtin id) r) (hs : CallS X.K X.mg r op) (hg : Gl X x) (hm : X.mg x = some (.builtin id)) (ha : SA X O true (e :: es) fs) (hdb : (x == ("__debug__" : Str)) = false := by decide)
    (he : starEach (e :: es) X.env = (false, eval e X.env) :: starEach es X.env := by rfl) (hpl : (backTo pos (starEach es X.env)).any (·.1) = false := by rfl) : SE X O false (.Call (.Name x p) (e :: es) [] pos) (eCall op fs) :=
  PE.weak (pe_callBfun hc hg hm ha hdb he hpl) fun _ _ _ q => tOf_call hs q
end
end Fc

/-! Fc, part D: places, slices, built-ins, isinstance. -/
namespace Fc
open PySem PySem.Spec PyProof.Rows L2

section
variable {p : Par} {G H : Hp}
theorem RepAll.at {vs : List V} {ds : List D} {i : Int} {d : D} (r : RepAll p G vs ds) (h : atI ds i = some d) : ∃ v, atI vs i = some v ∧ Rep p G v d := by
  unfold atI at h ⊢
  rw [r.length]
  cases q : ixN ds.length i with
  | none => rw [q] at h; cases h
  | some j =>
    rw [q] at h
    exact r.get h
end
section
variable {X : Cx} {O : List Nat} {al bl cl : Bool} {a b c e : Expr} {es : List Expr} {f g h : Env → M D} {fs : Env → M (List D)} {pos : Pos}

def dIx : D → D → Option D
  | .tup l, .int i => atI l i
  | .lst l, .int i => atI l i
  | .str z, .int i => if z.length ≤ LIM then (atI z.cps.toList i).map fun c => .str ⟨#[c]⟩ else none
  | _, _ => none
theorem os_ix {K : PySem.W.Frag} {mg : Str → Option Value} : OpS K mg (rIx K) dIx := by
  intro p G H v u x y d Q hK hmg s rx ry hd k
  subst hK
  cases x <;> cases y <;> try (cases hd; done)
  · rename_i z i
    simp only [dIx] at hd
    split at hd
    · rename_i hl
      cases q : atI z.cps.toList i with
      | none => rw [q] at hd; cases hd
      | some ch =>
        rw [q] at hd
        cases hd
        rw [rx.str, ry.int]
        exact .inr (.inr ⟨z, i, ch, rfl, rfl, lim_ok hl, q, k _ G H (.refl s) (.str _)⟩)
    · cases hd
  · obtain ⟨a, vs, rfl, ha, ra, _⟩ := rx.tup s
    obtain ⟨w, e, rw'⟩ := ra.at hd
    rw [ry.int]
    exact .inr (.inl ⟨a, vs, _, w, rfl, rfl, ha, e, k _ G H (.refl s) rw'⟩)
  · obtain ⟨a, vs, rfl, ha, ra⟩ := rx.lst s
    obtain ⟨w, e, rw'⟩ := ra.at hd
    rw [ry.int]
    exact .inl ⟨a, vs, _, w, rfl, rfl, SqL.of ha, e, k _ G H (.refl s) rw'⟩
theorem se_ix (ha : SE X O al a f) (hb : SE X O bl b g) (hs : PlainIx b := by exact fun _ _ => rfl) : SE X O false (.Subscript a b pos) (eBin dIx f g) :=
  PE.weak (pe_ix ix_seq ha hb hs) fun _ _ _ q => tOf_bin os_ix q

/-! ### slices -/
def toOf (K : PySem.W.Frag) (mg : Str → Option Value) (O : List Nat) (f : Env → M (Option Int)) : TO := fun σ H Q =>
  ∃ (dr : Addr) (B G0 : Hp) (δ : Env) (G : Hp) (w : Dw) (d : Option Int) (w' : Dw), SR ⟨K, mg, dr, O, B, G0⟩ δ σ G H w ∧ f δ w = some (d, w') ∧
    ∀ G' H', Grow ⟨K, mg, dr, O, B, G0⟩ G H G' H' → SR ⟨K, mg, dr, O, B, G0⟩ δ σ G' H' w' → Q d H'
def SO (X : Cx) (O : List Nat) (e : Option Expr) (f : Env → M (Option Int)) : Prop := PO X e (toOf X.K X.mg O f)
theorem PO.weak {X : Cx} {e : Option Expr} {t t' : TO} (h : PO X e t) (k : ∀ σ H Q, t' σ H Q → t σ H Q) : PO X e t' := ⟨fun pins s σ H Q I q => h.run pins s σ H Q I (k σ H Q q)⟩
def oNone : Env → M (Option Int) := fun _ => pure none
def asI : D → Option Int
  | .int i => some i
  | _ => none
def oSome (f : Env → M D) : Env → M (Option Int) := fun δ => do
  let x ← f δ
  let i ← liftO (asI x)
  pure (some i)
theorem so_none : SO X O none oNone := PO.weak po_none fun σ H Q ⟨dr, B, G0, δ, G, w, d, w', S, hf, k⟩ => by
  obtain ⟨rfl, rfl⟩ := pure_some hf
  exact k G H (.refl _ G H) S
theorem so_some (ha : SE X O al a f) : SO X O (some a) (oSome f) := PO.weak (po_some ha) fun σ H Q ⟨dr, B, G0, δ, G, w, d, w', S, hf, k⟩ => by
  obtain ⟨x, w1, h1, hf1⟩ := bind_some hf
  obtain ⟨i, w2, h2, hf2⟩ := bind_some hf1
  obtain ⟨h3, rfl⟩ := liftO_some h2
  obtain ⟨e, rfl⟩ := pure_some hf2
  subst e
  refine ⟨dr, B, G0, δ, G, w, x, _, S, h1, fun v G1 H1 g1 S1 r1 => ?_⟩
  cases x <;> try (cases h3; done)
  cases h3
  exact ⟨i, r1.x.int, k G1 H1 g1 S1⟩
def cutD {α : Type} (xs : List α) (lo hi : Option Int) : List α := (xs.drop (HT.sIx xs.length 0 lo)).take (HT.sIx xs.length xs.length hi - HT.sIx xs.length 0 lo)
theorem RepAll.cut {p : Par} {G : Hp} {vs : List V} {ds : List D} (r : RepAll p G vs ds) (lo hi : Option Int) : RepAll p G (cutV vs lo hi) (cutD ds lo hi) := by
  unfold cutV cutD
  rw [r.length]
  exact (r.drop _).take _
def dSl (lo hi : Option Int) : D → Option D
  | .tup l => some (.tup (cutD l lo hi))
  | .lst l => some (.lst (cutD l lo hi))
  | .str z => if z.length ≤ LIM then some (.str (cutS z lo hi)) else none
  | _ => none
def eSl (f : Env → M D) (lo hi : Env → M (Option Int)) : Env → M D := fun δ => do
  let x ← f δ
  let l ← lo δ
  let u ← hi δ
  liftO (dSl l u x)
theorem cut_whole {α : Type} (xs : List α) (lo hi : Option Int) (h : HT.sIx xs.length 0 lo = 0 ∧ HT.sIx xs.length xs.length hi = xs.length) : cutD xs lo hi = xs := by
  unfold cutD
  rw [h.1, h.2]
  simp
variable {lo hi : Option Expr} {fl fh : Env → M (Option Int)} {p2 : Pos}
theorem se_slice (he : SE X O al e f) (hl : SO X O lo fl) (hh : SO X O hi fh) : SE X O false (.Subscript e (.Slice lo hi none p2) pos) (eSl f fl fh) :=
  PE.weak (pe_slice (sl_tupA.or (sl_list.or sl_str)) he hl hh) fun σ H Q ⟨dr, B, G0, δ, G, w, d, w', S, hf, k⟩ => by
    obtain ⟨x, w1, h1, hf1⟩ := bind_some hf
    obtain ⟨l, w2, h2, hf2⟩ := bind_some hf1
    obtain ⟨u, w3, h3, hf3⟩ := bind_some hf2
    obtain ⟨h4, rfl⟩ := liftO_some hf3
    refine ⟨dr, B, G0, δ, G, w, x, w1, S, h1, fun v G1 H1 g1 S1 r1 => ?_⟩
    refine ⟨dr, B, G0, δ, G1, w1, l, w2, S1, h2, fun G2 H2 g2 S2 => ⟨dr, B, G0, δ, G2, w2, u, _, S2, h3, fun G3 H3 g3 S3 => ?_⟩⟩
    have r3 := ((r1.grow g2).grow g3).x
    have k' : ∀ z G' H', Gr G3 H3 G' H' → Rep _ G' z d → Q z H' := fun z G' H' gr rz => k z G' H' (((g1.trans g2).trans g3).trans gr.grow) (S3.gr gr) rz
    cases x <;> try (cases h4; done)
    · rename_i z
      simp only [dSl] at h4
      split at h4
      · rename_i hl
        cases h4
        rw [r3.str]
        exact .inr (.inr ⟨z, rfl, lim_ok hl, k' _ G3 H3 (.refl S3.sub) (.str _)⟩)
      · cases h4
    · cases h4
      obtain ⟨a, vs, rfl, ha, ra, Ra⟩ := r3.tup S3.sub
      refine .inl ⟨a, vs, rfl, ha, fun hw => ?_, fun hw q hq => ?_⟩
      · rw [ra.length] at hw
        rw [cut_whole _ _ _ hw] at k'
        exact k' _ G3 H3 (.refl S3.sub) Ra
      · obtain ⟨gr, rz⟩ := Rep.newT S3.sub hq (ra.cut l u)
        exact k' _ _ _ gr rz
    · cases h4
      obtain ⟨a, vs, rfl, ha, ra⟩ := r3.lst S3.sub
      refine .inr (.inl ⟨a, vs, rfl, SqL.of ha, fun q hq => ?_⟩)
      obtain ⟨gr, rz⟩ := Rep.newL S3.sub hq (ra.cut l u)
      exact k' _ _ _ gr rz

/-! ### built-ins -/
theorem RepAs.one {p : Par} {al : Bool} {G H : Hp} {vs : List V} {d : D} (r : RepAs p al G H vs [d]) : ∃ v, vs = [v] ∧ RepA p al G H v d := by
  cases r with
  | cons r t => cases t; exact ⟨_, rfl, r⟩
theorem RepAs.two {p : Par} {al : Bool} {G H : Hp} {vs : List V} {d e : D} (r : RepAs p al G H vs [d, e]) : ∃ v u, vs = [v, u] ∧ RepA p al G H v d ∧ RepA p al G H u e := by
  cases r with
  | cons r t => cases t with
    | cons r2 t => cases t; exact ⟨_, _, rfl, r, r2⟩
variable {K : PySem.W.Frag} {mg : Str → Option Value}
def dLen : List D → Option D
  | [.tup l] => some (.int l.length)
  | [.lst l] => some (.int l.length)
  | [.str z] => if z.length ≤ LIM then some (.int z.length) else none
  | _ => none
def rLenA (K : PySem.W.Frag) : List V → Hp → VK → Prop := fun xs H Q => ∃ x n, xs = [x] ∧ LenV K x H n ∧ Q (.int n) H
theorem cs_len : CallS K mg (rLenA K) dLen := by
  intro p G H vs ds d Q hK hmg s r hd k
  subst hK
  match ds, hd, r with
  | [.tup l], hd, r =>
    cases hd
    obtain ⟨v, rfl, rr⟩ := r.one
    obtain ⟨a, us, rfl, ha, ra, _⟩ := rr.x.tup s
    exact ⟨_, l.length, rfl, .inr ⟨us, ha, ra.length.symm⟩, k _ G H (.refl s) (.int _)⟩
  | [.lst l], hd, r =>
    cases hd
    obtain ⟨v, rfl, rr⟩ := r.one
    obtain ⟨a, us, rfl, ha, ra⟩ := rr.x.lst s
    exact ⟨_, l.length, rfl, .inl ⟨us, SqL.of ha, ra.length.symm⟩, k _ G H (.refl s) (.int _)⟩
  | [.str z], hd, r =>
    simp only [dLen] at hd
    split at hd
    · rename_i hl
      cases hd
      obtain ⟨v, rfl, rr⟩ := r.one
      rw [rr.x.str]
      exact ⟨_, z.length, rfl, ⟨lim_ok hl, rfl⟩, k _ G H (.refl s) (.int _)⟩
    · cases hd
def dAbs : List D → Option D
  | [.int i] => some (.int (if i < 0 then -i else i))
  | _ => none
theorem cs_abs : CallS K mg (fun xs H Q => ∃ i, xs = [.int i] ∧ Q (.int (if i < 0 then -i else i)) H) dAbs := by
  intro p G H vs ds d Q hK hmg s r hd k
  match ds, hd, r with
  | [.int i], hd, r =>
    cases hd
    obtain ⟨v, rfl, rr⟩ := r.one
    exact ⟨i, by rw [rr.x.int], k _ G H (.refl s) (.int _)⟩
def dInt : List D → Option D
  | [.int i] => some (.int i)
  | [.bl b] => some (.int (if b then 1 else 0))
  | _ => none
theorem cs_int : CallS K mg (fun xs H Q => (∃ i, xs = [.int i] ∧ Q (.int i) H) ∨ ∃ k, xs = [.bl k] ∧ Q (.int (if k then 1 else 0)) H) dInt := by
  intro p G H vs ds d Q hK hmg s r hd k
  match ds, hd, r with
  | [.int i], hd, r =>
    cases hd
    obtain ⟨v, rfl, rr⟩ := r.one
    exact .inl ⟨i, by rw [rr.x.int], k _ G H (.refl s) (.int _)⟩
  | [.bl i], hd, r =>
    cases hd
    obtain ⟨v, rfl, rr⟩ := r.one
    exact .inr ⟨i, by rw [rr.x.bl], k _ G H (.refl s) (.int _)⟩
def dMax2 : List D → Option D
  | [.int i, .int j] => some (.int (if j > i then j else i))
  | _ => none
def dMin2 : List D → Option D
  | [.int i, .int j] => some (.int (if j < i then j else i))
  | _ => none
theorem cs_max2 : CallS K mg (fun xs H Q => ∃ i j, xs = [.int i, .int j] ∧ Q (.int (if j > i then j else i)) H) dMax2 := by
  intro p G H vs ds d Q hK hmg s r hd k
  match ds, hd, r with
  | [.int i, .int j], hd, r =>
    cases hd
    obtain ⟨v, u, rfl, rr, r2⟩ := r.two
    exact ⟨i, j, by rw [rr.x.int, r2.x.int], k _ G H (.refl s) (.int _)⟩
theorem cs_min2 : CallS K mg (fun xs H Q => ∃ i j, xs = [.int i, .int j] ∧ Q (.int (if j < i then j else i)) H) dMin2 := by
  intro p G H vs ds d Q hK hmg s r hd k
  match ds, hd, r with
  | [.int i, .int j], hd, r =>
    cases hd
    obtain ⟨v, u, rfl, rr, r2⟩ := r.two
    exact ⟨i, j, by rw [rr.x.int, r2.x.int], k _ G H (.refl s) (.int _)⟩
def dGcd : List D → Option D
  | [.int i, .int j] => some (.int (Nat.gcd i.natAbs j.natAbs : Nat))
  | _ => none
theorem cs_gcd : CallS K mg rGcd dGcd := by
  intro p G H vs ds d Q hK hmg s r hd k
  match ds, hd, r with
  | [.int i, .int j], hd, r =>
    cases hd
    obtain ⟨v, u, rfl, rr, r2⟩ := r.two
    exact ⟨i, j, by rw [rr.x.int, r2.x.int], k _ G H (.refl s) (.int _)⟩
def asBs : List D → Option (List Bool)
  | [] => some []
  | .bl b :: l => (asBs l).map (b :: ·)
  | _ => none
theorem asBs_some : ∀ {l : List D} {bs : List Bool}, asBs l = some bs → l = bs.map D.bl
  | [], _, h => by cases h; rfl
  | .bl b :: l, bs, h => by
    cases q : asBs l with
    | none => simp [asBs, q] at h
    | some cs =>
      have h' : some (b :: cs) = some bs := by rw [← h]; simp [asBs, q]
      cases h'
      rw [asBs_some q]
      rfl
def asIs : List D → Option (List Int)
  | [] => some []
  | .int b :: l => (asIs l).map (b :: ·)
  | _ => none
theorem asIs_some : ∀ {l : List D} {bs : List Int}, asIs l = some bs → l = bs.map D.int
  | [], _, h => by cases h; rfl
  | .int b :: l, bs, h => by
    cases q : asIs l with
    | none => simp [asIs, q] at h
    | some cs =>
      have h' : some (b :: cs) = some bs := by rw [← h]; simp [asIs, q]
      cases h'
      rw [asIs_some q]
      rfl
def dAny : List D → Option D
  | [.lst l] => (asBs l).map fun bs => .bl (bs.any id)
  | _ => none
def dAll : List D → Option D
  | [.lst l] => (asBs l).map fun bs => .bl (bs.all id)
  | _ => none
theorem cs_any : CallS K mg (rAny K) dAny := by
  intro p G H vs ds d Q hK hmg s r hd k
  subst hK
  match ds, hd, r with
  | [.lst l], hd, r =>
    cases q : asBs l with
    | none => simp [dAny, q] at hd
    | some bs =>
      have hd' : some (D.bl (bs.any id)) = some d := by rw [← hd]; simp [dAny, q]
      cases hd'
      obtain ⟨v, rfl, rr⟩ := r.one
      obtain ⟨a, us, rfl, ha, ra⟩ := rr.x.lst s
      rw [asBs_some q] at ra
      rw [RepAll.bls ra] at ha
      exact ⟨a, bs, rfl, SqL.of ha, k _ G H (.refl s) (.bl _)⟩
theorem cs_all : CallS K mg (rAll K) dAll := by
  intro p G H vs ds d Q hK hmg s r hd k
  subst hK
  match ds, hd, r with
  | [.lst l], hd, r =>
    cases q : asBs l with
    | none => simp [dAll, q] at hd
    | some bs =>
      have hd' : some (D.bl (bs.all id)) = some d := by rw [← hd]; simp [dAll, q]
      cases hd'
      obtain ⟨v, rfl, rr⟩ := r.one
      obtain ⟨a, us, rfl, ha, ra⟩ := rr.x.lst s
      rw [asBs_some q] at ra
      rw [RepAll.bls ra] at ha
      exact ⟨a, bs, rfl, SqL.of ha, k _ G H (.refl s) (.bl _)⟩
def dTuple : List D → Option D
  | [.lst l] => some (.tup l)
  | [.tup l] => some (.tup l)
  | _ => none
theorem cs_tuple : CallS K mg (fun xs H Q => ∃ p ys, xs = [.ref p] ∧ ((SqL K H p ys ∧ ∀ l, H l = none → Q (.ref l) (upd H l (.tup ys))) ∨ (SqT K H p ys ∧ Q (.ref p) H))) dTuple := by
  intro p G H vs ds d Q hK hmg s r hd k
  subst hK
  match ds, hd, r with
  | [.lst l], hd, r =>
    cases hd
    obtain ⟨v, rfl, rr⟩ := r.one
    obtain ⟨a, us, rfl, ha, ra⟩ := rr.x.lst s
    refine ⟨a, us, rfl, .inl ⟨SqL.of ha, fun q hq => ?_⟩⟩
    obtain ⟨gr, rz⟩ := Rep.newT s hq ra
    exact k _ _ _ gr rz
  | [.tup l], hd, r =>
    cases hd
    obtain ⟨v, rfl, rr⟩ := r.one
    obtain ⟨a, us, rfl, ha, ra, Ra⟩ := rr.x.tup s
    exact ⟨a, us, rfl, .inr ⟨ha, k _ G H (.refl s) Ra⟩⟩
def dList : List D → Option D
  | [.lst l] => some (.lst l)
  | [.tup l] => some (.lst l)
  | _ => none
theorem cs_list : CallS K mg (fun xs H Q => ∃ p ys, xs = [.ref p] ∧ (SqL K H p ys ∨ SqT K H p ys) ∧ ∀ l, H l = none → Q (.ref l) (upd H l (.lst ys))) dList := by
  intro p G H vs ds d Q hK hmg s r hd k
  subst hK
  match ds, hd, r with
  | [.lst l], hd, r =>
    cases hd
    obtain ⟨v, rfl, rr⟩ := r.one
    obtain ⟨a, us, rfl, ha, ra⟩ := rr.x.lst s
    refine ⟨a, us, rfl, .inl (SqL.of ha), fun q hq => ?_⟩
    obtain ⟨gr, rz⟩ := Rep.newL s hq ra
    exact k _ _ _ gr rz
  | [.tup l], hd, r =>
    cases hd
    obtain ⟨v, rfl, rr⟩ := r.one
    obtain ⟨a, us, rfl, ha, ra, Ra⟩ := rr.x.tup s
    refine ⟨a, us, rfl, .inr ha, fun q hq => ?_⟩
    obtain ⟨gr, rz⟩ := Rep.newL s hq ra
    exact k _ _ _ gr rz
variable {x : Str} {q : Pos}
theorem se_len (hm : X.mg "len" = none) (hg : Gl X "len") (ha : SA X O true [e] fs) (he : starEach [e] X.env = (false, eval e X.env) :: starEach [] X.env := by rfl) (hpl : (backTo pos (starEach [] X.env)).any (·.1) = false := by rfl) : SE X O false (.Call (.Name "len" q) [e] [] pos) (eCall dLen fs) :=
  se_callB call_len cs_len hg hm PySem.boot_len ha (by decide) (by decide) he hpl
theorem se_abs (hm : X.mg "abs" = none) (hg : Gl X "abs") (ha : SA X O true [e] fs) (he : starEach [e] X.env = (false, eval e X.env) :: starEach [] X.env := by rfl) (hpl : (backTo pos (starEach [] X.env)).any (·.1) = false := by rfl) : SE X O false (.Call (.Name "abs" q) [e] [] pos) (eCall dAbs fs) :=
  se_callB call_abs cs_abs hg hm (by decide +kernel) ha (by decide) (by decide) he hpl
theorem se_int1 (hm : X.mg "int" = none) (hg : Gl X "int") (ha : SA X O true [e] fs) (he : starEach [e] X.env = (false, eval e X.env) :: starEach [] X.env := by rfl) (hpl : (backTo pos (starEach [] X.env)).any (·.1) = false := by rfl) : SE X O false (.Call (.Name "int" q) [e] [] pos) (eCall dInt fs) :=
  se_callTy call_int1 cs_int hg hm (by decide +kernel) ha (by decide) (by decide) he hpl
theorem se_max2 (hc : X.calm = true) (hm : X.mg "max" = none) (hg : Gl X "max") (ha : SA X O true [a, b] fs) (he : starEach [a, b] X.env = (false, eval a X.env) :: starEach [b] X.env := by rfl) (hpl : (backTo pos (starEach [b] X.env)).any (·.1) = false := by rfl) : SE X O false (.Call (.Name "max" q) [a, b] [] pos) (eCall dMax2 fs) :=
  se_callB (call_max2 hc) cs_max2 hg hm (by decide +kernel) ha (by decide) (by decide) he hpl
theorem se_min2 (hc : X.calm = true) (hm : X.mg "min" = none) (hg : Gl X "min") (ha : SA X O true [a, b] fs) (he : starEach [a, b] X.env = (false, eval a X.env) :: starEach [b] X.env := by rfl) (hpl : (backTo pos (starEach [b] X.env)).any (·.1) = false := by rfl) : SE X O false (.Call (.Name "min" q) [a, b] [] pos) (eCall dMin2 fs) :=
  se_callB (call_min2 hc) cs_min2 hg hm (by decide +kernel) ha (by decide) (by decide) he hpl
theorem se_gcd (hm : X.mg "gcd" = some (.builtin "math.gcd")) (hg : Gl X "gcd") (ha : SA X O true [a, b] fs) (he : starEach [a, b] X.env = (false, eval a X.env) :: starEach [b] X.env := by rfl) (hpl : (backTo pos (starEach [b] X.env)).any (·.1) = false := by rfl) : SE X O false (.Call (.Name "gcd" q) [a, b] [] pos) (eCall dGcd fs) :=
  se_callF cr_gcd cs_gcd hg hm ha (by decide) he hpl
theorem se_any (hc : X.calm = true) (hm : X.mg "any" = none) (hg : Gl X "any") (ha : SA X O true [e] fs) (he : starEach [e] X.env = (false, eval e X.env) :: starEach [] X.env := by rfl) (hpl : (backTo pos (starEach [] X.env)).any (·.1) = false := by rfl) : SE X O false (.Call (.Name "any" q) [e] [] pos) (eCall dAny fs) :=
  se_callB (cr_any hc) cs_any hg hm (by decide +kernel) ha (by decide) (by decide) he hpl
theorem se_all (hc : X.calm = true) (hm : X.mg "all" = none) (hg : Gl X "all") (ha : SA X O true [e] fs) (he : starEach [e] X.env = (false, eval e X.env) :: starEach [] X.env := by rfl) (hpl : (backTo pos (starEach [] X.env)).any (·.1) = false := by rfl) : SE X O false (.Call (.Name "all" q) [e] [] pos) (eCall dAll fs) :=
  se_callB (cr_all hc) cs_all hg hm (by decide +kernel) ha (by decide) (by decide) he hpl
theorem se_tuple (hm : X.mg "tuple" = none) (hg : Gl X "tuple") (ha : SA X O true [e] fs) (he : starEach [e] X.env = (false, eval e X.env) :: starEach [] X.env := by rfl) (hpl : (backTo pos (starEach [] X.env)).any (·.1) = false := by rfl) : SE X O false (.Call (.Name "tuple" q) [e] [] pos) (eCall dTuple fs) :=
  se_callTy call_tuple_of cs_tuple hg hm boot_tuple ha (by decide) (by decide) he hpl
theorem se_list (hm : X.mg "list" = none) (hg : Gl X "list") (ha : SA X O true [e] fs) (he : starEach [e] X.env = (false, eval e X.env) :: starEach [] X.env := by rfl) (hpl : (backTo pos (starEach [] X.env)).any (·.1) = false := by rfl) : SE X O false (.Call (.Name "list" q) [e] [] pos) (eCall dList fs) :=
  se_callTy call_list_of cs_list hg hm (by decide +kernel) ha (by decide) (by decide) he hpl

/-! ### isinstance -/
def D.ty : D → Option String
  | .non => some "NoneType"
  | .bl _ => some "bool"
  | .int _ => some "int"
  | .str _ => some "str"
  | .tup _ => some "tuple"
  | .lst _ => some "list"
  | _ => none
theorem RepX.ty {p : Par} {G H : Hp} {v : V} {d : D} {t : String} (r : RepX p G H v d) (s : Sub G H) (h : d.ty = some t) : TyX p.K H v (.type t) := by
  cases d <;> try (cases h; done)
  · cases h; rw [r.non]; exact .base .non
  · cases h; rw [r.bl]; exact .base (.bl _)
  · cases h; rw [r.int]; exact .base (.int _)
  · cases h; rw [r.str]; exact .base (.str _)
  · cases h
    obtain ⟨a, vs, rfl, ha, _, _⟩ := r.tup s
    rcases ha with (ha | ⟨o, ha⟩) | ⟨o, its, n, hk, hc, _⟩
    · exact .base (.tup ha)
    · exact .fTuple ha
    · exact .kTuple hk hc
  · cases h
    obtain ⟨a, vs, rfl, ha, _⟩ := r.lst s
    exact .base (.lst ha)
/-- isinstance(x, T), T one of the built-in types -/
def isTy (T : String) (d : D) : Option Bool := d.ty.bind fun t => kitB t T
def eIsi (T : String) (f : Env → M D) : Env → M D := fun δ => do
  let x ← f δ
  let k ← liftO (isTy T x)
  pure (.bl k)
theorem se_isi {T : String} {p3 : Pos} {y : Str} (hm : X.mg "isinstance" = none) (hg : Gl X "isinstance") (hm2 : X.mg y = none) (hg2 : Gl X y) (hv : bootBuiltins y = some (.type T)) (ha : SE X O al a f) (hn : y ≠ "__name__" := by decide) (hd : (y == ("__debug__" : Str)) = false := by decide)
    (he : starEach [a, .Name y p3] X.env = (false, eval a X.env) :: starEach [.Name y p3] X.env := by rfl) (he2 : starEach [.Name y p3] X.env = (false, eval (.Name y p3) X.env) :: starEach [] X.env := by rfl) (hpl : (backTo pos (starEach [.Name y p3] X.env)).any (·.1) = false := by rfl) :
    SE X O false (.Call (.Name "isinstance" q) [a, .Name y p3] [] pos) (eIsi T f) :=
  PE.weak (pe_callB call_isi hg hm (by decide +kernel) (pa_cons ha (pa_cons (pe_bltn (v := .ty T) hg2 hm2 hv rfl hn hd) pa_nil he2) he) (by decide) (by decide) he hpl) fun σ H Q ⟨dr, B, G0, δ, G, w, d, w', S, hf, k⟩ => by
    obtain ⟨x, w1, h1, hf1⟩ := bind_some hf
    obtain ⟨i, w2, h2, hf2⟩ := bind_some hf1
    obtain ⟨h3, rfl⟩ := liftO_some h2
    obtain ⟨e, rfl⟩ := pure_some hf2
    subst e
    refine ⟨dr, B, G0, δ, G, w, x, _, S, h1, fun v G1 H1 g1 S1 r1 => ?_⟩
    unfold isTy at h3
    cases ht : x.ty with
    | none => rw [ht] at h3; cases h3
    | some t =>
      rw [ht] at h3
      exact ⟨v, .ty T, .type t, .type T, i, rfl, .ty T, r1.x.ty S1.sub ht, kit_ty h3, k _ G1 H1 g1 S1 (.bl i)⟩
/-- isinstance(x, (T, U)) -/
def isTy2 (T U : String) (d : D) : Option Bool := (isTy T d).bind fun a => (isTy U d).bind fun b => some (a || b)
def eIsi2 (T U : String) (f : Env → M D) : Env → M D := fun δ => do
  let x ← f δ
  let k ← liftO (isTy2 T U x)
  pure (.bl k)
theorem se_isi2 {T U : String} {p3 p4 p5 : Pos} {k5} {y z : Str} (hm : X.mg "isinstance" = none) (hg : Gl X "isinstance") (hm2 : X.mg y = none) (hg2 : Gl X y) (hv : bootBuiltins y = some (.type T)) (hm3 : X.mg z = none) (hg3 : Gl X z) (hv3 : bootBuiltins z = some (.type U)) (ha : SE X O al a f) (hn : y ≠ "__name__" := by decide) (hd : (y == ("__debug__" : Str)) = false := by decide)
    (hn3 : z ≠ "__name__" := by decide) (hd3 : (z == ("__debug__" : Str)) = false := by decide)
    (he : starEach [a, .Tuple [.Name y p3, .Name z p4] k5 p5] X.env = (false, eval a X.env) :: starEach [.Tuple [.Name y p3, .Name z p4] k5 p5] X.env := by rfl) (he2 : starEach [.Tuple [.Name y p3, .Name z p4] k5 p5] X.env = (false, eval (.Tuple [.Name y p3, .Name z p4] k5 p5) X.env) :: starEach [] X.env := by rfl)
    (he3 : starEach [.Name y p3, .Name z p4] X.env = (false, eval (.Name y p3) X.env) :: starEach [.Name z p4] X.env := by rfl) (he4 : starEach [.Name z p4] X.env = (false, eval (.Name z p4) X.env) :: starEach [] X.env := by rfl)
    (hpl : (backTo pos (starEach [.Tuple [.Name y p3, .Name z p4] k5 p5] X.env)).any (·.1) = false := by rfl) :
    SE X O false (.Call (.Name "isinstance" q) [a, .Tuple [.Name y p3, .Name z p4] k5 p5] [] pos) (eIsi2 T U f) :=
  PE.weak (pe_callB call_isiT hg hm (by decide +kernel) (pa_cons ha (pa_cons (pe_tup (pa_cons (pe_bltn (v := .ty T) hg2 hm2 hv rfl hn hd) (pa_cons (pe_bltn (v := .ty U) hg3 hm3 hv3 rfl hn3 hd3) pa_nil he4) he3)) pa_nil he2) he) (by decide) (by decide) he hpl) fun σ H Q ⟨dr, B, G0, δ, G, w, d, w', S, hf, k⟩ => by
    obtain ⟨x, w1, h1, hf1⟩ := bind_some hf
    obtain ⟨i, w2, h2, hf2⟩ := bind_some hf1
    obtain ⟨h3, rfl⟩ := liftO_some h2
    obtain ⟨e, rfl⟩ := pure_some hf2
    subst e
    refine ⟨dr, B, G0, δ, G, w, x, _, S, h1, fun v G1 H1 g1 S1 r1 => ⟨by show 2 ≤ sizeLine; decide, fun t ht => ?_⟩⟩
    have gr : Gr G1 H1 G1 (upd H1 t (.tup [.ty T, .ty U])) := Gr.laid S1.sub ht
    unfold isTy2 isTy at h3
    cases htt : x.ty with
    | none => rw [htt] at h3; cases h3
    | some tt =>
      rw [htt] at h3
      cases q1 : kitB tt T with
      | none => simp [q1] at h3
      | some b1 =>
        cases q2 : kitB tt U with
        | none => simp [q1, q2] at h3
        | some b2 =>
          have h3' : some (b1 || b2) = some i := by rw [← h3]; simp [q1, q2]
          cases h3'
          refine ⟨v, t, [.ty T, .ty U], .type tt, [.type T, .type U], b1 || b2, rfl, upd_same, .cons (.ty T) (.cons (.ty U) .nil), (r1.x.grow gr.grow).ty (S1.gr gr).sub htt, ?_, k _ G1 _ (g1.trans gr.grow) (S1.gr gr) (.bl _)⟩
          refine kitAny_cons (kit_ty q1) (fun z => ?_) (fun z => by rw [z]; rfl)
          refine kitAny_cons (kit_ty q2) (fun z2 => ?_) (fun z2 => by rw [z, z2]; rfl)
          rw [z, z2]
          exact kitAny_nil
end
end Fc

/-! Fc, part E: targets, statements, loops, comprehensions, calls. -/
namespace Fc
open PySem PySem.Spec PyProof.Rows L2

/-! ### how a body ends -/
inductive Out where
  | nx | bk | ct | rt (d : D)
structure Fin (p : Par) (w : Dw) (G H : Hp) : Prop where
  sub : Sub G H
  g0 : Sub p.G0 G
  bas : ∀ a o, a ≠ p.dr → p.B a = some o → H a = some o
  kp : ∀ a o, p.B a = some o → p.G0 a = none → G a = none
  draw : DrawAt p w G H
theorem SR.fin {p : Par} {δ : Env} {σ : L2.St} {G H : Hp} {w : Dw} (S : SR p δ σ G H w) : Fin p w G H := ⟨S.sub, S.g0, S.bas, S.kp, S.draw⟩
def sKont (p : Par) (G : Hp) (o : Out) (δ' : Env) (w' : Dw) (E : Ends) : Prop := match o with
  | .nx => ∀ σ' G' H', SR p δ' σ' G' H' w' → Sub G G' → E.nx σ' H'
  | .bk => ∀ σ' G' H', SR p δ' σ' G' H' w' → Sub G G' → E.bk σ' H'
  | .ct => ∀ σ' G' H', SR p δ' σ' G' H' w' → Sub G G' → E.ct σ' H'
  | .rt d => ∀ v G' H', Fin p w' G' H' → Rep p G' v d → E.rt v H'
abbrev F1 := Env → M (Out × Env)
def tsOf (K : PySem.W.Frag) (mg : Str → Option Value) (O : List Nat) (F : F1) : TS := fun E σ H =>
  ∃ (dr : Addr) (B G0 : Hp) (δ : Env) (G : Hp) (w : Dw) (o : Out) (δ' : Env) (w' : Dw), SR ⟨K, mg, dr, O, B, G0⟩ δ σ G H w ∧ F δ w = some ((o, δ'), w') ∧ sKont ⟨K, mg, dr, O, B, G0⟩ G o δ' w' E
def SS (X : Cx) (O : List Nat) (st : Stmt) (F : F1) : Prop := PS X st (tsOf X.K X.mg O F)
def SSs (X : Cx) (O : List Nat) (sts : List Stmt) (F : F1) : Prop := PSs X sts (tsOf X.K X.mg O F)

section
variable {p : Par} {δ : Env} {σ : L2.St} {G H G' H' : Hp} {w : Dw}
/-- a name is stored -/
theorem SR.set {i : Nat} {d : D} {v : V} (S : SR p δ σ G H w) (hi : i ∉ p.O) (r : Rep p G v d) : SR p (δ.set i (some d)) (σ.set i (some v)) G H w where
  sub := S.sub
  g0 := S.g0
  bas := S.bas
  bd := S.bd
  len := by rw [List.length_set, List.length_set]; exact S.len
  vals := fun j e h n => by
    by_cases hj : i = j
    · subst hj
      have hl : i < δ.length := by
        have := (List.getElem?_eq_some_iff.mp h).1
        rwa [List.length_set] at this
      rw [List.getElem?_set_self hl] at h
      cases h
      exact ⟨v, List.getElem?_set_self (by rw [← S.len]; exact hl), r⟩
    · rw [List.getElem?_set_ne hj] at h
      obtain ⟨u, e1, r1⟩ := S.vals j e h n
      exact ⟨u, by rw [List.getElem?_set_ne hj]; exact e1, r1⟩
  owns := fun j e h n => by
    have hj : i ≠ j := fun z => hi (z ▸ n)
    rw [List.getElem?_set_ne hj] at h
    rw [List.getElem?_set_ne hj]
    exact S.owns j e h n
  inj := fun a b d1 d2 x na nb h1 h2 h3 h4 => by
    have ha : i ≠ a := fun z => hi (z ▸ na)
    have hb : i ≠ b := fun z => hi (z ▸ nb)
    rw [List.getElem?_set_ne ha] at h1 h3
    rw [List.getElem?_set_ne hb] at h2 h4
    exact S.inj a b d1 d2 x na nb h1 h2 h3 h4
  draw := S.draw
  kp := S.kp
/-- a name takes a new list that stays its own -/
theorem SR.setO {i : Nat} {ds : List D} {vs : List V} {a : Addr} (S : SR p δ σ G H w) (h1 : H a = some (.lst vs)) (h2 : G a = none) (h3 : p.B a = none) (h4 : ∀ j e, j ∈ p.O → δ[j]? = some (some e) → σ[j]? ≠ some (some (.ref a))) (r : RepAll p G vs ds) :
    SR p (δ.set i (some (.lst ds))) (σ.set i (some (.ref a))) G H w ∨ i ∉ p.O := by
  by_cases hi : i ∈ p.O
  case neg => exact .inr hi
  refine .inl ⟨S.sub, S.g0, S.bas, S.bd, ?_, fun j e h n => ?_, fun j e h n => ?_, fun j k d1 d2 x na nb g1 g2 g3 g4 => ?_, S.draw, S.kp⟩
  · rw [List.length_set, List.length_set]; exact S.len
  · have hj : i ≠ j := fun z => n (z ▸ hi)
    rw [List.getElem?_set_ne hj] at h
    rw [List.getElem?_set_ne hj]
    exact S.vals j e h n
  · by_cases hj : i = j
    · subst hj
      have hl : i < δ.length := by
        have := (List.getElem?_eq_some_iff.mp h).1
        rwa [List.length_set] at this
      rw [List.getElem?_set_self hl] at h
      cases h
      exact ⟨a, vs, ds, rfl, List.getElem?_set_self (by rw [← S.len]; exact hl), h1, h2, h3, r⟩
    · rw [List.getElem?_set_ne hj] at h
      rw [List.getElem?_set_ne hj]
      exact S.owns j e h n
  · have key : ∀ (j : Nat) (d1 : D) (x : Addr), j ∈ p.O → (δ.set i (some (D.lst ds)))[j]? = some (some d1) → (σ.set i (some (V.ref a)))[j]? = some (some (V.ref x)) → (j = i ∧ x = a) ∨ (j ≠ i ∧ δ[j]? = some (some d1) ∧ σ[j]? = some (some (.ref x))) := by
      intro j d1 x nj q1 q2
      by_cases hj : i = j
      · subst hj
        have hl : i < σ.length := by
          have := (List.getElem?_eq_some_iff.mp q2).1
          rwa [List.length_set] at this
        rw [List.getElem?_set_self hl] at q2
        cases q2
        exact .inl ⟨rfl, rfl⟩
      · rw [List.getElem?_set_ne hj] at q1 q2
        exact .inr ⟨fun z => hj z.symm, q1, q2⟩
    rcases key j d1 x na g1 g3 with ⟨e1, e2⟩ | ⟨e1, e2, e3⟩
    · rcases key k d2 x nb g2 g4 with ⟨e4, e5⟩ | ⟨e4, e5, e6⟩
      · rw [e1, e4]
      · exact absurd (e2 ▸ e6) (h4 k d2 nb e5)
    · rcases key k d2 x nb g2 g4 with ⟨e4, e5⟩ | ⟨e4, e5, e6⟩
      · exact absurd (e5 ▸ e3) (h4 j d1 na e2)
      · exact S.inj j k d1 d2 x na nb e2 e5 e3 e6
/-- a list of one's own is changed -/
theorem SR.mut {i : Nat} {ds ds' : List D} {vs vs' : List V} {a : Addr} (S : SR p δ σ G H w) (hi : i ∈ p.O) (e : δ[i]? = some (some (.lst ds))) (e2 : σ[i]? = some (some (.ref a))) (h1 : H a = some (.lst vs)) (r : RepAll p G vs' ds') :
    SR p (δ.set i (some (.lst ds'))) σ G (upd H a (.lst vs')) w := by
  obtain ⟨b, us, es, q0, q1, q2, q3, q4, q5⟩ := S.owns i _ e hi
  rw [e2] at q1
  cases q1
  have ne : a ≠ p.dr := own_ne S q4
  have hl : i < δ.length := (List.getElem?_eq_some_iff.mp e).1
  refine ⟨fun b o h => ?_, S.g0, fun b o n h => ?_, S.bd, ?_, fun j f h n => ?_, fun j f h n => ?_, fun j k d1 d2 x na nb g1 g2 g3 g4 => ?_, ?_, S.kp⟩
  · rw [upd_ne (ne_of_none h q3)]
    exact S.sub b o h
  · rw [upd_ne (ne_of_none h q4)]
    exact S.bas b o n h
  · rw [List.length_set]; exact S.len
  · have hj : i ≠ j := fun z => n (z ▸ hi)
    rw [List.getElem?_set_ne hj] at h
    exact S.vals j f h n
  · by_cases hj : i = j
    · subst hj
      rw [List.getElem?_set_self hl] at h
      cases h
      exact ⟨a, vs', ds', rfl, e2, upd_same, q3, q4, r⟩
    · rw [List.getElem?_set_ne hj] at h
      obtain ⟨b, ws, fs, z0, z1, z2, z3, z4, z5⟩ := S.owns j f h n
      refine ⟨b, ws, fs, z0, z1, ?_, z3, z4, z5⟩
      have hb : b ≠ a := fun z => hj (S.inj i j _ _ a hi n e h e2 (z ▸ z1))
      rw [upd_ne hb]
      exact z2
  · have back : ∀ (j : Nat) (d1 : D), (δ.set i (some (D.lst ds')))[j]? = some (some d1) → ∃ d2 : D, δ[j]? = some (some d2) := by
      intro j d1 q
      by_cases hj : i = j
      · subst hj; exact ⟨_, e⟩
      · rw [List.getElem?_set_ne hj] at q
        exact ⟨_, q⟩
    obtain ⟨f1, g1'⟩ := back j d1 g1
    obtain ⟨f2, g2'⟩ := back k d2 g2
    exact S.inj j k f1 f2 x na nb g1' g2' g3 g4
  · obtain ⟨ok, ⟨sc, d1, d2⟩, d3⟩ := S.draw
    exact ⟨ok, ⟨sc, by rw [upd_ne (Ne.symm ne)]; exact d1, d2⟩, d3⟩
/-- a new object that nobody of the state knows is changed -/
theorem SR.aside {a : Addr} {o : HO} (S : SR p δ σ G H w) (hG : G a = none) (hB : p.B a = none) (hO : ∀ j e, j ∈ p.O → δ[j]? = some (some e) → σ[j]? ≠ some (some (.ref a))) : SR p δ σ G (upd H a o) w := by
  have ne : a ≠ p.dr := own_ne S hB
  refine ⟨fun b u h => ?_, S.g0, fun b u n h => ?_, S.bd, S.len, S.vals, fun j f h n => ?_, S.inj, ?_, S.kp⟩
  · rw [upd_ne (ne_of_none h hG)]
    exact S.sub b u h
  · rw [upd_ne (ne_of_none h hB)]
    exact S.bas b u n h
  · obtain ⟨b, ws, fs, z0, z1, z2, z3, z4, z5⟩ := S.owns j f h n
    refine ⟨b, ws, fs, z0, z1, ?_, z3, z4, z5⟩
    have hb : b ≠ a := fun z => hO j f n h (z ▸ z1)
    rw [upd_ne hb]
    exact z2
  · obtain ⟨ok, ⟨sc, d1, d2⟩, d3⟩ := S.draw
    exact ⟨ok, ⟨sc, by rw [upd_ne (Ne.symm ne)]; exact d1, d2⟩, d3⟩
/-- names forgotten -/
theorem wipe_get {σ : L2.St} {i : Nat} : ∀ {vs : List Nat}, i ∉ vs → (wipe σ vs)[i]? = σ[i]?
  | [], _ => rfl
  | v :: vs, h => by
    unfold wipe
    rw [List.getElem?_set_ne (fun e => h (by simp [e]))]
    exact wipe_get fun z => h (List.mem_cons_of_mem _ z)
def wipeD (δ : Env) : List Nat → Env
  | [] => δ
  | v :: vs => (wipeD δ vs).set v none
theorem wipeD_len (δ : Env) : ∀ vs : List Nat, (wipeD δ vs).length = δ.length
  | [] => rfl
  | v :: vs => by unfold wipeD; rw [List.length_set]; exact wipeD_len δ vs
theorem wipeD_get {δ : Env} {i : Nat} : ∀ {vs : List Nat}, i ∉ vs → (wipeD δ vs)[i]? = δ[i]?
  | [], _ => rfl
  | v :: vs, h => by
    unfold wipeD
    rw [List.getElem?_set_ne (fun e => h (by simp [e]))]
    exact wipeD_get fun z => h (List.mem_cons_of_mem _ z)
theorem wipeD_some {δ : Env} {i : Nat} {d : D} : ∀ {vs : List Nat}, (wipeD δ vs)[i]? = some (some d) → δ[i]? = some (some d) ∧ i ∉ vs
  | [], h => ⟨h, by simp⟩
  | v :: vs, h => by
    unfold wipeD at h
    by_cases hi : v = i
    · subst hi
      by_cases hv : v < (wipeD δ vs).length
      · rw [List.getElem?_set_self hv] at h; cases h
      · rw [List.getElem?_eq_none (by simpa using hv)] at h; cases h
    · rw [List.getElem?_set_ne hi] at h
      obtain ⟨h1, h2⟩ := wipeD_some h
      exact ⟨h1, by simp only [List.mem_cons, not_or]; exact ⟨fun e => hi e.symm, h2⟩⟩
theorem SR.wipe (S : SR p δ σ G H w) (vs : List Nat) : SR p (wipeD δ vs) (wipe σ vs) G H w := by
  refine ⟨S.sub, S.g0, S.bas, S.bd, by rw [wipeD_len, wipe_length]; exact S.len, fun j f h n => ?_, fun j f h n => ?_, fun j k d1 d2 x na nb g1 g2 g3 g4 => ?_, S.draw, S.kp⟩
  · obtain ⟨h1, h2⟩ := wipeD_some h
    rw [wipe_get h2]
    exact S.vals j f h1 n
  · obtain ⟨h1, h2⟩ := wipeD_some h
    rw [wipe_get h2]
    exact S.owns j f h1 n
  · obtain ⟨h1, h2⟩ := wipeD_some g1
    obtain ⟨h3, h4⟩ := wipeD_some g2
    rw [wipe_get h2] at g3
    rw [wipe_get h4] at g4
    exact S.inj j k d1 d2 x na nb h1 h3 g3 g4
theorem wipe_same {σ σ' : L2.St} (hl : σ'.length = σ.length) : ∀ (vs : List Nat), (∀ i, i ∉ vs → σ'[i]? = σ[i]?) → L2.wipe σ' vs = L2.wipe σ vs := by
  intro vs h
  refine List.ext_getElem? fun i => ?_
  by_cases hi : i ∈ vs
  · have key : ∀ (τ : L2.St) (vs : List Nat), i ∈ vs → (L2.wipe τ vs)[i]? = if i < τ.length then some none else none := by
      intro τ vs
      induction vs with
      | nil => intro z; cases z
      | cons v vs ih =>
        intro z
        unfold L2.wipe
        by_cases hv : v = i
        · subst hv
          by_cases hlt : v < (L2.wipe τ vs).length
          · rw [List.getElem?_set_self hlt, if_pos (by rw [← wipe_length τ vs]; exact hlt)]
          · rw [List.getElem?_eq_none (by simpa using hlt), if_neg (by rw [← wipe_length τ vs]; exact hlt)]
        · rw [List.getElem?_set_ne hv]
          exact ih (by rcases List.mem_cons.mp z with e | e; exact absurd e.symm hv; exact e)
    rw [key σ' vs hi, key σ vs hi, hl]
  · rw [wipe_get hi, wipe_get hi]
    exact h i hi
theorem wipe_wipe {σ σ' : L2.St} {vs : List Nat} (h : L2.wipe σ' vs = L2.wipe (L2.wipe σ vs) vs) : L2.wipe σ' vs = L2.wipe σ vs := by
  rw [h]
  exact wipe_same (wipe_length σ vs) vs fun i hi => wipe_get hi
end

/-! ### targets -/
inductive Tg where
  | nm (i : Nat)
  | tp (l : List Tg)
mutual
def setT : Tg → D → Env → Option Env
  | .nm i, d, δ => some (δ.set i (some d))
  | .tp l, .tup ds, δ => setTs l ds δ
  | .tp _, _, _ => none
def setTs : List Tg → List D → Env → Option Env
  | [], [], δ => some δ
  | t :: ts, d :: ds, δ => (setT t d δ).bind (setTs ts ds)
  | _, _, _ => none
end
mutual
def Tg.ix : Tg → List Nat
  | .nm i => [i]
  | .tp l => Tg.ixs l
def Tg.ixs : List Tg → List Nat
  | [] => []
  | t :: ts => Tg.ix t ++ Tg.ixs ts
end
def tgOf (K : PySem.W.Frag) (mg : Str → Option Value) (O : List Nat) (T : Tg) : TG := fun v σ H Q =>
  ∃ (dr : Addr) (B G0 : Hp) (δ : Env) (G : Hp) (w : Dw) (d : D) (δ' : Env), SR ⟨K, mg, dr, O, B, G0⟩ δ σ G H w ∧ Rep ⟨K, mg, dr, O, B, G0⟩ G v d ∧ setT T d δ = some δ' ∧
    ∀ σ', SR ⟨K, mg, dr, O, B, G0⟩ δ' σ' G H w → σ'.length = σ.length → (∀ i, i ∉ T.ix → σ'[i]? = σ[i]?) → Q σ' H
def tgsOf (K : PySem.W.Frag) (mg : Str → Option Value) (O : List Nat) (T : List Tg) : TGs := fun v σ H Q =>
  ∃ (dr : Addr) (B G0 : Hp) (δ : Env) (G : Hp) (w : Dw) (d : List D) (δ' : Env), SR ⟨K, mg, dr, O, B, G0⟩ δ σ G H w ∧ RepAll ⟨K, mg, dr, O, B, G0⟩ G v d ∧ setTs T d δ = some δ' ∧
    ∀ σ', SR ⟨K, mg, dr, O, B, G0⟩ δ' σ' G H w → σ'.length = σ.length → (∀ i, i ∉ Tg.ixs T → σ'[i]? = σ[i]?) → Q σ' H
def SG (X : Cx) (O : List Nat) (tg : Expr) (T : Tg) : Prop := PG X tg (tgOf X.K X.mg O T)
def SGs (X : Cx) (O : List Nat) (tgs : List Expr) (T : List Tg) : Prop := PGs X tgs (tgsOf X.K X.mg O T)
theorem PG.weak {X : Cx} {e : Expr} {t t' : TG} (h : PG X e t) (k : ∀ v σ H Q, t' v σ H Q → t v σ H Q) : PG X e t' := ⟨fun pins s σ H v u Q I r q => h.run pins s σ H v u Q I r (k v σ H Q q)⟩
theorem PGs.weak {X : Cx} {e : List Expr} {t t' : TGs} (h : PGs X e t) (k : ∀ v σ H Q, t' v σ H Q → t v σ H Q) : PGs X e t' := ⟨fun pins s σ H v u Q I r q => h.run pins s σ H v u Q I r (k v σ H Q q)⟩

section
variable {X : Cx} {O : List Nat} {al bl cl : Bool} {a b c e tg : Expr} {es tgs : List Expr} {f g h : Env → M D} {fs : Env → M (List D)} {pos : Pos} {T : Tg} {Ts : List Tg}
theorem sg_name (i : Nat) {x : Str} (hN : X.N.Nodup) (hO : i ∉ O := by decide) (hi : X.N[i]? = some x := by rfl) (hx : Loc X.env.scope x := by first | exact Or.inl rfl | exact Or.inr rfl) (hf : X.fn x = true ∨ X.env.scope.names.lookup x = some .local := by first | exact .inl rfl | exact .inr rfl) :
    SG X O (.Name x pos) (.nm i) :=
  PG.weak (pg_name hN hi hx hf) fun v σ H Q ⟨dr, B, G0, δ, G, w, d, δ', S, r, e, k⟩ => by
    have e' : some (δ.set i (some d)) = some δ' := by rw [← e, setT]
    cases e'
    refine k _ (S.set hO r) (by rw [List.length_set]) fun j hj => ?_
    have hj' : i ≠ j := fun z => hj (by rw [Tg.ix]; simp [z])
    rw [List.getElem?_set_ne hj']
theorem sgs_nil : SGs X O [] [] := PGs.weak pgs_nil fun v σ H Q ⟨dr, B, G0, δ, G, w, d, δ', S, r, e, k⟩ => by
  cases r with
  | nil =>
    have e' : some δ = some δ' := by rw [← e, setTs]
    cases e'
    exact ⟨rfl, k σ S rfl fun _ _ => rfl⟩
  | cons r t => rw [setTs] at e; cases e; all_goals simp
theorem sgs_cons (h1 : SG X O tg T) (h2 : SGs X O tgs Ts) (hs : (assignEach (tg :: tgs) X.env).map (·.2) = assign tg X.env :: (assignEach tgs X.env).map (·.2) := by rfl) : SGs X O (tg :: tgs) (T :: Ts) :=
  PGs.weak (pgs_cons h1 h2 hs) fun v σ H Q ⟨dr, B, G0, δ, G, w, d, δ', S, r, e, k⟩ => by
    cases r with
    | nil => rw [setTs] at e; cases e; all_goals simp
    | @cons v0 vs d0 ds r t =>
      rw [setTs] at e
      cases q : setT T d0 δ with
      | none => rw [q] at e; cases e
      | some δ1 =>
        rw [q] at e
        refine ⟨v0, vs, rfl, dr, B, G0, δ, G, w, d0, δ1, S, r, q, fun σ1 S1 l1 k1 => ?_⟩
        refine ⟨dr, B, G0, δ1, G, w, ds, δ', S1, t, e, fun σ2 S2 l2 k2 => k σ2 S2 (l2.trans l1) fun j hj => ?_⟩
        rw [Tg.ixs, List.mem_append, not_or] at hj
        rw [k2 j hj.2, k1 j hj.1]
theorem sg_tup {kk : Nat} (hc : X.calm = true) (h : SGs X O tgs Ts) (hn : (assignEach tgs X.env).length = Ts.length := by rfl) (hst : (assignEach tgs X.env).findIdx? (·.1) = none := by rfl) : SG X O (.Tuple tgs kk pos) (.tp Ts) :=
  PG.weak (pg_tup hc h hn hst) fun v σ H Q ⟨dr, B, G0, δ, G, w, d, δ', S, r, e, k⟩ => by
    have key : ∀ (Ts : List Tg) (ds : List D) (δ : Env), setTs Ts ds δ = some δ' → ds.length = Ts.length := by
      intro Ts
      induction Ts with
      | nil =>
        intro ds δ q
        cases ds with
        | nil => rfl
        | cons => rw [setTs] at q; cases q; all_goals simp
      | cons t ts ih =>
        intro ds δ q
        cases ds with
        | nil => rw [setTs] at q; cases q; all_goals simp
        | cons d ds =>
          rw [setTs] at q
          cases q1 : setT t d δ with
          | none => rw [q1] at q; cases q
          | some δ1 =>
            rw [q1] at q
            have := ih ds δ1 q
            simp [this]
    cases d <;> try (rw [setT] at e <;> first | (cases e; done) | simp)
    rename_i ds
    cases r with
    | @tup a vs _ h1 h2 =>
      refine ⟨a, vs, rfl, sub_t S.sub h1, by rw [h2.length]; exact key Ts ds δ e, dr, B, G0, δ, G, w, ds, δ', S, h2, e, fun σ' S' l' k' => ?_⟩
      exact k σ' S' l' fun i hi => k' i (by rw [Tg.ix] at hi; exact hi)
end
end Fc

/-! Fc, part F: what is walked, statements, loops, comprehensions, calls of defs. -/
namespace Fc
open PySem PySem.Spec PyProof.Rows L2

/-! ### walks -/
structure WalksD (p : Par) (J : It) (Gs : Hp) (Ok : Hp → Prop) (ds : List D) : Prop where
  go : ∀ i G H, Sub Gs G → Sub G H → Ok H → i < ds.length → J.go i H
  yl : ∀ i G H x H', Sub Gs G → Sub G H → Ok H → i < ds.length → J.yld i H x H' → ∃ G' d, ds[i]? = some d ∧ Gr G H G' H' ∧ Rep p G' x d
  st : ∀ G H, Sub Gs G → Sub G H → Ok H → J.stop ds.length H
theorem WalksD.weak {p : Par} {J : It} {Gs : Hp} {Ok Ok' : Hp → Prop} {ds : List D} (h : WalksD p J Gs Ok ds) (k : ∀ H, Ok' H → Ok H) : WalksD p J Gs Ok' ds :=
  ⟨fun i G H a b c => h.go i G H a b (k H c), fun i G H x H' a b c => h.yl i G H x H' a b (k H c), fun G H a b c => h.st G H a b (k H c)⟩
def okOf (al : Bool) (dr : Addr) (H' : Hp) (H1 : Hp) : Prop := al = true → ∀ a o, a ≠ dr → H' a = some o → H1 a = some o
def tiOf (K : PySem.W.Frag) (mg : Str → Option Value) (O : List Nat) (al : Bool) (f : Env → M (List D)) : TI := fun σ H R =>
  ∃ (dr : Addr) (B G0 : Hp) (δ : Env) (G : Hp) (w : Dw) (ds : List D) (w' : Dw), SR ⟨K, mg, dr, O, B, G0⟩ δ σ G H w ∧ f δ w = some (ds, w') ∧
    ∀ J G' H', Grow ⟨K, mg, dr, O, B, G0⟩ G H G' H' → SR ⟨K, mg, dr, O, B, G0⟩ δ σ G' H' w' → WalksD ⟨K, mg, dr, O, B, G0⟩ J G' (okOf al dr H') ds → R J H'
def SI (X : Cx) (O : List Nat) (al : Bool) (tg it : Expr) (f : Env → M (List D)) : Prop := PI X tg it (tiOf X.K X.mg O al f)
section
variable {X : Cx} {O : List Nat} {al bl cl : Bool} {a b c e tg : Expr} {es tgs : List Expr} {f g h : Env → M D} {fs : Env → M (List D)} {pos q : Pos} {T : Tg} {Ts : List Tg}
theorem SI.any (h : SI X O al tg e fs) : SI X O true tg e fs := PI.weak h fun σ H R ⟨dr, B, G0, δ, G, w, ds, w', S, hf, k⟩ =>
  ⟨dr, B, G0, δ, G, w, ds, w', S, hf, fun J G' H' gr S' W => k J G' H' gr S' (W.weak fun H1 o hal => o rfl)⟩
theorem PI.or {t t' : TI} (h : PI X tg e t) (h' : PI X tg e t') : PI X tg e fun σ H R => t σ H R ∨ t' σ H R := ⟨fun pins s σ H R I q => by
  rcases q with q | q
  · exact h.run pins s σ H R I q
  · exact h'.run pins s σ H R I q⟩
def dItems : D → Option (List D)
  | .tup l => some l
  | .lst l => some l
  | _ => none
def itSeq (f : Env → M D) : Env → M (List D) := fun δ => do
  let x ← f δ
  liftO (dItems x)
theorem walksT {p : Par} {G : Hp} {a : Addr} {vs : List V} {ds : List D} {Ok : Hp → Prop} (h : SqT p.K G a vs) (r : RepAll p G vs ds) : WalksD p (Itt p.K a) G Ok ds where
  go := fun i G1 H1 s1 s2 _ hi => walk_tup.goes i H1 (by rw [r.length]; exact hi) (sub_t (s1.trans s2) h)
  yl := fun i G1 H1 x H2 s1 s2 _ hi y => by
    obtain ⟨rfl, e⟩ := walk_tup.yields i H1 x H2 (by rw [r.length]; exact hi) (sub_t (s1.trans s2) h) y
    obtain ⟨d, hd, rd⟩ := r.getV e
    exact ⟨G1, d, hd, .refl s2, rd.mono s1⟩
  st := fun G1 H1 s1 s2 _ => by
    rw [← r.length]
    exact walk_tup.stops H1 (sub_t (s1.trans s2) h)
theorem walksL {p : Par} {G : Hp} {a : Addr} {vs : List V} {ds : List D} {Ok : Hp → Prop} (h : ∀ G1 H1, Sub G G1 → Sub G1 H1 → Ok H1 → H1 a = some (.lst vs)) (r : RepAll p G vs ds) : WalksD p (Itl p.K a) G Ok ds where
  go := fun i G1 H1 s1 s2 o hi => walk_list.goes i H1 (by rw [r.length]; exact hi) (SqL.of (h G1 H1 s1 s2 o))
  yl := fun i G1 H1 x H2 s1 s2 o hi y => by
    obtain ⟨rfl, e⟩ := walk_list.yields i H1 x H2 (by rw [r.length]; exact hi) (SqL.of (h G1 H1 s1 s2 o)) y
    obtain ⟨d, hd, rd⟩ := r.getV e
    exact ⟨G1, d, hd, .refl s2, rd.mono s1⟩
  st := fun G1 H1 s1 s2 o => by
    rw [← r.length]
    exact walk_list.stops H1 (SqL.of (h G1 H1 s1 s2 o))
theorem RepA.walks {p : Par} {G H : Hp} {v : V} {l : List D} (r : RepA p al G H v (.lst l)) : ∃ a vs, v = .ref a ∧ (Sub G H → H a = some (.lst vs)) ∧ (∀ G1 H1, Sub G G1 → Sub G1 H1 → okOf al p.dr H H1 → H1 a = some (.lst vs)) ∧ RepAll p G vs l := by
  cases al with
  | false =>
    cases (show Rep p G v (.lst l) from r) with
    | lst h1 h2 => exact ⟨_, _, rfl, fun s => s _ _ h1, fun G1 H1 s1 s2 _ => s2 _ _ (s1 _ _ h1), h2⟩
  | true =>
    cases (show RepX p G H v (.lst l) from r) with
    | rep r =>
      cases r with
      | lst h1 h2 => exact ⟨_, _, rfl, fun s => s _ _ h1, fun G1 H1 s1 s2 _ => s2 _ _ (s1 _ _ h1), h2⟩
    | own n b h r => exact ⟨_, _, rfl, fun _ => h, fun G1 H1 s1 s2 o => o rfl _ _ n h, r⟩
theorem si_seq (ha : SE X O al a f) : SI X O al tg a (itSeq f) :=
  PI.weak (PI.or (pi_tup ha) (pi_list ha)) fun σ H R ⟨dr, B, G0, δ, G, w, ds, w', S, hf, k⟩ => by
    obtain ⟨x, w1, h1, hf1⟩ := bind_some hf
    obtain ⟨h3, rfl⟩ := liftO_some hf1
    cases x <;> try (cases h3; done)
    · rename_i l
      cases h3
      refine .inl ⟨dr, B, G0, δ, G, w, _, _, S, h1, fun v G1 H1 g1 S1 r1 => ?_⟩
      have r2 := r1.x.tupR
      cases r2 with
      | @tup a vs _ h4 h5 => exact ⟨a, rfl, ⟨vs, sub_t S1.sub h4⟩, k _ G1 H1 g1 S1 (walksT h4 h5)⟩
    · rename_i l
      cases h3
      refine .inr ⟨dr, B, G0, δ, G, w, _, _, S, h1, fun v G1 H1 g1 S1 r1 => ?_⟩
      obtain ⟨a, vs, rfl, h4, h5, h6⟩ := r1.walks
      exact ⟨a, rfl, ⟨vs, SqL.of (h4 S1.sub)⟩, k _ G1 H1 g1 S1 (walksL h5 h6)⟩
/-! ranges -/
def rangeD (lo : Int) (n : Nat) : List D := (List.range n).map fun (i : Nat) => D.int (lo + i)
theorem rangeD_len (lo : Int) (n : Nat) : (rangeD lo n).length = n := by unfold rangeD; simp
theorem walksR {p : Par} {G : Hp} {lo : Int} {n : Nat} {Ok : Hp → Prop} : WalksD p (Itr lo n) G Ok (rangeD lo n) where
  go := fun i G1 H1 s1 s2 _ hi => by rw [rangeD_len] at hi; exact hi
  yl := fun i G1 H1 x H2 s1 s2 _ hi y => by
    obtain ⟨rfl, rfl⟩ := y
    rw [rangeD_len] at hi
    exact ⟨G1, .int (lo + i), by unfold rangeD; simp [hi], .refl s2, .int _⟩
  st := fun G1 H1 s1 s2 _ => by rw [rangeD_len]; exact Nat.le_refl _
def BIG : Int := 1000000000
def dRange1 : List D → Option (List D)
  | [.int n] => if -BIG ≤ n ∧ n ≤ BIG then some (rangeD 0 n.toNat) else none
  | _ => none
def dRange2 : List D → Option (List D)
  | [.int i, .int n] => if -BIG ≤ i ∧ i ≤ BIG ∧ -BIG ≤ n ∧ n ≤ BIG then some (rangeD i (n - i).toNat) else none
  | _ => none
def itCall (op : List D → Option (List D)) (fs : Env → M (List D)) : Env → M (List D) := fun δ => do
  let xs ← fs δ
  liftO (op xs)
theorem si_range1 (hm : X.mg "range" = none) (hg : Gl X "range") (ha : SA X O true [a] fs) (hs : starEach [a] X.env = [(false, eval a X.env)] := by rfl) : SI X O false tg (.Call (.Name "range" q) [a] [] pos) (itCall dRange1 fs) :=
  PI.weak (pi_range1 hg hm ha hs) fun σ H R ⟨dr, B, G0, δ, G, w, ds, w', S, hf, k⟩ => by
    obtain ⟨xs, w1, h1, hf1⟩ := bind_some hf
    obtain ⟨h3, rfl⟩ := liftO_some hf1
    refine ⟨dr, B, G0, δ, G, w, xs, _, S, h1, fun vs G1 H1 g1 S1 r1 => ?_⟩
    match xs, h3, r1 with
    | [.int n], h3, r1 =>
      simp only [dRange1] at h3
      split at h3
      · rename_i hc
        cases h3
        obtain ⟨v, rfl, rr⟩ := r1.one
        have hB : BIG = 1000000000 := rfl
        exact ⟨n, by rw [rr.x.int], by omega, by omega, k _ G1 H1 g1 S1 walksR⟩
      · cases h3
theorem si_range2 (hm : X.mg "range" = none) (hg : Gl X "range") (ha : SA X O true [a, b] fs) (hs : starEach [a, b] X.env = [(false, eval a X.env), (false, eval b X.env)] := by rfl) (hs2 : starEach [b] X.env = [(false, eval b X.env)] := by rfl) : SI X O false tg (.Call (.Name "range" q) [a, b] [] pos) (itCall dRange2 fs) :=
  PI.weak (pi_range2 hg hm ha hs hs2) fun σ H R ⟨dr, B, G0, δ, G, w, ds, w', S, hf, k⟩ => by
    obtain ⟨xs, w1, h1, hf1⟩ := bind_some hf
    obtain ⟨h3, rfl⟩ := liftO_some hf1
    refine ⟨dr, B, G0, δ, G, w, xs, _, S, h1, fun vs G1 H1 g1 S1 r1 => ?_⟩
    match xs, h3, r1 with
    | [.int i, .int n], h3, r1 =>
      simp only [dRange2] at h3
      split at h3
      · rename_i hc
        cases h3
        obtain ⟨v, u, rfl, rr, rr2⟩ := r1.two
        have hB : BIG = 1000000000 := rfl
        exact ⟨i, n, by rw [rr.x.int, rr2.x.int], ⟨by omega, by omega, by omega, by omega⟩, k _ G1 H1 g1 S1 walksR⟩
      · cases h3
end

/-! ### statements -/
section
variable {X : Cx} {O : List Nat} {al bl cl : Bool} {a b c e tg it : Expr} {es tgs : List Expr} {f g h : Env → M D} {fs : Env → M (List D)} {pos q : Pos} {T : Tg} {Ts : List Tg} {st : Stmt} {sts rest : List Stmt} {F F' : F1} {t : Env → M Bool}
def sNil : F1 := fun δ => pure (.nx, δ)
def sSeq (F F' : F1) : F1 := fun δ => do
  let (o, δ1) ← F δ
  match o with
  | .nx => F' δ1
  | o => pure (o, δ1)
theorem sKont.mono {p : Par} {G G1 : Hp} {o : Out} {δ : Env} {w : Dw} {E : Ends} (s : Sub G G1) (h : sKont p G o δ w E) : sKont p G1 o δ w E := by
  cases o with
  | nx => exact fun σ' G' H' S s' => h σ' G' H' S (s.trans s')
  | bk => exact fun σ' G' H' S s' => h σ' G' H' S (s.trans s')
  | ct => exact fun σ' G' H' S s' => h σ' G' H' S (s.trans s')
  | rt d => exact h
theorem ss_nil : SSs X O [] sNil := PSs.weak pss_nil fun E σ H ⟨dr, B, G0, δ, G, w, o, δ', w', S, hf, k⟩ => by
  obtain ⟨e, rfl⟩ := pure_some hf
  cases e
  exact k σ G H S (Sub.refl G)
theorem ss_cons (h1 : SS X O st F) (h2 : SSs X O rest F') : SSs X O (st :: rest) (sSeq F F') :=
  PSs.weak (pss_cons h1 h2) fun E σ H ⟨dr, B, G0, δ, G, w, o, δ', w', S, hf, k⟩ => by
    obtain ⟨⟨o1, δ1⟩, w1, h1, hf1⟩ := bind_some hf
    refine ⟨dr, B, G0, δ, G, w, o1, δ1, w1, S, h1, ?_⟩
    cases o1 with
    | nx => exact fun σ' G' H' S' s' => ⟨dr, B, G0, δ1, G', w1, o, δ', w', S', hf1, k.mono s'⟩
    | bk =>
      obtain ⟨e, rfl⟩ := pure_some hf1
      cases e
      exact k
    | ct =>
      obtain ⟨e, rfl⟩ := pure_some hf1
      cases e
      exact k
    | rt d =>
      obtain ⟨e, rfl⟩ := pure_some hf1
      cases e
      exact k
theorem ss_one (h1 : SS X O st F) : SSs X O [st] F := pss_one h1
def sRet (f : Env → M D) : F1 := fun δ => do
  let d ← f δ
  pure (.rt d, δ)
/-- any value that may be read now may be handed back -/
theorem RepX.freeze {p : Par} {G H : Hp} {w : Dw} {v : V} {d : D} (r : RepX p G H v d) (n : Fin p w G H) : ∃ G', Fin p w G' H ∧ Rep p G' v d := by
  cases r with
  | rep r => exact ⟨G, n, r⟩
  | @own a vs ds h1 h2 h3 h4 =>
    have sg : Sub G (upd G a (.lst vs)) := fun b o q => by
      by_cases hb : b = a
      · subst hb
        have := n.sub b o q
        rw [h3] at this
        cases this
        exact upd_same
      · rw [upd_ne hb]
        exact q
    refine ⟨upd G a (.lst vs), ⟨fun b o q => ?_, n.g0.trans sg, n.bas, fun b o q1 q2 => ?_, ?_⟩, .lst upd_same (h4.mono sg)⟩
    · by_cases hb : b = a
      · subst hb
        rw [upd_same] at q
        cases q
        exact h3
      · rw [upd_ne hb] at q
        exact n.sub b o q
    · have hb : b ≠ a := fun z => by rw [z, h2] at q1; cases q1
      rw [upd_ne hb]
      exact n.kp b o q1 q2
    · obtain ⟨ok, ⟨sc, d1, d2⟩, d3⟩ := n.draw
      exact ⟨ok, ⟨sc, d1, sub_l sg d2⟩, by rw [upd_ne (Ne.symm h1)]; exact d3⟩
theorem ss_ret (ha : SE X O al e f) : SS X O (.Return (some e) pos) (sRet f) :=
  PS.weak (ps_ret ha) fun E σ H ⟨dr, B, G0, δ, G, w, o, δ', w', S, hf, k⟩ => by
    obtain ⟨d, w1, h1, hf1⟩ := bind_some hf
    obtain ⟨e, rfl⟩ := pure_some hf1
    cases e
    refine ⟨dr, B, G0, δ, G, w, d, w1, S, h1, fun v G1 H1 g1 S1 r1 => ?_⟩
    obtain ⟨G2, n, r2⟩ := r1.x.freeze S1.fin
    exact k v G2 H1 n r2
def sRetN : F1 := fun δ => pure (.rt .non, δ)
theorem ss_retN : SS X O (.Return none pos) sRetN := PS.weak ps_retN fun E σ H ⟨dr, B, G0, δ, G, w, o, δ', w', S, hf, k⟩ => by
  obtain ⟨e, rfl⟩ := pure_some hf
  cases e
  exact k .non G H S.fin .non
def sBk : F1 := fun δ => pure (.bk, δ)
def sCt : F1 := fun δ => pure (.ct, δ)
theorem ss_pass : SS X O (.Pass pos) sNil := PS.weak ps_pass fun E σ H ⟨dr, B, G0, δ, G, w, o, δ', w', S, hf, k⟩ => by
  obtain ⟨e, rfl⟩ := pure_some hf
  cases e
  exact k σ G H S (Sub.refl G)
theorem ss_break : SS X O (.Break pos) sBk := PS.weak ps_break fun E σ H ⟨dr, B, G0, δ, G, w, o, δ', w', S, hf, k⟩ => by
  obtain ⟨e, rfl⟩ := pure_some hf
  cases e
  exact k σ G H S (Sub.refl G)
theorem ss_continue : SS X O (.Continue pos) sCt := PS.weak ps_continue fun E σ H ⟨dr, B, G0, δ, G, w, o, δ', w', S, hf, k⟩ => by
  obtain ⟨e, rfl⟩ := pure_some hf
  cases e
  exact k σ G H S (Sub.refl G)
def sDrop (f : Env → M D) : F1 := fun δ => do
  let _ ← f δ
  pure (.nx, δ)
theorem ss_expr (ha : SE X O al e f) (hs : swapsWith e none pos.line X.env = pure false := by rfl) : SS X O (.Expr e pos) (sDrop f) :=
  PS.weak (ps_expr ha hs) fun E σ H ⟨dr, B, G0, δ, G, w, o, δ', w', S, hf, k⟩ => by
    obtain ⟨d, w1, h1, hf1⟩ := bind_some hf
    obtain ⟨e, rfl⟩ := pure_some hf1
    cases e
    exact ⟨dr, B, G0, δ, G, w, d, w1, S, h1, fun v G1 H1 g1 S1 r1 => k σ G1 H1 S1 g1.g⟩
/-- target = value -/
def sAsg (T : Tg) (f : Env → M D) : F1 := fun δ => do
  let d ← f δ
  let δ' ← liftO (setT T d δ)
  pure (.nx, δ')
theorem tsOf_asg {K : PySem.W.Frag} {mg : Str → Option Value} {E : Ends} {σ : L2.St} {H : Hp} (q : tsOf K mg O (sAsg T f) E σ H) : tAsg (tOf K mg O false f) (tgOf K mg O T) E σ H := by
  obtain ⟨dr, B, G0, δ, G, w, o, δ', w', S, hf, k⟩ := q
  obtain ⟨d, w1, h1, hf1⟩ := bind_some hf
  obtain ⟨δ1, w2, h2, hf2⟩ := bind_some hf1
  obtain ⟨h3, rfl⟩ := liftO_some h2
  obtain ⟨e, rfl⟩ := pure_some hf2
  cases e
  exact ⟨dr, B, G0, δ, G, w, d, _, S, h1, fun v G1 H1 g1 S1 r1 => ⟨dr, B, G0, δ, G1, _, d, _, S1, r1, h3, fun σ' S' _ _ => k σ' G1 H1 S' g1.g⟩⟩
theorem ss_asg (ha : SE X O false e f) (hg : SG X O tg T) (hs : swapsWithSole [tg] e pos.line X.env = pure false := by rfl) (hw : swappedStores [tg] e X.env = pure none := by rfl)
    (h1 : (assignEach [tg] X.env).map (·.2) = [assign tg X.env] := by rfl) : SS X O (.Assign [tg] e pos) (sAsg T f) :=
  PS.weak (ps_asg ha hg hs hw h1) fun E σ H q => tsOf_asg q
theorem ss_set (i : Nat) {x : Str} {p2 : Pos} (hN : X.N.Nodup) (ha : SE X O false e f) (hO : i ∉ O := by decide) (hi : X.N[i]? = some x := by rfl) (hx : Loc X.env.scope x := by first | exact Or.inl rfl | exact Or.inr rfl) (hs : swapsWith e (some (.Name x p2)) pos.line X.env = pure false := by rfl)
    (hf : X.fn x = true ∨ X.env.scope.names.lookup x = some .local := by first | exact .inl rfl | exact .inr rfl) : SS X O (.Assign [.Name x p2] e pos) (sAsg (.nm i) f) :=
  PS.weak (ps_set hN hi hx ha hs hf) fun E σ H q => by
    obtain ⟨dr, B, G0, δ, G, w, o, δ', w', S, hf, k⟩ := q
    obtain ⟨d, w1, h1, hf1⟩ := bind_some hf
    obtain ⟨δ1, w2, h2, hf2⟩ := bind_some hf1
    obtain ⟨h3, rfl⟩ := liftO_some h2
    obtain ⟨e, rfl⟩ := pure_some hf2
    cases e
    have e' : some (δ.set i (some d)) = some δ' := by rw [← h3, setT]
    cases e'
    exact ⟨dr, B, G0, δ, G, w, d, _, S, h1, fun v G1 H1 g1 S1 r1 => k _ G1 H1 (S1.set hO r1) g1.g⟩
/-- a, b = x, y of two local names -/
def sPar (i j : Nat) (fs : Env → M (List D)) : F1 := fun δ => do
  let xs ← fs δ
  match xs with
  | [x, y] => pure (.nx, (δ.set i (some x)).set j (some y))
  | _ => fail
theorem ss_par (i j : Nat) {x y : Str} {px py pt : Pos} {kt k2 pt2} (hc : X.calm = true) (hN : X.N.Nodup) (ha : SA X O false [a, b] fs) (hO : i ∉ O := by decide) (hO2 : j ∉ O := by decide) (hi : X.N[i]? = some x := by rfl) (hj : X.N[j]? = some y := by rfl) (hij : i ≠ j := by decide)
    (hx : X.env.scope.names.lookup x = some .local := by rfl) (hy : X.env.scope.names.lookup y = some .local := by rfl)
    (hw : swappedStores [.Tuple [.Name x px, .Name y py] kt pt] (.Tuple [a, b] k2 pt2) X.env = pure (some [x, y]) := by rfl)
    (hs : swapsWithSole [.Tuple [.Name x px, .Name y py] kt pt] (.Tuple [a, b] k2 pt2) pos.line X.env = pure false := by rfl) :
    SS X O (.Assign [.Tuple [.Name x px, .Name y py] kt pt] (.Tuple [a, b] k2 pt2) pos) (sPar i j fs) :=
  PS.weak (ps_par hc hN hi hj hij hx hy ha hw hs) fun E σ H ⟨dr, B, G0, δ, G, w, o, δ', w', S, hf, k⟩ => by
    obtain ⟨xs, w1, h1, hf1⟩ := bind_some hf
    refine ⟨dr, B, G0, δ, G, w, xs, w1, S, h1, fun vs G1 H1 g1 S1 r1 => ?_⟩
    match xs, hf1, r1 with
    | [d1, d2], hf1, r1 =>
      obtain ⟨e, rfl⟩ := pure_some hf1
      cases e
      obtain ⟨v, u, rfl, ra, rb⟩ := r1.two
      exact ⟨v, u, rfl, k _ G1 H1 ((S1.set hO ra).set hO2 rb) g1.g⟩
def sIf (t : Env → M Bool) (F F' : F1) : F1 := fun δ => do
  let k ← t δ
  if k = true then F δ else F' δ
theorem ss_if {A C : List Stmt} (hc : ST X O c t) (h1 : SSs X O A F) (h2 : SSs X O C F') : SS X O (.If c A C pos) (sIf t F F') :=
  PS.weak (ps_if hc h1 h2) fun E σ H ⟨dr, B, G0, δ, G, w, o, δ', w', S, hf, k⟩ => by
    obtain ⟨b, w1, h1, hf1⟩ := bind_some hf
    refine ⟨dr, B, G0, δ, G, w, b, w1, S, h1, fun G1 H1 g1 S1 => ?_⟩
    cases b with
    | true =>
      rw [if_pos rfl] at hf1 ⊢
      exact ⟨dr, B, G0, δ, G1, w1, o, δ', w', S1, hf1, k.mono g1.g⟩
    | false =>
      rw [if_neg Bool.false_ne_true] at hf1 ⊢
      exact ⟨dr, B, G0, δ, G1, w1, o, δ', w', S1, hf1, k.mono g1.g⟩
/-- while, at most n turns -/
def whileL : Nat → (Env → M Bool) → F1 → F1
  | 0, _, _ => fun _ => fail
  | n + 1, t, F => fun δ => do
    let k ← t δ
    if k = true then do
      let (o, δ1) ← F δ
      match o with
      | .nx => whileL n t F δ1
      | .ct => whileL n t F δ1
      | .bk => pure (.nx, δ1)
      | .rt d => pure (.rt d, δ1)
    else pure (.nx, δ)
theorem ss_while {A : List Stmt} (n : Nat) (hp : PassesOwn (model X.prog X.w) X.A X.env X.xe) (hc : ST X O c t) (h1 : SSs X O A F) : SS X O (.While c A [] pos) (whileL n t F) :=
  PS.weak (ps_while hp hc h1) fun E σ H ⟨dr, B, G0, δ, G, w, o, δ', w', S, hf, k⟩ => by
    refine ⟨fun m σ1 H1 => ∃ δ1 G1 w1, SR ⟨X.K, X.mg, dr, O, B, G0⟩ δ1 σ1 G1 H1 w1 ∧ Sub G G1 ∧ whileL m t F δ1 w1 = some ((o, δ'), w'), ⟨n, δ, G, w, S, Sub.refl G, hf⟩, ?_⟩
    rintro m σ1 H1 ⟨δ1, G1, w1, S1, s1, hm⟩
    cases m with
    | zero => cases hm
    | succ m =>
      obtain ⟨b, w2, h2, hm2⟩ := bind_some hm
      refine ⟨dr, B, G0, δ1, G1, w1, b, w2, S1, h2, fun G2 H2 g2 S2 => ?_⟩
      cases b with
      | false =>
        rw [if_neg Bool.false_ne_true] at hm2 ⊢
        obtain ⟨e, rfl⟩ := pure_some hm2
        cases e
        exact k σ1 G2 H2 S2 (s1.trans g2.g)
      | true =>
        rw [if_pos rfl] at hm2 ⊢
        obtain ⟨⟨o3, δ3⟩, w3, h3, hm3⟩ := bind_some hm2
        refine ⟨fun σ' H' => ∃ δ4 G4 w4, SR ⟨X.K, X.mg, dr, O, B, G0⟩ δ4 σ' G4 H' w4 ∧ Sub G G4 ∧ whileL m t F δ4 w4 = some ((o, δ'), w'), fun σ' H' q => ⟨m, Nat.lt_succ_self m, q⟩, ?_⟩
        refine ⟨dr, B, G0, δ1, G2, w2, o3, δ3, w3, S2, h3, ?_⟩
        cases o3 with
        | nx => exact fun σ' G' H' S' s' => ⟨δ3, G', w3, S', (s1.trans g2.g).trans s', hm3⟩
        | ct => exact fun σ' G' H' S' s' => ⟨δ3, G', w3, S', (s1.trans g2.g).trans s', hm3⟩
        | bk =>
          obtain ⟨e, rfl⟩ := pure_some hm3
          cases e
          exact fun σ' G' H' S' s' => k σ' G' H' S' ((s1.trans g2.g).trans s')
        | rt d =>
          obtain ⟨e, rfl⟩ := pure_some hm3
          cases e
          exact k
/-- for -/
def forL (T : Tg) (F : F1) : List D → F1
  | [] => fun δ => pure (.nx, δ)
  | d :: ds => fun δ => do
    let δ1 ← liftO (setT T d δ)
    let (o, δ2) ← F δ1
    match o with
    | .nx => forL T F ds δ2
    | .ct => forL T F ds δ2
    | .bk => pure (.nx, δ2)
    | .rt d => pure (.rt d, δ2)
def sFor (T : Tg) (fs : Env → M (List D)) (F : F1) : F1 := fun δ => do
  let ds ← fs δ
  forL T F ds δ
theorem ss_for {A : List Stmt} (hp : PassesOwn (model X.prog X.w) X.A X.env X.xe) (hc : X.calm = true) (hi : SI X O false tg it fs) (hg : SG X O tg T) (hb : SSs X O A F) (hs : ∀ x, foldedSetIterable it X.env x = pure x := by intro _; rfl) : SS X O (.For tg it A [] pos) (sFor T fs F) :=
  PS.weak (ps_for hp hc hi hg hb hs) fun E σ H ⟨dr, B, G0, δ, G, w, o, δ', w', S, hf, k⟩ => by
    obtain ⟨ds, w1, h1, hf1⟩ := bind_some hf
    refine ⟨dr, B, G0, δ, G, w, ds, w1, S, h1, fun J Gs Hs gs Ss W => ?_⟩
    refine ⟨fun i m σ1 H1 => m = ds.length - i ∧ i ≤ ds.length ∧ ∃ δ1 G1 w1, SR ⟨X.K, X.mg, dr, O, B, G0⟩ δ1 σ1 G1 H1 w1 ∧ Sub Gs G1 ∧ forL T F (ds.drop i) δ1 w1 = some ((o, δ'), w'), ⟨_, rfl, Nat.zero_le _, δ, Gs, w1, Ss, Sub.refl _, hf1⟩, ?_⟩
    rintro i m σ1 H1 ⟨rfl, hi, δ1, G1, w2, S1, s1, hm⟩
    have ok : okOf false dr Hs H1 := fun z => nomatch z
    by_cases hlt : i < ds.length
    · refine .inr ⟨W.go i G1 H1 s1 S1.sub ok hlt, fun σ' H' => i + 1 ≤ ds.length ∧ ∃ δ4 G4 w4, SR ⟨X.K, X.mg, dr, O, B, G0⟩ δ4 σ' G4 H' w4 ∧ Sub Gs G4 ∧ forL T F (ds.drop (i + 1)) δ4 w4 = some ((o, δ'), w'), fun σ' H' q => ⟨_, by omega, rfl, q⟩, fun x H2 y => ?_⟩
      obtain ⟨G2, d, hd, gr, rd⟩ := W.yl i G1 H1 x H2 s1 S1.sub ok hlt y
      have ed : ds.drop i = d :: ds.drop (i + 1) := by
        obtain ⟨h', e'⟩ := List.getElem?_eq_some_iff.mp hd
        rw [List.drop_eq_getElem_cons hlt, e']
      rw [ed] at hm
      obtain ⟨δ3, w3, h3, hm3⟩ := bind_some hm
      obtain ⟨h4, rfl⟩ := liftO_some h3
      obtain ⟨⟨o5, δ5⟩, w5, h5, hm5⟩ := bind_some hm3
      refine ⟨dr, B, G0, δ1, G2, _, d, δ3, S1.gr gr, rd, h4, fun σ' S' _ _ => ?_⟩
      refine ⟨dr, B, G0, δ3, G2, _, o5, δ5, w5, S', h5, ?_⟩
      cases o5 with
      | nx => exact fun σ' G' H' S' s' => ⟨hlt, δ5, G', w5, S', (s1.trans gr.g).trans s', hm5⟩
      | ct => exact fun σ' G' H' S' s' => ⟨hlt, δ5, G', w5, S', (s1.trans gr.g).trans s', hm5⟩
      | bk =>
        obtain ⟨e, rfl⟩ := pure_some hm5
        cases e
        exact fun σ' G' H' S' s' => k σ' G' H' S' (((gs.g.trans s1).trans gr.g).trans s')
      | rt d =>
        obtain ⟨e, rfl⟩ := pure_some hm5
        cases e
        exact k
    · have e : i = ds.length := by omega
      subst e
      rw [List.drop_length] at hm
      obtain ⟨e, rfl⟩ := pure_some hm
      cases e
      exact .inl ⟨W.st G1 H1 s1 S1.sub ok, k σ1 G1 H1 S1 (gs.g.trans s1)⟩
end
end Fc

/-! Fc, part G: comprehensions, lists of one's own, calls of defs. -/
namespace Fc
open PySem PySem.Spec PyProof.Rows L2

section
variable {X : Cx} {O : List Nat} {al bl cl : Bool} {a b c e tg it : Expr} {es tgs ifs : List Expr} {f g h : Env → M D} {fs : Env → M (List D)} {pos q : Pos} {T : Tg} {Ts : List Tg} {st : Stmt} {sts rest : List Stmt} {F F' : F1} {t : Env → M Bool}
def lcL (T : Tg) (t : Env → M Bool) (f : Env → M D) (δ : Env) : List D → M (List D)
  | [] => pure []
  | d :: ds => do
    let δ1 ← liftO (setT T d δ)
    let k ← t δ1
    if k = true then do
      let y ← f δ1
      let ys ← lcL T t f δ ds
      pure (y :: ys)
    else lcL T t f δ ds
def eLc (own : List Nat) (T : Tg) (fs : Env → M (List D)) (t : Env → M Bool) (f : Env → M D) : Env → M D := fun δ => do
  let ds ← fs δ
  if ds.length ≤ LIM then do
    let ys ← lcL T t f (wipeD δ own) ds
    pure (.lst ys)
  else fail
theorem tf_lc {K : PySem.W.Frag} {mg : Str → Option Value} {own : List Nat} (hT : ∀ i ∈ T.ix, i ∈ own) {σ : L2.St} {H : Hp} {Q : VK} (q : tfOf K mg O (eLc own T fs t f) σ H Q) :
    tLc (tiOf K mg O true fs) (tgOf K mg O T) (ttOf K mg O t) (tOf K mg O false f) own σ H Q := by
  obtain ⟨dr, B, G0, δ, G, w, d, w', S, hf, k⟩ := q
  obtain ⟨ds, w1, h1, hf1⟩ := bind_some hf
  have hlen : ds.length ≤ LIM := by
    by_cases hl : ds.length ≤ LIM
    · exact hl
    · rw [if_neg hl] at hf1
      cases hf1
  rw [if_pos hlen] at hf1
  obtain ⟨ys, w2, h2, hf2⟩ := bind_some hf1
  obtain ⟨e0, rfl⟩ := pure_some hf2
  subst e0
  refine ⟨dr, B, G0, δ, G, w, ds, w1, S, h1, fun J Gs Hs gs Ss W => fun Dn hD => ?_⟩
  have hDne : Dn ≠ dr := fun z => by
    obtain ⟨o, q⟩ := Ss.drS
    have q' : Hs dr = some o := q
    rw [← z, hD] at q'
    cases q'
  have hDG : Gs Dn = none := sub_none Ss.sub hD
  have hDB : B Dn = none := by
    cases q : B Dn with
    | none => rfl
    | some o =>
      have := Ss.bas Dn o hDne q
      rw [hD] at this
      cases this
  have hDH : H Dn = none := by
    cases q : H Dn with
    | none => rfl
    | some o =>
      have := gs.h Dn o hDne q
      rw [hD] at this
      cases this
  have hDO : ∀ (j : Nat) (e : D), j ∈ O → δ[j]? = some (some e) → σ[j]? ≠ some (some (.ref Dn)) := fun j e hj he hs => by
    obtain ⟨a', vs', ds', z0, z1, z2, _⟩ := Ss.owns j e he hj
    rw [hs] at z1
    cases z1
    rw [hD] at z2
    cases z2
  let Iv : Nat → Hp → Prop := fun i H1 => i ≤ ds.length ∧ ∃ (G1 : Hp) (w1 : Dw) (acc : List D) (va : List V) (ys2 : List D), SR ⟨K, mg, dr, O, B, G0⟩ δ σ G1 H1 w1 ∧ Sub Gs G1 ∧ (∀ a o, a ≠ dr → Hs a = some o → H1 a = some o) ∧
    (∃ o, H1 dr = some o) ∧ (∀ a o, Hs a = some o → Gs a = none → G1 a = none) ∧
    H1 Dn = some (.lst va) ∧ G1 Dn = none ∧ RepAll ⟨K, mg, dr, O, B, G0⟩ G1 va acc ∧ acc.length ≤ i ∧ lcL T t f (wipeD δ own) (ds.drop i) w1 = some (ys2, w2) ∧ acc ++ ys2 = ys
  refine ⟨fun i m H1 => m = ds.length - i ∧ Iv i H1, ⟨_, rfl, Nat.zero_le _, Gs, w1, [], [], ys, ?_, Sub.refl _, fun a o n q => ?_, ?_, fun _ _ _ n => n, upd_same, hDG, .nil, Nat.le_refl _, h2, rfl⟩, ?_⟩
  · exact Ss.gr (Gr.laid Ss.sub hD)
  · rw [upd_ne (ne_of_none q hD)]
    exact q
  · obtain ⟨o, q⟩ := Ss.drS
    exact ⟨o, by rw [upd_ne (Ne.symm hDne)]; exact q⟩
  · rintro i m H1 ⟨rfl, hi, G1, w3, acc, va, ys2, S1, s1, b1, dr1, kk1, hva, hG1, rva, hal, hm, hys⟩
    have ok : okOf true dr Hs H1 := fun _ => b1
    by_cases hlt : i < ds.length
    · refine .inr ⟨W.go i G1 H1 s1 S1.sub ok hlt, Iv (i + 1), fun H' q => ⟨_, by omega, rfl, q⟩, fun x H2 y => ?_⟩
      obtain ⟨G2, d0, hd, gr, rd⟩ := W.yl i G1 H1 x H2 s1 S1.sub ok hlt y
      have ed : ds.drop i = d0 :: ds.drop (i + 1) := by
        obtain ⟨h', e'⟩ := List.getElem?_eq_some_iff.mp hd
        rw [List.drop_eq_getElem_cons hlt, e']
      rw [ed] at hm
      obtain ⟨δ3, w4, h3, hm3⟩ := bind_some hm
      obtain ⟨h4, rfl⟩ := liftO_some h3
      obtain ⟨b5, w5, h5, hm5⟩ := bind_some hm3
      have S2 := S1.gr gr
      refine ⟨dr, B, G0, wipeD δ own, G2, _, d0, δ3, S2.wipe own, rd, h4, fun σ2 Sσ l2 k2 => ⟨wipe_wipe (wipe_same l2 own fun j hj => k2 j fun z => hj (hT j z)), ?_⟩⟩
      refine ⟨dr, B, G0, δ3, G2, _, b5, w5, Sσ, h5, fun G3 H3 g3 S3 => ?_⟩
      -- the outer state, and what is known of the new list, carried on
      have keep : ∀ (G3 H3 : Hp) (w5 : Dw), Grow ⟨K, mg, dr, O, B, G0⟩ G2 H2 G3 H3 → SR ⟨K, mg, dr, O, B, G0⟩ δ3 σ2 G3 H3 w5 → SR ⟨K, mg, dr, O, B, G0⟩ δ σ G3 H3 w5 ∧ Sub Gs G3 ∧ (∀ a o, a ≠ dr → Hs a = some o → H3 a = some o) ∧ (∃ o, H3 dr = some o) ∧ (∀ a o, Hs a = some o → Gs a = none → G3 a = none) ∧
          H3 Dn = some (.lst va) ∧ G3 Dn = none ∧ RepAll ⟨K, mg, dr, O, B, G0⟩ G3 va acc := fun G3 H3 w5 g3 S3 => by
        have So : SR ⟨K, mg, dr, O, B, G0⟩ δ σ G3 H3 w5 := S2.step g3 S3.sub S3.draw
        refine ⟨So, (s1.trans gr.g).trans g3.g, fun a o n q => g3.h a o n (gr.h a o (b1 a o n q)), So.drS, fun a o q1 q2 => ?_, g3.h _ _ hDne (gr.h _ _ hva), g3.k _ _ (gr.h _ _ hva) (gr.k _ _ hva hG1), rva.mono (gr.g.trans g3.g)⟩
        by_cases z : a = dr
        · rw [z]; exact S3.draw.out
        · have q3 := b1 a o z q1
          exact g3.k a o (gr.h a o q3) (gr.k a o q3 (kk1 a o q1 q2))
      cases b5 with
      | false =>
        rw [if_neg Bool.false_ne_true] at hm5
        show Iv (i + 1) H3
        obtain ⟨S4, s4, b4, dr4, kk4, v4, n4, r4⟩ := keep G3 H3 w5 g3 S3
        exact ⟨hlt, G3, w5, acc, va, ys2, S4, s4, b4, dr4, kk4, v4, n4, r4, by omega, hm5, hys⟩
      | true =>
        rw [if_pos rfl] at hm5
        show tOf K mg O false f σ2 H3 fun y H4 => ∃ acc, H4 Dn = some (HO.lst acc) ∧ acc.length < sizeLine ∧ Iv (i + 1) (upd H4 Dn (HO.lst (acc ++ [y])))
        obtain ⟨y6, w6, h6, hm6⟩ := bind_some hm5
        obtain ⟨ys7, w7, h7, hm7⟩ := bind_some hm6
        obtain ⟨e8, rfl⟩ := pure_some hm7
        refine ⟨dr, B, G0, δ3, G3, w5, y6, w6, S3, h6, fun yv G4 H4 g4 S4 ry => ?_⟩
        obtain ⟨S5, s5, b5, dr5, kk5, v5, n5, r5⟩ := keep G4 H4 w6 (g3.trans g4) S4
        refine ⟨va, v5, lim_lt ?_, hlt, G4, w6, acc ++ [y6], va ++ [yv], ys7, S5.aside n5 hDB hDO, s5, fun a o n q => ?_, ?_, kk5, upd_same, n5, r5.append (.cons ry .nil), ?_, h7, ?_⟩
        · rw [rva.length]; omega
        · have hne : a ≠ Dn := fun z => by rw [z, hD] at q; cases q
          rw [upd_ne hne]
          exact b5 a o n q
        · obtain ⟨o, q⟩ := dr5
          exact ⟨o, by rw [upd_ne (Ne.symm hDne)]; exact q⟩
        · rw [List.length_append]
          have : [y6].length = 1 := rfl
          omega
        · rw [← hys, ← e8, List.append_assoc]
          rfl
    · have e : i = ds.length := by omega
      subst e
      rw [List.drop_length] at hm
      obtain ⟨e9, rfl⟩ := pure_some hm
      subst e9
      rw [List.append_nil] at hys
      subst hys
      refine .inl ⟨W.st G1 H1 s1 S1.sub ok, k Dn va acc G1 H1 rfl ⟨gs.g.trans s1, fun a o n q => b1 a o n (gs.h a o n q), fun o q => dr1, fun a o q1 q2 => ?_⟩ S1 hDH hva hG1 hDne rva⟩
      by_cases z : a = dr
      · rw [z]; exact S1.draw.out
      · exact kk1 a o (gs.h a o z q1) (gs.k a o q1 q2)
def STs (X : Cx) (O : List Nat) (ifs : List Expr) (t : Env → M Bool) : Prop := PTs X ifs (ttOf X.K X.mg O t)
theorem PTs.weak {X : Cx} {e : List Expr} {t t' : TT} (h : PTs X e t) (k : ∀ σ H Q, t' σ H Q → t σ H Q) : PTs X e t' := ⟨fun pins s σ H Q I q => h.run pins s σ H Q I (k σ H Q q)⟩
def tYesF : Env → M Bool := fun _ => pure true
theorem sts_nil : STs X O [] tYesF := PTs.weak pts_nil fun σ H Q ⟨dr, B, G0, δ, G, w, d, w', S, hf, k⟩ => by
  obtain ⟨rfl, rfl⟩ := pure_some hf
  exact k G H (.refl _ G H) S
theorem sts_one (h : ST X O c t) : STs X O [c] t := pts_one h
variable {scope : Scope} {own : List (Str × Nat)} {ix : List Nat}
theorem sf_lc (hc : X.calm = true) (hN : X.N.Nodup) (hi : SI X O al tg it fs) (ok : BlkOk X.N X.env.scope scope own) (hT : ∀ i ∈ T.ix, i ∈ ix)
    (hg : ∀ (s : Shared) (H : Hp) (C : Addr) (cl : List (Str × Addr)) (fp : List Addr), SG (X.blk s H scope (compEnvC scope cl C X.env) fp) O tg T) (ht : ∀ (s : Shared) (H : Hp) (C : Addr) (cl : List (Str × Addr)) (fp : List Addr), STs (X.blk s H scope (compEnvC scope cl C X.env) fp) O ifs t)
    (he : ∀ (s : Shared) (H : Hp) (C : Addr) (cl : List (Str × Addr)) (fp : List Addr), SE (X.blk s H scope (compEnvC scope cl C X.env) fp) O false e f) (hs : ∀ x, foldedSetIterable it X.env x = pure x := by intro _; rfl) (hx : own.map (·.2) = ix := by rfl) :
    SF X O (.ListComp e [⟨tg, it, ifs, 0⟩] scope pos) (eLc ix T fs t f) :=
  PE.weak (pe_lc (g := tgOf X.K X.mg O T) (tt := ttOf X.K X.mg O t) (te := tOf X.K X.mg O false f) hc hN (SI.any hi) ok hg ht he hs) fun _ _ _ q => by subst hx; exact tf_lc hT q
theorem se_lc (hc : X.calm = true) (hN : X.N.Nodup) (hi : SI X O al tg it fs) (ok : BlkOk X.N X.env.scope scope own) (hT : ∀ i ∈ T.ix, i ∈ ix)
    (hg : ∀ (s : Shared) (H : Hp) (C : Addr) (cl : List (Str × Addr)) (fp : List Addr), SG (X.blk s H scope (compEnvC scope cl C X.env) fp) O tg T) (ht : ∀ (s : Shared) (H : Hp) (C : Addr) (cl : List (Str × Addr)) (fp : List Addr), STs (X.blk s H scope (compEnvC scope cl C X.env) fp) O ifs t)
    (he : ∀ (s : Shared) (H : Hp) (C : Addr) (cl : List (Str × Addr)) (fp : List Addr), SE (X.blk s H scope (compEnvC scope cl C X.env) fp) O false e f) (hs : ∀ x, foldedSetIterable it X.env x = pure x := by intro _; rfl) (hx : own.map (·.2) = ix := by rfl) :
    SE X O false (.ListComp e [⟨tg, it, ifs, 0⟩] scope pos) (eLc ix T fs t f) := se_new (sf_lc hc hN hi ok hT hg ht he hs hx)

/-! ### a new list given to a name -/
theorem tfOf_e {K : PySem.W.Frag} {mg : Str → Option Value} {σ : L2.St} {H : Hp} {Q : VK} (q : tOf K mg O false f σ H Q) : tfOf K mg O f σ H Q := by
  obtain ⟨dr, B, G0, δ, G, w, d, w', S, hf, k⟩ := q
  refine ⟨dr, B, G0, δ, G, w, d, w', S, hf, fun a vs ds G1 H1 ed g1 S1 h0 h1 h2 hne r => ?_⟩
  subst ed
  have sb : Sub (upd G1 a (.lst vs)) H1 := fun b o q => by
    by_cases hb : b = a
    · subst hb
      rw [upd_same] at q
      cases q
      exact h1
    · rw [upd_ne hb] at q
      exact S1.sub b o q
  have sg : Sub G1 (upd G1 a (.lst vs)) := fun b o q => by
    rw [upd_ne (ne_of_none q h2)]
    exact q
  have sk : ∀ b o, H b = some o → G b = none → (upd G1 a (HO.lst vs)) b = none := fun b o q1 q2 => by
    have hb : b ≠ a := fun z => by rw [z, h0] at q1; cases q1
    rw [upd_ne hb]
    exact g1.k b o q1 q2
  have gg : Grow ⟨K, mg, dr, O, B, G0⟩ G H (upd G1 a (.lst vs)) H1 := ⟨g1.g.trans sg, g1.h, g1.hd, sk⟩
  have dd : DrawAt ⟨K, mg, dr, O, B, G0⟩ w' (upd G1 a (.lst vs)) H1 := by
    obtain ⟨ok, ⟨sc, d1, d2⟩, d3⟩ := S1.draw
    exact ⟨ok, ⟨sc, d1, sub_l sg d2⟩, by rw [upd_ne (fun z => hne z.symm)]; exact d3⟩
  exact k _ (upd G1 a (.lst vs)) H1 gg (S.step gg sb dd) (.lst upd_same (r.mono sg))
/-- y = [..], y a plain slot: the list stands still from then on -/
theorem ss_setLc (i : Nat) {y : Str} {py spos : Pos} (hc : X.calm = true) (hN : X.N.Nodup) (hi : SI X O al tg it fs) (ok : BlkOk X.N X.env.scope scope own) (hT : ∀ j ∈ T.ix, j ∈ ix)
    (hg : ∀ (s : Shared) (H : Hp) (C : Addr) (cl : List (Str × Addr)) (fp : List Addr), SG (X.blk s H scope (compEnvC scope cl C X.env) fp) O tg T) (ht : ∀ (s : Shared) (H : Hp) (C : Addr) (cl : List (Str × Addr)) (fp : List Addr), STs (X.blk s H scope (compEnvC scope cl C X.env) fp) O ifs t)
    (he : ∀ (s : Shared) (H : Hp) (C : Addr) (cl : List (Str × Addr)) (fp : List Addr), SE (X.blk s H scope (compEnvC scope cl C X.env) fp) O false e f)
    (hO : i ∉ O := by decide) (hy : X.N[i]? = some y := by rfl) (hyl : X.env.scope.names.lookup y = some .local := by rfl) (hsw : swapsWith (.ListComp e [⟨tg, it, ifs, 0⟩] scope pos) (some (.Name y py)) spos.line X.env = pure true := by exact sw_true rfl rfl rfl (by decide +kernel)) (hs : ∀ x, foldedSetIterable it X.env x = pure x := by intro _; rfl) (hx : own.map (·.2) = ix := by rfl) :
    SS X O (.Assign [.Name y py] (.ListComp e [⟨tg, it, ifs, 0⟩] scope pos) spos) (sAsg (.nm i) (eLc ix T fs t f)) :=
  PS.weak (ps_setLc (g := tgOf X.K X.mg O T) (tt := ttOf X.K X.mg O t) (te := tOf X.K X.mg O false f) hc hN hy hyl hsw (SI.any hi) ok hg ht he hs) fun E σ H q => by
    subst hx
    refine tf_lc hT (tfOf_e ?_)
    obtain ⟨dr, B, G0, δ, G, w, o, δ', w', S, hf, k⟩ := q
    obtain ⟨d, w1, h1, hf1⟩ := bind_some hf
    obtain ⟨δ1, w2, h2, hf2⟩ := bind_some hf1
    obtain ⟨h3, rfl⟩ := liftO_some h2
    obtain ⟨e, rfl⟩ := pure_some hf2
    cases e
    have e' : some (δ.set i (some d)) = some δ' := by rw [← h3, setT]
    cases e'
    exact ⟨dr, B, G0, δ, G, w, d, _, S, h1, fun v G1 H1 g1 S1 r1 => k _ G1 H1 (S1.set hO r1) g1.g⟩
/-- a name of O takes a new list -/
theorem tfOf_own {K : PySem.W.Frag} {mg : Str → Option Value} {i : Nat} {E : Ends} {σ : L2.St} {H : Hp} (hO : i ∈ O) (q : tsOf K mg O (sAsg (.nm i) f) E σ H) : tfOf K mg O f σ H (fun x H1 => gName i x σ H1 E.nx) := by
  obtain ⟨dr, B, G0, δ, G, w, o, δ', w', S, hf, k⟩ := q
  obtain ⟨d, w1, h1, hf1⟩ := bind_some hf
  obtain ⟨δ1, w2, h2, hf2⟩ := bind_some hf1
  obtain ⟨h3, rfl⟩ := liftO_some h2
  obtain ⟨e, rfl⟩ := pure_some hf2
  cases e
  have e' : some (δ.set i (some d)) = some δ' := by rw [← h3, setT]
  cases e'
  refine ⟨dr, B, G0, δ, G, w, d, _, S, h1, fun a vs ds G1 H1 ed g1 S1 z0 z1 z2 hne r => ?_⟩
  subst ed
  have hB : B a = none := by
    cases q : B a with
    | none => rfl
    | some o => have := S.bas a o hne q; rw [z0] at this; cases this
  have hX : ∀ (j : Nat) (e : D), j ∈ O → δ[j]? = some (some e) → σ[j]? ≠ some (some (.ref a)) := fun j e hj he hs => by
    obtain ⟨a', vs', ds', y0, y1, y2, _⟩ := S.owns j e he hj
    rw [hs] at y1
    cases y1
    rw [z0] at y2
    cases y2
  rcases S1.setO (i := i) z1 z2 hB hX r with S2 | n
  · exact k _ G1 H1 S2 g1.g
  · exact absurd hO n
theorem ss_setO (i : Nat) {x : Str} {p2 : Pos} (hN : X.N.Nodup) (ha : SF X O e f) (hO : i ∈ O := by decide) (hi : X.N[i]? = some x := by rfl) (hx : Loc X.env.scope x := by first | exact Or.inl rfl | exact Or.inr rfl) (hs : swapsWith e (some (.Name x p2)) pos.line X.env = pure false := by rfl)
    (hf : X.fn x = true ∨ X.env.scope.names.lookup x = some .local := by first | exact .inl rfl | exact .inr rfl) : SS X O (.Assign [.Name x p2] e pos) (sAsg (.nm i) f) :=
  PS.weak (ps_set hN hi hx ha hs hf) fun E σ H q => tfOf_own hO q
theorem ss_setLcO (i : Nat) {y : Str} {py spos : Pos} (hc : X.calm = true) (hN : X.N.Nodup) (hi : SI X O al tg it fs) (ok : BlkOk X.N X.env.scope scope own) (hT : ∀ j ∈ T.ix, j ∈ ix)
    (hg : ∀ (s : Shared) (H : Hp) (C : Addr) (cl : List (Str × Addr)) (fp : List Addr), SG (X.blk s H scope (compEnvC scope cl C X.env) fp) O tg T) (ht : ∀ (s : Shared) (H : Hp) (C : Addr) (cl : List (Str × Addr)) (fp : List Addr), STs (X.blk s H scope (compEnvC scope cl C X.env) fp) O ifs t)
    (he : ∀ (s : Shared) (H : Hp) (C : Addr) (cl : List (Str × Addr)) (fp : List Addr), SE (X.blk s H scope (compEnvC scope cl C X.env) fp) O false e f)
    (hO : i ∈ O := by decide) (hy : X.N[i]? = some y := by rfl) (hyl : X.env.scope.names.lookup y = some .local := by rfl) (hsw : swapsWith (.ListComp e [⟨tg, it, ifs, 0⟩] scope pos) (some (.Name y py)) spos.line X.env = pure true := by exact sw_true rfl rfl rfl (by decide +kernel)) (hs : ∀ x, foldedSetIterable it X.env x = pure x := by intro _; rfl) (hx : own.map (·.2) = ix := by rfl) :
    SS X O (.Assign [.Name y py] (.ListComp e [⟨tg, it, ifs, 0⟩] scope pos) spos) (sAsg (.nm i) (eLc ix T fs t f)) :=
  PS.weak (ps_setLc (g := tgOf X.K X.mg O T) (tt := ttOf X.K X.mg O t) (te := tOf X.K X.mg O false f) hc hN hy hyl hsw (SI.any hi) ok hg ht he hs) fun E σ H q => by subst hx; exact tf_lc hT (tfOf_own hO q)
/-! ### a list of one's own is changed -/
/-- the list in slot i becomes what op says -/
def chg (i : Nat) (op : List D → Option (List D)) (δ : Env) : Option Env := match δ[i]? with
  | some (some (.lst ds)) => (op ds).map fun ds' => δ.set i (some (.lst ds'))
  | _ => none
theorem chg_some {i : Nat} {op : List D → Option (List D)} {δ δ' : Env} (h : chg i op δ = some δ') : ∃ ds ds', δ[i]? = some (some (.lst ds)) ∧ op ds = some ds' ∧ δ' = δ.set i (some (.lst ds')) := by
  unfold chg at h
  cases q : δ[i]? with
  | none => rw [q] at h; cases h
  | some o =>
    cases o with
    | none => rw [q] at h; cases h
    | some d =>
      cases d <;> try (rw [q] at h; cases h; done)
      rename_i ds
      rw [q] at h
      cases q2 : op ds with
      | none => simp [q2] at h
      | some ds' =>
        have h' : some (δ.set i (some (.lst ds'))) = some δ' := by rw [← h]; simp [q2]
        exact ⟨ds, ds', rfl, q2, (Option.some.inj h').symm⟩
def opApp (d : D) (ds : List D) : Option (List D) := if ds.length < LIM then some (ds ++ [d]) else none
def sApp (i : Nat) (f : Env → M D) : F1 := fun δ => do
  let d ← f δ
  let δ' ← liftO (chg i (opApp d) δ)
  pure (.nx, δ')
theorem tyV_lst {K : PySem.W.Frag} {H : Hp} {a : Addr} {vs : List V} (h : H a = some (.lst vs)) : tyV K "list" (.ref a) H := Or.inl ⟨rfl, _, Or.inl (Or.inl h)⟩
theorem ss_app (i : Nat) {x : Str} {p2 p3 : Pos} (ha : SE X O false e f) (hO : i ∈ O := by decide) (hN : X.N[i]? = some x := by rfl) (hv : Vis X.env.scope x := by first | exact Or.inl rfl | exact Or.inr (Or.inl rfl)) (hs : swapsWith (.Call (.Attribute (.Name x p2) "append" p3) [e] [] q) none pos.line X.env = pure false := by rfl)
    (hd : (x == ("__debug__" : Str)) = false := by decide) (hcd : (x == ("__classdict__" : Str)) = false := by decide) (he : starEach [e] X.env = (false, eval e X.env) :: starEach [] X.env := by rfl)
    (hbase : attributeBase (.Name x p2) "append" X.env (eval (.Name x p2) X.env) = eval (.Name x p2) X.env := by rfl)
    (hfew : ((backTo q (starEach [e] X.env)).all (fun x => !x.1) && (backToKw q (keywordEach [] X.env)).all (fun x => x.1.isSome)
      && decide ([e].length + ([] : List Keyword).length + (if ([] : List Keyword).isEmpty then 0 else 1) < 30)) = true := by rfl)
    (hline : (p3.endLine == q.line) = true := by rfl) (hplain : (backTo q (starEach [] X.env)).any (·.1) = false := by rfl) :
    SS X O (.Expr (.Call (.Attribute (.Name x p2) "append" p3) [e] [] q) pos) (sApp i f) :=
  have hpe : PE X (.Call (.Attribute (.Name x p2) "append" p3) [e] [] q) (tBM X.K "list" rAppend (tVar i) (tCons (tOf X.K X.mg O false f) tNil)) :=
    pe_bm PySem.F.plainAttrs_list PySem.F.slot_list_append PySem.F.type_list_append mt_append (pe_var hN (by rcases hv with h | h; exact .inl h; exact .inr h) hd hcd) (pa_cons ha pa_nil he) hbase hfew hline he hplain
  PS.weak (ps_expr hpe hs) fun E σ H ⟨dr, B, G0, δ, G, w, o, δ', w', S, hf, k⟩ => by
    obtain ⟨d, w1, h1, hf1⟩ := bind_some hf
    obtain ⟨δ1, w2, h2, hf2⟩ := bind_some hf1
    obtain ⟨h3, rfl⟩ := liftO_some h2
    obtain ⟨e, rfl⟩ := pure_some hf2
    cases e
    obtain ⟨ds, ds', e1, e2, e3⟩ := chg_some h3
    subst e3
    obtain ⟨a, vs, ds0, z0, z1, z2, z3, z4, z5⟩ := S.owns i _ e1 hO
    refine ⟨.ref a, z1, tyV_lst z2, dr, B, G0, δ, G, w, d, _, S, h1, fun v G1 H1 g1 S1 r1 => ?_⟩
    obtain ⟨a', vs', ds1, y0, y1, y2, y3, y4, y5⟩ := S1.owns i _ e1 hO
    rw [z1] at y1
    cases y1
    cases y0
    have hl : ds.length < LIM ∧ ds' = ds ++ [d] := by
      unfold opApp at e2
      split at e2
      · rename_i hl
        exact ⟨hl, (Option.some.inj e2).symm⟩
      · cases e2
    refine ⟨a, vs', v, rfl, rfl, y2, lim_lt (by rw [y5.length]; exact hl.1), ?_⟩
    rw [hl.2] at k
    exact k σ G1 _ (S1.mut hO e1 z1 y2 (y5.append (.cons r1 .nil))) g1.g
end
end Fc

/-! Fc, part H: defs and their calls; the drawing list; a law's own def. -/
namespace Fc
open PySem PySem.Spec PyProof.Rows L2

theorem Rep.to' {K : PySem.W.Frag} {mg : Str → Option Value} {dr : Addr} {O O' : List Nat} {B B' G0 G0' G : Hp} {v : V} {d : D} (h : Rep ⟨K, mg, dr, O, B, G0⟩ G v d) : Rep ⟨K, mg, dr, O', B', G0'⟩ G v d := Rep.to (by rfl) (by rfl) (by rfl) h
theorem RepAll.to' {K : PySem.W.Frag} {mg : Str → Option Value} {dr : Addr} {O O' : List Nat} {B B' G0 G0' G : Hp} {v : List V} {d : List D} (h : RepAll ⟨K, mg, dr, O, B, G0⟩ G v d) : RepAll ⟨K, mg, dr, O', B', G0'⟩ G v d := RepAll.to (by rfl) (by rfl) (by rfl) h
/-- what a def promises that computes F -/
def spOf (K : PySem.W.Frag) (mg : Str → Option Value) (F : List D → M D) : Sp := fun vs H Q _ => ∃ (dr : Addr) (G : Hp) (w : Dw) (ds : List D) (d : D) (w' : Dw), Sub G H ∧ DrawAt ⟨K, mg, dr, [], H, G⟩ w G H ∧ RepAll ⟨K, mg, dr, [], H, G⟩ G vs ds ∧ F ds w = some (d, w') ∧
  ∀ v G' H', Fin ⟨K, mg, dr, [], H, G⟩ w' G' H' → Rep ⟨K, mg, dr, [], H, G⟩ G' v d → Q v H'
def eDef (F : List D → M D) (fs : Env → M (List D)) : Env → M D := fun δ => do
  let xs ← fs δ
  F xs
section
variable {X : Cx} {O : List Nat} {e : Expr} {es : List Expr} {fs : Env → M (List D)} {F : List D → M D} {k : Nat} {f : Addr} {fd : FuncData} {ps : List Str} {x : Str} {p pos : Pos}
theorem tOf_def {K : PySem.W.Frag} {mg : Str → Option Value} {σ : L2.St} {H : Hp} {Q : VK} (q : tOf K mg O false (eDef F fs) σ H Q) : tCall (spOf K mg F) [] E0 (taOf K mg O false fs) σ H Q := by
  obtain ⟨dr, B, G0, δ, G, w, d, w', S, hf, k⟩ := q
  obtain ⟨xs, w1, h1, hf1⟩ := bind_some hf
  refine ⟨dr, B, G0, δ, G, w, xs, w1, S, h1, fun vs G1 H1 g1 S1 r1 => ?_⟩
  show spOf K mg F (vs ++ []) H1 Q E0
  rw [List.append_nil]
  refine ⟨dr, G1, w1, xs, d, w', S1.sub, ⟨S1.draw.ok, S1.draw.at_, S1.draw.out⟩, RepAll.to' r1.all, hf1, fun v G2 H2 n r => ?_⟩
  have gr : Grow ⟨K, mg, dr, O, B, G0⟩ G1 H1 G2 H2 := ⟨n.g0, fun a o ne q => n.bas a o ne q, fun o q => let ⟨_, z, _⟩ := n.draw.at_; ⟨_, z⟩, fun a o q1 q2 => n.kp a o q1 q2⟩
  exact k v G2 H2 (g1.trans gr) (S1.step gr n.sub ⟨n.draw.ok, n.draw.at_, n.draw.out⟩) (Rep.to' r)
theorem se_def (Fk : FnOk X.prog X.w X.K X.mg X.base CX0 k f fd ps (spOf X.K X.mg F)) (hr : Room k X.A) (hg : Gl X x) (hm : X.mg x = some (.ref f)) (hk : PySem.W.keepIn X.K (.ref f) = true) (hb : Binds X.K fd ps []) (ha : SA X O false (e :: es) fs)
    (hdb : (x == ("__debug__" : Str)) = false := by decide) (he : starEach (e :: es) X.env = (false, eval e X.env) :: starEach es X.env := by rfl) (hpl : (backTo pos (starEach es X.env)).any (·.1) = false := by rfl) :
    SE X O false (.Call (.Name x p) (e :: es) [] pos) (eDef F fs) :=
  PE.weak (pe_call (dvs := []) (ds := []) (E := E0) Fk hr hg hm hk hb .nil pass0 ha hdb he hpl) fun σ H Q q => tOf_def q
end

/-- a body with its parameters, as a function on data: n parameters, m slots -/
def bodyF (n m : Nat) (F : F1) (ds : List D) : M D := if ds.length = n then do
    let (o, _) ← F (ds.map some ++ List.replicate (m - ds.length) none)
    match o with
    | .rt d => pure d
    | .nx => pure .non
    | _ => fail
  else fail
section
variable {P : Program} {w : World} {K : PySem.W.Frag} {mg : Str → Option Value} {base : Heap}
theorem start_get {N : Nat} {ds : List D} {i : Nat} {d : D} (h : (ds.map some ++ List.replicate (N - ds.length) none)[i]? = some (some d)) : ds[i]? = some d ∧ i < ds.length := by
  by_cases hi : i < ds.length
  · rw [List.getElem?_append_left (by simpa using hi), List.getElem?_map] at h
    cases q : ds[i]? with
    | none => rw [q] at h; cases h
    | some e =>
      rw [q] at h
      have h' : some (some e) = some (some d) := h
      cases h'
      exact ⟨rfl, hi⟩
  · rw [List.getElem?_append_right (by simpa using hi)] at h
    rw [List.getElem?_replicate] at h
    split at h
    · cases h
    · cases h
theorem fn_ok {x qual : Str} {st : Stmt} {f : Addr} {fd : FuncData} {N ps : List Str} {k : Nat} {O : List Nat} {F : F1} (Fu : Fun K x qual st f fd) (sc : FnScope N ps (defScope st)) (hO : ∀ i ∈ O, ps.length ≤ i) (hN : ps.length ≤ N.length)
    (hb : ∀ (cdv : Value) (A : Around) (outer : List PySem.Env) (s : Shared) (H : Hp) (E : XK), Room k (A.deeper (envOfC qual (defScope st) s.heap.objs.size f cdv)) → SSs (cxOf CX0 P w K mg base N qual (defScope st) f cdv A outer s H E).nox O (defBody st) F) :
    FnOk P w K mg base CX0 (k + 1) f fd ps (spOf K mg (bodyF ps.length N.length F)) := by
  refine Fu.ok sc (fun vs H Q E h => ?_) (fun cdv A outer s H vs Q E hr h => ?_)
  · obtain ⟨dr, G, w, ds, d, w', hs, hd, r, hf, q⟩ := h
    rw [r.length]
    unfold bodyF at hf
    split at hf
    · assumption
    · cases hf
  · obtain ⟨dr, G, w1, ds, d, w', hs, hd, r, hf, q⟩ := h
    have hlen : ds.length = ps.length := by
      unfold bodyF at hf
      split at hf
      · assumption
      · cases hf
    unfold bodyF at hf
    rw [if_pos hlen] at hf
    obtain ⟨⟨o, δ'⟩, w2, h1, hf1⟩ := bind_some hf
    refine ⟨_, hb cdv A outer s H E hr, dr, H, G, ds.map some ++ List.replicate (N.length - ds.length) none, G, w1, o, δ', w2, ⟨hs, Sub.refl G, fun _ _ _ q => q, ?_, ?_, fun i e hi n => ?_, fun i e hi n => ?_, fun i j e1 e2 a ni nj q1 q2 => ?_, ⟨hd.ok, hd.at_, hd.out⟩, fun _ _ _ n => n⟩, h1, ?_⟩
    · obtain ⟨_, z, _⟩ := hd.at_
      exact ⟨_, z⟩
    · unfold L2.start
      rw [List.length_append, List.length_append, List.length_map, List.length_map, List.length_replicate, List.length_replicate, r.length]
    · obtain ⟨z1, z2⟩ := start_get hi
      obtain ⟨v, e1, r1⟩ := r.get z1
      refine ⟨v, ?_, Rep.to' r1⟩
      unfold L2.start
      rw [List.getElem?_append_left (by rw [List.length_map, r.length]; exact z2), List.getElem?_map, e1]
      rfl
    · obtain ⟨z1, z2⟩ := start_get hi
      exact absurd (hO i n) (by omega)
    · obtain ⟨z1, z2⟩ := start_get q1
      exact absurd (hO i ni) (by omega)
    · cases o with
      | nx =>
        obtain ⟨e, rfl⟩ := pure_some hf1
        subst e
        exact fun σ' G' H' S _ => q .non G' H' ⟨S.sub, S.g0, S.bas, S.kp, ⟨S.draw.ok, S.draw.at_, S.draw.out⟩⟩ .non
      | rt d' =>
        obtain ⟨e, rfl⟩ := pure_some hf1
        subst e
        exact fun v G' H' n r' => q v G' H' ⟨n.sub, n.g0, n.bas, n.kp, ⟨n.draw.ok, n.draw.at_, n.draw.out⟩⟩ (Rep.to' r')
      | bk => cases hf1
      | ct => cases hf1
/-- a def that promises nothing -/
theorem fn_none {f : Addr} {fd : FuncData} {ps : List Str} {k : Nat} : FnOk P w K mg base CX0 k f fd ps (spOf K mg fun _ => fail) := by
  refine ⟨fun vs H Q E h => ?_, fun A outer s H args us vs Q E hr he hb hv h => ?_⟩
  · obtain ⟨_, _, _, _, _, _, _, _, _, hf, _⟩ := h
    cases hf
  · obtain ⟨_, _, _, _, _, _, _, _, _, hf, _⟩ := h
    cases hf
end

/-! ### the drawing -/
def cellOf (w : Dw) : Int := let c := w.sc.getD w.ix.toNat 0; if c < 0 then -c else c
def seedOut (s m : Int) : Int := s * 69621 % 2147483629 / 7 % m
def nextW (m : Int) (w : Dw) : Int × Dw :=
  if 0 < w.big then (w.big % m, { w with big := w.big / m })
  else if w.ix < (w.sc.length : Int) then
    if 1000000000000000000 ≤ cellOf w then (cellOf w % m, { w with ix := w.ix + 1, big := cellOf w / m })
    else (seedOut ((w.seed * 48271 + cellOf w + 11) % 2147483647) m, { w with ix := w.ix + 1, seed := (w.seed * 48271 + cellOf w + 11) % 2147483647 })
  else (seedOut ((w.seed * 48271 + 12345) % 2147483647) m, { w with seed := (w.seed * 48271 + 12345) % 2147483647 })
def nextF : List D → M D
  | [.drw, .int m] => fun w => if 0 < m ∧ m < 1073741824 then some (.int (nextW m w).1, (nextW m w).2) else none
  | _ => fail
theorem cell_nn (w : Dw) : 0 ≤ cellOf w := by
  unfold cellOf
  dsimp only
  split <;> omega
theorem nextW_ok {m : Int} {w : Dw} (h : w.Ok) (hm : 0 < m) : (nextW m w).2.Ok := by
  obtain ⟨h1, h2, h3, h4, h5⟩ := h
  have hc := cell_nn w
  unfold nextW
  split
  · exact ⟨h1, h2, Int.ediv_nonneg h3 (by omega), h4, h5⟩
  · split
    · split
      · exact ⟨h1, by show 0 ≤ w.ix + 1; omega, Int.ediv_nonneg hc (by omega), h4, h5⟩
      · exact ⟨h1, by show 0 ≤ w.ix + 1; omega, h3, Int.emod_nonneg _ (by omega), Int.emod_lt_of_pos _ (by omega)⟩
    · exact ⟨h1, h2, h3, Int.emod_nonneg _ (by omega), Int.emod_lt_of_pos _ (by omega)⟩
theorem nextW_lt {m : Int} {w : Dw} (hm : 0 < m) : 0 ≤ (nextW m w).1 ∧ (nextW m w).1 < m := by
  unfold nextW seedOut
  split
  · exact ⟨Int.emod_nonneg _ (by omega), Int.emod_lt_of_pos _ hm⟩
  · split
    · split
      · exact ⟨Int.emod_nonneg _ (by omega), Int.emod_lt_of_pos _ hm⟩
      · exact ⟨Int.emod_nonneg _ (by omega), Int.emod_lt_of_pos _ hm⟩
    · exact ⟨Int.emod_nonneg _ (by omega), Int.emod_lt_of_pos _ hm⟩
section
variable (K : PySem.W.Frag)
def nxIx (i : Int) : TE := tOp (rIxL K) (tVar 0) (tC (.int i))
def nxInt (t : TE) : TE := tCB (fun xs H Q => (∃ i, xs = [.int i] ∧ Q (.int i) H) ∨ ∃ k, xs = [.bl k] ∧ Q (.int (if k then 1 else 0)) H) (tCons t tNil)
def nxMod (t u : TE) : TE := tOp (rI (fun _ j => j ≠ 0) fun i j => .int (i.fmod j)) t u
def nxDiv (t u : TE) : TE := tOp (rI CDivN fun i j => .int (i.fdiv j)) t u
def nxMul (t u : TE) : TE := tOp (rI CMul fun i j => .int (i * j)) t u
def nxAdd (t u : TE) : TE := tOp (rI0 fun i j => .int (i + j)) t u
def nxSet (i : Int) (t : TE) : TS := tAsg t (gSub (tVar 0) (tC (.int i)) rSetL)
/-- the reading of _law_next's body -/
def tNx : TS :=
  tSeq (tIfS (tTest (tOp (rI0 fun i j => .bl (decide (j < i))) (nxIx K 2) (tC (.int 0)))) (tSeq (tAsg (nxMod (nxInt (nxIx K 2)) (tVar 1)) (gName 2)) (tSeq (nxSet 2 (nxDiv (nxIx K 2) (tVar 1))) (tRet (tVar 2)))) tNext)
  (tSeq (tIfS (tTest (tOp (rI0 fun i j => .bl (decide (i < j))) (nxIx K 1) (tCB (rLenA K) (tCons (nxIx K 0) tNil))))
    (tSeq (tAsg (tCB (fun xs H Q => ∃ i, xs = [.int i] ∧ Q (.int (if i < 0 then -i else i)) H) (tCons (tOp (rIxL K) (nxIx K 0) (nxIx K 1)) tNil)) (gName 3))
    (tSeq (nxSet 1 (nxAdd (nxIx K 1) (tC (.int 1))))
    (tSeq (tIfS (tTest (tOp (rI0 fun i j => .bl (decide (j ≤ i))) (tVar 3) (tOp (rI CPow fun i j => .int (i ^ j.toNat)) (tC (.int 10)) (tC (.int 18))))) (tSeq (nxSet 2 (nxDiv (tVar 3) (tVar 1))) (tRet (nxMod (nxInt (tVar 3)) (tVar 1)))) tNext)
    (nxSet 3 (nxMod (nxInt (nxAdd (nxAdd (nxMul (nxIx K 3) (tC (.int 48271))) (tVar 3)) (tC (.int 11)))) (tC (.int 2147483647)))))))
    (nxSet 3 (nxMod (nxInt (nxAdd (nxMul (nxIx K 3) (tC (.int 48271))) (tC (.int 12345)))) (tC (.int 2147483647)))))
  (tRet (nxMod (nxDiv (nxInt (nxMod (nxMul (nxIx K 3) (tC (.int 69621))) (tC (.int 2147483629)))) (tC (.int 7))) (tVar 1))))
variable {K}
theorem nx_ix {i : Int} {σ : L2.St} {H : Hp} {Q : VK} {dr : Addr} {xs : List V} {v : V} (h : σ[0]? = some (some (.ref dr))) (hd : H dr = some (.lst xs)) (hv : atI xs i = some v) (q : Q v H) : nxIx K i σ H Q := ⟨_, h, dr, xs, i, v, rfl, rfl, SqL.of hd, hv, q⟩
theorem fmod_pos {a b : Int} (h : 0 < b) : a.fmod b = a % b := by rw [Int.fmod_eq_emod_of_nonneg _ (by omega)]
theorem fdiv_pos {a b : Int} (h : 0 < b) : a.fdiv b = a / b := by rw [Int.fdiv_eq_ediv_of_nonneg _ (by omega)]
theorem nx_reads {m : Int} {w : Dw} {dr sc : Addr} {H : Hp} {Q : VK} (hok : w.Ok) (hm : 0 < m ∧ m < 1073741824) (hd : H dr = some (.lst [.ref sc, .int w.ix, .int w.big, .int w.seed])) (hs : ∀ H' : Hp, (∀ b o, b ≠ dr → H b = some o → H' b = some o) → SqL K H' sc (w.sc.map V.int))
    (q : Q (.int (nextW m w).1) (upd H dr (.lst [.ref sc, .int (nextW m w).2.ix, .int (nextW m w).2.big, .int (nextW m w).2.seed]))) : tNx K { nx := fun _ H' => Q .non H', rt := Q } [some (.ref dr), some (.int m), none, none] H := by
  obtain ⟨h1, h2, h3, h4, h5⟩ := hok
  have hc := cell_nn w
  have mn : m ≠ 0 := by omega
  have hup : ∀ xs ys : List V, upd (upd H dr (.lst xs)) dr (.lst ys) = upd H dr (.lst ys) := fun xs ys => upd_upd
  refine nx_ix rfl hd rfl ⟨_, _, rfl, rfl, _, rfl, ?_⟩
  unfold nextW at q
  by_cases hb : 0 < w.big
  · rw [if_pos hb] at q
    rw [decide_eq_true hb]
    refine iteT ?_
    refine nx_ix rfl hd rfl (.inl ⟨_, rfl, _, rfl, _, _, rfl, rfl, mn, ?_⟩)
    refine nx_ix rfl hd rfl ⟨_, rfl, _, _, rfl, rfl, ⟨mn, by omega⟩, _, rfl, dr, _, 2, 2, rfl, rfl, hd, rfl, ?_⟩
    refine ⟨_, rfl, ?_⟩
    show Q (.int (w.big.fmod m)) (upd H dr (.lst [.ref sc, .int w.ix, .int (w.big.fdiv m), .int w.seed]))
    rw [fmod_pos hm.1, fdiv_pos hm.1]
    exact q
  · rw [if_neg hb] at q
    rw [decide_eq_false hb]
    refine iteF ?_
    refine nx_ix rfl hd rfl (nx_ix rfl hd rfl ⟨_, w.sc.length, rfl, .inl ⟨_, hs H fun _ _ _ q => q, by rw [List.length_map]⟩, _, _, rfl, rfl, _, rfl, ?_⟩)
    have hmul : CMul w.seed 48271 := .inr ⟨by decide, by decide⟩
    by_cases hi : w.ix < (w.sc.length : Int)
    · rw [if_pos hi] at q
      rw [decide_eq_true hi]
      refine iteT ?_
      have hget : atI (w.sc.map V.int) w.ix = some (.int (w.sc.getD w.ix.toNat 0)) := by
        have hlt : w.ix.toNat < w.sc.length := by omega
        refine at_of (j := w.ix.toNat) (by omega) ?_
        rw [List.getElem?_map, List.getD_eq_getElem?_getD, List.getElem?_eq_getElem hlt]
        rfl
      refine nx_ix rfl hd rfl (nx_ix rfl hd rfl ⟨sc, _, _, _, rfl, rfl, hs H fun _ _ _ q => q, hget, _, rfl, ?_⟩)
      refine nx_ix rfl hd rfl ⟨_, _, rfl, rfl, _, rfl, dr, _, 1, 1, rfl, rfl, hd, rfl, ?_⟩
      refine ⟨_, rfl, _, _, rfl, rfl, ⟨by decide, by decide, by decide⟩, _, _, rfl, rfl, _, rfl, ?_⟩
      have hcd : (if w.sc.getD w.ix.toNat 0 < 0 then -w.sc.getD w.ix.toNat 0 else w.sc.getD w.ix.toNat 0) = cellOf w := rfl
      rw [hcd]
      have e18 : ((10 : Int) ^ (18 : Int).toNat) = 1000000000000000000 := by decide
      rw [e18]
      by_cases h18 : (1000000000000000000 : Int) ≤ cellOf w
      · rw [if_pos h18] at q
        rw [decide_eq_true h18]
        refine iteT ?_
        refine ⟨_, rfl, _, rfl, _, _, rfl, rfl, ⟨mn, by omega⟩, _, rfl, dr, _, 2, 2, rfl, rfl, upd_same, rfl, ?_⟩
        refine ⟨_, rfl, .inl ⟨_, rfl, _, rfl, _, _, rfl, rfl, mn, ?_⟩⟩
        show Q (.int ((cellOf w).fmod m)) (upd (upd H dr (.lst [.ref sc, .int (w.ix + 1), .int w.big, .int w.seed])) dr (.lst [.ref sc, .int (w.ix + 1), .int ((cellOf w).fdiv m), .int w.seed]))
        rw [hup, fmod_pos hm.1, fdiv_pos hm.1]
        exact q
      · rw [if_neg h18] at q
        rw [decide_eq_false h18]
        refine iteF ?_
        refine nx_ix rfl upd_same rfl ⟨_, _, rfl, rfl, hmul, _, rfl, _, _, rfl, rfl, _, _, rfl, rfl, .inl ⟨_, rfl, _, _, rfl, rfl, (by show (2147483647 : Int) ≠ 0; decide), _, rfl, dr, _, 3, 3, rfl, rfl, upd_same, rfl, ?_⟩⟩
        refine nx_ix rfl upd_same rfl ⟨_, _, rfl, rfl, .inr ⟨by decide, by decide⟩, _, _, rfl, rfl, (by show (2147483629 : Int) ≠ 0; decide), .inl ⟨_, rfl, _, _, rfl, rfl, ⟨by decide, by decide⟩, _, rfl, _, _, rfl, rfl, mn, ?_⟩⟩
        show Q (.int (((((w.seed * 48271 + cellOf w + 11).fmod 2147483647) * 69621).fmod 2147483629).fdiv 7 |>.fmod m)) (upd (upd H dr (.lst [.ref sc, .int (w.ix + 1), .int w.big, .int w.seed])) dr (.lst [.ref sc, .int (w.ix + 1), .int w.big, .int ((w.seed * 48271 + cellOf w + 11).fmod 2147483647)]))
        rw [hup, fmod_pos (by decide : (0 : Int) < 2147483647), fmod_pos (by decide : (0 : Int) < 2147483629), fdiv_pos (by decide : (0 : Int) < 7), fmod_pos hm.1]
        exact q
    · rw [if_neg hi] at q
      rw [decide_eq_false hi]
      refine iteF ?_
      refine nx_ix rfl hd rfl ⟨_, _, rfl, rfl, hmul, _, _, rfl, rfl, .inl ⟨_, rfl, _, _, rfl, rfl, (by show (2147483647 : Int) ≠ 0; decide), _, rfl, dr, _, 3, 3, rfl, rfl, hd, rfl, ?_⟩⟩
      refine nx_ix rfl upd_same rfl ⟨_, _, rfl, rfl, .inr ⟨by decide, by decide⟩, _, _, rfl, rfl, (by show (2147483629 : Int) ≠ 0; decide), .inl ⟨_, rfl, _, _, rfl, rfl, ⟨by decide, by decide⟩, _, rfl, _, _, rfl, rfl, mn, ?_⟩⟩
      show Q (.int (((((w.seed * 48271 + 12345).fmod 2147483647) * 69621).fmod 2147483629).fdiv 7 |>.fmod m)) (upd H dr (.lst [.ref sc, .int w.ix, .int w.big, .int ((w.seed * 48271 + 12345).fmod 2147483647)]))
      rw [fmod_pos (by decide : (0 : Int) < 2147483647), fmod_pos (by decide : (0 : Int) < 2147483629), fdiv_pos (by decide : (0 : Int) < 7), fmod_pos hm.1]
      exact q
end
section
variable {P : Program} {w : World} {K : PySem.W.Frag} {mg : Str → Option Value} {base : Heap}
theorem next_ok {x qual : Str} {st : Stmt} {f : Addr} {fd : FuncData} (Fu : Fun K x qual st f fd) (sc : FnScope ["draw", "many", "found", "cell"] ["draw", "many"] (defScope st))
    (hb : ∀ (cdv : Value) (A : Around) (outer : List PySem.Env) (s : Shared) (H : Hp) (E : XK), PSs (cxOf CX0 P w K mg base ["draw", "many", "found", "cell"] qual (defScope st) f cdv A outer s H E).nox (defBody st) (tNx K)) :
    FnOk P w K mg base CX0 1 f fd ["draw", "many"] (spOf K mg nextF) := by
  have key : ∀ {ds : List D} {d : D} {w1 w' : Dw}, nextF ds w1 = some (d, w') → ∃ m, ds = [.drw, .int m] ∧ (0 < m ∧ m < 1073741824) ∧ d = .int (nextW m w1).1 ∧ w' = (nextW m w1).2 := by
    intro ds d w1 w' h
    match ds, h with
    | [.drw, .int m], h =>
      have h' : (if 0 < m ∧ m < 1073741824 then some (D.int (nextW m w1).1, (nextW m w1).2) else none) = some (d, w') := h
      split at h'
      · rename_i hc
        cases h'
        exact ⟨m, rfl, hc, rfl, rfl⟩
      · cases h'
  refine Fu.ok (k := 0) sc (fun vs H Q E h => ?_) (fun cdv A outer s H vs Q E hr h => ?_)
  · obtain ⟨dr, G, w, ds, d, w', hs, hd, r, hf, q⟩ := h
    obtain ⟨m, rfl, _⟩ := key hf
    exact r.length
  · obtain ⟨dr, G, w1, ds, d, w', hs, hd, r, hf, q⟩ := h
    obtain ⟨m, rfl, hm, rfl, rfl⟩ := key hf
    obtain ⟨ok, ⟨scA, d1, d2⟩, d3⟩ := hd
    refine ⟨_, hb cdv A outer s H E, ?_⟩
    cases r with
    | cons r1 t =>
      cases t with
      | cons r2 t =>
        cases t
        cases r1
        cases r2
        have hG : Sub G (upd H dr (.lst [.ref scA, .int (nextW m w1).2.ix, .int (nextW m w1).2.big, .int (nextW m w1).2.seed])) := fun b o h => by
          rw [upd_ne (ne_of_none h d3)]
          exact hs b o h
        refine nx_reads ok hm d1 (fun H' hk => ?_) (q _ G _ ⟨hG, Sub.refl G, fun a o n h => ?_, fun _ _ _ n => n, ⟨nextW_ok ok hm.1, ⟨scA, upd_same, ?_⟩, d3⟩⟩ (.int _))
        · have hG' : Sub G H' := fun b o h => hk b o (ne_of_none h d3) (hs b o h)
          exact sub_l hG' d2
        · rw [upd_ne n]
          exact h
        · have e : (nextW m w1).2.sc = w1.sc := by
            unfold nextW
            split
            · rfl
            · split
              · split <;> rfl
              · rfl
          rw [e]
          exact d2
end
end Fc

/-! Fc, part I: a law's own def. -/
namespace Fc
open PySem PySem.Spec PyProof.Rows L2
section
variable {P : Program} {w : World} {K : PySem.W.Frag} {mg : Str → Option Value} {base : Heap}
def spDraw (K : PySem.W.Frag) : Sp := fun vs H Q _ => ∃ (a : Addr) (ns : List V), vs = [.ref a] ∧ SqL K H a ns ∧ ∀ l p, H l = none → p ≠ l → H p = none → Q (.ref p) (upd (upd H l (.lst ns)) p (.lst [.ref l, .int 0, .int 0, .int 17]))
def rListA (K : PySem.W.Frag) : List V → Hp → VK → Prop := fun xs H Q => ∃ p ys, xs = [.ref p] ∧ (SqL K H p ys ∨ SqT K H p ys) ∧ ∀ l, H l = none → Q (.ref l) (upd H l (.lst ys))
def tDr (K : PySem.W.Frag) : TS := tRet (tLst (tCons (tCB (rListA K) (tCons (tVar 0) tNil)) (tCons (tC (.int 0)) (tCons (tC (.int 0)) (tCons (tC (.int 17)) tNil)))))
theorem draw_ok {x qual : Str} {st : Stmt} {f : Addr} {fd : FuncData} (Fu : Fun K x qual st f fd) (sc : FnScope ["script"] ["script"] (defScope st))
    (hb : ∀ (cdv : Value) (A : Around) (outer : List PySem.Env) (s : Shared) (H : Hp) (E : XK), PSs (cxOf CX0 P w K mg base ["script"] qual (defScope st) f cdv A outer s H E).nox (defBody st) (tDr K)) :
    FnOk P w K mg base CX0 1 f fd ["script"] (spDraw K) := by
  refine Fu.ok (k := 0) sc (fun vs H Q E h => ?_) (fun cdv A outer s H vs Q E hr h => ?_)
  · obtain ⟨a, ns, rfl, _⟩ := h
    rfl
  · obtain ⟨a, ns, rfl, ha, q⟩ := h
    refine ⟨_, hb cdv A outer s H E, _, rfl, a, ns, rfl, .inl ha, fun l hl => ⟨by show 4 ≤ sizeLine; decide, fun p hp => ?_⟩⟩
    have hne : p ≠ l := fun z => by rw [z, upd_same] at hp; cases hp
    rw [upd_ne hne] at hp
    exact q l p hl hne hp
/-- law's: a list of at most 63 ints is handed in, True comes out -/
def spLaw (K : PySem.W.Frag) : Sp := fun vs H Q _ => ∃ (a : Addr) (ns : List Int), vs = [.ref a] ∧ SqL K H a (ns.map V.int) ∧ ns.length ≤ 63 ∧ ∀ H', Q (.bl true) H'
theorem law_ok {x qual : Str} {st st0 : Stmt} {rest : List Stmt} {f : Addr} {fd : FuncData} {N : List Str} {k : Nat} {O : List Nat} {F : F1} (Fu : Fun K x qual st f fd) (sc : FnScope N ["script"] (defScope st)) (hbody : defBody st = st0 :: rest)
    (hO : ∀ i ∈ O, 2 ≤ i) (hN : 2 ≤ N.length)
    (h0 : ∀ (cdv : Value) (A : Around) (outer : List PySem.Env) (s : Shared) (H : Hp) (E : XK), Room k (A.deeper (envOfC qual (defScope st) s.heap.objs.size f cdv)) → PS (cxOf CX0 P w K mg base N qual (defScope st) f cdv A outer s H E).nox st0 (tAsg (tCall (spDraw K) [] E0 (tCons (tVar 0) tNil)) (gName 1)))
    (hb : ∀ (cdv : Value) (A : Around) (outer : List PySem.Env) (s : Shared) (H : Hp) (E : XK), Room k (A.deeper (envOfC qual (defScope st) s.heap.objs.size f cdv)) → SSs (cxOf CX0 P w K mg base N qual (defScope st) f cdv A outer s H E).nox O rest F)
    (hF : ∀ ns : List Int, ns.length ≤ 63 → ∃ δ' w', F (none :: some .drw :: List.replicate (N.length - 2) none) ⟨ns, 0, 0, 17⟩ = some ((.rt (.bl true), δ'), w')) :
    FnOk P w K mg base CX0 (k + 1) f fd ["script"] (spLaw K) := by
  refine Fu.ok sc (fun vs H Q E h => ?_) (fun cdv A outer s H vs Q E hr h => ?_)
  · obtain ⟨a, ns, rfl, _⟩ := h
    rfl
  · obtain ⟨a, ns, rfl, ha, hl, q⟩ := h
    obtain ⟨δ', w', hf⟩ := hF ns hl
    rw [hbody]
    refine ⟨_, pss_cons (h0 cdv A outer s H E hr) (hb cdv A outer s H E hr), ?_⟩
    have e0 : (L2.start N [.ref a])[0]? = some (some (.ref a)) := rfl
    refine ⟨_, e0, a, ns.map V.int, rfl, ha, fun l p h1 h2 h3 => ?_⟩
    have lp : l ≠ p := Ne.symm h2
    refine ⟨p, _, upd (fun _ => none) l (.lst (ns.map V.int)), none :: some .drw :: List.replicate (N.length - 2) none, upd (fun _ => none) l (.lst (ns.map V.int)), ⟨ns, 0, 0, 17⟩, _, δ', w', ⟨fun b o z => ?_, Sub.refl _, fun _ _ _ z => z, ⟨_, upd_same⟩, ?_, fun i d z n => ?_, fun i d z n => ?_, fun i j d1 d2 b ni nj z1 z2 => ?_, ⟨⟨hl, Int.le_refl 0, Int.le_refl 0, by show (0 : Int) ≤ 17; decide, by show (17 : Int) < 2147483647; decide⟩, ⟨l, upd_same, SqL.of upd_same⟩, ?_⟩, fun _ _ _ n => n⟩, hf, ?_⟩
    · by_cases hb : b = l
      · subst hb
        rw [upd_same] at z
        cases z
        show upd (upd H b _) p _ b = _
        rw [upd_ne lp, upd_same]
      · rw [upd_ne hb] at z
        cases z
    · show _ = ((L2.start N [.ref a]).set 1 (some (.ref p))).length
      rw [List.length_set]
      unfold L2.start
      simp
      omega
    · have key : i = 1 ∧ d = .drw := by
        match i, z with
        | 0, z => cases z
        | 1, z => cases z; exact ⟨rfl, rfl⟩
        | i + 2, z =>
          have z' : (List.replicate (N.length - 2) (none : Option D))[i]? = some (some d) := z
          rw [List.getElem?_replicate] at z'
          split at z' <;> cases z'
      obtain ⟨rfl, rfl⟩ := key
      refine ⟨.ref p, List.getElem?_set_self ?_, .drw⟩
      unfold L2.start
      simp
      omega
    · have h2i := hO i n
      match i, z with
      | i + 2, z =>
        have z' : (List.replicate (N.length - 2) (none : Option D))[i]? = some (some d) := z
        rw [List.getElem?_replicate] at z'
        split at z' <;> cases z'
    · have h2i := hO i ni
      match i, z1 with
      | i + 2, z =>
        have z' : (List.replicate (N.length - 2) (none : Option D))[i]? = some (some d1) := z
        rw [List.getElem?_replicate] at z'
        split at z' <;> cases z'
    · show upd (fun _ => none) l _ p = none
      rw [upd_ne h2]
    · intro v G' H' n r
      cases r
      exact q H'
end
end Fc

/-! Fc, part Z: defs by names, and further forms. -/
namespace Fc
open PySem PySem.Spec PyProof.Rows L2

/-- the module's name x stands for a def that computes F, at level k -/
def Has (P : Program) (w : World) (K : PySem.W.Frag) (mg : Str → Option Value) (base : Heap) (k : Nat) (x : Str) (ps : List Str) (F : List D → M D) : Prop :=
  ∃ (f : Addr) (fd : FuncData), FnOk P w K mg base CX0 k f fd ps (spOf K mg F) ∧ mg x = some (.ref f) ∧ PySem.W.keepIn K (.ref f) = true ∧ Binds K fd ps []
section
variable {X : Cx} {O : List Nat} {al bl cl : Bool} {a b c e tg : Expr} {es : List Expr} {f g h : Env → M D} {fs : Env → M (List D)} {F : List D → M D} {k : Nat} {ps : List Str} {x : Str} {p pos : Pos}
theorem se_has (H : Has X.prog X.w X.K X.mg X.base k x ps F) (hr : Room k X.A) (hg : Gl X x) (ha : SA X O false (e :: es) fs)
    (hdb : (x == ("__debug__" : Str)) = false := by decide) (he : starEach (e :: es) X.env = (false, eval e X.env) :: starEach es X.env := by rfl) (hpl : (backTo pos (starEach es X.env)).any (·.1) = false := by rfl) :
    SE X O false (.Call (.Name x p) (e :: es) [] pos) (eDef F fs) := by
  obtain ⟨f, fd, h1, h2, h3, h4⟩ := H
  exact se_def h1 hr hg h2 h3 h4 ha hdb he hpl
def eNotT (f : Env → M D) : Env → M D := fun δ => do
  let x ← f δ
  let k ← liftO (dTru x)
  pure (.bl (!k))
theorem se_notT (ha : SE X O al a f) : SE X O false (.UnaryOp .Not a pos) (eNotT f) :=
  PE.weak (pe_notT ha) fun σ H Q ⟨dr, B, G0, δ, G, w, d, w', S, hf, k⟩ => by
    obtain ⟨x, w1, h1, hf1⟩ := bind_some hf
    obtain ⟨b, w2, h2, hf2⟩ := bind_some hf1
    obtain ⟨h3, rfl⟩ := liftO_some h2
    obtain ⟨e, rfl⟩ := pure_some hf2
    subst e
    exact ⟨dr, B, G0, δ, G, w, x, _, S, h1, fun v G1 H1 g1 S1 r1 => ⟨b, r1.x.tru S1.sub h3, k _ G1 H1 g1 S1 (.bl _)⟩⟩
theorem hu65 {k : Nat} {A : Around} (hr : Room k A) : A.units + 65 < cLine := by have := hr.un; omega
end
end Fc

/-! Fc, part J: sums, greatest and least, lcm, divmod, in, count, defs as values, a place of one's own list. -/
namespace Fc
open PySem PySem.Spec PyProof.Rows L2

section
variable {X : Cx}
/-- the sum of a tuple of ints -/
def rSumT (K : PySem.W.Frag) : List V → Hp → VK → Prop := fun vs H Q => ∃ (a : Addr) (ns : List Int), vs = [V.ref a] ∧ SqT K H a (ns.map V.int) ∧ Q (.int ns.sum) H
theorem cr_sumT (hc : X.calm = true) : CallR X (.builtin "sum") (rSumT X.K) := by
  intro pins s σ H vs us Q I r h
  obtain ⟨a, ns, rfl, hs, q⟩ := h
  obtain ⟨its, rv, hl, _⟩ := I.tuple hs
  rw [Vals.ref1 r]
  have hi := rv.ints
  obtain ⟨xs, e⟩ := hi.allInts.items
  have hn : numsOf (intItems xs).toList = ns := by rw [← e]; exact hi.numsOf
  rw [nums_intItems] at hn
  rw [e] at hl
  refine PySem.W.ktm_sumG (I.ok.hd hc) hl fun h' tk t' hk => ?_
  rw [preSum_eq, List.take_of_length_le (by simp), hn]
  exact ⟨.int _, H, I.kept hk, ⟨_, rfl⟩, q⟩
def CLcm (a b : Int) : Prop := a.natAbs < 2 ^ 64 ∧ b.natAbs < 2 ^ 64
def rLcm : List V → Hp → VK → Prop := fun vs H Q => ∃ a b : Int, vs = [.int a, .int b] ∧ CLcm a b ∧ Q (.int ((Nat.lcm a.natAbs b.natAbs : Nat) : Int)) H
theorem cr_lcm : CallR X (.builtin "math.lcm") rLcm := by
  intro pins s σ H vs us Q I r h
  obtain ⟨a, b, rfl, ⟨h1, h2⟩, q⟩ := h
  obtain ⟨t, u, rfl⟩ := Vals.int2 r
  exact PySem.W.mc_lcm h1 h2 fun _ => ⟨.int _, H, I.tok _, ⟨_, rfl⟩, q⟩
/-- how often a flat item is in a list of flat items -/
def rCntF (K : PySem.W.Frag) : V → List V → Hp → VK → Prop := fun x xs H Q => ∃ (p : Addr) (ys : List V) (k : V), x = .ref p ∧ xs = [k] ∧ SqL K H p ys ∧ flatV k = true ∧ ys.all flatV = true ∧ Q (.int (ys.countP fun y => eqV y k : Nat)) H
theorem count_eqU {x : V} : ∀ {xs : List V} {us : List Value}, Vals xs us → xs.all flatV = true → us.countP (eqU x) = xs.countP fun y => eqV y x
  | _, _, .nil, _ => rfl
  | y :: xs, u :: us, .cons r t, f => by
    rw [List.all_cons, Bool.and_eq_true] at f
    rw [List.countP_cons, List.countP_cons, eqU_of r f.1, count_eqU t f.2]
theorem mt_lcountF : MtR X "list.count" (rCntF X.K) := by
  intro pins s σ H x xs v us Q I rx rxs h
  obtain ⟨p, ys, k, rfl, rfl, hs, fk, fy, q⟩ := h
  cases rx
  obtain ⟨u, rfl, ru⟩ := rxs.one
  obtain ⟨its, rv, ⟨⟨cls, dd, data, sl⟩, n, ho, hc, hdn, hd⟩, hlen⟩ := I.list hs
  simp only at hc hd
  subst hc hd
  refine call_meets PySem.F.slot_list_count ⟨_, ho, rfl⟩ PySem.F.entry_list_count (PySem.F.args_list_count_2 _ _)
    (SeqAt.list_countAt p its.toArray n dd sl u (eqU k)) ⟨ho, fun y hy => mem_eqAt ru fk rv fy y (by simpa using hy), ?_⟩
  have ec : its.toArray.toList.countP (eqU k) = ys.countP fun y => eqV y k := count_eqU rv fy
  refine ⟨.int (ys.countP fun y => eqV y k : Nat), H, I.tok _, ⟨s.toks, ?_⟩, q⟩
  show Value.int ((its.toArray.toList.countP (eqU k) : Nat) : Int) s.toks = _
  rw [ec]
end

section
variable {X : Cx} {O : List Nat} {al bl cl : Bool} {a b c e tg : Expr} {es : List Expr} {f g h : Env → M D} {fs : Env → M (List D)} {pos : Pos}
variable {K : PySem.W.Frag} {mg : Str → Option Value} {x : Str} {q p : Pos}

theorem asIs_map : ∀ l : List Int, asIs (l.map D.int) = some l
  | [] => rfl
  | x :: l => by
    show (asIs (l.map D.int)).map (x :: ·) = _
    rw [asIs_map l]
    rfl
/-! ### sums, greatest, least -/
def dSum : List D → Option D
  | [.lst l] => (asIs l).map fun ns => .int ns.sum
  | [.tup l] => (asIs l).map fun ns => .int ns.sum
  | _ => none
theorem cs_sum : CallS K mg (fun xs H Q => rSum K xs H Q ∨ rSumT K xs H Q) dSum := by
  intro p G H vs ds d Q hK hmg s r hd k
  subst hK
  match ds, hd, r with
  | [.lst l], hd, r =>
    cases q : asIs l with
    | none => simp [dSum, q] at hd
    | some bs =>
      have hd' : some (D.int bs.sum) = some d := by rw [← hd]; simp [dSum, q]
      cases hd'
      obtain ⟨v, rfl, rr⟩ := r.one
      obtain ⟨a, us, rfl, ha, ra⟩ := rr.x.lst s
      rw [asIs_some q] at ra
      rw [RepAll.ints ra] at ha
      exact .inl ⟨a, bs, rfl, SqL.of ha, k _ G H (.refl s) (.int _)⟩
  | [.tup l], hd, r =>
    cases q : asIs l with
    | none => simp [dSum, q] at hd
    | some bs =>
      have hd' : some (D.int bs.sum) = some d := by rw [← hd]; simp [dSum, q]
      cases hd'
      obtain ⟨v, rfl, rr⟩ := r.one
      obtain ⟨a, us, rfl, ha, ra, _⟩ := rr.x.tup s
      rw [asIs_some q] at ra
      rw [RepAll.ints ra] at ha
      exact .inr ⟨a, bs, rfl, ha, k _ G H (.refl s) (.int _)⟩
theorem se_sum (hc : X.calm = true) (hm : X.mg "sum" = none) (hg : Gl X "sum") (ha : SA X O true [e] fs) (he : starEach [e] X.env = (false, eval e X.env) :: starEach [] X.env := by rfl) (hpl : (backTo pos (starEach [] X.env)).any (·.1) = false := by rfl) : SE X O false (.Call (.Name "sum" q) [e] [] pos) (eCall dSum fs) :=
  se_callB ((cr_sum hc).or (cr_sumT hc)) cs_sum hg hm (by decide +kernel) ha (by decide) (by decide) he hpl
def dMax1 : List D → Option D
  | [.lst l] => (asIs l).bind fun ns => ns.max?.map D.int
  | _ => none
def dMin1 : List D → Option D
  | [.lst l] => (asIs l).bind fun ns => ns.min?.map D.int
  | _ => none
theorem cs_max1 : CallS K mg (rMax K) dMax1 := by
  intro p G H vs ds d Q hK hmg s r hd k
  subst hK
  match ds, hd, r with
  | [.lst l], hd, r =>
    cases q : asIs l with
    | none => simp [dMax1, q] at hd
    | some bs =>
      cases q2 : bs.max? with
      | none => simp [dMax1, q, q2] at hd
      | some m =>
        have hd' : some (D.int m) = some d := by rw [← hd]; simp [dMax1, q, q2]
        cases hd'
        obtain ⟨v, rfl, rr⟩ := r.one
        obtain ⟨a, us, rfl, ha, ra⟩ := rr.x.lst s
        rw [asIs_some q] at ra
        rw [RepAll.ints ra] at ha
        obtain ⟨m1, m2⟩ := List.max?_eq_some_iff.mp q2
        refine ⟨a, bs, rfl, SqL.of ha, List.length_pos_of_mem m1, fun m' h1 h2 => ?_⟩
        have : m' = m := Int.le_antisymm (m2 _ h1) (h2 _ m1)
        rw [this]
        exact k _ G H (.refl s) (.int _)
theorem cs_min1 : CallS K mg (rMin K) dMin1 := by
  intro p G H vs ds d Q hK hmg s r hd k
  subst hK
  match ds, hd, r with
  | [.lst l], hd, r =>
    cases q : asIs l with
    | none => simp [dMin1, q] at hd
    | some bs =>
      cases q2 : bs.min? with
      | none => simp [dMin1, q, q2] at hd
      | some m =>
        have hd' : some (D.int m) = some d := by rw [← hd]; simp [dMin1, q, q2]
        cases hd'
        obtain ⟨v, rfl, rr⟩ := r.one
        obtain ⟨a, us, rfl, ha, ra⟩ := rr.x.lst s
        rw [asIs_some q] at ra
        rw [RepAll.ints ra] at ha
        obtain ⟨m1, m2⟩ := List.min?_eq_some_iff.mp q2
        refine ⟨a, bs, rfl, SqL.of ha, List.length_pos_of_mem m1, fun m' h1 h2 => ?_⟩
        have : m' = m := Int.le_antisymm (h2 _ m1) (m2 _ h1)
        rw [this]
        exact k _ G H (.refl s) (.int _)
theorem se_max1 (hc : X.calm = true) (hm : X.mg "max" = none) (hg : Gl X "max") (ha : SA X O true [e] fs) (he : starEach [e] X.env = (false, eval e X.env) :: starEach [] X.env := by rfl) (hpl : (backTo pos (starEach [] X.env)).any (·.1) = false := by rfl) : SE X O false (.Call (.Name "max" q) [e] [] pos) (eCall dMax1 fs) :=
  se_callB (cr_max hc) cs_max1 hg hm (by decide +kernel) ha (by decide) (by decide) he hpl
theorem se_min1 (hc : X.calm = true) (hm : X.mg "min" = none) (hg : Gl X "min") (ha : SA X O true [e] fs) (he : starEach [e] X.env = (false, eval e X.env) :: starEach [] X.env := by rfl) (hpl : (backTo pos (starEach [] X.env)).any (·.1) = false := by rfl) : SE X O false (.Call (.Name "min" q) [e] [] pos) (eCall dMin1 fs) :=
  se_callB (cr_min hc) cs_min1 hg hm (by decide +kernel) ha (by decide) (by decide) he hpl
/-! ### lcm, divmod -/
def dLcm : List D → Option D
  | [.int i, .int j] => if i.natAbs < 18446744073709551616 ∧ j.natAbs < 18446744073709551616 then some (.int (Nat.lcm i.natAbs j.natAbs : Nat)) else none
  | _ => none
theorem cs_lcm : CallS K mg rLcm dLcm := by
  intro p G H vs ds d Q hK hmg s r hd k
  match ds, hd, r with
  | [.int i, .int j], hd, r =>
    have hd2 : (if i.natAbs < 18446744073709551616 ∧ j.natAbs < 18446744073709551616 then some (D.int (Nat.lcm i.natAbs j.natAbs : Nat)) else none) = some d := hd
    split at hd2
    · rename_i hh
      cases hd2
      obtain ⟨v, u, rfl, rr, r2⟩ := r.two
      exact ⟨i, j, by rw [rr.x.int, r2.x.int], hh, k _ G H (.refl s) (.int _)⟩
    · cases hd2
theorem se_lcm (hm : X.mg "lcm" = some (.builtin "math.lcm")) (hg : Gl X "lcm") (ha : SA X O true [a, b] fs) (he : starEach [a, b] X.env = (false, eval a X.env) :: starEach [b] X.env := by rfl) (hpl : (backTo pos (starEach [b] X.env)).any (·.1) = false := by rfl) : SE X O false (.Call (.Name "lcm" q) [a, b] [] pos) (eCall dLcm fs) :=
  se_callF cr_lcm cs_lcm hg hm ha (by decide) he hpl
def dDivmod : List D → Option D
  | [.int i, .int j] => if 0 < j ∧ j < 1073741824 then some (.tup [.int (i / j), .int (i % j)]) else none
  | _ => none
theorem cs_divmod : CallS K mg (fun xs H Q => ∃ i j, xs = [.int i, .int j] ∧ CDiv i j ∧ ∀ p, H p = none → Q (.ref p) (upd H p (.tup [.int (i / j), .int (i % j)]))) dDivmod := by
  intro p G H vs ds d Q hK hmg s r hd k
  match ds, hd, r with
  | [.int i, .int j], hd, r =>
    have hd2 : (if 0 < j ∧ j < 1073741824 then some (D.tup [.int (i / j), .int (i % j)]) else none) = some d := hd
    split at hd2
    · rename_i hh
      cases hd2
      obtain ⟨v, u, rfl, rr, r2⟩ := r.two
      refine ⟨i, j, by rw [rr.x.int, r2.x.int], hh, fun a ha => ?_⟩
      obtain ⟨gr, rz⟩ := Rep.newT (p := p) (vs := [.int (i / j), .int (i % j)]) (ds := [.int (i / j), .int (i % j)]) s ha (.cons (.int _) (.cons (.int _) .nil))
      exact k _ _ _ gr rz
    · cases hd2
theorem se_divmod (hm : X.mg "divmod" = none) (hg : Gl X "divmod") (ha : SA X O true [a, b] fs) (he : starEach [a, b] X.env = (false, eval a X.env) :: starEach [b] X.env := by rfl) (hpl : (backTo pos (starEach [b] X.env)).any (·.1) = false := by rfl) : SE X O false (.Call (.Name "divmod" q) [a, b] [] pos) (eCall dDivmod fs) :=
  se_callB call_divmod cs_divmod hg hm (by decide +kernel) ha (by decide) (by decide) he hpl
/-! ### flat items -/
def D.flat : D → Option V
  | .non => some .non
  | .bl b => some (.bl b)
  | .int i => some (.int i)
  | .str x => some (.str x)
  | _ => none
def flats : List D → Option (List V)
  | [] => some []
  | d :: l => d.flat.bind fun v => (flats l).map (v :: ·)
theorem flat_is {p : Par} {G H : Hp} {v u : V} {d : D} (r : RepX p G H v d) (h : d.flat = some u) : v = u ∧ flatV u = true := by
  cases d <;> try (cases h; done)
  · cases h; exact ⟨r.non, rfl⟩
  · cases h; exact ⟨r.bl, rfl⟩
  · cases h; exact ⟨r.int, rfl⟩
  · cases h; exact ⟨r.str, rfl⟩
theorem flats_are {p : Par} {G : Hp} : ∀ {vs us : List V} {ds : List D}, RepAll p G vs ds → flats ds = some us → vs = us ∧ us.all flatV = true
  | _, _, _, .nil, h => by
    cases h
    exact ⟨rfl, rfl⟩
  | _, us, d :: ds, .cons (v := v) (vs := vs) r t, h => by
    have h' : (d.flat.bind fun v => (flats ds).map (v :: ·)) = some us := h
    cases q : d.flat with
    | none => rw [q] at h'; cases h'
    | some u =>
      cases q2 : flats ds with
      | none => rw [q, q2] at h'; cases h'
      | some ws =>
        rw [q, q2] at h'
        have h2 : some (u :: ws) = some us := h'
        cases h2
        obtain ⟨e1, f1⟩ := flat_is (H := G) (.rep r) q
        obtain ⟨e2, f2⟩ := flats_are t q2
        subst e1 e2
        exact ⟨rfl, by rw [List.all_cons, f1, f2]; rfl⟩
def dInB (neg : Bool) (x y : D) : Option D := match y with
  | .lst l => x.flat.bind fun u => (flats l).map fun us => .bl (if neg then !inV u us else inV u us)
  | .tup l => x.flat.bind fun u => (flats l).map fun us => .bl (if neg then !inV u us else inV u us)
  | _ => none
def dIn : D → D → Option D := dInB false
def dNotIn : D → D → Option D := dInB true
theorem os_inB {neg : Bool} : OpS K mg (rIn K neg) (dInB neg) := by
  intro p G H v u x y d Q hK hmg s rx ry hd k
  subst hK
  have key : ∀ l : List D, (x.flat.bind fun u => (flats l).map fun us => D.bl (if neg then !inV u us else inV u us)) = some d → ∃ w us, x.flat = some w ∧ flats l = some us ∧ d = .bl (if neg then !inV w us else inV w us) := by
    intro l h
    cases q : x.flat with
    | none => rw [q] at h; cases h
    | some w =>
      cases q2 : flats l with
      | none => rw [q, q2] at h; cases h
      | some us =>
        rw [q, q2] at h
        have h2 : some (D.bl (if neg then !inV w us else inV w us)) = some d := h
        exact ⟨w, us, rfl, rfl, (Option.some.inj h2).symm⟩
  cases y <;> try (cases hd; done)
  · rename_i l
    obtain ⟨w, us, h1, h2, rfl⟩ := key l hd
    obtain ⟨a, vs, rfl, ha, ra, _⟩ := ry.tup s
    obtain ⟨rfl, f1⟩ := flat_is rx h1
    obtain ⟨rfl, f2⟩ := flats_are ra h2
    exact ⟨a, _, rfl, .inr ha, f1, f2, k _ G H (.refl s) (.bl _)⟩
  · rename_i l
    obtain ⟨w, us, h1, h2, rfl⟩ := key l hd
    obtain ⟨a, vs, rfl, ha, ra⟩ := ry.lst s
    obtain ⟨rfl, f1⟩ := flat_is rx h1
    obtain ⟨rfl, f2⟩ := flats_are ra h2
    exact ⟨a, _, rfl, .inl (SqL.of ha), f1, f2, k _ G H (.refl s) (.bl _)⟩
theorem se_in (ha : SE X O al a f) (hb : SE X O bl b g) (hm : behindInMarks .In b = false := by first | exact nomark _ | rfl) : SE X O false (.Compare a [.In] [b] pos) (eBin dIn f g) := se_cmp op_in_seq os_inB ha hb hm
theorem se_notIn (ha : SE X O al a f) (hb : SE X O bl b g) (hm : behindInMarks .NotIn b = false := by first | exact nomark _ | rfl) : SE X O false (.Compare a [.NotIn] [b] pos) (eBin dNotIn f g) := se_cmp op_notIn_seq os_inB ha hb hm
/-- how often an item is in a list -/
def dCount (x y : D) : Option D := match x with
  | .lst l => y.flat.bind fun u => (flats l).map fun us => .int (us.countP fun z => eqV z u : Nat)
  | _ => none
theorem se_count {p3 : Pos} (ha : SE X O al a f) (hb : SE X O bl e g) (he : starEach [e] X.env = (false, eval e X.env) :: starEach [] X.env := by rfl)
    (hbase : attributeBase a "count" X.env (eval a X.env) = eval a X.env := by rfl)
    (hfew : ((backTo pos (starEach [e] X.env)).all (fun x => !x.1) && (backToKw pos (keywordEach [] X.env)).all (fun x => x.1.isSome)
      && decide ([e].length + ([] : List Keyword).length + (if ([] : List Keyword).isEmpty then 0 else 1) < 30)) = true := by rfl)
    (hline : (p3.endLine == pos.line) = true := by rfl) (hplain : (backTo pos (starEach [] X.env)).any (·.1) = false := by rfl) :
    SE X O false (.Call (.Attribute a "count" p3) [e] [] pos) (eBin dCount f g) :=
  PE.weak (pe_bm PySem.F.plainAttrs_list PySem.F.slot_list_count PySem.F.type_list_count mt_lcountF ha (pa_cons hb pa_nil he) hbase hfew hline he hplain) fun σ H Q ⟨dr, B, G0, δ, G, w, d, w', S, hf, k⟩ => by
    obtain ⟨x, w1, y, h1, h2, h3⟩ := eBin_some hf
    refine ⟨dr, B, G0, δ, G, w, x, w1, S, h1, fun v G1 H1 g1 S1 r1 => ?_⟩
    cases x <;> try (cases h3; done)
    rename_i l
    have h3' : (y.flat.bind fun u => (flats l).map fun us => D.int (us.countP fun z => eqV z u : Nat)) = some d := h3
    cases q : y.flat with
    | none => rw [q] at h3'; cases h3'
    | some u =>
      cases q2 : flats l with
      | none => rw [q, q2] at h3'; cases h3'
      | some us =>
        rw [q, q2] at h3'
        have h4 : some (D.int (us.countP fun z => eqV z u : Nat)) = some d := h3'
        cases h4
        obtain ⟨a0, vs0, e0, ha0, ra0⟩ := r1.x.lst S1.sub
        subst e0
        refine ⟨tyV_lst ha0, dr, B, G0, δ, G1, w1, y, w', S1, h2, fun z G2 H2 g2 S2 r2 => ?_⟩
        obtain ⟨a1, vs1, e1, ha1, ra1⟩ := (r1.grow g2).x.lst S2.sub
        cases e1
        obtain ⟨rfl, f1⟩ := flat_is r2.x q
        obtain ⟨rfl, f2⟩ := flats_are ra1 q2
        exact ⟨a0, _, _, rfl, rfl, SqL.of ha1, f1, f2, k _ G2 H2 (g1.trans g2) S2 (.int _)⟩
/-! ### defs as values -/
def eFn (x : Str) : Env → M D := fun _ => pure (.fn x)
theorem se_fn {P : Program} {w : World} {base : Heap} {k : Nat} {ps : List Str} {F : List D → M D} (H : Has P w X.K X.mg base k x ps F) (hg : Gl X x) (hd : (x == ("__debug__" : Str)) = false := by decide) : SE X O false (.Name x pos) (eFn x) := by
  obtain ⟨f, fd, h1, h2, h3, h4⟩ := H
  exact PE.weak (pe_glob (v := .ref f) hg h2 rfl hd) fun σ H Q ⟨dr, B, G0, δ, G, w, d', w', S, hf, k⟩ => by
    obtain ⟨h1, h2'⟩ := pure_some hf
    subst h1; subst h2'
    exact k (.ref f) G H (.refl _ G H) S (.fn h2)
def eDyn (tb : Str → Option (List D → M D)) (i : Nat) (fs : Env → M (List D)) : Env → M D := fun δ => match δ[i]? with
  | some (some (.fn x)) => match tb x with
    | some F => fs δ >>= F
    | none => fail
  | _ => fail
theorem eDyn_some {tb : Str → Option (List D → M D)} {i : Nat} {δ : Env} {w w' : Dw} {d : D} (h : eDyn tb i fs δ w = some (d, w')) : ∃ x F, δ[i]? = some (some (.fn x)) ∧ tb x = some F ∧ eDef F fs δ w = some (d, w') := by
  unfold eDyn at h
  cases q : δ[i]? with
  | none => rw [q] at h; cases h
  | some o =>
    cases o with
    | none => rw [q] at h; cases h
    | some d' =>
      cases d' <;> try (rw [q] at h; cases h; done)
      rename_i x
      rw [q] at h
      cases q2 : tb x with
      | none => simp only [q2] at h; cases h
      | some F =>
        simp only [q2] at h
        exact ⟨x, F, rfl, q2, h⟩
/-- a call through a name that holds one of the defs that tb tells -/
theorem se_dyn (i : Nat) {y : Str} {k : Nat} {tb : Str → Option (List D → M D)} (hT : ∀ x F, tb x = some F → ∃ ps, Has X.prog X.w X.K X.mg X.base k x ps F) (hr : Room k X.A) (ha : SA X O false (e :: es) fs) (hO : i ∉ O := by decide) (hN : X.N[i]? = some y := by rfl)
    (hv : Vis X.env.scope y := by first | exact Or.inl rfl | exact Or.inr (Or.inl rfl) | exact Or.inr (Or.inr rfl)) (hd : (y == ("__debug__" : Str)) = false := by decide) (hcd : (y == ("__classdict__" : Str)) = false := by decide)
    (he : starEach (e :: es) X.env = (false, eval e X.env) :: starEach es X.env := by rfl) (hpl : (backTo pos (starEach es X.env)).any (·.1) = false := by rfl) :
    SE X O false (.Call (.Name y p) (e :: es) [] pos) (eDyn tb i fs) := by
  refine ⟨fun pins s σ H Q I h => ?_⟩
  obtain ⟨dr, B, G0, δ, G, w, d, w', S, hf, kk⟩ := h
  obtain ⟨x, F, h1, h2, h3⟩ := eDyn_some hf
  obtain ⟨ps, f, fd, H1, H2, H3, H4⟩ := hT x F h2
  obtain ⟨v, ev, rv⟩ := S.vals i _ h1 hO
  have evf : v = .ref f := by
    cases rv with
    | fn hm =>
      have hm' : X.mg x = some (.ref _) := hm
      rw [H2] at hm'
      cases hm'
      rfl
  subst evf
  refine (ItX.pe_callV (H1.raw (ds := []) (dvs := []) H4 .nil) hr H3 (E := E0) pass0 hN hv ha hd hcd he hpl).run pins s σ H Q I ⟨ev, ?_⟩
  exact tOf_def ⟨dr, B, G0, δ, G, w, d, w', S, h3, kk⟩
/-! ### a place of one's own list -/
def opSet (d : D) (i : Int) (ds : List D) : Option (List D) := (ixN ds.length i).map fun j => ds.set j d
def sSetIx (i : Nat) (f g : Env → M D) : F1 := fun δ => do
  let d ← f δ
  let n ← g δ
  let k ← liftO (asI n)
  let δ' ← liftO (chg i (opSet d k) δ)
  pure (.nx, δ')
theorem ss_setIx (i : Nat) {x : Str} {p2 p3 : Pos} (ha : SE X O false e f) (hb : SE X O bl b g) (hO : i ∈ O := by decide) (hN : X.N[i]? = some x := by rfl) (hv : Vis X.env.scope x := by first | exact Or.inl rfl | exact Or.inr (Or.inl rfl))
    (hsub : ∀ v, assign (.Subscript (.Name x p2) b p3) X.env v = (do
      let ov ← holding [v] (eval (.Name x p2) X.env)
      let iv ← holding [v, ov] (eval b X.env)
      standAt p3
      holding [v, ov, iv] (setItem ov iv v)
      release [v, ov, iv] []) := by intro _; rfl)
    (hd : (x == ("__debug__" : Str)) = false := by decide) (hcd : (x == ("__classdict__" : Str)) = false := by decide)
    (hs : swapsWithSole [(.Subscript (.Name x p2) b p3)] e pos.line X.env = pure false := by rfl) (hw : swappedStores [(.Subscript (.Name x p2) b p3)] e X.env = pure none := by rfl)
    (h1 : (assignEach [(.Subscript (.Name x p2) b p3)] X.env).map (·.2) = [assign (.Subscript (.Name x p2) b p3) X.env] := by rfl) : SS X O (.Assign [.Subscript (.Name x p2) b p3] e pos) (sSetIx i f g) :=
  PS.weak (ps_asg ha (pg_sub (pe_var hN (by rcases hv with h | h; exact .inl h; exact .inr h) hd hcd) hb set_list hsub) hs hw h1) fun E σ H ⟨dr, B, G0, δ, G, w, o, δ', w', S, hf, k⟩ => by
    obtain ⟨d, w1, h1, hf1⟩ := bind_some hf
    obtain ⟨n, w2, h2, hf2⟩ := bind_some hf1
    obtain ⟨j, w3, h3, hf3⟩ := bind_some hf2
    obtain ⟨h4, rfl⟩ := liftO_some h3
    obtain ⟨δ1, w4, h5, hf4⟩ := bind_some hf3
    obtain ⟨h6, rfl⟩ := liftO_some h5
    obtain ⟨e, rfl⟩ := pure_some hf4
    cases e
    obtain ⟨ds, ds', e1, e2, e3⟩ := chg_some h6
    subst e3
    obtain ⟨a, vs, ds0, z0, z1, z2, z3, z4, z5⟩ := S.owns i _ e1 hO
    refine ⟨dr, B, G0, δ, G, w, d, w1, S, h1, fun v G1 H1 g1 S1 r1 => ?_⟩
    refine ⟨.ref a, z1, dr, B, G0, δ, G1, w1, n, _, S1, h2, fun u G2 H2 g2 S2 r2 => ?_⟩
    obtain ⟨a', vs', ds1, y0, y1, y2, y3, y4, y5⟩ := S2.owns i _ e1 hO
    rw [z1] at y1
    cases y1
    cases y0
    unfold opSet at e2
    cases q : ixN ds.length j with
    | none => rw [q] at e2; cases e2
    | some m =>
      rw [q] at e2
      have e2' : some (ds.set m d) = some ds' := e2
      cases e2'
      cases n <;> try (cases h4; done)
      cases h4
      refine ⟨a, vs', _, m, rfl, r2.x.int, y2, by rw [y5.length]; exact q, ?_⟩
      exact k σ G2 _ (S2.mut hO e1 z1 y2 (RepAll.set (Rep.mono g2.g r1) m y5)) (g1.g.trans g2.g)
end
end Fc

/-! Fc, part K: three names at once; tables of defs. -/
namespace Fc
open PySem PySem.Spec PyProof.Rows L2
section
variable {P : Program} {w : World} {K : PySem.W.Frag} {mg : Str → Option Value} {base : Heap} {j k : Nat} {x : Str} {ps : List Str} {F : List D → M D}
theorem Has.mono (H : Has P w K mg base j x ps F) (h : j ≤ k) : Has P w K mg base k x ps F := by
  obtain ⟨f, fd, h1, h2, h3, h4⟩ := H
  exact ⟨f, fd, h1.mono h, h2, h3, h4⟩
/-- a table of defs -/
def tbN : Str → Option (List D → M D) := fun _ => none
def tbC (x0 : Str) (F0 : List D → M D) (rest : Str → Option (List D → M D)) : Str → Option (List D → M D) := fun x => if x = x0 then some F0 else rest x
theorem tbN_has : ∀ x F, tbN x = some F → ∃ ps, Has P w K mg base k x ps F := fun x F h => by cases h
theorem tbC_has {x0 : Str} {F0 : List D → M D} {rest : Str → Option (List D → M D)} (h0 : Has P w K mg base k x0 ps F0) (hr : ∀ x F, rest x = some F → ∃ ps, Has P w K mg base k x ps F) : ∀ x F, tbC x0 F0 rest x = some F → ∃ ps, Has P w K mg base k x ps F := by
  intro x F h
  unfold tbC at h
  split at h
  · rename_i e
    cases h
    subst e
    exact ⟨_, h0⟩
  · exact hr x F h
end
section
variable {X : Cx} {O : List Nat} {a b c : Expr} {fs : Env → M (List D)} {pos : Pos}
theorem RepAs.three {p : Par} {al : Bool} {G H : Hp} {vs : List V} {d e f : D} (r : RepAs p al G H vs [d, e, f]) : ∃ v u t, vs = [v, u, t] ∧ RepA p al G H v d ∧ RepA p al G H u e ∧ RepA p al G H t f := by
  cases r with
  | cons r t => cases t with
    | cons r2 t => cases t with
      | cons r3 t => cases t; exact ⟨_, _, _, rfl, r, r2, r3⟩
/-- a, b, c = x, y, z of three local names -/
def sPar3 (i j l : Nat) (fs : Env → M (List D)) : F1 := fun δ => do
  let xs ← fs δ
  match xs with
  | [x, y, z] => pure (.nx, ((δ.set i (some x)).set j (some y)).set l (some z))
  | _ => fail
theorem ss_par3 (i j l : Nat) {x y z : Str} {px py pz pt : Pos} {kt k2 pt2} (hc : X.calm = true) (hN : X.N.Nodup) (ha : SA X O false [a, b, c] fs) (hO : i ∉ O := by decide) (hO2 : j ∉ O := by decide) (hO3 : l ∉ O := by decide) (hi : X.N[i]? = some x := by rfl) (hj : X.N[j]? = some y := by rfl) (hl : X.N[l]? = some z := by rfl)
    (hij : i ≠ j := by decide) (hil : i ≠ l := by decide) (hjl : j ≠ l := by decide)
    (hx : X.env.scope.names.lookup x = some .local := by rfl) (hy : X.env.scope.names.lookup y = some .local := by rfl) (hz : X.env.scope.names.lookup z = some .local := by rfl)
    (hw : swappedStores [.Tuple [.Name x px, .Name y py, .Name z pz] kt pt] (.Tuple [a, b, c] k2 pt2) X.env = pure (some [x, y, z]) := by rfl)
    (hs : swapsWithSole [.Tuple [.Name x px, .Name y py, .Name z pz] kt pt] (.Tuple [a, b, c] k2 pt2) pos.line X.env = pure false := by rfl) :
    SS X O (.Assign [.Tuple [.Name x px, .Name y py, .Name z pz] kt pt] (.Tuple [a, b, c] k2 pt2) pos) (sPar3 i j l fs) :=
  PS.weak (ps_par3 hc hN hi hj hl hij hil hjl hx hy hz ha hw hs) fun E σ H ⟨dr, B, G0, δ, G, w, o, δ', w', S, hf, k⟩ => by
    obtain ⟨xs, w1, h1, hf1⟩ := bind_some hf
    refine ⟨dr, B, G0, δ, G, w, xs, w1, S, h1, fun vs G1 H1 g1 S1 r1 => ?_⟩
    match xs, hf1, r1 with
    | [d1, d2, d3], hf1, r1 =>
      obtain ⟨e, rfl⟩ := pure_some hf1
      cases e
      obtain ⟨v, u, t, rfl, ra, rb, rc⟩ := r1.three
      exact ⟨v, u, t, rfl, k _ G1 H1 (((S1.set hO ra).set hO2 rb).set hO3 rc) g1.g⟩
end
end Fc

/-! Fc, part M: working out what bodies compute. -/
namespace Fc
open PySem L2

/-- m runs from w, and its end is as Q says -/
def wp {α : Type} (m : M α) (Q : α → Dw → Prop) (w : Dw) : Prop := ∃ a w', m w = some (a, w') ∧ Q a w'
section
variable {α β : Type} {Q : α → Dw → Prop} {R : β → Dw → Prop} {w : Dw}
theorem wp_pure (a : α) : wp (pure a) Q w = Q a w := propext ⟨fun ⟨b, w', h, q⟩ => by
  obtain ⟨rfl, rfl⟩ := pure_some h
  exact q, fun q => ⟨a, w, rfl, q⟩⟩
theorem wp_bind (m : M α) (f : α → M β) : wp (m >>= f) R w = wp m (fun a => wp (f a) R) w := propext ⟨fun ⟨b, w', h, q⟩ => by
  obtain ⟨a, w1, h1, h2⟩ := bind_some h
  exact ⟨a, w1, h1, b, w', h2, q⟩, fun ⟨a, w1, h1, b, w', h2, q⟩ => ⟨b, w', by
    show (m w).bind (fun p => f p.1 p.2) = _
    rw [h1]
    exact h2, q⟩⟩
theorem liftO_pure (a : α) : liftO (some a) = (pure a : M α) := rfl
theorem wp_liftO (a : α) : wp (liftO (some a)) Q w = Q a w := wp_pure a
theorem wp_mono {Q' : α → Dw → Prop} {m : M α} (h : wp m Q w) (k : ∀ a w', Q a w' → Q' a w') : wp m Q' w := let ⟨a, w', h1, q⟩ := h; ⟨a, w', h1, k a w' q⟩
theorem wp_next {m : Int} {Q : D → Dw → Prop} (hm : 0 < m ∧ m < 1073741824) (h : ∀ k w', 0 ≤ k → k < m → Q (.int k) w') : wp (nextF [.drw, .int m]) Q w := by
  refine ⟨.int (nextW m w).1, (nextW m w).2, ?_, ?_⟩
  · show (if 0 < m ∧ m < 1073741824 then some _ else none) = _
    rw [if_pos hm]
  · obtain ⟨h1, h2⟩ := nextW_lt (w := w) hm.1
    exact h _ _ h1 h2
theorem wp_ite {c : Prop} [Decidable c] {m n : M α} : wp (if c then m else n) Q w = if c then wp m Q w else wp n Q w := by
  split <;> rfl
end

/-! ### small facts that simp uses -/
theorem eVar_at {i : Nat} {δ : Env} {d : D} (h : δ[i]? = some (some d)) : eVar i δ = pure d := by
  have e : eVar i δ = (match δ[i]? with | some (some d) => pure d | _ => fail) := rfl
  rw [e, h]
theorem eVar_zero (d : D) (δ : Env) : eVar 0 (some d :: δ) = pure d := rfl
theorem eVar_succ (i : Nat) (o : Option D) (δ : Env) : eVar (i + 1) (o :: δ) = eVar i δ := rfl
theorem dEq_int (a b : Int) : dEq (.int a) (.int b) = some (.bl (decide (a = b))) := by
  show (if (D.int a).sh = true ∧ (D.int b).sh = true then some (D.bl ((D.int a).eqv (.int b))) else none) = _
  have h : ∀ x : Int, (D.int x).sh = true := fun x => rfl
  rw [if_pos ⟨h a, h b⟩]
  show some (D.bl (a == b)) = _
  rw [Bool.beq_eq_decide_eq]
theorem dNe_int (a b : Int) : dNe (.int a) (.int b) = some (.bl (!decide (a = b))) := by
  show (if (D.int a).sh = true ∧ (D.int b).sh = true then some (D.bl (!(D.int a).eqv (.int b))) else none) = _
  have h : ∀ x : Int, (D.int x).sh = true := fun x => rfl
  rw [if_pos ⟨h a, h b⟩]
  show some (D.bl (!(a == b))) = _
  rw [Bool.beq_eq_decide_eq]
end Fc
namespace Fc
open PySem L2
theorem pb {α β : Type} (a : α) (f : α → M β) : (pure a >>= f) = f a := rfl
theorem bb {α β γ : Type} (m : M α) (f : α → M β) (g : β → M γ) : ((m >>= f) >>= g) = (m >>= fun a => f a >>= g) := by
  funext w
  show ((m w).bind fun p => f p.1 p.2).bind (fun p => g p.1 p.2) = (m w).bind fun p => ((f p.1 p.2).bind fun q => g q.1 q.2)
  cases m w <;> rfl
/-- the end of a body -/
def endF (p : Out × Env) : M D := match p.1 with
  | .rt d => pure d
  | .nx => pure .non
  | _ => fail
theorem bodyF_eq {n m : Nat} {F : F1} {ds : List D} (h : ds.length = n) : bodyF n m F ds = (F (ds.map some ++ List.replicate (m - ds.length) none) >>= endF) := by
  unfold bodyF
  rw [if_pos h]
  rfl
theorem bodyF_1 {m : Nat} {F : F1} {a : D} : bodyF 1 m F [a] = (F (some a :: List.replicate (m - 1) none) >>= endF) := rfl
theorem bodyF_2 {m : Nat} {F : F1} {a b : D} : bodyF 2 m F [a, b] = (F (some a :: some b :: List.replicate (m - 2) none) >>= endF) := rfl
theorem bodyF_3 {m : Nat} {F : F1} {a b c : D} : bodyF 3 m F [a, b, c] = (F (some a :: some b :: some c :: List.replicate (m - 3) none) >>= endF) := rfl
theorem bodyF_4 {m : Nat} {F : F1} {a b c d : D} : bodyF 4 m F [a, b, c, d] = (F (some a :: some b :: some c :: some d :: List.replicate (m - 4) none) >>= endF) := rfl
theorem bodyF_5 {m : Nat} {F : F1} {a b c d e : D} : bodyF 5 m F [a, b, c, d, e] = (F (some a :: some b :: some c :: some d :: some e :: List.replicate (m - 5) none) >>= endF) := rfl
theorem sSeq_eq (F F' : F1) (δ : Env) : sSeq F F' δ = (F δ >>= fun p => match p.1 with | .nx => F' p.2 | o => pure (o, p.2)) := rfl
theorem sSeq_nx {F F' : F1} {δ δ1 : Env} (h : F δ = pure (.nx, δ1)) : sSeq F F' δ = F' δ1 := by
  rw [sSeq_eq, h]
  rfl
theorem sSeq_rt {F F' : F1} {δ δ1 : Env} {d : D} (h : F δ = pure (.rt d, δ1)) : sSeq F F' δ = pure (.rt d, δ1) := by
  rw [sSeq_eq, h]
  rfl
theorem endF_rt (d : D) (δ : Env) : endF (.rt d, δ) = pure d := rfl
theorem endF_nx (δ : Env) : endF (.nx, δ) = pure .non := rfl
theorem set_zero {α : Type} (a b : α) (l : List α) : (a :: l).set 0 b = b :: l := rfl
theorem set_succ {α : Type} (a b : α) (n : Nat) (l : List α) : (a :: l).set (n + 1) b = a :: l.set n b := rfl
theorem if_tt {α : Type} (a b : α) : (if true = true then a else b) = a := rfl
/-! statements in a row, by equations -/
section
variable {F F' A C : F1} {δ δ1 δ2 : Env} {d : D} {r : M D} {g : Out × Env → M D} {c : Env → M Bool} {b : Bool}
theorem q_seq (h : F δ = pure (.nx, δ1)) (k : (F' δ1 >>= g) = r) : (sSeq F F' δ >>= g) = r := by
  rw [sSeq_nx h]
  exact k
theorem q_ret (h : F δ = pure (.rt d, δ1)) (k : g (.rt d, δ1) = r) : (sSeq F F' δ >>= g) = r := by
  rw [sSeq_rt h]
  exact k
theorem q_end (h : F δ = pure (.rt d, δ1)) (k : g (.rt d, δ1) = r) : (F δ >>= g) = r := by
  rw [h]
  exact k
theorem sIf_t (h : c δ = pure true) : sIf c A C δ = A δ := by
  show (c δ >>= fun k => if k = true then A δ else C δ) = _
  rw [h]
  rfl
theorem sIf_f (h : c δ = pure false) : sIf c A C δ = C δ := by
  show (c δ >>= fun k => if k = true then A δ else C δ) = _
  rw [h]
  rfl
theorem sIf_b (h : c δ = pure b) : sIf c A C δ = if b = true then A δ else C δ := by
  show (c δ >>= fun k => if k = true then A δ else C δ) = _
  rw [h]
  rfl
end
/-! loops -/
section
variable {T : Tg} {F : F1} {t : Env → M Bool} {f : Env → M D}
/-- every turn goes on -/
theorem forL_all (I : Env → Prop) : ∀ {ds : List D} {δ : Env}, I δ → (∀ d ∈ ds, ∀ δ, I δ → ∃ δ1 δ2, setT T d δ = some δ1 ∧ F δ1 = pure (.nx, δ2) ∧ I δ2) → ∃ δ', forL T F ds δ = pure (.nx, δ') ∧ I δ'
  | [], δ, h, _ => ⟨δ, rfl, h⟩
  | d :: ds, δ, h, k => by
    obtain ⟨δ1, δ2, h1, h2, h3⟩ := k d List.mem_cons_self δ h
    obtain ⟨δ', e, h4⟩ := forL_all I h3 fun d' hd => k d' (List.mem_cons_of_mem _ hd)
    refine ⟨δ', ?_, h4⟩
    show (liftO (setT T d δ) >>= fun δ1 => F δ1 >>= _) = _
    rw [h1, liftO_pure, pb, h2]
    exact e
/-- a search: the first that P takes is handed back by r -/
theorem forL_find (I : Env → Prop) (P : D → Bool) (r : D → D) : ∀ {ds : List D} {δ : Env}, I δ → (∀ d ∈ ds, ∀ δ, I δ → ∃ δ1 δ2, setT T d δ = some δ1 ∧ ((P d = true ∧ F δ1 = pure (.rt (r d), δ2)) ∨ (P d = false ∧ F δ1 = pure (.nx, δ2) ∧ I δ2))) →
    (∃ d δ', ds.find? P = some d ∧ forL T F ds δ = pure (.rt (r d), δ')) ∨ (∃ δ', ds.find? P = none ∧ forL T F ds δ = pure (.nx, δ') ∧ I δ')
  | [], δ, h, _ => .inr ⟨δ, rfl, rfl, h⟩
  | d :: ds, δ, h, k => by
    obtain ⟨δ1, δ2, h1, h2⟩ := k d List.mem_cons_self δ h
    have e0 : forL T F (d :: ds) δ = (liftO (setT T d δ) >>= fun δ1 => F δ1 >>= fun p => match p.1 with
      | .nx => forL T F ds p.2
      | .ct => forL T F ds p.2
      | .bk => pure (.nx, p.2)
      | .rt d => pure (.rt d, p.2)) := rfl
    rw [e0, h1, liftO_pure, pb]
    rcases h2 with ⟨hp, h2⟩ | ⟨hp, h2, h3⟩
    · exact .inl ⟨d, δ2, by rw [List.find?_cons, hp], by rw [h2]; rfl⟩
    · rw [h2, List.find?_cons, hp]
      exact forL_find I P r h3 fun d' hd => k d' (List.mem_cons_of_mem _ hd)
/-- a loop that carries a state s -/
theorem forL_fold {σ : Type} (I : σ → Env → Prop) (step : σ → D → σ) : ∀ {ds : List D} {δ : Env} {s : σ}, I s δ → (∀ d ∈ ds, ∀ s δ, I s δ → ∃ δ1 δ2, setT T d δ = some δ1 ∧ (F δ1 = pure (.nx, δ2) ∨ F δ1 = pure (.ct, δ2)) ∧ I (step s d) δ2) → ∃ δ', forL T F ds δ = pure (.nx, δ') ∧ I (ds.foldl step s) δ'
  | [], δ, s, h, _ => ⟨δ, rfl, h⟩
  | d :: ds, δ, s, h, k => by
    obtain ⟨δ1, δ2, h1, h2, h3⟩ := k d List.mem_cons_self s δ h
    obtain ⟨δ', e, h4⟩ := forL_fold I step h3 fun d' hd => k d' (List.mem_cons_of_mem _ hd)
    refine ⟨δ', ?_, h4⟩
    have e0 : forL T F (d :: ds) δ = (liftO (setT T d δ) >>= fun δ1 => F δ1 >>= fun p => match p.1 with
      | .nx => forL T F ds p.2
      | .ct => forL T F ds p.2
      | .bk => pure (.nx, p.2)
      | .rt d => pure (.rt d, p.2)) := rfl
    rw [e0, h1, liftO_pure, pb]
    rcases h2 with h2 | h2
    · rw [h2]
      exact e
    · rw [h2]
      exact e
/-- a comprehension: the items that q takes, by v -/
theorem lcL_pure {δ : Env} (q : D → Bool) (v : D → D) : ∀ {ds : List D}, (∀ d ∈ ds, ∃ δ1, setT T d δ = some δ1 ∧ t δ1 = pure (q d) ∧ (q d = true → f δ1 = pure (v d))) → lcL T t f δ ds = pure ((ds.filter q).map v)
  | [], _ => rfl
  | d :: ds, h => by
    obtain ⟨δ1, h1, h2, h3⟩ := h d List.mem_cons_self
    have ih := lcL_pure q v (ds := ds) fun d' hd => h d' (List.mem_cons_of_mem _ hd)
    have e0 : lcL T t f δ (d :: ds) = (liftO (setT T d δ) >>= fun δ1 => t δ1 >>= fun k => if k = true then f δ1 >>= fun y => lcL T t f δ ds >>= fun ys => pure (y :: ys) else lcL T t f δ ds) := rfl
    rw [e0, h1, liftO_pure, pb, h2, pb, List.filter_cons]
    cases hq : q d with
    | true =>
      rw [if_pos rfl, if_pos rfl, h3 hq, pb, ih, pb]
      rfl
    | false =>
      rw [if_neg Bool.false_ne_true, if_neg Bool.false_ne_true]
      exact ih
theorem lcL_map {δ : Env} (v : D → D) {ds : List D} (h : ∀ d ∈ ds, ∃ δ1, setT T d δ = some δ1 ∧ f δ1 = pure (v d)) : lcL T tYesF f δ ds = pure (ds.map v) := by
  rw [lcL_pure (t := tYesF) (fun _ => true) v (fun d hd => let ⟨δ1, h1, h2⟩ := h d hd; ⟨δ1, h1, rfl, fun _ => h2⟩), List.filter_eq_self.mpr fun _ _ => rfl]
end
/-! ### lists of numbers -/
def zl (l : List Int) : List D := l.map D.int
theorem ints_len (l : List Int) : (zl l).length = l.length := List.length_map _
theorem ints_cut (l : List Int) (lo hi : Option Int) : cutD (zl l) lo hi = zl (cutD l lo hi) := by
  unfold cutD zl
  rw [List.length_map, List.map_take, List.map_drop]
theorem ints_at (l : List Int) (i : Int) : atI (zl l) i = (atI l i).map D.int := by
  unfold atI zl
  rw [List.length_map]
  cases ixN l.length i with
  | none => rfl
  | some j => simp
theorem ints_rep (l : List Int) (k : Nat) : (List.replicate k (zl l)).flatten = zl (List.replicate k l).flatten := by
  unfold zl
  rw [List.map_flatten, List.map_replicate]
theorem ints_app (l m : List Int) : zl l ++ zl m = zl (l ++ m) := by
  unfold zl
  rw [List.map_append]
theorem pds_ints : ∀ l : List Int, D.pds (zl l) = l.map PyData.int
  | [] => rfl
  | x :: l => by
    show D.pd (.int x) :: D.pds (zl l) = _
    rw [pds_ints l]
    rfl
theorem dats_ints : ∀ l : List Int, D.dats (zl l) = true
  | [] => rfl
  | x :: l => by
    show (D.dat (.int x) && D.dats (zl l)) = true
    rw [dats_ints l]
    rfl
theorem lay_ints : ∀ l : List Int, PyData.canLayAll0 (l.map PyData.int) = true
  | [] => rfl
  | x :: l => by
    show (PyData.canLay0 (.int x) && PyData.canLayAll0 (l.map PyData.int)) = true
    rw [lay_ints l]
    rfl
theorem depth_ints : ∀ l : List Int, PyData.depthAll (l.map PyData.int) = 0
  | [] => rfl
  | x :: l => by
    show max (PyData.depth (.int x)) (PyData.depthAll (l.map PyData.int)) = 0
    rw [depth_ints l]
    rfl
theorem sh_ints (l : List Int) : (D.tup (zl l)).sh = true := by
  show (D.dats (zl l) && (PyData.canLayAll0 (D.pds (zl l)) && decide (PyData.depthAll (D.pds (zl l)) + 1 ≤ 64))) = true
  rw [dats_ints, pds_ints, lay_ints, depth_ints]
  rfl
theorem eqv_ints : ∀ l m : List Int, PyData.eqvAll (l.map PyData.int) (m.map PyData.int) = decide (l = m)
  | [], [] => rfl
  | [], y :: m => by simp [PyData.eqvAll]
  | x :: l, [] => by simp [PyData.eqvAll]
  | x :: l, y :: m => by
    rw [List.map_cons, List.map_cons, PyData.eqvAll, PyData.eqv, eqv_ints l m]
    by_cases h : x = y
    · subst h
      simp
    · simp [h]
theorem dEq_ints (l m : List Int) : dEq (.tup (zl l)) (.tup (zl m)) = some (.bl (decide (l = m))) := by
  unfold dEq
  rw [if_pos ⟨sh_ints l, sh_ints m⟩]
  show some (D.bl (PyData.eqv (.tuple (D.pds (zl l))) (.tuple (D.pds (zl m))))) = _
  rw [PyData.eqv, pds_ints, pds_ints, eqv_ints]
theorem if_ff {α : Type} (a b : α) : (if false = true then a else b) = b := rfl
theorem isTy_int_non  : isTy "int" .non = some false := by show kitB "NoneType" "int" = _; decide +kernel
theorem isTy_int_bl (b : Bool) : isTy "int" (.bl b) = some true := by show kitB "bool" "int" = _; decide +kernel
theorem isTy_int_int (i : Int) : isTy "int" (.int i) = some true := by show kitB "int" "int" = _; decide +kernel
theorem isTy_int_str (x : Str) : isTy "int" (.str x) = some false := by show kitB "str" "int" = _; decide +kernel
theorem isTy_int_tup (l : List D) : isTy "int" (.tup l) = some false := by show kitB "tuple" "int" = _; decide +kernel
theorem isTy_int_lst (l : List D) : isTy "int" (.lst l) = some false := by show kitB "list" "int" = _; decide +kernel
theorem isTy_bool_non  : isTy "bool" .non = some false := by show kitB "NoneType" "bool" = _; decide +kernel
theorem isTy_bool_bl (b : Bool) : isTy "bool" (.bl b) = some true := by show kitB "bool" "bool" = _; decide +kernel
theorem isTy_bool_int (i : Int) : isTy "bool" (.int i) = some false := by show kitB "int" "bool" = _; decide +kernel
theorem isTy_bool_str (x : Str) : isTy "bool" (.str x) = some false := by show kitB "str" "bool" = _; decide +kernel
theorem isTy_bool_tup (l : List D) : isTy "bool" (.tup l) = some false := by show kitB "tuple" "bool" = _; decide +kernel
theorem isTy_bool_lst (l : List D) : isTy "bool" (.lst l) = some false := by show kitB "list" "bool" = _; decide +kernel
theorem isTy_tuple_non  : isTy "tuple" .non = some false := by show kitB "NoneType" "tuple" = _; decide +kernel
theorem isTy_tuple_bl (b : Bool) : isTy "tuple" (.bl b) = some false := by show kitB "bool" "tuple" = _; decide +kernel
theorem isTy_tuple_int (i : Int) : isTy "tuple" (.int i) = some false := by show kitB "int" "tuple" = _; decide +kernel
theorem isTy_tuple_str (x : Str) : isTy "tuple" (.str x) = some false := by show kitB "str" "tuple" = _; decide +kernel
theorem isTy_tuple_tup (l : List D) : isTy "tuple" (.tup l) = some true := by show kitB "tuple" "tuple" = _; decide +kernel
theorem isTy_tuple_lst (l : List D) : isTy "tuple" (.lst l) = some false := by show kitB "list" "tuple" = _; decide +kernel
theorem isTy_list_non  : isTy "list" .non = some false := by show kitB "NoneType" "list" = _; decide +kernel
theorem isTy_list_bl (b : Bool) : isTy "list" (.bl b) = some false := by show kitB "bool" "list" = _; decide +kernel
theorem isTy_list_int (i : Int) : isTy "list" (.int i) = some false := by show kitB "int" "list" = _; decide +kernel
theorem isTy_list_str (x : Str) : isTy "list" (.str x) = some false := by show kitB "str" "list" = _; decide +kernel
theorem isTy_list_tup (l : List D) : isTy "list" (.tup l) = some false := by show kitB "tuple" "list" = _; decide +kernel
theorem isTy_list_lst (l : List D) : isTy "list" (.lst l) = some true := by show kitB "list" "list" = _; decide +kernel
theorem isTy_str_non  : isTy "str" .non = some false := by show kitB "NoneType" "str" = _; decide +kernel
theorem isTy_str_bl (b : Bool) : isTy "str" (.bl b) = some false := by show kitB "bool" "str" = _; decide +kernel
theorem isTy_str_int (i : Int) : isTy "str" (.int i) = some false := by show kitB "int" "str" = _; decide +kernel
theorem isTy_str_str (x : Str) : isTy "str" (.str x) = some true := by show kitB "str" "str" = _; decide +kernel
theorem isTy_str_tup (l : List D) : isTy "str" (.tup l) = some false := by show kitB "tuple" "str" = _; decide +kernel
theorem isTy_str_lst (l : List D) : isTy "str" (.lst l) = some false := by show kitB "list" "str" = _; decide +kernel
theorem opt_bind_some {α β : Type} (a : α) (f : α → Option β) : (some a).bind f = f a := rfl
theorem opt_map_some {α β : Type} (a : α) (f : α → β) : (some a).map f = some (f a) := rfl
theorem pure_inj {α : Type} {a b : α} (h : a = b) : (pure a : M α) = pure b := by rw [h]
theorem andV_b (a : Bool) (m : M D) : (if a = true then m else pure (.bl false)) = if a = true then m else pure (.bl false) := rfl
theorem shB (b : Bool) : (D.bl b).sh = true := rfl
theorem at0 {α : Type} (a : α) (l : List α) : atI (a :: l) 0 = some a := by
  have : atI (a :: l) ((0 : Nat) : Int) = some a := atI_nat rfl
  exact this
theorem at1 {α : Type} (a b : α) (l : List α) : atI (a :: b :: l) 1 = some b := by
  have : atI (a :: b :: l) ((1 : Nat) : Int) = some b := atI_nat rfl
  exact this
theorem at2 {α : Type} (a b c : α) (l : List α) : atI (a :: b :: c :: l) 2 = some c := by
  have : atI (a :: b :: c :: l) ((2 : Nat) : Int) = some c := atI_nat rfl
  exact this
theorem dIx_tup (l : List D) (i : Int) : dIx (.tup l) (.int i) = atI l i := rfl
theorem dIx_lst (l : List D) (i : Int) : dIx (.lst l) (.int i) = atI l i := rfl

theorem dDiv_ok {i j : Int} (h : j ≠ 0) (h2 : j.natAbs < 1073741824) : dDiv (.int i) (.int j) = some (.int (i.fdiv j)) := by
  unfold dDiv
  exact if_pos ⟨h, h2⟩
theorem dMod_ok {i j : Int} (h : j ≠ 0) : dMod (.int i) (.int j) = some (.int (i.fmod j)) := by
  unfold dMod
  exact if_pos h
theorem dMul_okL {i j : Int} (h1 : -18446744073709551616 < i) (h2 : i < 18446744073709551616) : dMul (.int i) (.int j) = some (.int (i * j)) := by
  unfold dMul small64
  refine if_pos ?_
  have e : (2 : Int) ^ 64 = 18446744073709551616 := by decide
  rw [e, decide_eq_true h1, decide_eq_true h2]
  rfl
theorem dMul_okR {i j : Int} (h1 : -18446744073709551616 < j) (h2 : j < 18446744073709551616) : dMul (.int i) (.int j) = some (.int (i * j)) := by
  unfold dMul small64
  refine if_pos ?_
  have e : (2 : Int) ^ 64 = 18446744073709551616 := by decide
  rw [e, decide_eq_true h1, decide_eq_true h2]
  simp
theorem len_ok {α : Type} {n : Nat} {a b : M α} (h : n ≤ 100000) : (if n ≤ LIM then a else b) = a := if_pos h

theorem dRange1_ok {n : Int} (h1 : -1000000000 ≤ n) (h2 : n ≤ 1000000000) : dRange1 [.int n] = some (rangeD 0 n.toNat) := by
  unfold dRange1 BIG
  exact if_pos ⟨h1, h2⟩
theorem dRange2_ok {i n : Int} (h1 : -1000000000 ≤ i) (h2 : i ≤ 1000000000) (h3 : -1000000000 ≤ n) (h4 : n ≤ 1000000000) : dRange2 [.int i, .int n] = some (rangeD i (n - i).toNat) := by
  unfold dRange2 BIG
  exact if_pos ⟨h1, h2, h3, h4⟩
theorem dMul_tup {xs : List D} {k : Int} (h1 : -1000 ≤ k) (h2 : k ≤ 1000) (h3 : xs.length ≤ 1000) : dMul (.tup xs) (.int k) = some (.tup (List.replicate k.toNat xs).flatten) := by
  unfold dMul
  exact if_pos ⟨h1, h2, h3⟩
theorem dAdd_tup {xs ys : List D} (h : xs.length + ys.length ≤ 100000) : dAdd (.tup xs) (.tup ys) = some (.tup (xs ++ ys)) := by
  unfold dAdd
  exact if_pos h
theorem dAdd_int (i j : Int) : dAdd (.int i) (.int j) = some (.int (i + j)) := rfl
theorem q_for {T : Tg} {fs : Env → M (List D)} {F F' : F1} {δ : Env} {g : Out × Env → M D} {r : M D} {ds : List D} (h : fs δ = pure ds) (k : (forL T F ds δ >>= fun p => (match p.1 with | .nx => F' p.2 | o => pure (o, p.2)) >>= g) = r) : (sSeq (sFor T fs F) F' δ >>= g) = r := by
  rw [sSeq_eq, bb]
  have e : sFor T fs F δ = forL T F ds δ := by
    unfold sFor
    rw [h, pb]
  rw [e]
  exact k

theorem eLc_eq {own : List Nat} {T : Tg} {fs : Env → M (List D)} {t : Env → M Bool} {f : Env → M D} {δ : Env} {ds ys : List D} (h : fs δ = pure ds) (hl : ds.length ≤ 100000) (hc : lcL T t f (wipeD δ own) ds = pure ys) : eLc own T fs t f δ = pure (.lst ys) := by
  unfold eLc
  rw [h, pb]
  have e : (if ds.length ≤ LIM then (do let ys ← lcL T t f (wipeD δ own) ds; pure (D.lst ys)) else fail) = (do let ys ← lcL T t f (wipeD δ own) ds; pure (D.lst ys)) := if_pos hl
  rw [e, hc, pb]
theorem if_T {α : Type} (a b : α) : (if True then a else b) = a := if_pos trivial
theorem if_F {α : Type} (a b : α) : (if False then a else b) = b := if_neg id
theorem whileL_step {n : Nat} {c : Env → M Bool} {F : F1} {δ δ1 : Env} (h : c δ = pure true) (h1 : F δ = pure (.nx, δ1)) : whileL (n + 1) c F δ = whileL n c F δ1 := by
  have e : whileL (n + 1) c F δ = (c δ >>= fun k => if k = true then F δ >>= fun p => match p.1 with
    | .nx => whileL n c F p.2
    | .ct => whileL n c F p.2
    | .bk => pure (.nx, p.2)
    | .rt d => pure (.rt d, p.2) else pure (.nx, δ)) := rfl
  rw [e, h, pb, if_pos rfl, h1]
  rfl
theorem whileL_end {n : Nat} {c : Env → M Bool} {F : F1} {δ : Env} (h : c δ = pure false) : whileL (n + 1) c F δ = pure (.nx, δ) := by
  have e : whileL (n + 1) c F δ = (c δ >>= fun k => if k = true then F δ >>= fun p => match p.1 with
    | .nx => whileL n c F p.2
    | .ct => whileL n c F p.2
    | .bk => pure (.nx, p.2)
    | .rt d => pure (.rt d, p.2) else pure (.nx, δ)) := rfl
  rw [e, h]
  rfl
/-- two lists of numbers in a pair -/
def calD (h t : List Int) : D := .tup [.tup (zl h), .tup (zl t)]
theorem sh_calD (h t : List Int) : (calD h t).sh = true := by
  show ((D.dats (zl h) && (D.dats (zl t) && true)) && ((PyData.canLayAll0 (D.pds (zl h)) && (PyData.canLayAll0 (D.pds (zl t)) && true)) && decide (max (PyData.depthAll (D.pds (zl h)) + 1) (max (PyData.depthAll (D.pds (zl t)) + 1) 0) + 1 ≤ 64))) = true
  rw [dats_ints, dats_ints, pds_ints, pds_ints, lay_ints, lay_ints, depth_ints, depth_ints]
  rfl
theorem eqv_calD (a b c d : List Int) : (calD a b).eqv (calD c d) = decide (a = c ∧ b = d) := by
  show (PyData.eqvAll (D.pds (zl a)) (D.pds (zl c)) && (PyData.eqvAll (D.pds (zl b)) (D.pds (zl d)) && true)) = _
  rw [pds_ints, pds_ints, pds_ints, pds_ints, eqv_ints, eqv_ints, Bool.and_true]
  simp
theorem dEq_cal (a b c d : List Int) : dEq (.tup [.tup (zl a), .tup (zl b)]) (.tup [.tup (zl c), .tup (zl d)]) = some (.bl (decide (a = c ∧ b = d))) := by
  unfold dEq
  rw [if_pos ⟨sh_calD a b, sh_calD c d⟩]
  show some (D.bl ((calD a b).eqv (calD c d))) = _
  rw [eqv_calD]

theorem asBs_map {α : Type} (f : α → Bool) : ∀ l : List α, asBs (l.map fun x => D.bl (f x)) = some (l.map f)
  | [] => rfl
  | x :: l => by
    rw [List.map_cons, asBs, asBs_map f l]
    rfl
theorem dAll_map {α : Type} (f : α → Bool) (l : List α) : dAll [.lst (l.map fun x => D.bl (f x))] = some (.bl (l.all f)) := by
  show (asBs (l.map fun x => D.bl (f x))).map (fun bs => D.bl (bs.all id)) = _
  rw [asBs_map]
  show some (D.bl ((l.map f).all id)) = _
  rw [List.all_map]
  rfl
theorem dAny_map {α : Type} (f : α → Bool) (l : List α) : dAny [.lst (l.map fun x => D.bl (f x))] = some (.bl (l.any f)) := by
  show (asBs (l.map fun x => D.bl (f x))).map (fun bs => D.bl (bs.any id)) = _
  rw [asBs_map]
  show some (D.bl ((l.map f).any id)) = _
  rw [List.any_map]
  rfl

theorem dEq_bl (a b : Bool) : dEq (.bl a) (.bl b) = some (.bl (decide (a = b))) := by cases a <;> cases b <;> rfl
theorem dNe_bl (a b : Bool) : dNe (.bl a) (.bl b) = some (.bl (!decide (a = b))) := by cases a <;> cases b <;> rfl
theorem isNon_int (i : Int) : (D.int i).isNon = false := rfl
theorem isNon_bl (i : Bool) : (D.bl i).isNon = false := rfl
theorem isNon_str (i : Str) : (D.str i).isNon = false := rfl
theorem isNon_tup (i : List D) : (D.tup i).isNon = false := rfl
theorem isNon_lst (i : List D) : (D.lst i).isNon = false := rfl
theorem isNon_non : D.non.isNon = true := rfl
theorem dIs_non (x : D) : dIs x .non = some (.bl x.isNon) := by cases x <;> rfl
theorem dIsNot_non (x : D) : dIsNot x .non = some (.bl (!x.isNon)) := by cases x <;> rfl
theorem dIs_bl (a b : Bool) : dIs (.bl a) (.bl b) = some (.bl (decide (a = b))) := rfl
theorem dIsNot_bl (a b : Bool) : dIsNot (.bl a) (.bl b) = some (.bl (!decide (a = b))) := rfl
theorem all_true {α : Type} (l : List α) : l.all (fun _ => true) = true := by simp
end Fc

/-! Fc, part N: evaluation of the further forms. -/
namespace Fc
open PySem L2
theorem asIs_zl (l : List Int) : asIs (zl l) = some l := asIs_map l
theorem dSum_tup (l : List Int) : dSum [.tup (zl l)] = some (.int l.sum) := by
  show (asIs (zl l)).map (fun ns => D.int ns.sum) = _
  rw [asIs_zl]
  rfl
theorem dSum_lst (l : List Int) : dSum [.lst (zl l)] = some (.int l.sum) := by
  show (asIs (zl l)).map (fun ns => D.int ns.sum) = _
  rw [asIs_zl]
  rfl
theorem dMax1_zl {l : List Int} {m : Int} (h : l.max? = some m) : dMax1 [.lst (zl l)] = some (.int m) := by
  show (asIs (zl l)).bind (fun ns => ns.max?.map D.int) = _
  rw [asIs_zl]
  show (l.max?).map D.int = _
  rw [h]
  rfl
theorem dMin1_zl {l : List Int} {m : Int} (h : l.min? = some m) : dMin1 [.lst (zl l)] = some (.int m) := by
  show (asIs (zl l)).bind (fun ns => ns.min?.map D.int) = _
  rw [asIs_zl]
  show (l.min?).map D.int = _
  rw [h]
  rfl
theorem dLcm_ok {i j : Int} (h1 : -18446744073709551616 < i) (h2 : i < 18446744073709551616) (h3 : -18446744073709551616 < j) (h4 : j < 18446744073709551616) : dLcm [.int i, .int j] = some (.int (Nat.lcm i.natAbs j.natAbs : Nat)) := if_pos ⟨by omega, by omega⟩
theorem dDivmod_ok {i j : Int} (h1 : 0 < j) (h2 : j < 1073741824) : dDivmod [.int i, .int j] = some (.tup [.int (i / j), .int (i % j)]) := if_pos ⟨h1, h2⟩
theorem dMax2_eq (i j : Int) : dMax2 [.int i, .int j] = some (.int (max i j)) := by
  show some (D.int (if j > i then j else i)) = _
  congr 2
  split <;> omega
/-- a loop, with its place counted -/
theorem forL_ix {T : Tg} {F : F1} (Pv : Nat → Env → Prop) : ∀ {ds : List D} {δ : Env} {n : Nat}, Pv n δ → (∀ i d δ, ds[i]? = some d → Pv (n + i) δ → ∃ δ1 δ2, setT T d δ = some δ1 ∧ (F δ1 = pure (.nx, δ2) ∨ F δ1 = pure (.ct, δ2)) ∧ Pv (n + i + 1) δ2) → ∃ δ', forL T F ds δ = pure (.nx, δ') ∧ Pv (n + ds.length) δ'
  | [], δ, n, h, _ => ⟨δ, rfl, h⟩
  | d :: ds, δ, n, h, k => by
    obtain ⟨δ1, δ2, h1, h2, h3⟩ := k 0 d δ rfl h
    obtain ⟨δ', e, h4⟩ := forL_ix (T := T) (F := F) Pv (ds := ds) (δ := δ2) (n := n + 1) h3 fun i d' δ3 hi hp => by
      have e1 : n + 1 + i = n + (i + 1) := by omega
      rw [e1] at hp ⊢
      exact k (i + 1) d' δ3 hi hp
    have e2 : n + (d :: ds).length = n + 1 + ds.length := by
      rw [List.length_cons]
      omega
    refine ⟨δ', ?_, by rw [e2]; exact h4⟩
    have e0 : forL T F (d :: ds) δ = (liftO (setT T d δ) >>= fun δ1 => F δ1 >>= fun p => match p.1 with
      | .nx => forL T F ds p.2
      | .ct => forL T F ds p.2
      | .bk => pure (.nx, p.2)
      | .rt d => pure (.rt d, p.2)) := rfl
    rw [e0, h1, liftO_pure, pb]
    rcases h2 with h2 | h2
    · rw [h2]
      exact e
    · rw [h2]
      exact e
theorem rangeD_get (lo : Int) (n i : Nat) (d : D) (h : (rangeD lo n)[i]? = some d) : i < n ∧ d = .int (lo + i) := by
  unfold rangeD at h
  rw [List.getElem?_map] at h
  by_cases hi : i < n
  · rw [List.getElem?_range hi] at h
    exact ⟨hi, (Option.some.inj h).symm⟩
  · rw [List.getElem?_eq_none (by rw [List.length_range]; omega)] at h
    cases h
theorem forL_rng {T : Tg} {F : F1} (Pv : Nat → Env → Prop) {lo : Int} {n : Nat} {δ : Env} (h0 : Pv 0 δ) (hs : ∀ i δ, i < n → Pv i δ → ∃ δ1 δ2, setT T (.int (lo + i)) δ = some δ1 ∧ (F δ1 = pure (.nx, δ2) ∨ F δ1 = pure (.ct, δ2)) ∧ Pv (i + 1) δ2) : ∃ δ', forL T F (rangeD lo n) δ = pure (.nx, δ') ∧ Pv n δ' := by
  obtain ⟨δ', e, h⟩ := forL_ix (T := T) (F := F) Pv (ds := rangeD lo n) (n := 0) h0 fun i d δ hi hp => by
    obtain ⟨h1, rfl⟩ := rangeD_get lo n i d hi
    rw [Nat.zero_add] at hp ⊢
    exact hs i δ h1 hp
  rw [Nat.zero_add, rangeD_len] at h
  exact ⟨δ', e, h⟩
/-- a comprehension whose items draw: items of P, as many as ds -/
theorem wp_lcL {T : Tg} {f : Env → M D} {δ : Env} (P : Int → Prop) : ∀ {ds : List D} {Q : List D → Dw → Prop} {w : Dw}, (∀ d ∈ ds, ∃ δ1, setT T d δ = some δ1 ∧ ∀ (R : D → Dw → Prop) w, (∀ k w', P k → R (.int k) w') → wp (f δ1) R w) → (∀ l w', l.length = ds.length → (∀ x ∈ l, P x) → Q (zl l) w') → wp (lcL T tYesF f δ ds) Q w
  | [], Q, w, _, hq => by
    show wp (pure []) Q w
    rw [wp_pure]
    exact hq [] w rfl fun x hx => by cases hx
  | d :: ds, Q, w, h, hq => by
    obtain ⟨δ1, h1, h2⟩ := h d List.mem_cons_self
    have e0 : lcL T tYesF f δ (d :: ds) = (liftO (setT T d δ) >>= fun δ1 => tYesF δ1 >>= fun k => if k = true then f δ1 >>= fun y => lcL T tYesF f δ ds >>= fun ys => pure (y :: ys) else lcL T tYesF f δ ds) := rfl
    rw [e0, h1, liftO_pure, pb]
    show wp (f δ1 >>= fun y => lcL T tYesF f δ ds >>= fun ys => pure (y :: ys)) Q w
    rw [wp_bind]
    refine h2 _ w fun k w1 hk => ?_
    rw [wp_bind]
    refine wp_lcL P (fun d' hd => h d' (List.mem_cons_of_mem _ hd)) fun l w2 hl hp => ?_
    rw [wp_pure]
    exact hq (k :: l) w2 (by rw [List.length_cons, List.length_cons, hl]) fun x hx => by
      rcases List.mem_cons.mp hx with rfl | hx
      · exact hk
      · exact hp x hx
/-- the same, of the comprehension -/
theorem wp_eLc {own : List Nat} {T : Tg} {fs : Env → M (List D)} {f : Env → M D} {δ : Env} {ds : List D} (P : Int → Prop) {Q : D → Dw → Prop} {w : Dw} (hl : ds.length ≤ 100000) (h : ∀ d ∈ ds, ∃ δ1, setT T d (wipeD δ own) = some δ1 ∧ ∀ (R : D → Dw → Prop) w, (∀ k w', P k → R (.int k) w') → wp (f δ1) R w) (hf : wp (fs δ) (fun xs w' => xs = ds ∧ ∀ l w2, l.length = ds.length → (∀ x ∈ l, P x) → Q (.lst (zl l)) w2) w) : wp (eLc own T fs tYesF f δ) Q w := by
  have e0 : eLc own T fs tYesF f δ = (fs δ >>= fun xs => if xs.length ≤ LIM then lcL T tYesF f (wipeD δ own) xs >>= fun ys => pure (.lst ys) else fail) := rfl
  rw [e0, wp_bind]
  refine wp_mono hf fun xs w' ⟨e, hq⟩ => ?_
  subst e
  rw [if_pos (show xs.length ≤ LIM from hl), wp_bind]
  refine wp_lcL P h fun l w2 h1 h2 => ?_
  rw [wp_pure]
  exact hq l w2 h1 h2
end Fc

set_option maxHeartbeats 1000000
/-! Calendars as pairs of lists: the shortest pair for a set of times is one. -/
namespace Cal
/-- the flag at a time -/
def val (h t : List Int) (i : Nat) : Int := if i < h.length then h.getD i 0 else t.getD ((i - h.length) % t.length) 0

/-! ### a list again and again -/
theorem rep_get (s : List Int) : ∀ (k i : Nat), i < k * s.length → ((List.replicate k s).flatten).getD i 0 = s.getD (i % s.length) 0
  | 0, i, h => by simp at h
  | k + 1, i, h => by
    rw [List.replicate_succ, List.flatten_cons]
    by_cases hi : i < s.length
    · rw [List.getD_eq_getElem?_getD, List.getElem?_append_left hi, ← List.getD_eq_getElem?_getD, Nat.mod_eq_of_lt hi]
    · have h1 : i - s.length < k * s.length := by
        rw [Nat.add_mul, Nat.one_mul] at h
        omega
      rw [List.getD_eq_getElem?_getD, List.getElem?_append_right (by omega), ← List.getD_eq_getElem?_getD, rep_get s k _ h1, Nat.mod_eq_sub_mod (show i ≥ s.length by omega)]
theorem rep_len (s : List Int) (k : Nat) : ((List.replicate k s).flatten).length = k * s.length := by
  induction k with
  | zero => simp
  | succ k ih => rw [List.replicate_succ, List.flatten_cons, List.length_append, ih, Nat.add_mul, Nat.one_mul, Nat.add_comm]
theorem ext_getD {l m : List Int} (hl : l.length = m.length) (h : ∀ i, i < l.length → l.getD i 0 = m.getD i 0) : l = m := by
  refine List.ext_getElem hl fun i h1 h2 => ?_
  have := h i h1
  rw [List.getD_eq_getElem?_getD, List.getD_eq_getElem?_getD, List.getElem?_eq_getElem h1, List.getElem?_eq_getElem h2] at this
  exact this
theorem take_getD (l : List Int) {n i : Nat} (h : i < n) : (l.take n).getD i 0 = l.getD i 0 := by
  rw [List.getD_eq_getElem?_getD, List.getD_eq_getElem?_getD, List.getElem?_take_of_lt h]
theorem drop_getD (l : List Int) (n i : Nat) : (l.drop n).getD i 0 = l.getD (n + i) 0 := by
  rw [List.getD_eq_getElem?_getD, List.getD_eq_getElem?_getD, List.getElem?_drop]

def rootAt (l : List Int) (k : Nat) : Bool := decide (l.length % k = 0) && decide (l = (List.replicate (l.length / k) (l.take k)).flatten)
def leastRoot (l : List Int) : List Int := match (List.range (l.length - 1)).find? fun i => rootAt l (i + 1) with
  | some i => l.take (i + 1)
  | none => l
theorem range_find_some {n i : Nat} {p : Nat → Bool} (h : (List.range n).find? p = some i) : p i = true ∧ i < n ∧ ∀ j, j < i → p j = false := by
  refine ⟨List.find?_some h, List.mem_range.mp (List.mem_of_find?_eq_some h), fun j hj => ?_⟩
  obtain ⟨_, as, bs, e, h3⟩ := List.find?_eq_some_iff_append.mp h
  have hn : i < n := List.mem_range.mp (List.mem_of_find?_eq_some h)
  have hlen : as.length = i := by
    have h1 : (List.range n)[as.length]? = some i := by rw [e]; simp
    rw [List.getElem?_range (by
      have : (List.range n).length = as.length + (bs.length + 1) := by rw [e]; simp
      rw [List.length_range] at this
      omega)] at h1
    exact Option.some.inj h1
  have hm : j ∈ as := by
    have h1 : (List.range n)[j]? = some j := List.getElem?_range (by omega)
    rw [e, List.getElem?_append_left (by omega)] at h1
    exact List.mem_of_getElem? h1
  simpa using h3 j hm
/-- what least root says: a divisor of the length, a root, and the least -/
theorem root_spec {l : List Int} (hl : l ≠ []) : ∃ L, leastRoot l = l.take L ∧ 0 < L ∧ L ≤ l.length ∧ (∀ i, i < l.length → l.getD i 0 = l.getD (i % L) 0) ∧ l.length % L = 0 ∧ ∀ k, 0 < k → k < L → rootAt l k = false := by
  have hn : 0 < l.length := List.length_pos_iff.mpr hl
  unfold leastRoot
  cases h : (List.range (l.length - 1)).find? fun i => rootAt l (i + 1) with
  | none =>
    refine ⟨l.length, (List.take_length).symm, hn, Nat.le_refl _, fun i hi => by rw [Nat.mod_eq_of_lt hi], Nat.mod_self _, fun k h1 h2 => ?_⟩
    have := List.find?_eq_none.mp h (k - 1) (List.mem_range.mpr (by omega))
    have e : k - 1 + 1 = k := by omega
    rw [e] at this
    simpa using this
  | some i =>
    obtain ⟨h1, h2, h3⟩ := range_find_some h
    unfold rootAt at h1
    rw [Bool.and_eq_true, decide_eq_true_eq, decide_eq_true_eq] at h1
    refine ⟨i + 1, rfl, by omega, by omega, fun j hj => ?_, h1.1, fun k h4 h5 => ?_⟩
    · have tl : (l.take (i + 1)).length = i + 1 := by rw [List.length_take]; omega
      have e := rep_get (l.take (i + 1)) (l.length / (i + 1)) j (by rw [tl, Nat.div_mul_cancel (Nat.dvd_of_mod_eq_zero h1.1)]; exact hj)
      rw [← h1.2, tl, take_getD _ (Nat.mod_lt _ (by omega))] at e
      exact e
    · have := h3 (k - 1) (by omega)
      have e : k - 1 + 1 = k := by omega
      rw [e] at this
      exact this
theorem root_of {l : List Int} {d : Nat} (hd : 0 < d) (hdv : l.length % d = 0) (h : ∀ i, i < l.length → l.getD i 0 = l.getD (i % d) 0) (hle : d ≤ l.length) : rootAt l d = true := by
  unfold rootAt
  rw [Bool.and_eq_true, decide_eq_true_eq, decide_eq_true_eq]
  refine ⟨hdv, ?_⟩
  have tl : (l.take d).length = d := by rw [List.length_take]; omega
  have hm : l.length / d * d = l.length := Nat.div_mul_cancel (Nat.dvd_of_mod_eq_zero hdv)
  refine ext_getD (by rw [rep_len, tl, hm]) fun i hi => ?_
  rw [rep_get _ _ _ (by rw [tl, hm]; exact hi), tl, take_getD _ (Nat.mod_lt _ hd)]
  exact h i hi

/-! ### periods -/
def Per (g : Nat → Int) (q : Nat) : Prop := ∀ i, g (i + q) = g i
theorem Per.mul {g : Nat → Int} {q : Nat} (h : Per g q) (i : Nat) : ∀ m, g (i + m * q) = g i
  | 0 => by rw [Nat.zero_mul]; rfl
  | m + 1 => by
    have e : i + (m + 1) * q = (i + m * q) + q := by rw [Nat.add_mul, Nat.one_mul]; omega
    rw [e, h, Per.mul h i m]
theorem Per.gcd {g : Nat → Int} (m n : Nat) : Per g m → Per g n → Per g (Nat.gcd m n) := by
  induction m, n using Nat.gcd.induction with
  | H0 n => intro _ h; rw [Nat.gcd_zero_left]; exact h
  | H1 m n hm ih =>
    intro h1 h2
    rw [Nat.gcd_rec]
    refine ih (fun i => ?_) h1
    have e : i + n % m + n / m * m = i + n := by
      have := Nat.mod_add_div n m
      rw [Nat.mul_comm] at this
      omega
    rw [← Per.mul h1 (i + n % m) (n / m), e, h2]
theorem Per.mod {g : Nat → Int} {q : Nat} (h : Per g q) (i : Nat) : g i = g (i % q) := by
  have e : i % q + i / q * q = i := by
    have := Nat.mod_add_div i q
    rw [Nat.mul_comm] at this
    omega
  rw [← Per.mul h (i % q) (i / q), e]

/-! ### the shortest pair -/
/-- the flag of the turn at a time that may lie in the head -/
def vt (n : Nat) (t : List Int) (i : Nat) : Int := t.getD (((i : Int) - n) % t.length).toNat 0
def trim (h t : List Int) : Nat → Nat
  | 0 => 0
  | i + 1 => if h.getD i 0 = vt h.length t i then trim h t i else i + 1
def calOf (h t : List Int) : List Int × List Int :=
  let r := leastRoot t
  let last := trim h r h.length
  let moved := (((last : Int) - h.length) % r.length).toNat
  (h.take last, r.drop moved ++ r.take moved)
theorem trim_le (h t : List Int) : ∀ n, trim h t n ≤ n
  | 0 => Nat.le_refl 0
  | n + 1 => by
    unfold trim
    split
    · have := trim_le h t n; omega
    · omega
theorem trim_eq (h t : List Int) : ∀ n i, trim h t n ≤ i → i < n → h.getD i 0 = vt h.length t i
  | 0, i, _, h2 => by omega
  | n + 1, i, h1, h2 => by
    unfold trim at h1
    split at h1
    · rename_i e
      by_cases hi : i = n
      · rw [hi]; exact e
      · exact trim_eq h t n i h1 (by omega)
    · omega
theorem trim_ne (h t : List Int) : ∀ n, 0 < trim h t n → h.getD (trim h t n - 1) 0 ≠ vt h.length t (trim h t n - 1)
  | 0, h0 => by simp [trim] at h0
  | n + 1, h0 => by
    unfold trim at h0 ⊢
    split
    · rename_i e
      rw [if_pos e] at h0
      exact trim_ne h t n h0
    · rename_i e
      exact e
theorem vt_per (n : Nat) (t : List Int) (i : Nat) : vt n t (i + t.length) = vt n t i := by
  unfold vt
  have e : (((i + t.length : Nat) : Int) - n) = ((i : Int) - n) + t.length := by omega
  rw [e, Int.add_emod_right]
theorem vt_high {n : Nat} {t : List Int} {i : Nat} (h : n ≤ i) : vt n t i = t.getD ((i - n) % t.length) 0 := by
  unfold vt
  have e : ((i : Int) - n) = ((i - n : Nat) : Int) := by omega
  rw [e, ← Int.natCast_emod]
  rfl
section
variable {h t : List Int} (ht : t ≠ [])
include ht
/-- the facts of the shortest pair: with L, N its lengths, f its flags -/
theorem calOf_spec : ∃ L N, 0 < L ∧ N ≤ h.length ∧ (calOf h t).1 = (List.range N).map (val h t) ∧ (calOf h t).2 = (List.range L).map (fun j => val h t (N + j)) ∧
    (∀ i, N ≤ i → val h t (i + L) = val h t i) ∧ (0 < N → val h t (N - 1 + L) ≠ val h t (N - 1)) ∧ (∀ q M, 0 < q → (∀ i, M ≤ i → val h t (i + q) = val h t i) → L ≤ q) := by
  obtain ⟨L, hr, hL, hLn, hget, hdv, hleast⟩ := root_spec ht
  have hn : 0 < t.length := List.length_pos_iff.mpr ht
  have rl : (leastRoot t).length = L := by rw [hr, List.length_take]; omega
  -- the flags behind the head
  have high : ∀ i, h.length ≤ i → val h t i = vt h.length (leastRoot t) i := fun i hi => by
    rw [vt_high hi, rl, hr, take_getD _ (Nat.mod_lt _ hL)]
    unfold val
    rw [if_neg (by omega), hget _ (Nat.mod_lt _ hn), Nat.mod_mod_of_dvd _ (Nat.dvd_of_mod_eq_zero hdv)]
  have all : ∀ i, trim h (leastRoot t) h.length ≤ i → val h t i = vt h.length (leastRoot t) i := fun i hi => by
    by_cases hh : i < h.length
    · unfold val
      rw [if_pos hh]
      exact trim_eq h _ h.length i hi hh
    · exact high i (by omega)
  have per : ∀ i, vt h.length (leastRoot t) (i + L) = vt h.length (leastRoot t) i := fun i => by
    have := vt_per h.length (leastRoot t) i
    rw [rl] at this
    exact this
  have hN := trim_le h (leastRoot t) h.length
  refine ⟨L, trim h (leastRoot t) h.length, hL, hN, ?_, ?_, fun i hi => ?_, fun h0 => ?_, fun q M hq hp => ?_⟩
  · refine ext_getD ?_ fun i hi => ?_
    · show (h.take _).length = _
      rw [List.length_take, List.length_map, List.length_range]
      omega
    · have hi' : i < trim h (leastRoot t) h.length := by
        have : (h.take (trim h (leastRoot t) h.length)).length = _ := List.length_take
        have h2 : i < (h.take (trim h (leastRoot t) h.length)).length := hi
        omega
      show (h.take _).getD i 0 = _
      rw [take_getD _ hi', List.getD_eq_getElem?_getD, List.getD_eq_getElem?_getD, List.getElem?_map, List.getElem?_range hi']
      show _ = (val h t i)
      unfold val
      rw [if_pos (by omega), List.getD_eq_getElem?_getD]
  · have hml : ((((trim h (leastRoot t) h.length : Nat) : Int) - h.length) % L).toNat < L := by
      have h1 := Int.emod_nonneg (((trim h (leastRoot t) h.length : Nat) : Int) - h.length) (by omega : (L : Int) ≠ 0)
      have h2 := Int.emod_lt_of_pos (((trim h (leastRoot t) h.length : Nat) : Int) - h.length) (by omega : (0 : Int) < L)
      omega
    have e2 : (calOf h t).2 = (leastRoot t).drop ((((trim h (leastRoot t) h.length : Nat) : Int) - h.length) % L).toNat ++ (leastRoot t).take ((((trim h (leastRoot t) h.length : Nat) : Int) - h.length) % L).toNat := by
      show (leastRoot t).drop ((((trim h (leastRoot t) h.length : Nat) : Int) - h.length) % (leastRoot t).length).toNat ++ (leastRoot t).take ((((trim h (leastRoot t) h.length : Nat) : Int) - h.length) % (leastRoot t).length).toNat = _
      rw [rl]
    rw [e2]
    generalize hm : ((((trim h (leastRoot t) h.length : Nat) : Int) - h.length) % L).toNat = m at hml ⊢
    have hmI : (m : Int) = (((trim h (leastRoot t) h.length : Nat) : Int) - h.length) % L := by
      have h1 := Int.emod_nonneg (((trim h (leastRoot t) h.length : Nat) : Int) - h.length) (by omega : (L : Int) ≠ 0)
      omega
    refine ext_getD ?_ fun i hi => ?_
    · rw [List.length_append, List.length_drop, List.length_take, List.length_map, List.length_range, rl]
      omega
    · have hi' : i < L := by
        rw [List.length_append, List.length_drop, List.length_take, rl] at hi
        omega
      have e3 : ((List.range L).map fun j => val h t (trim h (leastRoot t) h.length + j)).getD i 0 = val h t (trim h (leastRoot t) h.length + i) := by
        rw [List.getD_eq_getElem?_getD, List.getElem?_map, List.getElem?_range hi']
        rfl
      rw [e3, all _ (Nat.le_add_right _ _)]
      unfold vt
      rw [rl]
      have e4 : (((trim h (leastRoot t) h.length + i : Nat) : Int) - h.length) % L = ((m : Int) + i) % L := by
        have e5 : (((trim h (leastRoot t) h.length + i : Nat) : Int) - h.length) = (((trim h (leastRoot t) h.length : Nat) : Int) - h.length) + i := by omega
        rw [e5, Int.add_emod, ← hmI, ← Int.add_emod_emod, hmI, Int.emod_emod_of_dvd _ (Int.dvd_refl _)]
        simp [Int.add_emod]
      rw [e4]
      by_cases hw : m + i < L
      · have e6 : (((m : Int) + i) % L).toNat = m + i := by rw [Int.emod_eq_of_lt (by omega) (by omega)]; omega
        rw [e6, List.getD_eq_getElem?_getD, List.getElem?_append_left (by rw [List.length_drop, rl]; omega), ← List.getD_eq_getElem?_getD, drop_getD]
      · have e6 : (((m : Int) + i) % L).toNat = m + i - L := by
          have e7 : ((m : Int) + i) = ((m : Int) + i - L) + L := by omega
          rw [e7, Int.add_emod_right, Int.emod_eq_of_lt (by omega) (by omega)]
          omega
        rw [e6, List.getD_eq_getElem?_getD, List.getElem?_append_right (by rw [List.length_drop, rl]; omega), ← List.getD_eq_getElem?_getD, List.length_drop, rl]
        have e8 : i - (L - m) = m + i - L := by omega
        rw [e8, take_getD _ (by omega)]
  · rw [all _ (by omega), all _ hi, per]
  · have h1 : val h t (trim h (leastRoot t) h.length - 1) = h.getD (trim h (leastRoot t) h.length - 1) 0 := by
      unfold val
      rw [if_pos (by omega)]
    rw [h1, all _ (by omega), per]
    exact Ne.symm (trim_ne h _ _ h0)
  · -- a period of the flags is one of the turn
    have gper : Per (fun i => t.getD (i % t.length) 0) t.length := fun i => by
      show t.getD ((i + t.length) % t.length) 0 = _
      rw [Nat.add_mod_right]
    have gval : ∀ i, val h t (h.length + i) = t.getD (i % t.length) 0 := fun i => by
      unfold val
      rw [if_neg (by omega)]
      have : h.length + i - h.length = i := by omega
      rw [this]
    have gq : Per (fun i => t.getD (i % t.length) 0) q := fun i => by
      have e1 := Per.mul gper (i + q) M
      have e2 := Per.mul gper i M
      have e3 : i + q + M * t.length = (i + M * t.length) + q := by omega
      rw [e3] at e1
      have hM : M ≤ M * t.length := Nat.le_mul_of_pos_right M hn
      have e4 := hp (h.length + (i + M * t.length)) (by omega)
      have e5 : h.length + (i + M * t.length) + q = h.length + (i + M * t.length + q) := by omega
      rw [e5, gval, gval] at e4
      show t.getD ((i + q) % t.length) 0 = t.getD (i % t.length) 0
      have e1' : t.getD ((i + M * t.length + q) % t.length) 0 = t.getD ((i + q) % t.length) 0 := e1
      have e2' : t.getD ((i + M * t.length) % t.length) 0 = t.getD (i % t.length) 0 := e2
      rw [← e1', ← e2', e4]
    have gd := Per.gcd q t.length gq gper
    have hd0 : 0 < Nat.gcd q t.length := Nat.gcd_pos_of_pos_left _ hq
    have hdq : Nat.gcd q t.length ≤ q := Nat.le_of_dvd hq (Nat.gcd_dvd_left _ _)
    have hdn : Nat.gcd q t.length ≤ t.length := Nat.le_of_dvd hn (Nat.gcd_dvd_right _ _)
    have root : rootAt t (Nat.gcd q t.length) = true := root_of hd0 (Nat.mod_eq_zero_of_dvd (Nat.gcd_dvd_right _ _)) (fun i hi => by
      have e := Per.mod gd i
      have e' : t.getD (i % t.length) 0 = t.getD (i % Nat.gcd q t.length % t.length) 0 := e
      rw [Nat.mod_eq_of_lt hi, Nat.mod_eq_of_lt (Nat.lt_of_lt_of_le (Nat.mod_lt _ hd0) hdn)] at e'
      exact e') hdn
    by_cases hc : L ≤ Nat.gcd q t.length
    · omega
    · rw [hleast _ hd0 (by omega)] at root
      cases root
theorem calOf_ne : (calOf h t).2 ≠ [] := by
  obtain ⟨L, N, hL, _, _, e, _⟩ := calOf_spec (h := h) ht
  rw [e]
  intro z
  have := congrArg List.length z
  rw [List.length_map, List.length_range] at this
  have h0 : ([] : List Int).length = 0 := rfl
  omega
/-- the shortest pair tells the same set -/
theorem calOf_val (i : Nat) : val (calOf h t).1 (calOf h t).2 i = val h t i := by
  obtain ⟨L, N, hL, hN, e1, e2, hp, _, _⟩ := calOf_spec (h := h) ht
  rw [e1, e2]
  show (if i < ((List.range N).map (val h t)).length then ((List.range N).map (val h t)).getD i 0 else ((List.range L).map fun j => val h t (N + j)).getD ((i - ((List.range N).map (val h t)).length) % ((List.range L).map fun j => val h t (N + j)).length) 0) = _
  rw [List.length_map, List.length_range, List.length_map, List.length_range]
  by_cases hi : i < N
  · rw [if_pos hi, List.getD_eq_getElem?_getD, List.getElem?_map, List.getElem?_range hi]
    rfl
  · rw [if_neg hi, List.getD_eq_getElem?_getD, List.getElem?_map, List.getElem?_range (Nat.mod_lt _ hL)]
    show val h t (N + (i - N) % L) = _
    have key : ∀ m, val h t (N + (i - N) % L + m * L) = val h t (N + (i - N) % L) := by
      intro m
      induction m with
      | zero => rw [Nat.zero_mul]; rfl
      | succ m ih =>
        have e : N + (i - N) % L + (m + 1) * L = (N + (i - N) % L + m * L) + L := by rw [Nat.add_mul, Nat.one_mul]; omega
        rw [e, hp _ (by omega), ih]
    have e3 : N + (i - N) % L + (i - N) / L * L = i := by
      have := Nat.mod_add_div (i - N) L
      rw [Nat.mul_comm] at this
      omega
    rw [← key ((i - N) / L), e3]
end
/-- there is one shortest pair for each set -/
theorem calOf_uniq {h t h' t' : List Int} (ht : t ≠ []) (ht' : t' ≠ []) (e : ∀ i, val h t i = val h' t' i) : calOf h t = calOf h' t' := by
  obtain ⟨L, N, hL, hN, e1, e2, hp, hm, hl⟩ := calOf_spec (h := h) ht
  obtain ⟨L', N', hL', hN', e1', e2', hp', hm', hl'⟩ := calOf_spec (h := h') ht'
  have ev : val h t = val h' t' := funext e
  rw [ev] at e1 e2 hp hm hl
  have eL : L = L' := by
    have a := hl L' N' hL' hp'
    have b := hl' L N hL hp
    omega
  subst eL
  have eN : N = N' := by
    by_cases h1 : N < N'
    · exact absurd (hp (N' - 1) (by omega)) (hm' (by omega))
    · by_cases h2 : N' < N
      · exact absurd (hp' (N - 1) (by omega)) (hm (by omega))
      · omega
  subst eN
  rw [← e1'] at e1
  rw [← e2'] at e2
  exact Prod.ext e1 e2
theorem calOf_idem {h t : List Int} (ht : t ≠ []) : calOf (calOf h t).1 (calOf h t).2 = calOf h t := calOf_uniq (calOf_ne ht) ht (calOf_val ht)
end Cal

/-! Calendars as sets of times: counts, spans, waits. -/
namespace Cal
/-- how many of the first n times -/
def S (g : Nat → Int) : Nat → Int
  | 0 => 0
  | n + 1 => S g n + g n
theorem S_congr {f g : Nat → Int} : ∀ {n : Nat}, (∀ i, i < n → f i = g i) → S f n = S g n
  | 0, _ => rfl
  | n + 1, h => by
    show S f n + f n = S g n + g n
    rw [S_congr fun i hi => h i (by omega), h n (by omega)]
theorem S_split (g : Nat → Int) (m : Nat) : ∀ n, S g (m + n) = S g m + S (fun i => g (m + i)) n
  | 0 => by simp [S]
  | n + 1 => by
    show S g (m + n) + g (m + n) = S g m + (S (fun i => g (m + i)) n + g (m + n))
    rw [S_split g m n]
    omega
theorem S_add (f g : Nat → Int) : ∀ n, S (fun i => f i + g i) n = S f n + S g n
  | 0 => rfl
  | n + 1 => by
    show S (fun i => f i + g i) n + (f n + g n) = _
    rw [S_add f g n]
    show _ = S f n + f n + (S g n + g n)
    omega
theorem S_nn {g : Nat → Int} (h : ∀ i, 0 ≤ g i) : ∀ n, 0 ≤ S g n
  | 0 => Int.le_refl _
  | n + 1 => by
    have := S_nn h n
    have := h n
    show 0 ≤ S g n + g n
    omega
theorem S_mono {g : Nat → Int} (h : ∀ i, 0 ≤ g i) {m n : Nat} (hmn : m ≤ n) : S g m ≤ S g n := by
  have e : n = m + (n - m) := by omega
  rw [e, S_split]
  have := S_nn (g := fun i => g (m + i)) (fun i => h (m + i)) (n - m)
  omega
theorem S_le {g : Nat → Int} (h : ∀ i, g i ≤ 1) : ∀ n, S g n ≤ n
  | 0 => Int.le_refl _
  | n + 1 => by
    have := S_le h n
    have := h n
    show S g n + g n ≤ _
    omega
theorem S_mul {g : Nat → Int} {T : Nat} (h : ∀ i, g (i + T) = g i) : ∀ q r, S g (q * T + r) = q * S g T + S g r
  | 0, r => by simp
  | q + 1, r => by
    have e : (q + 1) * T + r = T + (q * T + r) := by rw [Nat.add_mul]; omega
    rw [e, S_split]
    have e2 : S (fun i => g (T + i)) (q * T + r) = S g (q * T + r) := S_congr fun i _ => by
      rw [Nat.add_comm]
      exact h i
    rw [e2, S_mul h q r]
    have : ((q + 1 : Nat) : Int) = q + 1 := by omega
    rw [this, Int.add_mul]
    omega
theorem sum_take (l : List Int) : ∀ {n : Nat}, n ≤ l.length → (l.take n).sum = S (fun i => l.getD i 0) n
  | 0, _ => rfl
  | n + 1, h => by
    have hn : n < l.length := by omega
    rw [← List.take_append_getElem (by omega), List.sum_append, sum_take l (by omega)]
    show _ = S _ n + l.getD n 0
    rw [List.getD_eq_getElem?_getD, List.getElem?_eq_getElem hn]
    simp
theorem sum_all (l : List Int) : l.sum = S (fun i => l.getD i 0) l.length := by
  have := sum_take l (Nat.le_refl l.length)
  rw [List.take_length] at this
  exact this
theorem val_of {g : Nat → Int} {s L : Nat} (hL : 0 < L) (per : ∀ i, s ≤ i → g (i + L) = g i) (i : Nat) : val ((List.range s).map g) ((List.range L).map fun j => g (s + j)) i = g i := by
  unfold val
  rw [List.length_map, List.length_range, List.length_map, List.length_range]
  by_cases hi : i < s
  · rw [if_pos hi, List.getD_eq_getElem?_getD, List.getElem?_map, List.getElem?_range hi]
    rfl
  · rw [if_neg hi, List.getD_eq_getElem?_getD, List.getElem?_map, List.getElem?_range (Nat.mod_lt _ hL)]
    show g (s + (i - s) % L) = _
    have key : ∀ m, g (s + (i - s) % L + m * L) = g (s + (i - s) % L) := by
      intro m
      induction m with
      | zero => rw [Nat.zero_mul]; rfl
      | succ m ih =>
        have e : s + (i - s) % L + (m + 1) * L = (s + (i - s) % L + m * L) + L := by rw [Nat.add_mul, Nat.one_mul]; omega
        rw [e, per _ (by omega), ih]
    have e3 : s + (i - s) % L + (i - s) / L * L = i := by
      have := Nat.mod_add_div (i - s) L
      rw [Nat.mul_comm] at this
      omega
    rw [← key ((i - s) / L), e3]
/-- the pair h, t is the shortest, and tells g -/
structure Cl (h t : List Int) (g : Nat → Int) : Prop where
  red : calOf h t = (h, t)
  ne : t ≠ []
  dv : t.length ∣ 12
  hl : h.length ≤ 20
  v : ∀ i, val h t i = g i
  bit : ∀ i, g i = 0 ∨ g i = 1
section
variable {h t h' t' : List Int} {g g' : Nat → Int}
theorem root_dvd (ht : t ≠ []) : (leastRoot t).length ∣ t.length := by
  obtain ⟨L, hr, hL, hLn, _, hdv, _⟩ := root_spec ht
  have : (leastRoot t).length = L := by rw [hr, List.length_take]; omega
  rw [this]
  exact Nat.dvd_of_mod_eq_zero hdv
theorem cal_lens (ht : t ≠ []) : (calOf h t).1.length ≤ h.length ∧ (calOf h t).2.length ∣ t.length := by
  have hr := root_dvd ht
  unfold calOf
  dsimp only
  rw [List.length_take, List.length_append, List.length_drop, List.length_take]
  refine ⟨by omega, ?_⟩
  have e : (leastRoot t).length - (((trim h (leastRoot t) h.length : Int) - h.length) % (leastRoot t).length).toNat + min (((trim h (leastRoot t) h.length : Int) - h.length) % (leastRoot t).length).toNat (leastRoot t).length = (leastRoot t).length := by omega
  rw [e]
  exact hr
theorem Cl.of (ne : t ≠ []) (dv : t.length ∣ 12) (hl : h.length ≤ 20) (v : ∀ i, val h t i = g i) (bit : ∀ i, g i = 0 ∨ g i = 1) : Cl (calOf h t).1 (calOf h t).2 g := by
  obtain ⟨l1, l2⟩ := cal_lens (h := h) ne
  exact ⟨calOf_idem ne, calOf_ne ne, Nat.dvd_trans l2 dv, Nat.le_trans l1 hl, fun i => by rw [calOf_val ne, v], bit⟩
theorem Cl.uniq (a : Cl h t g) (b : Cl h' t' g) : h = h' ∧ t = t' := by
  have e := calOf_uniq (h := h) (h' := h') a.ne b.ne fun i => by rw [a.v, b.v]
  rw [a.red, b.red] at e
  cases e
  exact ⟨rfl, rfl⟩
theorem Cl.pos (a : Cl h t g) : 0 < t.length := List.length_pos_iff.mpr a.ne
theorem Cl.le12 (a : Cl h t g) : t.length ≤ 12 := Nat.le_of_dvd (by decide) a.dv
theorem Cl.nn (a : Cl h t g) (i : Nat) : 0 ≤ g i := by rcases a.bit i with e | e <;> omega
theorem Cl.le1 (a : Cl h t g) (i : Nat) : g i ≤ 1 := by rcases a.bit i with e | e <;> omega
theorem Cl.hd (a : Cl h t g) {i : Nat} (hi : i < h.length) : g i = h.getD i 0 := by
  rw [← a.v]
  unfold val
  rw [if_pos hi]
theorem Cl.tn (a : Cl h t g) (i : Nat) : g (h.length + i) = t.getD (i % t.length) 0 := by
  rw [← a.v]
  unfold val
  rw [if_neg (by omega)]
  have : h.length + i - h.length = i := by omega
  rw [this]
theorem Cl.per (a : Cl h t g) {i : Nat} (hi : h.length ≤ i) : g (i + t.length) = g i := by
  obtain ⟨j, rfl⟩ : ∃ j, i = h.length + j := ⟨i - h.length, by omega⟩
  rw [Nat.add_assoc, a.tn, a.tn, Nat.add_mod_right]
theorem Cl.perM (a : Cl h t g) {i : Nat} (hi : h.length ≤ i) : ∀ m, g (i + m * t.length) = g i
  | 0 => by rw [Nat.zero_mul]; rfl
  | m + 1 => by
    have e : i + (m + 1) * t.length = (i + m * t.length) + t.length := by rw [Nat.add_mul, Nat.one_mul]; omega
    rw [e, a.per (by omega), a.perM hi m]
theorem Cl.perD (a : Cl h t g) {i L : Nat} (hi : h.length ≤ i) (hL : t.length ∣ L) : g (i + L) = g i := by
  obtain ⟨m, rfl⟩ := hL
  rw [Nat.mul_comm]
  exact a.perM hi m
/-- ones ahead of a time -/
theorem Cl.ones (a : Cl h t g) (n : Nat) : S g n = if n ≤ h.length then (h.take n).sum else h.sum + ((n - h.length) / t.length : Nat) * t.sum + (t.take ((n - h.length) % t.length)).sum := by
  by_cases hn : n ≤ h.length
  · rw [if_pos hn, sum_take h hn]
    exact S_congr fun i hi => a.hd (by omega)
  · rw [if_neg hn]
    have e : n = h.length + (n - h.length) := by omega
    have e2 : S g h.length = h.sum := by
      rw [sum_all]
      exact S_congr fun i hi => a.hd hi
    have e3 : S (fun i => g (h.length + i)) (n - h.length) = S (fun i => t.getD (i % t.length) 0) (n - h.length) := S_congr fun i _ => a.tn i
    have hp := a.pos
    have e4 : n - h.length = (n - h.length) / t.length * t.length + (n - h.length) % t.length := by
      have := Nat.mod_add_div (n - h.length) t.length
      rw [Nat.mul_comm] at this
      omega
    have e5 : S (fun i => t.getD (i % t.length) 0) ((n - h.length) / t.length * t.length + (n - h.length) % t.length) = ((n - h.length) / t.length : Nat) * S (fun i => t.getD (i % t.length) 0) t.length + S (fun i => t.getD (i % t.length) 0) ((n - h.length) % t.length) := S_mul (fun i => by rw [Nat.add_mod_right]) _ _
    have hlt := Nat.mod_lt (n - h.length) hp
    have e6 : S (fun i => t.getD (i % t.length) 0) t.length = t.sum := by
      rw [sum_all t]
      exact S_congr fun i hi => by rw [Nat.mod_eq_of_lt hi]
    have e7 : S (fun i => t.getD (i % t.length) 0) ((n - h.length) % t.length) = (t.take ((n - h.length) % t.length)).sum := by
      rw [sum_take t (by omega)]
      exact S_congr fun i hi => by rw [Nat.mod_eq_of_lt (by omega)]
    have e8 : S g n = S g h.length + S (fun i => g (h.length + i)) (n - h.length) := by
      have := S_split g h.length (n - h.length)
      rw [← e] at this
      exact this
    rw [e8, e2, e3]
    have e9 : S (fun i => t.getD (i % t.length) 0) (n - h.length) = S (fun i => t.getD (i % t.length) 0) ((n - h.length) / t.length * t.length + (n - h.length) % t.length) := by rw [← e4]
    rw [e9, e5, e6, e7]
    omega
/-- the ones of twelve times behind the head -/
theorem Cl.dens (a : Cl h t g) {n : Nat} (hn : h.length ≤ n) : t.sum * 12 = S (fun i => g (n + i)) 12 * t.length := by
  obtain ⟨m, hm⟩ := a.dv
  have per : ∀ i, (fun i => g (n + i)) (i + t.length) = (fun i => g (n + i)) i := fun i => by
    show g (n + (i + t.length)) = g (n + i)
    rw [← Nat.add_assoc]
    exact a.per (by omega)
  have e1 : S (fun i => g (n + i)) 12 = m * S (fun i => g (n + i)) t.length := by
    have := S_mul (g := fun i => g (n + i)) (T := t.length) per m 0
    rw [Nat.add_zero, Nat.mul_comm m, ← hm] at this
    simpa [S] using this
  -- one period from anywhere
  have e2 : S (fun i => g (n + i)) t.length = t.sum := by
    have f1 := a.ones n
    have f2 := a.ones (n + t.length)
    rw [S_split] at f2
    have hp := a.pos
    have q1 : (n + t.length - h.length) / t.length = (n - h.length) / t.length + 1 := by
      have : n + t.length - h.length = n - h.length + t.length := by omega
      rw [this, Nat.add_div_right _ hp]
    have q2 : (n + t.length - h.length) % t.length = (n - h.length) % t.length := by
      have : n + t.length - h.length = n - h.length + t.length := by omega
      rw [this, Nat.add_mod_right]
    rw [q1, q2, if_neg (by omega)] at f2
    have c1 : (((n - h.length) / t.length + 1 : Nat) : Int) = ((n - h.length) / t.length : Nat) + 1 := by omega
    rw [c1, Int.add_mul] at f2
    by_cases hn2 : n ≤ h.length
    · have e : n = h.length := by omega
      rw [if_pos hn2, e, List.take_length] at f1
      rw [e] at f2 ⊢
      simp at f2
      omega
    · rw [if_neg hn2] at f1
      omega
  rw [e1, e2]
  have : (12 : Int) = t.length * m := by omega
  rw [this, Int.mul_comm (t.length : Int), ← Int.mul_assoc, Int.mul_comm t.sum]
theorem Cl.sum0 (a : Cl h t g) : (t.sum = 0 → ∀ i, h.length ≤ i → g i = 0) ∧ 0 ≤ t.sum := by
  have tb : ∀ i, i < t.length → 0 ≤ t.getD i 0 := fun i hi => by
    have := a.tn i
    rw [Nat.mod_eq_of_lt hi] at this
    rw [← this]
    exact a.nn _
  have es : t.sum = S (fun i => g (h.length + i)) t.length := by
    rw [sum_all]
    exact S_congr fun i hi => by
      show _ = g (h.length + i)
      rw [a.tn, Nat.mod_eq_of_lt hi]
  have hnn : ∀ i, 0 ≤ (fun i => g (h.length + i)) i := fun i => a.nn _
  refine ⟨fun z i hi => ?_, by rw [es]; exact S_nn hnn _⟩
  have e1 : i = h.length + (i - h.length) := by omega
  have hlt := Nat.mod_lt (i - h.length) a.pos
  have e2 : g i = g (h.length + (i - h.length) % t.length) := by
    rw [e1, a.tn, a.tn, Nat.mod_mod]
    have : h.length + (i - h.length) - h.length = i - h.length := by omega
    rw [this]
  have m1 := S_mono hnn (m := (i - h.length) % t.length + 1) (n := t.length) (by omega)
  have m2 := S_nn hnn ((i - h.length) % t.length)
  rw [← es, z] at m1
  have m3 : S (fun i => g (h.length + i)) ((i - h.length) % t.length + 1) = S (fun i => g (h.length + i)) ((i - h.length) % t.length) + g (h.length + (i - h.length) % t.length) := rfl
  have := a.nn (h.length + (i - h.length) % t.length)
  omega
/-- a one at i is a one ahead of the end of the search -/
theorem Cl.near (a : Cl h t g) {n i : Nat} (hi : n ≤ i) (hg : g i = 1) : ∃ j, n ≤ j ∧ j < max n h.length + t.length ∧ j ≤ i ∧ g j = 1 := by
  have hp := a.pos
  induction i using Nat.strongRecOn with
  | _ i ih =>
    by_cases hc : i < max n h.length + t.length
    · exact ⟨i, hi, hc, Nat.le_refl _, hg⟩
    · have e : g (i - t.length) = 1 := by
        have := a.per (i := i - t.length) (by omega)
        have e2 : i - t.length + t.length = i := by omega
        rw [e2] at this
        rw [← this]
        exact hg
      obtain ⟨j, h1, h2, h3, h4⟩ := ih (i - t.length) (by omega) (by omega) e
      exact ⟨j, h1, h2, by omega, h4⟩
end
end Cal

/-! Defs that several laws share, as functions on data (printed by gen.py). -/
namespace Sh
open PySem PySem.Spec L2 Fc
def F__law_same (self : List D → M D) : F1 :=
    (sSeq (sIf (tT (eIsi2 "list" "tuple" (eVar 1))) (sSeq (sIf (tOrF (tB (eBin dNe (eIsi "list" (eVar 1)) (eIsi "list" (eVar 0)))) (tB (eBin dNe (eIsi "tuple" (eVar 1)) (eIsi "tuple" (eVar 0))))) (sRet (eC (.bl false))) sNil)
      (sSeq (sIf (tB (eBin dNe (eCall dLen (aCons (eVar 0) aNil)) (eCall dLen (aCons (eVar 1) aNil)))) (sRet (eC (.bl false))) sNil)
      (sRet (eCall dAll (aCons (eLc [2] (.nm 2) (itCall dRange1 (aCons (eCall dLen (aCons (eVar 1) aNil)) aNil)) tYesF (eDef self (aCons (eBin dIx (eVar 0) (eVar 2)) (aCons (eBin dIx (eVar 1) (eVar 2)) aNil)))) aNil))))) sNil)
    (sSeq (sIf (tB (eBin dIs (eVar 1) (eC .non))) (sRet (eBin dIs (eVar 0) (eC .non))) sNil)
    (sSeq (sIf (tB (eBin dNe (eIsi "bool" (eVar 1)) (eIsi "bool" (eVar 0)))) (sRet (eC (.bl false))) sNil)
    (sSeq (sIf (tT (eIsi "str" (eVar 1))) (sRet (eAndV (eIsi "str" (eVar 0)) (eBin dEq (eVar 0) (eVar 1)))) sNil)
    (sRet (eAndV (eIsi "int" (eVar 0)) (eBin dEq (eVar 0) (eVar 1))))))))
def r__law_same : Nat → List D → M D
  | 0 => fun _ => fail
  | n + 1 => bodyF 2 3 (F__law_same (r__law_same n))
def m__law_same : List D → M D := r__law_same 30
def F_ratio : F1 :=
    (sSeq (sIf (tB (eBin dLt (eVar 1) (eC (.int 0)))) (sPar 0 1 (aCons (eUn dNeg (eVar 0)) (aCons (eUn dNeg (eVar 1)) aNil))) sNil)
    (sSeq (sAsg (.nm 2) (eCall dGcd (aCons (eVar 0) (aCons (eVar 1) aNil))))
    (sRet (eTup (aCons (eBin dDiv (eVar 0) (eVar 2)) (aCons (eBin dDiv (eVar 1) (eVar 2)) aNil))))))
def m_ratio : List D → M D := bodyF 2 3 F_ratio
def F_add : F1 :=
    (sRet (eDef m_ratio (aCons (eBin dAdd (eBin dMul (eBin dIx (eVar 0) (eC (.int 0))) (eBin dIx (eVar 1) (eC (.int 1)))) (eBin dMul (eBin dIx (eVar 1) (eC (.int 0))) (eBin dIx (eVar 0) (eC (.int 1))))) (aCons (eBin dMul (eBin dIx (eVar 0) (eC (.int 1))) (eBin dIx (eVar 1) (eC (.int 1)))) aNil))))
def m_add : List D → M D := bodyF 2 2 F_add
def F_subtract : F1 :=
    (sRet (eDef m_ratio (aCons (eBin dSub (eBin dMul (eBin dIx (eVar 0) (eC (.int 0))) (eBin dIx (eVar 1) (eC (.int 1)))) (eBin dMul (eBin dIx (eVar 1) (eC (.int 0))) (eBin dIx (eVar 0) (eC (.int 1))))) (aCons (eBin dMul (eBin dIx (eVar 0) (eC (.int 1))) (eBin dIx (eVar 1) (eC (.int 1)))) aNil))))
def m_subtract : List D → M D := bodyF 2 2 F_subtract
def F_multiply : F1 :=
    (sRet (eDef m_ratio (aCons (eBin dMul (eBin dIx (eVar 0) (eC (.int 0))) (eBin dIx (eVar 1) (eC (.int 0)))) (aCons (eBin dMul (eBin dIx (eVar 0) (eC (.int 1))) (eBin dIx (eVar 1) (eC (.int 1)))) aNil))))
def m_multiply : List D → M D := bodyF 2 2 F_multiply
def F_divide : F1 :=
    (sRet (eDef m_ratio (aCons (eBin dMul (eBin dIx (eVar 0) (eC (.int 0))) (eBin dIx (eVar 1) (eC (.int 1)))) (aCons (eBin dMul (eBin dIx (eVar 0) (eC (.int 1))) (eBin dIx (eVar 1) (eC (.int 0)))) aNil))))
def m_divide : List D → M D := bodyF 2 2 F_divide
def F_less : F1 :=
    (sRet (eBin dLt (eBin dMul (eBin dIx (eVar 0) (eC (.int 0))) (eBin dIx (eVar 1) (eC (.int 1)))) (eBin dMul (eBin dIx (eVar 1) (eC (.int 0))) (eBin dIx (eVar 0) (eC (.int 1))))))
def m_less : List D → M D := bodyF 2 2 F_less
def F_is_ratio : F1 :=
    (sSeq (sIf (tOrF (tNotF (tT (eIsi "tuple" (eVar 0)))) (tB (eBin dNe (eCall dLen (aCons (eVar 0) aNil)) (eC (.int 2))))) (sRet (eC (.bl false))) sNil)
    (sSeq (sFor (.nm 1) (itSeq (eVar 0)) (sIf (tOrF (tT (eIsi "bool" (eVar 1))) (tNotF (tT (eIsi "int" (eVar 1))))) (sRet (eC (.bl false))) sNil))
    (sRet (eAndV (eBin dGe (eBin dIx (eVar 0) (eC (.int 1))) (eC (.int 1))) (eBin dEq (eCall dGcd (aCons (eBin dIx (eVar 0) (eC (.int 0))) (aCons (eBin dIx (eVar 0) (eC (.int 1))) aNil))) (eC (.int 1)))))))
def m_is_ratio : List D → M D := bodyF 1 2 F_is_ratio
def F_floor_of : F1 :=
    (sRet (eBin dDiv (eBin dIx (eVar 0) (eC (.int 0))) (eBin dIx (eVar 0) (eC (.int 1)))))
def m_floor_of : List D → M D := bodyF 1 1 F_floor_of
def F_ceiling_of : F1 :=
    (sRet (eUn dNeg (eBin dDiv (eUn dNeg (eBin dIx (eVar 0) (eC (.int 0)))) (eBin dIx (eVar 0) (eC (.int 1))))))
def m_ceiling_of : List D → M D := bodyF 1 1 F_ceiling_of
def F_least_turn : F1 :=
    (sSeq (sFor (.nm 1) (itCall dRange2 (aCons (eC (.int 1)) (aCons (eCall dLen (aCons (eVar 0) aNil)) aNil))) (sIf (tAndF (tB (eBin dEq (eBin dMod (eCall dLen (aCons (eVar 0) aNil)) (eVar 1)) (eC (.int 0)))) (tB (eBin dEq (eVar 0) (eBin dMul (eSl (eVar 0) oNone (oSome (eVar 1))) (eBin dDiv (eCall dLen (aCons (eVar 0) aNil)) (eVar 1)))))) (sRet (eSl (eVar 0) oNone (oSome (eVar 1)))) sNil))
    (sRet (eVar 0)))
def m_least_turn : List D → M D := bodyF 1 2 F_least_turn
def F_calendar_of : F1 :=
    (sSeq (sAsg (.nm 1) (eDef m_least_turn (aCons (eVar 1) aNil)))
    (sSeq (sAsg (.nm 2) (eCall dLen (aCons (eVar 0) aNil)))
    (sSeq (whileL 1000 (tAndF (tB (eBin dGt (eVar 2) (eC (.int 0)))) (tB (eBin dEq (eBin dIx (eVar 0) (eBin dSub (eVar 2) (eC (.int 1)))) (eBin dIx (eVar 1) (eBin dMod (eBin dSub (eBin dSub (eVar 2) (eCall dLen (aCons (eVar 0) aNil))) (eC (.int 1))) (eCall dLen (aCons (eVar 1) aNil))))))) (sAsg (.nm 2) (eBin dSub (eVar 2) (eC (.int 1)))))
    (sSeq (sAsg (.nm 3) (eBin dMod (eBin dSub (eVar 2) (eCall dLen (aCons (eVar 0) aNil))) (eCall dLen (aCons (eVar 1) aNil))))
    (sRet (eTup (aCons (eSl (eVar 0) oNone (oSome (eVar 2))) (aCons (eBin dAdd (eSl (eVar 1) (oSome (eVar 3)) oNone) (eSl (eVar 1) oNone (oSome (eVar 3)))) aNil))))))))
def m_calendar_of : List D → M D := bodyF 2 4 F_calendar_of
def F_every : F1 :=
    (sSeq (sAsg (.nm 3) (eCall dTuple (aCons (eLc [4] (.nm 4) (itCall dRange1 (aCons (eVar 1) aNil)) tYesF (eIf (tB (eBin dLt (eVar 4) (eVar 2))) (eC (.int 1)) (eC (.int 0)))) aNil)))
    (sRet (eDef m_calendar_of (aCons (eBin dMul (eTup (aCons (eC (.int 0)) aNil)) (eVar 0)) (aCons (eVar 3) aNil)))))
def m_every : List D → M D := bodyF 3 5 F_every
def F_flag_at : F1 :=
    (sSeq (sAsg (.tp [(.nm 2), (.nm 3)]) (eVar 0))
    (sSeq (sIf (tB (eBin dLt (eVar 1) (eCall dLen (aCons (eVar 2) aNil)))) (sRet (eBin dIx (eVar 2) (eVar 1))) sNil)
    (sRet (eBin dIx (eVar 3) (eBin dMod (eBin dSub (eVar 1) (eCall dLen (aCons (eVar 2) aNil))) (eCall dLen (aCons (eVar 3) aNil)))))))
def m_flag_at : List D → M D := bodyF 2 4 F_flag_at
def F_holds : F1 :=
    (sRet (eBin dEq (eDef m_flag_at (aCons (eVar 0) (aCons (eVar 1) aNil))) (eC (.int 1))))
def m_holds : List D → M D := bodyF 2 2 F_holds
def F_is_row : F1 :=
    (sRet (eAndV (eIsi "tuple" (eVar 0)) (eAndV (eBin dGe (eCall dLen (aCons (eVar 0) aNil)) (eVar 1)) (eOrV (eBin dIs (eVar 2) (eC .non)) (eBin dLe (eCall dLen (aCons (eVar 0) aNil)) (eVar 2))))))
def m_is_row : List D → M D := bodyF 3 3 F_is_row
def F_is_whole : F1 :=
    (sSeq (sIf (tOrF (tT (eIsi "bool" (eVar 0))) (tNotF (tT (eIsi "int" (eVar 0))))) (sRet (eC (.bl false))) sNil)
    (sRet (eAndV (eOrV (eBin dIs (eVar 1) (eC .non)) (eBin dGe (eVar 0) (eVar 1))) (eOrV (eBin dIs (eVar 2) (eC .non)) (eBin dLe (eVar 0) (eVar 2))))))
def m_is_whole : List D → M D := bodyF 3 3 F_is_whole
def F_is_integer : F1 :=
    (sRet (eAndV (eIsi "int" (eVar 0)) (eNotT (eIsi "bool" (eVar 0)))))
def m_is_integer : List D → M D := bodyF 1 1 F_is_integer
def F_is_number : F1 :=
    (sRet (eAndV (eDef m_is_integer (aCons (eVar 0) aNil)) (eAndV (eBin dGe (eVar 0) (eVar 1)) (eOrV (eBin dIs (eVar 2) (eC .non)) (eBin dLe (eVar 0) (eVar 2))))))
def m_is_number : List D → M D := bodyF 3 3 F_is_number
def F_are_flags : F1 :=
    (sRet (eAndV (eIsi "tuple" (eVar 0)) (eCall dAll (aCons (eLc [1] (.nm 1) (itSeq (eVar 0)) tYesF (eDef m_is_number (aCons (eVar 1) (aCons (eC (.int 0)) (aCons (eC (.int 1)) aNil))))) aNil))))
def m_are_flags : List D → M D := bodyF 1 2 F_are_flags
def F_is_calendar : F1 :=
    (sSeq (sIf (tOrF (tNotF (tT (eIsi "tuple" (eVar 0)))) (tB (eBin dNe (eCall dLen (aCons (eVar 0) aNil)) (eC (.int 2))))) (sRet (eC (.bl false))) sNil)
    (sSeq (sAsg (.tp [(.nm 1), (.nm 2)]) (eVar 0))
    (sSeq (sIf (tOrF (tNotF (tT (eDef m_are_flags (aCons (eVar 1) aNil)))) (tOrF (tNotF (tT (eDef m_are_flags (aCons (eVar 2) aNil)))) (tB (eBin dEq (eVar 2) (eTup aNil))))) (sRet (eC (.bl false))) sNil)
    (sRet (eBin dEq (eDef m_calendar_of (aCons (eVar 1) (aCons (eVar 2) aNil))) (eVar 0))))))
def m_is_calendar : List D → M D := bodyF 1 3 F_is_calendar
def F_is_load : F1 :=
    (sRet (eAndV (eDef m_is_row (aCons (eVar 0) (aCons (eC (.int 2)) (aCons (eC (.int 2)) aNil)))) (eAndV (eDef m_is_whole (aCons (eBin dIx (eVar 0) (eC (.int 0))) (aCons (eC (.int 1)) (aCons (eC (.int 999)) aNil)))) (eDef m_is_calendar (aCons (eBin dIx (eVar 0) (eC (.int 1))) aNil)))))
def m_is_load : List D → M D := bodyF 1 1 F_is_load
end Sh

namespace Sh
open PySem L2 Fc
local macro_rules | `(tactic| walk_at "ev") => `(tactic| simp (disch := omega) only [List.map_cons, List.map_nil, List.length_cons, List.length_nil, List.replicate, List.cons_append, List.nil_append,
  sIf, Fc.tB, tT, tAndF, tOrF, tNotF, eBin, eUn, eVar_zero, eVar_succ, eC, pb, asB, asI, liftO_pure, sPar, aCons, aNil, sAsg, eCall, eDef, setT, setTs, sRet, sNil, eTup, eLst, eIf, eIsi, eIsi2, isTy2, eNotT, eAndV, eOrV, eChain, eSl, oNone, oSome, sBk, sCt, itCall, itSeq, dItems,
  dAdd_int, dAdd_tup, dMul_tup, dRange1_ok, dRange2_ok, dSub, dDiv_ok, dMod_ok, dMul_okL, dMul_okR, len_ok, dLt, dLe, dGt, dGe, dEq_int, dNe_int, dNeg, dLen, dAbs, dInt, dGcd, dMax2, dMin2, dTuple, dList, dTru, dIs_non, dIsNot_non, dIs_bl, dIsNot_bl, isNon_int, isNon_bl, isNon_str, isNon_tup, isNon_lst, isNon_non, dEq_bl, dNe_bl, dIx_tup, dIx_lst, at0, at1, at2, dSl,
  isTy_int_non, isTy_int_bl, isTy_int_int, isTy_int_str, isTy_int_tup, isTy_int_lst, isTy_bool_non, isTy_bool_bl, isTy_bool_int, isTy_bool_str, isTy_bool_tup, isTy_bool_lst, isTy_tuple_non, isTy_tuple_bl, isTy_tuple_int, isTy_tuple_str, isTy_tuple_tup, isTy_tuple_lst, isTy_list_non, isTy_list_bl, isTy_list_int, isTy_list_str, isTy_list_tup, isTy_list_lst, isTy_str_non, isTy_str_bl, isTy_str_int, isTy_str_str, isTy_str_tup, isTy_str_lst,
  opt_bind_some, opt_map_some, Bool.or_true, Bool.true_or, Bool.or_false, Bool.false_or, Bool.not_true, Bool.not_false, Bool.and_true, Bool.true_and,
  decide_true, decide_false, if_tt, if_ff, if_T, if_F, set_zero, set_succ, endF_rt, endF_nx, decide_eq_true, decide_eq_false, *])
/-! ### cuts -/
theorem cut_take {α : Type} (l : List α) {k : Int} (h : 0 ≤ k) : cutD l none (some k) = l.take k.toNat := by
  unfold cutD HT.sIx
  dsimp only
  rw [if_neg (by omega), List.drop_zero, Nat.sub_zero]
  by_cases h1 : k.toNat ≤ l.length
  · rw [Nat.min_eq_left h1]
  · rw [Nat.min_eq_right (by omega), List.take_length, List.take_of_length_le (by omega)]
theorem cut_drop {α : Type} (l : List α) {k : Int} (h : 0 ≤ k) : cutD l (some k) none = l.drop k.toNat := by
  unfold cutD HT.sIx
  dsimp only
  rw [if_neg (by omega)]
  by_cases h1 : k.toNat ≤ l.length
  · rw [Nat.min_eq_left h1, List.take_of_length_le (by rw [List.length_drop]; omega)]
  · rw [Nat.min_eq_right (by omega), List.drop_length, List.drop_of_length_le (by omega), List.take_nil]
theorem at_getD (l : List Int) {k : Int} (h0 : 0 ≤ k) (h : k < l.length) : atI (zl l) k = some (.int (l.getD k.toNat 0)) := by
  have e : k = (k.toNat : Int) := by omega
  have hl : k.toNat < l.length := by omega
  have h1 : atI l (k.toNat : Int) = some l[k.toNat] := atI_nat (List.getElem?_eq_getElem hl)
  rw [← e] at h1
  rw [ints_at, h1, List.getD_eq_getElem?_getD, List.getElem?_eq_getElem hl]
  rfl
theorem range_mem {lo : Int} {n : Nat} {d : D} (h : d ∈ rangeD lo n) : ∃ i, i < n ∧ d = .int (lo + (i : Nat)) := by
  unfold rangeD at h
  obtain ⟨i, hi, e⟩ := List.mem_map.mp h
  exact ⟨i, List.mem_range.mp hi, e.symm⟩
theorem find_range (lo : Int) (n : Nat) (p : D → Bool) : (rangeD lo n).find? p = ((List.range n).find? fun i => p (.int (lo + (i : Nat)))).map fun (i : Nat) => D.int (lo + i) := by
  unfold rangeD
  rw [List.find?_map]
  rfl

/-! ### the shortest turn -/
def leP (l : List Int) : D → Bool
  | .int k => Cal.rootAt l k.toNat
  | _ => false
def leR (l : List Int) : D → D
  | .int k => .tup (zl (l.take k.toNat))
  | _ => .non
theorem m_least_turn_eq (l : List Int) (hl : l.length ≤ 1000) : m_least_turn [.tup (zl l)] = pure (.tup (zl (Cal.leastRoot l))) := by
  unfold m_least_turn
  rw [bodyF_1]
  show (F_least_turn [some (.tup (zl l)), none] >>= endF) = _
  unfold F_least_turn
  have hlen : (zl l).length = l.length := ints_len l
  refine q_for (ds := rangeD 1 ((l.length : Int) - 1).toNat) (by walk_at "ev") ?_
  have loop := forL_find (T := .nm 1) (F := sIf (tAndF (Fc.tB (eBin dEq (eBin dMod (eCall dLen (aCons (eVar 0) aNil)) (eVar 1)) (eC (.int 0)))) (Fc.tB (eBin dEq (eVar 0) (eBin dMul (eSl (eVar 0) oNone (oSome (eVar 1))) (eBin dDiv (eCall dLen (aCons (eVar 0) aNil)) (eVar 1)))))) (sRet (eSl (eVar 0) oNone (oSome (eVar 1)))) sNil)
    (fun δ => ∃ x, δ = [some (.tup (zl l)), x]) (leP l) (leR l) (ds := rangeD 1 ((l.length : Int) - 1).toNat) (δ := [some (.tup (zl l)), none]) ⟨none, rfl⟩ fun d hd δ hδ => by
    obtain ⟨x, rfl⟩ := hδ
    obtain ⟨i, hi, rfl⟩ := range_mem hd
    refine ⟨[some (.tup (zl l)), some (.int (1 + i))], [some (.tup (zl l)), some (.int (1 + i))], rfl, ?_⟩
    have k0 : (0 : Int) ≤ 1 + i := by omega
    have tn : ((1 : Int) + i).toNat = i + 1 := by omega
    have fm : ((l.length : Int)).fmod (1 + i) = ((l.length % (i + 1) : Nat) : Int) := by
      rw [fmod_pos (by omega)]
      have : ((1 : Int) + i) = ((i + 1 : Nat) : Int) := by omega
      rw [this, Int.natCast_emod]
    have fd : ((l.length : Int)).fdiv (1 + i) = ((l.length / (i + 1) : Nat) : Int) := by
      rw [fdiv_pos (by omega)]
      have : ((1 : Int) + i) = ((i + 1 : Nat) : Int) := by omega
      rw [this, Int.natCast_ediv]
    show (Cal.rootAt l ((1 : Int) + i).toNat = true ∧ _) ∨ (Cal.rootAt l ((1 : Int) + i).toNat = false ∧ _)
    rw [tn]
    have hq : l.length / (i + 1) ≤ 1000 := Nat.le_trans (Nat.div_le_self _ _) hl
    have ecut : cutD (zl l) none (some (1 + (i : Int))) = zl (l.take (i + 1)) := by rw [ints_cut, cut_take _ k0, tn]
    have emulA : ∀ q : Nat, q ≤ 1000 → dMul (.tup (zl (l.take (i + 1)))) (.int (q : Int)) = some (.tup (zl (List.replicate q (l.take (i + 1))).flatten)) := fun q hq => by
      rw [dMul_tup (by omega) (by omega) (by rw [ints_len, List.length_take]; omega), ints_rep]
      rfl
    have emul := emulA _ hq
    have c0 : (tAndF (Fc.tB (eBin dEq (eBin dMod (eCall dLen (aCons (eVar 0) aNil)) (eVar 1)) (eC (.int 0)))) (Fc.tB (eBin dEq (eVar 0) (eBin dMul (eSl (eVar 0) oNone (oSome (eVar 1))) (eBin dDiv (eCall dLen (aCons (eVar 0) aNil)) (eVar 1)))))) [some (.tup (zl l)), some (.int (1 + i))] = pure (Cal.rootAt l (i + 1)) := by
      unfold Cal.rootAt
      by_cases hm : l.length % (i + 1) = 0
      · have hm' : ((l.length % (i + 1) : Nat) : Int) = 0 := by omega
        walk_at "ev"
        rw [dEq_ints]
        rfl
      · have hm' : ¬ ((l.length % (i + 1) : Nat) : Int) = 0 := by omega
        walk_at "ev"
        rfl
    cases hc : Cal.rootAt l (i + 1) with
    | true =>
      refine .inl ⟨rfl, ?_⟩
      rw [hc] at c0
      rw [sIf_t c0]
      walk_at "ev"
      show _ = pure (Out.rt (D.tup (zl (l.take ((1 : Int) + i).toNat))), _)
      rw [tn]
    | false =>
      refine .inr ⟨rfl, ?_, _, rfl⟩
      rw [hc] at c0
      rw [sIf_f c0]
      rfl
  have hlen1 : ((l.length : Int) - 1).toNat = l.length - 1 := by omega
  have tn : ∀ i : Nat, ((1 : Int) + i).toNat = i + 1 := fun i => by omega
  have hP : (fun (i : Nat) => leP l (.int (1 + (i : Nat)))) = fun i => Cal.rootAt l (i + 1) := by
    funext i
    show Cal.rootAt l ((1 : Int) + i).toNat = _
    rw [tn]
  rw [hlen1] at loop ⊢
  rw [find_range, hP] at loop
  unfold Cal.leastRoot
  rcases loop with ⟨d, δ', h1, h2⟩ | ⟨δ', h1, h2, x, rfl⟩
  · rw [h2, pb]
    cases hf : (List.range (l.length - 1)).find? fun i => Cal.rootAt l (i + 1) with
    | none => rw [hf] at h1; cases h1
    | some i =>
      rw [hf] at h1
      cases h1
      show (pure (D.tup (zl (l.take ((1 : Int) + i).toNat))) : M D) = _
      rw [tn]
  · rw [h2, pb]
    cases hf : (List.range (l.length - 1)).find? fun i => Cal.rootAt l (i + 1) with
    | some i => rw [hf] at h1; cases h1
    | none => rfl

/-! ### the shortest pair -/
theorem vt_at {n : Nat} {t : List Int} {i : Nat} (ht : t ≠ []) : atI (zl t) (((i : Int) - n).fmod t.length) = some (.int (Cal.vt n t i)) := by
  have hp : 0 < (t.length : Int) := by have := List.length_pos_iff.mpr ht; omega
  rw [fmod_pos hp]
  have h1 := Int.emod_nonneg ((i : Int) - n) (by omega : (t.length : Int) ≠ 0)
  have h2 := Int.emod_lt_of_pos ((i : Int) - n) hp
  rw [at_getD t h1 h2]
  rfl
theorem root_ne {t : List Int} (ht : t ≠ []) : Cal.leastRoot t ≠ [] := by
  obtain ⟨L, hr, hL, hLn, _⟩ := Cal.root_spec ht
  rw [hr]
  intro z
  have := congrArg List.length z
  rw [List.length_take] at this
  have h0 : ([] : List Int).length = 0 := rfl
  omega
theorem root_len {t : List Int} : (Cal.leastRoot t).length ≤ t.length := by
  unfold Cal.leastRoot
  split
  · rw [List.length_take]; omega
  · exact Nat.le_refl _
theorem m_calendar_of_eq (h t : List Int) (ht : t ≠ []) (h1 : h.length ≤ 900) (h2 : t.length ≤ 900) : m_calendar_of [.tup (zl h), .tup (zl t)] = pure (calD (Cal.calOf h t).1 (Cal.calOf h t).2) := by
  have hr := root_ne ht
  have hrl := root_len (t := t)
  have hlen : (zl h).length = h.length := ints_len h
  have rlen : (zl (Cal.leastRoot t)).length = (Cal.leastRoot t).length := ints_len _
  have hp : 0 < ((Cal.leastRoot t).length : Int) := by have := List.length_pos_iff.mpr hr; omega
  have hlt := m_least_turn_eq t (by omega)
  unfold m_calendar_of
  rw [bodyF_2]
  show (F_calendar_of [some (.tup (zl h)), some (.tup (zl t)), none, none] >>= endF) = _
  unfold F_calendar_of
  refine q_seq (δ1 := [some (.tup (zl h)), some (.tup (zl (Cal.leastRoot t))), none, none]) (by walk_at "ev") ?_
  refine q_seq (δ1 := [some (.tup (zl h)), some (.tup (zl (Cal.leastRoot t))), some (.int (h.length : Int)), none]) (by walk_at "ev") ?_
  have loop : ∀ k n, k ≤ h.length → k < n → whileL n (tAndF (Fc.tB (eBin dGt (eVar 2) (eC (.int 0)))) (Fc.tB (eBin dEq (eBin dIx (eVar 0) (eBin dSub (eVar 2) (eC (.int 1)))) (eBin dIx (eVar 1) (eBin dMod (eBin dSub (eBin dSub (eVar 2) (eCall dLen (aCons (eVar 0) aNil))) (eC (.int 1))) (eCall dLen (aCons (eVar 1) aNil))))))) (sAsg (.nm 2) (eBin dSub (eVar 2) (eC (.int 1)))) [some (.tup (zl h)), some (.tup (zl (Cal.leastRoot t))), some (.int (k : Int)), none] =
      pure (.nx, [some (.tup (zl h)), some (.tup (zl (Cal.leastRoot t))), some (.int (Cal.trim h (Cal.leastRoot t) k : Int)), none]) := by
    intro k
    induction k with
    | zero =>
      intro n hk hn
      obtain ⟨n, rfl⟩ : ∃ m, n = m + 1 := ⟨n - 1, by omega⟩
      refine whileL_end ?_
      walk_at "ev"
    | succ k ih =>
      intro n hk hn
      obtain ⟨n, rfl⟩ : ∃ m, n = m + 1 := ⟨n - 1, by omega⟩
      have e1 : (((k + 1 : Nat) : Int) - 1) = (k : Int) := by omega
      have e2 : (((k + 1 : Nat) : Int) - (h.length : Int) - 1) = ((k : Int) - h.length) := by omega
      have e3 : atI (zl h) (k : Int) = some (.int (h.getD k 0)) := by
        have := at_getD h (k := (k : Int)) (by omega) (by omega)
        rw [this]
        rfl
      have e4 := vt_at (n := h.length) (i := k) hr
      unfold Cal.trim
      by_cases hc : h.getD k 0 = Cal.vt h.length (Cal.leastRoot t) k
      · rw [if_pos hc, ← ih n (by omega) (by omega)]
        refine whileL_step ?_ ?_
        · walk_at "ev"
        · walk_at "ev"
      · rw [if_neg hc]
        refine whileL_end ?_
        walk_at "ev"
  refine q_seq (loop h.length 1000 (Nat.le_refl _) (by omega)) ?_
  have hN := Cal.trim_le h (Cal.leastRoot t) h.length
  generalize hNN : Cal.trim h (Cal.leastRoot t) h.length = N at hN ⊢
  refine q_seq (δ1 := [some (.tup (zl h)), some (.tup (zl (Cal.leastRoot t))), some (.int (N : Int)), some (.int (((N : Int) - h.length) % (Cal.leastRoot t).length))]) (by
    have e := fmod_pos (a := (N : Int) - h.length) hp
    walk_at "ev") ?_
  have m0 := Int.emod_nonneg ((N : Int) - h.length) (by omega : ((Cal.leastRoot t).length : Int) ≠ 0)
  have m1 := Int.emod_lt_of_pos ((N : Int) - h.length) hp
  have c1 : cutD (zl h) none (some (N : Int)) = zl (h.take N) := by
    rw [ints_cut, cut_take _ (by omega)]
    rfl
  have c2 : cutD (zl (Cal.leastRoot t)) (some (((N : Int) - h.length) % (Cal.leastRoot t).length)) none = zl ((Cal.leastRoot t).drop (((N : Int) - h.length) % (Cal.leastRoot t).length).toNat) := by rw [ints_cut, cut_drop _ m0]
  have c3 : cutD (zl (Cal.leastRoot t)) none (some (((N : Int) - h.length) % (Cal.leastRoot t).length)) = zl ((Cal.leastRoot t).take (((N : Int) - h.length) % (Cal.leastRoot t).length).toNat) := by rw [ints_cut, cut_take _ m0]
  have l2 : (zl ((Cal.leastRoot t).drop (((N : Int) - h.length) % (Cal.leastRoot t).length).toNat)).length + (zl ((Cal.leastRoot t).take (((N : Int) - h.length) % (Cal.leastRoot t).length).toNat)).length ≤ 100000 := by
    rw [ints_len, ints_len, List.length_drop, List.length_take]
    omega
  refine q_end (d := calD (h.take N) ((Cal.leastRoot t).drop (((N : Int) - h.length) % (Cal.leastRoot t).length).toNat ++ (Cal.leastRoot t).take (((N : Int) - h.length) % (Cal.leastRoot t).length).toNat)) (by
    have e5 := dAdd_tup l2
    rw [ints_app] at e5
    walk_at "ev"
    rfl) ?_
  rw [endF_rt]
  unfold Cal.calOf
  dsimp only
  rw [hNN]

/-! ### flags, and what is in a calendar -/
theorem m_flag_at_eq (h t : List Int) (k : Int) (ht : t ≠ []) (h0 : 0 ≤ k) : m_flag_at [calD h t, .int k] = pure (.int (Cal.val h t k.toNat)) := by
  have hlen : (zl h).length = h.length := ints_len h
  have tlen : (zl t).length = t.length := ints_len t
  have hp : 0 < (t.length : Int) := by have := List.length_pos_iff.mpr ht; omega
  unfold m_flag_at
  rw [bodyF_2]
  show (F_flag_at [some (.tup [.tup (zl h), .tup (zl t)]), some (.int k), none, none] >>= endF) = _
  unfold F_flag_at
  refine q_seq (δ1 := [some (.tup [.tup (zl h), .tup (zl t)]), some (.int k), some (.tup (zl h)), some (.tup (zl t))]) (by walk_at "ev") ?_
  by_cases hk : k < h.length
  · have e := at_getD h h0 hk
    refine q_ret (d := .int (h.getD k.toNat 0)) (by walk_at "ev"; rfl) ?_
    rw [endF_rt]
    unfold Cal.val
    rw [if_pos (by omega)]
  · refine q_seq (δ1 := [some (.tup [.tup (zl h), .tup (zl t)]), some (.int k), some (.tup (zl h)), some (.tup (zl t))]) (by walk_at "ev") ?_
    have e2 : (k - (h.length : Int)).fmod t.length = (((k.toNat - h.length) % t.length : Nat) : Int) := by
      rw [fmod_pos hp]
      have : k - (h.length : Int) = ((k.toNat - h.length : Nat) : Int) := by omega
      rw [this, Int.natCast_emod]
    have hm : (k.toNat - h.length) % t.length < t.length := Nat.mod_lt _ (by omega)
    generalize hq : (k.toNat - h.length) % t.length = q at e2 hm
    have e3 := at_getD t (k := (q : Int)) (by omega) (by omega)
    refine q_end (d := .int (t.getD q 0)) (by walk_at "ev"; rfl) ?_
    rw [endF_rt]
    unfold Cal.val
    rw [if_neg (by omega), hq]
theorem m_holds_eq (h t : List Int) (k : Int) (ht : t ≠ []) (h0 : 0 ≤ k) : m_holds [calD h t, .int k] = pure (.bl (decide (Cal.val h t k.toNat = 1))) := by
  have e := m_flag_at_eq h t k ht h0
  unfold m_holds
  rw [bodyF_2]
  show (F_holds [some (calD h t), some (.int k)] >>= endF) = _
  unfold F_holds
  refine q_end (d := .bl (decide (Cal.val h t k.toNat = 1))) (by walk_at "ev" <;> rfl) ?_
  rw [endF_rt]
/-- the turn of every so many times -/
def evT (period long : Int) : List Int := (List.range period.toNat).map fun (i : Nat) => if (i : Int) < long then (1 : Int) else 0
theorem zl_rep (n : Nat) (x : Int) : List.replicate n (D.int x) = zl (List.replicate n x) := by
  unfold zl
  rw [List.map_replicate]
theorem m_every_eq (first period long : Int) (h1 : 0 ≤ first ∧ first ≤ 200) (h2 : 1 ≤ period ∧ period ≤ 60) : m_every [.int first, .int period, .int long] = pure (calD (Cal.calOf (List.replicate first.toNat 0) (evT period long)).1 (Cal.calOf (List.replicate first.toNat 0) (evT period long)).2) := by
  unfold m_every
  rw [bodyF_3]
  show (F_every [some (.int first), some (.int period), some (.int long), none, none] >>= endF) = _
  unfold F_every
  have comp : lcL (.nm 4) tYesF (eIf (Fc.tB (eBin dLt (eVar 4) (eVar 2))) (eC (.int 1)) (eC (.int 0))) [some (.int first), some (.int period), some (.int long), none, none] (rangeD 0 period.toNat) = pure (zl (evT period long)) := by
    rw [lcL_map (fun d => match d with | .int i => .int (if i < long then 1 else 0) | _ => .non) fun d hd => ?_]
    · refine pure_inj ?_
      unfold rangeD evT zl
      rw [List.map_map, List.map_map]
      refine List.map_congr_left fun i _ => ?_
      show D.int (if (0 : Int) + i < long then 1 else 0) = D.int (if (i : Int) < long then 1 else 0)
      rw [Int.zero_add]
    · obtain ⟨i, hi, rfl⟩ := range_mem hd
      refine ⟨[some (.int first), some (.int period), some (.int long), none, some (.int (0 + i))], rfl, ?_⟩
      show _ = pure (D.int (if (0 : Int) + i < long then 1 else 0))
      by_cases hc : (0 : Int) + i < long
      · rw [if_pos hc]
        walk_at "ev"
      · rw [if_neg hc]
        walk_at "ev"
  have hl : (rangeD 0 period.toNat).length = period.toNat := rangeD_len _ _
  have e0 : eLc [4] (.nm 4) (itCall dRange1 (aCons (eVar 1) aNil)) tYesF (eIf (Fc.tB (eBin dLt (eVar 4) (eVar 2))) (eC (.int 1)) (eC (.int 0))) [some (.int first), some (.int period), some (.int long), none, none] = pure (.lst (zl (evT period long))) := eLc_eq (ds := rangeD 0 period.toNat) (by walk_at "ev") (by omega) comp
  refine q_seq (δ1 := [some (.int first), some (.int period), some (.int long), some (.tup (zl (evT period long))), none]) (by
    walk_at "ev") ?_
  have el : (evT period long).length = period.toNat := by unfold evT; rw [List.length_map, List.length_range]
  have ene : evT period long ≠ [] := by
    intro z
    rw [z] at el
    have h0 : ([] : List Int).length = 0 := rfl
    omega
  have e1 : dMul (.tup [.int 0]) (.int first) = some (.tup (zl (List.replicate first.toNat 0))) := by
    rw [dMul_tup (by omega) (by omega) (by simp)]
    have : (List.replicate first.toNat [D.int 0]).flatten = zl (List.replicate first.toNat 0) := by
      have e := ints_rep [0] first.toNat
      have e9 : (List.replicate first.toNat [(0 : Int)]).flatten = List.replicate first.toNat 0 := by simp
      rw [← e9, ← e]
      rfl
    rw [this]
  have e2 := m_calendar_of_eq (List.replicate first.toNat 0) (evT period long) ene (by rw [List.length_replicate]; omega) (by rw [el]; omega)
  refine q_end (d := calD (Cal.calOf (List.replicate first.toNat 0) (evT period long)).1 (Cal.calOf (List.replicate first.toNat 0) (evT period long)).2) (by walk_at "ev" <;> rfl) ?_
  rw [endF_rt]
/-! ### shapes -/
theorem m_is_number_eq (k a b : Int) : m_is_number [.int k, .int a, .int b] = pure (.bl (decide (a ≤ k ∧ k ≤ b))) := by
  have e : m_is_integer [.int k] = pure (.bl true) := rfl
  unfold m_is_number
  rw [bodyF_3]
  show (F_is_number [some (.int k), some (.int a), some (.int b)] >>= endF) = _
  unfold F_is_number
  by_cases h1 : a ≤ k
  · by_cases h2 : k ≤ b
    · refine q_end (d := .bl true) (by walk_at "ev" <;> rfl) ?_
      rw [endF_rt, decide_eq_true (show a ≤ k ∧ k ≤ b from ⟨h1, h2⟩)]
    · refine q_end (d := .bl false) (by walk_at "ev" <;> rfl) ?_
      rw [endF_rt, decide_eq_false (show ¬ (a ≤ k ∧ k ≤ b) from fun z => h2 z.2)]
  · refine q_end (d := .bl false) (by walk_at "ev" <;> rfl) ?_
    rw [endF_rt, decide_eq_false (show ¬ (a ≤ k ∧ k ≤ b) from fun z => h1 z.1)]
theorem m_are_flags_eq (l : List Int) (hl : l.length ≤ 100000) : m_are_flags [.tup (zl l)] = pure (.bl (l.all fun k => decide (0 ≤ k ∧ k ≤ 1))) := by
  unfold m_are_flags
  rw [bodyF_1]
  show (F_are_flags [some (.tup (zl l)), none] >>= endF) = _
  unfold F_are_flags
  have comp : lcL (.nm 1) tYesF (eDef m_is_number (aCons (eVar 1) (aCons (eC (.int 0)) (aCons (eC (.int 1)) aNil)))) [some (.tup (zl l)), none] (zl l) = pure (l.map fun k => .bl (decide (0 ≤ k ∧ k ≤ 1))) := by
    rw [lcL_map (fun d => match d with | .int k => .bl (decide (0 ≤ k ∧ k ≤ 1)) | _ => .non) fun d hd => ?_]
    · refine pure_inj ?_
      unfold zl
      rw [List.map_map]
      rfl
    · obtain ⟨k, _, rfl⟩ := List.mem_map.mp hd
      refine ⟨[some (.tup (zl l)), some (.int k)], rfl, ?_⟩
      have e := m_is_number_eq k 0 1
      walk_at "ev"
  have hlen : (zl l).length = l.length := ints_len l
  have e0 : eLc [1] (.nm 1) (itSeq (eVar 0)) tYesF (eDef m_is_number (aCons (eVar 1) (aCons (eC (.int 0)) (aCons (eC (.int 1)) aNil)))) [some (.tup (zl l)), none] = pure (.lst (l.map fun k => .bl (decide (0 ≤ k ∧ k ≤ 1)))) := eLc_eq (ds := zl l) (by walk_at "ev") (by omega) comp
  have e1 : dAll [.lst (l.map fun k => .bl (decide (0 ≤ k ∧ k ≤ 1)))] = some (.bl (l.all fun k => decide (0 ≤ k ∧ k ≤ 1))) := dAll_map (fun k => decide (0 ≤ k ∧ k ≤ 1)) l
  refine q_end (d := .bl (l.all fun k => decide (0 ≤ k ∧ k ≤ 1))) (by walk_at "ev" <;> rfl) ?_
  rw [endF_rt]
theorem m_is_calendar_eq (h t : List Int) (ht : t ≠ []) (h1 : h.length ≤ 900) (h2 : t.length ≤ 900) (f1 : (h.all fun k => decide (0 ≤ k ∧ k ≤ 1)) = true) (f2 : (t.all fun k => decide (0 ≤ k ∧ k ≤ 1)) = true) : m_is_calendar [calD h t] = pure (.bl (decide ((Cal.calOf h t).1 = h ∧ (Cal.calOf h t).2 = t))) := by
  have e1 := m_are_flags_eq h (by omega)
  have e2 := m_are_flags_eq t (by omega)
  rw [f1] at e1
  rw [f2] at e2
  have e3 := m_calendar_of_eq h t ht h1 h2
  have e4 : dEq (.tup (zl t)) (.tup []) = some (.bl false) := by
    have := dEq_ints t []
    rw [decide_eq_false ht] at this
    exact this
  have e5 := dEq_cal (Cal.calOf h t).1 (Cal.calOf h t).2 h t
  unfold m_is_calendar
  rw [bodyF_1]
  show (F_is_calendar [some (.tup [.tup (zl h), .tup (zl t)]), none, none] >>= endF) = _
  unfold F_is_calendar
  unfold calD at e3
  refine q_seq (δ1 := [some (.tup [.tup (zl h), .tup (zl t)]), none, none]) (by walk_at "ev") ?_
  refine q_seq (δ1 := [some (.tup [.tup (zl h), .tup (zl t)]), some (.tup (zl h)), some (.tup (zl t))]) (by walk_at "ev") ?_
  refine q_seq (δ1 := [some (.tup [.tup (zl h), .tup (zl t)]), some (.tup (zl h)), some (.tup (zl t))]) (by walk_at "ev") ?_
  refine q_end (d := .bl (decide ((Cal.calOf h t).1 = h ∧ (Cal.calOf h t).2 = t))) (by walk_at "ev" <;> rfl) ?_
  rw [endF_rt]

/-! ### the same data -/
def okD : Nat → D → Bool
  | _, .non => true
  | _, .bl _ => true
  | _, .int _ => true
  | _, .str s => (D.str s).sh
  | n + 1, .tup l => decide (l.length ≤ 100000) && l.all (okD n)
  | n + 1, .lst l => decide (l.length ≤ 100000) && l.all (okD n)
  | _, _ => false
theorem same_refl : ∀ (n : Nat) (d : D), okD n d = true → r__law_same (n + 1) [d, d] = pure (.bl true)
  | n, .non, _ => rfl
  | n, .bl b, _ => by cases b <;> rfl
  | n, .int i, _ => by
    show (F__law_same (r__law_same n) [some (.int i), some (.int i), none] >>= endF) = _
    unfold F__law_same
    refine q_seq (δ1 := [some (.int i), some (.int i), none]) (by walk_at "ev" <;> rfl) ?_
    refine q_seq (δ1 := [some (.int i), some (.int i), none]) (by walk_at "ev" <;> rfl) ?_
    refine q_seq (δ1 := [some (.int i), some (.int i), none]) (by walk_at "ev" <;> rfl) ?_
    refine q_seq (δ1 := [some (.int i), some (.int i), none]) (by walk_at "ev" <;> rfl) ?_
    refine q_end (d := .bl true) (by walk_at "ev" <;> rfl) ?_
    rfl
  | n, .str i, h => by
    have h' : (D.str i).sh = true := by cases n <;> exact h
    have e : dEq (.str i) (.str i) = some (.bl true) := by
      unfold dEq
      rw [if_pos ⟨h', h'⟩]
      show some (D.bl (i == i)) = _
      rw [beq_self_eq_true]
    show (F__law_same (r__law_same n) [some (.str i), some (.str i), none] >>= endF) = _
    unfold F__law_same
    refine q_seq (δ1 := [some (.str i), some (.str i), none]) (by walk_at "ev" <;> rfl) ?_
    refine q_seq (δ1 := [some (.str i), some (.str i), none]) (by walk_at "ev" <;> rfl) ?_
    refine q_seq (δ1 := [some (.str i), some (.str i), none]) (by walk_at "ev" <;> rfl) ?_
    refine q_ret (d := .bl true) (by walk_at "ev" <;> rfl) ?_
    rfl
  | 0, .tup l, h => by cases h
  | 0, .lst l, h => by cases h
  | n, .fn _, h => by cases n <;> cases h
  | n, .drw, h => by cases n <;> cases h
  | n + 1, .tup l, h => by
    have h' : (decide (l.length ≤ 100000) && l.all (okD n)) = true := h
    rw [Bool.and_eq_true, decide_eq_true_eq, List.all_eq_true] at h'
    obtain ⟨hl, ha⟩ := h'
    have comp : lcL (.nm 2) tYesF (eDef (r__law_same (n + 1)) (aCons (eBin dIx (eVar 0) (eVar 2)) (aCons (eBin dIx (eVar 1) (eVar 2)) aNil))) [some (.tup l), some (.tup l), none] (rangeD 0 l.length) = pure ((rangeD 0 l.length).map fun _ => .bl true) := by
      refine lcL_map (fun _ => .bl true) fun d hd => ?_
      obtain ⟨i, hi, rfl⟩ := range_mem hd
      refine ⟨[some (.tup l), some (.tup l), some (.int (0 + i))], rfl, ?_⟩
      have e : atI l ((0 : Int) + i) = some l[i] := by
        rw [Int.zero_add]
        exact atI_nat (List.getElem?_eq_getElem hi)
      have ih := same_refl n l[i] (ha _ (List.getElem_mem hi))
      walk_at "ev"
    have e0 : eLc [2] (.nm 2) (itCall dRange1 (aCons (eCall dLen (aCons (eVar 1) aNil)) aNil)) tYesF (eDef (r__law_same (n + 1)) (aCons (eBin dIx (eVar 0) (eVar 2)) (aCons (eBin dIx (eVar 1) (eVar 2)) aNil))) [some (.tup l), some (.tup l), none] = pure (.lst ((rangeD 0 l.length).map fun _ => .bl true)) :=
      eLc_eq (ds := rangeD 0 l.length) (by walk_at "ev" <;> rfl) (by rw [rangeD_len]; exact hl) comp
    have e1 : dAll [.lst ((rangeD 0 l.length).map fun _ => .bl true)] = some (.bl true) := by
      have := dAll_map (fun _ => true) (rangeD 0 l.length)
      rw [all_true] at this
      exact this
    show (F__law_same (r__law_same (n + 1)) [some (.tup l), some (.tup l), none] >>= endF) = _
    unfold F__law_same
    refine q_ret (d := .bl true) (δ1 := [some (.tup l), some (.tup l), none]) ?_ rfl
    rw [sIf_t (by walk_at "ev" <;> rfl)]
    rw [sSeq_nx (δ1 := [some (.tup l), some (.tup l), none]) (by walk_at "ev" <;> rfl)]
    rw [sSeq_nx (δ1 := [some (.tup l), some (.tup l), none]) (by walk_at "ev" <;> rfl)]
    walk_at "ev"
  | n + 1, .lst l, h => by
    have h' : (decide (l.length ≤ 100000) && l.all (okD n)) = true := h
    rw [Bool.and_eq_true, decide_eq_true_eq, List.all_eq_true] at h'
    obtain ⟨hl, ha⟩ := h'
    have comp : lcL (.nm 2) tYesF (eDef (r__law_same (n + 1)) (aCons (eBin dIx (eVar 0) (eVar 2)) (aCons (eBin dIx (eVar 1) (eVar 2)) aNil))) [some (.lst l), some (.lst l), none] (rangeD 0 l.length) = pure ((rangeD 0 l.length).map fun _ => .bl true) := by
      refine lcL_map (fun _ => .bl true) fun d hd => ?_
      obtain ⟨i, hi, rfl⟩ := range_mem hd
      refine ⟨[some (.lst l), some (.lst l), some (.int (0 + i))], rfl, ?_⟩
      have e : atI l ((0 : Int) + i) = some l[i] := by
        rw [Int.zero_add]
        exact atI_nat (List.getElem?_eq_getElem hi)
      have ih := same_refl n l[i] (ha _ (List.getElem_mem hi))
      walk_at "ev"
    have e0 : eLc [2] (.nm 2) (itCall dRange1 (aCons (eCall dLen (aCons (eVar 1) aNil)) aNil)) tYesF (eDef (r__law_same (n + 1)) (aCons (eBin dIx (eVar 0) (eVar 2)) (aCons (eBin dIx (eVar 1) (eVar 2)) aNil))) [some (.lst l), some (.lst l), none] = pure (.lst ((rangeD 0 l.length).map fun _ => .bl true)) :=
      eLc_eq (ds := rangeD 0 l.length) (by walk_at "ev" <;> rfl) (by rw [rangeD_len]; exact hl) comp
    have e1 : dAll [.lst ((rangeD 0 l.length).map fun _ => .bl true)] = some (.bl true) := by
      have := dAll_map (fun _ => true) (rangeD 0 l.length)
      rw [all_true] at this
      exact this
    show (F__law_same (r__law_same (n + 1)) [some (.lst l), some (.lst l), none] >>= endF) = _
    unfold F__law_same
    refine q_ret (d := .bl true) (δ1 := [some (.lst l), some (.lst l), none]) ?_ rfl
    rw [sIf_t (by walk_at "ev" <;> rfl)]
    rw [sSeq_nx (δ1 := [some (.lst l), some (.lst l), none]) (by walk_at "ev" <;> rfl)]
    rw [sSeq_nx (δ1 := [some (.lst l), some (.lst l), none]) (by walk_at "ev" <;> rfl)]
    walk_at "ev"
theorem m_law_same_refl (d : D) (h : okD 29 d = true) : m__law_same [d, d] = pure (.bl true) := same_refl 29 d h
/-! ### rows, numbers, loads -/
theorem m_is_row_tup (l : List D) (a b : Int) : m_is_row [.tup l, .int a, .int b] = pure (.bl (decide (a ≤ l.length ∧ (l.length : Int) ≤ b))) := by
  unfold m_is_row
  rw [bodyF_3]
  show (F_is_row [some (.tup l), some (.int a), some (.int b)] >>= endF) = _
  unfold F_is_row
  by_cases h1 : a ≤ l.length
  · by_cases h2 : (l.length : Int) ≤ b
    · refine q_end (d := .bl true) (by walk_at "ev" <;> rfl) ?_
      rw [endF_rt, decide_eq_true (show a ≤ l.length ∧ (l.length : Int) ≤ b from ⟨h1, h2⟩)]
    · refine q_end (d := .bl false) (by walk_at "ev" <;> rfl) ?_
      rw [endF_rt, decide_eq_false (show ¬ (a ≤ l.length ∧ (l.length : Int) ≤ b) from fun z => h2 z.2)]
  · refine q_end (d := .bl false) (by walk_at "ev" <;> rfl) ?_
    rw [endF_rt, decide_eq_false (show ¬ (a ≤ l.length ∧ (l.length : Int) ≤ b) from fun z => h1 z.1)]
theorem m_is_whole_int (k a b : Int) : m_is_whole [.int k, .int a, .int b] = pure (.bl (decide (a ≤ k ∧ k ≤ b))) := by
  unfold m_is_whole
  rw [bodyF_3]
  show (F_is_whole [some (.int k), some (.int a), some (.int b)] >>= endF) = _
  unfold F_is_whole
  refine q_seq (δ1 := [some (.int k), some (.int a), some (.int b)]) (by walk_at "ev" <;> rfl) ?_
  by_cases h1 : a ≤ k
  · by_cases h2 : k ≤ b
    · refine q_end (d := .bl true) (by walk_at "ev" <;> rfl) ?_
      rw [endF_rt, decide_eq_true (show a ≤ k ∧ k ≤ b from ⟨h1, h2⟩)]
    · refine q_end (d := .bl false) (by walk_at "ev" <;> rfl) ?_
      rw [endF_rt, decide_eq_false (show ¬ (a ≤ k ∧ k ≤ b) from fun z => h2 z.2)]
  · refine q_end (d := .bl false) (by walk_at "ev" <;> rfl) ?_
    rw [endF_rt, decide_eq_false (show ¬ (a ≤ k ∧ k ≤ b) from fun z => h1 z.1)]
end Sh

/-! Fractions: what ratio, add .. compute. -/
namespace Sh
open PySem L2 Fc
local macro_rules | `(tactic| walk_at "ev") => `(tactic| simp (disch := omega) only [List.map_cons, List.map_nil, List.length_cons, List.length_nil, List.replicate, List.cons_append, List.nil_append,
  sIf, Fc.tB, tT, tAndF, tOrF, tNotF, eBin, eUn, eVar_zero, eVar_succ, eC, pb, asB, asI, liftO_pure, sPar, aCons, aNil, sAsg, eCall, eDef, setT, setTs, sRet, sNil, eTup, eLst, eIf, eIsi, eIsi2, isTy2, eNotT, eAndV, eOrV, eChain, eSl, oNone, oSome, sBk, sCt, itCall, itSeq, dItems,
  dAdd_int, dAdd_tup, dMul_tup, dRange1_ok, dRange2_ok, dSub, dDiv_ok, dMod_ok, dMul_okL, dMul_okR, len_ok, dLt, dLe, dGt, dGe, dEq_int, dNe_int, dNeg, dLen, dAbs, dInt, dGcd, dMax2, dMin2, dTuple, dList, dTru, dIs_non, dIsNot_non, dIs_bl, dIsNot_bl, isNon_int, isNon_bl, isNon_str, isNon_tup, isNon_lst, isNon_non, dEq_bl, dNe_bl, dIx_tup, dIx_lst, at0, at1, at2, dSl,
  isTy_int_non, isTy_int_bl, isTy_int_int, isTy_int_str, isTy_int_tup, isTy_int_lst, isTy_bool_non, isTy_bool_bl, isTy_bool_int, isTy_bool_str, isTy_bool_tup, isTy_bool_lst, isTy_tuple_non, isTy_tuple_bl, isTy_tuple_int, isTy_tuple_str, isTy_tuple_tup, isTy_tuple_lst, isTy_list_non, isTy_list_bl, isTy_list_int, isTy_list_str, isTy_list_tup, isTy_list_lst, isTy_str_non, isTy_str_bl, isTy_str_int, isTy_str_str, isTy_str_tup, isTy_str_lst,
  opt_bind_some, opt_map_some, Bool.or_true, Bool.true_or, Bool.or_false, Bool.false_or, Bool.not_true, Bool.not_false, Bool.and_true, Bool.true_and,
  decide_true, decide_false, if_tt, if_ff, if_T, if_F, set_zero, set_succ, endF_rt, endF_nx, decide_eq_true, decide_eq_false, *])
def rg (a b : Int) : Nat := Nat.gcd a.natAbs b.natAbs
def rn (a b : Int) : Int := (if b < 0 then -a else a) / (rg a b : Nat)
def rd (a b : Int) : Int := (if b < 0 then -b else b) / (rg a b : Nat)
section
variable {a b : Int} (hb : b ≠ 0)
include hb
theorem rg_pos : 0 < rg a b := Nat.gcd_pos_of_pos_right _ (by omega)
/-- a and b by their greatest common divisor -/
theorem rat_split : ∃ x y : Int, (if b < 0 then -a else a) = rg a b * x ∧ (if b < 0 then -b else b) = rg a b * y ∧ rn a b = x ∧ rd a b = y ∧ 0 < y ∧ Nat.gcd x.natAbs y.natAbs = 1 := by
  have hg := rg_pos (a := a) hb
  have d1 : ((rg a b : Nat) : Int) ∣ (if b < 0 then -a else a) := by
    rw [Int.ofNat_dvd_left]
    have : (if b < 0 then -a else a).natAbs = a.natAbs := by split <;> simp
    rw [this]
    exact Nat.gcd_dvd_left _ _
  have d2 : ((rg a b : Nat) : Int) ∣ (if b < 0 then -b else b) := by
    rw [Int.ofNat_dvd_left]
    have : (if b < 0 then -b else b).natAbs = b.natAbs := by split <;> simp
    rw [this]
    exact Nat.gcd_dvd_right _ _
  obtain ⟨x, hx⟩ := d1
  obtain ⟨y, hy⟩ := d2
  have hgi : ((rg a b : Nat) : Int) ≠ 0 := by omega
  have ex : rn a b = x := by unfold rn; rw [hx, Int.mul_ediv_cancel_left _ hgi]
  have ey : rd a b = y := by unfold rd; rw [hy, Int.mul_ediv_cancel_left _ hgi]
  have hy0 : 0 < y := by
    have h1 : 0 < (if b < 0 then -b else b) := by split <;> omega
    rw [hy] at h1
    exact Int.pos_of_mul_pos_right h1 (by omega)
  refine ⟨x, y, hx, hy, ex, ey, hy0, ?_⟩
  have n1 : a.natAbs = rg a b * x.natAbs := by
    have : (if b < 0 then -a else a).natAbs = a.natAbs := by split <;> simp
    rw [← this, hx, Int.natAbs_mul]
    rfl
  have n2 : b.natAbs = rg a b * y.natAbs := by
    have : (if b < 0 then -b else b).natAbs = b.natAbs := by split <;> simp
    rw [← this, hy, Int.natAbs_mul]
    rfl
  have e : rg a b * Nat.gcd x.natAbs y.natAbs = rg a b * 1 := by
    rw [← Nat.gcd_mul_left, ← n1, ← n2, Nat.mul_one]
    rfl
  exact Nat.eq_of_mul_eq_mul_left hg e
theorem rd_pos : 0 < rd a b := by
  obtain ⟨x, y, _, _, _, e, h, _⟩ := rat_split (a := a) hb
  rw [e]; exact h
theorem rat_cross : rn a b * b = a * rd a b := by
  obtain ⟨x, y, h1, h2, e1, e2, _, _⟩ := rat_split (a := a) hb
  rw [e1, e2]
  by_cases h : b < 0
  · rw [if_pos h] at h1 h2
    have ea : a = -(rg a b * x) := by omega
    have eb : b = -(rg a b * y) := by omega
    generalize rg a b = g at ea eb
    rw [ea, eb, Int.mul_neg, Int.neg_mul, Int.mul_left_comm, Int.mul_assoc]
  · rw [if_neg h] at h1 h2
    generalize rg a b = g at h1 h2
    rw [h1, h2, Int.mul_left_comm, Int.mul_assoc]
theorem rat_cop : Nat.gcd (rn a b).natAbs (rd a b).natAbs = 1 := by
  obtain ⟨x, y, _, _, e1, e2, _, h⟩ := rat_split (a := a) hb
  rw [e1, e2]; exact h
theorem rn_le : (rn a b).natAbs ≤ a.natAbs := by
  obtain ⟨x, y, h1, _, e1, _, _, _⟩ := rat_split (a := a) hb
  have hg := rg_pos (a := a) hb
  have : (if b < 0 then -a else a).natAbs = a.natAbs := by split <;> simp
  rw [e1, ← this, h1, Int.natAbs_mul]
  exact Nat.le_mul_of_pos_left _ (by omega)
theorem rd_le : (rd a b).natAbs ≤ b.natAbs := by
  obtain ⟨x, y, _, h1, _, e1, _, _⟩ := rat_split (a := a) hb
  have hg := rg_pos (a := a) hb
  have : (if b < 0 then -b else b).natAbs = b.natAbs := by split <;> simp
  rw [e1, ← this, h1, Int.natAbs_mul]
  exact Nat.le_mul_of_pos_left _ (by omega)
end
theorem mul_bd {x y : Int} {p q : Nat} (h1 : x.natAbs ≤ p) (h2 : y.natAbs ≤ q) : (x * y).natAbs ≤ p * q := by
  rw [Int.natAbs_mul]
  exact Nat.mul_le_mul h1 h2
/-- the fraction a / b as data -/
def ratD (a b : Int) : D := .tup [.int (rn a b), .int (rd a b)]
theorem m_ratio_eq (a b : Int) (hb : b ≠ 0) (hs : b.natAbs < 1073741824) : m_ratio [.int a, .int b] = pure (ratD a b) := by
  have hg := rg_pos (a := a) hb
  have hgi : (0 : Int) < (rg a b : Nat) := by omega
  have hl : rg a b ≤ b.natAbs := Nat.le_of_dvd (by omega) (Nat.gcd_dvd_right _ _)
  unfold m_ratio
  rw [bodyF_2]
  show (F_ratio [some (.int a), some (.int b), none] >>= endF) = _
  unfold F_ratio ratD rn rd
  have e0 : Nat.gcd a.natAbs b.natAbs = rg a b := rfl
  by_cases h : b < 0
  · have e1 : (-a).natAbs = a.natAbs := Int.natAbs_neg a
    have e2 : (-b).natAbs = b.natAbs := Int.natAbs_neg b
    refine q_seq (by walk_at "ev" <;> rfl) ?_
    refine q_seq (by walk_at "ev" <;> rfl) ?_
    refine q_end (by walk_at "ev" <;> rfl) ?_
    rw [endF_rt, if_pos h, if_pos h, fdiv_pos hgi, fdiv_pos hgi]
  · refine q_seq (by walk_at "ev" <;> rfl) ?_
    refine q_seq (by walk_at "ev" <;> rfl) ?_
    refine q_end (by walk_at "ev" <;> rfl) ?_
    rw [endF_rt, if_neg h, if_neg h, fdiv_pos hgi, fdiv_pos hgi]
/-- a fraction, its parts of less than 31 bits -/
structure Sm (a b : Int) : Prop where
  a1 : -1000000000 < a
  a2 : a < 1000000000
  b1 : -1000000000 < b
  b2 : b < 1000000000
theorem m_add_eq (a b c d : Int) (h1 : Sm a b) (h2 : Sm c d) (hb : b * d ≠ 0) (hs : (b * d).natAbs < 1073741824) : m_add [.tup [.int a, .int b], .tup [.int c, .int d]] = pure (ratD (a * d + c * b) (b * d)) := by
  obtain ⟨x1, x2, x3, x4⟩ := h1
  obtain ⟨y1, y2, y3, y4⟩ := h2
  have e := m_ratio_eq (a * d + c * b) (b * d) hb hs
  unfold m_add
  rw [bodyF_2]
  show (F_add [some (.tup [.int a, .int b]), some (.tup [.int c, .int d])] >>= endF) = _
  unfold F_add
  refine q_end (d := ratD (a * d + c * b) (b * d)) (by walk_at "ev" <;> rfl) ?_
  rw [endF_rt]
theorem m_subtract_eq (a b c d : Int) (h1 : Sm a b) (h2 : Sm c d) (hb : b * d ≠ 0) (hs : (b * d).natAbs < 1073741824) : m_subtract [.tup [.int a, .int b], .tup [.int c, .int d]] = pure (ratD (a * d - c * b) (b * d)) := by
  obtain ⟨x1, x2, x3, x4⟩ := h1
  obtain ⟨y1, y2, y3, y4⟩ := h2
  have e := m_ratio_eq (a * d - c * b) (b * d) hb hs
  unfold m_subtract
  rw [bodyF_2]
  show (F_subtract [some (.tup [.int a, .int b]), some (.tup [.int c, .int d])] >>= endF) = _
  unfold F_subtract
  refine q_end (d := ratD (a * d - c * b) (b * d)) (by walk_at "ev" <;> rfl) ?_
  rw [endF_rt]
theorem m_multiply_eq (a b c d : Int) (h1 : Sm a b) (h2 : Sm c d) (hb : b * d ≠ 0) (hs : (b * d).natAbs < 1073741824) : m_multiply [.tup [.int a, .int b], .tup [.int c, .int d]] = pure (ratD (a * c) (b * d)) := by
  obtain ⟨x1, x2, x3, x4⟩ := h1
  obtain ⟨y1, y2, y3, y4⟩ := h2
  have e := m_ratio_eq (a * c) (b * d) hb hs
  unfold m_multiply
  rw [bodyF_2]
  show (F_multiply [some (.tup [.int a, .int b]), some (.tup [.int c, .int d])] >>= endF) = _
  unfold F_multiply
  refine q_end (d := ratD (a * c) (b * d)) (by walk_at "ev" <;> rfl) ?_
  rw [endF_rt]
theorem m_divide_eq (a b c d : Int) (h1 : Sm a b) (h2 : Sm c d) (hb : b * c ≠ 0) (hs : (b * c).natAbs < 1073741824) : m_divide [.tup [.int a, .int b], .tup [.int c, .int d]] = pure (ratD (a * d) (b * c)) := by
  obtain ⟨x1, x2, x3, x4⟩ := h1
  obtain ⟨y1, y2, y3, y4⟩ := h2
  have e := m_ratio_eq (a * d) (b * c) hb hs
  unfold m_divide
  rw [bodyF_2]
  show (F_divide [some (.tup [.int a, .int b]), some (.tup [.int c, .int d])] >>= endF) = _
  unfold F_divide
  refine q_end (d := ratD (a * d) (b * c)) (by walk_at "ev" <;> rfl) ?_
  rw [endF_rt]
theorem m_less_eq (a b c d : Int) (h1 : Sm a b) (h2 : Sm c d) : m_less [.tup [.int a, .int b], .tup [.int c, .int d]] = pure (.bl (decide (a * d < c * b))) := by
  obtain ⟨x1, x2, x3, x4⟩ := h1
  obtain ⟨y1, y2, y3, y4⟩ := h2
  unfold m_less
  rw [bodyF_2]
  show (F_less [some (.tup [.int a, .int b]), some (.tup [.int c, .int d])] >>= endF) = _
  unfold F_less
  refine q_end (d := .bl (decide (a * d < c * b))) (by walk_at "ev" <;> rfl) ?_
  rw [endF_rt]
theorem m_floor_of_eq (a b : Int) (hb : 0 < b) (hs : b < 1073741824) : m_floor_of [.tup [.int a, .int b]] = pure (.int (a / b)) := by
  have e := fdiv_pos (a := a) hb
  unfold m_floor_of
  rw [bodyF_1]
  show (F_floor_of [some (.tup [.int a, .int b])] >>= endF) = _
  unfold F_floor_of
  refine q_end (d := .int (a / b)) (by walk_at "ev" <;> rfl) ?_
  rw [endF_rt]
theorem m_ceiling_of_eq (a b : Int) (hb : 0 < b) (hs : b < 1073741824) : m_ceiling_of [.tup [.int a, .int b]] = pure (.int (-(-a / b))) := by
  have e := fdiv_pos (a := -a) hb
  unfold m_ceiling_of
  rw [bodyF_1]
  show (F_ceiling_of [some (.tup [.int a, .int b])] >>= endF) = _
  unfold F_ceiling_of
  refine q_end (d := .int (-(-a / b))) (by walk_at "ev" <;> rfl) ?_
  rw [endF_rt]
theorem m_is_ratio_eq (a b : Int) : m_is_ratio [.tup [.int a, .int b]] = pure (.bl (decide (1 ≤ b ∧ Nat.gcd a.natAbs b.natAbs = 1))) := by
  unfold m_is_ratio
  rw [bodyF_1]
  show (F_is_ratio [some (.tup [.int a, .int b]), none] >>= endF) = _
  unfold F_is_ratio
  refine q_seq (δ1 := [some (.tup [.int a, .int b]), none]) (by walk_at "ev" <;> rfl) ?_
  refine q_for (ds := [.int a, .int b]) (by walk_at "ev" <;> rfl) ?_
  have loop : forL (.nm 1) (sIf (tOrF (tT (eIsi "bool" (eVar 1))) (tNotF (tT (eIsi "int" (eVar 1))))) (sRet (eC (.bl false))) sNil) [.int a, .int b] [some (.tup [.int a, .int b]), none] = pure (.nx, [some (.tup [.int a, .int b]), some (.int b)]) := rfl
  rw [loop, pb]
  show (sRet _ [some (.tup [.int a, .int b]), some (.int b)] >>= endF) = _
  by_cases h1 : 1 ≤ b
  · have e1 : decide (((Nat.gcd a.natAbs b.natAbs : Nat) : Int) = 1) = decide (1 ≤ b ∧ Nat.gcd a.natAbs b.natAbs = 1) := by
      refine decide_eq_decide.mpr ⟨fun z => ⟨h1, by omega⟩, fun z => by omega⟩
    refine q_end (d := .bl (decide (1 ≤ b ∧ Nat.gcd a.natAbs b.natAbs = 1))) (by walk_at "ev" <;> rfl) ?_
    rw [endF_rt]
  · refine q_end (d := .bl false) (by walk_at "ev" <;> rfl) ?_
    rw [endF_rt, decide_eq_false (show ¬ (1 ≤ b ∧ Nat.gcd a.natAbs b.natAbs = 1) from fun z => h1 z.1)]
end Sh

namespace K80
open PySem PySem.Spec L2 Fc

abbrev F_flag_at := @Sh.F_flag_at
abbrev m_flag_at := @Sh.m_flag_at
def F_wait_of : F1 :=
    (sSeq (sAsg (.tp [(.nm 1), (.nm 2)]) (eVar 0))
    (sSeq (sIf (tB (eBin dEq (eCall dSum (aCons (eVar 2) aNil)) (eC (.int 0)))) (sRet (eC .non)) sNil)
    (sSeq (sAsg (.nm 3) (eC (.int 0)))
    (sSeq (sAsg (.nm 4) (eC (.int 0)))
    (sSeq (sFor (.nm 5) (itCall dRange1 (aCons (eBin dAdd (eCall dLen (aCons (eVar 1) aNil)) (eBin dMul (eC (.int 2)) (eCall dLen (aCons (eVar 2) aNil)))) aNil)) (sSeq (sAsg (.nm 4) (eIf (tB (eBin dEq (eDef m_flag_at (aCons (eVar 0) (aCons (eVar 5) aNil))) (eC (.int 1)))) (eC (.int 0)) (eBin dAdd (eVar 4) (eC (.int 1)))))
      (sAsg (.nm 3) (eCall dMax2 (aCons (eVar 3) (aCons (eVar 4) aNil))))))
    (sRet (eVar 3)))))))
def m_wait_of : List D → M D := bodyF 1 6 F_wait_of
def F_spans : F1 :=
    (sSeq (sAsg (.nm 3) (eLst aNil))
    (sSeq (sFor (.nm 4) (itCall dRange2 (aCons (eVar 1) (aCons (eBin dAdd (eVar 2) (eC (.int 1))) aNil))) (sSeq (sIf (tB (eBin dEq (eDef m_flag_at (aCons (eVar 0) (aCons (eVar 4) aNil))) (eC (.int 0)))) sCt sNil)
      (sIf (tAndF (tT (eVar 3)) (tB (eBin dEq (eBin dIx (eBin dIx (eVar 3) (eUn dNeg (eC (.int 1)))) (eC (.int 1))) (eBin dSub (eVar 4) (eC (.int 1)))))) (sSetIx 3 (eTup (aCons (eBin dIx (eBin dIx (eVar 3) (eUn dNeg (eC (.int 1)))) (eC (.int 0))) (aCons (eVar 4) aNil))) (eUn dNeg (eC (.int 1)))) (sApp 3 (eTup (aCons (eVar 4) (aCons (eVar 4) aNil)))))))
    (sRet (eVar 3))))
def m_spans : List D → M D := bodyF 3 5 F_spans
abbrev F_least_turn := @Sh.F_least_turn
abbrev m_least_turn := @Sh.m_least_turn
abbrev F_calendar_of := @Sh.F_calendar_of
abbrev m_calendar_of := @Sh.m_calendar_of
def F__law_calendar : F1 :=
    (sSeq (sAsg (.nm 1) (eCall dTuple (aCons (eLc [2] (.nm 2) (itCall dRange1 (aCons (eDef nextF (aCons (eVar 0) (aCons (eC (.int 5)) aNil))) aNil)) tYesF (eDef nextF (aCons (eVar 0) (aCons (eC (.int 2)) aNil)))) aNil)))
    (sRet (eDef m_calendar_of (aCons (eVar 1) (aCons (eCall dTuple (aCons (eLc [2] (.nm 2) (itCall dRange1 (aCons (eBin dAdd (eC (.int 1)) (eDef nextF (aCons (eVar 0) (aCons (eC (.int 4)) aNil)))) aNil)) tYesF (eDef nextF (aCons (eVar 0) (aCons (eC (.int 2)) aNil)))) aNil)) aNil)))))
def m__law_calendar : List D → M D := bodyF 1 3 F__law_calendar
def F_common_turn : F1 :=
    (sSeq (sAsg (.nm 1) (eC (.int 1)))
    (sSeq (sFor (.tp [(.nm 2), (.nm 3)]) (itSeq (eVar 0)) (sAsg (.nm 1) (eCall dLcm (aCons (eVar 1) (aCons (eCall dLen (aCons (eVar 3) aNil)) aNil)))))
    (sRet (eVar 1))))
def m_common_turn : List D → M D := bodyF 1 4 F_common_turn
def F_some_flag : F1 :=
    (sRet (eBin dIn (eC (.int 1)) (eVar 0)))
def m_some_flag : List D → M D := bodyF 1 1 F_some_flag
def F_all_flags : F1 :=
    (sRet (eBin dNotIn (eC (.int 0)) (eVar 0)))
def m_all_flags : List D → M D := bodyF 1 1 F_all_flags
def F_only_first : F1 :=
    (sRet (eAndV (eBin dEq (eBin dIx (eVar 0) (eC (.int 0))) (eC (.int 1))) (eBin dEq (eBin dIx (eVar 0) (eC (.int 1))) (eC (.int 0)))))
def m_only_first : List D → M D := bodyF 1 1 F_only_first
def F_told_by : F1 :=
    (sSeq (sAsg (.nm 2) (eCall dMax1 (aCons (eLc [6, 7] (.tp [(.nm 6), (.nm 7)]) (itSeq (eVar 0)) tYesF (eCall dLen (aCons (eVar 6) aNil))) aNil)))
    (sSeq (sAsg (.nm 3) (eDef m_common_turn (aCons (eVar 0) aNil)))
    (sSeq (sAsg (.nm 4) (eLst aNil))
    (sSeq (sFor (.nm 5) (itCall dRange1 (aCons (eBin dAdd (eVar 2) (eVar 3)) aNil)) (sApp 4 (eIf (tT (eDyn (tbC "some_flag" m_some_flag (tbC "all_flags" m_all_flags (tbC "only_first" m_only_first tbN))) 1 (aCons (eLc [8] (.nm 8) (itSeq (eVar 0)) tYesF (eDef m_flag_at (aCons (eVar 8) (aCons (eVar 5) aNil)))) aNil))) (eC (.int 1)) (eC (.int 0)))))
    (sRet (eDef m_calendar_of (aCons (eCall dTuple (aCons (eSl (eVar 4) oNone (oSome (eVar 2))) aNil)) (aCons (eCall dTuple (aCons (eSl (eVar 4) (oSome (eVar 2)) oNone) aNil)) aNil))))))))
def m_told_by : List D → M D := bodyF 2 9 F_told_by
def F_meet : F1 :=
    (sRet (eDef m_told_by (aCons (eLst (aCons (eVar 0) (aCons (eVar 1) aNil))) (aCons (eFn "all_flags") aNil))))
def m_meet : List D → M D := bodyF 2 2 F_meet
def F_join : F1 :=
    (sRet (eDef m_told_by (aCons (eLst (aCons (eVar 0) (aCons (eVar 1) aNil))) (aCons (eFn "some_flag") aNil))))
def m_join : List D → M D := bodyF 2 2 F_join
def F_without : F1 :=
    (sRet (eDef m_told_by (aCons (eLst (aCons (eVar 0) (aCons (eVar 1) aNil))) (aCons (eFn "only_first") aNil))))
def m_without : List D → M D := bodyF 2 2 F_without
def F_ones_before : F1 :=
    (sSeq (sAsg (.tp [(.nm 2), (.nm 3)]) (eVar 0))
    (sSeq (sIf (tB (eBin dLe (eVar 1) (eCall dLen (aCons (eVar 2) aNil)))) (sRet (eCall dSum (aCons (eSl (eVar 2) oNone (oSome (eVar 1))) aNil))) sNil)
    (sSeq (sAsg (.tp [(.nm 4), (.nm 5)]) (eCall dDivmod (aCons (eBin dSub (eVar 1) (eCall dLen (aCons (eVar 2) aNil))) (aCons (eCall dLen (aCons (eVar 3) aNil)) aNil))))
    (sRet (eBin dAdd (eBin dAdd (eCall dSum (aCons (eVar 2) aNil)) (eBin dMul (eVar 4) (eCall dSum (aCons (eVar 3) aNil)))) (eCall dSum (aCons (eSl (eVar 3) oNone (oSome (eVar 5))) aNil)))))))
def m_ones_before : List D → M D := bodyF 2 6 F_ones_before
def F_count_between : F1 :=
    (sSeq (sIf (tB (eBin dLt (eVar 2) (eVar 1))) (sRet (eC (.int 0))) sNil)
    (sRet (eBin dSub (eDef m_ones_before (aCons (eVar 0) (aCons (eBin dAdd (eVar 2) (eC (.int 1))) aNil))) (eDef m_ones_before (aCons (eVar 0) (aCons (eVar 1) aNil))))))
def m_count_between : List D → M D := bodyF 3 3 F_count_between
def F__law_low : F1 :=
    (sSeq (sIf (tB (eBin dLt (eVar 1) (eC (.int 0)))) (sPar 0 1 (aCons (eBin dSub (eC (.int 0)) (eVar 0)) (aCons (eBin dSub (eC (.int 0)) (eVar 1)) aNil))) sNil)
    (sSeq (sPar 2 3 (aCons (eCall dAbs (aCons (eVar 0) aNil)) (aCons (eVar 1) aNil)))
    (sSeq (whileL 100000 (tB (eBin dGt (eVar 3) (eC (.int 0)))) (sPar 2 3 (aCons (eVar 3) (aCons (eBin dMod (eVar 2) (eVar 3)) aNil))))
    (sRet (eTup (aCons (eBin dDiv (eVar 0) (eVar 2)) (aCons (eBin dDiv (eVar 1) (eVar 2)) aNil)))))))
def m__law_low : List D → M D := bodyF 2 4 F__law_low
def F__law_add : F1 :=
    (sRet (eDef m__law_low (aCons (eBin dAdd (eBin dMul (eBin dIx (eVar 0) (eC (.int 0))) (eBin dIx (eVar 1) (eC (.int 1)))) (eBin dMul (eBin dIx (eVar 1) (eC (.int 0))) (eBin dIx (eVar 0) (eC (.int 1))))) (aCons (eBin dMul (eBin dIx (eVar 0) (eC (.int 1))) (eBin dIx (eVar 1) (eC (.int 1)))) aNil))))
def m__law_add : List D → M D := bodyF 2 2 F__law_add
def F_first_from : F1 :=
    (sSeq (sAsg (.tp [(.nm 2), (.nm 3)]) (eVar 0))
    (sSeq (sFor (.nm 4) (itCall dRange2 (aCons (eVar 1) (aCons (eBin dAdd (eCall dMax2 (aCons (eVar 1) (aCons (eCall dLen (aCons (eVar 2) aNil)) aNil))) (eCall dLen (aCons (eVar 3) aNil))) aNil))) (sIf (tB (eBin dEq (eDef m_flag_at (aCons (eVar 0) (aCons (eVar 4) aNil))) (eC (.int 1)))) (sRet (eVar 4)) sNil))
    (sRet (eC .non))))
def m_first_from : List D → M D := bodyF 2 5 F_first_from
abbrev F_holds := @Sh.F_holds
abbrev m_holds := @Sh.m_holds
abbrev F__law_same := @Sh.F__law_same
abbrev r__law_same := @Sh.r__law_same
abbrev m__law_same := @Sh.m__law_same
abbrev F_ratio := @Sh.F_ratio
abbrev m_ratio := @Sh.m_ratio
def F_share_of : F1 :=
    (sSeq (sAsg (.tp [(.nm 1), (.nm 2)]) (eVar 0))
    (sRet (eDef m_ratio (aCons (eCall dSum (aCons (eVar 2) aNil)) (aCons (eCall dLen (aCons (eVar 2) aNil)) aNil)))))
def m_share_of : List D → M D := bodyF 1 3 F_share_of
def F_at_least : F1 :=
    (sSeq (sAsg (.nm 2) (eCall dMax1 (aCons (eLc [6, 7] (.tp [(.nm 6), (.nm 7)]) (itSeq (eVar 0)) tYesF (eCall dLen (aCons (eVar 6) aNil))) aNil)))
    (sSeq (sAsg (.nm 3) (eDef m_common_turn (aCons (eVar 0) aNil)))
    (sSeq (sAsg (.nm 4) (eLst aNil))
    (sSeq (sFor (.nm 5) (itCall dRange1 (aCons (eBin dAdd (eVar 2) (eVar 3)) aNil)) (sApp 4 (eIf (tB (eBin dGe (eCall dSum (aCons (eLc [8] (.nm 8) (itSeq (eVar 0)) tYesF (eDef m_flag_at (aCons (eVar 8) (aCons (eVar 5) aNil)))) aNil)) (eVar 1))) (eC (.int 1)) (eC (.int 0)))))
    (sRet (eDef m_calendar_of (aCons (eCall dTuple (aCons (eSl (eVar 4) oNone (oSome (eVar 2))) aNil)) (aCons (eCall dTuple (aCons (eSl (eVar 4) (oSome (eVar 2)) oNone) aNil)) aNil))))))))
def m_at_least : List D → M D := bodyF 2 9 F_at_least
def F_shifted : F1 :=
    (sSeq (sAsg (.tp [(.nm 2), (.nm 3)]) (eVar 0))
    (sSeq (sIf (tB (eBin dGe (eVar 1) (eC (.int 0)))) (sRet (eDef m_calendar_of (aCons (eBin dAdd (eBin dMul (eTup (aCons (eC (.int 0)) aNil)) (eVar 1)) (eVar 2)) (aCons (eVar 3) aNil)))) sNil)
    (sSeq (sAsg (.nm 4) (eUn dNeg (eVar 1)))
    (sSeq (sIf (tB (eBin dLe (eVar 4) (eCall dLen (aCons (eVar 2) aNil)))) (sRet (eDef m_calendar_of (aCons (eSl (eVar 2) (oSome (eVar 4)) oNone) (aCons (eVar 3) aNil)))) sNil)
    (sSeq (sAsg (.nm 5) (eBin dMod (eBin dSub (eVar 4) (eCall dLen (aCons (eVar 2) aNil))) (eCall dLen (aCons (eVar 3) aNil))))
    (sRet (eDef m_calendar_of (aCons (eTup aNil) (aCons (eBin dAdd (eSl (eVar 3) (oSome (eVar 5)) oNone) (eSl (eVar 3) oNone (oSome (eVar 5)))) aNil)))))))))
def m_shifted : List D → M D := bodyF 2 6 F_shifted
def F_full_turns : F1 :=
    (sRet (eBin dDiv (eVar 0) (eCall dSum (aCons (eVar 1) aNil))))
def m_full_turns : List D → M D := bodyF 2 2 F_full_turns
def F_nth : F1 :=
    (sSeq (sAsg (.tp [(.nm 2), (.nm 3)]) (eVar 0))
    (sSeq (sAsg (.nm 4) (eC (.int 0)))
    (sSeq (sIf (tB (eBin dGe (eVar 1) (eCall dSum (aCons (eVar 2) aNil)))) (sSeq (sIf (tB (eBin dEq (eCall dSum (aCons (eVar 3) aNil)) (eC (.int 0)))) (sRet (eC .non)) sNil)
      (sAsg (.nm 4) (eBin dAdd (eCall dLen (aCons (eVar 2) aNil)) (eBin dMul (eDef m_full_turns (aCons (eBin dSub (eVar 1) (eCall dSum (aCons (eVar 2) aNil))) (aCons (eVar 3) aNil))) (eCall dLen (aCons (eVar 3) aNil)))))) sNil)
    (sSeq (sAsg (.nm 5) (eBin dSub (eVar 1) (eDef m_ones_before (aCons (eVar 0) (aCons (eVar 4) aNil)))))
    (sSeq (sAsg (.nm 6) (eDef m_first_from (aCons (eVar 0) (aCons (eVar 4) aNil))))
    (sSeq (whileL 100000 (tB (eBin dGt (eVar 5) (eC (.int 0)))) (sSeq (sAsg (.nm 6) (eDef m_first_from (aCons (eVar 0) (aCons (eBin dAdd (eVar 6) (eC (.int 1))) aNil))))
      (sAsg (.nm 5) (eBin dSub (eVar 5) (eC (.int 1))))))
    (sRet (eVar 6))))))))
def m_nth : List D → M D := bodyF 2 7 F_nth
def F_law : F1 :=
    (sSeq (sPar3 2 3 4 (aCons (eDef m__law_calendar (aCons (eVar 1) aNil)) (aCons (eDef m__law_calendar (aCons (eVar 1) aNil)) (aCons (eDef m__law_calendar (aCons (eVar 1) aNil)) aNil))))
    (sSeq (sPar3 5 6 7 (aCons (eDef m_meet (aCons (eVar 2) (aCons (eVar 3) aNil))) (aCons (eDef m_join (aCons (eVar 2) (aCons (eVar 3) aNil))) (aCons (eDef m_without (aCons (eVar 2) (aCons (eVar 3) aNil))) aNil))))
    (sSeq (sAsg (.nm 8) (eDef nextF (aCons (eVar 1) (aCons (eC (.int 12)) aNil))))
    (sSeq (sAsg (.nm 9) (eBin dAdd (eVar 8) (eDef nextF (aCons (eVar 1) (aCons (eC (.int 50)) aNil)))))
    (sSeq (sFor (.nm 10) (itCall dRange2 (aCons (eVar 8) (aCons (eBin dAdd (eVar 9) (eC (.int 1))) aNil))) (sSeq (sPar3 11 12 13 (aCons (eDef m_holds (aCons (eVar 2) (aCons (eVar 10) aNil))) (aCons (eDef m_holds (aCons (eVar 3) (aCons (eVar 10) aNil))) (aCons (eDef m_holds (aCons (eVar 4) (aCons (eVar 10) aNil))) aNil))))
      (sSeq (sIf (tOrF (tB (eBin dNe (eDef m_holds (aCons (eVar 5) (aCons (eVar 10) aNil))) (eAndV (eVar 11) (eVar 12)))) (tOrF (tB (eBin dNe (eDef m_holds (aCons (eVar 6) (aCons (eVar 10) aNil))) (eOrV (eVar 11) (eVar 12)))) (tB (eBin dNe (eDef m_holds (aCons (eVar 7) (aCons (eVar 10) aNil))) (eAndV (eVar 11) (eNotT (eVar 12))))))) (sRet (eC (.bl false))) sNil)
      (sIf (tB (eBin dNe (eDef m_holds (aCons (eDef m_at_least (aCons (eLst (aCons (eVar 2) (aCons (eVar 3) (aCons (eVar 4) aNil)))) (aCons (eC (.int 2)) aNil))) (aCons (eVar 10) aNil))) (eBin dGe (eBin dCount (eLst (aCons (eVar 11) (aCons (eVar 12) (aCons (eVar 13) aNil)))) (eC (.bl true))) (eC (.int 2))))) (sRet (eC (.bl false))) sNil))))
    (sSeq (sAsg (.nm 14) (eLc [18] (.nm 18) (itSeq (eTup (aCons (eVar 2) (aCons (eVar 3) (aCons (eVar 5) (aCons (eVar 6) (aCons (eVar 7) aNil))))))) tYesF (eDef m_count_between (aCons (eVar 18) (aCons (eVar 8) (aCons (eVar 9) aNil))))))
    (sSeq (sIf (tOrF (tB (eBin dNe (eBin dAdd (eBin dIx (eVar 14) (eC (.int 2))) (eBin dIx (eVar 14) (eC (.int 3)))) (eBin dAdd (eBin dIx (eVar 14) (eC (.int 0))) (eBin dIx (eVar 14) (eC (.int 1)))))) (tB (eBin dNe (eBin dAdd (eBin dIx (eVar 14) (eC (.int 4))) (eBin dIx (eVar 14) (eC (.int 2)))) (eBin dIx (eVar 14) (eC (.int 0)))))) (sRet (eC (.bl false))) sNil)
    (sSeq (sIf (tOrF (tNotF (tT (eDef m__law_same (aCons (eDef m_join (aCons (eVar 5) (aCons (eVar 7) aNil))) (aCons (eVar 2) aNil))))) (tOrF (tNotF (tT (eDef m__law_same (aCons (eDef m_meet (aCons (eVar 2) (aCons (eDef m_join (aCons (eVar 3) (aCons (eVar 4) aNil))) aNil))) (aCons (eDef m_join (aCons (eVar 5) (aCons (eDef m_meet (aCons (eVar 2) (aCons (eVar 4) aNil))) aNil))) aNil))))) (tNotF (tT (eDef m__law_same (aCons (eDef m_without (aCons (eVar 2) (aCons (eDef m_without (aCons (eVar 2) (aCons (eVar 3) aNil))) aNil))) (aCons (eVar 5) aNil))))))) (sRet (eC (.bl false))) sNil)
    (sSeq (sAsg (.nm 15) (eDef nextF (aCons (eVar 1) (aCons (eC (.int 9)) aNil))))
    (sSeq (sIf (tOrF (tB (eBin dNe (eDef m_count_between (aCons (eDef m_shifted (aCons (eVar 2) (aCons (eVar 15) aNil))) (aCons (eBin dAdd (eVar 8) (eVar 15)) (aCons (eBin dAdd (eVar 9) (eVar 15)) aNil)))) (eBin dIx (eVar 14) (eC (.int 0))))) (tNotF (tT (eDef m__law_same (aCons (eDef m_join (aCons (eDef m_shifted (aCons (eVar 2) (aCons (eVar 15) aNil))) (aCons (eDef m_shifted (aCons (eVar 3) (aCons (eVar 15) aNil))) aNil))) (aCons (eDef m_shifted (aCons (eVar 6) (aCons (eVar 15) aNil))) aNil)))))) (sRet (eC (.bl false))) sNil)
    (sSeq (sIf (tB (eBin dNe (eDef m__law_add (aCons (eDef m_share_of (aCons (eVar 5) aNil)) (aCons (eDef m_share_of (aCons (eVar 6) aNil)) aNil))) (eDef m__law_add (aCons (eDef m_share_of (aCons (eVar 2) aNil)) (aCons (eDef m_share_of (aCons (eVar 3) aNil)) aNil))))) (sRet (eC (.bl false))) sNil)
    (sSeq (sAsg (.nm 16) (eDef m_wait_of (aCons (eVar 2) aNil)))
    (sSeq (sIf (tOrF (tB (eBin dNe (eBin dIs (eVar 16) (eC .non)) (eBin dEq (eDef m_share_of (aCons (eVar 2) aNil)) (eTup (aCons (eC (.int 0)) (aCons (eC (.int 1)) aNil)))))) (tAndF (tB (eBin dIsNot (eVar 16) (eC .non))) (tB (eBin dLt (eDef m_count_between (aCons (eVar 2) (aCons (eVar 8) (aCons (eBin dAdd (eVar 8) (eVar 16)) aNil)))) (eC (.int 1)))))) (sRet (eC (.bl false))) sNil)
    (sSeq (sAsg (.nm 17) (eDef m_spans (aCons (eVar 2) (aCons (eVar 8) (aCons (eVar 9) aNil)))))
    (sSeq (sIf (tB (eBin dNe (eCall dSum (aCons (eLc [19, 20] (.tp [(.nm 19), (.nm 20)]) (itSeq (eVar 17)) tYesF (eBin dAdd (eBin dSub (eVar 20) (eVar 19)) (eC (.int 1)))) aNil)) (eBin dIx (eVar 14) (eC (.int 0))))) (sRet (eC (.bl false))) sNil)
    (sSeq (sIf (tB (eBin dGt (eBin dIx (eVar 14) (eC (.int 0))) (eC (.int 0)))) (sSeq (sAsg (.nm 10) (eDef m_first_from (aCons (eVar 2) (aCons (eVar 8) aNil))))
      (sIf (tOrF (tNotF (tB (eChain dLe dLe (eVar 8) (eVar 10) (eVar 9)))) (tOrF (tB (eBin dNe (eDef m_nth (aCons (eVar 2) (aCons (eBin dSub (eDef m_count_between (aCons (eVar 2) (aCons (eC (.int 0)) (aCons (eVar 10) aNil)))) (eC (.int 1))) aNil))) (eVar 10))) (tB (eBin dNe (eBin dIx (eBin dIx (eVar 17) (eC (.int 0))) (eC (.int 0))) (eVar 10))))) (sRet (eC (.bl false))) sNil)) sNil)
    (sRet (eC (.bl true)))))))))))))))))))
end K80

namespace K80
open PySem L2 Fc Sh
local macro_rules | `(tactic| walk_at "ev") => `(tactic| simp (disch := omega) only [List.map_cons, List.map_nil, List.length_cons, List.length_nil, List.replicate, List.cons_append, List.nil_append,
  sIf, Fc.tB, tT, tAndF, tOrF, tNotF, eBin, eUn, eVar_zero, eVar_succ, eC, pb, asB, asI, liftO_pure, sPar, aCons, aNil, sAsg, eCall, eDef, setT, setTs, sRet, sNil, eTup, eLst, eIf, eIsi, eIsi2, isTy2, eNotT, eAndV, eOrV, eChain, eSl, oNone, oSome, sBk, sCt, itCall, itSeq, dItems,
  dAdd_int, dAdd_tup, dMul_tup, dRange1_ok, dRange2_ok, dSub, dDiv_ok, dMod_ok, dMul_okL, dMul_okR, len_ok, dLt, dLe, dGt, dGe, dEq_int, dNe_int, dNeg, dLen, dAbs, dInt, dGcd, dMax2_eq, dMin2, dSum_tup, dSum_lst, dLcm_ok, dDivmod_ok, dTuple, dList, dTru, dIs_non, dIsNot_non, dIs_bl, dIsNot_bl, isNon_int, isNon_bl, isNon_str, isNon_tup, isNon_lst, isNon_non, dEq_bl, dNe_bl, dIx_tup, dIx_lst, at0, at1, at2, dSl,
  isTy_int_non, isTy_int_bl, isTy_int_int, isTy_int_str, isTy_int_tup, isTy_int_lst, isTy_bool_non, isTy_bool_bl, isTy_bool_int, isTy_bool_str, isTy_bool_tup, isTy_bool_lst, isTy_tuple_non, isTy_tuple_bl, isTy_tuple_int, isTy_tuple_str, isTy_tuple_tup, isTy_tuple_lst, isTy_list_non, isTy_list_bl, isTy_list_int, isTy_list_str, isTy_list_tup, isTy_list_lst, isTy_str_non, isTy_str_bl, isTy_str_int, isTy_str_str, isTy_str_tup, isTy_str_lst,
  opt_bind_some, opt_map_some, Bool.or_true, Bool.true_or, Bool.or_false, Bool.false_or, Bool.not_true, Bool.not_false, Bool.and_true, Bool.true_and,
  decide_true, decide_false, if_tt, if_ff, if_T, if_F, set_zero, set_succ, endF_rt, endF_nx, decide_eq_true, decide_eq_false, *])
/-! ### calendars told by a rule -/
def cals (l : List (List Int × List Int)) : List D := l.map fun p => calD p.1 p.2
def comm (l : List (List Int × List Int)) : Nat := l.foldl (fun a p => Nat.lcm a p.2.length) 1
theorem comm_dvd : ∀ (l : List (List Int × List Int)) (a : Nat), a ∣ 12 → (∀ p ∈ l, p.2.length ∣ 12) → l.foldl (fun a p => Nat.lcm a p.2.length) a ∣ 12 ∧ a ∣ l.foldl (fun a p => Nat.lcm a p.2.length) a ∧ ∀ p ∈ l, p.2.length ∣ l.foldl (fun a p => Nat.lcm a p.2.length) a
  | [], a, h, _ => ⟨h, Nat.dvd_refl _, fun p hp => by cases hp⟩
  | q :: l, a, h, k => by
    obtain ⟨h1, h2, h3⟩ := comm_dvd l (Nat.lcm a q.2.length) (Nat.lcm_dvd h (k q List.mem_cons_self)) fun p hp => k p (List.mem_cons_of_mem _ hp)
    refine ⟨h1, Nat.dvd_trans (Nat.dvd_lcm_left _ _) h2, fun p hp => ?_⟩
    rcases List.mem_cons.mp hp with rfl | hp
    · exact Nat.dvd_trans (Nat.dvd_lcm_right _ _) h2
    · exact h3 p hp
theorem m_common_turn_eq (l : List (List Int × List Int)) (hl : l.length ≤ 1000) (h : ∀ p ∈ l, p.2.length ∣ 12) : m_common_turn [.lst (cals l)] = pure (.int (comm l : Nat)) := by
  unfold m_common_turn
  rw [bodyF_1]
  show (F_common_turn [some (.lst (cals l)), none, none, none] >>= endF) = _
  unfold F_common_turn
  refine q_seq (δ1 := [some (.lst (cals l)), some (.int ((1 : Nat) : Int)), none, none]) (by walk_at "ev" <;> rfl) ?_
  refine q_for (ds := cals l) (by walk_at "ev" <;> rfl) ?_
  obtain ⟨δ', e, x, y, rfl, hd⟩ := forL_fold (T := .tp [.nm 2, .nm 3]) (F := sAsg (.nm 1) (eCall dLcm (aCons (eVar 1) (aCons (eCall dLen (aCons (eVar 3) aNil)) aNil))))
    (fun (s : Nat) δ => ∃ x y, δ = [some (.lst (cals l)), some (.int (s : Nat)), x, y] ∧ s ∣ 12) (fun s d => match d with | .tup [_, .tup t] => Nat.lcm s t.length | _ => s) (ds := cals l) (s := 1) (δ := [some (.lst (cals l)), some (.int ((1 : Nat) : Int)), none, none]) ⟨none, none, rfl, by decide⟩ fun d hd s δ hδ => by
    obtain ⟨x, y, rfl, hs⟩ := hδ
    obtain ⟨p, hp, rfl⟩ := List.mem_map.mp hd
    have h1 := Nat.le_of_dvd (by decide) hs
    have h2 := h p hp
    have h3 := Nat.le_of_dvd (by decide) h2
    have hz : (zl p.2).length = p.2.length := ints_len _
    refine ⟨[some (.lst (cals l)), some (.int (s : Nat)), some (.tup (zl p.1)), some (.tup (zl p.2))], [some (.lst (cals l)), some (.int (Nat.lcm s p.2.length : Nat)), some (.tup (zl p.1)), some (.tup (zl p.2))], rfl, .inl ?_, ?_⟩
    · have e : dLcm [.int (s : Nat), .int (p.2.length : Nat)] = some (.int (Nat.lcm s p.2.length : Nat)) := by
        rw [dLcm_ok (by omega) (by omega) (by omega) (by omega)]
        rfl
      walk_at "ev"
    · refine ⟨some (.tup (zl p.1)), some (.tup (zl p.2)), ?_, ?_⟩
      · show _ = ([some (.lst (cals l)), some (.int ((Nat.lcm s (zl p.2).length : Nat) : Int)), some (.tup (zl p.1)), some (.tup (zl p.2))] : Fc.Env)
        rw [hz]
      · show Nat.lcm s (zl p.2).length ∣ 12
        rw [hz]
        exact Nat.lcm_dvd hs h2
  have e2 : (cals l).foldl (fun s d => match d with | .tup [_, .tup t] => Nat.lcm s t.length | _ => s) 1 = comm l := by
    unfold cals comm
    rw [List.foldl_map]
    congr 1
    funext a p
    show Nat.lcm a (zl p.2).length = _
    rw [ints_len]
  rw [e, pb, e2]
  clear e e2
  show (sRet (eVar 1) _ >>= endF) = _
  refine q_end (d := .int (comm l : Nat)) (by walk_at "ev" <;> rfl) ?_
  rw [endF_rt]
/-- told_by and at_least, by their test -/
def F_gen (t : Fc.Env → M Bool) : F1 :=
    (sSeq (sAsg (.nm 2) (eCall dMax1 (aCons (eLc [6, 7] (.tp [(.nm 6), (.nm 7)]) (itSeq (eVar 0)) tYesF (eCall dLen (aCons (eVar 6) aNil))) aNil)))
    (sSeq (sAsg (.nm 3) (eDef m_common_turn (aCons (eVar 0) aNil)))
    (sSeq (sAsg (.nm 4) (eLst aNil))
    (sSeq (sFor (.nm 5) (itCall dRange1 (aCons (eBin dAdd (eVar 2) (eVar 3)) aNil)) (sApp 4 (eIf t (eC (.int 1)) (eC (.int 0)))))
    (sRet (eDef m_calendar_of (aCons (eCall dTuple (aCons (eSl (eVar 4) oNone (oSome (eVar 2))) aNil)) (aCons (eCall dTuple (aCons (eSl (eVar 4) (oSome (eVar 2)) oNone) aNil)) aNil))))))))
def bits (b : Nat → Bool) (i : Nat) : Int := if b i = true then 1 else 0
theorem told_gen (t : Fc.Env → M Bool) (l : List (List Int × List Int)) (r : D) (b : Nat → Bool) (s : Nat) (hl0 : l.length ≤ 1000) (hc : ∀ p ∈ l, p.2.length ∣ 12) (hp : 0 < comm l) (hs : (l.map fun p => (p.1.length : Int)).max? = some (s : Int)) (hs2 : s ≤ 100)
    (ht : ∀ (i : Nat) (fl : List D) (x6 x7 x8 : Option D), t [some (.lst (cals l)), some r, some (.int (s : Nat)), some (.int (comm l : Nat)), some (.lst fl), some (.int (i : Nat)), x6, x7, x8] = pure (b i)) :
    (F_gen t [some (.lst (cals l)), some r, none, none, none, none, none, none, none] >>= endF) = pure (calD (Cal.calOf ((List.range s).map (bits b)) ((List.range (comm l)).map fun j => bits b (s + j))).1 (Cal.calOf ((List.range s).map (bits b)) ((List.range (comm l)).map fun j => bits b (s + j))).2) := by
  have h12 := Nat.le_of_dvd (by decide) (comm_dvd l 1 (by decide) hc).1
  have h12' : comm l ≤ 12 := h12
  have ec := m_common_turn_eq l hl0 hc
  unfold F_gen
  have comp : lcL (.tp [.nm 6, .nm 7]) tYesF (eCall dLen (aCons (eVar 6) aNil)) [some (.lst (cals l)), some r, none, none, none, none, none, none, none] (cals l) = pure (zl (l.map fun p => (p.1.length : Int))) := by
    rw [lcL_map (fun d => match d with | .tup [.tup h, _] => .int h.length | _ => .non) fun d hd => ?_]
    · refine pure_inj ?_
      unfold cals zl
      rw [List.map_map, List.map_map]
      refine List.map_congr_left fun p _ => ?_
      show D.int ((zl p.1).length : Nat) = D.int (p.1.length : Nat)
      rw [ints_len]
    · obtain ⟨p, hp, rfl⟩ := List.mem_map.mp hd
      exact ⟨[some (.lst (cals l)), some r, none, none, none, none, some (.tup (zl p.1)), some (.tup (zl p.2)), none], rfl, rfl⟩
  have e0 : eLc [6, 7] (.tp [.nm 6, .nm 7]) (itSeq (eVar 0)) tYesF (eCall dLen (aCons (eVar 6) aNil)) [some (.lst (cals l)), some r, none, none, none, none, none, none, none] = pure (.lst (zl (l.map fun p => (p.1.length : Int)))) :=
    eLc_eq (ds := cals l) (by walk_at "ev" <;> rfl) (by unfold cals; rw [List.length_map]; omega) comp
  have e1 := dMax1_zl hs
  refine q_seq (δ1 := [some (.lst (cals l)), some r, some (.int (s : Nat)), none, none, none, none, none, none]) (by walk_at "ev" <;> rfl) ?_
  refine q_seq (δ1 := [some (.lst (cals l)), some r, some (.int (s : Nat)), some (.int (comm l : Nat)), none, none, none, none, none]) (by walk_at "ev" <;> rfl) ?_
  refine q_seq (δ1 := [some (.lst (cals l)), some r, some (.int (s : Nat)), some (.int (comm l : Nat)), some (.lst []), none, none, none, none]) (by walk_at "ev" <;> rfl) ?_
  have et : ((s : Int) + (comm l : Nat)).toNat = s + comm l := by omega
  refine q_for (ds := rangeD 0 (s + comm l)) (by
    clear hs e0 e1 ec comp
    walk_at "ev") ?_
  obtain ⟨δ', e, x, rfl⟩ := forL_rng (T := .nm 5) (F := sApp 4 (eIf t (eC (.int 1)) (eC (.int 0))))
    (fun n δ => ∃ x, δ = [some (.lst (cals l)), some r, some (.int (s : Nat)), some (.int (comm l : Nat)), some (.lst (zl ((List.range n).map (bits b)))), x, none, none, none]) (lo := 0) (n := s + comm l) (δ := [some (.lst (cals l)), some r, some (.int (s : Nat)), some (.int (comm l : Nat)), some (.lst []), none, none, none, none]) ⟨none, rfl⟩ fun i δ hi hδ => by
    obtain ⟨x, rfl⟩ := hδ
    have hz : (0 : Int) + i = (i : Nat) := by omega
    rw [hz]
    refine ⟨[some (.lst (cals l)), some r, some (.int (s : Nat)), some (.int (comm l : Nat)), some (.lst (zl ((List.range i).map (bits b)))), some (.int (i : Nat)), none, none, none], [some (.lst (cals l)), some r, some (.int (s : Nat)), some (.int (comm l : Nat)), some (.lst (zl ((List.range (i + 1)).map (bits b)))), some (.int (i : Nat)), none, none, none], rfl, .inl ?_, _, rfl⟩
    have q := ht i (zl ((List.range i).map (bits b))) none none none
    have q2 : eIf t (eC (.int 1)) (eC (.int 0)) [some (.lst (cals l)), some r, some (.int (s : Nat)), some (.int (comm l : Nat)), some (.lst (zl ((List.range i).map (bits b)))), some (.int (i : Nat)), none, none, none] = pure (.int (bits b i)) := by
      show (t _ >>= fun k => if k = true then _ else _) = _
      rw [q, pb]
      unfold bits
      split <;> rfl
    have q3 : chg 4 (opApp (.int (bits b i))) [some (.lst (cals l)), some r, some (.int (s : Nat)), some (.int (comm l : Nat)), some (.lst (zl ((List.range i).map (bits b)))), some (.int (i : Nat)), none, none, none] = some [some (.lst (cals l)), some r, some (.int (s : Nat)), some (.int (comm l : Nat)), some (.lst (zl ((List.range (i + 1)).map (bits b)))), some (.int (i : Nat)), none, none, none] := by
      show (opApp (.int (bits b i)) (zl ((List.range i).map (bits b)))).map (fun ds' => _) = _
      unfold opApp
      rw [if_pos (by
        rw [ints_len, List.length_map, List.length_range]
        show i < 100000
        omega), opt_map_some, List.range_succ, List.map_append, ← ints_app]
      rfl
    show (eIf t (eC (.int 1)) (eC (.int 0)) _ >>= fun d => liftO (chg 4 (opApp d) _) >>= fun δ' => pure (Out.nx, δ')) = _
    rw [q2, pb, q3, liftO_pure, pb]
  rw [e, pb]
  have hlen : (zl ((List.range (s + comm l)).map (bits b))).length = s + comm l := by rw [ints_len, List.length_map, List.length_range]
  have c1 : cutD (zl ((List.range (s + comm l)).map (bits b))) none (some (s : Nat)) = zl ((List.range s).map (bits b)) := by
    rw [ints_cut, cut_take _ (by omega), ← List.map_take, List.take_range]
    have : min ((s : Nat) : Int).toNat (s + comm l) = s := by omega
    rw [this]
  have c2 : cutD (zl ((List.range (s + comm l)).map (bits b))) (some (s : Nat)) none = zl ((List.range (comm l)).map fun j => bits b (s + j)) := by
    rw [ints_cut, cut_drop _ (by omega), List.range_add, List.map_append]
    have : ((s : Nat) : Int).toNat = s := by omega
    rw [this, List.drop_append_of_le_length (by rw [List.length_map, List.length_range]; omega), List.drop_of_length_le (by rw [List.length_map, List.length_range]; omega), List.nil_append, List.map_map]
    rfl
  have e9 := m_calendar_of_eq ((List.range s).map (bits b)) ((List.range (comm l)).map fun j => bits b (s + j)) (by
    intro z
    have := congrArg List.length z
    rw [List.length_map, List.length_range] at this
    have h0 : ([] : List Int).length = 0 := rfl
    omega) (by rw [List.length_map, List.length_range]; omega) (by rw [List.length_map, List.length_range]; omega)
  clear hs e0 e1 ec comp e et
  show (sRet _ _ >>= endF) = _
  refine q_end (d := calD (Cal.calOf ((List.range s).map (bits b)) ((List.range (comm l)).map fun j => bits b (s + j))).1 (Cal.calOf ((List.range s).map (bits b)) ((List.range (comm l)).map fun j => bits b (s + j))).2) (by
    walk_at "ev" <;> rfl) ?_
  rw [endF_rt]
/-- the flags of a time -/
theorem flags_eq (l : List (List Int × List Int)) (hl : l.length ≤ 1000) (hne : ∀ p ∈ l, p.2 ≠ []) (δ : Fc.Env) (i : Nat) (h0 : δ[0]? = some (some (.lst (cals l)))) (h8 : 8 < δ.length) (h5 : δ[5]? = some (some (.int (i : Nat)))) (h8' : δ.length = 9) :
    eLc [8] (.nm 8) (itSeq (eVar 0)) tYesF (eDef m_flag_at (aCons (eVar 8) (aCons (eVar 5) aNil))) δ = pure (.lst (zl (l.map fun p => Cal.val p.1 p.2 i))) := by
  obtain ⟨a0, a1, a2, a3, a4, a5, a6, a7, a8, rfl⟩ : ∃ a0 a1 a2 a3 a4 a5 a6 a7 a8, δ = [a0, a1, a2, a3, a4, a5, a6, a7, a8] := by
    match δ, h8' with
    | [a0, a1, a2, a3, a4, a5, a6, a7, a8], _ => exact ⟨_, _, _, _, _, _, _, _, _, rfl⟩
  cases h0
  cases h5
  refine eLc_eq (ds := cals l) (by walk_at "ev" <;> rfl) (by unfold cals; rw [List.length_map]; omega) ?_
  show lcL _ _ _ [some (.lst (cals l)), a1, a2, a3, a4, some (.int (i : Nat)), a6, a7, none] (cals l) = _
  rw [lcL_map (fun d => match d with | .tup [.tup h, .tup t] => .int (Cal.val (h.map fun x => match x with | .int k => k | _ => 0) (t.map fun x => match x with | .int k => k | _ => 0) i) | _ => .non) fun d hd => ?_]
  · refine pure_inj ?_
    unfold cals zl
    rw [List.map_map, List.map_map]
    refine List.map_congr_left fun p _ => ?_
    show D.int (Cal.val ((zl p.1).map _) ((zl p.2).map _) i) = D.int (Cal.val p.1 p.2 i)
    have e : ∀ l : List Int, ((zl l).map fun x => match x with | .int k => k | _ => 0) = l := fun l => by
      unfold zl
      rw [List.map_map]
      exact List.map_id' _
    rw [e, e]
  · obtain ⟨p, hp, rfl⟩ := List.mem_map.mp hd
    refine ⟨[some (.lst (cals l)), a1, a2, a3, a4, some (.int (i : Nat)), a6, a7, some (calD p.1 p.2)], rfl, ?_⟩
    have e := m_flag_at_eq p.1 p.2 (i : Nat) (hne p hp) (by omega)
    have e2 : ((i : Nat) : Int).toNat = i := by omega
    rw [e2] at e
    show (eDef m_flag_at _ _) = pure (D.int (Cal.val ((zl p.1).map _) ((zl p.2).map _) i))
    have e3 : ∀ l : List Int, ((zl l).map fun x => match x with | .int k => k | _ => 0) = l := fun l => by
      unfold zl
      rw [List.map_map]
      exact List.map_id' _
    rw [e3, e3]
    clear e2
    walk_at "ev"
end K80

namespace K80
open PySem L2 Fc Sh
local macro_rules | `(tactic| walk_at "ev") => `(tactic| simp (disch := omega) only [List.map_cons, List.map_nil, List.length_cons, List.length_nil, List.replicate, List.cons_append, List.nil_append,
  sIf, Fc.tB, tT, tAndF, tOrF, tNotF, eBin, eUn, eVar_zero, eVar_succ, eC, pb, asB, asI, liftO_pure, sPar, aCons, aNil, sAsg, eCall, eDef, setT, setTs, sRet, sNil, eTup, eLst, eIf, eIsi, eIsi2, isTy2, eNotT, eAndV, eOrV, eChain, eSl, oNone, oSome, sBk, sCt, itCall, itSeq, dItems,
  dAdd_int, dAdd_tup, dMul_tup, dRange1_ok, dRange2_ok, dSub, dDiv_ok, dMod_ok, dMul_okL, dMul_okR, len_ok, dLt, dLe, dGt, dGe, dEq_int, dNe_int, dNeg, dLen, dAbs, dInt, dGcd, dMax2_eq, dMin2, dSum_tup, dSum_lst, dLcm_ok, dDivmod_ok, dTuple, dList, dTru, dIs_non, dIsNot_non, dIs_bl, dIsNot_bl, isNon_int, isNon_bl, isNon_str, isNon_tup, isNon_lst, isNon_non, dEq_bl, dNe_bl, dIx_tup, dIx_lst, at0, at1, at2, dSl,
  isTy_int_non, isTy_int_bl, isTy_int_int, isTy_int_str, isTy_int_tup, isTy_int_lst, isTy_bool_non, isTy_bool_bl, isTy_bool_int, isTy_bool_str, isTy_bool_tup, isTy_bool_lst, isTy_tuple_non, isTy_tuple_bl, isTy_tuple_int, isTy_tuple_str, isTy_tuple_tup, isTy_tuple_lst, isTy_list_non, isTy_list_bl, isTy_list_int, isTy_list_str, isTy_list_tup, isTy_list_lst, isTy_str_non, isTy_str_bl, isTy_str_int, isTy_str_str, isTy_str_tup, isTy_str_lst,
  opt_bind_some, opt_map_some, Bool.or_true, Bool.true_or, Bool.or_false, Bool.false_or, Bool.not_true, Bool.not_false, Bool.and_true, Bool.true_and,
  decide_true, decide_false, if_tt, if_ff, if_T, if_F, set_zero, set_succ, endF_rt, endF_nx, decide_eq_true, decide_eq_false, *])
/-! ### the rules -/
theorem some_flag_eq (a b : Int) : m_some_flag [.lst (zl [a, b])] = pure (.bl (decide (a = 1) || decide (b = 1))) := by
  show (pure (D.bl (inV (.int 1) [.int a, .int b])) : M D) = _
  refine pure_inj ?_
  show D.bl ((a == 1) || ((b == 1) || false)) = _
  rw [Bool.or_false, Bool.beq_eq_decide_eq, Bool.beq_eq_decide_eq]
theorem all_flags_eq (a b : Int) : m_all_flags [.lst (zl [a, b])] = pure (.bl (!(decide (a = 0) || decide (b = 0)))) := by
  show (pure (D.bl (!inV (.int 0) [.int a, .int b])) : M D) = _
  refine pure_inj ?_
  show D.bl (!((a == 0) || ((b == 0) || false))) = _
  rw [Bool.or_false, Bool.beq_eq_decide_eq, Bool.beq_eq_decide_eq]
theorem only_first_eq (a b : Int) : m_only_first [.lst (zl [a, b])] = pure (.bl (decide (a = 1) && decide (b = 0))) := by
  unfold m_only_first
  rw [bodyF_1]
  show (F_only_first [some (.lst [.int a, .int b])] >>= endF) = _
  unfold F_only_first
  by_cases h : a = 1
  · rw [decide_eq_true h, Bool.true_and]
    refine q_end (d := .bl (decide (b = 0))) (by walk_at "ev" <;> rfl) ?_
    rfl
  · rw [decide_eq_false h, Bool.false_and]
    refine q_end (d := .bl false) (by walk_at "ev" <;> rfl) ?_
    rfl
abbrev tb : Str → Option (List D → M D) := tbC "some_flag" m_some_flag (tbC "all_flags" m_all_flags (tbC "only_first" m_only_first tbN))
theorem tb_some : tb "some_flag" = some m_some_flag := if_pos rfl
theorem tb_all : tb "all_flags" = some m_all_flags := by
  unfold tb tbC
  rw [if_neg (by decide), if_pos rfl]
theorem tb_only : tb "only_first" = some m_only_first := by
  unfold tb tbC
  rw [if_neg (by decide), if_neg (by decide), if_pos rfl]
section
variable {h t h' t' h'' t'' : List Int} {g g' g'' : Nat → Int}
theorem bits_01 (b : Nat → Bool) (i : Nat) : bits b i = 0 ∨ bits b i = 1 := by
  unfold bits
  split
  · exact .inr rfl
  · exact .inl rfl
/-- the pair that told_by builds -/
theorem told_cl {l : List (List Int × List Int)} (b : Nat → Bool) {s : Nat} (hs : s ≤ 20) (hp : 0 < comm l) (hd : ∀ p ∈ l, p.2.length ∣ 12) (per : ∀ i, s ≤ i → b (i + comm l) = b i) :
    Cal.Cl (Cal.calOf ((List.range s).map (bits b)) ((List.range (comm l)).map fun j => bits b (s + j))).1 (Cal.calOf ((List.range s).map (bits b)) ((List.range (comm l)).map fun j => bits b (s + j))).2 (bits b) ∧ (Cal.calOf ((List.range s).map (bits b)) ((List.range (comm l)).map fun j => bits b (s + j))).1.length ≤ s := by
  have ne : ((List.range (comm l)).map fun j => bits b (s + j)) ≠ [] := by
    intro z
    have := congrArg List.length z
    rw [List.length_map, List.length_range] at this
    have h0 : ([] : List Int).length = 0 := rfl
    omega
  have e1 : ((List.range (comm l)).map fun j => bits b (s + j)).length = comm l := by rw [List.length_map, List.length_range]
  have e2 : ((List.range s).map (bits b)).length = s := by rw [List.length_map, List.length_range]
  refine ⟨Cal.Cl.of ne (by rw [e1]; exact (comm_dvd l 1 (by decide) hd).1) (by rw [e2]; exact hs) (Cal.val_of hp fun i hi => ?_) (bits_01 b), ?_⟩
  · unfold bits
    rw [per i hi]
  · have := (Cal.cal_lens (h := (List.range s).map (bits b)) ne).1
    rw [e2] at this
    exact this
theorem max2I (a b : Nat) : [((a : Nat) : Int), (b : Nat)].max? = some ((max a b : Nat) : Int) := by
  show some (max ((a : Nat) : Int) (b : Nat)) = _
  congr 1
  omega
theorem max3I (a b c : Nat) : [((a : Nat) : Int), (b : Nat), (c : Nat)].max? = some ((max (max a b) c : Nat) : Int) := by
  show some (max (max ((a : Nat) : Int) (b : Nat)) (c : Nat)) = _
  congr 1
  omega
theorem lcm_pos' {a b : Nat} (ha : 0 < a) (hb : 0 < b) : 0 < Nat.lcm a b := Nat.lcm_pos ha hb
theorem m_told_eq {x : Str} {F : List D → M D} (hx : tb x = some F) (rule : Int → Int → Bool) (hF : ∀ a b, F [.lst (zl [a, b])] = pure (.bl (rule a b))) (A : Cal.Cl h t g) (B : Cal.Cl h' t' g') :
    ∃ H T, m_told_by [.lst [calD h t, calD h' t'], .fn x] = pure (calD H T) ∧ Cal.Cl H T (bits fun i => rule (g i) (g' i)) ∧ H.length ≤ max h.length h'.length := by
  have hd : ∀ p ∈ [(h, t), (h', t')], p.2.length ∣ 12 := fun p hp => by
    rcases List.mem_cons.mp hp with rfl | hp
    · exact A.dv
    · obtain rfl := List.mem_singleton.mp hp
      exact B.dv
  have hne : ∀ p ∈ [(h, t), (h', t')], p.2 ≠ [] := fun p hp => by
    rcases List.mem_cons.mp hp with rfl | hp
    · exact A.ne
    · obtain rfl := List.mem_singleton.mp hp
      exact B.ne
  have hp : 0 < comm [(h, t), (h', t')] := lcm_pos' (lcm_pos' (by decide) A.pos) B.pos
  obtain ⟨_, _, dvs⟩ := comm_dvd [(h, t), (h', t')] 1 (by decide) hd
  have l1 := A.hl
  have l2 := B.hl
  obtain ⟨c1, c2⟩ := told_cl (l := [(h, t), (h', t')]) (fun i => rule (g i) (g' i)) (s := max h.length h'.length) (by omega) hp hd fun i hi => by
    have p1 := A.perD (i := i) (by omega) (dvs (h, t) List.mem_cons_self)
    have p2 := B.perD (i := i) (by omega) (dvs (h', t') (List.mem_cons_of_mem _ List.mem_cons_self))
    show rule (g (i + _)) (g' (i + _)) = _
    rw [show g (i + comm [(h, t), (h', t')]) = g i from p1, show g' (i + comm [(h, t), (h', t')]) = g' i from p2]
  refine ⟨_, _, ?_, c1, c2⟩
  unfold m_told_by
  rw [bodyF_2]
  refine told_gen (tT (eDyn tb 1 (aCons (eLc [8] (.nm 8) (itSeq (eVar 0)) tYesF (eDef m_flag_at (aCons (eVar 8) (aCons (eVar 5) aNil)))) aNil))) [(h, t), (h', t')] (.fn x) _ _ (by simp) hd hp (max2I _ _) (by omega) fun i fl x6 x7 x8 => ?_
  have e1 := flags_eq [(h, t), (h', t')] (by simp) hne [some (.lst (cals [(h, t), (h', t')])), some (.fn x), some (.int ((max h.length h'.length : Nat) : Int)), some (.int (comm [(h, t), (h', t')] : Nat)), some (.lst fl), some (.int (i : Nat)), x6, x7, x8] i rfl (by simp) rfl rfl
  have e2 : eDyn tb 1 (aCons (eLc [8] (.nm 8) (itSeq (eVar 0)) tYesF (eDef m_flag_at (aCons (eVar 8) (aCons (eVar 5) aNil)))) aNil) [some (.lst (cals [(h, t), (h', t')])), some (.fn x), some (.int ((max h.length h'.length : Nat) : Int)), some (.int (comm [(h, t), (h', t')] : Nat)), some (.lst fl), some (.int (i : Nat)), x6, x7, x8] = pure (.bl (rule (g i) (g' i))) := by
    show (match tb x with | some F => aCons _ aNil _ >>= F | none => fail) = _
    rw [hx]
    show (eLc _ _ _ _ _ _ >>= fun y => aNil _ >>= fun ys => pure (y :: ys)) >>= F = _
    rw [e1, pb]
    show F [.lst (zl [Cal.val h t i, Cal.val h' t' i])] = _
    rw [hF, A.v, B.v]
  show (eDyn _ _ _ _ >>= fun x => liftO (dTru x)) = _
  rw [e2]
  rfl
theorem m_join_eq (A : Cal.Cl h t g) (B : Cal.Cl h' t' g') : ∃ H T, m_join [calD h t, calD h' t'] = pure (calD H T) ∧ Cal.Cl H T (bits fun i => decide (g i = 1) || decide (g' i = 1)) ∧ H.length ≤ max h.length h'.length := by
  obtain ⟨H, T, e, c⟩ := m_told_eq tb_some (fun a b => decide (a = 1) || decide (b = 1)) some_flag_eq A B
  refine ⟨H, T, ?_, c⟩
  show (m_told_by [.lst [calD h t, calD h' t'], .fn "some_flag"] >>= fun d => pure (Out.rt d, _)) >>= endF = _
  rw [e]
  rfl
theorem m_meet_eq (A : Cal.Cl h t g) (B : Cal.Cl h' t' g') : ∃ H T, m_meet [calD h t, calD h' t'] = pure (calD H T) ∧ Cal.Cl H T (bits fun i => !(decide (g i = 0) || decide (g' i = 0))) ∧ H.length ≤ max h.length h'.length := by
  obtain ⟨H, T, e, c⟩ := m_told_eq tb_all (fun a b => !(decide (a = 0) || decide (b = 0))) all_flags_eq A B
  refine ⟨H, T, ?_, c⟩
  show (m_told_by [.lst [calD h t, calD h' t'], .fn "all_flags"] >>= fun d => pure (Out.rt d, _)) >>= endF = _
  rw [e]
  rfl
theorem m_without_eq (A : Cal.Cl h t g) (B : Cal.Cl h' t' g') : ∃ H T, m_without [calD h t, calD h' t'] = pure (calD H T) ∧ Cal.Cl H T (bits fun i => decide (g i = 1) && decide (g' i = 0)) ∧ H.length ≤ max h.length h'.length := by
  obtain ⟨H, T, e, c⟩ := m_told_eq tb_only (fun a b => decide (a = 1) && decide (b = 0)) only_first_eq A B
  refine ⟨H, T, ?_, c⟩
  show (m_told_by [.lst [calD h t, calD h' t'], .fn "only_first"] >>= fun d => pure (Out.rt d, _)) >>= endF = _
  rw [e]
  rfl
theorem m_at_least_eq (A : Cal.Cl h t g) (B : Cal.Cl h' t' g') (C : Cal.Cl h'' t'' g'') (k : Int) : ∃ H T, m_at_least [.lst [calD h t, calD h' t', calD h'' t''], .int k] = pure (calD H T) ∧ Cal.Cl H T (bits fun i => decide (k ≤ g i + g' i + g'' i)) := by
  have hd : ∀ p ∈ [(h, t), (h', t'), (h'', t'')], p.2.length ∣ 12 := fun p hp => by
    rcases List.mem_cons.mp hp with rfl | hp
    · exact A.dv
    · rcases List.mem_cons.mp hp with rfl | hp
      · exact B.dv
      · obtain rfl := List.mem_singleton.mp hp
        exact C.dv
  have hne : ∀ p ∈ [(h, t), (h', t'), (h'', t'')], p.2 ≠ [] := fun p hp => by
    rcases List.mem_cons.mp hp with rfl | hp
    · exact A.ne
    · rcases List.mem_cons.mp hp with rfl | hp
      · exact B.ne
      · obtain rfl := List.mem_singleton.mp hp
        exact C.ne
  have hp : 0 < comm [(h, t), (h', t'), (h'', t'')] := lcm_pos' (lcm_pos' (lcm_pos' (by decide) A.pos) B.pos) C.pos
  obtain ⟨_, _, dvs⟩ := comm_dvd [(h, t), (h', t'), (h'', t'')] 1 (by decide) hd
  have l1 := A.hl
  have l2 := B.hl
  have l3 := C.hl
  obtain ⟨c1, c2⟩ := told_cl (l := [(h, t), (h', t'), (h'', t'')]) (fun i => decide (k ≤ g i + g' i + g'' i)) (s := max (max h.length h'.length) h''.length) (by omega) hp hd fun i hi => by
    have p1 := A.perD (i := i) (by omega) (dvs (h, t) List.mem_cons_self)
    have p2 := B.perD (i := i) (by omega) (dvs (h', t') (List.mem_cons_of_mem _ List.mem_cons_self))
    have p3 := C.perD (i := i) (by omega) (dvs (h'', t'') (List.mem_cons_of_mem _ (List.mem_cons_of_mem _ List.mem_cons_self)))
    show decide (k ≤ g (i + _) + g' (i + _) + g'' (i + _)) = _
    rw [show g (i + comm [(h, t), (h', t'), (h'', t'')]) = g i from p1, show g' (i + comm [(h, t), (h', t'), (h'', t'')]) = g' i from p2, show g'' (i + comm [(h, t), (h', t'), (h'', t'')]) = g'' i from p3]
  refine ⟨_, _, ?_, c1⟩
  unfold m_at_least
  rw [bodyF_2]
  refine told_gen (Fc.tB (eBin dGe (eCall dSum (aCons (eLc [8] (.nm 8) (itSeq (eVar 0)) tYesF (eDef m_flag_at (aCons (eVar 8) (aCons (eVar 5) aNil)))) aNil)) (eVar 1))) [(h, t), (h', t'), (h'', t'')] (.int k) _ _ (by simp) hd hp (max3I _ _ _) (by omega) fun i fl x6 x7 x8 => ?_
  have e1 := flags_eq [(h, t), (h', t'), (h'', t'')] (by simp) hne [some (.lst (cals [(h, t), (h', t'), (h'', t'')])), some (.int k), some (.int ((max (max h.length h'.length) h''.length : Nat) : Int)), some (.int (comm [(h, t), (h', t'), (h'', t'')] : Nat)), some (.lst fl), some (.int (i : Nat)), x6, x7, x8] i rfl (by simp) rfl rfl
  have e2 : dSum [.lst (zl ([(h, t), (h', t'), (h'', t'')].map fun p => Cal.val p.1 p.2 i))] = some (.int (g i + g' i + g'' i)) := by
    rw [dSum_lst]
    congr 2
    show Cal.val h t i + (Cal.val h' t' i + (Cal.val h'' t'' i + 0)) = _
    rw [A.v, B.v, C.v]
    omega
  show (((aCons (eLc _ _ _ _ _) aNil _ >>= fun xs => liftO (dSum xs)) >>= fun x => eVar 1 _ >>= fun y => liftO (dGe x y)) >>= fun x => liftO (asB x)) = _
  show ((((eLc _ _ _ _ _ _ >>= fun y => aNil _ >>= fun ys => pure (y :: ys)) >>= fun xs => liftO (dSum xs)) >>= fun x => eVar 1 _ >>= fun y => liftO (dGe x y)) >>= fun x => liftO (asB x)) = _
  rw [e1, pb]
  show ((liftO (dSum [.lst (zl ([(h, t), (h', t'), (h'', t'')].map fun p => Cal.val p.1 p.2 i))]) >>= fun x => eVar 1 _ >>= fun y => liftO (dGe x y)) >>= fun x => liftO (asB x)) = _
  rw [e2]
  rfl
end
end K80

namespace K80
open PySem L2 Fc Sh
local macro_rules | `(tactic| walk_at "ev") => `(tactic| simp (disch := omega) only [List.map_cons, List.map_nil, List.length_cons, List.length_nil, List.replicate, List.cons_append, List.nil_append,
  sIf, Fc.tB, tT, tAndF, tOrF, tNotF, eBin, eUn, eVar_zero, eVar_succ, eC, pb, asB, asI, liftO_pure, sPar, aCons, aNil, sAsg, eCall, eDef, setT, setTs, sRet, sNil, eTup, eLst, eIf, eIsi, eIsi2, isTy2, eNotT, eAndV, eOrV, eChain, eSl, oNone, oSome, sBk, sCt, itCall, itSeq, dItems,
  dAdd_int, dAdd_tup, dMul_tup, dRange1_ok, dRange2_ok, dSub, dDiv_ok, dMod_ok, dMul_okL, dMul_okR, len_ok, dLt, dLe, dGt, dGe, dEq_int, dNe_int, dNeg, dLen, dAbs, dInt, dGcd, dMax2_eq, dMin2, dSum_tup, dSum_lst, dLcm_ok, dDivmod_ok, dTuple, dList, dTru, dIs_non, dIsNot_non, dIs_bl, dIsNot_bl, isNon_int, isNon_bl, isNon_str, isNon_tup, isNon_lst, isNon_non, dEq_bl, dNe_bl, dIx_tup, dIx_lst, at0, at1, at2, dSl,
  isTy_int_non, isTy_int_bl, isTy_int_int, isTy_int_str, isTy_int_tup, isTy_int_lst, isTy_bool_non, isTy_bool_bl, isTy_bool_int, isTy_bool_str, isTy_bool_tup, isTy_bool_lst, isTy_tuple_non, isTy_tuple_bl, isTy_tuple_int, isTy_tuple_str, isTy_tuple_tup, isTy_tuple_lst, isTy_list_non, isTy_list_bl, isTy_list_int, isTy_list_str, isTy_list_tup, isTy_list_lst, isTy_str_non, isTy_str_bl, isTy_str_int, isTy_str_str, isTy_str_tup, isTy_str_lst,
  opt_bind_some, opt_map_some, Bool.or_true, Bool.true_or, Bool.or_false, Bool.false_or, Bool.not_true, Bool.not_false, Bool.and_true, Bool.true_and,
  decide_true, decide_false, if_tt, if_ff, if_T, if_F, set_zero, set_succ, endF_rt, endF_nx, decide_eq_true, decide_eq_false, *])
theorem fin1 (zh zt zr : List D) (n a b c Q R : Int) (s1 : dSum [.tup zh] = some (.int a)) (s2 : dSum [.tup zt] = some (.int b)) (em : dMul (.int Q) (.int b) = some (.int (Q * b))) :
   eBin dAdd (eCall dSum (aCons (eVar 2) aNil)) (eBin dMul (eVar 4) (eCall dSum (aCons (eVar 3) aNil))) [some (.tup [.tup zh, .tup zt]), some (.int n), some (.tup zh), some (.tup zt), some (.int Q), some (.int R)] = pure (.int (a + Q * b)) := by
  walk_at "ev"
theorem fin2 (zh zt zr : List D) (n a b c Q R : Int) (s3 : dSum [.tup zr] = some (.int c)) (c2 : cutD zt none (some R) = zr) :
   eCall dSum (aCons (eSl (eVar 3) oNone (oSome (eVar 5))) aNil) [some (.tup [.tup zh, .tup zt]), some (.int n), some (.tup zh), some (.tup zt), some (.int Q), some (.int R)] = pure (.int c) := by
  walk_at "ev"
section
variable {h t : List Int} {g : Nat → Int}
/-! ### counts -/
theorem m_ones_before_eq (A : Cal.Cl h t g) (n : Nat) (hn : n ≤ 100000) : m_ones_before [calD h t, .int (n : Nat)] = pure (.int (Cal.S g n)) := by
  have hlen : (zl h).length = h.length := ints_len h
  have tlen : (zl t).length = t.length := ints_len t
  have hp : 0 < (t.length : Int) := by have := A.pos; omega
  have ht := A.le12
  have hl := A.hl
  have eo := A.ones n
  unfold m_ones_before
  rw [bodyF_2]
  show (F_ones_before [some (.tup [.tup (zl h), .tup (zl t)]), some (.int (n : Nat)), none, none, none, none] >>= endF) = _
  unfold F_ones_before
  refine q_seq (δ1 := [some (.tup [.tup (zl h), .tup (zl t)]), some (.int (n : Nat)), some (.tup (zl h)), some (.tup (zl t)), none, none]) (by walk_at "ev" <;> rfl) ?_
  have tn : ((n : Nat) : Int).toNat = n := by omega
  by_cases hk : n ≤ h.length
  · rw [if_pos hk] at eo
    have c1 : cutD (zl h) none (some (n : Nat)) = zl (h.take n) := by
      rw [ints_cut, cut_take _ (by omega), tn]
    rw [eo]
    clear eo tn
    have hk2 : (n : Int) ≤ (h.length : Nat) := by omega
    refine q_ret (d := .int (h.take n).sum) (by walk_at "ev" <;> rfl) ?_
    rw [endF_rt]
  · rw [if_neg hk] at eo
    have hk2 : ¬ (n : Int) ≤ (h.length : Nat) := by omega
    have d1 : ((n : Int) - (h.length : Nat)) / (t.length : Nat) = (((n - h.length) / t.length : Nat) : Int) := by
      have : (n : Int) - (h.length : Nat) = ((n - h.length : Nat) : Int) := by omega
      rw [this, Int.natCast_ediv]
    have d2 : ((n : Int) - (h.length : Nat)) % (t.length : Nat) = (((n - h.length) % t.length : Nat) : Int) := by
      have : (n : Int) - (h.length : Nat) = ((n - h.length : Nat) : Int) := by omega
      rw [this, Int.natCast_emod]
    have hm : (n - h.length) % t.length < t.length := Nat.mod_lt _ A.pos
    have hq : (n - h.length) / t.length ≤ 100000 := Nat.le_trans (Nat.div_le_self _ _) (by omega)
    rw [eo]
    clear eo tn
    generalize (n - h.length) / t.length = q at *
    generalize (n - h.length) % t.length = r at *
    have tr : ((r : Nat) : Int).toNat = r := by omega
    have c2 : cutD (zl t) none (some (r : Nat)) = zl (t.take r) := by
      rw [ints_cut, cut_take _ (by omega), tr]
    clear tr
    refine q_seq (δ1 := [some (.tup [.tup (zl h), .tup (zl t)]), some (.int (n : Nat)), some (.tup (zl h)), some (.tup (zl t)), none, none]) (by walk_at "ev" <;> rfl) ?_
    have edm : eCall dDivmod (aCons (eBin dSub (eVar 1) (eCall dLen (aCons (eVar 2) aNil))) (aCons (eCall dLen (aCons (eVar 3) aNil)) aNil)) [some (.tup [.tup (zl h), .tup (zl t)]), some (.int (n : Nat)), some (.tup (zl h)), some (.tup (zl t)), none, none] = pure (.tup [.int (q : Nat), .int (r : Nat)]) := by walk_at "ev"
    refine q_seq (δ1 := [some (.tup [.tup (zl h), .tup (zl t)]), some (.int (n : Nat)), some (.tup (zl h)), some (.tup (zl t)), some (.int (q : Nat)), some (.int (r : Nat))]) (by
      show (eCall dDivmod _ _ >>= fun d => liftO (setT (.tp [.nm 4, .nm 5]) d _) >>= fun δ' => pure (Out.nx, δ')) = _
      rw [edm, pb]
      rfl) ?_
    clear edm
    have s1 : dSum [.tup (zl h)] = some (.int h.sum) := dSum_tup h
    have s2 : dSum [.tup (zl t)] = some (.int t.sum) := dSum_tup t
    have s3 : dSum [.tup (zl (t.take r))] = some (.int (t.take r).sum) := dSum_tup _
    generalize h.sum = a at *
    generalize (t.take r).sum = c at *
    generalize t.sum = b at *
    have hq0 : (0 : Int) ≤ (q : Nat) := by omega
    have hq1 : ((q : Nat) : Int) ≤ 100000 := by omega
    clear d1 d2
    generalize ((q : Nat) : Int) = Q at *
    have em : dMul (.int Q) (.int b) = some (.int (Q * b)) := dMul_okL (by omega) (by omega)
    generalize zl (t.take r) = zr at *
    generalize zl h = zh at *
    generalize zl t = zt at *
    clear hlen tlen hp
    generalize ((r : Nat) : Int) = R at *
    have k1 := fin1 zh zt zr n a b c Q R s1 s2 em
    have k2 := fin2 zh zt zr n a b c Q R s3 c2
    clear s1 s2 s3 em c2 hq0 hq1 hk2 hk hm
    refine q_end (d := .int (a + Q * b + c)) (δ1 := [some (.tup [.tup zh, .tup zt]), some (.int (n : Nat)), some (.tup zh), some (.tup zt), some (.int Q), some (.int R)]) (by
      show ((eBin dAdd _ _ _ >>= fun x => eCall dSum _ _ >>= fun y => liftO (dAdd x y)) >>= fun d => pure (Out.rt d, _)) = _
      rw [k1, pb, k2, pb]
      rfl) ?_
    rw [endF_rt]
theorem m_count_between_eq (A : Cal.Cl h t g) (a b : Nat) (h1 : a ≤ b) (h2 : b < 100000) : m_count_between [calD h t, .int (a : Nat), .int (b : Nat)] = pure (.int (Cal.S g (b + 1) - Cal.S g a)) := by
  have e1 := m_ones_before_eq A (b + 1) (by omega)
  have e2 := m_ones_before_eq A a (by omega)
  have e3 : ((b + 1 : Nat) : Int) = (b : Nat) + 1 := by omega
  rw [e3] at e1
  unfold m_count_between
  rw [bodyF_3]
  show (F_count_between [some (calD h t), some (.int (a : Nat)), some (.int (b : Nat))] >>= endF) = _
  unfold F_count_between
  clear e3
  refine q_seq (δ1 := [some (calD h t), some (.int (a : Nat)), some (.int (b : Nat))]) (by walk_at "ev" <;> rfl) ?_
  refine q_end (d := .int (Cal.S g (b + 1) - Cal.S g a)) (by walk_at "ev" <;> rfl) ?_
  rw [endF_rt]
theorem m_share_of_eq (A : Cal.Cl h t g) : m_share_of [calD h t] = pure (ratD t.sum (t.length : Nat)) := by
  have tlen : (zl t).length = t.length := ints_len t
  have hp := A.pos
  have ht := A.le12
  have e := m_ratio_eq t.sum (t.length : Nat) (by omega) (by omega)
  unfold m_share_of
  rw [bodyF_1]
  show (F_share_of [some (.tup [.tup (zl h), .tup (zl t)]), none, none] >>= endF) = _
  unfold F_share_of
  refine q_seq (δ1 := [some (.tup [.tup (zl h), .tup (zl t)]), some (.tup (zl h)), some (.tup (zl t))]) (by walk_at "ev" <;> rfl) ?_
  refine q_end (d := ratD t.sum (t.length : Nat)) (by walk_at "ev" <;> rfl) ?_
  rw [endF_rt]
/-! ### moved -/
theorem m_shifted_eq (A : Cal.Cl h t g) (k : Nat) (hk : k + h.length ≤ 20) : ∃ H T, m_shifted [calD h t, .int (k : Nat)] = pure (calD H T) ∧ Cal.Cl H T (fun i => if i < k then 0 else g (i - k)) ∧ H.length ≤ k + h.length := by
  have hd : dMul (.tup [.int 0]) (.int (k : Nat)) = some (.tup (zl (List.replicate k 0))) := by
    rw [dMul_tup (by omega) (by omega) (by simp)]
    have tn : ((k : Nat) : Int).toNat = k := by omega
    have : (List.replicate k [D.int 0]).flatten = zl (List.replicate k 0) := by
      have e := ints_rep [0] k
      have e9 : (List.replicate k [(0 : Int)]).flatten = List.replicate k 0 := by simp
      rw [← e9, ← e]
      rfl
    rw [tn, this]
  have ha : dAdd (.tup (zl (List.replicate k 0))) (.tup (zl h)) = some (.tup (zl (List.replicate k 0 ++ h))) := by
    rw [dAdd_tup (by rw [ints_len, ints_len, List.length_replicate]; omega), ints_app]
  have hl : (List.replicate k 0 ++ h).length = k + h.length := by rw [List.length_append, List.length_replicate]
  have ht := A.le12
  have e := m_calendar_of_eq (List.replicate k 0 ++ h) t A.ne (by rw [hl]; omega) (by omega)
  refine ⟨_, _, ?_, Cal.Cl.of (h := List.replicate k 0 ++ h) A.ne A.dv (by rw [hl]; omega) (fun i => ?_) (fun i => ?_), ?_⟩
  · unfold m_shifted
    rw [bodyF_2]
    show (F_shifted [some (.tup [.tup (zl h), .tup (zl t)]), some (.int (k : Nat)), none, none, none, none] >>= endF) = _
    unfold F_shifted
    clear hl
    refine q_seq (δ1 := [some (.tup [.tup (zl h), .tup (zl t)]), some (.int (k : Nat)), some (.tup (zl h)), some (.tup (zl t)), none, none]) (by walk_at "ev" <;> rfl) ?_
    refine q_ret (d := calD (Cal.calOf (List.replicate k 0 ++ h) t).1 (Cal.calOf (List.replicate k 0 ++ h) t).2) (by walk_at "ev" <;> rfl) ?_
    rw [endF_rt]
  · show (if i < (List.replicate k 0 ++ h).length then (List.replicate k 0 ++ h).getD i 0 else t.getD ((i - (List.replicate k 0 ++ h).length) % t.length) 0) = _
    rw [hl]
    by_cases c1 : i < k
    · rw [if_pos c1, if_pos (by omega), List.getD_eq_getElem?_getD, List.getElem?_append_left (by rw [List.length_replicate]; exact c1), List.getElem?_replicate, if_pos c1]
      rfl
    · rw [if_neg c1]
      by_cases c2 : i < k + h.length
      · rw [if_pos c2, A.hd (by omega), List.getD_eq_getElem?_getD, List.getElem?_append_right (by rw [List.length_replicate]; omega), List.length_replicate, ← List.getD_eq_getElem?_getD]
      · rw [if_neg c2]
        have e1 : i - k = h.length + (i - (k + h.length)) := by omega
        rw [e1, A.tn]
  · split
    · exact .inl rfl
    · exact A.bit _
  · have := (Cal.cal_lens (h := List.replicate k 0 ++ h) A.ne).1
    rw [hl] at this
    exact this
/-! ### the first one -/
theorem m_first_from_eq (A : Cal.Cl h t g) (n i : Nat) (hn : n ≤ 100000) (hi : n ≤ i) (hg : g i = 1) : ∃ j : Nat, m_first_from [calD h t, .int (n : Nat)] = pure (.int (j : Nat)) ∧ n ≤ j ∧ j ≤ i ∧ g j = 1 ∧ ∀ k, n ≤ k → k < j → g k = 0 := by
  have hlen : (zl h).length = h.length := ints_len h
  have tlen : (zl t).length = t.length := ints_len t
  have hl := A.hl
  have ht := A.le12
  obtain ⟨j0, z1, z2, z3, z4⟩ := A.near hi hg
  have loop := forL_find (T := .nm 4) (F := sIf (Fc.tB (eBin dEq (eDef m_flag_at (aCons (eVar 0) (aCons (eVar 4) aNil))) (eC (.int 1)))) (sRet (eVar 4)) sNil)
    (fun δ => ∃ x, δ = [some (calD h t), some (.int (n : Nat)), some (.tup (zl h)), some (.tup (zl t)), x]) (fun d => match d with | .int k => decide (g k.toNat = 1) | _ => false) id (ds := rangeD (n : Nat) (max n h.length + t.length - n)) (δ := [some (calD h t), some (.int (n : Nat)), some (.tup (zl h)), some (.tup (zl t)), none]) ⟨none, rfl⟩ fun d hd δ hδ => by
    obtain ⟨x, rfl⟩ := hδ
    obtain ⟨k, hk, rfl⟩ := range_mem hd
    refine ⟨[some (calD h t), some (.int (n : Nat)), some (.tup (zl h)), some (.tup (zl t)), some (.int ((n : Int) + k))], [some (calD h t), some (.int (n : Nat)), some (.tup (zl h)), some (.tup (zl t)), some (.int ((n : Int) + k))], rfl, ?_⟩
    have e := m_flag_at_eq h t ((n : Int) + k) A.ne (by omega)
    rw [A.v] at e
    show (decide (g ((n : Int) + k).toNat = 1) = true ∧ _) ∨ (decide (g ((n : Int) + k).toNat = 1) = false ∧ _)
    by_cases c : g ((n : Int) + k).toNat = 1
    · refine .inl ⟨decide_eq_true c, ?_⟩
      rw [sIf_t (by
        rw [c] at e
        clear c
        walk_at "ev")]
      rfl
    · refine .inr ⟨decide_eq_false c, ?_, _, rfl⟩
      rw [sIf_f (by walk_at "ev")]
      rfl
  rw [find_range] at loop
  have hP : (fun (i : Nat) => (match D.int ((n : Int) + (i : Nat)) with | .int k => decide (g k.toNat = 1) | _ => false)) = fun i => decide (g (n + i) = 1) := by
    funext i
    show decide (g ((n : Int) + (i : Nat)).toNat = 1) = _
    have : ((n : Int) + (i : Nat)).toNat = n + i := by omega
    rw [this]
  rw [hP] at loop
  have hm : ((max (n : Int) (h.length : Nat)) + (t.length : Nat) - n).toNat = max n h.length + t.length - n := by omega
  have start : (m_first_from [calD h t, .int (n : Nat)]) = (forL (.nm 4) (sIf (Fc.tB (eBin dEq (eDef m_flag_at (aCons (eVar 0) (aCons (eVar 4) aNil))) (eC (.int 1)))) (sRet (eVar 4)) sNil) (rangeD (n : Nat) (max n h.length + t.length - n)) [some (calD h t), some (.int (n : Nat)), some (.tup (zl h)), some (.tup (zl t)), none] >>= fun p => (match p.1 with | .nx => (sRet (eC .non)) p.2 | o => pure (o, p.2)) >>= endF) := by
    unfold m_first_from
    rw [bodyF_2]
    show (F_first_from [some (.tup [.tup (zl h), .tup (zl t)]), some (.int (n : Nat)), none, none, none] >>= endF) = _
    unfold F_first_from
    clear loop hP
    refine q_seq (δ1 := [some (.tup [.tup (zl h), .tup (zl t)]), some (.int (n : Nat)), some (.tup (zl h)), some (.tup (zl t)), none]) (by walk_at "ev" <;> rfl) ?_
    exact q_for (ds := rangeD (n : Nat) (max n h.length + t.length - n)) (by walk_at "ev" <;> rfl) rfl
  rcases loop with ⟨d, δ', h1, h2⟩ | ⟨δ', h1, h2, x, rfl⟩
  · cases hf : (List.range (max n h.length + t.length - n)).find? fun i => decide (g (n + i) = 1) with
    | none => rw [hf] at h1; cases h1
    | some k =>
      rw [hf] at h1
      cases h1
      obtain ⟨f1, f2, f3⟩ := Cal.range_find_some hf
      refine ⟨n + k, ?_, by omega, ?_, by simpa using f1, fun m m1 m2 => ?_⟩
      · rw [start, h2, pb]
        show (pure (D.int ((n : Int) + (k : Nat))) : M D) = _
        refine pure_inj ?_
        congr 1
      · by_cases c : n + k ≤ j0
        · omega
        · have := f3 (j0 - n) (by omega)
          have e : n + (j0 - n) = j0 := by omega
          rw [e, z4] at this
          simp at this
      · have := f3 (m - n) (by omega)
        have e : n + (m - n) = m := by omega
        rw [e] at this
        rcases A.bit m with q | q
        · exact q
        · rw [q] at this
          simp at this
  · cases hf : (List.range (max n h.length + t.length - n)).find? fun i => decide (g (n + i) = 1) with
    | some k => rw [hf] at h1; cases h1
    | none =>
      have := List.find?_eq_none.mp hf (j0 - n) (List.mem_range.mpr (by omega))
      have e : n + (j0 - n) = j0 := by omega
      rw [e, z4] at this
      simp at this
end
end K80

namespace K80
open PySem L2 Fc Sh
local macro_rules | `(tactic| walk_at "ev") => `(tactic| simp (disch := omega) only [List.map_cons, List.map_nil, List.length_cons, List.length_nil, List.replicate, List.cons_append, List.nil_append,
  sIf, Fc.tB, tT, tAndF, tOrF, tNotF, eBin, eUn, eVar_zero, eVar_succ, eC, pb, asB, asI, liftO_pure, sPar, aCons, aNil, sAsg, eCall, eDef, setT, setTs, sRet, sNil, eTup, eLst, eIf, eIsi, eIsi2, isTy2, eNotT, eAndV, eOrV, eChain, eSl, oNone, oSome, sBk, sCt, itCall, itSeq, dItems,
  dAdd_int, dAdd_tup, dMul_tup, dRange1_ok, dRange2_ok, dSub, dDiv_ok, dMod_ok, dMul_okL, dMul_okR, len_ok, dLt, dLe, dGt, dGe, dEq_int, dNe_int, dNeg, dLen, dAbs, dInt, dGcd, dMax2_eq, dMin2, dSum_tup, dSum_lst, dLcm_ok, dDivmod_ok, dTuple, dList, dTru, dIs_non, dIsNot_non, dIs_bl, dIsNot_bl, isNon_int, isNon_bl, isNon_str, isNon_tup, isNon_lst, isNon_non, dEq_bl, dNe_bl, dIx_tup, dIx_lst, at0, at1, at2, dSl,
  isTy_int_non, isTy_int_bl, isTy_int_int, isTy_int_str, isTy_int_tup, isTy_int_lst, isTy_bool_non, isTy_bool_bl, isTy_bool_int, isTy_bool_str, isTy_bool_tup, isTy_bool_lst, isTy_tuple_non, isTy_tuple_bl, isTy_tuple_int, isTy_tuple_str, isTy_tuple_tup, isTy_tuple_lst, isTy_list_non, isTy_list_bl, isTy_list_int, isTy_list_str, isTy_list_tup, isTy_list_lst, isTy_str_non, isTy_str_bl, isTy_str_int, isTy_str_str, isTy_str_tup, isTy_str_lst,
  opt_bind_some, opt_map_some, Bool.or_true, Bool.true_or, Bool.or_false, Bool.false_or, Bool.not_true, Bool.not_false, Bool.and_true, Bool.true_and,
  decide_true, decide_false, if_tt, if_ff, if_T, if_F, set_zero, set_succ, endF_rt, endF_nx, decide_eq_true, decide_eq_false, *])
/-! ### least terms -/
theorem low_loop (N B : D) : ∀ (two one n : Nat), two < n → two < 1000000 → whileL n (Fc.tB (eBin dGt (eVar 3) (eC (.int 0)))) (sPar 2 3 (aCons (eVar 3) (aCons (eBin dMod (eVar 2) (eVar 3)) aNil))) [some N, some B, some (.int (one : Nat)), some (.int (two : Nat))] = pure (.nx, [some N, some B, some (.int (Nat.gcd one two : Nat)), some (.int 0)]) := by
  intro two
  induction two using Nat.strongRecOn with
  | _ two ih =>
    intro one n hn hb
    obtain ⟨n, rfl⟩ : ∃ m, n = m + 1 := ⟨n - 1, by omega⟩
    by_cases h : two = 0
    · subst h
      rw [Nat.gcd_zero_right]
      exact whileL_end rfl
    · have hm : one % two < two := Nat.mod_lt _ (by omega)
      have e := ih (one % two) hm two n (by omega) (by omega)
      have hg : Nat.gcd two (one % two) = Nat.gcd one two := by
        rw [Nat.gcd_comm one two, Nat.gcd_rec two one, Nat.gcd_comm]
      rw [hg] at e
      rw [← e]
      refine whileL_step ?_ ?_
      · have : ((two : Nat) : Int) > 0 := by omega
        walk_at "ev"
      · have f1 : ((one : Nat) : Int).fmod (two : Nat) = ((one % two : Nat) : Int) := by
          rw [fmod_pos (by omega), Int.natCast_emod]
        have f2 : ((two : Nat) : Int) ≠ 0 := by omega
        clear e ih hg hm
        walk_at "ev"
theorem m_law_low_eq (a b : Int) (hb : b ≠ 0) (hs : b.natAbs < 90000) : m__law_low [.int a, .int b] = pure (ratD a b) := by
  have hg : 0 < Nat.gcd a.natAbs b.natAbs := Nat.gcd_pos_of_pos_right _ (by omega)
  have hle : Nat.gcd a.natAbs b.natAbs ≤ b.natAbs := Nat.le_of_dvd (by omega) (Nat.gcd_dvd_right _ _)
  have hgi : 0 < ((Nat.gcd a.natAbs b.natAbs : Nat) : Int) := by omega
  have key : ∀ a' b' : Int, 0 < b' → a'.natAbs = a.natAbs → b'.natAbs = b.natAbs → (sSeq (sPar 2 3 (aCons (eCall dAbs (aCons (eVar 0) aNil)) (aCons (eVar 1) aNil)))
      (sSeq (whileL 100000 (Fc.tB (eBin dGt (eVar 3) (eC (.int 0)))) (sPar 2 3 (aCons (eVar 3) (aCons (eBin dMod (eVar 2) (eVar 3)) aNil))))
      (sRet (eTup (aCons (eBin dDiv (eVar 0) (eVar 2)) (aCons (eBin dDiv (eVar 1) (eVar 2)) aNil)))))) [some (.int a'), some (.int b'), none, none] >>= endF = pure (.tup [.int (a' / (Nat.gcd a.natAbs b.natAbs : Nat)), .int (b' / (Nat.gcd a.natAbs b.natAbs : Nat))]) := by
    intro a' b' h0 h1 h2
    have e1 : (if a' < 0 then -a' else a') = ((a'.natAbs : Nat) : Int) := by split <;> omega
    have e2 : ((b'.natAbs : Nat) : Int) = b' := by omega
    have lp := low_loop (.int a') (.int b') b'.natAbs a'.natAbs 100000 (by omega) (by omega)
    rw [e2] at lp
    rw [h1, h2] at lp
    refine q_seq (δ1 := [some (.int a'), some (.int b'), some (.int (a.natAbs : Nat)), some (.int b')]) (by
      rw [h1] at e1
      clear e2 lp h1 h2
      walk_at "ev" <;> rfl) ?_
    refine q_seq lp ?_
    have f1 := fdiv_pos (a := a') hgi
    have f2 := fdiv_pos (a := b') hgi
    have hh : ((Nat.gcd a.natAbs b.natAbs : Nat) : Int) < 1000000 := by omega
    clear lp e1 e2 h1 h2
    generalize ((Nat.gcd a.natAbs b.natAbs : Nat) : Int) = gg at *
    refine q_end (d := .tup [.int (a' / gg), .int (b' / gg)]) (by walk_at "ev" <;> rfl) ?_
    rw [endF_rt]
  unfold m__law_low
  rw [bodyF_2]
  show (F__law_low [some (.int a), some (.int b), none, none] >>= endF) = _
  unfold F__law_low
  by_cases h : b < 0
  · refine q_seq (δ1 := [some (.int (0 - a)), some (.int (0 - b)), none, none]) (by
      clear key
      walk_at "ev" <;> rfl) ?_
    rw [key (0 - a) (0 - b) (by omega) (by omega) (by omega)]
    unfold ratD rn rd rg
    rw [if_pos h, if_pos h, Int.zero_sub, Int.zero_sub]
  · refine q_seq (δ1 := [some (.int a), some (.int b), none, none]) (by
      clear key
      walk_at "ev" <;> rfl) ?_
    rw [key a b (by omega) rfl rfl]
    unfold ratD rn rd rg
    rw [if_neg h, if_neg h]
theorem m_law_add_eq (a b c d : Int) (h1 : Sm a b) (h2 : Sm c d) (hb : b * d ≠ 0) (hs : (b * d).natAbs < 90000) : m__law_add [.tup [.int a, .int b], .tup [.int c, .int d]] = pure (ratD (a * d + c * b) (b * d)) := by
  obtain ⟨x1, x2, x3, x4⟩ := h1
  obtain ⟨y1, y2, y3, y4⟩ := h2
  have e := m_law_low_eq (a * d + c * b) (b * d) hb hs
  unfold m__law_add
  rw [bodyF_2]
  show (F__law_add [some (.tup [.int a, .int b]), some (.tup [.int c, .int d])] >>= endF) = _
  unfold F__law_add
  refine q_end (d := ratD (a * d + c * b) (b * d)) (by walk_at "ev" <;> rfl) ?_
  rw [endF_rt]
theorem cop_eq {x y x' y' : Int} (hy : 0 < y) (hy' : 0 < y') (c : Nat.gcd x.natAbs y.natAbs = 1) (c' : Nat.gcd x'.natAbs y'.natAbs = 1) (h : x * y' = x' * y) : x = x' ∧ y = y' := by
  have hn : x.natAbs * y'.natAbs = x'.natAbs * y.natAbs := by
    have := congrArg Int.natAbs h
    rw [Int.natAbs_mul, Int.natAbs_mul] at this
    exact this
  have d1 : y.natAbs ∣ y'.natAbs := Nat.Coprime.dvd_of_dvd_mul_left (k := y.natAbs) (m := x.natAbs) (n := y'.natAbs) (by rw [Nat.Coprime, Nat.gcd_comm]; exact c) ⟨x'.natAbs, by rw [hn, Nat.mul_comm]⟩
  have d2 : y'.natAbs ∣ y.natAbs := Nat.Coprime.dvd_of_dvd_mul_left (k := y'.natAbs) (m := x'.natAbs) (n := y.natAbs) (by rw [Nat.Coprime, Nat.gcd_comm]; exact c') ⟨x.natAbs, by rw [← hn, Nat.mul_comm]⟩
  have e : y.natAbs = y'.natAbs := Nat.dvd_antisymm d1 d2
  have ey : y = y' := by omega
  subst ey
  exact ⟨Int.eq_of_mul_eq_mul_right (by omega) h, rfl⟩
theorem ratD_eq {a b c d : Int} (hb : b ≠ 0) (hd : d ≠ 0) (h : a * d = c * b) : rn a b = rn c d ∧ rd a b = rd c d := by
  refine cop_eq (rd_pos hb) (rd_pos hd) (rat_cop hb) (rat_cop hd) ?_
  have h1 := rat_cross (a := a) hb
  have h2 := rat_cross (a := c) hd
  refine Int.eq_of_mul_eq_mul_right (a := b * d) (fun z => ?_) ?_
  · rcases Int.mul_eq_zero.mp z with z | z
    · exact hb z
    · exact hd z
  · generalize rn a b = x at *
    generalize rd a b = y at *
    generalize rn c d = x' at *
    generalize rd c d = y' at *
    grind
theorem ratD_zero {a b : Int} (hb : b ≠ 0) : (rn a b = 0 ∧ rd a b = 1) ↔ a = 0 := by
  constructor
  · rintro ⟨h1, h2⟩
    have := rat_cross (a := a) hb
    rw [h1, h2, Int.zero_mul, Int.mul_one] at this
    exact this.symm
  · intro h
    subst h
    have h1 := rat_cross (a := 0) hb
    rw [Int.zero_mul] at h1
    have e1 : rn 0 b = 0 := by
      rcases Int.mul_eq_zero.mp h1 with z | z
      · exact z
      · exact absurd z hb
    refine ⟨e1, ?_⟩
    have h2 := rat_cop (a := 0) hb
    rw [e1] at h2
    have h3 := rd_pos (a := 0) hb
    simp at h2
    omega
theorem dNe_ints (l m : List Int) : dNe (.tup (zl l)) (.tup (zl m)) = some (.bl (!decide (l = m))) := by
  unfold dNe
  rw [if_pos ⟨sh_ints l, sh_ints m⟩]
  show some (D.bl (!PyData.eqv (.tuple (D.pds (zl l))) (.tuple (D.pds (zl m))))) = _
  rw [PyData.eqv, pds_ints, pds_ints, eqv_ints]
/-! ### waits -/
def nw (g : Nat → Int) : Nat → Int
  | 0 => 0
  | n + 1 => if g n = 1 then 0 else nw g n + 1
def lw (g : Nat → Int) : Nat → Int
  | 0 => 0
  | n + 1 => max (lw g n) (nw g (n + 1))
theorem nw_succ (g : Nat → Int) (n : Nat) : nw g (n + 1) = if g n = 1 then 0 else nw g n + 1 := rfl
theorem nw_nn (g : Nat → Int) : ∀ n, 0 ≤ nw g n ∧ nw g n ≤ n
  | 0 => ⟨Int.le_refl _, Int.le_refl _⟩
  | n + 1 => by
    obtain ⟨h1, h2⟩ := nw_nn g n
    unfold nw
    split <;> omega
theorem nw_run (g : Nat → Int) (a : Nat) : ∀ m, (∀ i, i < m → g (a + i) = 0) → (m : Int) ≤ nw g (a + m)
  | 0, _ => (nw_nn g _).1
  | m + 1, h => by
    have := nw_run g a m fun i hi => h i (by omega)
    show _ ≤ (if g (a + m) = 1 then 0 else nw g (a + m) + 1)
    rw [h m (by omega), if_neg (by decide)]
    omega
theorem lw_ge (g : Nat → Int) {m : Nat} : ∀ {n}, m ≤ n → nw g m ≤ lw g n
  | 0, h => by
    have : m = 0 := by omega
    subst this
    exact Int.le_refl _
  | n + 1, h => by
    show _ ≤ max (lw g n) (nw g (n + 1))
    by_cases c : m = n + 1
    · subst c; omega
    · have := lw_ge g (m := m) (n := n) (by omega)
      omega
theorem lw_nn (g : Nat → Int) (n : Nat) : 0 ≤ lw g n := by
  have := lw_ge g (m := 0) (n := n) (by omega)
  exact this
theorem lw_le (g : Nat → Int) : ∀ n : Nat, lw g n ≤ n
  | 0 => Int.le_refl _
  | n + 1 => by
    have := lw_le g n
    have := (nw_nn g (n + 1)).2
    show max (lw g n) (nw g (n + 1)) ≤ _
    omega
section
variable {h t : List Int} {g : Nat → Int}
theorem per_sum (A : Cal.Cl h t g) {n : Nat} (hn : h.length ≤ n) (hz : ∀ i, i < t.length → g (n + i) = 0) : t.sum = 0 := by
  obtain ⟨m, hm⟩ := A.dv
  have e := A.dens hn
  have : Cal.S (fun i => g (n + i)) 12 = 0 := by
    have e1 : Cal.S (fun i => g (n + i)) 12 = Cal.S (fun _ => 0) 12 := Cal.S_congr fun i _ => by
      show g (n + i) = 0
      have e2 : g (n + i) = g (n + i % t.length) := by
        have := A.perM (i := n + i % t.length) (by omega) (i / t.length)
        have e3 : n + i % t.length + i / t.length * t.length = n + i := by
          have := Nat.mod_add_div i t.length
          rw [Nat.mul_comm] at this
          omega
        rw [e3] at this
        exact this
      rw [e2]
      exact hz _ (Nat.mod_lt _ A.pos)
    rw [e1]
    rfl
  rw [this, Int.zero_mul] at e
  omega
theorem wait_ok (A : Cal.Cl h t g) (hs : t.sum ≠ 0) (f : Nat) : ∃ i, f ≤ i ∧ (i : Int) ≤ f + lw g (h.length + 2 * t.length) ∧ g i = 1 := by
  refine Classical.byContradiction fun no => ?_
  obtain ⟨L, hL⟩ : ∃ L : Nat, (L : Int) = lw g (h.length + 2 * t.length) := ⟨(lw g (h.length + 2 * t.length)).toNat, by have := lw_nn g (h.length + 2 * t.length); omega⟩
  have hz : ∀ i, i < L + 1 → g (f + i) = 0 := fun i hi => by
    rcases A.bit (f + i) with q | q
    · exact q
    · exact absurd ⟨f + i, by omega, by rw [← hL]; omega, q⟩ no
  have fit : ∀ f', (∀ i, i < L + 1 → g (f' + i) = 0) → ¬ f' + (L + 1) ≤ h.length + 2 * t.length := fun f' h1 h2 => by
    have q1 := nw_run g f' (L + 1) h1
    have q2 := lw_ge g h2
    omega
  have hp := A.pos
  by_cases hf : f < h.length
  · have q := fit f hz
    refine hs (per_sum A (n := h.length) (Nat.le_refl _) fun i hi => ?_)
    have := hz (h.length - f + i) (by omega)
    have e : f + (h.length - f + i) = h.length + i := by omega
    rw [e] at this
    exact this
  · have hz' : ∀ i, i < L + 1 → g (h.length + (f - h.length) % t.length + i) = 0 := fun i hi => by
      have := A.perM (i := h.length + (f - h.length) % t.length + i) (by omega) ((f - h.length) / t.length)
      have e3 : h.length + (f - h.length) % t.length + i + (f - h.length) / t.length * t.length = f + i := by
        have := Nat.mod_add_div (f - h.length) t.length
        rw [Nat.mul_comm] at this
        omega
      rw [e3] at this
      rw [← this]
      exact hz i hi
    have q := fit _ hz'
    have hlt : (f - h.length) % t.length < t.length := Nat.mod_lt _ hp
    exact hs (per_sum A (n := h.length + (f - h.length) % t.length) (by omega) fun i hi => hz' i (by omega))
theorem m_wait_of_eq (A : Cal.Cl h t g) : m_wait_of [calD h t] = pure (if t.sum = 0 then .non else .int (lw g (h.length + 2 * t.length))) := by
  have hlen : (zl h).length = h.length := ints_len h
  have tlen : (zl t).length = t.length := ints_len t
  have hl := A.hl
  have ht := A.le12
  unfold m_wait_of
  rw [bodyF_1]
  show (F_wait_of [some (.tup [.tup (zl h), .tup (zl t)]), none, none, none, none, none] >>= endF) = _
  unfold F_wait_of
  refine q_seq (δ1 := [some (calD h t), some (.tup (zl h)), some (.tup (zl t)), none, none, none]) (by walk_at "ev" <;> rfl) ?_
  by_cases hs : t.sum = 0
  · rw [if_pos hs]
    refine q_ret (d := .non) (by walk_at "ev" <;> rfl) ?_
    rfl
  · rw [if_neg hs]
    refine q_seq (δ1 := [some (calD h t), some (.tup (zl h)), some (.tup (zl t)), none, none, none]) (by walk_at "ev" <;> rfl) ?_
    refine q_seq (δ1 := [some (calD h t), some (.tup (zl h)), some (.tup (zl t)), some (.int 0), none, none]) (by walk_at "ev" <;> rfl) ?_
    refine q_seq (δ1 := [some (calD h t), some (.tup (zl h)), some (.tup (zl t)), some (.int 0), some (.int 0), none]) (by walk_at "ev" <;> rfl) ?_
    have tn : ((h.length : Int) + 2 * (t.length : Nat)).toNat = h.length + 2 * t.length := by omega
    refine q_for (ds := rangeD 0 (h.length + 2 * t.length)) (by walk_at "ev" <;> rfl) ?_
    obtain ⟨δ', e, x, rfl⟩ := forL_rng (T := .nm 5) (F := (sSeq (sAsg (.nm 4) (eIf (Fc.tB (eBin dEq (eDef m_flag_at (aCons (eVar 0) (aCons (eVar 5) aNil))) (eC (.int 1)))) (eC (.int 0)) (eBin dAdd (eVar 4) (eC (.int 1)))))
      (sAsg (.nm 3) (eCall dMax2 (aCons (eVar 3) (aCons (eVar 4) aNil))))))
      (fun n δ => ∃ x, δ = [some (calD h t), some (.tup (zl h)), some (.tup (zl t)), some (.int (lw g n)), some (.int (nw g n)), x]) (lo := 0) (n := h.length + 2 * t.length) (δ := [some (calD h t), some (.tup (zl h)), some (.tup (zl t)), some (.int 0), some (.int 0), none]) ⟨none, rfl⟩ fun i δ hi hδ => by
      obtain ⟨x, rfl⟩ := hδ
      have hz : (0 : Int) + i = (i : Nat) := by omega
      rw [hz]
      refine ⟨[some (calD h t), some (.tup (zl h)), some (.tup (zl t)), some (.int (lw g i)), some (.int (nw g i)), some (.int (i : Nat))], [some (calD h t), some (.tup (zl h)), some (.tup (zl t)), some (.int (lw g (i + 1))), some (.int (nw g (i + 1))), some (.int (i : Nat))], rfl, .inl ?_, _, rfl⟩
      have ef := m_flag_at_eq h t (i : Nat) A.ne (by omega)
      have e2 : ((i : Nat) : Int).toNat = i := by omega
      rw [e2, A.v] at ef
      show _ = (pure (Out.nx, [some (calD h t), some (.tup (zl h)), some (.tup (zl t)), some (.int (max (lw g i) (nw g (i + 1)))), some (.int (nw g (i + 1))), some (.int (i : Nat))]) : M (Out × Fc.Env))
      have st : (sAsg (.nm 4) (eIf (Fc.tB (eBin dEq (eDef m_flag_at (aCons (eVar 0) (aCons (eVar 5) aNil))) (eC (.int 1)))) (eC (.int 0)) (eBin dAdd (eVar 4) (eC (.int 1))))) [some (calD h t), some (.tup (zl h)), some (.tup (zl t)), some (.int (lw g i)), some (.int (nw g i)), some (.int (i : Nat))] = pure (.nx, [some (calD h t), some (.tup (zl h)), some (.tup (zl t)), some (.int (lw g i)), some (.int (nw g (i + 1))), some (.int (i : Nat))]) := by
        clear e2 hlen tlen
        rw [nw_succ]
        by_cases c : g i = 1
        · rw [if_pos c]
          rw [c] at ef
          clear c
          walk_at "ev"
        · rw [if_neg c]
          walk_at "ev"
      rw [sSeq_nx st]
      clear st ef hlen tlen
      walk_at "ev"
    rw [e, pb]
    show (sRet (eVar 3) _ >>= endF) = _
    rfl
end
end K80

namespace K80
open PySem L2 Fc Sh
local macro_rules | `(tactic| walk_at "ev") => `(tactic| simp (disch := omega) only [List.map_cons, List.map_nil, List.length_cons, List.length_nil, List.replicate, List.cons_append, List.nil_append,
  sIf, Fc.tB, tT, tAndF, tOrF, tNotF, eBin, eUn, eVar_zero, eVar_succ, eC, pb, asB, asI, liftO_pure, sPar, aCons, aNil, sAsg, eCall, eDef, setT, setTs, sRet, sNil, eTup, eLst, eIf, eIsi, eIsi2, isTy2, eNotT, eAndV, eOrV, eChain, eSl, oNone, oSome, sBk, sCt, itCall, itSeq, dItems,
  dAdd_int, dAdd_tup, dMul_tup, dRange1_ok, dRange2_ok, dSub, dDiv_ok, dMod_ok, dMul_okL, dMul_okR, len_ok, dLt, dLe, dGt, dGe, dEq_int, dNe_int, dNeg, dLen, dAbs, dInt, dGcd, dMax2_eq, dMin2, dSum_tup, dSum_lst, dLcm_ok, dDivmod_ok, dTuple, dList, dTru, dIs_non, dIsNot_non, dIs_bl, dIsNot_bl, isNon_int, isNon_bl, isNon_str, isNon_tup, isNon_lst, isNon_non, dEq_bl, dNe_bl, dIx_tup, dIx_lst, at0, at1, at2, dSl,
  isTy_int_non, isTy_int_bl, isTy_int_int, isTy_int_str, isTy_int_tup, isTy_int_lst, isTy_bool_non, isTy_bool_bl, isTy_bool_int, isTy_bool_str, isTy_bool_tup, isTy_bool_lst, isTy_tuple_non, isTy_tuple_bl, isTy_tuple_int, isTy_tuple_str, isTy_tuple_tup, isTy_tuple_lst, isTy_list_non, isTy_list_bl, isTy_list_int, isTy_list_str, isTy_list_tup, isTy_list_lst, isTy_str_non, isTy_str_bl, isTy_str_int, isTy_str_str, isTy_str_tup, isTy_str_lst,
  opt_bind_some, opt_map_some, Bool.or_true, Bool.true_or, Bool.or_false, Bool.false_or, Bool.not_true, Bool.not_false, Bool.and_true, Bool.true_and,
  decide_true, decide_false, if_tt, if_ff, if_T, if_F, set_zero, set_succ, endF_rt, endF_nx, decide_eq_true, decide_eq_false, *])
local macro_rules | `(tactic| walk_at "ew") => `(tactic| simp (disch := omega) only [List.map_cons, List.map_nil, List.length_cons, List.length_nil, List.replicate, List.cons_append, List.nil_append,
  sIf, Fc.tB, tT, tAndF, tOrF, tNotF, eBin, eUn, eVar_zero, eVar_succ, eC, pb, asB, asI, liftO_pure, sPar, aCons, aNil, sAsg, eCall, eDef, setT, setTs, sRet, sNil, eTup, eLst, eIf, eIsi, eIsi2, isTy2, eNotT, eAndV, eOrV, eChain, eSl, oNone, oSome, sBk, sCt, itCall, itSeq, dItems,
  dAdd_int, dAdd_tup, dMul_tup, dRange1_ok, dRange2_ok, dSub, dDiv_ok, dMod_ok, dMul_okL, dMul_okR, len_ok, dLt, dLe, dGt, dGe, dEq_int, dNe_int, dNeg, dLen, dAbs, dInt, dGcd, dMax2_eq, dMin2, dSum_tup, dSum_lst, dLcm_ok, dDivmod_ok, dTuple, dList, dTru, dIs_non, dIsNot_non, dIs_bl, dIsNot_bl, isNon_int, isNon_bl, isNon_str, isNon_tup, isNon_lst, isNon_non, dEq_bl, dNe_bl, dIx_tup, dIx_lst, at0, at1, at2, dSl,
  isTy_int_non, isTy_int_bl, isTy_int_int, isTy_int_str, isTy_int_tup, isTy_int_lst, isTy_bool_non, isTy_bool_bl, isTy_bool_int, isTy_bool_str, isTy_bool_tup, isTy_bool_lst, isTy_tuple_non, isTy_tuple_bl, isTy_tuple_int, isTy_tuple_str, isTy_tuple_tup, isTy_tuple_lst, isTy_list_non, isTy_list_bl, isTy_list_int, isTy_list_str, isTy_list_tup, isTy_list_lst, isTy_str_non, isTy_str_bl, isTy_str_int, isTy_str_str, isTy_str_tup, isTy_str_lst,
  wp_bind, wp_pure, wp_liftO, opt_bind_some, opt_map_some, Bool.or_true, Bool.true_or, Bool.or_false, Bool.false_or, Bool.not_true, Bool.not_false, Bool.and_true, Bool.true_and,
  decide_true, decide_false, if_tt, if_ff, if_T, if_F, set_zero, set_succ, endF_rt, endF_nx, decide_eq_true, decide_eq_false, *])
section
variable {h t : List Int} {g : Nat → Int}
/-! ### the one with a number -/
/-! steps with the data kept shut -/
theorem st_a {c s zh zt l : D} {N time k : Int} (e : m_first_from [c, .int (time + 1)] = pure (.int k)) : (sAsg (.nm 6) (eDef m_first_from (aCons (eVar 0) (aCons (eBin dAdd (eVar 6) (eC (.int 1))) aNil)))) [some c, some (.int N), some zh, some zt, some s, some l, some (.int time)] = pure (.nx, [some c, some (.int N), some zh, some zt, some s, some l, some (.int k)]) := by
  walk_at "ev"
theorem st_b {c s zh zt x : D} {N l : Int} : (sAsg (.nm 5) (eBin dSub (eVar 5) (eC (.int 1)))) [some c, some (.int N), some zh, some zt, some s, some (.int l), some x] = pure (.nx, [some c, some (.int N), some zh, some zt, some s, some (.int (l - 1)), some x]) := by
  walk_at "ev"
theorem st_c {c zh zt : D} {N s y : Int} (e : m_ones_before [c, .int s] = pure (.int y)) : (sAsg (.nm 5) (eBin dSub (eVar 1) (eDef m_ones_before (aCons (eVar 0) (aCons (eVar 4) aNil))))) [some c, some (.int N), some zh, some zt, some (.int s), none, none] = pure (.nx, [some c, some (.int N), some zh, some zt, some (.int s), some (.int (N - y)), none]) := by
  walk_at "ev"
theorem st_d {c zh zt l : D} {N s y : Int} (e : m_first_from [c, .int s] = pure (.int y)) : (sAsg (.nm 6) (eDef m_first_from (aCons (eVar 0) (aCons (eVar 4) aNil)))) [some c, some (.int N), some zh, some zt, some (.int s), some l, none] = pure (.nx, [some c, some (.int N), some zh, some zt, some (.int s), some l, some (.int y)]) := by
  walk_at "ev"
theorem st_e {c : D} {lh lt : List D} {N a q n m r : Int} (h1 : dSum [.tup lh] = some (.int a)) (e : m_full_turns [.int (N - a), .tup lt] = pure (.int q)) (hn : ((lh.length : Nat) : Int) = n) (hm : ((lt.length : Nat) : Int) = m) (em : dMul (.int q) (.int m) = some (.int r)) :
    (sAsg (.nm 4) (eBin dAdd (eCall dLen (aCons (eVar 2) aNil)) (eBin dMul (eDef m_full_turns (aCons (eBin dSub (eVar 1) (eCall dSum (aCons (eVar 2) aNil))) (aCons (eVar 3) aNil))) (eCall dLen (aCons (eVar 3) aNil))))) [some c, some (.int N), some (.tup lh), some (.tup lt), some (.int 0), none, none] = pure (.nx, [some c, some (.int N), some (.tup lh), some (.tup lt), some (.int (n + r)), none, none]) := by
  walk_at "ev"
theorem st_f {c : D} {lh lt : List D} {N a : Int} (h1 : dSum [.tup lh] = some (.int a)) : (Fc.tB (eBin dGe (eVar 1) (eCall dSum (aCons (eVar 2) aNil)))) [some c, some (.int N), some (.tup lh), some (.tup lt), some (.int 0), none, none] = pure (decide (a ≤ N)) := by
  walk_at "ev"
theorem st_g {c : D} {lh lt : List D} {N b : Int} (h1 : dSum [.tup lt] = some (.int b)) (hb : ¬ b = 0) : (sIf (Fc.tB (eBin dEq (eCall dSum (aCons (eVar 3) aNil)) (eC (.int 0)))) (sRet (eC .non)) sNil) [some c, some (.int N), some (.tup lh), some (.tup lt), some (.int 0), none, none] = pure (.nx, [some c, some (.int N), some (.tup lh), some (.tup lt), some (.int 0), none, none]) := by
  walk_at "ev"
theorem st_h {lt : List D} {n b : Int} (h1 : dSum [.tup lt] = some (.int b)) (hb : 0 < b) (hb2 : b ≤ 1000) : m_full_turns [.int n, .tup lt] = pure (.int (n / b)) := by
  have f := fdiv_pos (a := n) hb
  unfold m_full_turns
  rw [bodyF_2]
  show (F_full_turns [some (.int n), some (.tup lt)] >>= endF) = _
  unfold F_full_turns
  refine q_end (d := .int (n / b)) (by walk_at "ev" <;> rfl) ?_
  rw [endF_rt]
theorem S_step {g : Nat → Int} {n : Nat} (hg : g n = 1) : Cal.S g (n + 1) = Cal.S g n + 1 := by
  show Cal.S g n + g n = _
  rw [hg]
theorem S_zeros {g : Nat → Int} {a b : Nat} (h : a ≤ b) (hz : ∀ k, a ≤ k → k < b → g k = 0) : Cal.S g b = Cal.S g a := by
  have e : b = a + (b - a) := by omega
  rw [e, Cal.S_split]
  have : Cal.S (fun i => g (a + i)) (b - a) = Cal.S (fun _ => 0) (b - a) := Cal.S_congr fun i hi => hz (a + i) (by omega) (by omega)
  rw [this]
  have z : ∀ n, Cal.S (fun _ => 0) n = 0 := fun n => by
    induction n with
    | zero => rfl
    | succ n ih =>
      show Cal.S (fun _ => 0) n + 0 = 0
      rw [ih]
      rfl
  rw [z]
  omega
theorem S_inj (A : Cal.Cl h t g) {i j : Nat} (hi : g i = 1) (hj : g j = 1) (e : Cal.S g i = Cal.S g j) : i = j := by
  have m := fun (a b : Nat) => Cal.S_mono (g := g) A.nn (m := a) (n := b)
  by_cases c1 : i < j
  · have := m (i + 1) j (by omega)
    rw [S_step hi] at this
    omega
  · by_cases c2 : j < i
    · have := m (j + 1) i (by omega)
      rw [S_step hj] at this
      omega
    · omega
theorem nth_loop (A : Cal.Cl h t g) {j : Nat} (hj : g j = 1) (hj2 : j < 90000) (s : D) (N : Int) : ∀ (left n time : Nat), left < n → g time = 1 → Cal.S g time + (left : Nat) = Cal.S g j →
    whileL n (Fc.tB (eBin dGt (eVar 5) (eC (.int 0)))) (sSeq (sAsg (.nm 6) (eDef m_first_from (aCons (eVar 0) (aCons (eBin dAdd (eVar 6) (eC (.int 1))) aNil)))) (sAsg (.nm 5) (eBin dSub (eVar 5) (eC (.int 1))))) [some (calD h t), some (.int N), some (.tup (zl h)), some (.tup (zl t)), some s, some (.int (left : Nat)), some (.int (time : Nat))]
      = pure (.nx, [some (calD h t), some (.int N), some (.tup (zl h)), some (.tup (zl t)), some s, some (.int 0), some (.int (j : Nat))]) := by
  intro left
  induction left with
  | zero =>
    intro n time hn ht hs
    obtain ⟨n, rfl⟩ : ∃ m, n = m + 1 := ⟨n - 1, by omega⟩
    have e := S_inj A ht hj (by omega)
    subst e
    exact whileL_end rfl
  | succ left ih =>
    intro n time hn ht hs
    obtain ⟨n, rfl⟩ : ∃ m, n = m + 1 := ⟨n - 1, by omega⟩
    have hle : time + 1 ≤ j := by
      by_cases c : time + 1 ≤ j
      · exact c
      · have := Cal.S_mono (g := g) A.nn (m := j) (n := time) (by omega)
        omega
    obtain ⟨k, e, k1, k2, k3, k4⟩ := m_first_from_eq A (time + 1) j (by omega) hle hj
    have e1 : ((time + 1 : Nat) : Int) = (time : Nat) + 1 := by omega
    rw [e1] at e
    have es := S_zeros k1 k4
    rw [S_step ht] at es
    rw [← ih n k (by omega) k3 (by rw [es, ← hs]; omega)]
    clear ih
    have e2 : ((left + 1 : Nat) : Int) - 1 = (left : Nat) := by omega
    have e3 : ((left + 1 : Nat) : Int) > 0 := by omega
    clear es hs e1
    refine whileL_step ?_ ?_
    · show (pure (decide (((left + 1 : Nat) : Int) > 0)) : M Bool) = _
      rw [decide_eq_true e3]
    · rw [sSeq_nx (st_a e), st_b, e2]
theorem m_nth_eq (A : Cal.Cl h t g) {j : Nat} (hj : g j = 1) (hj2 : j < 90000) : m_nth [calD h t, .int (Cal.S g j)] = pure (.int (j : Nat)) := by
  have hlen : (zl h).length = h.length := ints_len h
  have tlen : (zl t).length = t.length := ints_len t
  have hl := A.hl
  have ht := A.le12
  have hp := A.pos
  have bS := Cal.S_le (g := g) A.le1 j
  have nS := Cal.S_nn (g := g) A.nn j
  -- from the place where the search begins
  have fin : ∀ (s : Nat) (s' : Int), s' = (s : Nat) → s ≤ j → (sSeq (sAsg (.nm 5) (eBin dSub (eVar 1) (eDef m_ones_before (aCons (eVar 0) (aCons (eVar 4) aNil)))))
      (sSeq (sAsg (.nm 6) (eDef m_first_from (aCons (eVar 0) (aCons (eVar 4) aNil))))
      (sSeq (whileL 100000 (Fc.tB (eBin dGt (eVar 5) (eC (.int 0)))) (sSeq (sAsg (.nm 6) (eDef m_first_from (aCons (eVar 0) (aCons (eBin dAdd (eVar 6) (eC (.int 1))) aNil)))) (sAsg (.nm 5) (eBin dSub (eVar 5) (eC (.int 1))))))
      (sRet (eVar 6))))) [some (calD h t), some (.int (Cal.S g j)), some (.tup (zl h)), some (.tup (zl t)), some (.int s'), none, none] >>= endF = pure (.int (j : Nat)) := by
    intro s s' es hsj
    subst es
    have e1 := m_ones_before_eq A s (by omega)
    obtain ⟨k, e2, k1, k2, k3, k4⟩ := m_first_from_eq A s j (by omega) hsj hj
    have es := S_zeros k1 k4
    have mono := Cal.S_mono (g := g) A.nn (m := s) (n := j) hsj
    have ns := Cal.S_nn (g := g) A.nn s
    obtain ⟨left, hleft⟩ : ∃ left : Nat, (left : Int) = Cal.S g j - Cal.S g s := ⟨(Cal.S g j - Cal.S g s).toNat, by omega⟩
    have lp := nth_loop A hj hj2 (.int (s : Nat)) (Cal.S g j) left 100000 k (by omega) k3 (by rw [es, hleft]; omega)
    refine q_seq (st_c e1) ?_
    rw [← hleft]
    refine q_seq (st_d e2) ?_
    refine q_seq lp ?_
    show (sRet (eVar 6) _ >>= endF) = _
    rfl
  unfold m_nth
  rw [bodyF_2]
  show (F_nth [some (.tup [.tup (zl h), .tup (zl t)]), some (.int (Cal.S g j)), none, none, none, none, none] >>= endF) = _
  unfold F_nth
  refine q_seq (δ1 := [some (calD h t), some (.int (Cal.S g j)), some (.tup (zl h)), some (.tup (zl t)), none, none, none]) (by
    clear fin
    walk_at "ev" <;> rfl) ?_
  refine q_seq (δ1 := [some (calD h t), some (.int (Cal.S g j)), some (.tup (zl h)), some (.tup (zl t)), some (.int 0), none, none]) (by
    clear fin
    walk_at "ev" <;> rfl) ?_
  have eh : Cal.S g h.length = h.sum := by
    have := A.ones h.length
    rw [if_pos (Nat.le_refl _), List.take_length] at this
    exact this
  have s1 : dSum [.tup (zl h)] = some (.int h.sum) := dSum_tup h
  have s2 : dSum [.tup (zl t)] = some (.int t.sum) := dSum_tup t
  by_cases c : Cal.S g j ≥ h.sum
  · have hjh : h.length ≤ j := by
      by_cases q : h.length ≤ j
      · exact q
      · have := Cal.S_mono (g := g) A.nn (m := j + 1) (n := h.length) (by omega)
        rw [S_step hj] at this
        omega
    have ts : 0 < t.sum := by
      obtain ⟨z1, z2⟩ := A.sum0
      by_cases q : t.sum = 0
      · have := z1 q j hjh
        omega
      · omega
    have tb : t.sum ≤ 12 := by
      have := A.dens (Nat.le_refl h.length)
      have q := Cal.S_le (g := fun i => g (h.length + i)) (fun i => A.le1 _) 12
      have q2 : Cal.S (fun i => g (h.length + i)) 12 * t.length ≤ 12 * 12 := Int.mul_le_mul q (by omega) (by omega) (by decide)
      omega
    obtain ⟨q, hq⟩ : ∃ q : Nat, (q : Int) = (Cal.S g j - h.sum) / t.sum := ⟨((Cal.S g j - h.sum) / t.sum).toNat, by
      have := Int.ediv_nonneg (a := Cal.S g j - h.sum) (b := t.sum) (by omega) (by omega)
      omega⟩
    have hqm : (q : Int) * t.sum ≤ Cal.S g j - h.sum := by
      rw [hq]
      exact Int.ediv_mul_le _ (by omega)
    have est : Cal.S g (h.length + q * t.length) = h.sum + q * t.sum := by
      have := A.ones (h.length + q * t.length)
      by_cases z : h.length + q * t.length ≤ h.length
      · have q0 : q * t.length = 0 := by omega
        rcases Nat.mul_eq_zero.mp q0 with w | w
        · subst w
          rw [Nat.zero_mul, Nat.add_zero, eh]
          simp
        · omega
      · rw [if_neg z] at this
        have e1 : h.length + q * t.length - h.length = q * t.length := by omega
        rw [e1, Nat.mul_div_cancel _ hp, Nat.mul_mod_left] at this
        rw [this]
        simp
    have hst : h.length + q * t.length ≤ j := by
      by_cases z : h.length + q * t.length ≤ j
      · exact z
      · have := Cal.S_mono (g := g) A.nn (m := j + 1) (n := h.length + q * t.length) (by omega)
        rw [S_step hj, est] at this
        omega
    have hd := st_h (n := Cal.S g j - h.sum) s2 ts (by omega)
    rw [← hq] at hd
    have e0 : ((h.length + q * t.length : Nat) : Int) = (h.length : Nat) + (q : Nat) * (t.length : Nat) := by
      rw [Int.natCast_add, Int.natCast_mul]
    have hq9 : q ≤ 90000 := by
      have : q * 1 ≤ q * t.length := Nat.mul_le_mul_left q hp
      omega
    have em : dMul (.int (q : Nat)) (.int (t.length : Nat)) = some (.int ((q : Nat) * (t.length : Nat))) := dMul_okR (by omega) (by omega)
    have cc : ¬ t.sum = 0 := by omega
    refine q_seq (δ1 := [some (calD h t), some (.int (Cal.S g j)), some (.tup (zl h)), some (.tup (zl t)), some (.int ((h.length : Nat) + (q : Nat) * (t.length : Nat))), none, none]) ?_ (fin _ _ e0.symm hst)
    rw [sIf_t (by rw [st_f s1, decide_eq_true c]), sSeq_nx (st_g s2 cc)]
    exact st_e s1 hd (by rw [hlen]) (by rw [tlen]) em
  · have c' : ¬ h.sum ≤ Cal.S g j := c
    refine q_seq (δ1 := [some (calD h t), some (.int (Cal.S g j)), some (.tup (zl h)), some (.tup (zl t)), some (.int 0), none, none]) ?_ (fin 0 0 rfl (by omega))
    rw [sIf_f (by rw [st_f s1, decide_eq_false c'])]
    rfl
/-! ### spans -/
def pairD (p : Int × Int) : D := .tup [.int p.1, .int p.2]
def pl (l : List (Int × Int)) : List D := l.map pairD
def width (l : List (Int × Int)) : Int := (l.map fun p => p.2 - p.1 + 1).sum
theorem atL {α : Type} (xs : List α) (x : α) : atI (xs ++ [x]) (-1) = some x := by
  have e : (-1 : Int) = -((1 : Nat) : Int) := rfl
  unfold atI ixN
  rw [if_neg (by omega), if_pos (by rw [List.length_append, List.length_singleton]; omega)]
  show (xs ++ [x])[_]? = _
  have : ((-1 : Int) + ((xs ++ [x]).length : Nat)).toNat = xs.length := by
    rw [List.length_append, List.length_singleton]
    omega
  rw [this]
  simp
/-- what the spans tell up to a time -/
structure Sp (g : Nat → Int) (f i : Nat) (l : List (Int × Int)) : Prop where
  w : width l = Cal.S g (f + i) - Cal.S g f
  hd : ∀ p, l.head? = some p → ∃ a : Nat, p.1 = a ∧ f ≤ a ∧ g a = 1 ∧ ∀ k, f ≤ k → k < a → g k = 0
  no : l = [] → ∀ k, f ≤ k → k < f + i → g k = 0
  len : l.length ≤ i
end
end K80

namespace K80
open PySem L2 Fc Sh
local macro_rules | `(tactic| walk_at "ev") => `(tactic| simp (disch := omega) only [List.map_cons, List.map_nil, List.length_cons, List.length_nil, List.replicate, List.cons_append, List.nil_append,
  sIf, Fc.tB, tT, tAndF, tOrF, tNotF, eBin, eUn, eVar_zero, eVar_succ, eC, pb, asB, asI, liftO_pure, sPar, aCons, aNil, sAsg, eCall, eDef, setT, setTs, sRet, sNil, eTup, eLst, eIf, eIsi, eIsi2, isTy2, eNotT, eAndV, eOrV, eChain, eSl, oNone, oSome, sBk, sCt, itCall, itSeq, dItems,
  dAdd_int, dAdd_tup, dMul_tup, dRange1_ok, dRange2_ok, dSub, dDiv_ok, dMod_ok, dMul_okL, dMul_okR, len_ok, dLt, dLe, dGt, dGe, dEq_int, dNe_int, dNeg, dLen, dAbs, dInt, dGcd, dMax2_eq, dMin2, dSum_tup, dSum_lst, dLcm_ok, dDivmod_ok, dTuple, dList, dTru, dIs_non, dIsNot_non, dIs_bl, dIsNot_bl, isNon_int, isNon_bl, isNon_str, isNon_tup, isNon_lst, isNon_non, dEq_bl, dNe_bl, dIx_tup, dIx_lst, at0, at1, at2, dSl,
  isTy_int_non, isTy_int_bl, isTy_int_int, isTy_int_str, isTy_int_tup, isTy_int_lst, isTy_bool_non, isTy_bool_bl, isTy_bool_int, isTy_bool_str, isTy_bool_tup, isTy_bool_lst, isTy_tuple_non, isTy_tuple_bl, isTy_tuple_int, isTy_tuple_str, isTy_tuple_tup, isTy_tuple_lst, isTy_list_non, isTy_list_bl, isTy_list_int, isTy_list_str, isTy_list_tup, isTy_list_lst, isTy_str_non, isTy_str_bl, isTy_str_int, isTy_str_str, isTy_str_tup, isTy_str_lst,
  opt_bind_some, opt_map_some, Bool.or_true, Bool.true_or, Bool.or_false, Bool.false_or, Bool.not_true, Bool.not_false, Bool.and_true, Bool.true_and,
  decide_true, decide_false, if_tt, if_ff, if_T, if_F, set_zero, set_succ, endF_rt, endF_nx, decide_eq_true, decide_eq_false, *])
local macro_rules | `(tactic| walk_at "ew") => `(tactic| simp (disch := omega) only [List.map_cons, List.map_nil, List.length_cons, List.length_nil, List.replicate, List.cons_append, List.nil_append,
  sIf, Fc.tB, tT, tAndF, tOrF, tNotF, eBin, eUn, eVar_zero, eVar_succ, eC, pb, asB, asI, liftO_pure, sPar, aCons, aNil, sAsg, eCall, eDef, setT, setTs, sRet, sNil, eTup, eLst, eIf, eIsi, eIsi2, isTy2, eNotT, eAndV, eOrV, eChain, eSl, oNone, oSome, sBk, sCt, itCall, itSeq, dItems,
  dAdd_int, dAdd_tup, dMul_tup, dRange1_ok, dRange2_ok, dSub, dDiv_ok, dMod_ok, dMul_okL, dMul_okR, len_ok, dLt, dLe, dGt, dGe, dEq_int, dNe_int, dNeg, dLen, dAbs, dInt, dGcd, dMax2_eq, dMin2, dSum_tup, dSum_lst, dLcm_ok, dDivmod_ok, dTuple, dList, dTru, dIs_non, dIsNot_non, dIs_bl, dIsNot_bl, isNon_int, isNon_bl, isNon_str, isNon_tup, isNon_lst, isNon_non, dEq_bl, dNe_bl, dIx_tup, dIx_lst, at0, at1, at2, dSl,
  isTy_int_non, isTy_int_bl, isTy_int_int, isTy_int_str, isTy_int_tup, isTy_int_lst, isTy_bool_non, isTy_bool_bl, isTy_bool_int, isTy_bool_str, isTy_bool_tup, isTy_bool_lst, isTy_tuple_non, isTy_tuple_bl, isTy_tuple_int, isTy_tuple_str, isTy_tuple_tup, isTy_tuple_lst, isTy_list_non, isTy_list_bl, isTy_list_int, isTy_list_str, isTy_list_tup, isTy_list_lst, isTy_str_non, isTy_str_bl, isTy_str_int, isTy_str_str, isTy_str_tup, isTy_str_lst,
  wp_bind, wp_pure, wp_liftO, opt_bind_some, opt_map_some, Bool.or_true, Bool.true_or, Bool.or_false, Bool.false_or, Bool.not_true, Bool.not_false, Bool.and_true, Bool.true_and,
  decide_true, decide_false, if_tt, if_ff, if_T, if_F, set_zero, set_succ, endF_rt, endF_nx, decide_eq_true, decide_eq_false, *])
/-! ### spans -/
theorem pl_app (xs : List (Int × Int)) (p : Int × Int) : pl (xs ++ [p]) = pl xs ++ [pairD p] := by
  unfold pl
  rw [List.map_append]
  rfl
theorem width_app (xs : List (Int × Int)) (p : Int × Int) : width (xs ++ [p]) = width xs + (p.2 - p.1 + 1) := by
  unfold width
  rw [List.map_append, List.sum_append]
  simp
theorem opSet_last (xs : List D) (x d : D) : opSet d (-1) (xs ++ [x]) = some (xs ++ [d]) := by
  have e : ixN (xs ++ [x]).length (-1) = some xs.length := by
    unfold ixN
    rw [if_neg (by omega), if_pos (by rw [List.length_append, List.length_singleton]; omega)]
    congr 1
    rw [List.length_append, List.length_singleton]
    omega
  unfold opSet
  rw [e]
  show some ((xs ++ [x]).set xs.length d) = _
  rw [List.set_append_right _ _ (Nat.le_refl _), Nat.sub_self]
  rfl
def spBody : F1 := (sSeq (sIf (Fc.tB (eBin dEq (eDef m_flag_at (aCons (eVar 0) (aCons (eVar 4) aNil))) (eC (.int 0)))) sCt sNil)
      (sIf (tAndF (tT (eVar 3)) (Fc.tB (eBin dEq (eBin dIx (eBin dIx (eVar 3) (eUn dNeg (eC (.int 1)))) (eC (.int 1))) (eBin dSub (eVar 4) (eC (.int 1)))))) (sSetIx 3 (eTup (aCons (eBin dIx (eBin dIx (eVar 3) (eUn dNeg (eC (.int 1)))) (eC (.int 0))) (aCons (eVar 4) aNil))) (eUn dNeg (eC (.int 1)))) (sApp 3 (eTup (aCons (eVar 4) (aCons (eVar 4) aNil))))))
section
variable {c f l : D} {T : Int}
theorem sp_0 (e : m_flag_at [c, .int T] = pure (.int 0)) (fl : List D) : spBody [some c, some f, some l, some (.lst fl), some (.int T)] = pure (.ct, [some c, some f, some l, some (.lst fl), some (.int T)]) := by
  unfold spBody
  have st : (sIf (Fc.tB (eBin dEq (eDef m_flag_at (aCons (eVar 0) (aCons (eVar 4) aNil))) (eC (.int 0)))) sCt sNil) [some c, some f, some l, some (.lst fl), some (.int T)] = pure (.ct, [some c, some f, some l, some (.lst fl), some (.int T)]) := by walk_at "ev"
  rw [sSeq_eq, st]
  rfl
theorem sp_1 (e : m_flag_at [c, .int T] = pure (.int 1)) (fl : List D) : spBody [some c, some f, some l, some (.lst fl), some (.int T)] = (sIf (tAndF (tT (eVar 3)) (Fc.tB (eBin dEq (eBin dIx (eBin dIx (eVar 3) (eUn dNeg (eC (.int 1)))) (eC (.int 1))) (eBin dSub (eVar 4) (eC (.int 1)))))) (sSetIx 3 (eTup (aCons (eBin dIx (eBin dIx (eVar 3) (eUn dNeg (eC (.int 1)))) (eC (.int 0))) (aCons (eVar 4) aNil))) (eUn dNeg (eC (.int 1)))) (sApp 3 (eTup (aCons (eVar 4) (aCons (eVar 4) aNil))))) [some c, some f, some l, some (.lst fl), some (.int T)] := by
  unfold spBody
  have st : (sIf (Fc.tB (eBin dEq (eDef m_flag_at (aCons (eVar 0) (aCons (eVar 4) aNil))) (eC (.int 0)))) sCt sNil) [some c, some f, some l, some (.lst fl), some (.int T)] = pure (.nx, [some c, some f, some l, some (.lst fl), some (.int T)]) := by walk_at "ev"
  rw [sSeq_nx st]
theorem sp_app (e : m_flag_at [c, .int T] = pure (.int 1)) (xs : List (Int × Int)) (hl : xs.length < 1000) (hx : ∀ ys p, xs = ys ++ [p] → p.2 ≠ T - 1) : spBody [some c, some f, some l, some (.lst (pl xs)), some (.int T)] = pure (.nx, [some c, some f, some l, some (.lst (pl (xs ++ [(T, T)]))), some (.int T)]) := by
  rw [sp_1 e]
  have ap : sApp 3 (eTup (aCons (eVar 4) (aCons (eVar 4) aNil))) [some c, some f, some l, some (.lst (pl xs)), some (.int T)] = pure (.nx, [some c, some f, some l, some (.lst (pl (xs ++ [(T, T)]))), some (.int T)]) := by
    show ((pure (D.tup [.int T, .int T]) : M D) >>= fun d => liftO (chg 3 (opApp d) _) >>= fun δ' => pure (Out.nx, δ')) = _
    rw [pb]
    have q : chg 3 (opApp (.tup [.int T, .int T])) [some c, some f, some l, some (.lst (pl xs)), some (.int T)] = some [some c, some f, some l, some (.lst (pl (xs ++ [(T, T)]))), some (.int T)] := by
      show (opApp (.tup [.int T, .int T]) (pl xs)).map (fun ds' => _) = _
      unfold opApp
      rw [if_pos (by
        unfold pl
        rw [List.length_map]
        show xs.length < 100000
        omega), opt_map_some, pl_app]
      rfl
    rw [q]
    rfl
  rcases List.eq_nil_or_concat xs with h | ⟨ys, p, h⟩
  · rw [sIf_f (by
      rw [h]
      rfl)]
    exact ap
  · rw [sIf_f ?_]
    · exact ap
    · have hp : ¬ p.2 = T - 1 := hx ys p (by rw [h, List.concat_eq_append])
      have e1 : atI (pl xs) (-1) = some (pairD p) := by rw [h, List.concat_eq_append, pl_app, atL]
      have e2 : dTru (.lst (pl xs)) = some true := by
        show some (!(pl xs).isEmpty) = _
        rw [h, List.concat_eq_append, pl_app]
        simp
      generalize pl xs = z at *
      show (((pure (D.lst z) : M D) >>= fun x => liftO (dTru x)) >>= fun k => if k = true then _ else _) = _
      rw [pb, e2, liftO_pure, pb, if_pos rfl]
      show (((pure (D.lst z) : M D) >>= fun x => (pure (D.int (-1)) : M D) >>= fun y => liftO (dIx x y)) >>= fun x => (pure (D.int 1) : M D) >>= fun y => liftO (dIx x y)) >>= (fun x => ((pure (D.int (T - 1)) : M D) >>= fun y => liftO (dEq x y))) >>= (fun x => liftO (asB x)) = _
      rw [pb, pb, dIx_lst, e1, liftO_pure, pb, pb]
      show ((liftO (some (D.int p.2)) : M D) >>= (fun x => ((pure (D.int (T - 1)) : M D) >>= fun y => liftO (dEq x y))) >>= (fun x => liftO (asB x))) = _
      rw [liftO_pure, pb, pb, dEq_int, decide_eq_false hp]
      rfl
theorem sp_set (e : m_flag_at [c, .int T] = pure (.int 1)) (ys : List (Int × Int)) (p : Int × Int) (hp : p.2 = T - 1) : spBody [some c, some f, some l, some (.lst (pl (ys ++ [p]))), some (.int T)] = pure (.nx, [some c, some f, some l, some (.lst (pl (ys ++ [(p.1, T)]))), some (.int T)]) := by
  rw [sp_1 e]
  have e1 : atI (pl (ys ++ [p])) (-1) = some (pairD p) := by rw [pl_app, atL]
  have e2 : dTru (.lst (pl (ys ++ [p]))) = some true := by
    show some (!(pl (ys ++ [p])).isEmpty) = _
    rw [pl_app]
    simp
  have e3 : opSet (.tup [.int p.1, .int T]) (-1) (pl (ys ++ [p])) = some (pl (ys ++ [(p.1, T)])) := by
    rw [pl_app, opSet_last, pl_app]
    rfl
  generalize pl (ys ++ [p]) = z at *
  generalize pl (ys ++ [(p.1, T)]) = z' at *
  rw [sIf_t ?_]
  · have e1' : atI z (-1) = some (.tup [.int p.1, .int p.2]) := e1
    have v1 : eTup (aCons (eBin dIx (eBin dIx (eVar 3) (eUn dNeg (eC (.int 1)))) (eC (.int 0))) (aCons (eVar 4) aNil)) [some c, some f, some l, some (.lst z), some (.int T)] = pure (.tup [.int p.1, .int T]) := by
      clear e e1 e2 e3 hp
      walk_at "ev"
    show (eTup _ _ >>= fun d => (pure (D.int (-1)) : M D) >>= fun n => liftO (asI n) >>= fun k => liftO (chg 3 (opSet d k) _) >>= fun δ' => pure (Out.nx, δ')) = _
    rw [v1, pb, pb]
    show (liftO ((opSet (.tup [.int p.1, .int T]) (-1) z).map fun ds' => _) >>= fun δ' => pure (Out.nx, δ')) = _
    rw [e3]
    rfl
  · show (((pure (D.lst z) : M D) >>= fun x => liftO (dTru x)) >>= fun k => if k = true then _ else _) = _
    rw [pb, e2, liftO_pure, pb, if_pos rfl]
    show (((pure (D.lst z) : M D) >>= fun x => (pure (D.int (-1)) : M D) >>= fun y => liftO (dIx x y)) >>= fun x => (pure (D.int 1) : M D) >>= fun y => liftO (dIx x y)) >>= (fun x => ((pure (D.int (T - 1)) : M D) >>= fun y => liftO (dEq x y))) >>= (fun x => liftO (asB x)) = _
    rw [pb, pb, dIx_lst, e1, liftO_pure, pb, pb]
    show ((liftO (some (D.int p.2)) : M D) >>= (fun x => ((pure (D.int (T - 1)) : M D) >>= fun y => liftO (dEq x y))) >>= (fun x => liftO (asB x))) = _
    rw [liftO_pure, pb, pb, dEq_int, decide_eq_true hp]
    rfl
end
theorem Sp.next0 {g : Nat → Int} {f i : Nat} {xs : List (Int × Int)} (s : Sp g f i xs) (hg : g (f + i) = 0) : Sp g f (i + 1) xs where
  w := by
    rw [s.w]
    show _ = Cal.S g (f + i) + g (f + i) - _
    omega
  hd := s.hd
  no := fun e k h1 h2 => by
    by_cases c : k = f + i
    · rw [c]; exact hg
    · exact s.no e k h1 (by omega)
  len := by have := s.len; omega
theorem Sp.nextA {g : Nat → Int} {f i : Nat} {xs : List (Int × Int)} (s : Sp g f i xs) (hg : g (f + i) = 1) : Sp g f (i + 1) (xs ++ [(((f + i : Nat) : Int), ((f + i : Nat) : Int))]) where
  w := by
    rw [width_app, s.w]
    show _ = Cal.S g (f + i) + g (f + i) - _
    dsimp only
    omega
  hd := fun p hp => by
    cases xs with
    | nil =>
      have hp' : some (((f + i : Nat) : Int), ((f + i : Nat) : Int)) = some p := hp
      cases hp'
      exact ⟨f + i, rfl, by omega, hg, fun k h1 h2 => s.no rfl k h1 h2⟩
    | cons q xs => exact s.hd p hp
  no := fun e => by simp at e
  len := by
    have := s.len
    rw [List.length_append, List.length_singleton]
    omega
theorem Sp.nextB {g : Nat → Int} {f i : Nat} {ys : List (Int × Int)} {p : Int × Int} (s : Sp g f i (ys ++ [p])) (hg : g (f + i) = 1) (hp : p.2 = ((f + i : Nat) : Int) - 1) : Sp g f (i + 1) (ys ++ [(p.1, ((f + i : Nat) : Int))]) where
  w := by
    have := s.w
    rw [width_app] at this ⊢
    show _ = Cal.S g (f + i) + g (f + i) - _
    dsimp only
    omega
  hd := fun q hq => by
    cases ys with
    | nil =>
      have hq' : some (p.1, ((f + i : Nat) : Int)) = some q := hq
      cases hq'
      exact s.hd p rfl
    | cons r ys => exact s.hd q hq
  no := fun e => by simp at e
  len := by
    have := s.len
    rw [List.length_append, List.length_singleton] at this ⊢
    omega
section
variable {h t : List Int} {g : Nat → Int}
theorem m_spans_eq (A : Cal.Cl h t g) (a b : Nat) (hab : a ≤ b) (hb : b ≤ 900) : ∃ l, m_spans [calD h t, .int (a : Nat), .int (b : Nat)] = pure (.lst (pl l)) ∧ Sp g a (b + 1 - a) l := by
  have tn : (((b : Nat) : Int) + 1 - (a : Nat)).toNat = b + 1 - a := by omega
  obtain ⟨δ', e, x, l, rfl, s⟩ := forL_rng (T := .nm 4) (F := spBody) (fun n δ => ∃ x l, δ = [some (calD h t), some (.int (a : Nat)), some (.int (b : Nat)), some (.lst (pl l)), x] ∧ Sp g a n l) (lo := (a : Nat)) (n := b + 1 - a) (δ := [some (calD h t), some (.int (a : Nat)), some (.int (b : Nat)), some (.lst []), none])
    ⟨none, [], rfl, ⟨by
      show (0 : Int) = _
      rw [Nat.add_zero]
      omega, (fun p hp => by cases hp), (fun _ k h1 h2 => by omega), Nat.le_refl _⟩⟩ fun i δ hi hδ => by
    obtain ⟨x, l, rfl, s⟩ := hδ
    have hz : ((a : Nat) : Int) + i = ((a + i : Nat) : Int) := by omega
    rw [hz]
    have ef := m_flag_at_eq h t ((a + i : Nat) : Int) A.ne (by omega)
    have e2 : ((a + i : Nat) : Int).toNat = a + i := by omega
    rw [e2, A.v] at ef
    rcases A.bit (a + i) with hg | hg
    · rw [hg] at ef
      exact ⟨_, _, rfl, .inr (sp_0 ef _), _, l, rfl, s.next0 hg⟩
    · rw [hg] at ef
      have hlen := s.len
      by_cases c : ∃ ys p, l = ys ++ [p] ∧ p.2 = ((a + i : Nat) : Int) - 1
      · obtain ⟨ys, p, rfl, hp⟩ := c
        exact ⟨_, _, rfl, .inl (sp_set ef ys p hp), _, _, rfl, s.nextB hg hp⟩
      · exact ⟨_, _, rfl, .inl (sp_app ef l (by omega) fun ys p e1 e2 => c ⟨ys, p, e1, e2⟩), _, _, rfl, s.nextA hg⟩
  refine ⟨l, ?_, s⟩
  have q1 : itCall dRange2 (aCons (eVar 1) (aCons (eBin dAdd (eVar 2) (eC (.int 1))) aNil)) [some (calD h t), some (.int (a : Nat)), some (.int (b : Nat)), some (.lst []), none] = pure (rangeD (a : Nat) (b + 1 - a)) := by
    show liftO (dRange2 [.int (a : Nat), .int ((b : Nat) + 1)]) = _
    rw [dRange2_ok (by omega) (by omega) (by omega) (by omega), tn]
    rfl
  unfold m_spans
  rw [bodyF_3]
  show (F_spans [some (calD h t), some (.int (a : Nat)), some (.int (b : Nat)), none, none] >>= endF) = _
  unfold F_spans
  refine q_seq (δ1 := [some (calD h t), some (.int (a : Nat)), some (.int (b : Nat)), some (.lst []), none]) rfl ?_
  refine q_for q1 ?_
  show (forL (.nm 4) spBody _ _ >>= _) = _
  rw [e, pb]
  show (sRet (eVar 3) _ >>= endF) = _
  rfl
end
/-! ### a drawn calendar -/
def calBit (k : Int) : Prop := 0 ≤ k ∧ k < 2
theorem wp_bits {X : D} {w : Dw} {Q : D → Dw → Prop} {b1 : Option D} (n : Nat) (hn : n ≤ 100) {fs : Fc.Env → M (List D)} (hf : wp (fs [some .drw, b1, none]) (fun xs w' => xs = rangeD 0 n ∧ ∀ l w2, l.length = n → (∀ x ∈ l, calBit x) → Q (.tup (zl l)) w2) w) :
    wp (eCall dTuple (aCons (eLc [2] (.nm 2) fs tYesF (eDef nextF (aCons (eVar 0) (aCons (eC (.int 2)) aNil)))) aNil) [some .drw, b1, none]) Q w := by
  show wp ((eLc [2] (.nm 2) fs tYesF (eDef nextF (aCons (eVar 0) (aCons (eC (.int 2)) aNil))) [some .drw, b1, none] >>= fun y => aNil _ >>= fun ys => pure (y :: ys)) >>= fun xs => liftO (dTuple xs)) Q w
  rw [bb, wp_bind]
  refine wp_eLc (ds := rangeD 0 n) calBit (by rw [rangeD_len]; omega) (fun d hd => ?_) ?_
  · refine ⟨[some .drw, b1, some d], rfl, fun R w hR => ?_⟩
    show wp (nextF [.drw, .int 2]) R w
    exact wp_next (by omega) fun k w' h1 h2 => hR k w' ⟨h1, h2⟩
  · refine wp_mono hf fun xs w' ⟨e, hq⟩ => ⟨e, fun l w2 h1 h2 => ?_⟩
    rw [rangeD_len] at h1
    show wp (liftO (dTuple [.lst (zl l)])) Q w2
    show wp (liftO (some (.tup (zl l)))) Q w2
    rw [wp_liftO]
    exact hq l w2 h1 h2
theorem dvd12 {n : Nat} (h1 : 1 ≤ n) (h2 : n ≤ 4) : n ∣ 12 := by
  have : n = 1 ∨ n = 2 ∨ n = 3 ∨ n = 4 := by omega
  rcases this with rfl | rfl | rfl | rfl <;> decide
theorem getD_bit {l : List Int} (h : ∀ x ∈ l, calBit x) (i : Nat) : l.getD i 0 = 0 ∨ l.getD i 0 = 1 := by
  rw [List.getD_eq_getElem?_getD]
  cases e : l[i]? with
  | none => exact .inl rfl
  | some x =>
    obtain ⟨h1, h2⟩ := h x (List.mem_of_getElem? e)
    show x = 0 ∨ x = 1
    omega
theorem wp_cal {w : Dw} {Q : D → Dw → Prop} (hQ : ∀ h t g w', Cal.Cl h t g → h.length ≤ 4 → Q (calD h t) w') : wp (m__law_calendar [.drw]) Q w := by
  unfold m__law_calendar
  rw [bodyF_1]
  show wp (F__law_calendar [some .drw, none, none] >>= endF) Q w
  unfold F__law_calendar
  have e0 : ∀ (F F' : F1) δ, (sSeq F F' δ >>= endF) = (F δ >>= fun p => (match p.1 with | .nx => F' p.2 | o => pure (o, p.2)) >>= endF) := fun F F' δ => by
    rw [sSeq_eq, bb] <;> rfl
  rw [e0]
  show wp ((eCall dTuple _ _ >>= fun x => liftO (setT (.nm 1) x _) >>= fun δ' => pure (Out.nx, δ')) >>= _) Q w
  rw [bb, wp_bind]
  have rng : ∀ (k : Int), 0 ≤ k → k ≤ 5 → dRange1 [.int k] = some (rangeD 0 k.toNat) := fun k h1 h2 => dRange1_ok (by omega) (by omega)
  have first : ∀ (R : D → Dw → Prop), (∀ l w', l.length ≤ 4 → (∀ x ∈ l, calBit x) → R (.tup (zl l)) w') → wp (eCall dTuple (aCons (eLc [2] (.nm 2) (itCall dRange1 (aCons (eDef nextF (aCons (eVar 0) (aCons (eC (.int 5)) aNil))) aNil)) tYesF (eDef nextF (aCons (eVar 0) (aCons (eC (.int 2)) aNil)))) aNil) [some .drw, none, none]) R w := by
    intro R hR
    have q : ∀ n : Nat, n ≤ 4 → (rangeD 0 n = rangeD 0 n ∧ ∀ (l : List Int) (w2 : Dw), l.length = n → (∀ x ∈ l, calBit x) → R (.tup (zl l)) w2) := fun n hn => ⟨rfl, fun l w2 h1 h2 => hR l w2 (by omega) h2⟩
    -- the number is drawn first
    show wp ((eLc [2] (.nm 2) _ tYesF _ [some .drw, none, none] >>= fun y => aNil _ >>= fun ys => pure (y :: ys)) >>= fun xs => liftO (dTuple xs)) R w
    have e1 : eLc [2] (.nm 2) (itCall dRange1 (aCons (eDef nextF (aCons (eVar 0) (aCons (eC (.int 5)) aNil))) aNil)) tYesF (eDef nextF (aCons (eVar 0) (aCons (eC (.int 2)) aNil))) [some .drw, none, none] = (nextF [.drw, .int 5] >>= fun k => eLc [2] (.nm 2) (itCall dRange1 (aCons (eC k) aNil)) tYesF (eDef nextF (aCons (eVar 0) (aCons (eC (.int 2)) aNil))) [some .drw, none, none]) := by
      show ((((nextF [.drw, .int 5]) >>= fun y => (pure [] : M (List D)) >>= fun ys => pure (y :: ys)) >>= fun xs => liftO (dRange1 xs)) >>= _) = _
      rw [bb, bb]
      rfl
    rw [e1, bb, bb, wp_bind]
    refine wp_next (by omega) fun k w' h1 h2 => ?_
    have := wp_bits (X := .non) (b1 := none) (w := w') (Q := R) k.toNat (by omega) (fs := itCall dRange1 (aCons (eC (.int k)) aNil)) (by
      show wp (liftO (dRange1 [.int k])) _ w'
      rw [rng k h1 (by omega), wp_liftO]
      exact q k.toNat (by omega))
    have e2 : (eCall dTuple (aCons (eLc [2] (.nm 2) (itCall dRange1 (aCons (eC (.int k)) aNil)) tYesF (eDef nextF (aCons (eVar 0) (aCons (eC (.int 2)) aNil)))) aNil) [some .drw, none, none]) = ((eLc [2] (.nm 2) (itCall dRange1 (aCons (eC (.int k)) aNil)) tYesF (eDef nextF (aCons (eVar 0) (aCons (eC (.int 2)) aNil))) [some .drw, none, none] >>= fun y => aNil [some .drw, none, none] >>= fun ys => pure (y :: ys)) >>= fun xs => liftO (dTuple xs)) := rfl
    rw [e2, bb] at this
    exact this
  refine first _ fun l1 w1 hl1 hb1 => ?_
  show wp (sRet _ [some .drw, some (.tup (zl l1)), none] >>= endF) Q w1
  show wp ((eDef m_calendar_of _ _ >>= fun d => pure (Out.rt d, _)) >>= endF) Q w1
  have e3 : ∀ (m : M D) (δ : Fc.Env), ((m >>= fun d => pure (Out.rt d, δ)) >>= endF) = m := fun m δ => by
    rw [bb]
    funext w
    show (m w).bind (fun p => some (p.1, p.2)) = _
    cases m w <;> rfl
  rw [e3]
  show wp (((eCall dTuple (aCons (eLc [2] (.nm 2) (itCall dRange1 (aCons (eBin dAdd (eC (.int 1)) (eDef nextF (aCons (eVar 0) (aCons (eC (.int 4)) aNil)))) aNil)) tYesF (eDef nextF (aCons (eVar 0) (aCons (eC (.int 2)) aNil)))) aNil) [some .drw, some (.tup (zl l1)), none] >>= fun y => (pure [] : M (List D)) >>= fun ys => pure (y :: ys)) >>= fun ys => pure (D.tup (zl l1) :: ys)) >>= m_calendar_of) Q w1
  rw [bb, bb, wp_bind]
  have second : ∀ (R : D → Dw → Prop), (∀ l w', 1 ≤ l.length → l.length ≤ 4 → (∀ x ∈ l, calBit x) → R (.tup (zl l)) w') → wp (eCall dTuple (aCons (eLc [2] (.nm 2) (itCall dRange1 (aCons (eBin dAdd (eC (.int 1)) (eDef nextF (aCons (eVar 0) (aCons (eC (.int 4)) aNil)))) aNil)) tYesF (eDef nextF (aCons (eVar 0) (aCons (eC (.int 2)) aNil)))) aNil) [some .drw, some (.tup (zl l1)), none]) R w1 := by
    intro R hR
    have q : ∀ n : Nat, 1 ≤ n → n ≤ 4 → (rangeD 0 n = rangeD 0 n ∧ ∀ (l : List Int) (w2 : Dw), l.length = n → (∀ x ∈ l, calBit x) → R (.tup (zl l)) w2) := fun n hn1 hn => ⟨rfl, fun l w2 h1 h2 => hR l w2 (by omega) (by omega) h2⟩
    show wp ((eLc [2] (.nm 2) _ tYesF _ [some .drw, some (.tup (zl l1)), none] >>= fun y => aNil _ >>= fun ys => pure (y :: ys)) >>= fun xs => liftO (dTuple xs)) R w1
    have e1 : eLc [2] (.nm 2) (itCall dRange1 (aCons (eBin dAdd (eC (.int 1)) (eDef nextF (aCons (eVar 0) (aCons (eC (.int 4)) aNil)))) aNil)) tYesF (eDef nextF (aCons (eVar 0) (aCons (eC (.int 2)) aNil))) [some .drw, some (.tup (zl l1)), none] = (nextF [.drw, .int 4] >>= fun k => eLc [2] (.nm 2) (itCall dRange1 (aCons (eBin dAdd (eC (.int 1)) (eC k)) aNil)) tYesF (eDef nextF (aCons (eVar 0) (aCons (eC (.int 2)) aNil))) [some .drw, some (.tup (zl l1)), none]) := by
      show (((((pure (D.int 1) : M D) >>= fun x => nextF [.drw, .int 4] >>= fun y => liftO (dAdd x y)) >>= fun y => (pure [] : M (List D)) >>= fun ys => pure (y :: ys)) >>= fun xs => liftO (dRange1 xs)) >>= _) = _
      rw [pb, bb, bb, bb]
      rfl
    rw [e1, bb, bb, wp_bind]
    refine wp_next (by omega) fun k w' h1 h2 => ?_
    have := wp_bits (X := .non) (b1 := some (.tup (zl l1))) (w := w') (Q := R) (1 + k).toNat (by omega) (fs := itCall dRange1 (aCons (eBin dAdd (eC (.int 1)) (eC (.int k))) aNil)) (by
      show wp (liftO (dRange1 [.int (1 + k)])) _ w'
      rw [rng (1 + k) (by omega) (by omega), wp_liftO]
      exact q (1 + k).toNat (by omega) (by omega))
    have e2 : (eCall dTuple (aCons (eLc [2] (.nm 2) (itCall dRange1 (aCons (eBin dAdd (eC (.int 1)) (eC (.int k))) aNil)) tYesF (eDef nextF (aCons (eVar 0) (aCons (eC (.int 2)) aNil)))) aNil) [some .drw, some (.tup (zl l1)), none]) = ((eLc [2] (.nm 2) (itCall dRange1 (aCons (eBin dAdd (eC (.int 1)) (eC (.int k))) aNil)) tYesF (eDef nextF (aCons (eVar 0) (aCons (eC (.int 2)) aNil))) [some .drw, some (.tup (zl l1)), none] >>= fun y => aNil [some .drw, some (.tup (zl l1)), none] >>= fun ys => pure (y :: ys)) >>= fun xs => liftO (dTuple xs)) := rfl
    rw [e2, bb] at this
    exact this
  refine second _ fun l2 w2 hl2 hl3 hb2 => ?_
  have ne : l2 ≠ [] := by
    intro z
    rw [z] at hl2
    have h0 : ([] : List Int).length = 0 := rfl
    omega
  have ec := m_calendar_of_eq l1 l2 ne (by omega) (by omega)
  show wp (m_calendar_of [.tup (zl l1), .tup (zl l2)]) Q w2
  have ec' : m_calendar_of [.tup (zl l1), .tup (zl l2)] = pure (calD (Cal.calOf l1 l2).1 (Cal.calOf l1 l2).2) := ec
  rw [ec', wp_pure]
  exact hQ _ _ (Cal.val l1 l2) w2 (Cal.Cl.of ne (dvd12 hl2 hl3) (by omega) (fun _ => rfl) (fun i => by
    unfold Cal.val
    split
    · exact getD_bit hb1 _
    · exact getD_bit hb2 _)) (Nat.le_trans (Cal.cal_lens (h := l1) ne).1 hl1)
end K80

namespace K80
open PySem L2 Fc Sh
/-! ### calendars kept shut -/
/-- C is the calendar of g, its head of at most N times -/
def Fx (C : D) (g : Nat → Int) (N : Nat) : Prop := ∃ h t, C = calD h t ∧ Cal.Cl h t g ∧ h.length ≤ N
section
variable {C C' C'' : D} {g g' g'' : Nat → Int} {N N' N'' : Nat}
theorem Fx.bit (F : Fx C g N) (i : Nat) : g i = 0 ∨ g i = 1 := by
  obtain ⟨h, t, rfl, A, _⟩ := F
  exact A.bit i
theorem Fx.le1 (F : Fx C g N) (i : Nat) : g i ≤ 1 := by rcases F.bit i with e | e <;> omega
theorem Fx.nn (F : Fx C g N) (i : Nat) : 0 ≤ g i := by rcases F.bit i with e | e <;> omega
theorem Fx.uniq (F : Fx C g N) (F' : Fx C' g' N') (e : ∀ i, g i = g' i) : C = C' := by
  obtain ⟨h, t, rfl, A, _⟩ := F
  obtain ⟨h', t', rfl, B, _⟩ := F'
  have : g = g' := funext e
  subst this
  obtain ⟨rfl, rfl⟩ := A.uniq B
  rfl
theorem Fx.same (F : Fx C g N) : m__law_same [C, C] = pure (.bl true) := by
  obtain ⟨h, t, rfl, A, _⟩ := F
  refine m_law_same_refl (calD h t) ?_
  have ok : ∀ l : List Int, l.length ≤ 100 → okD 28 (.tup (zl l)) = true := fun l hl => by
    show (decide ((zl l).length ≤ 100000) && (zl l).all (okD 27)) = true
    rw [Bool.and_eq_true, decide_eq_true_eq, List.all_eq_true, ints_len]
    refine ⟨by omega, fun x hx => ?_⟩
    obtain ⟨k, _, rfl⟩ := List.mem_map.mp hx
    rfl
  have h1 := A.hl
  have h2 := A.le12
  show (decide (([D.tup (zl h), D.tup (zl t)] : List D).length ≤ 100000) && ([D.tup (zl h), D.tup (zl t)] : List D).all (okD 28)) = true
  show (true && (okD 28 (.tup (zl h)) && (okD 28 (.tup (zl t)) && true))) = true
  rw [ok h (by omega), ok t (by omega)]
  rfl
theorem Fx.holds (F : Fx C g N) (i : Nat) : m_holds [C, .int (i : Nat)] = pure (.bl (decide (g i = 1))) := by
  obtain ⟨h, t, rfl, A, _⟩ := F
  have e := m_holds_eq h t (i : Nat) A.ne (by omega)
  have e2 : ((i : Nat) : Int).toNat = i := by omega
  rw [e2, A.v] at e
  exact e
theorem Fx.join (F : Fx C g N) (F' : Fx C' g' N') : ∃ J, m_join [C, C'] = pure J ∧ Fx J (bits fun i => decide (g i = 1) || decide (g' i = 1)) (max N N') := by
  obtain ⟨h, t, rfl, A, h1⟩ := F
  obtain ⟨h', t', rfl, B, h2⟩ := F'
  obtain ⟨H, T, e, c, h3⟩ := m_join_eq A B
  exact ⟨_, e, H, T, rfl, c, by omega⟩
theorem Fx.meet (F : Fx C g N) (F' : Fx C' g' N') : ∃ J, m_meet [C, C'] = pure J ∧ Fx J (bits fun i => !(decide (g i = 0) || decide (g' i = 0))) (max N N') := by
  obtain ⟨h, t, rfl, A, h1⟩ := F
  obtain ⟨h', t', rfl, B, h2⟩ := F'
  obtain ⟨H, T, e, c, h3⟩ := m_meet_eq A B
  exact ⟨_, e, H, T, rfl, c, by omega⟩
theorem Fx.without (F : Fx C g N) (F' : Fx C' g' N') : ∃ J, m_without [C, C'] = pure J ∧ Fx J (bits fun i => decide (g i = 1) && decide (g' i = 0)) (max N N') := by
  obtain ⟨h, t, rfl, A, h1⟩ := F
  obtain ⟨h', t', rfl, B, h2⟩ := F'
  obtain ⟨H, T, e, c, h3⟩ := m_without_eq A B
  exact ⟨_, e, H, T, rfl, c, by omega⟩
theorem Fx.at_least (F : Fx C g N) (F' : Fx C' g' N') (F'' : Fx C'' g'' N'') (k : Int) : ∃ J, m_at_least [.lst [C, C', C''], .int k] = pure J ∧ Fx J (bits fun i => decide (k ≤ g i + g' i + g'' i)) 20 := by
  obtain ⟨h, t, rfl, A, h1⟩ := F
  obtain ⟨h', t', rfl, B, h2⟩ := F'
  obtain ⟨h'', t'', rfl, B', h3⟩ := F''
  obtain ⟨H, T, e, c⟩ := m_at_least_eq A B B' k
  exact ⟨_, e, H, T, rfl, c, c.hl⟩
theorem Fx.shifted (F : Fx C g N) (k : Nat) (hk : k + N ≤ 20) : ∃ J, m_shifted [C, .int (k : Nat)] = pure J ∧ Fx J (fun i => if i < k then 0 else g (i - k)) (k + N) := by
  obtain ⟨h, t, rfl, A, h1⟩ := F
  obtain ⟨H, T, e, c, h2⟩ := m_shifted_eq A k (by omega)
  exact ⟨_, e, H, T, rfl, c, by omega⟩
theorem Fx.count (F : Fx C g N) (a b : Nat) (h1 : a ≤ b) (h2 : b < 100000) : m_count_between [C, .int (a : Nat), .int (b : Nat)] = pure (.int (Cal.S g (b + 1) - Cal.S g a)) := by
  obtain ⟨h, t, rfl, A, _⟩ := F
  exact m_count_between_eq A a b h1 h2
theorem Fx.first (F : Fx C g N) (n i : Nat) (hn : n ≤ 100000) (hi : n ≤ i) (hg : g i = 1) : ∃ j : Nat, m_first_from [C, .int (n : Nat)] = pure (.int (j : Nat)) ∧ n ≤ j ∧ j ≤ i ∧ g j = 1 ∧ ∀ k, n ≤ k → k < j → g k = 0 := by
  obtain ⟨h, t, rfl, A, _⟩ := F
  exact m_first_from_eq A n i hn hi hg
theorem Fx.nth (F : Fx C g N) {j : Nat} (hj : g j = 1) (hj2 : j < 90000) : m_nth [C, .int (Cal.S g j)] = pure (.int (j : Nat)) := by
  obtain ⟨h, t, rfl, A, _⟩ := F
  exact m_nth_eq A hj hj2
theorem Fx.spans (F : Fx C g N) (a b : Nat) (hab : a ≤ b) (hb : b ≤ 900) : ∃ l, m_spans [C, .int (a : Nat), .int (b : Nat)] = pure (.lst (pl l)) ∧ Sp g a (b + 1 - a) l := by
  obtain ⟨h, t, rfl, A, _⟩ := F
  exact m_spans_eq A a b hab hb
/-- the share: a fraction x / y, of twelve times -/
theorem Fx.share (F : Fx C g N) : ∃ x y : Int, m_share_of [C] = pure (.tup [.int x, .int y]) ∧ 0 < y ∧ y ≤ 12 ∧ -1000 < x ∧ x < 1000 ∧ x * 12 = Cal.S (fun i => g (20 + i)) 12 * y ∧
    ((m_wait_of [C] = pure .non ∧ x = 0 ∧ y = 1) ∨ (¬ (x = 0 ∧ y = 1) ∧ ∃ W : Nat, m_wait_of [C] = pure (.int (W : Nat)) ∧ W ≤ 1000 ∧ ∀ f, ∃ i, f ≤ i ∧ i ≤ f + W ∧ g i = 1)) := by
  obtain ⟨h, t, rfl, A, _⟩ := F
  have hl := A.hl
  have ht := A.le12
  have hp := A.pos
  have hb0 : ((t.length : Nat) : Int) ≠ 0 := by omega
  have e := m_share_of_eq A
  have d := A.dens (n := 20) hl
  have c := rat_cross (a := t.sum) hb0
  have q1 := rd_pos (a := t.sum) hb0
  have q2 := rd_le (a := t.sum) hb0
  have q3 := rn_le (a := t.sum) hb0
  have q4 := ratD_zero (a := t.sum) hb0
  have sb := Cal.S_le (g := fun i => g (20 + i)) (fun i => A.le1 _) 12
  have s0 := A.sum0.2
  have ub : t.sum ≤ 12 := by
    have q2 : Cal.S (fun i => g (20 + i)) 12 * t.length ≤ 12 * 12 := Int.mul_le_mul sb (by omega) (by omega) (by decide)
    omega
  refine ⟨rn t.sum (t.length : Nat), rd t.sum (t.length : Nat), e, q1, by omega, by omega, by omega, ?_, ?_⟩
  · generalize rn t.sum (t.length : Nat) = x at *
    generalize rd t.sum (t.length : Nat) = y at *
    generalize Cal.S (fun i => g (20 + i)) 12 = s at *
    generalize ((t.length : Nat) : Int) = b at *
    generalize t.sum = a at *
    refine Int.eq_of_mul_eq_mul_right hb0 ?_
    grind
  · have w := m_wait_of_eq A
    by_cases z : t.sum = 0
    · rw [if_pos z] at w
      exact .inl ⟨w, q4.mpr z⟩
    · rw [if_neg z] at w
      refine .inr ⟨fun k => z (q4.mp k), (lw g (h.length + 2 * t.length)).toNat, ?_, ?_, fun f => ?_⟩
      · have := lw_nn g (h.length + 2 * t.length)
        rw [w]
        refine pure_inj ?_
        congr 1
        omega
      · have := lw_le g (h.length + 2 * t.length)
        omega
      · have := lw_nn g (h.length + 2 * t.length)
        obtain ⟨i, i1, i2, i3⟩ := wait_ok A z f
        exact ⟨i, i1, by omega, i3⟩
end
theorem wp_fx {w : Dw} {Q : D → Dw → Prop} (hQ : ∀ C g w', Fx C g 4 → Q C w') : wp (m__law_calendar [.drw]) Q w :=
  wp_cal fun h t g w' A h4 => hQ _ g w' ⟨h, t, rfl, A, h4⟩
/-! ### times, one by one -/
theorem b01 {a : Int} (h : a = 0 ∨ a = 1) : decide (a = 0) = !decide (a = 1) := by
  rcases h with rfl | rfl <;> rfl
theorem bits1 (b : Nat → Bool) (i : Nat) : decide (bits b i = 1) = b i := by
  unfold bits
  cases b i <;> rfl
theorem bits_val {b : Nat → Bool} {g : Nat → Int} (h : ∀ i, g i = 0 ∨ g i = 1) (e : ∀ i, b i = decide (g i = 1)) (i : Nat) : bits b i = g i := by
  unfold bits
  rw [e]
  rcases h i with z | z <;> rw [z] <;> rfl
theorem S_shift (g : Nat → Int) (k : Nat) : ∀ n, Cal.S (fun i => if i < k then 0 else g (i - k)) (n + k) = Cal.S g n
  | 0 => by
    rw [Nat.zero_add]
    exact S_zeros (g := fun i => if i < k then 0 else g (i - k)) (a := 0) (b := k) (by omega) (fun j _ hj => by
      show (if j < k then 0 else g (j - k)) = 0
      rw [if_pos hj])
  | n + 1 => by
    have e : n + 1 + k = (n + k) + 1 := by omega
    rw [e]
    show Cal.S (fun i => if i < k then 0 else g (i - k)) (n + k) + (if n + k < k then 0 else g (n + k - k)) = Cal.S g n + g n
    rw [S_shift g k n, if_neg (by omega)]
    have : n + k - k = n := by omega
    rw [this]
end K80

namespace K80
open PySem L2 Fc Sh
local macro_rules | `(tactic| walk_at "ev") => `(tactic| simp (disch := omega) only [List.map_cons, List.map_nil, List.length_cons, List.length_nil, List.replicate, List.cons_append, List.nil_append,
  sIf, Fc.tB, tT, tAndF, tOrF, tNotF, eBin, eUn, eVar_zero, eVar_succ, eC, pb, asB, asI, liftO_pure, sPar, aCons, aNil, sAsg, eCall, eDef, setT, setTs, sRet, sNil, sPar3, eTup, eLst, eIf, eIsi, eIsi2, isTy2, eNotT, eAndV, eOrV, eChain, eSl, oNone, oSome, sBk, sCt, itCall, itSeq, dItems,
  dAdd_int, dAdd_tup, dMul_tup, dRange1_ok, dRange2_ok, dSub, dDiv_ok, dMod_ok, dMul_okL, dMul_okR, len_ok, dLt, dLe, dGt, dGe, dEq_int, dNe_int, dNeg, dLen, dAbs, dInt, dGcd, dMax2_eq, dMin2, dSum_tup, dSum_lst, dLcm_ok, dDivmod_ok, dTuple, dList, dTru, dIs_non, dIsNot_non, dIs_bl, dIsNot_bl, isNon_int, isNon_bl, isNon_str, isNon_tup, isNon_lst, isNon_non, dEq_bl, dNe_bl, dIx_tup, dIx_lst, at0, at1, at2, dSl,
  isTy_int_non, isTy_int_bl, isTy_int_int, isTy_int_str, isTy_int_tup, isTy_int_lst, isTy_bool_non, isTy_bool_bl, isTy_bool_int, isTy_bool_str, isTy_bool_tup, isTy_bool_lst, isTy_tuple_non, isTy_tuple_bl, isTy_tuple_int, isTy_tuple_str, isTy_tuple_tup, isTy_tuple_lst, isTy_list_non, isTy_list_bl, isTy_list_int, isTy_list_str, isTy_list_tup, isTy_list_lst, isTy_str_non, isTy_str_bl, isTy_str_int, isTy_str_str, isTy_str_tup, isTy_str_lst,
  opt_bind_some, opt_map_some, Bool.or_true, Bool.true_or, Bool.or_false, Bool.false_or, Bool.not_true, Bool.not_false, Bool.and_true, Bool.true_and,
  decide_true, decide_false, if_tt, if_ff, if_T, if_F, set_zero, set_succ, endF_rt, endF_nx, decide_eq_true, decide_eq_false, *])
local macro_rules | `(tactic| walk_at "ew") => `(tactic| simp (disch := omega) only [List.map_cons, List.map_nil, List.length_cons, List.length_nil, List.replicate, List.cons_append, List.nil_append,
  sIf, Fc.tB, tT, tAndF, tOrF, tNotF, eBin, eUn, eVar_zero, eVar_succ, eC, pb, asB, asI, liftO_pure, sPar, aCons, aNil, sAsg, eCall, eDef, setT, setTs, sRet, sNil, sPar3, eTup, eLst, eIf, eIsi, eIsi2, isTy2, eNotT, eAndV, eOrV, eChain, eSl, oNone, oSome, sBk, sCt, itCall, itSeq, dItems,
  dAdd_int, dAdd_tup, dMul_tup, dRange1_ok, dRange2_ok, dSub, dDiv_ok, dMod_ok, dMul_okL, dMul_okR, len_ok, dLt, dLe, dGt, dGe, dEq_int, dNe_int, dNeg, dLen, dAbs, dInt, dGcd, dMax2_eq, dMin2, dSum_tup, dSum_lst, dLcm_ok, dDivmod_ok, dTuple, dList, dTru, dIs_non, dIsNot_non, dIs_bl, dIsNot_bl, isNon_int, isNon_bl, isNon_str, isNon_tup, isNon_lst, isNon_non, dEq_bl, dNe_bl, dIx_tup, dIx_lst, at0, at1, at2, dSl,
  isTy_int_non, isTy_int_bl, isTy_int_int, isTy_int_str, isTy_int_tup, isTy_int_lst, isTy_bool_non, isTy_bool_bl, isTy_bool_int, isTy_bool_str, isTy_bool_tup, isTy_bool_lst, isTy_tuple_non, isTy_tuple_bl, isTy_tuple_int, isTy_tuple_str, isTy_tuple_tup, isTy_tuple_lst, isTy_list_non, isTy_list_bl, isTy_list_int, isTy_list_str, isTy_list_tup, isTy_list_lst, isTy_str_non, isTy_str_bl, isTy_str_int, isTy_str_str, isTy_str_tup, isTy_str_lst,
  wp_bind, wp_pure, wp_liftO, opt_bind_some, opt_map_some, Bool.or_true, Bool.true_or, Bool.or_false, Bool.false_or, Bool.not_true, Bool.not_false, Bool.and_true, Bool.true_and,
  decide_true, decide_false, if_tt, if_ff, if_T, if_F, set_zero, set_succ, endF_rt, endF_nx, decide_eq_true, decide_eq_false, *])
section
variable {cl : List D} {F L : Int} {c1 c2 c3 cb ce cr f l cs wt j23 m13 X d1 d2 de u v : D} {m1 : Int} {x10 x11 x12 x13 x15 x16 x17 x18 x19 x20 : Option D}
theorem same3_if (h1 : m_join [cb, cr] = pure c1) (h2 : m_join [c2, c3] = pure j23) (h3 : m_meet [c1, j23] = pure X) (h4 : m_meet [c1, c3] = pure m13) (h5 : m_join [cb, m13] = pure X) (h6 : m_without [c1, c2] = pure cr) (h7 : m_without [c1, cr] = pure cb) (s1 : m__law_same [c1, c1] = pure (.bl true)) (s2 : m__law_same [X, X] = pure (.bl true)) (s3 : m__law_same [cb, cb] = pure (.bl true)) :
    (tOrF (tNotF (tT (eDef m__law_same (aCons (eDef m_join (aCons (eVar 5) (aCons (eVar 7) aNil))) (aCons (eVar 2) aNil))))) (tOrF (tNotF (tT (eDef m__law_same (aCons (eDef m_meet (aCons (eVar 2) (aCons (eDef m_join (aCons (eVar 3) (aCons (eVar 4) aNil))) aNil))) (aCons (eDef m_join (aCons (eVar 5) (aCons (eDef m_meet (aCons (eVar 2) (aCons (eVar 4) aNil))) aNil))) aNil))))) (tNotF (tT (eDef m__law_same (aCons (eDef m_without (aCons (eVar 2) (aCons (eDef m_without (aCons (eVar 2) (aCons (eVar 3) aNil))) aNil))) (aCons (eVar 5) aNil))))))) [none, some .drw, some c1, some c2, some c3, some cb, some ce, some cr, some f, some l, x10, x11, x12, x13, some cs, x15, x16, x17, x18, x19, x20] = pure false := by
  walk_at "ev"
theorem shift_if {B F' L' : Int} (hcs : atI cl 0 = some (.int m1)) (h1 : m_shifted [c1, .int B] = pure d1) (h2 : m_shifted [c2, .int B] = pure d2) (h3 : m_shifted [ce, .int B] = pure de) (h4 : m_join [d1, d2] = pure de) (h5 : m_count_between [d1, .int F', .int L'] = pure (.int m1)) (hF : F + B = F') (hL : L + B = L') (s1 : m__law_same [de, de] = pure (.bl true)) :
    (tOrF (Fc.tB (eBin dNe (eDef m_count_between (aCons (eDef m_shifted (aCons (eVar 2) (aCons (eVar 15) aNil))) (aCons (eBin dAdd (eVar 8) (eVar 15)) (aCons (eBin dAdd (eVar 9) (eVar 15)) aNil)))) (eBin dIx (eVar 14) (eC (.int 0))))) (tNotF (tT (eDef m__law_same (aCons (eDef m_join (aCons (eDef m_shifted (aCons (eVar 2) (aCons (eVar 15) aNil))) (aCons (eDef m_shifted (aCons (eVar 3) (aCons (eVar 15) aNil))) aNil))) (aCons (eDef m_shifted (aCons (eVar 6) (aCons (eVar 15) aNil))) aNil)))))) [none, some .drw, some c1, some c2, some c3, some cb, some ce, some cr, some (.int F), some (.int L), x10, x11, x12, x13, some (.lst cl), some (.int B), x16, x17, x18, x19, x20] = pure false := by
  walk_at "ev"
theorem share_if {s1 s2 sb se : D} (h1 : m_share_of [c1] = pure s1) (h2 : m_share_of [c2] = pure s2) (hb : m_share_of [cb] = pure sb) (he : m_share_of [ce] = pure se) (hu : m__law_add [sb, se] = pure u) (hv : m__law_add [s1, s2] = pure u) (hn : dNe u u = some (.bl false)) :
    (Fc.tB (eBin dNe (eDef m__law_add (aCons (eDef m_share_of (aCons (eVar 5) aNil)) (aCons (eDef m_share_of (aCons (eVar 6) aNil)) aNil))) (eDef m__law_add (aCons (eDef m_share_of (aCons (eVar 2) aNil)) (aCons (eDef m_share_of (aCons (eVar 3) aNil)) aNil))))) [none, some .drw, some c1, some c2, some c3, some cb, some ce, some cr, some f, some l, x10, x11, x12, x13, some cs, x15, x16, x17, x18, x19, x20] = pure false := by
  walk_at "ev"
theorem wait_st (h : m_wait_of [c1] = pure wt) : sAsg (.nm 16) (eDef m_wait_of (aCons (eVar 2) aNil)) [none, some .drw, some c1, some c2, some c3, some cb, some ce, some cr, some f, some l, x10, x11, x12, x13, some cs, x15, x16, x17, x18, x19, x20] = pure (.nx, [none, some .drw, some c1, some c2, some c3, some cb, some ce, some cr, some f, some l, x10, x11, x12, x13, some cs, x15, some wt, x17, x18, x19, x20]) := by
  walk_at "ev"
theorem wait_if0 {s1 : D} (h1 : m_share_of [c1] = pure s1) (hd : dEq s1 (.tup [.int 0, .int 1]) = some (.bl true)) : (tOrF (Fc.tB (eBin dNe (eBin dIs (eVar 16) (eC .non)) (eBin dEq (eDef m_share_of (aCons (eVar 2) aNil)) (eTup (aCons (eC (.int 0)) (aCons (eC (.int 1)) aNil)))))) (tAndF (Fc.tB (eBin dIsNot (eVar 16) (eC .non))) (Fc.tB (eBin dLt (eDef m_count_between (aCons (eVar 2) (aCons (eVar 8) (aCons (eBin dAdd (eVar 8) (eVar 16)) aNil)))) (eC (.int 1)))))) [none, some .drw, some c1, some c2, some c3, some cb, some ce, some cr, some f, some l, x10, x11, x12, x13, some cs, x15, some .non, x17, x18, x19, x20] = pure false := by
  walk_at "ev"
theorem wait_if1 {s1 : D} {W F' n : Int} (h1 : m_share_of [c1] = pure s1) (hd : dEq s1 (.tup [.int 0, .int 1]) = some (.bl false)) (hF : F + W = F') (hc : m_count_between [c1, .int F, .int F'] = pure (.int n)) (hn : ¬ n < 1) : (tOrF (Fc.tB (eBin dNe (eBin dIs (eVar 16) (eC .non)) (eBin dEq (eDef m_share_of (aCons (eVar 2) aNil)) (eTup (aCons (eC (.int 0)) (aCons (eC (.int 1)) aNil)))))) (tAndF (Fc.tB (eBin dIsNot (eVar 16) (eC .non))) (Fc.tB (eBin dLt (eDef m_count_between (aCons (eVar 2) (aCons (eVar 8) (aCons (eBin dAdd (eVar 8) (eVar 16)) aNil)))) (eC (.int 1)))))) [none, some .drw, some c1, some c2, some c3, some cb, some ce, some cr, some (.int F), some l, x10, x11, x12, x13, some cs, x15, some (.int W), x17, x18, x19, x20] = pure false := by
  walk_at "ev"
theorem spans_st {sp : D} (h : m_spans [c1, f, l] = pure sp) : sAsg (.nm 17) (eDef m_spans (aCons (eVar 2) (aCons (eVar 8) (aCons (eVar 9) aNil)))) [none, some .drw, some c1, some c2, some c3, some cb, some ce, some cr, some f, some l, x10, x11, x12, x13, some cs, x15, x16, x17, x18, x19, x20] = pure (.nx, [none, some .drw, some c1, some c2, some c3, some cb, some ce, some cr, some f, some l, x10, x11, x12, x13, some cs, x15, x16, some sp, x18, x19, x20]) := by
  walk_at "ev"
theorem wid_if {ls : List (Int × Int)} (hl : ls.length ≤ 1000) (hcs : atI cl 0 = some (.int m1)) (hw : width ls = m1) : (Fc.tB (eBin dNe (eCall dSum (aCons (eLc [19, 20] (.tp [(.nm 19), (.nm 20)]) (itSeq (eVar 17)) tYesF (eBin dAdd (eBin dSub (eVar 20) (eVar 19)) (eC (.int 1)))) aNil)) (eBin dIx (eVar 14) (eC (.int 0))))) [none, some .drw, some c1, some c2, some c3, some cb, some ce, some cr, some f, some l, x10, x11, x12, x13, some (.lst cl), x15, x16, some (.lst (pl ls)), x18, x19, x20] = pure false := by
  have comp : lcL (.tp [.nm 19, .nm 20]) tYesF (eBin dAdd (eBin dSub (eVar 20) (eVar 19)) (eC (.int 1))) [none, some .drw, some c1, some c2, some c3, some cb, some ce, some cr, some f, some l, x10, x11, x12, x13, some (.lst cl), x15, x16, some (.lst (pl ls)), x18, none, none] (pl ls) = pure (zl (ls.map fun p => p.2 - p.1 + 1)) := by
    rw [lcL_map (fun d => match d with | .tup [.int a, .int b] => .int (b - a + 1) | _ => .non) fun d hd => ?_]
    · refine pure_inj ?_
      unfold pl zl
      rw [List.map_map, List.map_map]
      rfl
    · obtain ⟨p, hp, rfl⟩ := List.mem_map.mp hd
      exact ⟨[none, some .drw, some c1, some c2, some c3, some cb, some ce, some cr, some f, some l, x10, x11, x12, x13, some (.lst cl), x15, x16, some (.lst (pl ls)), x18, some (.int p.1), some (.int p.2)], rfl, rfl⟩
  have e := eLc_eq (own := [19, 20]) (T := .tp [.nm 19, .nm 20]) (fs := itSeq (eVar 17)) (t := tYesF) (f := eBin dAdd (eBin dSub (eVar 20) (eVar 19)) (eC (.int 1))) (δ := [none, some .drw, some c1, some c2, some c3, some cb, some ce, some cr, some f, some l, x10, x11, x12, x13, some (.lst cl), x15, x16, some (.lst (pl ls)), x18, x19, x20]) (ds := pl ls) rfl (by unfold pl; rw [List.length_map]; omega) comp
  have e2 := dSum_lst (ls.map fun p => p.2 - p.1 + 1)
  have e3 : (ls.map fun p => p.2 - p.1 + 1).sum = m1 := hw
  rw [e3] at e2
  clear comp hw e3 hl
  walk_at "ev"
theorem last_if {z : D} {J n : Int} {zs : List D} (hcs : atI cl 0 = some (.int m1)) (hm : m1 > 0) (h1 : m_first_from [c1, .int F] = pure (.int J)) (hF : F ≤ J) (hL : J ≤ L) (h2 : m_count_between [c1, .int 0, .int J] = pure (.int n)) (h3 : m_nth [c1, .int (n - 1)] = pure (.int J)) (h4 : atI zs 0 = some (.tup [.int J, z])) :
    (sIf (Fc.tB (eBin dGt (eBin dIx (eVar 14) (eC (.int 0))) (eC (.int 0)))) (sSeq (sAsg (.nm 10) (eDef m_first_from (aCons (eVar 2) (aCons (eVar 8) aNil))))
      (sIf (tOrF (tNotF (Fc.tB (eChain dLe dLe (eVar 8) (eVar 10) (eVar 9)))) (tOrF (Fc.tB (eBin dNe (eDef m_nth (aCons (eVar 2) (aCons (eBin dSub (eDef m_count_between (aCons (eVar 2) (aCons (eC (.int 0)) (aCons (eVar 10) aNil)))) (eC (.int 1))) aNil))) (eVar 10))) (Fc.tB (eBin dNe (eBin dIx (eBin dIx (eVar 17) (eC (.int 0))) (eC (.int 0))) (eVar 10))))) (sRet (eC (.bl false))) sNil)) sNil) [none, some .drw, some c1, some c2, some c3, some cb, some ce, some cr, some (.int F), some (.int L), x10, x11, x12, x13, some (.lst cl), x15, x16, some (.lst zs), x18, x19, x20] = pure (.nx, [none, some .drw, some c1, some c2, some c3, some cb, some ce, some cr, some (.int F), some (.int L), some (.int J), x11, x12, x13, some (.lst cl), x15, x16, some (.lst zs), x18, x19, x20]) := by
  rw [sIf_t (by
    clear h1 h2 h3 h4
    walk_at "ev")]
  rw [sSeq_nx (δ1 := [none, some .drw, some c1, some c2, some c3, some cb, some ce, some cr, some (.int F), some (.int L), some (.int J), x11, x12, x13, some (.lst cl), x15, x16, some (.lst zs), x18, x19, x20]) (by
    clear h2 h3 h4
    walk_at "ev")]
  rw [sIf_f (by
    clear h1
    walk_at "ev")]
  rfl
theorem last_if0 (hcs : atI cl 0 = some (.int m1)) (hm : ¬ m1 > 0) {A : F1} {zs : List D} : (sIf (Fc.tB (eBin dGt (eBin dIx (eVar 14) (eC (.int 0))) (eC (.int 0)))) A sNil) [none, some .drw, some c1, some c2, some c3, some cb, some ce, some cr, some (.int F), some (.int L), x10, x11, x12, x13, some (.lst cl), x15, x16, some (.lst zs), x18, x19, x20] = pure (.nx, [none, some .drw, some c1, some c2, some c3, some cb, some ce, some cr, some (.int F), some (.int L), x10, x11, x12, x13, some (.lst cl), x15, x16, some (.lst zs), x18, x19, x20]) := by
  rw [sIf_f (by walk_at "ev")]
  rfl
end
end K80

namespace K80
open PySem L2 Fc Sh
local macro_rules | `(tactic| walk_at "ev") => `(tactic| simp (disch := omega) only [List.map_cons, List.map_nil, List.length_cons, List.length_nil, List.replicate, List.cons_append, List.nil_append,
  sIf, Fc.tB, tT, tAndF, tOrF, tNotF, eBin, eUn, eVar_zero, eVar_succ, eC, pb, asB, asI, liftO_pure, sPar, aCons, aNil, sAsg, eCall, eDef, setT, setTs, sRet, sNil, sPar3, eTup, eLst, eIf, eIsi, eIsi2, isTy2, eNotT, eAndV, eOrV, eChain, eSl, oNone, oSome, sBk, sCt, itCall, itSeq, dItems,
  dAdd_int, dAdd_tup, dMul_tup, dRange1_ok, dRange2_ok, dSub, dDiv_ok, dMod_ok, dMul_okL, dMul_okR, len_ok, dLt, dLe, dGt, dGe, dEq_int, dNe_int, dNeg, dLen, dAbs, dInt, dGcd, dMax2_eq, dMin2, dSum_tup, dSum_lst, dLcm_ok, dDivmod_ok, dTuple, dList, dTru, dIs_non, dIsNot_non, dIs_bl, dIsNot_bl, isNon_int, isNon_bl, isNon_str, isNon_tup, isNon_lst, isNon_non, dEq_bl, dNe_bl, dIx_tup, dIx_lst, at0, at1, at2, dSl,
  isTy_int_non, isTy_int_bl, isTy_int_int, isTy_int_str, isTy_int_tup, isTy_int_lst, isTy_bool_non, isTy_bool_bl, isTy_bool_int, isTy_bool_str, isTy_bool_tup, isTy_bool_lst, isTy_tuple_non, isTy_tuple_bl, isTy_tuple_int, isTy_tuple_str, isTy_tuple_tup, isTy_tuple_lst, isTy_list_non, isTy_list_bl, isTy_list_int, isTy_list_str, isTy_list_tup, isTy_list_lst, isTy_str_non, isTy_str_bl, isTy_str_int, isTy_str_str, isTy_str_tup, isTy_str_lst,
  opt_bind_some, opt_map_some, Bool.or_true, Bool.true_or, Bool.or_false, Bool.false_or, Bool.not_true, Bool.not_false, Bool.and_true, Bool.true_and,
  decide_true, decide_false, if_tt, if_ff, if_T, if_F, set_zero, set_succ, endF_rt, endF_nx, decide_eq_true, decide_eq_false, *])
local macro_rules | `(tactic| walk_at "ew") => `(tactic| simp (disch := omega) only [List.map_cons, List.map_nil, List.length_cons, List.length_nil, List.replicate, List.cons_append, List.nil_append,
  sIf, Fc.tB, tT, tAndF, tOrF, tNotF, eBin, eUn, eVar_zero, eVar_succ, eC, pb, asB, asI, liftO_pure, sPar, aCons, aNil, sAsg, eCall, eDef, setT, setTs, sRet, sNil, sPar3, eTup, eLst, eIf, eIsi, eIsi2, isTy2, eNotT, eAndV, eOrV, eChain, eSl, oNone, oSome, sBk, sCt, itCall, itSeq, dItems,
  dAdd_int, dAdd_tup, dMul_tup, dRange1_ok, dRange2_ok, dSub, dDiv_ok, dMod_ok, dMul_okL, dMul_okR, len_ok, dLt, dLe, dGt, dGe, dEq_int, dNe_int, dNeg, dLen, dAbs, dInt, dGcd, dMax2_eq, dMin2, dSum_tup, dSum_lst, dLcm_ok, dDivmod_ok, dTuple, dList, dTru, dIs_non, dIsNot_non, dIs_bl, dIsNot_bl, isNon_int, isNon_bl, isNon_str, isNon_tup, isNon_lst, isNon_non, dEq_bl, dNe_bl, dIx_tup, dIx_lst, at0, at1, at2, dSl,
  isTy_int_non, isTy_int_bl, isTy_int_int, isTy_int_str, isTy_int_tup, isTy_int_lst, isTy_bool_non, isTy_bool_bl, isTy_bool_int, isTy_bool_str, isTy_bool_tup, isTy_bool_lst, isTy_tuple_non, isTy_tuple_bl, isTy_tuple_int, isTy_tuple_str, isTy_tuple_tup, isTy_tuple_lst, isTy_list_non, isTy_list_bl, isTy_list_int, isTy_list_str, isTy_list_tup, isTy_list_lst, isTy_str_non, isTy_str_bl, isTy_str_int, isTy_str_str, isTy_str_tup, isTy_str_lst,
  wp_bind, wp_pure, wp_liftO, opt_bind_some, opt_map_some, Bool.or_true, Bool.true_or, Bool.or_false, Bool.false_or, Bool.not_true, Bool.not_false, Bool.and_true, Bool.true_and,
  decide_true, decide_false, if_tt, if_ff, if_T, if_F, set_zero, set_succ, endF_rt, endF_nx, decide_eq_true, decide_eq_false, *])
theorem wp_seq {F F' : F1} {δ δ1 : Fc.Env} {Q : Out × Fc.Env → Dw → Prop} {w : Dw} (h : F δ = pure (.nx, δ1)) (k : wp (F' δ1) Q w) : wp (sSeq F F' δ) Q w := by
  rw [sSeq_nx h]
  exact k
theorem wp_seqW {F F' : F1} {δ : Fc.Env} {Q : Out × Fc.Env → Dw → Prop} {w : Dw} (h : wp (F δ) (fun p w' => ∃ δ1, p = (.nx, δ1) ∧ wp (F' δ1) Q w') w) : wp (sSeq F F' δ) Q w := by
  rw [sSeq_eq, wp_bind]
  refine wp_mono h fun p w' ⟨δ1, e, k⟩ => ?_
  subst e
  exact k
def EndT (p : Out × Fc.Env) (_ : Dw) : Prop := ∃ δ, p = (.rt (.bl true), δ)
theorem wp_if {c : Fc.Env → M Bool} {A F' : F1} {δ : Fc.Env} {Q : Out × Fc.Env → Dw → Prop} {w : Dw} (h : c δ = pure false) (k : wp (F' δ) Q w) : wp (sSeq (sIf c A sNil) F' δ) Q w := by
  rw [sSeq_nx (δ1 := δ) (by rw [sIf_f h]; rfl)]
  exact k
theorem nx_draw1 {i : Nat} {mx : Int} {F' : F1} {δ : Fc.Env} {w : Dw} (hm : 0 < mx ∧ mx < 1073741824) {Q : Out × Fc.Env → Dw → Prop} (e : eVar 1 δ = pure .drw) {f : Fc.Env → M D} (hf : f δ = pure (.int mx))
    (k : ∀ k w', 0 ≤ k → k < mx → wp (F' (δ.set i (some (.int k)))) Q w') : wp (sSeq (sAsg (.nm i) (eDef nextF (aCons (eVar 1) (aCons f aNil)))) F' δ) Q w := by
  refine wp_seqW ?_
  show wp (eDef nextF (aCons (eVar 1) (aCons f aNil)) δ >>= fun x => liftO (setT (.nm i) x δ) >>= fun δ' => pure (Out.nx, δ')) _ w
  rw [wp_bind]
  have e2 : eDef nextF (aCons (eVar 1) (aCons f aNil)) δ = nextF [.drw, .int mx] := by
    unfold eDef aCons aNil
    rw [e, hf]
    rfl
  rw [e2]
  refine wp_next hm fun k' w' h1 h2 => ?_
  show wp (pure (Out.nx, δ.set i (some (D.int k')))) _ w'
  rw [wp_pure]
  exact ⟨_, rfl, k k' w' h1 h2⟩
/-! ### one time of the loop -/
def tmBody : F1 := (sSeq (sPar3 11 12 13 (aCons (eDef m_holds (aCons (eVar 2) (aCons (eVar 10) aNil))) (aCons (eDef m_holds (aCons (eVar 3) (aCons (eVar 10) aNil))) (aCons (eDef m_holds (aCons (eVar 4) (aCons (eVar 10) aNil))) aNil))))
      (sSeq (sIf (tOrF (Fc.tB (eBin dNe (eDef m_holds (aCons (eVar 5) (aCons (eVar 10) aNil))) (eAndV (eVar 11) (eVar 12)))) (tOrF (Fc.tB (eBin dNe (eDef m_holds (aCons (eVar 6) (aCons (eVar 10) aNil))) (eOrV (eVar 11) (eVar 12)))) (Fc.tB (eBin dNe (eDef m_holds (aCons (eVar 7) (aCons (eVar 10) aNil))) (eAndV (eVar 11) (eNotT (eVar 12))))))) (sRet (eC (.bl false))) sNil)
      (sIf (Fc.tB (eBin dNe (eDef m_holds (aCons (eDef m_at_least (aCons (eLst (aCons (eVar 2) (aCons (eVar 3) (aCons (eVar 4) aNil)))) (aCons (eC (.int 2)) aNil))) (aCons (eVar 10) aNil))) (eBin dGe (eBin dCount (eLst (aCons (eVar 11) (aCons (eVar 12) (aCons (eVar 13) aNil)))) (eC (.bl true))) (eC (.int 2))))) (sRet (eC (.bl false))) sNil)))
section
variable {c1 c2 c3 cb ce cr ca T d0 d8 d9 : D} {x y z : Bool} {n : Int} {x10 x11 x12 x13 r14 r15 r16 r17 r18 r19 r20 : Option D}
theorem tm_ok (h1 : m_holds [c1, T] = pure (.bl x)) (h2 : m_holds [c2, T] = pure (.bl y)) (h3 : m_holds [c3, T] = pure (.bl z)) (hb : m_holds [cb, T] = pure (.bl (x && y))) (he : m_holds [ce, T] = pure (.bl (x || y))) (hr : m_holds [cr, T] = pure (.bl (x && !y)))
    (ha : m_at_least [.lst [c1, c2, c3], .int 2] = pure ca) (hn : dCount (.lst [.bl x, .bl y, .bl z]) (.bl true) = some (.int n)) (hm : m_holds [ca, T] = pure (.bl (decide (2 ≤ n)))) :
    tmBody [none, some .drw, some c1, some c2, some c3, some cb, some ce, some cr, some d8, some d9, some T, x11, x12, x13, r14, r15, r16, r17, r18, r19, r20] = pure (.nx, [none, some .drw, some c1, some c2, some c3, some cb, some ce, some cr, some d8, some d9, some T, some (.bl x), some (.bl y), some (.bl z), r14, r15, r16, r17, r18, r19, r20]) := by
  unfold tmBody
  rw [sSeq_nx (δ1 := [none, some .drw, some c1, some c2, some c3, some cb, some ce, some cr, some d8, some d9, some T, some (.bl x), some (.bl y), some (.bl z), r14, r15, r16, r17, r18, r19, r20]) (by
    clear hb he hr hm hn ha
    walk_at "ev")]
  rw [sSeq_nx (δ1 := [none, some .drw, some c1, some c2, some c3, some cb, some ce, some cr, some d8, some d9, some T, some (.bl x), some (.bl y), some (.bl z), r14, r15, r16, r17, r18, r19, r20]) (by
    rw [sIf_f]
    · rfl
    · clear hm hn ha h1 h2 h3
      cases x <;> cases y <;> simp only [Bool.and_true, Bool.true_and, Bool.and_false, Bool.false_and, Bool.or_true, Bool.true_or, Bool.or_false, Bool.false_or, Bool.not_true, Bool.not_false] at hb he hr <;> walk_at "ev")]
  rw [sIf_f]
  · rfl
  · clear hb he hr h1 h2 h3
    walk_at "ev"
end
theorem bit_sum {x y : Int} (hx : x = 0 ∨ x = 1) (hy : y = 0 ∨ y = 1) : (if (!(decide (x = 0) || decide (y = 0))) = true then (1 : Int) else 0) + (if (decide (x = 1) || decide (y = 1)) = true then 1 else 0) = x + y := by
  rcases hx with rfl | rfl <;> rcases hy with rfl | rfl <;> rfl
theorem bit_rest {x y : Int} (hx : x = 0 ∨ x = 1) (hy : y = 0 ∨ y = 1) : (if (decide (x = 1) && decide (y = 0)) = true then (1 : Int) else 0) + (if (!(decide (x = 0) || decide (y = 0))) = true then 1 else 0) = x := by
  rcases hx with rfl | rfl <;> rcases hy with rfl | rfl <;> rfl
theorem bits_congr {b b' : Nat → Bool} (h : ∀ i, b i = b' i) (i : Nat) : bits b i = bits b' i := by
  unfold bits
  rw [h]
theorem cnt3 (x y z : Bool) : dCount (.lst [.bl x, .bl y, .bl z]) (.bl true) = some (.int ((if x then 1 else 0) + (if y then 1 else 0) + (if z then 1 else 0))) := by
  cases x <;> cases y <;> cases z <;> rfl
section
variable {c1 c2 c3 cb ce cr f l : D} {m1 m2 mb me mr : Int} {x10 x11 x12 x13 r15 r16 r17 r18 r19 r20 : Option D}
theorem cnt_ok (h1 : m_count_between [c1, f, l] = pure (.int m1)) (h2 : m_count_between [c2, f, l] = pure (.int m2)) (hb : m_count_between [cb, f, l] = pure (.int mb)) (he : m_count_between [ce, f, l] = pure (.int me)) (hr : m_count_between [cr, f, l] = pure (.int mr)) :
    sAsg (.nm 14) (eLc [18] (.nm 18) (itSeq (eTup (aCons (eVar 2) (aCons (eVar 3) (aCons (eVar 5) (aCons (eVar 6) (aCons (eVar 7) aNil))))))) tYesF (eDef m_count_between (aCons (eVar 18) (aCons (eVar 8) (aCons (eVar 9) aNil))))) [none, some .drw, some c1, some c2, some c3, some cb, some ce, some cr, some f, some l, x10, x11, x12, x13, none, r15, r16, r17, r18, r19, r20]
      = pure (.nx, [none, some .drw, some c1, some c2, some c3, some cb, some ce, some cr, some f, some l, x10, x11, x12, x13, some (.lst [.int m1, .int m2, .int mb, .int me, .int mr]), r15, r16, r17, r18, r19, r20]) := by
  have comp : lcL (.nm 18) tYesF (eDef m_count_between (aCons (eVar 18) (aCons (eVar 8) (aCons (eVar 9) aNil)))) [none, some .drw, some c1, some c2, some c3, some cb, some ce, some cr, some f, some l, x10, x11, x12, x13, none, r15, r16, r17, none, r19, r20] [c1, c2, cb, ce, cr] = pure [.int m1, .int m2, .int mb, .int me, .int mr] := by
    show (m_count_between [c1, f, l] >>= fun y => ((m_count_between [c2, f, l] >>= fun y => ((m_count_between [cb, f, l] >>= fun y => ((m_count_between [ce, f, l] >>= fun y => ((m_count_between [cr, f, l] >>= fun y => ((pure [] : M (List D)) >>= fun ys => pure (y :: ys))) >>= fun ys => pure (y :: ys))) >>= fun ys => pure (y :: ys))) >>= fun ys => pure (y :: ys))) >>= fun ys => pure (y :: ys))) = _
    rw [h1, h2, hb, he, hr]
    rfl
  have e := eLc_eq (own := [18]) (T := .nm 18) (fs := itSeq (eTup (aCons (eVar 2) (aCons (eVar 3) (aCons (eVar 5) (aCons (eVar 6) (aCons (eVar 7) aNil))))))) (t := tYesF) (f := eDef m_count_between (aCons (eVar 18) (aCons (eVar 8) (aCons (eVar 9) aNil)))) (δ := [none, some .drw, some c1, some c2, some c3, some cb, some ce, some cr, some f, some l, x10, x11, x12, x13, none, r15, r16, r17, r18, r19, r20]) (ds := [c1, c2, cb, ce, cr]) rfl (by simp) comp
  show (eLc _ _ _ _ _ _ >>= fun d => liftO (setT (.nm 14) d _) >>= fun δ' => pure (Out.nx, δ')) = _
  rw [e, pb]
  rfl
theorem cnt_if (s1 : mb + me = m1 + m2) (s2 : mr + mb = m1) : (tOrF (Fc.tB (eBin dNe (eBin dAdd (eBin dIx (eVar 14) (eC (.int 2))) (eBin dIx (eVar 14) (eC (.int 3)))) (eBin dAdd (eBin dIx (eVar 14) (eC (.int 0))) (eBin dIx (eVar 14) (eC (.int 1)))))) (Fc.tB (eBin dNe (eBin dAdd (eBin dIx (eVar 14) (eC (.int 4))) (eBin dIx (eVar 14) (eC (.int 2)))) (eBin dIx (eVar 14) (eC (.int 0)))))) [none, some .drw, some c1, some c2, some c3, some cb, some ce, some cr, some f, some l, x10, x11, x12, x13, some (.lst [.int m1, .int m2, .int mb, .int me, .int mr]), r15, r16, r17, r18, r19, r20] = pure false := by
  have a3 : atI [D.int m1, .int m2, .int mb, .int me, .int mr] 3 = some (.int me) := rfl
  have a4 : atI [D.int m1, .int m2, .int mb, .int me, .int mr] 4 = some (.int mr) := rfl
  walk_at "ev"
end
theorem law_true : ∀ ns : List Int, ns.length ≤ 63 → ∃ δ' w', F_law (none :: some .drw :: List.replicate 19 none) ⟨ns, 0, 0, 17⟩ = some ((.rt (.bl true), δ'), w') := by
  intro ns _
  suffices h : wp (F_law [none, some .drw, none, none, none, none, none, none, none, none, none, none, none, none, none, none, none, none, none, none, none]) EndT ⟨ns, 0, 0, 17⟩ by
    obtain ⟨p, w', e, δ, rfl⟩ := h
    exact ⟨δ, w', e⟩
  unfold F_law
  generalize (⟨ns, 0, 0, 17⟩ : Dw) = w
  refine wp_seqW ?_
  walk_at "ew"
  refine wp_fx fun c1 g1 w A1 => ?_
  walk_at "ew"
  refine wp_fx fun c2 g2 w A2 => ?_
  walk_at "ew"
  refine wp_fx fun c3 g3 w A3 => ?_
  walk_at "ew"
  refine ⟨_, rfl, ?_⟩
  obtain ⟨cb, eb, Ab⟩ := A1.meet A2
  obtain ⟨ce, ee, Ae⟩ := A1.join A2
  obtain ⟨cr, er, Ar⟩ := A1.without A2
  refine wp_seq (δ1 := [none, some .drw, some c1, some c2, some c3, some cb, some ce, some cr, none, none, none, none, none, none, none, none, none, none, none, none, none]) (by walk_at "ev" <;> rfl) ?_
  refine nx_draw1 (mx := 12) (by omega) rfl rfl fun k1 w k1a k1b => ?_
  walk_at "ev"
  refine wp_seqW ?_
  walk_at "ew"
  refine wp_next (by omega) fun k2 w k2a k2b => ?_
  walk_at "ew"
  refine ⟨_, rfl, ?_⟩
  obtain ⟨f, rfl⟩ : ∃ f : Nat, k1 = (f : Nat) := ⟨k1.toNat, by omega⟩
  obtain ⟨l, hl⟩ : ∃ l : Nat, (l : Int) = (f : Nat) + k2 := ⟨((f : Nat) + k2).toNat, by omega⟩
  rw [← hl]
  have hfl : f ≤ l := by omega
  have hf12 : f < 12 := by omega
  have hl62 : l < 62 := by omega
  clear hl k1a k1b k2a k2b
  -- the times, one by one
  have p1 : ∀ i, decide (bits (fun i => !(decide (g1 i = 0) || decide (g2 i = 0))) i = 1) = (decide (g1 i = 1) && decide (g2 i = 1)) := fun i => by
    rw [bits1, b01 (A1.bit i), b01 (A2.bit i)]
    cases decide (g1 i = 1) <;> cases decide (g2 i = 1) <;> rfl
  have p2 : ∀ i, decide (bits (fun i => decide (g1 i = 1) || decide (g2 i = 1)) i = 1) = (decide (g1 i = 1) || decide (g2 i = 1)) := fun i => bits1 _ i
  have p3 : ∀ i, decide (bits (fun i => decide (g1 i = 1) && decide (g2 i = 0)) i = 1) = (decide (g1 i = 1) && !decide (g2 i = 1)) := fun i => by
    rw [bits1, b01 (A2.bit i)]
  obtain ⟨ca, ea, Aa⟩ := A1.at_least A2 A3 2
  have p4 : ∀ i, decide (bits (fun i => decide (2 ≤ g1 i + g2 i + g3 i)) i = 1) = decide ((2 : Int) ≤ (if decide (g1 i = 1) then 1 else 0) + (if decide (g2 i = 1) then 1 else 0) + (if decide (g3 i = 1) then 1 else 0)) := fun i => by
    rw [bits1]
    rcases A1.bit i with e1 | e1 <;> rcases A2.bit i with e2 | e2 <;> rcases A3.bit i with e3 | e3 <;> rw [e1, e2, e3] <;> rfl
  obtain ⟨δ', lp, x10, x11, x12, x13, rfl⟩ := forL_rng (T := .nm 10) (F := tmBody) (fun n δ => ∃ x10 x11 x12 x13, δ = [none, some .drw, some c1, some c2, some c3, some cb, some ce, some cr, some (.int (f : Nat)), some (.int (l : Nat)), x10, x11, x12, x13, none, none, none, none, none, none, none]) (lo := (f : Nat)) (n := l + 1 - f)
    (δ := [none, some .drw, some c1, some c2, some c3, some cb, some ce, some cr, some (.int (f : Nat)), some (.int (l : Nat)), none, none, none, none, none, none, none, none, none, none, none]) ⟨none, none, none, none, rfl⟩ fun i δ hi hδ => by
    obtain ⟨x10, x11, x12, x13, rfl⟩ := hδ
    have hz : ((f : Nat) : Int) + i = ((f + i : Nat) : Int) := by omega
    rw [hz]
    have hb := Ab.holds (f + i)
    have he := Ae.holds (f + i)
    have hr := Ar.holds (f + i)
    have ha := Aa.holds (f + i)
    rw [p1] at hb
    rw [p2] at he
    rw [p3] at hr
    rw [p4] at ha
    exact ⟨_, _, rfl, .inl (tm_ok (A1.holds (f + i)) (A2.holds (f + i)) (A3.holds (f + i)) hb he hr ea (cnt3 _ _ _) ha), _, _, _, _, rfl⟩
  have rg : ∀ δ : Fc.Env, δ[8]? = some (some (.int (f : Nat))) → δ[9]? = some (some (.int (l : Nat))) → itCall dRange2 (aCons (eVar 8) (aCons (eBin dAdd (eVar 9) (eC (.int 1))) aNil)) δ = pure (rangeD (f : Nat) (l + 1 - f)) := fun δ h8 h9 => by
    have e8 : eVar 8 δ = pure (.int (f : Nat)) := eVar_at h8
    have e9 : eVar 9 δ = pure (.int (l : Nat)) := eVar_at h9
    have tn : (((l : Nat) : Int) + 1 - (f : Nat)).toNat = l + 1 - f := by omega
    have q : dRange2 [.int (f : Nat), .int ((l : Nat) + 1)] = some (rangeD (f : Nat) (l + 1 - f)) := by
      rw [dRange2_ok (by omega) (by omega) (by omega) (by omega), tn]
    unfold itCall aCons aNil eBin
    rw [e8, e9]
    show liftO (dRange2 [.int (f : Nat), .int ((l : Nat) + 1)]) = _
    rw [q]
    rfl
  refine wp_seq (F := sFor _ _ _) (by
    show (itCall _ _ _ >>= fun ds => forL (.nm 10) tmBody ds _) = _
    rw [rg _ rfl rfl, pb]
    exact lp) ?_
  clear lp rg p4 ea Aa ca
  -- the counts
  have n1 := A1.count f l hfl (by omega)
  have n2 := A2.count f l hfl (by omega)
  have nb := Ab.count f l hfl (by omega)
  have ne := Ae.count f l hfl (by omega)
  have nr := Ar.count f l hfl (by omega)
  have q1 : ∀ n, Cal.S (bits fun i => !(decide (g1 i = 0) || decide (g2 i = 0))) n + Cal.S (bits fun i => decide (g1 i = 1) || decide (g2 i = 1)) n = Cal.S g1 n + Cal.S g2 n := fun n => by
    rw [← Cal.S_add, ← Cal.S_add]
    refine Cal.S_congr fun i _ => ?_
    exact bit_sum (A1.bit i) (A2.bit i)
  have q2 : ∀ n, Cal.S (bits fun i => decide (g1 i = 1) && decide (g2 i = 0)) n + Cal.S (bits fun i => !(decide (g1 i = 0) || decide (g2 i = 0))) n = Cal.S g1 n := fun n => by
    rw [← Cal.S_add]
    refine Cal.S_congr fun i _ => ?_
    exact bit_rest (A1.bit i) (A2.bit i)
  have r1 := q1 (l + 1)
  have r2 := q1 f
  have r3 := q2 (l + 1)
  have r4 := q2 f
  obtain ⟨m1, hm1⟩ : ∃ m, m = Cal.S g1 (l + 1) - Cal.S g1 f := ⟨_, rfl⟩
  obtain ⟨m2, hm2⟩ : ∃ m, m = Cal.S g2 (l + 1) - Cal.S g2 f := ⟨_, rfl⟩
  obtain ⟨mb, hmb⟩ : ∃ m, m = Cal.S (bits fun i => !(decide (g1 i = 0) || decide (g2 i = 0))) (l + 1) - Cal.S (bits fun i => !(decide (g1 i = 0) || decide (g2 i = 0))) f := ⟨_, rfl⟩
  obtain ⟨me, hme⟩ : ∃ m, m = Cal.S (bits fun i => decide (g1 i = 1) || decide (g2 i = 1)) (l + 1) - Cal.S (bits fun i => decide (g1 i = 1) || decide (g2 i = 1)) f := ⟨_, rfl⟩
  obtain ⟨mr, hmr⟩ : ∃ m, m = Cal.S (bits fun i => decide (g1 i = 1) && decide (g2 i = 0)) (l + 1) - Cal.S (bits fun i => decide (g1 i = 1) && decide (g2 i = 0)) f := ⟨_, rfl⟩
  rw [← hm1] at n1
  rw [← hm2] at n2
  rw [← hmb] at nb
  rw [← hme] at ne
  rw [← hmr] at nr
  have s1 : mb + me = m1 + m2 := by omega
  have s2 : mr + mb = m1 := by omega
  clear r1 r2 r3 r4 q2 hm2 hmb hme hmr
  refine wp_seq (cnt_ok n1 n2 nb ne nr) ?_
  refine wp_if (cnt_if s1 s2) ?_
  clear n1 n2 nb ne nr s1 s2
  -- the same sets
  obtain ⟨j1, ej1, J1⟩ := Ab.join Ar
  have u1 : j1 = c1 := J1.uniq A1 fun i => bits_val A1.bit (fun i => by
    rw [p1, p3]
    cases decide (g1 i = 1) <;> cases decide (g2 i = 1) <;> rfl) i
  subst u1
  obtain ⟨j23, ej23, J23⟩ := A2.join A3
  obtain ⟨X, eX, JX⟩ := A1.meet J23
  obtain ⟨m13, em13, J13⟩ := A1.meet A3
  obtain ⟨X', eX', JX'⟩ := Ab.join J13
  have u2 : X' = X := JX'.uniq JX fun i => bits_congr (fun i => by
    rw [b01 (A1.bit i), b01 (J23.bit i), p1, bits1, bits1, b01 (A1.bit i), b01 (A3.bit i)]
    cases decide (g1 i = 1) <;> cases decide (g2 i = 1) <;> cases decide (g3 i = 1) <;> rfl) i
  subst u2
  obtain ⟨Y, eY, JY⟩ := A1.without Ar
  have u3 : Y = cb := JY.uniq Ab fun i => bits_congr (fun i => by
    rw [b01 (Ar.bit i), p3, b01 (A1.bit i), b01 (A2.bit i)]
    cases decide (g1 i = 1) <;> cases decide (g2 i = 1) <;> rfl) i
  subst u3
  refine wp_if (same3_if ej1 ej23 eX em13 eX' er eY A1.same JX'.same Ab.same) ?_
  clear ej1 J1 ej23 J23 eX JX em13 J13 eX' JX' eY JY
  -- moved
  refine nx_draw1 (mx := 9) (by omega) rfl rfl fun k3 w k3a k3b => ?_
  obtain ⟨b, rfl⟩ : ∃ b : Nat, k3 = (b : Nat) := ⟨k3.toNat, by omega⟩
  show wp _ _ _
  obtain ⟨d1, ed1, D1⟩ := A1.shifted b (by omega)
  obtain ⟨d2, ed2, D2⟩ := A2.shifted b (by omega)
  obtain ⟨de, ede, De⟩ := Ae.shifted b (by omega)
  obtain ⟨j, ej, J⟩ := D1.join D2
  have u4 : j = de := J.uniq De fun i => by
    show (if (decide ((if i < b then (0 : Int) else g1 (i - b)) = 1) || decide ((if i < b then (0 : Int) else g2 (i - b)) = 1)) = true then (1 : Int) else 0) = if i < b then 0 else (if (decide (g1 (i - b) = 1) || decide (g2 (i - b) = 1)) = true then (1 : Int) else 0)
    by_cases hi : i < b
    · rw [if_pos hi, if_pos hi, if_pos hi]
      rfl
    · rw [if_neg hi, if_neg hi, if_neg hi]
  subst u4
  have ec := D1.count (f + b) (l + b) (by omega) (by omega)
  have eq1 : l + b + 1 = (l + 1) + b := by omega
  rw [eq1, S_shift, S_shift, ← hm1] at ec
  refine wp_if (shift_if (B := (b : Nat)) (F' := ((f + b : Nat) : Int)) (L' := ((l + b : Nat) : Int)) rfl ed1 ed2 ede ej ec (by omega) (by omega) J.same) ?_
  clear ec ed1 ed2 ede ej J D1 D2 De eq1
  -- shares
  obtain ⟨x1, y1, h1, a1, a2, a3, a4, a5, wt⟩ := A1.share
  obtain ⟨x2, y2, h2, b1, b2, b3, b4, b5, _⟩ := A2.share
  obtain ⟨xb, yb, hb, d1', d2', d3', d4', d5', _⟩ := Ab.share
  obtain ⟨xe, ye, he, e1', e2', e3', e4', e5', _⟩ := Ae.share
  have dens : Cal.S (fun i => bits (fun i => !(decide (g1 i = 0) || decide (g2 i = 0))) (20 + i)) 12 + Cal.S (fun i => bits (fun i => decide (g1 i = 1) || decide (g2 i = 1)) (20 + i)) 12 = Cal.S (fun i => g1 (20 + i)) 12 + Cal.S (fun i => g2 (20 + i)) 12 := by
    rw [← Cal.S_add, ← Cal.S_add]
    exact Cal.S_congr fun i _ => bit_sum (A1.bit (20 + i)) (A2.bit (20 + i))
  have pyb : 0 < yb * ye := Int.mul_pos d1' e1'
  have py1 : 0 < y1 * y2 := Int.mul_pos a1 b1
  have by1 : (yb * ye).natAbs ≤ 12 * 12 := mul_bd (by omega) (by omega)
  have by2 : (y1 * y2).natAbs ≤ 12 * 12 := mul_bd (by omega) (by omega)
  have l1 := m_law_add_eq xb yb xe ye ⟨by omega, by omega, by omega, by omega⟩ ⟨by omega, by omega, by omega, by omega⟩ (by omega) (by omega)
  have l2 := m_law_add_eq x1 y1 x2 y2 ⟨by omega, by omega, by omega, by omega⟩ ⟨by omega, by omega, by omega, by omega⟩ (by omega) (by omega)
  have req : (xb * ye + xe * yb) * (y1 * y2) = (x1 * y2 + x2 * y1) * (yb * ye) := by
    generalize Cal.S (fun i => bits (fun i => !(decide (g1 i = 0) || decide (g2 i = 0))) (20 + i)) 12 = sb at *
    generalize Cal.S (fun i => bits (fun i => decide (g1 i = 1) || decide (g2 i = 1)) (20 + i)) 12 = se at *
    generalize Cal.S (fun i => g1 (20 + i)) 12 = s1 at *
    generalize Cal.S (fun i => g2 (20 + i)) 12 = s2 at *
    refine Int.eq_of_mul_eq_mul_right (a := 12) (by decide) ?_
    have : s1 = sb + se - s2 := by omega
    subst this
    clear l1 l2 h1 h2 hb he wt by1 by2 pyb py1
    grind
  obtain ⟨z1, z2⟩ := ratD_eq (by omega) (by omega) req
  have l3 : ratD (xb * ye + xe * yb) (yb * ye) = ratD (x1 * y2 + x2 * y1) (y1 * y2) := by
    unfold ratD
    rw [z1, z2]
  rw [l3] at l1
  have hn : dNe (ratD (x1 * y2 + x2 * y1) (y1 * y2)) (ratD (x1 * y2 + x2 * y1) (y1 * y2)) = some (.bl false) := by
    have := dNe_ints [rn (x1 * y2 + x2 * y1) (y1 * y2), rd (x1 * y2 + x2 * y1) (y1 * y2)] [rn (x1 * y2 + x2 * y1) (y1 * y2), rd (x1 * y2 + x2 * y1) (y1 * y2)]
    rw [decide_eq_true rfl] at this
    exact this
  refine wp_if (share_if h1 h2 hb he l1 l2 hn) ?_
  clear l1 l2 l3 z1 z2 req hn h2 hb he dens pyb py1 by1 by2 b5 d5' e5' a5
  -- the wait
  have rest : ∀ (x16 : D) (w : Dw), wp ((sSeq (sAsg (.nm 17) (eDef m_spans (aCons (eVar 2) (aCons (eVar 8) (aCons (eVar 9) aNil)))))
    (sSeq (sIf (Fc.tB (eBin dNe (eCall dSum (aCons (eLc [19, 20] (.tp [(.nm 19), (.nm 20)]) (itSeq (eVar 17)) tYesF (eBin dAdd (eBin dSub (eVar 20) (eVar 19)) (eC (.int 1)))) aNil)) (eBin dIx (eVar 14) (eC (.int 0))))) (sRet (eC (.bl false))) sNil)
    (sSeq (sIf (Fc.tB (eBin dGt (eBin dIx (eVar 14) (eC (.int 0))) (eC (.int 0)))) (sSeq (sAsg (.nm 10) (eDef m_first_from (aCons (eVar 2) (aCons (eVar 8) aNil))))
      (sIf (tOrF (tNotF (Fc.tB (eChain dLe dLe (eVar 8) (eVar 10) (eVar 9)))) (tOrF (Fc.tB (eBin dNe (eDef m_nth (aCons (eVar 2) (aCons (eBin dSub (eDef m_count_between (aCons (eVar 2) (aCons (eC (.int 0)) (aCons (eVar 10) aNil)))) (eC (.int 1))) aNil))) (eVar 10))) (Fc.tB (eBin dNe (eBin dIx (eBin dIx (eVar 17) (eC (.int 0))) (eC (.int 0))) (eVar 10))))) (sRet (eC (.bl false))) sNil)) sNil)
    (sRet (eC (.bl true))))))
      [none, some .drw, some j1, some c2, some c3, some Y, some ce, some cr, some (.int (f : Nat)), some (.int (l : Nat)), x10, x11, x12, x13, some (.lst [.int m1, .int m2, .int mb, .int me, .int mr]), some (.int (b : Nat)), some x16, none, none, none, none]) EndT w := by
    intro x16 w
    obtain ⟨ls, els, sp⟩ := A1.spans f l hfl (by omega)
    have hfl2 : f + (l + 1 - f) = l + 1 := by omega
    have hw : width ls = m1 := by
      have := sp.w
      rw [hfl2] at this
      rw [this, hm1]
    have hlen := sp.len
    refine wp_seq (spans_st els) ?_
    refine wp_if (wid_if (by omega) rfl hw) ?_
    by_cases c : m1 > 0
    · -- there is a first one
      have ex : ∃ i, f ≤ i ∧ i ≤ l ∧ g1 i = 1 := by
        refine Classical.byContradiction fun no => ?_
        have := S_zeros (g := g1) (a := f) (b := l + 1) (by omega) fun k k1 k2 => by
          rcases A1.bit k with q | q
          · exact q
          · exact absurd ⟨k, k1, by omega, q⟩ no
        omega
      obtain ⟨i, i1, i2, i3⟩ := ex
      obtain ⟨J, eJ, J1, J2, J3, J4⟩ := A1.first f i (by omega) i1 i3
      have ec := A1.count 0 J (by omega) (by omega)
      have en := A1.nth J3 (by omega)
      have es : Cal.S g1 (J + 1) - Cal.S g1 0 - 1 = Cal.S g1 J := by
        rw [S_step J3]
        show Cal.S g1 J + 1 - 0 - 1 = _
        omega
      have hd : ∃ z zs, pl ls = .tup [.int (J : Nat), z] :: zs := by
        cases ls with
        | nil =>
          have := sp.no rfl i i1 (by omega)
          rw [i3] at this
          cases this
        | cons p ls =>
          obtain ⟨a, q1', q2', q3', q4'⟩ := sp.hd p rfl
          have : a = J := by
            by_cases z1 : a < J
            · have := J4 a q2' z1
              rw [q3'] at this
              cases this
            · by_cases z2 : J < a
              · have := q4' J J1 z2
                rw [J3] at this
                cases this
              · omega
          subst this
          refine ⟨.int p.2, pl ls, ?_⟩
          show D.tup [.int p.1, .int p.2] :: pl ls = _
          rw [q1']
      obtain ⟨z, zs, hz⟩ := hd
      rw [hz]
      have z0 : ((0 : Nat) : Int) = 0 := rfl
      rw [z0] at ec
      rw [← es] at en
      refine wp_seq (last_if (J := (J : Nat)) rfl c eJ (by omega) (by omega) ec en (at0 _ _)) ?_
      show wp (pure _) _ _
      rw [wp_pure]
      exact ⟨_, rfl⟩
    · refine wp_seq (last_if0 rfl c) ?_
      show wp (pure _) _ _
      rw [wp_pure]
      exact ⟨_, rfl⟩
  rcases wt with ⟨w1, w2, w3⟩ | ⟨w1, W, w2, w3, w4⟩
  · refine wp_seq (wait_st w1) ?_
    have hd : dEq (.tup [.int x1, .int y1]) (.tup [.int 0, .int 1]) = some (.bl true) := by
      rw [w2, w3]
      rfl
    refine wp_if (wait_if0 h1 hd) ?_
    exact rest _ _
  · refine wp_seq (wait_st w2) ?_
    have hd : dEq (.tup [.int x1, .int y1]) (.tup [.int 0, .int 1]) = some (.bl false) := by
      have := dEq_ints [x1, y1] [0, 1]
      rw [decide_eq_false (fun z => w1 (by
        have h1 := congrArg (fun l : List Int => l.getD 0 0) z
        have h2 := congrArg (fun l : List Int => l.getD 1 0) z
        exact ⟨h1, h2⟩))] at this
      exact this
    have ec := A1.count f (f + W) (by omega) (by omega)
    obtain ⟨i, i1, i2, i3⟩ := w4 f
    have hn : ¬ Cal.S g1 (f + W + 1) - Cal.S g1 f < 1 := by
      have q1 := Cal.S_mono (g := g1) A1.nn (m := i + 1) (n := f + W + 1) (by omega)
      have q2 := Cal.S_mono (g := g1) A1.nn (m := f) (n := i) i1
      rw [S_step i3] at q1
      omega
    refine wp_if (wait_if1 (F' := ((f + W : Nat) : Int)) h1 hd (by omega) ec hn) ?_
    exact rest _ _
end K80

namespace K80
open PySem PySem.Spec PyProof.Rows L2 Fc

def top (i : Nat) : Stmt := PySem.Challenge.pw_farcall_k80_sets_of_times_add_up.main.body.getD i (.Pass ⟨0, 0, 0, 0⟩)
abbrev s__law_draw : Stmt := top 28
abbrev s__law_next : Stmt := top 29
abbrev s_flag_at : Stmt := top 2
abbrev s_wait_of : Stmt := top 24
abbrev s_spans : Stmt := top 23
abbrev s_least_turn : Stmt := top 8
abbrev s_calendar_of : Stmt := top 9
abbrev s__law_calendar : Stmt := top 37
abbrev s_common_turn : Stmt := top 11
abbrev s_some_flag : Stmt := top 12
abbrev s_all_flags : Stmt := top 13
abbrev s_only_first : Stmt := top 18
abbrev s_told_by : Stmt := top 14
abbrev s_meet : Stmt := top 16
abbrev s_join : Stmt := top 15
abbrev s_without : Stmt := top 17
abbrev s_ones_before : Stmt := top 3
abbrev s_count_between : Stmt := top 21
abbrev s__law_low : Stmt := top 31
abbrev s__law_add : Stmt := top 32
abbrev s_first_from : Stmt := top 20
abbrev s_holds : Stmt := top 10
abbrev s__law_same : Stmt := top 30
abbrev s_ratio : Stmt := top 6
abbrev s_share_of : Stmt := top 25
abbrev s_at_least : Stmt := top 26
abbrev s_shifted : Stmt := top 19
abbrev s_full_turns : Stmt := top 4
abbrev s_nth : Stmt := top 22
abbrev s_law : Stmt := top 38
structure Tx (K : PySem.W.Frag) (mg : Str → Option Value) : Prop where
  g_abs : mg "abs" = none
  g_all : mg "all" = none
  g_bool : mg "bool" = none
  g_divmod : mg "divmod" = none
  g_gcd : mg "gcd" = some (.builtin "math.gcd")
  g_int : mg "int" = none
  g_isinstance : mg "isinstance" = none
  g_lcm : mg "lcm" = some (.builtin "math.lcm")
  g_len : mg "len" = none
  g_list : mg "list" = none
  g_max : mg "max" = none
  g_range : mg "range" = none
  g_str : mg "str" = none
  g_sum : mg "sum" = none
  g_tuple : mg "tuple" = none
section
variable {P : Program} {w : World} {K : PySem.W.Frag} {mg : Str → Option Value} {base : Heap}
theorem sc__law_draw : FnScope ["script"] ["script"] (defScope s__law_draw) := ⟨rfl, rfl, rfl, by decide +kernel, rfl, by decide +kernel, by decide +kernel⟩
theorem sc__law_next : FnScope ["draw", "many", "found", "cell"] ["draw", "many"] (defScope s__law_next) := ⟨rfl, rfl, rfl, by decide +kernel, rfl, by decide +kernel, by decide +kernel⟩
theorem ok__law_draw (T : Tx K mg) {f : Addr} {fd : FuncData} (Fu : Fun K "_law_draw" "_law_draw" s__law_draw f fd) : FnOk P w K mg base CX0 1 f fd ["script"] (spDraw K) :=
  draw_ok Fu sc__law_draw fun cdv A outer s H E => pss_one (ps_ret (pe_lst (pa_cons (pe_callTy call_list_of rfl T.g_list (by decide +kernel) (pa_cons (pv 0) pa_nil)) (pa_cons pe_int (pa_cons pe_int (pa_cons pe_int pa_nil))))))
theorem ok__law_next (T : Tx K mg) {f : Addr} {fd : FuncData} (Fu : Fun K "_law_next" "_law_next" s__law_next f fd) (hm : mg "_law_next" = some (.ref f)) : Has P w K mg base 1 "_law_next" ["draw", "many"] nextF :=
  ⟨f, fd, next_ok Fu sc__law_next fun cdv A outer s H E =>
    pss_cons (ps_if (pt_cmpR op_gt (pe_ix ix_list (pv 0) pe_int (fun _ _ => rfl)) pe_int (nomark _)) (pss_cons (ps_set (i := 2) sc__law_next.nd rfl (.inl rfl) (pe_op op_modN (pe_callTy call_int1 rfl T.g_int (by decide +kernel) (pa_cons (pe_ix ix_list (pv 0) pe_int (fun _ _ => rfl)) pa_nil)) (pv 1))) (pss_cons (ps_asg (pe_op op_fdivN (pe_ix ix_list (pv 0) pe_int (fun _ _ => rfl)) (pv 1)) (pg_sub (pv 0) pe_int set_list)) (pss_one (ps_ret (pv 2))))) pss_nil)
    (pss_cons (ps_if (pt_cmpR op_lt (pe_ix ix_list (pv 0) pe_int (fun _ _ => rfl)) (pe_callB call_len rfl T.g_len PySem.boot_len (pa_cons (pe_ix ix_list (pv 0) pe_int (fun _ _ => rfl)) pa_nil)) (nomark _))
      (pss_cons (ps_set (i := 3) sc__law_next.nd rfl (.inl rfl) (pe_callB call_abs rfl T.g_abs (by decide +kernel) (pa_cons (pe_ix ix_list (pe_ix ix_list (pv 0) pe_int (fun _ _ => rfl)) (pe_ix ix_list (pv 0) pe_int (fun _ _ => rfl)) (fun _ _ => rfl)) pa_nil)))
      (pss_cons (ps_asg (pe_op op_add (pe_ix ix_list (pv 0) pe_int (fun _ _ => rfl)) pe_int) (pg_sub (pv 0) pe_int set_list))
      (pss_cons (ps_if (pt_cmpR op_ge (pv 3) (pe_op op_pow pe_int pe_int) (nomark _)) (pss_cons (ps_asg (pe_op op_fdivN (pv 3) (pv 1)) (pg_sub (pv 0) pe_int set_list)) (pss_one (ps_ret (pe_op op_modN (pe_callTy call_int1 rfl T.g_int (by decide +kernel) (pa_cons (pv 3) pa_nil)) (pv 1))))) pss_nil)
      (pss_one (ps_asg (pe_op op_modN (pe_callTy call_int1 rfl T.g_int (by decide +kernel) (pa_cons (pe_op op_add (pe_op op_add (pe_op op_mul (pe_ix ix_list (pv 0) pe_int (fun _ _ => rfl)) pe_int) (pv 3)) pe_int) pa_nil)) pe_int) (pg_sub (pv 0) pe_int set_list))))))
      (pss_one (ps_asg (pe_op op_modN (pe_callTy call_int1 rfl T.g_int (by decide +kernel) (pa_cons (pe_op op_add (pe_op op_mul (pe_ix ix_list (pv 0) pe_int (fun _ _ => rfl)) pe_int) pe_int) pa_nil)) pe_int) (pg_sub (pv 0) pe_int set_list))))
    (pss_one (ps_ret (pe_op op_modN (pe_op op_fdivN (pe_callTy call_int1 rfl T.g_int (by decide +kernel) (pa_cons (pe_op op_modN (pe_op op_mul (pe_ix ix_list (pv 0) pe_int (fun _ _ => rfl)) pe_int) pe_int) pa_nil)) pe_int) (pv 1))))),
    hm, Fu.kp, Fu.binds fun _ _ _ _ _ _ us hl => match us, hl with | [_, _], _ => rfl⟩
theorem sc_flag_at : FnScope ["calendar", "time", "head", "turn"] ["calendar", "time"] (defScope s_flag_at) := ⟨rfl, rfl, rfl, by decide +kernel, rfl, by decide +kernel, by decide +kernel⟩
theorem ok_flag_at (T : Tx K mg)  {f : Addr} {fd : FuncData} (Fu : Fun K "flag_at" "flag_at" s_flag_at f fd) (hm : mg "flag_at" = some (.ref f)) : Has P w K mg base 1 "flag_at" ["calendar", "time"] m_flag_at :=
  ⟨f, fd, fn_ok (k := 0) (O := []) Fu sc_flag_at (by decide) (by decide) (fun cdv A outer s H E hr => (ss_cons (ss_asg (se_var 0) (sg_tup rfl (sgs_cons (sg_name 2 sc_flag_at.nd) (sgs_cons (sg_name 3 sc_flag_at.nd) sgs_nil))))
    (ss_cons (ss_if (st_lt (se_var 1) (se_len T.g_len rfl (sa_consA (se_var 2) sa_nil))) (ss_one (ss_ret (se_ix (se_var 2) (se_var 1)))) ss_nil)
    (ss_one (ss_ret (se_ix (se_var 3) (se_mod (se_sub (se_var 1) (se_len T.g_len rfl (sa_consA (se_var 2) sa_nil))) (se_len T.g_len rfl (sa_consA (se_var 3) sa_nil))))))))), hm, Fu.kp, Fu.binds fun _ _ _ _ _ _ us hl => match us, hl with | [_, _], _ => rfl⟩
theorem sc_wait_of : FnScope ["calendar", "head", "turn", "longest", "now", "time"] ["calendar"] (defScope s_wait_of) := ⟨rfl, rfl, rfl, by decide +kernel, rfl, by decide +kernel, by decide +kernel⟩
theorem ok_wait_of (T : Tx K mg) (h_flag_at : Has P w K mg base 1 "flag_at" ["calendar", "time"] m_flag_at) {f : Addr} {fd : FuncData} (Fu : Fun K "wait_of" "wait_of" s_wait_of f fd) (hm : mg "wait_of" = some (.ref f)) : Has P w K mg base 2 "wait_of" ["calendar"] m_wait_of :=
  ⟨f, fd, fn_ok (k := 1) (O := []) Fu sc_wait_of (by decide) (by decide) (fun cdv A outer s H E hr => (ss_cons (ss_asg (se_var 0) (sg_tup rfl (sgs_cons (sg_name 1 sc_wait_of.nd) (sgs_cons (sg_name 2 sc_wait_of.nd) sgs_nil))))
    (ss_cons (ss_if (st_eq hr.units (se_sum rfl T.g_sum rfl (sa_consA (se_var 2) sa_nil)) se_int) (ss_one (ss_ret se_non)) ss_nil)
    (ss_cons (ss_set 3 sc_wait_of.nd se_int)
    (ss_cons (ss_set 4 sc_wait_of.nd se_int)
    (ss_cons (ss_for PassesOwn.never rfl (si_range1 T.g_range rfl (sa_consA (se_add (se_len T.g_len rfl (sa_consA (se_var 1) sa_nil)) (se_mul se_int (se_len T.g_len rfl (sa_consA (se_var 2) sa_nil)))) sa_nil)) (sg_name 5 sc_wait_of.nd) (ss_cons (ss_set 4 sc_wait_of.nd (se_if (st_eq hr.units (se_has h_flag_at (hr.mono (by first | decide | omega)) rfl (sa_cons (se_var 0) (sa_cons (se_var 5) sa_nil))) se_int) se_int (se_add (se_var 4) se_int)))
      (ss_one (ss_set 3 sc_wait_of.nd (se_max2 rfl T.g_max rfl (sa_consA (se_var 3) (sa_consA (se_var 4) sa_nil)))))))
    (ss_one (ss_ret (se_var 3))))))))), hm, Fu.kp, Fu.binds fun _ _ _ _ _ _ us hl => match us, hl with | [_], _ => rfl⟩
theorem sc_spans : FnScope ["calendar", "first", "last", "found", "time"] ["calendar", "first", "last"] (defScope s_spans) := ⟨rfl, rfl, rfl, by decide +kernel, rfl, by decide +kernel, by decide +kernel⟩
theorem ok_spans (T : Tx K mg) (h_flag_at : Has P w K mg base 1 "flag_at" ["calendar", "time"] m_flag_at) {f : Addr} {fd : FuncData} (Fu : Fun K "spans" "spans" s_spans f fd) (hm : mg "spans" = some (.ref f)) : Has P w K mg base 2 "spans" ["calendar", "first", "last"] m_spans :=
  ⟨f, fd, fn_ok (k := 1) (O := [3]) Fu sc_spans (by decide) (by decide) (fun cdv A outer s H E hr => (ss_cons (ss_setO 3 sc_spans.nd (sf_lst sa_nil))
    (ss_cons (ss_for PassesOwn.never rfl (si_range2 T.g_range rfl (sa_consA (se_var 1) (sa_consA (se_add (se_var 2) se_int) sa_nil))) (sg_name 4 sc_spans.nd) (ss_cons (ss_if (st_eq hr.units (se_has h_flag_at (hr.mono (by first | decide | omega)) rfl (sa_cons (se_var 0) (sa_cons (se_var 4) sa_nil))) se_int) (ss_one ss_continue) ss_nil)
      (ss_one (ss_if (st_w (sw_and (st_truth (se_own 3)) (sw_and1 (st_eq hr.units (se_ix (se_ix (se_own 3) (se_neg se_int)) se_int) (se_sub (se_var 4) se_int))))) (ss_one (ss_setIx 3 (se_tup (sa_cons (se_ix (se_ix (se_own 3) (se_neg se_int)) se_int) (sa_cons (se_var 4) sa_nil))) (se_neg se_int))) (ss_one (ss_app 3 (se_tup (sa_cons (se_var 4) (sa_cons (se_var 4) sa_nil)))))))))
    (ss_one (ss_ret (se_own 3)))))), hm, Fu.kp, Fu.binds fun _ _ _ _ _ _ us hl => match us, hl with | [_, _, _], _ => rfl⟩
theorem sc_least_turn : FnScope ["turn", "long"] ["turn"] (defScope s_least_turn) := ⟨rfl, rfl, rfl, by decide +kernel, rfl, by decide +kernel, by decide +kernel⟩
theorem ok_least_turn (T : Tx K mg)  {f : Addr} {fd : FuncData} (Fu : Fun K "least_turn" "least_turn" s_least_turn f fd) (hm : mg "least_turn" = some (.ref f)) : Has P w K mg base 1 "least_turn" ["turn"] m_least_turn :=
  ⟨f, fd, fn_ok (k := 0) (O := []) Fu sc_least_turn (by decide) (by decide) (fun cdv A outer s H E hr => (ss_cons (ss_for PassesOwn.never rfl (si_range2 T.g_range rfl (sa_consA se_int (sa_consA (se_len T.g_len rfl (sa_consA (se_var 0) sa_nil)) sa_nil))) (sg_name 1 sc_least_turn.nd) (ss_one (ss_if (st_w (sw_and (st_eq hr.units (se_mod (se_len T.g_len rfl (sa_consA (se_var 0) sa_nil)) (se_var 1)) se_int) (sw_and1 (st_eq hr.units (se_var 0) (se_mul (se_slice (se_var 0) so_none (so_some (se_var 1))) (se_div (se_len T.g_len rfl (sa_consA (se_var 0) sa_nil)) (se_var 1))))))) (ss_one (ss_ret (se_slice (se_var 0) so_none (so_some (se_var 1))))) ss_nil)))
    (ss_one (ss_ret (se_var 0))))), hm, Fu.kp, Fu.binds fun _ _ _ _ _ _ us hl => match us, hl with | [_], _ => rfl⟩
theorem sc_calendar_of : FnScope ["head", "turn", "last", "moved"] ["head", "turn"] (defScope s_calendar_of) := ⟨rfl, rfl, rfl, by decide +kernel, rfl, by decide +kernel, by decide +kernel⟩
theorem ok_calendar_of (T : Tx K mg) (h_least_turn : Has P w K mg base 1 "least_turn" ["turn"] m_least_turn) {f : Addr} {fd : FuncData} (Fu : Fun K "calendar_of" "calendar_of" s_calendar_of f fd) (hm : mg "calendar_of" = some (.ref f)) : Has P w K mg base 2 "calendar_of" ["head", "turn"] m_calendar_of :=
  ⟨f, fd, fn_ok (k := 1) (O := []) Fu sc_calendar_of (by decide) (by decide) (fun cdv A outer s H E hr => (ss_cons (ss_set 1 sc_calendar_of.nd (se_has h_least_turn (hr.mono (by first | decide | omega)) rfl (sa_cons (se_var 1) sa_nil)))
    (ss_cons (ss_set 2 sc_calendar_of.nd (se_len T.g_len rfl (sa_consA (se_var 0) sa_nil)))
    (ss_cons (ss_while 1000 PassesOwn.never (st_w (sw_and (st_gt (se_var 2) se_int) (sw_and1 (st_eq hr.units (se_ix (se_var 0) (se_sub (se_var 2) se_int)) (se_ix (se_var 1) (se_mod (se_sub (se_sub (se_var 2) (se_len T.g_len rfl (sa_consA (se_var 0) sa_nil))) se_int) (se_len T.g_len rfl (sa_consA (se_var 1) sa_nil)))))))) (ss_one (ss_set 2 sc_calendar_of.nd (se_sub (se_var 2) se_int))))
    (ss_cons (ss_set 3 sc_calendar_of.nd (se_mod (se_sub (se_var 2) (se_len T.g_len rfl (sa_consA (se_var 0) sa_nil))) (se_len T.g_len rfl (sa_consA (se_var 1) sa_nil))))
    (ss_one (ss_ret (se_tup (sa_cons (se_slice (se_var 0) so_none (so_some (se_var 2))) (sa_cons (se_add (se_slice (se_var 1) (so_some (se_var 3)) so_none) (se_slice (se_var 1) so_none (so_some (se_var 3)))) sa_nil)))))))))), hm, Fu.kp, Fu.binds fun _ _ _ _ _ _ us hl => match us, hl with | [_, _], _ => rfl⟩
theorem sc__law_calendar : FnScope ["draw", "head", "k"] ["draw"] (defScope s__law_calendar) := ⟨rfl, rfl, rfl, by decide +kernel, rfl, by decide +kernel, by decide +kernel⟩
theorem ok__law_calendar (T : Tx K mg) (h_calendar_of : Has P w K mg base 2 "calendar_of" ["head", "turn"] m_calendar_of) (h__law_next : Has P w K mg base 1 "_law_next" ["draw", "many"] nextF) {f : Addr} {fd : FuncData} (Fu : Fun K "_law_calendar" "_law_calendar" s__law_calendar f fd) (hm : mg "_law_calendar" = some (.ref f)) : Has P w K mg base 3 "_law_calendar" ["draw"] m__law_calendar :=
  ⟨f, fd, fn_ok (k := 2) (O := []) Fu sc__law_calendar (by decide) (by decide) (fun cdv A outer s H E hr => (ss_cons (ss_set 1 sc__law_calendar.nd (se_tuple T.g_tuple rfl (sa_consA (se_lc rfl sc__law_calendar.nd (si_range1 T.g_range rfl (sa_consA (se_has h__law_next (hr.mono (by first | decide | omega)) rfl (sa_cons (se_var 0) (sa_cons se_int sa_nil))) sa_nil)) (blkOk_by (own := [("k", 2)]) (N := ["draw", "head", "k"]) (sc := (defScope s__law_calendar)) (by decide +kernel)) (by decide) (fun _ _ _ _ _ => (sg_name 2 sc__law_calendar.nd)) (fun _ _ _ _ _ => sts_nil) (fun _ _ _ _ _ => (se_has h__law_next (hr.mono (by first | decide | omega)) rfl (sa_cons (se_var 0) (sa_cons se_int sa_nil))))) sa_nil)))
    (ss_one (ss_ret (se_has h_calendar_of (hr.mono (by first | decide | omega)) rfl (sa_cons (se_var 1) (sa_cons (se_tuple T.g_tuple rfl (sa_consA (se_lc rfl sc__law_calendar.nd (si_range1 T.g_range rfl (sa_consA (se_add se_int (se_has h__law_next (hr.mono (by first | decide | omega)) rfl (sa_cons (se_var 0) (sa_cons se_int sa_nil)))) sa_nil)) (blkOk_by (own := [("k", 2)]) (N := ["draw", "head", "k"]) (sc := (defScope s__law_calendar)) (by decide +kernel)) (by decide) (fun _ _ _ _ _ => (sg_name 2 sc__law_calendar.nd)) (fun _ _ _ _ _ => sts_nil) (fun _ _ _ _ _ => (se_has h__law_next (hr.mono (by first | decide | omega)) rfl (sa_cons (se_var 0) (sa_cons se_int sa_nil))))) sa_nil)) sa_nil))))))), hm, Fu.kp, Fu.binds fun _ _ _ _ _ _ us hl => match us, hl with | [_], _ => rfl⟩
theorem sc_common_turn : FnScope ["calendars", "found", "_", "turn"] ["calendars"] (defScope s_common_turn) := ⟨rfl, rfl, rfl, by decide +kernel, rfl, by decide +kernel, by decide +kernel⟩
theorem ok_common_turn (T : Tx K mg)  {f : Addr} {fd : FuncData} (Fu : Fun K "common_turn" "common_turn" s_common_turn f fd) (hm : mg "common_turn" = some (.ref f)) : Has P w K mg base 1 "common_turn" ["calendars"] m_common_turn :=
  ⟨f, fd, fn_ok (k := 0) (O := []) Fu sc_common_turn (by decide) (by decide) (fun cdv A outer s H E hr => (ss_cons (ss_set 1 sc_common_turn.nd se_int)
    (ss_cons (ss_for PassesOwn.never rfl (si_seq (se_var 0)) (sg_tup rfl (sgs_cons (sg_name 2 sc_common_turn.nd) (sgs_cons (sg_name 3 sc_common_turn.nd) sgs_nil))) (ss_one (ss_set 1 sc_common_turn.nd (se_lcm T.g_lcm rfl (sa_consA (se_var 1) (sa_consA (se_len T.g_len rfl (sa_consA (se_var 3) sa_nil)) sa_nil))))))
    (ss_one (ss_ret (se_var 1)))))), hm, Fu.kp, Fu.binds fun _ _ _ _ _ _ us hl => match us, hl with | [_], _ => rfl⟩
theorem sc_some_flag : FnScope ["flags"] ["flags"] (defScope s_some_flag) := ⟨rfl, rfl, rfl, by decide +kernel, rfl, by decide +kernel, by decide +kernel⟩
theorem ok_some_flag (T : Tx K mg)  {f : Addr} {fd : FuncData} (Fu : Fun K "some_flag" "some_flag" s_some_flag f fd) (hm : mg "some_flag" = some (.ref f)) : Has P w K mg base 1 "some_flag" ["flags"] m_some_flag :=
  ⟨f, fd, fn_ok (k := 0) (O := []) Fu sc_some_flag (by decide) (by decide) (fun cdv A outer s H E hr => (ss_one (ss_ret (se_in se_int (se_var 0))))), hm, Fu.kp, Fu.binds fun _ _ _ _ _ _ us hl => match us, hl with | [_], _ => rfl⟩
theorem sc_all_flags : FnScope ["flags"] ["flags"] (defScope s_all_flags) := ⟨rfl, rfl, rfl, by decide +kernel, rfl, by decide +kernel, by decide +kernel⟩
theorem ok_all_flags (T : Tx K mg)  {f : Addr} {fd : FuncData} (Fu : Fun K "all_flags" "all_flags" s_all_flags f fd) (hm : mg "all_flags" = some (.ref f)) : Has P w K mg base 1 "all_flags" ["flags"] m_all_flags :=
  ⟨f, fd, fn_ok (k := 0) (O := []) Fu sc_all_flags (by decide) (by decide) (fun cdv A outer s H E hr => (ss_one (ss_ret (se_notIn se_int (se_var 0))))), hm, Fu.kp, Fu.binds fun _ _ _ _ _ _ us hl => match us, hl with | [_], _ => rfl⟩
theorem sc_only_first : FnScope ["flags"] ["flags"] (defScope s_only_first) := ⟨rfl, rfl, rfl, by decide +kernel, rfl, by decide +kernel, by decide +kernel⟩
theorem ok_only_first (T : Tx K mg)  {f : Addr} {fd : FuncData} (Fu : Fun K "only_first" "only_first" s_only_first f fd) (hm : mg "only_first" = some (.ref f)) : Has P w K mg base 1 "only_first" ["flags"] m_only_first :=
  ⟨f, fd, fn_ok (k := 0) (O := []) Fu sc_only_first (by decide) (by decide) (fun cdv A outer s H E hr => (ss_one (ss_ret (se_and (se_eq hr.units (se_ix (se_var 0) se_int) se_int) (se_one (se_eq hr.units (se_ix (se_var 0) se_int) se_int)))))), hm, Fu.kp, Fu.binds fun _ _ _ _ _ _ us hl => match us, hl with | [_], _ => rfl⟩
theorem sc_told_by : FnScope ["calendars", "rule", "start", "long", "flags", "time", "head", "_", "calendar"] ["calendars", "rule"] (defScope s_told_by) := ⟨rfl, rfl, rfl, by decide +kernel, rfl, by decide +kernel, by decide +kernel⟩
theorem ok_told_by (T : Tx K mg) (h_common_turn : Has P w K mg base 1 "common_turn" ["calendars"] m_common_turn) (h_calendar_of : Has P w K mg base 2 "calendar_of" ["head", "turn"] m_calendar_of) (h_flag_at : Has P w K mg base 1 "flag_at" ["calendar", "time"] m_flag_at) (h_some_flag : Has P w K mg base 1 "some_flag" ["flags"] m_some_flag) (h_all_flags : Has P w K mg base 1 "all_flags" ["flags"] m_all_flags) (h_only_first : Has P w K mg base 1 "only_first" ["flags"] m_only_first) {f : Addr} {fd : FuncData} (Fu : Fun K "told_by" "told_by" s_told_by f fd) (hm : mg "told_by" = some (.ref f)) : Has P w K mg base 3 "told_by" ["calendars", "rule"] m_told_by :=
  ⟨f, fd, fn_ok (k := 2) (O := [4]) Fu sc_told_by (by decide) (by decide) (fun cdv A outer s H E hr => (ss_cons (ss_set 2 sc_told_by.nd (se_max1 rfl T.g_max rfl (sa_consA (se_lc rfl sc_told_by.nd (si_seq (se_var 0)) (blkOk_by (own := [("head", 6), ("_", 7)]) (N := ["calendars", "rule", "start", "long", "flags", "time", "head", "_", "calendar"]) (sc := (defScope s_told_by)) (by decide +kernel)) (by decide) (fun _ _ _ _ _ => (sg_tup rfl (sgs_cons (sg_name 6 sc_told_by.nd) (sgs_cons (sg_name 7 sc_told_by.nd) sgs_nil)))) (fun _ _ _ _ _ => sts_nil) (fun _ _ _ _ _ => (se_len T.g_len rfl (sa_consA (se_var 6) sa_nil)))) sa_nil)))
    (ss_cons (ss_set 3 sc_told_by.nd (se_has h_common_turn (hr.mono (by first | decide | omega)) rfl (sa_cons (se_var 0) sa_nil)))
    (ss_cons (ss_setO 4 sc_told_by.nd (sf_lst sa_nil))
    (ss_cons (ss_for PassesOwn.never rfl (si_range1 T.g_range rfl (sa_consA (se_add (se_var 2) (se_var 3)) sa_nil)) (sg_name 5 sc_told_by.nd) (ss_one (ss_app 4 (se_if (st_truth (se_dyn 1 (tbC_has (h_some_flag.mono (k := 1) (by decide)) (tbC_has (h_all_flags.mono (k := 1) (by decide)) (tbC_has (h_only_first.mono (k := 1) (by decide)) tbN_has))) (hr.mono (by first | decide | omega)) (sa_cons (se_lc rfl sc_told_by.nd (si_seq (se_var 0)) (blkOk_by (own := [("calendar", 8)]) (N := ["calendars", "rule", "start", "long", "flags", "time", "head", "_", "calendar"]) (sc := (defScope s_told_by)) (by decide +kernel)) (by decide) (fun _ _ _ _ _ => (sg_name 8 sc_told_by.nd)) (fun _ _ _ _ _ => sts_nil) (fun _ _ _ _ _ => (se_has h_flag_at (hr.mono (by first | decide | omega)) rfl (sa_cons (se_var 8) (sa_cons (se_var 5) sa_nil))))) sa_nil))) se_int se_int))))
    (ss_one (ss_ret (se_has h_calendar_of (hr.mono (by first | decide | omega)) rfl (sa_cons (se_tuple T.g_tuple rfl (sa_consA (se_slice (se_own 4) so_none (so_some (se_var 2))) sa_nil)) (sa_cons (se_tuple T.g_tuple rfl (sa_consA (se_slice (se_own 4) (so_some (se_var 2)) so_none) sa_nil)) sa_nil)))))))))), hm, Fu.kp, Fu.binds fun _ _ _ _ _ _ us hl => match us, hl with | [_, _], _ => rfl⟩
theorem sc_meet : FnScope ["one", "other"] ["one", "other"] (defScope s_meet) := ⟨rfl, rfl, rfl, by decide +kernel, rfl, by decide +kernel, by decide +kernel⟩
theorem ok_meet (T : Tx K mg) (h_told_by : Has P w K mg base 3 "told_by" ["calendars", "rule"] m_told_by) (h_all_flags : Has P w K mg base 1 "all_flags" ["flags"] m_all_flags) {f : Addr} {fd : FuncData} (Fu : Fun K "meet" "meet" s_meet f fd) (hm : mg "meet" = some (.ref f)) : Has P w K mg base 4 "meet" ["one", "other"] m_meet :=
  ⟨f, fd, fn_ok (k := 3) (O := []) Fu sc_meet (by decide) (by decide) (fun cdv A outer s H E hr => (ss_one (ss_ret (se_has h_told_by (hr.mono (by first | decide | omega)) rfl (sa_cons (se_lst (sa_cons (se_var 0) (sa_cons (se_var 1) sa_nil))) (sa_cons (se_fn h_all_flags rfl) sa_nil)))))), hm, Fu.kp, Fu.binds fun _ _ _ _ _ _ us hl => match us, hl with | [_, _], _ => rfl⟩
theorem sc_join : FnScope ["one", "other"] ["one", "other"] (defScope s_join) := ⟨rfl, rfl, rfl, by decide +kernel, rfl, by decide +kernel, by decide +kernel⟩
theorem ok_join (T : Tx K mg) (h_told_by : Has P w K mg base 3 "told_by" ["calendars", "rule"] m_told_by) (h_some_flag : Has P w K mg base 1 "some_flag" ["flags"] m_some_flag) {f : Addr} {fd : FuncData} (Fu : Fun K "join" "join" s_join f fd) (hm : mg "join" = some (.ref f)) : Has P w K mg base 4 "join" ["one", "other"] m_join :=
  ⟨f, fd, fn_ok (k := 3) (O := []) Fu sc_join (by decide) (by decide) (fun cdv A outer s H E hr => (ss_one (ss_ret (se_has h_told_by (hr.mono (by first | decide | omega)) rfl (sa_cons (se_lst (sa_cons (se_var 0) (sa_cons (se_var 1) sa_nil))) (sa_cons (se_fn h_some_flag rfl) sa_nil)))))), hm, Fu.kp, Fu.binds fun _ _ _ _ _ _ us hl => match us, hl with | [_, _], _ => rfl⟩
theorem sc_without : FnScope ["one", "other"] ["one", "other"] (defScope s_without) := ⟨rfl, rfl, rfl, by decide +kernel, rfl, by decide +kernel, by decide +kernel⟩
theorem ok_without (T : Tx K mg) (h_told_by : Has P w K mg base 3 "told_by" ["calendars", "rule"] m_told_by) (h_only_first : Has P w K mg base 1 "only_first" ["flags"] m_only_first) {f : Addr} {fd : FuncData} (Fu : Fun K "without" "without" s_without f fd) (hm : mg "without" = some (.ref f)) : Has P w K mg base 4 "without" ["one", "other"] m_without :=
  ⟨f, fd, fn_ok (k := 3) (O := []) Fu sc_without (by decide) (by decide) (fun cdv A outer s H E hr => (ss_one (ss_ret (se_has h_told_by (hr.mono (by first | decide | omega)) rfl (sa_cons (se_lst (sa_cons (se_var 0) (sa_cons (se_var 1) sa_nil))) (sa_cons (se_fn h_only_first rfl) sa_nil)))))), hm, Fu.kp, Fu.binds fun _ _ _ _ _ _ us hl => match us, hl with | [_, _], _ => rfl⟩
theorem sc_ones_before : FnScope ["calendar", "time", "head", "turn", "turns", "rest"] ["calendar", "time"] (defScope s_ones_before) := ⟨rfl, rfl, rfl, by decide +kernel, rfl, by decide +kernel, by decide +kernel⟩
theorem ok_ones_before (T : Tx K mg)  {f : Addr} {fd : FuncData} (Fu : Fun K "ones_before" "ones_before" s_ones_before f fd) (hm : mg "ones_before" = some (.ref f)) : Has P w K mg base 1 "ones_before" ["calendar", "time"] m_ones_before :=
  ⟨f, fd, fn_ok (k := 0) (O := []) Fu sc_ones_before (by decide) (by decide) (fun cdv A outer s H E hr => (ss_cons (ss_asg (se_var 0) (sg_tup rfl (sgs_cons (sg_name 2 sc_ones_before.nd) (sgs_cons (sg_name 3 sc_ones_before.nd) sgs_nil))))
    (ss_cons (ss_if (st_le (se_var 1) (se_len T.g_len rfl (sa_consA (se_var 2) sa_nil))) (ss_one (ss_ret (se_sum rfl T.g_sum rfl (sa_consA (se_slice (se_var 2) so_none (so_some (se_var 1))) sa_nil)))) ss_nil)
    (ss_cons (ss_asg (se_divmod T.g_divmod rfl (sa_consA (se_sub (se_var 1) (se_len T.g_len rfl (sa_consA (se_var 2) sa_nil))) (sa_consA (se_len T.g_len rfl (sa_consA (se_var 3) sa_nil)) sa_nil))) (sg_tup rfl (sgs_cons (sg_name 4 sc_ones_before.nd) (sgs_cons (sg_name 5 sc_ones_before.nd) sgs_nil))))
    (ss_one (ss_ret (se_add (se_add (se_sum rfl T.g_sum rfl (sa_consA (se_var 2) sa_nil)) (se_mul (se_var 4) (se_sum rfl T.g_sum rfl (sa_consA (se_var 3) sa_nil)))) (se_sum rfl T.g_sum rfl (sa_consA (se_slice (se_var 3) so_none (so_some (se_var 5))) sa_nil))))))))), hm, Fu.kp, Fu.binds fun _ _ _ _ _ _ us hl => match us, hl with | [_, _], _ => rfl⟩
theorem sc_count_between : FnScope ["calendar", "first", "last"] ["calendar", "first", "last"] (defScope s_count_between) := ⟨rfl, rfl, rfl, by decide +kernel, rfl, by decide +kernel, by decide +kernel⟩
theorem ok_count_between (T : Tx K mg) (h_ones_before : Has P w K mg base 1 "ones_before" ["calendar", "time"] m_ones_before) {f : Addr} {fd : FuncData} (Fu : Fun K "count_between" "count_between" s_count_between f fd) (hm : mg "count_between" = some (.ref f)) : Has P w K mg base 2 "count_between" ["calendar", "first", "last"] m_count_between :=
  ⟨f, fd, fn_ok (k := 1) (O := []) Fu sc_count_between (by decide) (by decide) (fun cdv A outer s H E hr => (ss_cons (ss_if (st_lt (se_var 2) (se_var 1)) (ss_one (ss_ret se_int)) ss_nil)
    (ss_one (ss_ret (se_sub (se_has h_ones_before (hr.mono (by first | decide | omega)) rfl (sa_cons (se_var 0) (sa_cons (se_add (se_var 2) se_int) sa_nil))) (se_has h_ones_before (hr.mono (by first | decide | omega)) rfl (sa_cons (se_var 0) (sa_cons (se_var 1) sa_nil)))))))), hm, Fu.kp, Fu.binds fun _ _ _ _ _ _ us hl => match us, hl with | [_, _, _], _ => rfl⟩
theorem sc__law_low : FnScope ["number", "by", "one", "two"] ["number", "by"] (defScope s__law_low) := ⟨rfl, rfl, rfl, by decide +kernel, rfl, by decide +kernel, by decide +kernel⟩
theorem ok__law_low (T : Tx K mg)  {f : Addr} {fd : FuncData} (Fu : Fun K "_law_low" "_law_low" s__law_low f fd) (hm : mg "_law_low" = some (.ref f)) : Has P w K mg base 1 "_law_low" ["number", "by"] m__law_low :=
  ⟨f, fd, fn_ok (k := 0) (O := []) Fu sc__law_low (by decide) (by decide) (fun cdv A outer s H E hr => (ss_cons (ss_if (st_lt (se_var 1) se_int) (ss_one (ss_par 0 1 rfl sc__law_low.nd (sa_cons (se_sub se_int (se_var 0)) (sa_cons (se_sub se_int (se_var 1)) sa_nil)))) ss_nil)
    (ss_cons (ss_par 2 3 rfl sc__law_low.nd (sa_cons (se_abs T.g_abs rfl (sa_consA (se_var 0) sa_nil)) (sa_cons (se_var 1) sa_nil)))
    (ss_cons (ss_while 100000 PassesOwn.never (st_gt (se_var 3) se_int) (ss_one (ss_par 2 3 rfl sc__law_low.nd (sa_cons (se_var 3) (sa_cons (se_mod (se_var 2) (se_var 3)) sa_nil)))))
    (ss_one (ss_ret (se_tup (sa_cons (se_div (se_var 0) (se_var 2)) (sa_cons (se_div (se_var 1) (se_var 2)) sa_nil))))))))), hm, Fu.kp, Fu.binds fun _ _ _ _ _ _ us hl => match us, hl with | [_, _], _ => rfl⟩
theorem sc__law_add : FnScope ["one", "two"] ["one", "two"] (defScope s__law_add) := ⟨rfl, rfl, rfl, by decide +kernel, rfl, by decide +kernel, by decide +kernel⟩
theorem ok__law_add (T : Tx K mg) (h__law_low : Has P w K mg base 1 "_law_low" ["number", "by"] m__law_low) {f : Addr} {fd : FuncData} (Fu : Fun K "_law_add" "_law_add" s__law_add f fd) (hm : mg "_law_add" = some (.ref f)) : Has P w K mg base 2 "_law_add" ["one", "two"] m__law_add :=
  ⟨f, fd, fn_ok (k := 1) (O := []) Fu sc__law_add (by decide) (by decide) (fun cdv A outer s H E hr => (ss_one (ss_ret (se_has h__law_low (hr.mono (by first | decide | omega)) rfl (sa_cons (se_add (se_mul (se_ix (se_var 0) se_int) (se_ix (se_var 1) se_int)) (se_mul (se_ix (se_var 1) se_int) (se_ix (se_var 0) se_int))) (sa_cons (se_mul (se_ix (se_var 0) se_int) (se_ix (se_var 1) se_int)) sa_nil)))))), hm, Fu.kp, Fu.binds fun _ _ _ _ _ _ us hl => match us, hl with | [_, _], _ => rfl⟩
theorem sc_first_from : FnScope ["calendar", "time", "head", "turn", "later"] ["calendar", "time"] (defScope s_first_from) := ⟨rfl, rfl, rfl, by decide +kernel, rfl, by decide +kernel, by decide +kernel⟩
theorem ok_first_from (T : Tx K mg) (h_flag_at : Has P w K mg base 1 "flag_at" ["calendar", "time"] m_flag_at) {f : Addr} {fd : FuncData} (Fu : Fun K "first_from" "first_from" s_first_from f fd) (hm : mg "first_from" = some (.ref f)) : Has P w K mg base 2 "first_from" ["calendar", "time"] m_first_from :=
  ⟨f, fd, fn_ok (k := 1) (O := []) Fu sc_first_from (by decide) (by decide) (fun cdv A outer s H E hr => (ss_cons (ss_asg (se_var 0) (sg_tup rfl (sgs_cons (sg_name 2 sc_first_from.nd) (sgs_cons (sg_name 3 sc_first_from.nd) sgs_nil))))
    (ss_cons (ss_for PassesOwn.never rfl (si_range2 T.g_range rfl (sa_consA (se_var 1) (sa_consA (se_add (se_max2 rfl T.g_max rfl (sa_consA (se_var 1) (sa_consA (se_len T.g_len rfl (sa_consA (se_var 2) sa_nil)) sa_nil))) (se_len T.g_len rfl (sa_consA (se_var 3) sa_nil))) sa_nil))) (sg_name 4 sc_first_from.nd) (ss_one (ss_if (st_eq hr.units (se_has h_flag_at (hr.mono (by first | decide | omega)) rfl (sa_cons (se_var 0) (sa_cons (se_var 4) sa_nil))) se_int) (ss_one (ss_ret (se_var 4))) ss_nil)))
    (ss_one (ss_ret se_non))))), hm, Fu.kp, Fu.binds fun _ _ _ _ _ _ us hl => match us, hl with | [_, _], _ => rfl⟩
theorem sc_holds : FnScope ["calendar", "time"] ["calendar", "time"] (defScope s_holds) := ⟨rfl, rfl, rfl, by decide +kernel, rfl, by decide +kernel, by decide +kernel⟩
theorem ok_holds (T : Tx K mg) (h_flag_at : Has P w K mg base 1 "flag_at" ["calendar", "time"] m_flag_at) {f : Addr} {fd : FuncData} (Fu : Fun K "holds" "holds" s_holds f fd) (hm : mg "holds" = some (.ref f)) : Has P w K mg base 2 "holds" ["calendar", "time"] m_holds :=
  ⟨f, fd, fn_ok (k := 1) (O := []) Fu sc_holds (by decide) (by decide) (fun cdv A outer s H E hr => (ss_one (ss_ret (se_eq hr.units (se_has h_flag_at (hr.mono (by first | decide | omega)) rfl (sa_cons (se_var 0) (sa_cons (se_var 1) sa_nil))) se_int)))), hm, Fu.kp, Fu.binds fun _ _ _ _ _ _ us hl => match us, hl with | [_, _], _ => rfl⟩
theorem sc__law_same : FnScope ["actual", "due", "k"] ["actual", "due"] (defScope s__law_same) := ⟨rfl, rfl, rfl, by decide +kernel, rfl, by decide +kernel, by decide +kernel⟩
theorem ok__law_same (T : Tx K mg)  {f : Addr} {fd : FuncData} (Fu : Fun K "_law_same" "_law_same" s__law_same f fd) (hm : mg "_law_same" = some (.ref f)) : ∀ k, Has P w K mg base (k + 0) "_law_same" ["actual", "due"] (r__law_same k)
  | 0 => ⟨f, fd, fn_none, hm, Fu.kp, Fu.binds fun _ _ _ _ _ _ us hl => match us, hl with | [_, _], _ => rfl⟩
  | k + 1 => have h__law_same := ok__law_same T  Fu hm k
    ⟨f, fd, fn_ok (k := k + 0) (O := []) Fu sc__law_same (by decide) (by decide) (fun cdv A outer s H E hr => (ss_cons (ss_if (st_truth (se_isi2 (T := "list") (U := "tuple") T.g_isinstance rfl T.g_list rfl (by decide +kernel) T.g_tuple rfl (by decide +kernel) (se_var 1))) (ss_cons (ss_if (st_w (sw_or (st_ne hr.units (se_isi (T := "list") T.g_isinstance rfl T.g_list rfl (by decide +kernel) (se_var 1)) (se_isi (T := "list") T.g_isinstance rfl T.g_list rfl (by decide +kernel) (se_var 0))) (sw_or1 (st_ne hr.units (se_isi (T := "tuple") T.g_isinstance rfl T.g_tuple rfl (by decide +kernel) (se_var 1)) (se_isi (T := "tuple") T.g_isinstance rfl T.g_tuple rfl (by decide +kernel) (se_var 0)))))) (ss_one (ss_ret se_bl)) ss_nil)
      (ss_cons (ss_if (st_ne hr.units (se_len T.g_len rfl (sa_consA (se_var 0) sa_nil)) (se_len T.g_len rfl (sa_consA (se_var 1) sa_nil))) (ss_one (ss_ret se_bl)) ss_nil)
      (ss_one (ss_ret (se_all rfl T.g_all rfl (sa_consA (se_lc rfl sc__law_same.nd (si_range1 T.g_range rfl (sa_consA (se_len T.g_len rfl (sa_consA (se_var 1) sa_nil)) sa_nil)) (blkOk_by (own := [("k", 2)]) (N := ["actual", "due", "k"]) (sc := (defScope s__law_same)) (by decide +kernel)) (by decide) (fun _ _ _ _ _ => (sg_name 2 sc__law_same.nd)) (fun _ _ _ _ _ => sts_nil) (fun _ _ _ _ _ => (se_has h__law_same hr rfl (sa_cons (se_ix (se_var 0) (se_var 2)) (sa_cons (se_ix (se_var 1) (se_var 2)) sa_nil))))) sa_nil)))))) ss_nil)
    (ss_cons (ss_if (st_is (se_var 1) se_non) (ss_one (ss_ret (se_is (se_var 0) se_non))) ss_nil)
    (ss_cons (ss_if (st_ne hr.units (se_isi (T := "bool") T.g_isinstance rfl T.g_bool rfl (by decide +kernel) (se_var 1)) (se_isi (T := "bool") T.g_isinstance rfl T.g_bool rfl (by decide +kernel) (se_var 0))) (ss_one (ss_ret se_bl)) ss_nil)
    (ss_cons (ss_if (st_truth (se_isi (T := "str") T.g_isinstance rfl T.g_str rfl (by decide +kernel) (se_var 1))) (ss_one (ss_ret (se_and (se_isi (T := "str") T.g_isinstance rfl T.g_str rfl (by decide +kernel) (se_var 0)) (se_one (se_eq hr.units (se_var 0) (se_var 1)))))) ss_nil)
    (ss_one (ss_ret (se_and (se_isi (T := "int") T.g_isinstance rfl T.g_int rfl (by decide +kernel) (se_var 0)) (se_one (se_eq hr.units (se_var 0) (se_var 1))))))))))), hm, Fu.kp, Fu.binds fun _ _ _ _ _ _ us hl => match us, hl with | [_, _], _ => rfl⟩
theorem sc_ratio : FnScope ["number", "by", "common"] ["number", "by"] (defScope s_ratio) := ⟨rfl, rfl, rfl, by decide +kernel, rfl, by decide +kernel, by decide +kernel⟩
theorem ok_ratio (T : Tx K mg)  {f : Addr} {fd : FuncData} (Fu : Fun K "ratio" "ratio" s_ratio f fd) (hm : mg "ratio" = some (.ref f)) : Has P w K mg base 1 "ratio" ["number", "by"] m_ratio :=
  ⟨f, fd, fn_ok (k := 0) (O := []) Fu sc_ratio (by decide) (by decide) (fun cdv A outer s H E hr => (ss_cons (ss_if (st_lt (se_var 1) se_int) (ss_one (ss_par 0 1 rfl sc_ratio.nd (sa_cons (se_neg (se_var 0)) (sa_cons (se_neg (se_var 1)) sa_nil)))) ss_nil)
    (ss_cons (ss_set 2 sc_ratio.nd (se_gcd T.g_gcd rfl (sa_consA (se_var 0) (sa_consA (se_var 1) sa_nil))))
    (ss_one (ss_ret (se_tup (sa_cons (se_div (se_var 0) (se_var 2)) (sa_cons (se_div (se_var 1) (se_var 2)) sa_nil)))))))), hm, Fu.kp, Fu.binds fun _ _ _ _ _ _ us hl => match us, hl with | [_, _], _ => rfl⟩
theorem sc_share_of : FnScope ["calendar", "_", "turn"] ["calendar"] (defScope s_share_of) := ⟨rfl, rfl, rfl, by decide +kernel, rfl, by decide +kernel, by decide +kernel⟩
theorem ok_share_of (T : Tx K mg) (h_ratio : Has P w K mg base 1 "ratio" ["number", "by"] m_ratio) {f : Addr} {fd : FuncData} (Fu : Fun K "share_of" "share_of" s_share_of f fd) (hm : mg "share_of" = some (.ref f)) : Has P w K mg base 2 "share_of" ["calendar"] m_share_of :=
  ⟨f, fd, fn_ok (k := 1) (O := []) Fu sc_share_of (by decide) (by decide) (fun cdv A outer s H E hr => (ss_cons (ss_asg (se_var 0) (sg_tup rfl (sgs_cons (sg_name 1 sc_share_of.nd) (sgs_cons (sg_name 2 sc_share_of.nd) sgs_nil))))
    (ss_one (ss_ret (se_has h_ratio (hr.mono (by first | decide | omega)) rfl (sa_cons (se_sum rfl T.g_sum rfl (sa_consA (se_var 2) sa_nil)) (sa_cons (se_len T.g_len rfl (sa_consA (se_var 2) sa_nil)) sa_nil))))))), hm, Fu.kp, Fu.binds fun _ _ _ _ _ _ us hl => match us, hl with | [_], _ => rfl⟩
theorem sc_at_least : FnScope ["calendars", "many", "start", "long", "flags", "time", "head", "_", "calendar"] ["calendars", "many"] (defScope s_at_least) := ⟨rfl, rfl, rfl, by decide +kernel, rfl, by decide +kernel, by decide +kernel⟩
theorem ok_at_least (T : Tx K mg) (h_common_turn : Has P w K mg base 1 "common_turn" ["calendars"] m_common_turn) (h_calendar_of : Has P w K mg base 2 "calendar_of" ["head", "turn"] m_calendar_of) (h_flag_at : Has P w K mg base 1 "flag_at" ["calendar", "time"] m_flag_at) {f : Addr} {fd : FuncData} (Fu : Fun K "at_least" "at_least" s_at_least f fd) (hm : mg "at_least" = some (.ref f)) : Has P w K mg base 3 "at_least" ["calendars", "many"] m_at_least :=
  ⟨f, fd, fn_ok (k := 2) (O := [4]) Fu sc_at_least (by decide) (by decide) (fun cdv A outer s H E hr => (ss_cons (ss_set 2 sc_at_least.nd (se_max1 rfl T.g_max rfl (sa_consA (se_lc rfl sc_at_least.nd (si_seq (se_var 0)) (blkOk_by (own := [("head", 6), ("_", 7)]) (N := ["calendars", "many", "start", "long", "flags", "time", "head", "_", "calendar"]) (sc := (defScope s_at_least)) (by decide +kernel)) (by decide) (fun _ _ _ _ _ => (sg_tup rfl (sgs_cons (sg_name 6 sc_at_least.nd) (sgs_cons (sg_name 7 sc_at_least.nd) sgs_nil)))) (fun _ _ _ _ _ => sts_nil) (fun _ _ _ _ _ => (se_len T.g_len rfl (sa_consA (se_var 6) sa_nil)))) sa_nil)))
    (ss_cons (ss_set 3 sc_at_least.nd (se_has h_common_turn (hr.mono (by first | decide | omega)) rfl (sa_cons (se_var 0) sa_nil)))
    (ss_cons (ss_setO 4 sc_at_least.nd (sf_lst sa_nil))
    (ss_cons (ss_for PassesOwn.never rfl (si_range1 T.g_range rfl (sa_consA (se_add (se_var 2) (se_var 3)) sa_nil)) (sg_name 5 sc_at_least.nd) (ss_one (ss_app 4 (se_if (st_ge (se_sum rfl T.g_sum rfl (sa_consA (se_lc rfl sc_at_least.nd (si_seq (se_var 0)) (blkOk_by (own := [("calendar", 8)]) (N := ["calendars", "many", "start", "long", "flags", "time", "head", "_", "calendar"]) (sc := (defScope s_at_least)) (by decide +kernel)) (by decide) (fun _ _ _ _ _ => (sg_name 8 sc_at_least.nd)) (fun _ _ _ _ _ => sts_nil) (fun _ _ _ _ _ => (se_has h_flag_at (hr.mono (by first | decide | omega)) rfl (sa_cons (se_var 8) (sa_cons (se_var 5) sa_nil))))) sa_nil)) (se_var 1)) se_int se_int))))
    (ss_one (ss_ret (se_has h_calendar_of (hr.mono (by first | decide | omega)) rfl (sa_cons (se_tuple T.g_tuple rfl (sa_consA (se_slice (se_own 4) so_none (so_some (se_var 2))) sa_nil)) (sa_cons (se_tuple T.g_tuple rfl (sa_consA (se_slice (se_own 4) (so_some (se_var 2)) so_none) sa_nil)) sa_nil)))))))))), hm, Fu.kp, Fu.binds fun _ _ _ _ _ _ us hl => match us, hl with | [_, _], _ => rfl⟩
theorem sc_shifted : FnScope ["calendar", "by", "head", "turn", "cut", "moved"] ["calendar", "by"] (defScope s_shifted) := ⟨rfl, rfl, rfl, by decide +kernel, rfl, by decide +kernel, by decide +kernel⟩
theorem ok_shifted (T : Tx K mg) (h_calendar_of : Has P w K mg base 2 "calendar_of" ["head", "turn"] m_calendar_of) {f : Addr} {fd : FuncData} (Fu : Fun K "shifted" "shifted" s_shifted f fd) (hm : mg "shifted" = some (.ref f)) : Has P w K mg base 3 "shifted" ["calendar", "by"] m_shifted :=
  ⟨f, fd, fn_ok (k := 2) (O := []) Fu sc_shifted (by decide) (by decide) (fun cdv A outer s H E hr => (ss_cons (ss_asg (se_var 0) (sg_tup rfl (sgs_cons (sg_name 2 sc_shifted.nd) (sgs_cons (sg_name 3 sc_shifted.nd) sgs_nil))))
    (ss_cons (ss_if (st_ge (se_var 1) se_int) (ss_one (ss_ret (se_has h_calendar_of (hr.mono (by first | decide | omega)) rfl (sa_cons (se_add (se_mul (se_tup (sa_cons se_int sa_nil)) (se_var 1)) (se_var 2)) (sa_cons (se_var 3) sa_nil))))) ss_nil)
    (ss_cons (ss_set 4 sc_shifted.nd (se_neg (se_var 1)))
    (ss_cons (ss_if (st_le (se_var 4) (se_len T.g_len rfl (sa_consA (se_var 2) sa_nil))) (ss_one (ss_ret (se_has h_calendar_of (hr.mono (by first | decide | omega)) rfl (sa_cons (se_slice (se_var 2) (so_some (se_var 4)) so_none) (sa_cons (se_var 3) sa_nil))))) ss_nil)
    (ss_cons (ss_set 5 sc_shifted.nd (se_mod (se_sub (se_var 4) (se_len T.g_len rfl (sa_consA (se_var 2) sa_nil))) (se_len T.g_len rfl (sa_consA (se_var 3) sa_nil))))
    (ss_one (ss_ret (se_has h_calendar_of (hr.mono (by first | decide | omega)) rfl (sa_cons (se_tup sa_nil) (sa_cons (se_add (se_slice (se_var 3) (so_some (se_var 5)) so_none) (se_slice (se_var 3) so_none (so_some (se_var 5)))) sa_nil))))))))))), hm, Fu.kp, Fu.binds fun _ _ _ _ _ _ us hl => match us, hl with | [_, _], _ => rfl⟩
theorem sc_full_turns : FnScope ["number", "turn"] ["number", "turn"] (defScope s_full_turns) := ⟨rfl, rfl, rfl, by decide +kernel, rfl, by decide +kernel, by decide +kernel⟩
theorem ok_full_turns (T : Tx K mg)  {f : Addr} {fd : FuncData} (Fu : Fun K "full_turns" "full_turns" s_full_turns f fd) (hm : mg "full_turns" = some (.ref f)) : Has P w K mg base 1 "full_turns" ["number", "turn"] m_full_turns :=
  ⟨f, fd, fn_ok (k := 0) (O := []) Fu sc_full_turns (by decide) (by decide) (fun cdv A outer s H E hr => (ss_one (ss_ret (se_div (se_var 0) (se_sum rfl T.g_sum rfl (sa_consA (se_var 1) sa_nil)))))), hm, Fu.kp, Fu.binds fun _ _ _ _ _ _ us hl => match us, hl with | [_, _], _ => rfl⟩
theorem sc_nth : FnScope ["calendar", "number", "head", "turn", "start", "left", "time"] ["calendar", "number"] (defScope s_nth) := ⟨rfl, rfl, rfl, by decide +kernel, rfl, by decide +kernel, by decide +kernel⟩
theorem ok_nth (T : Tx K mg) (h_first_from : Has P w K mg base 2 "first_from" ["calendar", "time"] m_first_from) (h_ones_before : Has P w K mg base 1 "ones_before" ["calendar", "time"] m_ones_before) (h_full_turns : Has P w K mg base 1 "full_turns" ["number", "turn"] m_full_turns) {f : Addr} {fd : FuncData} (Fu : Fun K "nth" "nth" s_nth f fd) (hm : mg "nth" = some (.ref f)) : Has P w K mg base 3 "nth" ["calendar", "number"] m_nth :=
  ⟨f, fd, fn_ok (k := 2) (O := []) Fu sc_nth (by decide) (by decide) (fun cdv A outer s H E hr => (ss_cons (ss_asg (se_var 0) (sg_tup rfl (sgs_cons (sg_name 2 sc_nth.nd) (sgs_cons (sg_name 3 sc_nth.nd) sgs_nil))))
    (ss_cons (ss_set 4 sc_nth.nd se_int)
    (ss_cons (ss_if (st_ge (se_var 1) (se_sum rfl T.g_sum rfl (sa_consA (se_var 2) sa_nil))) (ss_cons (ss_if (st_eq hr.units (se_sum rfl T.g_sum rfl (sa_consA (se_var 3) sa_nil)) se_int) (ss_one (ss_ret se_non)) ss_nil)
      (ss_one (ss_set 4 sc_nth.nd (se_add (se_len T.g_len rfl (sa_consA (se_var 2) sa_nil)) (se_mul (se_has h_full_turns (hr.mono (by first | decide | omega)) rfl (sa_cons (se_sub (se_var 1) (se_sum rfl T.g_sum rfl (sa_consA (se_var 2) sa_nil))) (sa_cons (se_var 3) sa_nil))) (se_len T.g_len rfl (sa_consA (se_var 3) sa_nil))))))) ss_nil)
    (ss_cons (ss_set 5 sc_nth.nd (se_sub (se_var 1) (se_has h_ones_before (hr.mono (by first | decide | omega)) rfl (sa_cons (se_var 0) (sa_cons (se_var 4) sa_nil)))))
    (ss_cons (ss_set 6 sc_nth.nd (se_has h_first_from (hr.mono (by first | decide | omega)) rfl (sa_cons (se_var 0) (sa_cons (se_var 4) sa_nil))))
    (ss_cons (ss_while 100000 PassesOwn.never (st_gt (se_var 5) se_int) (ss_cons (ss_set 6 sc_nth.nd (se_has h_first_from (hr.mono (by first | decide | omega)) rfl (sa_cons (se_var 0) (sa_cons (se_add (se_var 6) se_int) sa_nil))))
      (ss_one (ss_set 5 sc_nth.nd (se_sub (se_var 5) se_int)))))
    (ss_one (ss_ret (se_var 6)))))))))), hm, Fu.kp, Fu.binds fun _ _ _ _ _ _ us hl => match us, hl with | [_, _], _ => rfl⟩
theorem sc_law : FnScope ["script", "draw", "one", "other", "third", "both", "either", "rest", "first", "last", "time", "a", "b", "c", "counts", "by", "wait", "told", "calendar", "low", "high"] ["script"] (defScope s_law) := ⟨rfl, rfl, rfl, by decide +kernel, rfl, by decide +kernel, by decide +kernel⟩
theorem ok_law (T : Tx K mg) {fD : Addr} {fdD : FuncData} (FD : FnOk P w K mg base CX0 1 fD fdD ["script"] (spDraw K)) (gD : mg "_law_draw" = some (.ref fD)) (kD : PySem.W.keepIn K (.ref fD) = true) (bD : Binds K fdD ["script"] []) (h__law_next : Has P w K mg base 1 "_law_next" ["draw", "many"] nextF) (h_wait_of : Has P w K mg base 2 "wait_of" ["calendar"] m_wait_of) (h_spans : Has P w K mg base 2 "spans" ["calendar", "first", "last"] m_spans) (h__law_calendar : Has P w K mg base 3 "_law_calendar" ["draw"] m__law_calendar) (h_meet : Has P w K mg base 4 "meet" ["one", "other"] m_meet) (h_join : Has P w K mg base 4 "join" ["one", "other"] m_join) (h_without : Has P w K mg base 4 "without" ["one", "other"] m_without) (h_count_between : Has P w K mg base 2 "count_between" ["calendar", "first", "last"] m_count_between) (h__law_add : Has P w K mg base 2 "_law_add" ["one", "two"] m__law_add) (h_first_from : Has P w K mg base 2 "first_from" ["calendar", "time"] m_first_from) (h_holds : Has P w K mg base 2 "holds" ["calendar", "time"] m_holds) (h__law_same : Has P w K mg base 30 "_law_same" ["actual", "due"] m__law_same) (h_share_of : Has P w K mg base 2 "share_of" ["calendar"] m_share_of) (h_at_least : Has P w K mg base 3 "at_least" ["calendars", "many"] m_at_least) (h_shifted : Has P w K mg base 3 "shifted" ["calendar", "by"] m_shifted) (h_nth : Has P w K mg base 3 "nth" ["calendar", "number"] m_nth)
    (hF : ∀ ns : List Int, ns.length ≤ 63 → ∃ δ' w', F_law (none :: some .drw :: List.replicate 19 none) ⟨ns, 0, 0, 17⟩ = some ((.rt (.bl true), δ'), w')) {f : Addr} {fd : FuncData} (Fu : Fun K "law" "law" s_law f fd) : FnOk P w K mg base CX0 31 f fd ["script"] (spLaw K) :=
  law_ok (O := []) Fu sc_law rfl (by decide) (by decide) (fun cdv A outer s H E hr => ps_set (i := 1) sc_law.nd rfl (by first | exact Or.inl rfl | exact Or.inr rfl) (pe_call FD (hr.mono (by decide)) rfl gD kD bD .nil pass0 (pa_cons (pv 0) pa_nil)))
    (fun cdv A outer s H E hr => (ss_cons (ss_par3 2 3 4 rfl sc_law.nd (sa_cons (se_has h__law_calendar (hr.mono (by first | decide | omega)) rfl (sa_cons (se_var 1) sa_nil)) (sa_cons (se_has h__law_calendar (hr.mono (by first | decide | omega)) rfl (sa_cons (se_var 1) sa_nil)) (sa_cons (se_has h__law_calendar (hr.mono (by first | decide | omega)) rfl (sa_cons (se_var 1) sa_nil)) sa_nil))))
    (ss_cons (ss_par3 5 6 7 rfl sc_law.nd (sa_cons (se_has h_meet (hr.mono (by first | decide | omega)) rfl (sa_cons (se_var 2) (sa_cons (se_var 3) sa_nil))) (sa_cons (se_has h_join (hr.mono (by first | decide | omega)) rfl (sa_cons (se_var 2) (sa_cons (se_var 3) sa_nil))) (sa_cons (se_has h_without (hr.mono (by first | decide | omega)) rfl (sa_cons (se_var 2) (sa_cons (se_var 3) sa_nil))) sa_nil))))
    (ss_cons (ss_set 8 sc_law.nd (se_has h__law_next (hr.mono (by first | decide | omega)) rfl (sa_cons (se_var 1) (sa_cons se_int sa_nil))))
    (ss_cons (ss_set 9 sc_law.nd (se_add (se_var 8) (se_has h__law_next (hr.mono (by first | decide | omega)) rfl (sa_cons (se_var 1) (sa_cons se_int sa_nil)))))
    (ss_cons (ss_for PassesOwn.never rfl (si_range2 T.g_range rfl (sa_consA (se_var 8) (sa_consA (se_add (se_var 9) se_int) sa_nil))) (sg_name 10 sc_law.nd) (ss_cons (ss_par3 11 12 13 rfl sc_law.nd (sa_cons (se_has h_holds (hr.mono (by first | decide | omega)) rfl (sa_cons (se_var 2) (sa_cons (se_var 10) sa_nil))) (sa_cons (se_has h_holds (hr.mono (by first | decide | omega)) rfl (sa_cons (se_var 3) (sa_cons (se_var 10) sa_nil))) (sa_cons (se_has h_holds (hr.mono (by first | decide | omega)) rfl (sa_cons (se_var 4) (sa_cons (se_var 10) sa_nil))) sa_nil))))
      (ss_cons (ss_if (st_w (sw_or (st_ne hr.units (se_has h_holds (hr.mono (by first | decide | omega)) rfl (sa_cons (se_var 5) (sa_cons (se_var 10) sa_nil))) (se_and (se_var 11) (se_one (se_var 12)))) (sw_or (st_ne hr.units (se_has h_holds (hr.mono (by first | decide | omega)) rfl (sa_cons (se_var 6) (sa_cons (se_var 10) sa_nil))) (se_or (se_var 11) (se_one (se_var 12)))) (sw_or1 (st_ne hr.units (se_has h_holds (hr.mono (by first | decide | omega)) rfl (sa_cons (se_var 7) (sa_cons (se_var 10) sa_nil))) (se_and (se_var 11) (se_one (se_notT (se_var 12))))))))) (ss_one (ss_ret se_bl)) ss_nil)
      (ss_one (ss_if (st_ne hr.units (se_has h_holds (hr.mono (by first | decide | omega)) rfl (sa_cons (se_has h_at_least (hr.mono (by first | decide | omega)) rfl (sa_cons (se_lst (sa_cons (se_var 2) (sa_cons (se_var 3) (sa_cons (se_var 4) sa_nil)))) (sa_cons se_int sa_nil))) (sa_cons (se_var 10) sa_nil))) (se_ge (se_count (se_lst (sa_cons (se_var 11) (sa_cons (se_var 12) (sa_cons (se_var 13) sa_nil)))) se_bl) se_int)) (ss_one (ss_ret se_bl)) ss_nil)))))
    (ss_cons (ss_setLc 14 rfl sc_law.nd (si_seq (se_tup (sa_cons (se_var 2) (sa_cons (se_var 3) (sa_cons (se_var 5) (sa_cons (se_var 6) (sa_cons (se_var 7) sa_nil))))))) (blkOk_by (own := [("calendar", 18)]) (N := ["script", "draw", "one", "other", "third", "both", "either", "rest", "first", "last", "time", "a", "b", "c", "counts", "by", "wait", "told", "calendar", "low", "high"]) (sc := (defScope s_law)) (by decide +kernel)) (by decide) (fun _ _ _ _ _ => (sg_name 18 sc_law.nd)) (fun _ _ _ _ _ => sts_nil) (fun _ _ _ _ _ => (se_has h_count_between (hr.mono (by first | decide | omega)) rfl (sa_cons (se_var 18) (sa_cons (se_var 8) (sa_cons (se_var 9) sa_nil))))))
    (ss_cons (ss_if (st_w (sw_or (st_ne hr.units (se_add (se_ix (se_var 14) se_int) (se_ix (se_var 14) se_int)) (se_add (se_ix (se_var 14) se_int) (se_ix (se_var 14) se_int))) (sw_or1 (st_ne hr.units (se_add (se_ix (se_var 14) se_int) (se_ix (se_var 14) se_int)) (se_ix (se_var 14) se_int))))) (ss_one (ss_ret se_bl)) ss_nil)
    (ss_cons (ss_if (st_w (sw_or (st_not (st_truth (se_has h__law_same (hr.mono (by first | decide | omega)) rfl (sa_cons (se_has h_join (hr.mono (by first | decide | omega)) rfl (sa_cons (se_var 5) (sa_cons (se_var 7) sa_nil))) (sa_cons (se_var 2) sa_nil))))) (sw_or (st_not (st_truth (se_has h__law_same (hr.mono (by first | decide | omega)) rfl (sa_cons (se_has h_meet (hr.mono (by first | decide | omega)) rfl (sa_cons (se_var 2) (sa_cons (se_has h_join (hr.mono (by first | decide | omega)) rfl (sa_cons (se_var 3) (sa_cons (se_var 4) sa_nil))) sa_nil))) (sa_cons (se_has h_join (hr.mono (by first | decide | omega)) rfl (sa_cons (se_var 5) (sa_cons (se_has h_meet (hr.mono (by first | decide | omega)) rfl (sa_cons (se_var 2) (sa_cons (se_var 4) sa_nil))) sa_nil))) sa_nil))))) (sw_or1 (st_not (st_truth (se_has h__law_same (hr.mono (by first | decide | omega)) rfl (sa_cons (se_has h_without (hr.mono (by first | decide | omega)) rfl (sa_cons (se_var 2) (sa_cons (se_has h_without (hr.mono (by first | decide | omega)) rfl (sa_cons (se_var 2) (sa_cons (se_var 3) sa_nil))) sa_nil))) (sa_cons (se_var 5) sa_nil))))))))) (ss_one (ss_ret se_bl)) ss_nil)
    (ss_cons (ss_set 15 sc_law.nd (se_has h__law_next (hr.mono (by first | decide | omega)) rfl (sa_cons (se_var 1) (sa_cons se_int sa_nil))))
    (ss_cons (ss_if (st_w (sw_or (st_ne hr.units (se_has h_count_between (hr.mono (by first | decide | omega)) rfl (sa_cons (se_has h_shifted (hr.mono (by first | decide | omega)) rfl (sa_cons (se_var 2) (sa_cons (se_var 15) sa_nil))) (sa_cons (se_add (se_var 8) (se_var 15)) (sa_cons (se_add (se_var 9) (se_var 15)) sa_nil)))) (se_ix (se_var 14) se_int)) (sw_or1 (st_not (st_truth (se_has h__law_same (hr.mono (by first | decide | omega)) rfl (sa_cons (se_has h_join (hr.mono (by first | decide | omega)) rfl (sa_cons (se_has h_shifted (hr.mono (by first | decide | omega)) rfl (sa_cons (se_var 2) (sa_cons (se_var 15) sa_nil))) (sa_cons (se_has h_shifted (hr.mono (by first | decide | omega)) rfl (sa_cons (se_var 3) (sa_cons (se_var 15) sa_nil))) sa_nil))) (sa_cons (se_has h_shifted (hr.mono (by first | decide | omega)) rfl (sa_cons (se_var 6) (sa_cons (se_var 15) sa_nil))) sa_nil)))))))) (ss_one (ss_ret se_bl)) ss_nil)
    (ss_cons (ss_if (st_ne hr.units (se_has h__law_add (hr.mono (by first | decide | omega)) rfl (sa_cons (se_has h_share_of (hr.mono (by first | decide | omega)) rfl (sa_cons (se_var 5) sa_nil)) (sa_cons (se_has h_share_of (hr.mono (by first | decide | omega)) rfl (sa_cons (se_var 6) sa_nil)) sa_nil))) (se_has h__law_add (hr.mono (by first | decide | omega)) rfl (sa_cons (se_has h_share_of (hr.mono (by first | decide | omega)) rfl (sa_cons (se_var 2) sa_nil)) (sa_cons (se_has h_share_of (hr.mono (by first | decide | omega)) rfl (sa_cons (se_var 3) sa_nil)) sa_nil)))) (ss_one (ss_ret se_bl)) ss_nil)
    (ss_cons (ss_set 16 sc_law.nd (se_has h_wait_of (hr.mono (by first | decide | omega)) rfl (sa_cons (se_var 2) sa_nil)))
    (ss_cons (ss_if (st_w (sw_or (st_ne hr.units (se_is (se_var 16) se_non) (se_eq hr.units (se_has h_share_of (hr.mono (by first | decide | omega)) rfl (sa_cons (se_var 2) sa_nil)) (se_tup (sa_cons se_int (sa_cons se_int sa_nil))))) (sw_or1 (st_w (sw_and (st_isNot (se_var 16) se_non) (sw_and1 (st_lt (se_has h_count_between (hr.mono (by first | decide | omega)) rfl (sa_cons (se_var 2) (sa_cons (se_var 8) (sa_cons (se_add (se_var 8) (se_var 16)) sa_nil)))) se_int))))))) (ss_one (ss_ret se_bl)) ss_nil)
    (ss_cons (ss_set 17 sc_law.nd (se_has h_spans (hr.mono (by first | decide | omega)) rfl (sa_cons (se_var 2) (sa_cons (se_var 8) (sa_cons (se_var 9) sa_nil)))))
    (ss_cons (ss_if (st_ne hr.units (se_sum rfl T.g_sum rfl (sa_consA (se_lc rfl sc_law.nd (si_seq (se_var 17)) (blkOk_by (own := [("low", 19), ("high", 20)]) (N := ["script", "draw", "one", "other", "third", "both", "either", "rest", "first", "last", "time", "a", "b", "c", "counts", "by", "wait", "told", "calendar", "low", "high"]) (sc := (defScope s_law)) (by decide +kernel)) (by decide) (fun _ _ _ _ _ => (sg_tup rfl (sgs_cons (sg_name 19 sc_law.nd) (sgs_cons (sg_name 20 sc_law.nd) sgs_nil)))) (fun _ _ _ _ _ => sts_nil) (fun _ _ _ _ _ => (se_add (se_sub (se_var 20) (se_var 19)) se_int))) sa_nil)) (se_ix (se_var 14) se_int)) (ss_one (ss_ret se_bl)) ss_nil)
    (ss_cons (ss_if (st_gt (se_ix (se_var 14) se_int) se_int) (ss_cons (ss_set 10 sc_law.nd (se_has h_first_from (hr.mono (by first | decide | omega)) rfl (sa_cons (se_var 2) (sa_cons (se_var 8) sa_nil))))
      (ss_one (ss_if (st_w (sw_or (st_not (st_chain op_le op_le os_le os_le (se_var 8) (se_var 10) (se_var 9))) (sw_or (st_ne hr.units (se_has h_nth (hr.mono (by first | decide | omega)) rfl (sa_cons (se_var 2) (sa_cons (se_sub (se_has h_count_between (hr.mono (by first | decide | omega)) rfl (sa_cons (se_var 2) (sa_cons se_int (sa_cons (se_var 10) sa_nil)))) se_int) sa_nil))) (se_var 10)) (sw_or1 (st_ne hr.units (se_ix (se_ix (se_var 17) se_int) se_int) (se_var 10)))))) (ss_one (ss_ret se_bl)) ss_nil))) ss_nil)
    (ss_one (ss_ret se_bl))))))))))))))))))) hF
end
end K80

namespace K80
open PySem PySem.Spec PyProof.Rows L2 Fc
theorem all_mk {l : PySem.W.OpenLaw} {w : World} {K : PySem.W.Frag} {h : Heap} {mg : Str → Option Value} {fa f0 f1 f2 f3 f4 f5 f6 f7 f8 f9 f10 f11 f12 f13 f14 f15 f16 f17 f18 f19 f20 f21 f22 f23 f24 f25 f26 f27 f28 f29 : Addr} (X : K.In h) (G : h.Ns mainGlobals mg) (hfa : mg "law" = some (.ref fa))
    {od0 an0 od1 an1 od2 an2 od3 an3 od4 an4 od5 an5 od6 an6 od7 an7 od8 an8 od9 an9 od10 an10 od11 an11 od12 an12 od13 an13 od14 an14 od15 an15 od16 an16 od17 an17 od18 an18 od19 an19 od20 an20 od21 an21 od22 an22 od23 an23 od24 an24 od25 an25 od26 an26 od27 an27 od28 an28 od29 an29 : Option Addr} {sl0 sl1 sl2 sl3 sl4 sl5 sl6 sl7 sl8 sl9 sl10 sl11 sl12 sl13 sl14 sl15 sl16 sl17 sl18 sl19 sl20 sl21 sl22 sl23 sl24 sl25 sl26 sl27 sl28 sl29 : Array (Option Value)} {oc0 kV0 dc0 pm0 cd0 ct0 oc1 kV1 dc1 pm1 cd1 ct1 oc2 kV2 dc2 pm2 cd2 ct2 oc3 kV3 dc3 pm3 cd3 ct3 oc4 kV4 dc4 pm4 cd4 ct4 oc5 kV5 dc5 pm5 cd5 ct5 oc6 kV6 dc6 pm6 cd6 ct6 oc7 kV7 dc7 pm7 cd7 ct7 oc8 kV8 dc8 pm8 cd8 ct8 oc9 kV9 dc9 pm9 cd9 ct9 oc10 kV10 dc10 pm10 cd10 ct10 oc11 kV11 dc11 pm11 cd11 ct11 oc12 kV12 dc12 pm12 cd12 ct12 oc13 kV13 dc13 pm13 cd13 ct13 oc14 kV14 dc14 pm14 cd14 ct14 oc15 kV15 dc15 pm15 cd15 ct15 oc16 kV16 dc16 pm16 cd16 ct16 oc17 kV17 dc17 pm17 cd17 ct17 oc18 kV18 dc18 pm18 cd18 ct18 oc19 kV19 dc19 pm19 cd19 ct19 oc20 kV20 dc20 pm20 cd20 ct20 oc21 kV21 dc21 pm21 cd21 ct21 oc22 kV22 dc22 pm22 cd22 ct22 oc23 kV23 dc23 pm23 cd23 ct23 oc24 kV24 dc24 pm24 cd24 ct24 oc25 kV25 dc25 pm25 cd25 ct25 oc26 kV26 dc26 pm26 cd26 ct26 oc27 kV27 dc27 pm27 cd27 ct27 oc28 kV28 dc28 pm28 cd28 ct28 oc29 kV29 dc29 pm29 cd29 ct29 : Value}
    (a0 : PySem.W.nsIn K mainGlobals "_law_draw" = some (some (.ref f0))) (l0 : K.lookup f0 = some ⟨oc0, od0, .func (PySem.W.fnOf "_law_draw" "_law_draw" (defArgs s__law_draw) (defBody s__law_draw) (defScope s__law_draw) .none kV0 dc0 pm0 an0 cd0 ct0), sl0⟩) (c0 : PySem.W.codeIn K cd0 "_law_draw" = true) (k0 : PySem.W.keepIn K (.ref f0) = true)
    (a1 : PySem.W.nsIn K mainGlobals "_law_next" = some (some (.ref f1))) (l1 : K.lookup f1 = some ⟨oc1, od1, .func (PySem.W.fnOf "_law_next" "_law_next" (defArgs s__law_next) (defBody s__law_next) (defScope s__law_next) .none kV1 dc1 pm1 an1 cd1 ct1), sl1⟩) (c1 : PySem.W.codeIn K cd1 "_law_next" = true) (k1 : PySem.W.keepIn K (.ref f1) = true)
    (a2 : PySem.W.nsIn K mainGlobals "flag_at" = some (some (.ref f2))) (l2 : K.lookup f2 = some ⟨oc2, od2, .func (PySem.W.fnOf "flag_at" "flag_at" (defArgs s_flag_at) (defBody s_flag_at) (defScope s_flag_at) .none kV2 dc2 pm2 an2 cd2 ct2), sl2⟩) (c2 : PySem.W.codeIn K cd2 "flag_at" = true) (k2 : PySem.W.keepIn K (.ref f2) = true)
    (a3 : PySem.W.nsIn K mainGlobals "wait_of" = some (some (.ref f3))) (l3 : K.lookup f3 = some ⟨oc3, od3, .func (PySem.W.fnOf "wait_of" "wait_of" (defArgs s_wait_of) (defBody s_wait_of) (defScope s_wait_of) .none kV3 dc3 pm3 an3 cd3 ct3), sl3⟩) (c3 : PySem.W.codeIn K cd3 "wait_of" = true) (k3 : PySem.W.keepIn K (.ref f3) = true)
    (a4 : PySem.W.nsIn K mainGlobals "spans" = some (some (.ref f4))) (l4 : K.lookup f4 = some ⟨oc4, od4, .func (PySem.W.fnOf "spans" "spans" (defArgs s_spans) (defBody s_spans) (defScope s_spans) .none kV4 dc4 pm4 an4 cd4 ct4), sl4⟩) (c4 : PySem.W.codeIn K cd4 "spans" = true) (k4 : PySem.W.keepIn K (.ref f4) = true)
    (a5 : PySem.W.nsIn K mainGlobals "least_turn" = some (some (.ref f5))) (l5 : K.lookup f5 = some ⟨oc5, od5, .func (PySem.W.fnOf "least_turn" "least_turn" (defArgs s_least_turn) (defBody s_least_turn) (defScope s_least_turn) .none kV5 dc5 pm5 an5 cd5 ct5), sl5⟩) (c5 : PySem.W.codeIn K cd5 "least_turn" = true) (k5 : PySem.W.keepIn K (.ref f5) = true)
    (a6 : PySem.W.nsIn K mainGlobals "calendar_of" = some (some (.ref f6))) (l6 : K.lookup f6 = some ⟨oc6, od6, .func (PySem.W.fnOf "calendar_of" "calendar_of" (defArgs s_calendar_of) (defBody s_calendar_of) (defScope s_calendar_of) .none kV6 dc6 pm6 an6 cd6 ct6), sl6⟩) (c6 : PySem.W.codeIn K cd6 "calendar_of" = true) (k6 : PySem.W.keepIn K (.ref f6) = true)
    (a7 : PySem.W.nsIn K mainGlobals "_law_calendar" = some (some (.ref f7))) (l7 : K.lookup f7 = some ⟨oc7, od7, .func (PySem.W.fnOf "_law_calendar" "_law_calendar" (defArgs s__law_calendar) (defBody s__law_calendar) (defScope s__law_calendar) .none kV7 dc7 pm7 an7 cd7 ct7), sl7⟩) (c7 : PySem.W.codeIn K cd7 "_law_calendar" = true) (k7 : PySem.W.keepIn K (.ref f7) = true)
    (a8 : PySem.W.nsIn K mainGlobals "common_turn" = some (some (.ref f8))) (l8 : K.lookup f8 = some ⟨oc8, od8, .func (PySem.W.fnOf "common_turn" "common_turn" (defArgs s_common_turn) (defBody s_common_turn) (defScope s_common_turn) .none kV8 dc8 pm8 an8 cd8 ct8), sl8⟩) (c8 : PySem.W.codeIn K cd8 "common_turn" = true) (k8 : PySem.W.keepIn K (.ref f8) = true)
    (a9 : PySem.W.nsIn K mainGlobals "some_flag" = some (some (.ref f9))) (l9 : K.lookup f9 = some ⟨oc9, od9, .func (PySem.W.fnOf "some_flag" "some_flag" (defArgs s_some_flag) (defBody s_some_flag) (defScope s_some_flag) .none kV9 dc9 pm9 an9 cd9 ct9), sl9⟩) (c9 : PySem.W.codeIn K cd9 "some_flag" = true) (k9 : PySem.W.keepIn K (.ref f9) = true)
    (a10 : PySem.W.nsIn K mainGlobals "all_flags" = some (some (.ref f10))) (l10 : K.lookup f10 = some ⟨oc10, od10, .func (PySem.W.fnOf "all_flags" "all_flags" (defArgs s_all_flags) (defBody s_all_flags) (defScope s_all_flags) .none kV10 dc10 pm10 an10 cd10 ct10), sl10⟩) (c10 : PySem.W.codeIn K cd10 "all_flags" = true) (k10 : PySem.W.keepIn K (.ref f10) = true)
    (a11 : PySem.W.nsIn K mainGlobals "only_first" = some (some (.ref f11))) (l11 : K.lookup f11 = some ⟨oc11, od11, .func (PySem.W.fnOf "only_first" "only_first" (defArgs s_only_first) (defBody s_only_first) (defScope s_only_first) .none kV11 dc11 pm11 an11 cd11 ct11), sl11⟩) (c11 : PySem.W.codeIn K cd11 "only_first" = true) (k11 : PySem.W.keepIn K (.ref f11) = true)
    (a12 : PySem.W.nsIn K mainGlobals "told_by" = some (some (.ref f12))) (l12 : K.lookup f12 = some ⟨oc12, od12, .func (PySem.W.fnOf "told_by" "told_by" (defArgs s_told_by) (defBody s_told_by) (defScope s_told_by) .none kV12 dc12 pm12 an12 cd12 ct12), sl12⟩) (c12 : PySem.W.codeIn K cd12 "told_by" = true) (k12 : PySem.W.keepIn K (.ref f12) = true)
    (a13 : PySem.W.nsIn K mainGlobals "meet" = some (some (.ref f13))) (l13 : K.lookup f13 = some ⟨oc13, od13, .func (PySem.W.fnOf "meet" "meet" (defArgs s_meet) (defBody s_meet) (defScope s_meet) .none kV13 dc13 pm13 an13 cd13 ct13), sl13⟩) (c13 : PySem.W.codeIn K cd13 "meet" = true) (k13 : PySem.W.keepIn K (.ref f13) = true)
    (a14 : PySem.W.nsIn K mainGlobals "join" = some (some (.ref f14))) (l14 : K.lookup f14 = some ⟨oc14, od14, .func (PySem.W.fnOf "join" "join" (defArgs s_join) (defBody s_join) (defScope s_join) .none kV14 dc14 pm14 an14 cd14 ct14), sl14⟩) (c14 : PySem.W.codeIn K cd14 "join" = true) (k14 : PySem.W.keepIn K (.ref f14) = true)
    (a15 : PySem.W.nsIn K mainGlobals "without" = some (some (.ref f15))) (l15 : K.lookup f15 = some ⟨oc15, od15, .func (PySem.W.fnOf "without" "without" (defArgs s_without) (defBody s_without) (defScope s_without) .none kV15 dc15 pm15 an15 cd15 ct15), sl15⟩) (c15 : PySem.W.codeIn K cd15 "without" = true) (k15 : PySem.W.keepIn K (.ref f15) = true)
    (a16 : PySem.W.nsIn K mainGlobals "ones_before" = some (some (.ref f16))) (l16 : K.lookup f16 = some ⟨oc16, od16, .func (PySem.W.fnOf "ones_before" "ones_before" (defArgs s_ones_before) (defBody s_ones_before) (defScope s_ones_before) .none kV16 dc16 pm16 an16 cd16 ct16), sl16⟩) (c16 : PySem.W.codeIn K cd16 "ones_before" = true) (k16 : PySem.W.keepIn K (.ref f16) = true)
    (a17 : PySem.W.nsIn K mainGlobals "count_between" = some (some (.ref f17))) (l17 : K.lookup f17 = some ⟨oc17, od17, .func (PySem.W.fnOf "count_between" "count_between" (defArgs s_count_between) (defBody s_count_between) (defScope s_count_between) .none kV17 dc17 pm17 an17 cd17 ct17), sl17⟩) (c17 : PySem.W.codeIn K cd17 "count_between" = true) (k17 : PySem.W.keepIn K (.ref f17) = true)
    (a18 : PySem.W.nsIn K mainGlobals "_law_low" = some (some (.ref f18))) (l18 : K.lookup f18 = some ⟨oc18, od18, .func (PySem.W.fnOf "_law_low" "_law_low" (defArgs s__law_low) (defBody s__law_low) (defScope s__law_low) .none kV18 dc18 pm18 an18 cd18 ct18), sl18⟩) (c18 : PySem.W.codeIn K cd18 "_law_low" = true) (k18 : PySem.W.keepIn K (.ref f18) = true)
    (a19 : PySem.W.nsIn K mainGlobals "_law_add" = some (some (.ref f19))) (l19 : K.lookup f19 = some ⟨oc19, od19, .func (PySem.W.fnOf "_law_add" "_law_add" (defArgs s__law_add) (defBody s__law_add) (defScope s__law_add) .none kV19 dc19 pm19 an19 cd19 ct19), sl19⟩) (c19 : PySem.W.codeIn K cd19 "_law_add" = true) (k19 : PySem.W.keepIn K (.ref f19) = true)
    (a20 : PySem.W.nsIn K mainGlobals "first_from" = some (some (.ref f20))) (l20 : K.lookup f20 = some ⟨oc20, od20, .func (PySem.W.fnOf "first_from" "first_from" (defArgs s_first_from) (defBody s_first_from) (defScope s_first_from) .none kV20 dc20 pm20 an20 cd20 ct20), sl20⟩) (c20 : PySem.W.codeIn K cd20 "first_from" = true) (k20 : PySem.W.keepIn K (.ref f20) = true)
    (a21 : PySem.W.nsIn K mainGlobals "holds" = some (some (.ref f21))) (l21 : K.lookup f21 = some ⟨oc21, od21, .func (PySem.W.fnOf "holds" "holds" (defArgs s_holds) (defBody s_holds) (defScope s_holds) .none kV21 dc21 pm21 an21 cd21 ct21), sl21⟩) (c21 : PySem.W.codeIn K cd21 "holds" = true) (k21 : PySem.W.keepIn K (.ref f21) = true)
    (a22 : PySem.W.nsIn K mainGlobals "_law_same" = some (some (.ref f22))) (l22 : K.lookup f22 = some ⟨oc22, od22, .func (PySem.W.fnOf "_law_same" "_law_same" (defArgs s__law_same) (defBody s__law_same) (defScope s__law_same) .none kV22 dc22 pm22 an22 cd22 ct22), sl22⟩) (c22 : PySem.W.codeIn K cd22 "_law_same" = true) (k22 : PySem.W.keepIn K (.ref f22) = true)
    (a23 : PySem.W.nsIn K mainGlobals "ratio" = some (some (.ref f23))) (l23 : K.lookup f23 = some ⟨oc23, od23, .func (PySem.W.fnOf "ratio" "ratio" (defArgs s_ratio) (defBody s_ratio) (defScope s_ratio) .none kV23 dc23 pm23 an23 cd23 ct23), sl23⟩) (c23 : PySem.W.codeIn K cd23 "ratio" = true) (k23 : PySem.W.keepIn K (.ref f23) = true)
    (a24 : PySem.W.nsIn K mainGlobals "share_of" = some (some (.ref f24))) (l24 : K.lookup f24 = some ⟨oc24, od24, .func (PySem.W.fnOf "share_of" "share_of" (defArgs s_share_of) (defBody s_share_of) (defScope s_share_of) .none kV24 dc24 pm24 an24 cd24 ct24), sl24⟩) (c24 : PySem.W.codeIn K cd24 "share_of" = true) (k24 : PySem.W.keepIn K (.ref f24) = true)
    (a25 : PySem.W.nsIn K mainGlobals "at_least" = some (some (.ref f25))) (l25 : K.lookup f25 = some ⟨oc25, od25, .func (PySem.W.fnOf "at_least" "at_least" (defArgs s_at_least) (defBody s_at_least) (defScope s_at_least) .none kV25 dc25 pm25 an25 cd25 ct25), sl25⟩) (c25 : PySem.W.codeIn K cd25 "at_least" = true) (k25 : PySem.W.keepIn K (.ref f25) = true)
    (a26 : PySem.W.nsIn K mainGlobals "shifted" = some (some (.ref f26))) (l26 : K.lookup f26 = some ⟨oc26, od26, .func (PySem.W.fnOf "shifted" "shifted" (defArgs s_shifted) (defBody s_shifted) (defScope s_shifted) .none kV26 dc26 pm26 an26 cd26 ct26), sl26⟩) (c26 : PySem.W.codeIn K cd26 "shifted" = true) (k26 : PySem.W.keepIn K (.ref f26) = true)
    (a27 : PySem.W.nsIn K mainGlobals "full_turns" = some (some (.ref f27))) (l27 : K.lookup f27 = some ⟨oc27, od27, .func (PySem.W.fnOf "full_turns" "full_turns" (defArgs s_full_turns) (defBody s_full_turns) (defScope s_full_turns) .none kV27 dc27 pm27 an27 cd27 ct27), sl27⟩) (c27 : PySem.W.codeIn K cd27 "full_turns" = true) (k27 : PySem.W.keepIn K (.ref f27) = true)
    (a28 : PySem.W.nsIn K mainGlobals "nth" = some (some (.ref f28))) (l28 : K.lookup f28 = some ⟨oc28, od28, .func (PySem.W.fnOf "nth" "nth" (defArgs s_nth) (defBody s_nth) (defScope s_nth) .none kV28 dc28 pm28 an28 cd28 ct28), sl28⟩) (c28 : PySem.W.codeIn K cd28 "nth" = true) (k28 : PySem.W.keepIn K (.ref f28) = true)
    (a29 : PySem.W.nsIn K mainGlobals "law" = some (some (.ref f29))) (l29 : K.lookup f29 = some ⟨oc29, od29, .func (PySem.W.fnOf "law" "law" (defArgs s_law) (defBody s_law) (defScope s_law) .none kV29 dc29 pm29 an29 cd29 ct29), sl29⟩) (c29 : PySem.W.codeIn K cd29 "law" = true) (k29 : PySem.W.keepIn K (.ref f29) = true)
    (z_abs : PySem.W.nsIn K mainGlobals "abs" = some none)
    (z_all : PySem.W.nsIn K mainGlobals "all" = some none)
    (z_bool : PySem.W.nsIn K mainGlobals "bool" = some none)
    (z_divmod : PySem.W.nsIn K mainGlobals "divmod" = some none)
    (z_gcd : PySem.W.nsIn K mainGlobals "gcd" = some (some (.builtin "math.gcd")))
    (z_int : PySem.W.nsIn K mainGlobals "int" = some none)
    (z_isinstance : PySem.W.nsIn K mainGlobals "isinstance" = some none)
    (z_lcm : PySem.W.nsIn K mainGlobals "lcm" = some (some (.builtin "math.lcm")))
    (z_len : PySem.W.nsIn K mainGlobals "len" = some none)
    (z_list : PySem.W.nsIn K mainGlobals "list" = some none)
    (z_max : PySem.W.nsIn K mainGlobals "max" = some none)
    (z_range : PySem.W.nsIn K mainGlobals "range" = some none)
    (z_str : PySem.W.nsIn K mainGlobals "str" = some none)
    (z_sum : PySem.W.nsIn K mainGlobals "sum" = some none)
    (z_tuple : PySem.W.nsIn K mainGlobals "tuple" = some none)
    (hF : ∀ ns : List Int, ns.length ≤ 63 → ∃ δ' w', F_law (none :: some .drw :: List.replicate 19 none) ⟨ns, 0, 0, 17⟩ = some ((.rt (.bl true), δ'), w')) :
    ∃ fd : FuncData, (∀ (s : Shared) (v : Value), BindsTo s fd ⟨[v], []⟩ [("script", v)]) ∧ ∀ base : Heap, K.In base → base.Ns mainGlobals mg → FnOk l.prog w K mg base CX0 31 fa fd ["script"] (spLaw K) := by
  have e := hfa.symm.trans (PySem.W.mg_of X G a29)
  cases e
  have T : Tx K mg := ⟨PySem.W.mg_none_of X G z_abs, PySem.W.mg_none_of X G z_all, PySem.W.mg_none_of X G z_bool, PySem.W.mg_none_of X G z_divmod, PySem.W.mg_of X G z_gcd, PySem.W.mg_none_of X G z_int, PySem.W.mg_none_of X G z_isinstance, PySem.W.mg_of X G z_lcm, PySem.W.mg_none_of X G z_len, PySem.W.mg_none_of X G z_list, PySem.W.mg_none_of X G z_max, PySem.W.mg_none_of X G z_range, PySem.W.mg_none_of X G z_str, PySem.W.mg_none_of X G z_sum, PySem.W.mg_none_of X G z_tuple⟩
  have F0 := fun_mk (st := s__law_draw) l0 c0 k0
  have F1 := fun_mk (st := s__law_next) l1 c1 k1
  have F2 := fun_mk (st := s_flag_at) l2 c2 k2
  have F3 := fun_mk (st := s_wait_of) l3 c3 k3
  have F4 := fun_mk (st := s_spans) l4 c4 k4
  have F5 := fun_mk (st := s_least_turn) l5 c5 k5
  have F6 := fun_mk (st := s_calendar_of) l6 c6 k6
  have F7 := fun_mk (st := s__law_calendar) l7 c7 k7
  have F8 := fun_mk (st := s_common_turn) l8 c8 k8
  have F9 := fun_mk (st := s_some_flag) l9 c9 k9
  have F10 := fun_mk (st := s_all_flags) l10 c10 k10
  have F11 := fun_mk (st := s_only_first) l11 c11 k11
  have F12 := fun_mk (st := s_told_by) l12 c12 k12
  have F13 := fun_mk (st := s_meet) l13 c13 k13
  have F14 := fun_mk (st := s_join) l14 c14 k14
  have F15 := fun_mk (st := s_without) l15 c15 k15
  have F16 := fun_mk (st := s_ones_before) l16 c16 k16
  have F17 := fun_mk (st := s_count_between) l17 c17 k17
  have F18 := fun_mk (st := s__law_low) l18 c18 k18
  have F19 := fun_mk (st := s__law_add) l19 c19 k19
  have F20 := fun_mk (st := s_first_from) l20 c20 k20
  have F21 := fun_mk (st := s_holds) l21 c21 k21
  have F22 := fun_mk (st := s__law_same) l22 c22 k22
  have F23 := fun_mk (st := s_ratio) l23 c23 k23
  have F24 := fun_mk (st := s_share_of) l24 c24 k24
  have F25 := fun_mk (st := s_at_least) l25 c25 k25
  have F26 := fun_mk (st := s_shifted) l26 c26 k26
  have F27 := fun_mk (st := s_full_turns) l27 c27 k27
  have F28 := fun_mk (st := s_nth) l28 c28 k28
  have F29 := fun_mk (st := s_law) l29 c29 k29
  refine ⟨PySem.W.fnOf "law" "law" (defArgs s_law) (defBody s_law) (defScope s_law) .none kV29 dc29 pm29 an29 cd29 ct29, fun s v => .of_eq rfl, fun base _ _ => ?_⟩
  have FD := ok__law_draw (P := l.prog) (w := w) (base := base) T F0
  have h__law_next := ok__law_next (P := l.prog) (w := w) (base := base) T F1 (PySem.W.mg_of X G a1)
  have h_flag_at := ok_flag_at (P := l.prog) (w := w) (base := base) T  F2 (PySem.W.mg_of X G a2)
  have h_wait_of := ok_wait_of (P := l.prog) (w := w) (base := base) T h_flag_at F3 (PySem.W.mg_of X G a3)
  have h_spans := ok_spans (P := l.prog) (w := w) (base := base) T h_flag_at F4 (PySem.W.mg_of X G a4)
  have h_least_turn := ok_least_turn (P := l.prog) (w := w) (base := base) T  F5 (PySem.W.mg_of X G a5)
  have h_calendar_of := ok_calendar_of (P := l.prog) (w := w) (base := base) T h_least_turn F6 (PySem.W.mg_of X G a6)
  have h__law_calendar := ok__law_calendar (P := l.prog) (w := w) (base := base) T h_calendar_of h__law_next F7 (PySem.W.mg_of X G a7)
  have h_common_turn := ok_common_turn (P := l.prog) (w := w) (base := base) T  F8 (PySem.W.mg_of X G a8)
  have h_some_flag := ok_some_flag (P := l.prog) (w := w) (base := base) T  F9 (PySem.W.mg_of X G a9)
  have h_all_flags := ok_all_flags (P := l.prog) (w := w) (base := base) T  F10 (PySem.W.mg_of X G a10)
  have h_only_first := ok_only_first (P := l.prog) (w := w) (base := base) T  F11 (PySem.W.mg_of X G a11)
  have h_told_by := ok_told_by (P := l.prog) (w := w) (base := base) T h_common_turn h_calendar_of h_flag_at h_some_flag h_all_flags h_only_first F12 (PySem.W.mg_of X G a12)
  have h_meet := ok_meet (P := l.prog) (w := w) (base := base) T h_told_by h_all_flags F13 (PySem.W.mg_of X G a13)
  have h_join := ok_join (P := l.prog) (w := w) (base := base) T h_told_by h_some_flag F14 (PySem.W.mg_of X G a14)
  have h_without := ok_without (P := l.prog) (w := w) (base := base) T h_told_by h_only_first F15 (PySem.W.mg_of X G a15)
  have h_ones_before := ok_ones_before (P := l.prog) (w := w) (base := base) T  F16 (PySem.W.mg_of X G a16)
  have h_count_between := ok_count_between (P := l.prog) (w := w) (base := base) T h_ones_before F17 (PySem.W.mg_of X G a17)
  have h__law_low := ok__law_low (P := l.prog) (w := w) (base := base) T  F18 (PySem.W.mg_of X G a18)
  have h__law_add := ok__law_add (P := l.prog) (w := w) (base := base) T h__law_low F19 (PySem.W.mg_of X G a19)
  have h_first_from := ok_first_from (P := l.prog) (w := w) (base := base) T h_flag_at F20 (PySem.W.mg_of X G a20)
  have h_holds := ok_holds (P := l.prog) (w := w) (base := base) T h_flag_at F21 (PySem.W.mg_of X G a21)
  have h__law_same := ok__law_same (P := l.prog) (w := w) (base := base) T  F22 (PySem.W.mg_of X G a22) 30
  have h_ratio := ok_ratio (P := l.prog) (w := w) (base := base) T  F23 (PySem.W.mg_of X G a23)
  have h_share_of := ok_share_of (P := l.prog) (w := w) (base := base) T h_ratio F24 (PySem.W.mg_of X G a24)
  have h_at_least := ok_at_least (P := l.prog) (w := w) (base := base) T h_common_turn h_calendar_of h_flag_at F25 (PySem.W.mg_of X G a25)
  have h_shifted := ok_shifted (P := l.prog) (w := w) (base := base) T h_calendar_of F26 (PySem.W.mg_of X G a26)
  have h_full_turns := ok_full_turns (P := l.prog) (w := w) (base := base) T  F27 (PySem.W.mg_of X G a27)
  have h_nth := ok_nth (P := l.prog) (w := w) (base := base) T h_first_from h_ones_before h_full_turns F28 (PySem.W.mg_of X G a28)
  exact ok_law T FD (PySem.W.mg_of X G a0) F0.kp (F0.binds fun _ _ _ _ _ _ us hl => match us, hl with | [_], _ => rfl) h__law_next h_wait_of h_spans h__law_calendar h_meet h_join h_without h_count_between h__law_add h_first_from h_holds h__law_same h_share_of h_at_least h_shifted h_nth hF F29
end K80

open PySem PySem.W PyProof.Rows
set_option maxRecDepth 100000 in
set_option maxHeartbeats 0 in
theorem PySem.Challenge.cw_farcall_k80_sets_of_times_add_up_holds : PySem.Challenge.rw_farcall_k80_sets_of_times_add_up.Holds := by
  w_on; o_law; k_head; (case hw => w_witness2)
  k_fill
  refine L2.walk_of (l := PySem.Challenge.rw_farcall_k80_sets_of_times_add_up) (n := 63) (k := 31) (x := "script") (CX := fun _ => L2.CX0) (sp := fun w => Fc.spLaw _) rfl (by decide) rfl ⟨rfl, by decide, by decide⟩ (fun w h Y => PySem.W.kIn_of Y) ?F (fun _ _ a ns hl _ hS => ⟨a, ns, rfl, hS, hl, fun _ => rfl⟩) (fun _ _ _ _ _ h => h)
  case F =>
    intro w mg fa h KX G hmg
    refine' K80.all_mk KX G hmg ?a0 ?l0 ?c0 ?k0 ?a1 ?l1 ?c1 ?k1 ?a2 ?l2 ?c2 ?k2 ?a3 ?l3 ?c3 ?k3 ?a4 ?l4 ?c4 ?k4 ?a5 ?l5 ?c5 ?k5 ?a6 ?l6 ?c6 ?k6 ?a7 ?l7 ?c7 ?k7 ?a8 ?l8 ?c8 ?k8 ?a9 ?l9 ?c9 ?k9 ?a10 ?l10 ?c10 ?k10 ?a11 ?l11 ?c11 ?k11 ?a12 ?l12 ?c12 ?k12 ?a13 ?l13 ?c13 ?k13 ?a14 ?l14 ?c14 ?k14 ?a15 ?l15 ?c15 ?k15 ?a16 ?l16 ?c16 ?k16 ?a17 ?l17 ?c17 ?k17 ?a18 ?l18 ?c18 ?k18 ?a19 ?l19 ?c19 ?k19 ?a20 ?l20 ?c20 ?k20 ?a21 ?l21 ?c21 ?k21 ?a22 ?l22 ?c22 ?k22 ?a23 ?l23 ?c23 ?k23 ?a24 ?l24 ?c24 ?k24 ?a25 ?l25 ?c25 ?k25 ?a26 ?l26 ?c26 ?k26 ?a27 ?l27 ?c27 ?k27 ?a28 ?l28 ?c28 ?k28 ?a29 ?l29 ?c29 ?k29 ?z_abs ?z_all ?z_bool ?z_divmod ?z_gcd ?z_int ?z_isinstance ?z_lcm ?z_len ?z_list ?z_max ?z_range ?z_str ?z_sum ?z_tuple K80.law_true
    (case a0 => k_is)
    (case l0 => k_is)
    (case c0 => k_is)
    (case k0 => k_is)
    (case a1 => k_is)
    (case l1 => k_is)
    (case c1 => k_is)
    (case k1 => k_is)
    (case a2 => k_is)
    (case l2 => k_is)
    (case c2 => k_is)
    (case k2 => k_is)
    (case a3 => k_is)
    (case l3 => k_is)
    (case c3 => k_is)
    (case k3 => k_is)
    (case a4 => k_is)
    (case l4 => k_is)
    (case c4 => k_is)
    (case k4 => k_is)
    (case a5 => k_is)
    (case l5 => k_is)
    (case c5 => k_is)
    (case k5 => k_is)
    (case a6 => k_is)
    (case l6 => k_is)
    (case c6 => k_is)
    (case k6 => k_is)
    (case a7 => k_is)
    (case l7 => k_is)
    (case c7 => k_is)
    (case k7 => k_is)
    (case a8 => k_is)
    (case l8 => k_is)
    (case c8 => k_is)
    (case k8 => k_is)
    (case a9 => k_is)
    (case l9 => k_is)
    (case c9 => k_is)
    (case k9 => k_is)
    (case a10 => k_is)
    (case l10 => k_is)
    (case c10 => k_is)
    (case k10 => k_is)
    (case a11 => k_is)
    (case l11 => k_is)
    (case c11 => k_is)
    (case k11 => k_is)
    (case a12 => k_is)
    (case l12 => k_is)
    (case c12 => k_is)
    (case k12 => k_is)
    (case a13 => k_is)
    (case l13 => k_is)
    (case c13 => k_is)
    (case k13 => k_is)
    (case a14 => k_is)
    (case l14 => k_is)
    (case c14 => k_is)
    (case k14 => k_is)
    (case a15 => k_is)
    (case l15 => k_is)
    (case c15 => k_is)
    (case k15 => k_is)
    (case a16 => k_is)
    (case l16 => k_is)
    (case c16 => k_is)
    (case k16 => k_is)
    (case a17 => k_is)
    (case l17 => k_is)
    (case c17 => k_is)
    (case k17 => k_is)
    (case a18 => k_is)
    (case l18 => k_is)
    (case c18 => k_is)
    (case k18 => k_is)
    (case a19 => k_is)
    (case l19 => k_is)
    (case c19 => k_is)
    (case k19 => k_is)
    (case a20 => k_is)
    (case l20 => k_is)
    (case c20 => k_is)
    (case k20 => k_is)
    (case a21 => k_is)
    (case l21 => k_is)
    (case c21 => k_is)
    (case k21 => k_is)
    (case a22 => k_is)
    (case l22 => k_is)
    (case c22 => k_is)
    (case k22 => k_is)
    (case a23 => k_is)
    (case l23 => k_is)
    (case c23 => k_is)
    (case k23 => k_is)
    (case a24 => k_is)
    (case l24 => k_is)
    (case c24 => k_is)
    (case k24 => k_is)
    (case a25 => k_is)
    (case l25 => k_is)
    (case c25 => k_is)
    (case k25 => k_is)
    (case a26 => k_is)
    (case l26 => k_is)
    (case c26 => k_is)
    (case k26 => k_is)
    (case a27 => k_is)
    (case l27 => k_is)
    (case c27 => k_is)
    (case k27 => k_is)
    (case a28 => k_is)
    (case l28 => k_is)
    (case c28 => k_is)
    (case k28 => k_is)
    (case a29 => k_is)
    (case l29 => k_is)
    (case c29 => k_is)
    (case k29 => k_is)
    (case z_abs => k_is)
    (case z_all => k_is)
    (case z_bool => k_is)
    (case z_divmod => k_is)
    (case z_gcd => k_is)
    (case z_int => k_is)
    (case z_isinstance => k_is)
    (case z_lcm => k_is)
    (case z_len => k_is)
    (case z_list => k_is)
    (case z_max => k_is)
    (case z_range => k_is)
    (case z_str => k_is)
    (case z_sum => k_is)
    (case z_tuple => k_is)
