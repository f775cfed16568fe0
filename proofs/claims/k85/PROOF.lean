import PyProof.Rows.All
import Wide.All
import OpenK.AllK
import Wide.FinOn
import HandS.ForMost
import HandS.Walk
import HandS.TupAny
import HandS.TupMul
import HandS.IsInst
import HandS.Gcd
import HandS.Flow
import HandS.TupLe
import HandS.Conv
import HandS.Rev
import HandS.Zip
import HandS.Deep
import KE.LtData
import HandS.SetFor
import HandS.IterVal
import HandS.SortInts
import KE.KTupSum
import KE.KMathGC
import HandS.Style
import HandS.Iter
import KE.GoesEnum
import KE.KRevSl
import PySem.Challenge.RW_farcall_k85_memories_count_up
set_option Elab.async false
set_option linter.all false
set_option maxRecDepth 100000
set_option maxHeartbeats 4000000
/-! Fc, part A: data, their standing in the heap, the state a body has, readings of functions on data. -/
namespace Fc
open PySem PySem.Spec PyProof.Rows L2

/-! ### data -/
inductive D where
  | non | bl (b : Bool) | int (i : Int) | str (s : Str) | tup (l : List D) | lst (l : List D) | fn (x : Str) | drw
  -- dicts whose values stand still: keys ints and texts; tuples of them
  | dK (ks : List Key) (l : List D) | dT (ks : List (List Key)) (l : List D)
  -- own lists and dicts that may hold own things, too; an instance of the class c
  | olst (l : List D) | odK (ks : List Key) (l : List D) | odT (ks : List (List Key)) (l : List D) | ins (c : Str) (fs : List Str) (l : List D)
  -- in those: this one is an own thing
  | own (d : D)

/-- may be changed -/
def D.isL : D → Bool
  | .lst _ => true
  | .dK _ _ => true
  | .dT _ _ => true
  | .olst _ => true
  | .odK _ _ => true
  | .odT _ _ => true
  | .ins _ _ _ => true
  | _ => false
/-- what the drawing list holds -/
structure Dw where
  sc : List Int
  ix : Int
  big : Int
  seed : Int
structure Dw.Ok (w : Dw) : Prop where
  len : w.sc.length ≤ 63
  ix0 : 0 ≤ w.ix
  big : 0 ≤ w.big
  s0 : 0 ≤ w.seed
  s1 : w.seed < 2147483647

abbrev M := StateT Dw Option
abbrev Env := List (Option D)
/-- no value -/
def fail {α : Type} : M α := fun _ => none
def liftO {α : Type} (o : Option α) : M α := fun w => o.map fun a => (a, w)

section
variable {α β : Type}
theorem bind_some {m : M α} {k : α → M β} {w w' : Dw} {b : β} (h : (m >>= k) w = some (b, w')) : ∃ a w1, m w = some (a, w1) ∧ k a w1 = some (b, w') := by
  have h' : (m w).bind (fun p => k p.1 p.2) = some (b, w') := h
  cases hm : m w with
  | none => rw [hm] at h'; cases h'
  | some p =>
    rw [hm] at h'
    exact ⟨p.1, p.2, rfl, h'⟩
theorem pure_some {a b : α} {w w' : Dw} (h : (pure a : M α) w = some (b, w')) : a = b ∧ w = w' := by
  have h' : some (a, w) = some (b, w') := h
  cases h'
  exact ⟨rfl, rfl⟩
theorem liftO_some {o : Option α} {b : α} {w w' : Dw} (h : liftO o w = some (b, w')) : o = some b ∧ w = w' := by
  cases o with
  | none => cases h
  | some a =>
    have h' : some (a, w) = some (b, w') := h
    cases h'
    exact ⟨rfl, rfl⟩
end

/-! ### how data stand in a heap -/
structure Par where
  K : PySem.W.Frag
  mg : Str → Option Value
  dr : Addr
  O : List Nat
  B : Hp
  G0 : Hp
  ad : Nat → Addr

mutual
inductive Rep (p : Par) (G : Hp) : V → D → Prop
  | non : Rep p G .non .non
  | bl (b : Bool) : Rep p G (.bl b) (.bl b)
  | int (i : Int) : Rep p G (.int i) (.int i)
  | str (x : Str) : Rep p G (.str x) (.str x)
  | tup {a : Addr} {vs : List V} {ds : List D} : SqT p.K G a vs → RepAll p G vs ds → Rep p G (.ref a) (.tup ds)
  | lst {a : Addr} {vs : List V} {ds : List D} : G a = some (.lst vs) → RepAll p G vs ds → Rep p G (.ref a) (.lst ds)
  | dK {a : Addr} {ks : List Key} {vs : List V} {ds : List D} : G a = some (.dK (ks.zip vs)) → vs.length = ks.length → RepAll p G vs ds → Rep p G (.ref a) (.dK ks ds)
  | dT {a : Addr} {ks : List (List Key)} {vs : List V} {ds : List D} : G a = some (.dT (ks.zip vs)) → vs.length = ks.length → RepAll p G vs ds → Rep p G (.ref a) (.dT ks ds)
  | ins {a C dx : Addr} {c : Str} {fs : List Str} {vs : List V} {ds : List D} : G a = some (.ins C dx (fs.zip vs)) → vs.length = fs.length → p.mg c = some (.ref C) → RepAll p G vs ds → Rep p G (.ref a) (.ins c fs ds)
  | fn {x : Str} {f : Addr} : p.mg x = some (.ref f) → Rep p G (.ref f) (.fn x)
  | drw : Rep p G (.ref p.dr) .drw
inductive RepAll (p : Par) (G : Hp) : List V → List D → Prop
  | nil : RepAll p G [] []
  | cons {v : V} {vs : List V} {d : D} {ds : List D} : Rep p G v d → RepAll p G vs ds → RepAll p G (v :: vs) (d :: ds)
end

def Sub (G H : Hp) : Prop := ∀ a o, G a = some o → H a = some o
theorem Sub.refl (G : Hp) : Sub G G := fun _ _ h => h
theorem Sub.trans {G H J : Hp} (a : Sub G H) (b : Sub H J) : Sub G J := fun x o h => b x o (a x o h)
theorem sub_t {K : PySem.W.Frag} {H H' : Hp} {a : Addr} {xs : List V} (e : Sub H H') (h : SqT K H a xs) : SqT K H' a xs := by
  rcases h with (h | ⟨o, h⟩) | h
  · exact .inl (.inl (e _ _ h))
  · exact .inl (.inr ⟨o, e _ _ h⟩)
  · exact .inr h
theorem sub_l {K : PySem.W.Frag} {H H' : Hp} {a : Addr} {xs : List V} (e : Sub H H') (h : SqL K H a xs) : SqL K H' a xs := by
  rcases h with (h | ⟨o, h⟩) | h
  · exact .inl (.inl (e _ _ h))
  · exact .inl (.inr ⟨o, e _ _ h⟩)
  · exact .inr h

mutual
theorem Rep.mono {p : Par} {G G' : Hp} (e : Sub G G') : ∀ {v : V} {d : D}, Rep p G v d → Rep p G' v d
  | _, _, .non => .non
  | _, _, .bl b => .bl b
  | _, _, .int i => .int i
  | _, _, .str x => .str x
  | _, _, .tup h r => .tup (sub_t e h) (RepAll.mono e r)
  | _, _, .lst h r => .lst (e _ _ h) (RepAll.mono e r)
  | _, _, .dK h l r => .dK (e _ _ h) l (RepAll.mono e r)
  | _, _, .dT h l r => .dT (e _ _ h) l (RepAll.mono e r)
  | _, _, .ins h l m r => .ins (e _ _ h) l m (RepAll.mono e r)
  | _, _, .fn h => .fn h
  | _, _, .drw => .drw
theorem RepAll.mono {p : Par} {G G' : Hp} (e : Sub G G') : ∀ {vs : List V} {ds : List D}, RepAll p G vs ds → RepAll p G' vs ds
  | _, _, .nil => .nil
  | _, _, .cons h r => .cons (Rep.mono e h) (RepAll.mono e r)
end
theorem RepAll.length {p : Par} {G : Hp} : ∀ {vs : List V} {ds : List D}, RepAll p G vs ds → vs.length = ds.length
  | _, _, .nil => rfl
  | _, _, .cons _ r => congrArg (· + 1) (RepAll.length r)
theorem RepAll.get {p : Par} {G : Hp} : ∀ {vs : List V} {ds : List D} {i : Nat} {d : D}, RepAll p G vs ds → ds[i]? = some d → ∃ v, vs[i]? = some v ∧ Rep p G v d
  | _, _, _, _, .nil, h => by simp at h
  | _, _, 0, _, .cons r _, h => by simp at h; subst h; exact ⟨_, rfl, r⟩
  | _, _, i + 1, _, .cons _ t, h => by
    obtain ⟨v, h1, h2⟩ := RepAll.get (i := i) t (by simpa using h)
    exact ⟨v, by simpa using h1, h2⟩
theorem RepAll.getV {p : Par} {G : Hp} : ∀ {vs : List V} {ds : List D} {i : Nat} {v : V}, RepAll p G vs ds → vs[i]? = some v → ∃ d, ds[i]? = some d ∧ Rep p G v d
  | _, _, _, _, .nil, h => by simp at h
  | _, _, 0, _, .cons r _, h => by simp at h; subst h; exact ⟨_, rfl, r⟩
  | _, _, i + 1, _, .cons _ t, h => by
    obtain ⟨v, h1, h2⟩ := RepAll.getV (i := i) t (by simpa using h)
    exact ⟨v, by simpa using h1, h2⟩
theorem RepAll.append {p : Par} {G : Hp} : ∀ {vs us : List V} {ds es : List D}, RepAll p G vs ds → RepAll p G us es → RepAll p G (vs ++ us) (ds ++ es)
  | _, _, _, _, .nil, s => s
  | _, _, _, _, .cons r t, s => .cons r (RepAll.append t s)
theorem RepAll.take {p : Par} {G : Hp} : ∀ {vs : List V} {ds : List D} (n : Nat), RepAll p G vs ds → RepAll p G (vs.take n) (ds.take n)
  | _, _, 0, _ => .nil
  | _, _, _ + 1, .nil => .nil
  | _, _, n + 1, .cons r t => .cons r (RepAll.take n t)
theorem RepAll.drop {p : Par} {G : Hp} : ∀ {vs : List V} {ds : List D} (n : Nat), RepAll p G vs ds → RepAll p G (vs.drop n) (ds.drop n)
  | _, _, 0, r => r
  | _, _, _ + 1, .nil => .nil
  | _, _, n + 1, .cons _ t => RepAll.drop n t
theorem RepAll.set {p : Par} {G : Hp} {v : V} {d : D} (r : Rep p G v d) : ∀ {vs : List V} {ds : List D} (i : Nat), RepAll p G vs ds → RepAll p G (vs.set i v) (ds.set i d)
  | _, _, _, .nil => .nil
  | _, _, 0, .cons _ t => .cons r t
  | _, _, i + 1, .cons q t => .cons q (RepAll.set r i t)
theorem RepAll.rep {p : Par} {G : Hp} {vs : List V} {ds : List D} (h : RepAll p G vs ds) : ∀ k : Nat, RepAll p G (List.replicate k vs).flatten (List.replicate k ds).flatten
  | 0 => .nil
  | k + 1 => by
    rw [List.replicate_succ, List.flatten_cons, List.replicate_succ, List.flatten_cons]
    exact h.append (RepAll.rep h k)

/-! may be read now: data that stands still, or a thing that is still changed -/
mutual
inductive RepX (p : Par) (G H : Hp) : V → D → Prop
  | rep {v : V} {d : D} : Rep p G v d → RepX p G H v d
  | own {a : Addr} {vs : List V} {ds : List D} : a ≠ p.dr → H a = some (.lst vs) → RepAll p G vs ds → RepX p G H (.ref a) (.lst ds)
  | dK {a : Addr} {ks : List Key} {vs : List V} {ds : List D} : a ≠ p.dr → H a = some (.dK (ks.zip vs)) → vs.length = ks.length → RepAll p G vs ds → RepX p G H (.ref a) (.dK ks ds)
  | dT {a : Addr} {ks : List (List Key)} {vs : List V} {ds : List D} : a ≠ p.dr → H a = some (.dT (ks.zip vs)) → vs.length = ks.length → RepAll p G vs ds → RepX p G H (.ref a) (.dT ks ds)
  | olst {a : Addr} {vs : List V} {ds : List D} : a ≠ p.dr → H a = some (.lst vs) → RepXs p G H vs ds → RepX p G H (.ref a) (.olst ds)
  | odK {a : Addr} {ks : List Key} {vs : List V} {ds : List D} : a ≠ p.dr → H a = some (.dK (ks.zip vs)) → vs.length = ks.length → RepXs p G H vs ds → RepX p G H (.ref a) (.odK ks ds)
  | odT {a : Addr} {ks : List (List Key)} {vs : List V} {ds : List D} : a ≠ p.dr → H a = some (.dT (ks.zip vs)) → vs.length = ks.length → RepXs p G H vs ds → RepX p G H (.ref a) (.odT ks ds)
  | ins {a C dx : Addr} {c : Str} {fs : List Str} {vs : List V} {ds : List D} : a ≠ p.dr → H a = some (.ins C dx (fs.zip vs)) → vs.length = fs.length → p.mg c = some (.ref C) → RepXs p G H vs ds → RepX p G H (.ref a) (.ins c fs ds)
  | ow {a : Addr} {d : D} : RepX p G H (.ref a) d → RepX p G H (.ref a) (.own d)
inductive RepXs (p : Par) (G H : Hp) : List V → List D → Prop
  | nil : RepXs p G H [] []
  | cons {v : V} {vs : List V} {d : D} {ds : List D} : RepX p G H v d → RepXs p G H vs ds → RepXs p G H (v :: vs) (d :: ds)
end
mutual
theorem RepX.move {p : Par} {G H G' H' : Hp} (g : Sub G G') (h : ∀ a o, a ≠ p.dr → H a = some o → H' a = some o) : ∀ {v : V} {d : D}, RepX p G H v d → RepX p G' H' v d
  | _, _, .rep r => .rep (r.mono g)
  | _, _, .own n e r => .own n (h _ _ n e) (r.mono g)
  | _, _, .dK n e l r => .dK n (h _ _ n e) l (r.mono g)
  | _, _, .dT n e l r => .dT n (h _ _ n e) l (r.mono g)
  | _, _, .olst n e r => .olst n (h _ _ n e) (RepXs.move g h r)
  | _, _, .odK n e l r => .odK n (h _ _ n e) l (RepXs.move g h r)
  | _, _, .odT n e l r => .odT n (h _ _ n e) l (RepXs.move g h r)
  | _, _, .ins n e l m r => .ins n (h _ _ n e) l m (RepXs.move g h r)
  | _, _, .ow r => .ow (RepX.move g h r)
theorem RepXs.move {p : Par} {G H G' H' : Hp} (g : Sub G G') (h : ∀ a o, a ≠ p.dr → H a = some o → H' a = some o) : ∀ {vs : List V} {ds : List D}, RepXs p G H vs ds → RepXs p G' H' vs ds
  | _, _, .nil => .nil
  | _, _, .cons r t => .cons (RepX.move g h r) (RepXs.move g h t)
end
mutual
theorem RepX.to {p q : Par} (hK : p.K = q.K) (hm : p.mg = q.mg) (hd : p.dr = q.dr) (rto : ∀ {v : V} {d : D} {G : Hp}, Rep p G v d → Rep q G v d) (rta : ∀ {v : List V} {d : List D} {G : Hp}, RepAll p G v d → RepAll q G v d) {G H : Hp} : ∀ {v : V} {d : D}, RepX p G H v d → RepX q G H v d
  | _, _, .rep r => .rep (rto r)
  | _, _, .own n e r => .own (hd ▸ n) e (rta r)
  | _, _, .dK n e l r => .dK (hd ▸ n) e l (rta r)
  | _, _, .dT n e l r => .dT (hd ▸ n) e l (rta r)
  | _, _, .olst n e r => .olst (hd ▸ n) e (RepXs.to hK hm hd rto rta r)
  | _, _, .odK n e l r => .odK (hd ▸ n) e l (RepXs.to hK hm hd rto rta r)
  | _, _, .odT n e l r => .odT (hd ▸ n) e l (RepXs.to hK hm hd rto rta r)
  | _, _, .ins n e l m r => .ins (hd ▸ n) e l (hm ▸ m) (RepXs.to hK hm hd rto rta r)
  | _, _, .ow r => .ow (RepX.to hK hm hd rto rta r)
theorem RepXs.to {p q : Par} (hK : p.K = q.K) (hm : p.mg = q.mg) (hd : p.dr = q.dr) (rto : ∀ {v : V} {d : D} {G : Hp}, Rep p G v d → Rep q G v d) (rta : ∀ {v : List V} {d : List D} {G : Hp}, RepAll p G v d → RepAll q G v d) {G H : Hp} : ∀ {vs : List V} {ds : List D}, RepXs p G H vs ds → RepXs q G H vs ds
  | _, _, .nil => .nil
  | _, _, .cons r t => .cons (RepX.to hK hm hd rto rta r) (RepXs.to hK hm hd rto rta t)
end
def RepA (p : Par) (al : Bool) (G H : Hp) (v : V) (d : D) : Prop := if al = true then RepX p G H v d else Rep p G v d
theorem RepA.x {p : Par} {al : Bool} {G H : Hp} {v : V} {d : D} (h : RepA p al G H v d) : RepX p G H v d := by
  cases al with
  | true => exact h
  | false => exact .rep h

/-- the heap behind an expression: nothing lost but the drawing list's state -/
structure Grow (p : Par) (G H G' H' : Hp) : Prop where
  g : Sub G G'
  h : ∀ a o, a ≠ p.dr → H a = some o → H' a = some o
  hd : ∀ o, H p.dr = some o → ∃ o', H' p.dr = some o'
  k : ∀ a o, H a = some o → G a = none → G' a = none
theorem Grow.refl (p : Par) (G H : Hp) : Grow p G H G H := ⟨Sub.refl G, fun _ _ _ h => h, fun o h => ⟨o, h⟩, fun _ _ _ h => h⟩
theorem Grow.trans {p : Par} {G H G1 H1 G2 H2 : Hp} (a : Grow p G H G1 H1) (b : Grow p G1 H1 G2 H2) : Grow p G H G2 H2 :=
  ⟨a.g.trans b.g, fun x o n h => b.h x o n (a.h x o n h), fun o h => let ⟨o1, h1⟩ := a.hd o h; b.hd o1 h1, fun x o h n => by
    by_cases q : x = p.dr
    · rw [q] at h n ⊢
      obtain ⟨o1, h1⟩ := a.hd o h
      exact b.k _ o1 h1 (a.k _ o h n)
    · exact b.k x o (a.h x o q h) (a.k x o h n)⟩
theorem RepX.grow {p : Par} {G H G' H' : Hp} {v : V} {d : D} (r : RepX p G H v d) (g : Grow p G H G' H') : RepX p G' H' v d := r.move g.g g.h
theorem RepA.grow {p : Par} {al : Bool} {G H G' H' : Hp} {v : V} {d : D} (r : RepA p al G H v d) (g : Grow p G H G' H') : RepA p al G' H' v d := by
  cases al with
  | true => exact RepX.grow r g
  | false => exact Rep.mono g.g r
/-- the heap behind an operation: only new objects -/
structure Gr (G H G' H' : Hp) : Prop where
  g : Sub G G'
  h : Sub H H'
  s : Sub G' H'
  k : ∀ a o, H a = some o → G a = none → G' a = none
theorem Gr.refl {G H : Hp} (s : Sub G H) : Gr G H G H := ⟨Sub.refl G, Sub.refl H, s, fun _ _ _ h => h⟩
theorem Gr.trans {G H G1 H1 G2 H2 : Hp} (a : Gr G H G1 H1) (b : Gr G1 H1 G2 H2) : Gr G H G2 H2 :=
  ⟨a.g.trans b.g, a.h.trans b.h, b.s, fun x o h n => b.k x o (a.h x o h) (a.k x o h n)⟩
theorem sub_none {G H : Hp} (s : Sub G H) {a : Addr} (h : H a = none) : G a = none := by
  cases q : G a with
  | none => rfl
  | some o => rw [s a o q] at h; cases h
theorem Gr.new {G H : Hp} (s : Sub G H) {a : Addr} {o : HO} (h : H a = none) : Gr G H (upd G a o) (upd H a o) where
  g := fun b u e => by rw [upd_ne (ne_of_none e (sub_none s h))]; exact e
  h := fun b u e => by rw [upd_ne (ne_of_none e h)]; exact e
  s := fun b u e => by
    by_cases hb : b = a
    · subst hb; rw [upd_same] at e ⊢; exact e
    · rw [upd_ne hb] at e ⊢; exact s b u e
  k := fun b u e n => by rw [upd_ne (ne_of_none e h)]; exact n
/-- new, and not told to stand still -/
theorem Gr.laid {G H : Hp} (s : Sub G H) {a : Addr} {o : HO} (h : H a = none) : Gr G H G (upd H a o) where
  g := Sub.refl G
  h := fun b u e => by rw [upd_ne (ne_of_none e h)]; exact e
  s := fun b u e => by rw [upd_ne (ne_of_none (s b u e) h)]; exact s b u e
  k := fun b u e n => n
theorem Gr.grow {p : Par} {G H G' H' : Hp} (g : Gr G H G' H') : Grow p G H G' H' := ⟨g.g, fun a o _ h => g.h a o h, fun o h => ⟨o, g.h _ o h⟩, g.k⟩

mutual
theorem Rep.to {p q : Par} (hK : p.K = q.K) (hm : p.mg = q.mg) (hd : p.dr = q.dr) {G : Hp} : ∀ {v : V} {d : D}, Rep p G v d → Rep q G v d
  | _, _, .non => .non
  | _, _, .bl b => .bl b
  | _, _, .int i => .int i
  | _, _, .str x => .str x
  | _, _, .tup h r => .tup (hK ▸ h) (RepAll.to hK hm hd r)
  | _, _, .lst h r => .lst h (RepAll.to hK hm hd r)
  | _, _, .dK h l r => .dK h l (RepAll.to hK hm hd r)
  | _, _, .dT h l r => .dT h l (RepAll.to hK hm hd r)
  | _, _, .ins h l m r => .ins h l (hm ▸ m) (RepAll.to hK hm hd r)
  | _, _, .fn h => .fn (hm ▸ h)
  | _, _, .drw => by
    rw [hd]
    exact .drw
theorem RepAll.to {p q : Par} (hK : p.K = q.K) (hm : p.mg = q.mg) (hd : p.dr = q.dr) {G : Hp} : ∀ {vs : List V} {ds : List D}, RepAll p G vs ds → RepAll q G vs ds
  | _, _, .nil => .nil
  | _, _, .cons h r => .cons (Rep.to hK hm hd h) (RepAll.to hK hm hd r)
end

/-! ### the state of a body -/
structure DrawAt (p : Par) (w : Dw) (G H : Hp) : Prop where
  ok : w.Ok
  at_ : ∃ sc, H p.dr = some (.lst [.ref sc, .int w.ix, .int w.big, .int w.seed]) ∧ SqL p.K G sc (w.sc.map V.int)
  out : G p.dr = none
/-! own things: each place in them has a label, which tells the slot and the way to it (the last step first) -/
abbrev Lab := Addr → Option (List Nat)
structure OwnAt (p : Par) (G : Hp) (ρ : Lab) (a : Addr) (L : List Nat) : Prop where
  lab : ρ a = some L
  g : G a = none
  b : p.B a = none
mutual
inductive Node (p : Par) (G H : Hp) (ρ : Lab) : List Nat → V → D → Prop
  | lst {L : List Nat} {a : Addr} {vs : List V} {ds : List D} : OwnAt p G ρ a L → H a = some (.lst vs) → RepAll p G vs ds → Node p G H ρ L (.ref a) (.lst ds)
  | dK {L : List Nat} {a : Addr} {ks : List Key} {vs : List V} {ds : List D} : OwnAt p G ρ a L → H a = some (.dK (ks.zip vs)) → vs.length = ks.length → RepAll p G vs ds → Node p G H ρ L (.ref a) (.dK ks ds)
  | dT {L : List Nat} {a : Addr} {ks : List (List Key)} {vs : List V} {ds : List D} : OwnAt p G ρ a L → H a = some (.dT (ks.zip vs)) → vs.length = ks.length → RepAll p G vs ds → Node p G H ρ L (.ref a) (.dT ks ds)
  | olst {L : List Nat} {a : Addr} {vs : List V} {ds : List D} : OwnAt p G ρ a L → H a = some (.lst vs) → Kids p G H ρ L 0 vs ds → Node p G H ρ L (.ref a) (.olst ds)
  | odK {L : List Nat} {a : Addr} {ks : List Key} {vs : List V} {ds : List D} : OwnAt p G ρ a L → H a = some (.dK (ks.zip vs)) → vs.length = ks.length → Kids p G H ρ L 0 vs ds → Node p G H ρ L (.ref a) (.odK ks ds)
  | odT {L : List Nat} {a : Addr} {ks : List (List Key)} {vs : List V} {ds : List D} : OwnAt p G ρ a L → H a = some (.dT (ks.zip vs)) → vs.length = ks.length → Kids p G H ρ L 0 vs ds → Node p G H ρ L (.ref a) (.odT ks ds)
  | ins {L : List Nat} {a C dx : Addr} {c : Str} {fs : List Str} {vs : List V} {ds : List D} : OwnAt p G ρ a L → H a = some (.ins C dx (fs.zip vs)) → vs.length = fs.length → p.mg c = some (.ref C) → Kids p G H ρ L 0 vs ds → Node p G H ρ L (.ref a) (.ins c fs ds)
inductive Kids (p : Par) (G H : Hp) (ρ : Lab) : List Nat → Nat → List V → List D → Prop
  | nil {L : List Nat} {k : Nat} : Kids p G H ρ L k [] []
  | rep {L : List Nat} {k : Nat} {v : V} {vs : List V} {d : D} {ds : List D} : Rep p G v d → Kids p G H ρ L (k + 1) vs ds → Kids p G H ρ L k (v :: vs) (d :: ds)
  | own {L : List Nat} {k : Nat} {a : Addr} {vs : List V} {d : D} {ds : List D} : Node p G H ρ (k :: L) (.ref a) d → Kids p G H ρ L (k + 1) vs ds → Kids p G H ρ L k (.ref a :: vs) (.own d :: ds)
end
/-- what an own thing at the label L stands on is the same in another heap -/
def Keeps (p : Par) (G H : Hp) (ρ : Lab) (G' H' : Hp) (ρ' : Lab) (L : List Nat) : Prop := ∀ a L' o, ρ a = some L' → L <:+ L' → G a = none → p.B a = none → H a = some o → H' a = some o ∧ G' a = none ∧ ρ' a = some L'
theorem Keeps.kid {p : Par} {G H G' H' : Hp} {ρ ρ' : Lab} {L : List Nat} (k : Nat) (h : Keeps p G H ρ G' H' ρ' L) : Keeps p G H ρ G' H' ρ' (k :: L) := fun a L' o q1 q2 => h a L' o q1 ((List.suffix_cons k L).trans q2)
theorem Keeps.at {p : Par} {G H G' H' : Hp} {ρ ρ' : Lab} {L : List Nat} (h : Keeps p G H ρ G' H' ρ' L) {a : Addr} {o : HO} (w : OwnAt p G ρ a L) (e : H a = some o) : OwnAt p G' ρ' a L ∧ H' a = some o :=
  let ⟨e1, e2, e3⟩ := h a L o w.lab (List.suffix_refl L) w.g w.b e
  ⟨⟨e3, e2, w.b⟩, e1⟩
mutual
theorem Node.keep {p : Par} {G H G' H' : Hp} {ρ ρ' : Lab} (g : Sub G G') : ∀ {L : List Nat} {v : V} {d : D}, Keeps p G H ρ G' H' ρ' L → Node p G H ρ L v d → Node p G' H' ρ' L v d
  | _, _, _, k, .lst w e r => let ⟨w', e'⟩ := k.at w e; .lst w' e' (r.mono g)
  | _, _, _, k, .dK w e l r => let ⟨w', e'⟩ := k.at w e; .dK w' e' l (r.mono g)
  | _, _, _, k, .dT w e l r => let ⟨w', e'⟩ := k.at w e; .dT w' e' l (r.mono g)
  | _, _, _, k, .olst w e r => let ⟨w', e'⟩ := k.at w e; .olst w' e' (Kids.keep g k r)
  | _, _, _, k, .odK w e l r => let ⟨w', e'⟩ := k.at w e; .odK w' e' l (Kids.keep g k r)
  | _, _, _, k, .odT w e l r => let ⟨w', e'⟩ := k.at w e; .odT w' e' l (Kids.keep g k r)
  | _, _, _, k, .ins w e l m r => let ⟨w', e'⟩ := k.at w e; .ins w' e' l m (Kids.keep g k r)
theorem Kids.keep {p : Par} {G H G' H' : Hp} {ρ ρ' : Lab} (g : Sub G G') : ∀ {L : List Nat} {i : Nat} {vs : List V} {ds : List D}, Keeps p G H ρ G' H' ρ' L → Kids p G H ρ L i vs ds → Kids p G' H' ρ' L i vs ds
  | _, _, _, _, _, .nil => .nil
  | _, _, _, _, k, .rep r t => .rep (r.mono g) (Kids.keep g k t)
  | _, i, _, _, k, .own n t => .own (Node.keep g (k.kid i) n) (Kids.keep g k t)
end
mutual
theorem Node.read {p : Par} {G H : Hp} {ρ : Lab} (hd : p.B p.dr ≠ none) : ∀ {L : List Nat} {v : V} {d : D}, Node p G H ρ L v d → RepX p G H v d
  | _, _, _, .lst w e r => .own (fun z => hd (z ▸ w.b)) e r
  | _, _, _, .dK w e l r => .dK (fun z => hd (z ▸ w.b)) e l r
  | _, _, _, .dT w e l r => .dT (fun z => hd (z ▸ w.b)) e l r
  | _, _, _, .olst w e r => .olst (fun z => hd (z ▸ w.b)) e (Kids.read hd r)
  | _, _, _, .odK w e l r => .odK (fun z => hd (z ▸ w.b)) e l (Kids.read hd r)
  | _, _, _, .odT w e l r => .odT (fun z => hd (z ▸ w.b)) e l (Kids.read hd r)
  | _, _, _, .ins w e l m r => .ins (fun z => hd (z ▸ w.b)) e l m (Kids.read hd r)
theorem Kids.read {p : Par} {G H : Hp} {ρ : Lab} (hd : p.B p.dr ≠ none) : ∀ {L : List Nat} {i : Nat} {vs : List V} {ds : List D}, Kids p G H ρ L i vs ds → RepXs p G H vs ds
  | _, _, _, _, .nil => .nil
  | _, _, _, _, .rep r t => .cons (.rep r) (Kids.read hd t)
  | _, _, _, _, .own n t => .cons (.ow (Node.read hd n)) (Kids.read hd t)
end
def OwnsBy (p : Par) (δ : Env) (σ : L2.St) (G H : Hp) (ρ : Lab) : Prop := ∀ (i : Nat) (d : D), δ[i]? = some (some d) → i ∈ p.O → d.isL = true → ∃ v, σ[i]? = some (some v) ∧ Node p G H ρ [i] v d
structure SR (p : Par) (δ : Env) (σ : L2.St) (G H : Hp) (w : Dw) : Prop where
  sub : Sub G H
  g0 : Sub p.G0 G
  bas : ∀ a o, a ≠ p.dr → p.B a = some o → H a = some o
  bd : ∃ o, p.B p.dr = some o
  len : δ.length = σ.length
  vals : ∀ (i : Nat) (d : D), δ[i]? = some (some d) → ¬ (i ∈ p.O ∧ d.isL = true) → i + 1000 ∉ p.O → ∃ v, σ[i]? = some (some v) ∧ Rep p G v d
  ros : ∀ (i : Nat) (d : D), δ[i]? = some (some d) → i + 1000 ∈ p.O → ∃ v, σ[i]? = some (some v) ∧ RepX p G p.B v d
  owns : ∃ ρ, OwnsBy p δ σ G H ρ
  pins : ∀ i, i + 2000 ∈ p.O → i ∈ p.O ∧ σ[i]? = some (some (.ref (p.ad i)))
  draw : DrawAt p w G H
  kp : ∀ a o, p.B a = some o → p.G0 a = none → G a = none
section
variable {p : Par} {δ : Env} {σ : L2.St} {G H G' H' : Hp} {w : Dw}
theorem SR.drS (S : SR p δ σ G H w) : ∃ o, H p.dr = some o := let ⟨_, h, _⟩ := S.draw.at_; ⟨_, h⟩
theorem SR.bd' (S : SR p δ σ G H w) : p.B p.dr ≠ none := fun e => by
  obtain ⟨o, h⟩ := S.bd
  rw [e] at h
  cases h
theorem own_ne (S : SR p δ σ G H w) {a : Addr} (h : p.B a = none) : a ≠ p.dr := fun e => S.bd' (e ▸ h)
/-- the slots' own things in another heap that keeps them -/
theorem OwnsBy.keep {ρ ρ' : Lab} (h : OwnsBy p δ σ G H ρ) (g : Sub G G') (k : ∀ i, i ∈ p.O → Keeps p G H ρ G' H' ρ' [i]) : OwnsBy p δ σ G' H' ρ' := fun i d h1 h2 h3 =>
  let ⟨v, e, n⟩ := h i d h1 h2 h3
  ⟨v, e, n.keep g (k i h2)⟩
theorem OwnsBy.grow {ρ : Lab} (h : OwnsBy p δ σ G H ρ) (hd : p.B p.dr ≠ none) (g : Grow p G H G' H') : OwnsBy p δ σ G' H' ρ := h.keep g.g fun i _ a L o q1 q2 q3 q4 q5 => ⟨g.h a o (fun z => hd (z ▸ q4)) q5, g.k a o q5 q3, q1⟩
/-- behind whatever leaves what stood there as it was but the drawing list -/
theorem SR.step {w' : Dw} (S : SR p δ σ G H w) (g : Grow p G H G' H') (s : Sub G' H') (d : DrawAt p w' G' H') : SR p δ σ G' H' w' where
  sub := s
  g0 := S.g0.trans g.g
  bas := fun a o n h => g.h a o n (S.bas a o n h)
  bd := S.bd
  len := S.len
  vals := fun i d h n m => let ⟨v, e, r⟩ := S.vals i d h n m; ⟨v, e, r.mono g.g⟩
  ros := fun i d h n => let ⟨v, e, r⟩ := S.ros i d h n; ⟨v, e, r.move g.g fun _ _ _ q => q⟩
  owns := let ⟨ρ, h⟩ := S.owns; ⟨ρ, h.grow S.bd' g⟩
  pins := S.pins
  draw := d
  kp := fun a o e n => by
    by_cases q : a = p.dr
    · rw [q]; exact d.out
    · exact g.k a o (S.bas a o q e) (S.kp a o e n)
theorem SR.gr (S : SR p δ σ G H w) (g : Gr G H G' H') : SR p δ σ G' H' w := by
  refine S.step g.grow g.s ?_
  obtain ⟨ok, ⟨sc, h1, h2⟩, h3⟩ := S.draw
  exact ⟨ok, ⟨sc, g.h _ _ h1, sub_l g.g h2⟩, g.k _ _ h1 h3⟩
theorem SR.grow {S : SR p δ σ G H w} (g : Gr G H G' H') : Grow p G H G' H' := g.grow
/-- a name's data may be read -/
theorem SR.read (S : SR p δ σ G H w) {i : Nat} {d : D} (h : δ[i]? = some (some d)) : ∃ v, σ[i]? = some (some v) ∧ RepX p G H v d := by
  by_cases hi : i ∈ p.O ∧ d.isL = true
  · obtain ⟨ρ, ow⟩ := S.owns
    obtain ⟨v, e, n⟩ := ow i d h hi.1 hi.2
    exact ⟨v, e, n.read S.bd'⟩
  · by_cases hr : i + 1000 ∈ p.O
    · obtain ⟨v, e, r⟩ := S.ros i d h hr
      exact ⟨v, e, r.move (fun _ _ q => q) S.bas⟩
    · obtain ⟨v, e, r⟩ := S.vals i d h hi hr
      exact ⟨v, e, .rep r⟩
/-- an own list of things that stand still -/
theorem SR.own1 (S : SR p δ σ G H w) {i : Nat} {ds : List D} (hi : i ∈ p.O) (h : δ[i]? = some (some (.lst ds))) : ∃ a vs, σ[i]? = some (some (.ref a)) ∧ H a = some (.lst vs) ∧ G a = none ∧ p.B a = none ∧ RepAll p G vs ds := by
  obtain ⟨ρ, ow⟩ := S.owns
  obtain ⟨v, e, n⟩ := ow i _ h hi rfl
  cases n with
  | lst w e2 r => exact ⟨_, _, e, e2, w.g, w.b, r⟩
/-- an address that no own thing stands at -/
def Away (p : Par) (δ : Env) (σ : L2.St) (G H : Hp) (a : Addr) : Prop := ∃ ρ, OwnsBy p δ σ G H ρ ∧ ρ a = none
theorem SR.away (S : SR p δ σ G H w) {a : Addr} (h : H a = none) : Away p δ σ G H a := by
  obtain ⟨ρ, ow⟩ := S.owns
  refine ⟨fun b => if b = a then none else ρ b, ow.keep (Sub.refl G) fun i _ b L o q1 q2 q3 q4 q5 => ⟨q5, q3, ?_⟩, if_pos rfl⟩
  rw [if_neg (ne_of_none q5 h)]
  exact q1
/-- a thing that nobody of the state knows stands still from now on -/
theorem SR.solid {a : Addr} {o : HO} (S : SR p δ σ G H w) (aw : Away p δ σ G H a) (h1 : H a = some o) (h2 : G a = none) (hB : p.B a = none) : SR p δ σ (upd G a o) H w := by
  have sg : Sub G (upd G a o) := fun b u q => by
    rw [upd_ne (ne_of_none q h2)]
    exact q
  have hne := own_ne S hB
  refine ⟨fun b u q => ?_, S.g0.trans sg, S.bas, S.bd, S.len, fun i d q n m => ?_, fun i d q n => ?_, ?_, S.pins, ?_, fun b u q1 q2 => ?_⟩
  · by_cases hb : b = a
    · subst hb
      rw [upd_same] at q
      cases q
      exact h1
    · rw [upd_ne hb] at q
      exact S.sub b u q
  · obtain ⟨v, e1, r1⟩ := S.vals i d q n m
    exact ⟨v, e1, r1.mono sg⟩
  · obtain ⟨v, e1, r1⟩ := S.ros i d q n
    exact ⟨v, e1, r1.move sg fun _ _ _ z => z⟩
  · obtain ⟨ρ, ow, e⟩ := aw
    refine ⟨ρ, ow.keep sg fun i _ b L u q1 q2 q3 q4 q5 => ⟨q5, ?_, q1⟩⟩
    rw [upd_ne (fun z => by rw [z, e] at q1; cases q1)]
    exact q3
  · obtain ⟨ok, ⟨sc, d1, d2⟩, d3⟩ := S.draw
    refine ⟨ok, ⟨sc, d1, sub_l sg d2⟩, ?_⟩
    rw [upd_ne (fun z => hne z.symm)]
    exact d3
  · rw [upd_ne (ne_of_none q1 hB)]
    exact S.kp b u q1 q2
theorem Away.grow {a : Addr} (h : Away p δ σ G H a) (hd : p.B p.dr ≠ none) (g : Grow p G H G' H') : Away p δ σ G' H' a := let ⟨ρ, ow, e⟩ := h; ⟨ρ, ow.grow hd g, e⟩
end

/-! ### readings of functions on data -/
/-- what is wanted of an expression's value -/
def Kont (p : Par) (δ : Env) (σ : L2.St) (G H : Hp) (w' : Dw) (al : Bool) (d : D) (Q : VK) : Prop :=
  ∀ v G' H', Grow p G H G' H' → SR p δ σ G' H' w' → RepA p al G' H' v d → Q v H'
def tOf (K : PySem.W.Frag) (mg : Str → Option Value) (O : List Nat) (al : Bool) (f : Env → M D) : TE := fun σ H Q =>
  ∃ (dr : Addr) (B G0 : Hp) (ad : Nat → Addr) (δ : Env) (G : Hp) (w : Dw) (d : D) (w' : Dw), SR ⟨K, mg, dr, O, B, G0, ad⟩ δ σ G H w ∧ f δ w = some (d, w') ∧ Kont ⟨K, mg, dr, O, B, G0, ad⟩ δ σ G H w' al d Q
def ttOf (K : PySem.W.Frag) (mg : Str → Option Value) (O : List Nat) (f : Env → M Bool) : TT := fun σ H Q =>
  ∃ (dr : Addr) (B G0 : Hp) (ad : Nat → Addr) (δ : Env) (G : Hp) (w : Dw) (d : Bool) (w' : Dw), SR ⟨K, mg, dr, O, B, G0, ad⟩ δ σ G H w ∧ f δ w = some (d, w') ∧
    ∀ G' H', Grow ⟨K, mg, dr, O, B, G0, ad⟩ G H G' H' → SR ⟨K, mg, dr, O, B, G0, ad⟩ δ σ G' H' w' → Q d H'
inductive RepAs (p : Par) (al : Bool) (G H : Hp) : List V → List D → Prop
  | nil : RepAs p al G H [] []
  | cons {v : V} {vs : List V} {d : D} {ds : List D} : RepA p al G H v d → RepAs p al G H vs ds → RepAs p al G H (v :: vs) (d :: ds)
theorem RepAs.grow {p : Par} {al : Bool} {G H G' H' : Hp} (g : Grow p G H G' H') : ∀ {vs : List V} {ds : List D}, RepAs p al G H vs ds → RepAs p al G' H' vs ds
  | _, _, .nil => .nil
  | _, _, .cons r t => .cons (r.grow g) (t.grow g)
theorem RepAs.all {p : Par} {G H : Hp} : ∀ {vs : List V} {ds : List D}, RepAs p false G H vs ds → RepAll p G vs ds
  | _, _, .nil => .nil
  | _, _, .cons r t => .cons r t.all
theorem RepAs.length {p : Par} {al : Bool} {G H : Hp} : ∀ {vs : List V} {ds : List D}, RepAs p al G H vs ds → vs.length = ds.length
  | _, _, .nil => rfl
  | _, _, .cons _ r => congrArg (· + 1) r.length
def taOf (K : PySem.W.Frag) (mg : Str → Option Value) (O : List Nat) (al : Bool) (f : Env → M (List D)) : TA := fun σ H Q =>
  ∃ (dr : Addr) (B G0 : Hp) (ad : Nat → Addr) (δ : Env) (G : Hp) (w : Dw) (d : List D) (w' : Dw), SR ⟨K, mg, dr, O, B, G0, ad⟩ δ σ G H w ∧ f δ w = some (d, w') ∧
    ∀ vs G' H', Grow ⟨K, mg, dr, O, B, G0, ad⟩ G H G' H' → SR ⟨K, mg, dr, O, B, G0, ad⟩ δ σ G' H' w' → RepAs ⟨K, mg, dr, O, B, G0, ad⟩ al G' H' vs d → Q vs H'
/-- a list that is new: nobody holds it -/
def tfOf (K : PySem.W.Frag) (mg : Str → Option Value) (O : List Nat) (f : Env → M D) : TE := fun σ H Q =>
  ∃ (dr : Addr) (B G0 : Hp) (ad : Nat → Addr) (δ : Env) (G : Hp) (w : Dw) (d : D) (w' : Dw), SR ⟨K, mg, dr, O, B, G0, ad⟩ δ σ G H w ∧ f δ w = some (d, w') ∧
    ∀ a vs ds G' H', d = .lst ds → Grow ⟨K, mg, dr, O, B, G0, ad⟩ G H G' H' → SR ⟨K, mg, dr, O, B, G0, ad⟩ δ σ G' H' w' → H a = none → H' a = some (.lst vs) → G' a = none → a ≠ dr → RepAll ⟨K, mg, dr, O, B, G0, ad⟩ G' vs ds → Q (.ref a) H'

/-- an expression computes f -/
def SE (X : Cx) (O : List Nat) (al : Bool) (e : Expr) (f : Env → M D) : Prop := PE X e (tOf X.K X.mg O al f)
def SF (X : Cx) (O : List Nat) (e : Expr) (f : Env → M D) : Prop := PE X e (tfOf X.K X.mg O f)
def ST (X : Cx) (O : List Nat) (e : Expr) (f : Env → M Bool) : Prop := PT X e (ttOf X.K X.mg O f)
def SW (X : Cx) (O : List Nat) (e : Expr) (f : Env → M Bool) : Prop := PW X e (ttOf X.K X.mg O f)
def SA (X : Cx) (O : List Nat) (al : Bool) (es : List Expr) (f : Env → M (List D)) : Prop := PA X es (taOf X.K X.mg O al f)

theorem PE.weak {X : Cx} {e : Expr} {t t' : TE} (h : PE X e t) (k : ∀ σ H Q, t' σ H Q → t σ H Q) : PE X e t' := ⟨fun pins s σ H Q I q => h.run pins s σ H Q I (k σ H Q q)⟩
theorem PT.weak {X : Cx} {e : Expr} {t t' : TT} (h : PT X e t) (k : ∀ σ H Q, t' σ H Q → t σ H Q) : PT X e t' := ⟨fun pins s σ H Q I q => h.run pins s σ H Q I (k σ H Q q)⟩
theorem PW.weak {X : Cx} {e : Expr} {t t' : TT} (h : PW X e t) (k : ∀ σ H Q, t' σ H Q → t σ H Q) : PW X e t' := ⟨fun wh pins s σ H Q I q => h.run wh pins s σ H Q I (k σ H Q q)⟩
theorem PA.weak {X : Cx} {e : List Expr} {t t' : TA} (h : PA X e t) (k : ∀ σ H Q, t' σ H Q → t σ H Q) : PA X e t' := ⟨fun pos pins s σ H Q I q => h.run pos pins s σ H Q I (k σ H Q q)⟩
theorem PS.weak {X : Cx} {e : Stmt} {t t' : TS} (h : PS X e t) (k : ∀ D σ H, t' D σ H → t D σ H) : PS X e t' := ⟨fun pins s σ H D I q => h.run pins s σ H D I (k D σ H q)⟩
theorem PSs.weak {X : Cx} {e : List Stmt} {t t' : TS} (h : PSs X e t) (k : ∀ D σ H, t' D σ H → t D σ H) : PSs X e t' := ⟨fun pins s σ H D I q => h.run pins s σ H D I (k D σ H q)⟩
theorem PI.weak {X : Cx} {tg e : Expr} {t t' : TI} (h : PI X tg e t) (k : ∀ σ H Q, t' σ H Q → t σ H Q) : PI X tg e t' := ⟨fun pins s σ H Q I q => h.run pins s σ H Q I (k σ H Q q)⟩

section
variable {X : Cx} {O : List Nat} {al bl : Bool} {a b c e : Expr} {f g : Env → M D} {pos : Pos}
theorem SE.weak (h : SE X O false e f) : SE X O true e f := PE.weak h fun σ H Q ⟨dr, B, G0, ad, δ, G, w, d, w', S, hf, k⟩ => ⟨dr, B, G0, ad, δ, G, w, d, w', S, hf, fun v G' H' gr S' r => k v G' H' gr S' (.rep r)⟩
theorem SE.any (h : SE X O al e f) : SE X O true e f := by
  cases al with
  | true => exact h
  | false => exact h.weak
/-! names, constants -/
def eVar (i : Nat) : Env → M D := fun δ => match δ[i]? with
  | some (some d) => pure d
  | _ => fail
theorem eVar_some {i : Nat} {δ : Env} {w w' : Dw} {d : D} (h : eVar i δ w = some (d, w')) : δ[i]? = some (some d) ∧ w = w' := by
  have e : eVar i δ = (match δ[i]? with | some (some d) => pure d | _ => fail) := rfl
  rw [e] at h
  cases q : δ[i]? with
  | none => rw [q] at h; cases h
  | some o =>
    cases o with
    | none => rw [q] at h; cases h
    | some d' =>
      rw [q] at h
      obtain ⟨e1, e2⟩ := pure_some h
      subst e1
      exact ⟨rfl, e2⟩
theorem se_var (i : Nat) {x : Str} (hO : i ∉ O := by decide) (hR : i + 1000 ∉ O := by decide) (hN : X.N[i]? = some x := by rfl) (hv : Vis X.env.scope x := by first | exact Or.inl rfl | exact Or.inr (Or.inl rfl) | exact Or.inr (Or.inr rfl)) (hd : (x == ("__debug__" : Str)) = false := by decide)
    (hcd : (x == ("__classdict__" : Str)) = false := by decide) : SE X O false (.Name x pos) (eVar i) :=
  PE.weak (pe_var hN hv hd hcd) fun σ H Q ⟨dr, B, G0, ad, δ, G, w, d, w', S, hf, k⟩ => by
    obtain ⟨h1, h2⟩ := eVar_some hf
    subst h2
    obtain ⟨v, e, r⟩ := S.vals i d h1 (fun z => hO z.1) hR
    exact ⟨v, e, k v G H (.refl _ G H) S r⟩
/-- a name of a list that is still changed -/
theorem se_own (i : Nat) {x : Str} (hN : X.N[i]? = some x := by rfl) (hv : Vis X.env.scope x := by first | exact Or.inl rfl | exact Or.inr (Or.inl rfl) | exact Or.inr (Or.inr rfl)) (hd : (x == ("__debug__" : Str)) = false := by decide)
    (hcd : (x == ("__classdict__" : Str)) = false := by decide) : SE X O true (.Name x pos) (eVar i) :=
  PE.weak (pe_var hN hv hd hcd) fun σ H Q ⟨dr, B, G0, ad, δ, G, w, d, w', S, hf, k⟩ => by
    obtain ⟨h1, h2⟩ := eVar_some hf
    subst h2
    obtain ⟨v, e, r⟩ := S.read h1
    exact ⟨v, e, k v G H (.refl _ G H) S r⟩
def eC (d : D) : Env → M D := fun _ => pure d
theorem se_c {v : V} {d : D} (h : PE X e (tC v)) (hr : ∀ p G, Rep p G v d) : SE X O false e (eC d) :=
  PE.weak h fun σ H Q ⟨dr, B, G0, ad, δ, G, w, d', w', S, hf, k⟩ => by
    obtain ⟨h1, h2⟩ := pure_some hf
    subst h1; subst h2
    exact k v G H (.refl _ G H) S (hr _ _)
theorem se_int {i j} : SE X O false (.Constant (.int i) j pos) (eC (.int i)) := se_c pe_int fun _ _ => .int i
theorem se_bl {i j} : SE X O false (.Constant (.bool i) j pos) (eC (.bl i)) := se_c pe_bl fun _ _ => .bl i
theorem se_non {j} : SE X O false (.Constant .none j pos) (eC .non) := se_c pe_non fun _ _ => .non
theorem se_str {x j} : SE X O false (.Constant (.str x) j pos) (eC (.str x)) := se_c pe_str fun _ _ => .str x

/-! two operands -/
def eBin (op : D → D → Option D) (f g : Env → M D) : Env → M D := fun δ => do
  let x ← f δ
  let y ← g δ
  liftO (op x y)
theorem eBin_some {op : D → D → Option D} {δ : Env} {w w' : Dw} {d : D} (h : eBin op f g δ w = some (d, w')) : ∃ x w1 y, f δ w = some (x, w1) ∧ g δ w1 = some (y, w') ∧ op x y = some d := by
  obtain ⟨x, w1, h1, h⟩ := bind_some h
  obtain ⟨y, w2, h2, h⟩ := bind_some h
  obtain ⟨h3, e⟩ := liftO_some h
  subst e
  exact ⟨x, w1, y, h1, h2, h3⟩
/-- what an operation on values must do -/
def OpS (K : PySem.W.Frag) (mg : Str → Option Value) (r : R2) (op : D → D → Option D) : Prop :=
  ∀ (p : Par) (G H : Hp) (v u : V) (x y d : D) (Q : VK), p.K = K → p.mg = mg → Sub G H → RepX p G H v x → RepX p G H u y → op x y = some d → (∀ z G' H', Gr G H G' H' → Rep p G' z d → Q z H') → r v u H Q
theorem tOf_bin {K : PySem.W.Frag} {mg : Str → Option Value} {r : R2} {op : D → D → Option D} (hs : OpS K mg r op) {σ : L2.St} {H : Hp} {Q : VK} (h : tOf K mg O false (eBin op f g) σ H Q) : tOp r (tOf K mg O al f) (tOf K mg O bl g) σ H Q := by
  obtain ⟨dr, B, G0, ad, δ, G, w, d, w', S, hf, k⟩ := h
  obtain ⟨x, w1, y, h1, h2, h3⟩ := eBin_some hf
  refine ⟨dr, B, G0, ad, δ, G, w, x, w1, S, h1, fun v G1 H1 g1 S1 r1 => ?_⟩
  refine ⟨dr, B, G0, ad, δ, G1, w1, y, w', S1, h2, fun u G2 H2 g2 S2 r2 => ?_⟩
  exact hs _ G2 H2 v u x y d Q rfl rfl S2.sub (r1.grow g2).x r2.x h3 fun z G' H' gr rz => k z G' H' ((g1.trans g2).trans gr.grow) (S2.gr gr) rz
theorem se_bin {o : Operator} {r : R2} {op : D → D → Option D} (ho : OpR X (binaryOp o) r) (hs : OpS X.K X.mg r op) (ha : SE X O al a f) (hb : SE X O bl b g) : SE X O false (.BinOp a o b pos) (eBin op f g) :=
  PE.weak (pe_op ho ha hb) fun _ _ _ h => tOf_bin hs h
theorem se_cmp {o : CmpOp} {r : R2} {op : D → D → Option D} (ho : OpR X (compareOp o) r) (hs : OpS X.K X.mg r op) (ha : SE X O al a f) (hb : SE X O bl b g) (hm : behindInMarks o b = false := by first | exact nomark _ | rfl) : SE X O false (.Compare a [o] [b] pos) (eBin op f g) :=
  PE.weak (pe_cmpR ho ha hb hm) fun _ _ _ h => tOf_bin hs h
/-- as a test -/
def asB : D → Option Bool
  | .bl b => some b
  | _ => none
def tB (f : Env → M D) : Env → M Bool := fun δ => do
  let x ← f δ
  liftO (asB x)
theorem tB_some {δ : Env} {w w' : Dw} {b : Bool} (h : tB f δ w = some (b, w')) : f δ w = some (.bl b, w') := by
  obtain ⟨x, w1, h1, h⟩ := bind_some h
  obtain ⟨h3, e⟩ := liftO_some h
  subst e
  cases x <;> cases h3
  exact h1
theorem ttOf_B {K : PySem.W.Frag} {mg : Str → Option Value} {σ : L2.St} {H : Hp} {Q : Bool → Hp → Prop} (h : ttOf K mg O (tB f) σ H Q) : tTest (tOf K mg O false f) σ H Q := by
  obtain ⟨dr, B, G0, ad, δ, G, w, d, w', S, hf, k⟩ := h
  refine ⟨dr, B, G0, ad, δ, G, w, .bl d, w', S, tB_some hf, fun v G1 H1 g1 S1 r1 => ?_⟩
  cases (show Rep _ G1 v (.bl d) from r1)
  exact ⟨d, rfl, k G1 H1 g1 S1⟩
theorem st_cmp {o : CmpOp} {r : R2} {op : D → D → Option D} (ho : OpR X (compareOp o) r) (hs : OpS X.K X.mg r op) (ha : SE X O al a f) (hb : SE X O bl b g) (hm : behindInMarks o b = false := by first | exact nomark _ | rfl) : ST X O (.Compare a [o] [b] pos) (tB (eBin op f g)) :=
  PT.weak (pt_cmpR ho ha hb hm) fun σ H Q h => by
    obtain ⟨dr, B, G0, ad, δ, G, w, d, w', S, hf, k⟩ := ttOf_B h
    exact tOf_bin (O := O) (al := al) (bl := bl) hs ⟨dr, B, G0, ad, δ, G, w, d, w', S, hf, k⟩
/-- any expression that gives True or False -/
theorem st_val (he : SE X O false e f) (hp : ∀ whole, isTrue e X.env whole = (do let v ← whole; standAt e.pos; holding [v] (truthy v)) := by intro _; rfl) : ST X O e (tB f) :=
  PT.weak (pt_val he hp) fun σ H Q h => by
    obtain ⟨dr, B, G0, ad, δ, G, w, d, w', S, hf, k⟩ := h
    refine ⟨dr, B, G0, ad, δ, G, w, .bl d, w', S, tB_some hf, fun v G1 H1 g1 S1 r1 => ?_⟩
    cases (show Rep _ G1 v (.bl d) from r1)
    exact ⟨d, rfl, k G1 H1 g1 S1⟩
end
end Fc

/-! Fc, part B: operations on data. -/
namespace Fc
open PySem PySem.Spec PyProof.Rows L2

/-! ### tuple * int, any number of times -/
theorem tuple_mulSame (l : Addr) (items : Array Value) (n : Nat) (dd : Option Addr) (sl : Array (Option Value)) (x : Int) (u : Tok) (c0 : (decide (x < -(2 ^ 63)) || decide (x ≥ 2 ^ 63)) = false) (c1 : (items.isEmpty || x == 1) = true) :
    Meets (Builtin.«tuple.__mul__» ⟨[.ref l, .int x u], []⟩) (fun _ R s => s.heap.get? l = some { cls := .type "tuple", dict := dd, data := .seq items n, slots := sl } ∧ R (.ok (.ret (Value.ref l))) s) :=
  .of_wp fun prog w A R s h => by
    obtain ⟨hp, g, d, tk, os⟩ := s
    obtain ⟨hl, h⟩ := h
    have f1 := AutoSeq1.idx_int
    wp_walk using wpAny_loadPart' hl
    repeat (first
      | (refine wpAny_ite_false (decide_eq_false (by rw [c0]; exact Bool.false_ne_true)) ?_; wp_walk using wpAny_loadPart' hl)
      | (refine wpAny_ite_true (decide_eq_true c1) ?_; wp_walk using wpAny_loadPart' hl))
    exact ⟨_, rfl, h⟩
theorem tuple_mulNone (l : Addr) (items : Array Value) (n : Nat) (dd : Option Addr) (sl : Array (Option Value)) (x : Int) (u : Tok) (c0 : (decide (x < -(2 ^ 63)) || decide (x ≥ 2 ^ 63)) = false) (c1 : (items.isEmpty || x == 1) = false) (c2 : (decide (x ≤ 0) || items.isEmpty) = true) :
    Meets (Builtin.«tuple.__mul__» ⟨[.ref l, .int x u], []⟩) (fun _ R s => s.heap.get? l = some { cls := .type "tuple", dict := dd, data := .seq items n, slots := sl } ∧
      R (.ok (.ret (Value.ref s.heap.objs.size))) { s with heap := s.heap.push { cls := Value.type "tuple", data := Data.seq #[] }, toks := s.toks }) :=
  .of_wp fun prog w A R s h => by
    obtain ⟨hp, g, d, tk, os⟩ := s
    obtain ⟨hl, h⟩ := h
    have f1 := AutoSeq1.idx_int
    wp_walk using wpAny_loadPart' hl
    repeat (first
      | (refine wpAny_ite_false (decide_eq_false (by rw [c0]; exact Bool.false_ne_true)) ?_; wp_walk using wpAny_loadPart' hl)
      | (refine wpAny_ite_false (decide_eq_false (by rw [c1]; exact Bool.false_ne_true)) ?_; wp_walk using wpAny_loadPart' hl)
      | (refine wpAny_ite_true (decide_eq_true c2) ?_; wp_walk using wpAny_loadPart' hl))
    exact ⟨_, rfl, h⟩
def rRepA (K : PySem.W.Frag) : R2 := fun x y H Q => ∃ l k xs, x = .ref l ∧ y = .int k ∧ SqT K H l xs ∧ -1000 ≤ k ∧ k ≤ 1000 ∧ xs.length ≤ 1000 ∧ (xs = [] ∨ k = 1 → Q (.ref l) H) ∧
  (¬ (xs = [] ∨ k = 1) → ∀ p, H p = none → Q (.ref p) (upd H p (.tup (List.replicate k.toNat xs).flatten)))
section
variable {X : Cx}
theorem op_repA : OpR X (binaryOp .Mult) (rRepA X.K) := by
  intro pins s σ H x y v u Q I rx ry h
  obtain ⟨l, k, xs, rfl, rfl, hT, h1, h2, hz, q1, q2⟩ := h
  by_cases hk : xs ≠ [] ∧ 2 ≤ k
  · exact op_repT pins s σ H _ _ v u Q I rx ry ⟨l, k, xs, rfl, rfl, hT, hk.1, hk.2, h2, hz, q2 (fun e => by
      rcases e with e | e
      · exact hk.1 e
      · omega)⟩
  cases rx
  obtain ⟨t, rfl⟩ := ry
  obtain ⟨its, r, ⟨⟨cls, dd, data, sl⟩, ho, hc, n, hd⟩, hs⟩ := I.tuple hT
  simp only at hc hd
  subst hc hd
  have hle : its.length = xs.length := r.length.symm
  have c0 : (decide (k < -(2 ^ 63)) || decide (k ≥ 2 ^ 63)) = false := by
    rw [decide_eq_false (by omega), decide_eq_false (by omega)] <;> rfl
  by_cases hs1 : xs = [] ∨ k = 1
  · have c1 : (its.toArray.isEmpty || k == 1) = true := by
      rcases hs1 with e | e
      · subst e
        cases r
        rfl
      · subst e
        simp
    refine wpAny_binaryOp_repeat_ref (T := "tuple") (U := "int") (by decide) ⟨_, ho, rfl⟩ (fun s' => typeIs_int s' k t) noFill_tuple_mul F.fills_int_mul F.slot_int_rmul repeat_tuple F.slot_int_index.lookup
      (call_meets F.slot_int_rmul (typeIs_int s k t) F.entry_int_rmul (F.args_int_rmul_2 _ _) (int_rmul_tuple k t l its.toArray n dd sl)
        ⟨ho, rfl, ⟨_, ho, rfl⟩, call_meets F.slot_tuple_mul ⟨_, ho, rfl⟩ F.entry_tuple_mul (F.args_tuple_mul_2 _ _) (tuple_mulSame l its.toArray n dd sl k t c0 c1) ⟨ho, ?_⟩⟩)
    exact ⟨.ref l, H, I, rfl, q1 hs1⟩
  · have hn : its ≠ [] := fun e => hs1 (Or.inl (by
      rw [e] at hle
      exact List.eq_nil_of_length_eq_zero hle.symm))
    have hi : its.toArray.isEmpty = false := by
      cases its with
      | nil => exact absurd rfl hn
      | cons a b => rfl
    have hk0 : k ≤ 0 := by
      by_cases h0 : k ≤ 0
      · exact h0
      · refine absurd ⟨fun e => hs1 (.inl e), ?_⟩ hk
        have : k ≠ 1 := fun e => hs1 (.inr e)
        omega
    have c1 : (its.toArray.isEmpty || k == 1) = false := by
      rw [hi, Bool.false_or]
      exact beq_eq_false_iff_ne.mpr (by omega)
    have c2 : (decide (k ≤ 0) || its.toArray.isEmpty) = true := by
      rw [decide_eq_true hk0]
      rfl
    refine wpAny_binaryOp_repeat_ref (T := "tuple") (U := "int") (by decide) ⟨_, ho, rfl⟩ (fun s' => typeIs_int s' k t) noFill_tuple_mul F.fills_int_mul F.slot_int_rmul repeat_tuple F.slot_int_index.lookup
      (call_meets F.slot_int_rmul (typeIs_int s k t) F.entry_int_rmul (F.args_int_rmul_2 _ _) (int_rmul_tuple k t l its.toArray n dd sl)
        ⟨ho, rfl, ⟨_, ho, rfl⟩, call_meets F.slot_tuple_mul ⟨_, ho, rfl⟩ F.entry_tuple_mul (F.args_tuple_mul_2 _ _) (tuple_mulNone l its.toArray n dd sl k t c0 c1 c2) ⟨ho, ?_⟩⟩)
    have e0 : (List.replicate k.toNat xs).flatten = [] := by
      have : k.toNat = 0 := by omega
      rw [this]
      rfl
    have q := q2 hs1
    rw [e0] at q
    refine ⟨.ref s.heap.objs.size, _, I.laid (t' := s.toks) (o := .tup []) (fun b ob q => Heap.get?_push_of_some _ q) (Nat.le_refl _) ?_, rfl, q _ (I.hok.fresh (Nat.le_refl _))⟩
    exact ⟨Nat.zero_le _, [], .nil, IsTup.new _ _⟩
end

/-! ### what stands as which data -/
section
variable {p : Par} {G H : Hp} {v : V}
theorem RepX.int {i : Int} (r : RepX p G H v (.int i)) : v = .int i := by
  cases r with
  | rep r => cases r; rfl
theorem RepX.bl {i : Bool} (r : RepX p G H v (.bl i)) : v = .bl i := by
  cases r with
  | rep r => cases r; rfl
theorem RepX.non (r : RepX p G H v .non) : v = .non := by
  cases r with
  | rep r => cases r; rfl
theorem RepX.str {i : Str} (r : RepX p G H v (.str i)) : v = .str i := by
  cases r with
  | rep r => cases r; rfl
theorem RepX.tup {ds : List D} (r : RepX p G H v (.tup ds)) (s : Sub G H) : ∃ a vs, v = .ref a ∧ SqT p.K H a vs ∧ RepAll p G vs ds ∧ Rep p G v (.tup ds) := by
  cases r with
  | rep r => cases id r with
    | tup h1 h2 => exact ⟨_, _, rfl, sub_t s h1, h2, r⟩
theorem RepX.lst {ds : List D} (r : RepX p G H v (.lst ds)) (s : Sub G H) : ∃ a vs, v = .ref a ∧ H a = some (.lst vs) ∧ RepAll p G vs ds := by
  cases r with
  | rep r => cases r with
    | lst h1 h2 => exact ⟨_, _, rfl, s _ _ h1, h2⟩
  | own n h r => exact ⟨_, _, rfl, h, r⟩
theorem RepX.tupR {ds : List D} (r : RepX p G H v (.tup ds)) : Rep p G v (.tup ds) := by
  cases r with
  | rep r => exact r
theorem RepAll.ints : ∀ {vs : List V} {ns : List Int}, RepAll p G vs (ns.map D.int) → vs = ns.map V.int
  | _, [], .nil => rfl
  | _, _ :: _, .cons r t => by
    cases r
    rw [RepAll.ints t]
    rfl
theorem RepAll.bls : ∀ {vs : List V} {ns : List Bool}, RepAll p G vs (ns.map D.bl) → vs = ns.map V.bl
  | _, [], .nil => rfl
  | _, _ :: _, .cons r t => by
    cases r
    rw [RepAll.bls t]
    rfl
/-- a new tuple -/
theorem Rep.newT {vs : List V} {ds : List D} (s : Sub G H) {a : Addr} (h : H a = none) (r : RepAll p G vs ds) : Gr G H (upd G a (.tup vs)) (upd H a (.tup vs)) ∧ Rep p (upd G a (.tup vs)) (.ref a) (.tup ds) :=
  ⟨Gr.new s h, .tup (SqT.of upd_same) (r.mono (Gr.new s h).g)⟩
theorem Rep.newL {vs : List V} {ds : List D} (s : Sub G H) {a : Addr} (h : H a = none) (r : RepAll p G vs ds) : Gr G H (upd G a (.lst vs)) (upd H a (.lst vs)) ∧ Rep p (upd G a (.lst vs)) (.ref a) (.lst ds) :=
  ⟨Gr.new s h, .lst upd_same (r.mono (Gr.new s h).g)⟩
end

/-! ### arithmetic -/
section
variable {X : Cx}
theorem OpS.or {K : PySem.W.Frag} {mg : Str → Option Value} {r r' : R2} {f : D → D → Option D} (h : ∀ (p : Par) (G H : Hp) (v u : V) (x y d : D) (Q : VK), p.K = K → p.mg = mg → Sub G H → RepX p G H v x → RepX p G H u y → f x y = some d →
    (∀ z G' H', Gr G H G' H' → Rep p G' z d → Q z H') → r v u H Q ∨ r' v u H Q) : OpS K mg (fun x y H Q => r x y H Q ∨ r' x y H Q) f := h
def LIM : Nat := 100000
theorem lim_ok {n : Nat} (h : n ≤ LIM) : n ≤ sizeLine := Nat.le_trans h (by decide)
theorem lim_lt {n : Nat} (h : n < LIM) : n < sizeLine := Nat.lt_of_lt_of_le h (by decide)
def dAdd : D → D → Option D
  | .int i, .int j => some (.int (i + j))
  | .str i, .str j => if i.length + j.length ≤ LIM then some (.str (i ++ j)) else none
  | .tup xs, .tup ys => if xs.length + ys.length ≤ LIM then some (.tup (xs ++ ys)) else none
  | _, _ => none
def rAddA (K : PySem.W.Frag) : R2 := fun x y H Q => (rI0 fun i j => .int (i + j)) x y H Q ∨ (∃ i j, x = .str i ∧ y = .str j ∧ i.length + j.length ≤ sizeLine ∧ Q (.str (i ++ j)) H) ∨ rCatA K x y H Q
theorem op_addA : OpR X (binaryOp .Add) (rAddA X.K) := op_add.or (op_add_str.or op_catA)
theorem os_add {K : PySem.W.Frag} {mg : Str → Option Value} : OpS K mg (rAddA K) dAdd := by
  intro p G H v u x y d Q hK hmg s rx ry hd k
  subst hK
  cases x <;> cases y <;> try (cases hd; done)
  · cases hd
    rw [rx.int, ry.int]
    exact .inl ⟨_, _, rfl, rfl, k _ G H (.refl s) (.int _)⟩
  · rename_i i j
    simp only [dAdd] at hd
    split at hd
    · rename_i hl
      cases hd
      rw [rx.str, ry.str]
      exact .inr (.inl ⟨_, _, rfl, rfl, lim_ok hl, k _ G H (.refl s) (.str _)⟩)
    · cases hd
  · rename_i xs ys
    simp only [dAdd] at hd
    split at hd
    · rename_i hl
      cases hd
      obtain ⟨a, vs, rfl, ha, ra, Ra⟩ := rx.tup s
      obtain ⟨b, us, rfl, hb, rb, Rb⟩ := ry.tup s
      refine .inr (.inr ⟨a, b, vs, us, rfl, rfl, ha, hb, by rw [ra.length, rb.length]; exact lim_ok hl, fun e => ?_, fun _ e => ?_, fun _ _ q hq => ?_⟩)
      · subst e
        cases ra
        exact k _ G H (.refl s) Rb
      · subst e
        cases rb
        rw [List.append_nil] at k
        exact k _ G H (.refl s) Ra
      · obtain ⟨g, r⟩ := Rep.newT s hq (ra.append rb)
        exact k _ _ _ g r
    · cases hd
def dSub : D → D → Option D
  | .int i, .int j => some (.int (i - j))
  | _, _ => none
theorem os_I0 {K : PySem.W.Frag} {mg : Str → Option Value} {g : Int → Int → V} {h : Int → Int → D} {op : D → D → Option D} (ho : ∀ x y d, op x y = some d → ∃ i j, x = .int i ∧ y = .int j ∧ d = h i j)
    (hr : ∀ (p : Par) G i j, Rep p G (g i j) (h i j)) : OpS K mg (rI0 g) op := by
  intro p G H v u x y d Q hK hmg s rx ry hd k
  obtain ⟨i, j, rfl, rfl, rfl⟩ := ho x y d hd
  rw [rx.int, ry.int]
  exact ⟨_, _, rfl, rfl, k _ G H (.refl s) (hr p G i j)⟩
theorem os_I {K : PySem.W.Frag} {mg : Str → Option Value} {C : Int → Int → Prop} {g : Int → Int → V} {h : Int → Int → D} {op : D → D → Option D} (ho : ∀ x y d, op x y = some d → ∃ i j, x = .int i ∧ y = .int j ∧ C i j ∧ d = h i j)
    (hr : ∀ (p : Par) G i j, Rep p G (g i j) (h i j)) : OpS K mg (rI C g) op := by
  intro p G H v u x y d Q hK hmg s rx ry hd k
  obtain ⟨i, j, rfl, rfl, hc, rfl⟩ := ho x y d hd
  rw [rx.int, ry.int]
  exact ⟨_, _, rfl, rfl, hc, k _ G H (.refl s) (hr p G i j)⟩
theorem os_sub {K : PySem.W.Frag} {mg : Str → Option Value} : OpS K mg (rI0 fun i j => .int (i - j)) dSub :=
  os_I0 (h := fun i j => .int (i - j)) (fun x y d e => by cases x <;> cases y <;> cases e; exact ⟨_, _, rfl, rfl, rfl⟩) fun _ _ _ _ => .int _
/-- * of numbers (one below 2^64), of a tuple and a number -/
def small64 (i j : Int) : Bool := (decide (-(2 ^ 64) < i) && decide (i < 2 ^ 64)) || (decide (-(2 ^ 64) < j) && decide (j < 2 ^ 64))
def dMul : D → D → Option D
  | .int i, .int j => if small64 i j = true then some (.int (i * j)) else none
  | .tup xs, .int k => if -1000 ≤ k ∧ k ≤ 1000 ∧ xs.length ≤ 1000 then some (.tup (List.replicate k.toNat xs).flatten) else none
  | _, _ => none
theorem op_mulA : OpR X (binaryOp .Mult) (fun x y H Q => (rI CMul fun i j => .int (i * j)) x y H Q ∨ rRepA X.K x y H Q) := op_mul.or op_repA
theorem os_mul {K : PySem.W.Frag} {mg : Str → Option Value} : OpS K mg (fun x y H Q => (rI CMul fun i j => .int (i * j)) x y H Q ∨ rRepA K x y H Q) dMul := by
  intro p G H v u x y d Q hK hmg s rx ry hd k
  subst hK
  cases x <;> cases y <;> try (cases hd; done)
  · rename_i i j
    simp only [dMul] at hd
    split at hd
    · rename_i hc
      cases hd
      rw [rx.int, ry.int]
      refine .inl ⟨_, _, rfl, rfl, ?_, k _ G H (.refl s) (.int _)⟩
      unfold small64 at hc
      simpa [CMul] using hc
    · cases hd
  · rename_i xs n
    simp only [dMul] at hd
    split at hd
    · rename_i hc
      cases hd
      obtain ⟨a, vs, rfl, ha, ra, Ra⟩ := rx.tup s
      rw [ry.int]
      have el := ra.length
      refine .inr ⟨a, n, vs, rfl, rfl, ha, hc.1, hc.2.1, by omega, fun e => ?_, fun _ q hq => ?_⟩
      · refine k _ G H (.refl s) ?_
        rcases e with e | e
        · subst e
          cases ra
          have : (List.replicate n.toNat ([] : List D)).flatten = [] := by simp
          rw [this]
          exact Ra
        · subst e
          have : (List.replicate (1 : Int).toNat xs).flatten = xs := by simp
          rw [this]
          exact Ra
      · obtain ⟨g, r⟩ := Rep.newT s hq (ra.rep n.toNat)
        exact k _ _ _ g r
    · cases hd
/-- // and %, the divisor not 0 and below 2^30 -/
def dDiv : D → D → Option D
  | .int i, .int j => if j ≠ 0 ∧ j.natAbs < 1073741824 then some (.int (i.fdiv j)) else none
  | _, _ => none
def dMod : D → D → Option D
  | .int i, .int j => if j ≠ 0 then some (.int (i.fmod j)) else none
  | _, _ => none
theorem os_div {K : PySem.W.Frag} {mg : Str → Option Value} : OpS K mg (rI CDivN fun i j => .int (i.fdiv j)) dDiv :=
  os_I (h := fun i j => .int (i.fdiv j)) (fun x y d e => by
    cases x <;> cases y <;> try (cases e; done)
    simp only [dDiv] at e
    split at e
    · rename_i hc
      cases e
      exact ⟨_, _, rfl, rfl, hc, rfl⟩
    · cases e) fun _ _ _ _ => .int _
theorem os_mod {K : PySem.W.Frag} {mg : Str → Option Value} : OpS K mg (rI (fun _ j => j ≠ 0) fun i j => .int (i.fmod j)) dMod :=
  os_I (h := fun i j => .int (i.fmod j)) (fun x y d e => by
    cases x <;> cases y <;> try (cases e; done)
    simp only [dMod] at e
    split at e
    · rename_i hc
      cases e
      exact ⟨_, _, rfl, rfl, hc, rfl⟩
    · cases e) fun _ _ _ _ => .int _
/-! ### order of numbers -/
def dLt : D → D → Option D
  | .int i, .int j => some (.bl (decide (i < j)))
  | _, _ => none
def dLe : D → D → Option D
  | .int i, .int j => some (.bl (decide (i ≤ j)))
  | _, _ => none
def dGt : D → D → Option D
  | .int i, .int j => some (.bl (decide (j < i)))
  | _, _ => none
def dGe : D → D → Option D
  | .int i, .int j => some (.bl (decide (j ≤ i)))
  | _, _ => none
theorem os_lt {K : PySem.W.Frag} {mg : Str → Option Value} : OpS K mg (rI0 fun i j => .bl (decide (i < j))) dLt :=
  os_I0 (h := fun i j => .bl (decide (i < j))) (fun x y d e => by cases x <;> cases y <;> cases e; exact ⟨_, _, rfl, rfl, rfl⟩) fun _ _ _ _ => .bl _
theorem os_le {K : PySem.W.Frag} {mg : Str → Option Value} : OpS K mg (rI0 fun i j => .bl (decide (i ≤ j))) dLe :=
  os_I0 (h := fun i j => .bl (decide (i ≤ j))) (fun x y d e => by cases x <;> cases y <;> cases e; exact ⟨_, _, rfl, rfl, rfl⟩) fun _ _ _ _ => .bl _
theorem os_gt {K : PySem.W.Frag} {mg : Str → Option Value} : OpS K mg (rI0 fun i j => .bl (decide (j < i))) dGt :=
  os_I0 (h := fun i j => .bl (decide (j < i))) (fun x y d e => by cases x <;> cases y <;> cases e; exact ⟨_, _, rfl, rfl, rfl⟩) fun _ _ _ _ => .bl _
theorem os_ge {K : PySem.W.Frag} {mg : Str → Option Value} : OpS K mg (rI0 fun i j => .bl (decide (j ≤ i))) dGe :=
  os_I0 (h := fun i j => .bl (decide (j ≤ i))) (fun x y d e => by cases x <;> cases y <;> cases e; exact ⟨_, _, rfl, rfl, rfl⟩) fun _ _ _ _ => .bl _

/-! ### equality -/
mutual
def D.pd : D → PyData
  | .non => .none
  | .bl b => .bool b
  | .int i => .int i
  | .str x => .str x
  | .tup l => .tuple (D.pds l)
  | .lst l => .list (D.pds l)
  | .fn _ => .none
  | .drw => .none
  | .dK _ _ => .none
  | .dT _ _ => .none
  | .olst _ => .none
  | .odK _ _ => .none
  | .odT _ _ => .none
  | .ins _ _ _ => .none
  | .own _ => .none
def D.pds : List D → List PyData
  | [] => []
  | x :: l => D.pd x :: D.pds l
end
mutual
def D.dat : D → Bool
  | .tup l => D.dats l
  | .lst l => D.dats l
  | .non => true
  | .bl _ => true
  | .int _ => true
  | .str _ => true
  | _ => false
def D.dats : List D → Bool
  | [] => true
  | x :: l => D.dat x && D.dats l
end
mutual
theorem Rep.dp {p : Par} {G : Hp} : ∀ {v : V} {d : D}, Rep p G v d → d.dat = true → Dp p.K G v d.pd
  | _, _, .non, _ => .non
  | _, _, .bl b, _ => .bl b
  | _, _, .int i, _ => .int i
  | _, _, .str x, _ => .str x
  | _, _, .tup h r, e => .tup h (RepAll.dp r e)
  | _, _, .lst h r, e => .lst (.inl (.inl h)) (RepAll.dp r e)
  | _, _, .fn _, e => nomatch e
  | _, _, .drw, e => nomatch e
  | _, _, .dK _ _ _, e => nomatch e
  | _, _, .dT _ _ _, e => nomatch e
  | _, _, .ins _ _ _ _, e => nomatch e
theorem RepAll.dp {p : Par} {G : Hp} : ∀ {vs : List V} {ds : List D}, RepAll p G vs ds → D.dats ds = true → DpAll p.K G vs (D.pds ds)
  | _, _, .nil, _ => .nil
  | _, _, .cons h r, e => by
    have e' := Bool.and_eq_true_iff.mp e
    exact .cons (Rep.dp h e'.1) (RepAll.dp r e'.2)
end
mutual
theorem Dp.sub {K : PySem.W.Frag} {G H : Hp} (s : Sub G H) : ∀ {v : V} {d : PyData}, Dp K G v d → Dp K H v d
  | _, _, .non => .non
  | _, _, .bl b => .bl b
  | _, _, .int i => .int i
  | _, _, .str x => .str x
  | _, _, .lst h r => .lst (sub_l s h) (DpAll.sub s r)
  | _, _, .tup h r => .tup (sub_t s h) (DpAll.sub s r)
theorem DpAll.sub {K : PySem.W.Frag} {G H : Hp} (s : Sub G H) : ∀ {vs : List V} {ds : List PyData}, DpAll K G vs ds → DpAll K H vs ds
  | _, _, .nil => .nil
  | _, _, .cons h r => .cons (Dp.sub s h) (DpAll.sub s r)
end
theorem RepX.dp {p : Par} {G H : Hp} {v : V} {d : D} (r : RepX p G H v d) (s : Sub G H) (e : d.dat = true) : Dp p.K H v d.pd := by
  cases r with
  | rep r => exact Dp.sub s (r.dp e)
  | own n h r => exact .lst (.inl (.inl h)) (DpAll.sub s (r.dp e))
  | dK => cases e
  | dT => cases e
  | olst => cases e
  | odK => cases e
  | odT => cases e
  | ins => cases e
  | ow => cases e
def D.sh (d : D) : Bool := d.dat && SeqAt.shaped d.pd
def D.eqv (x y : D) : Bool := PyData.eqv x.pd y.pd
def dEq (x y : D) : Option D := if x.sh = true ∧ y.sh = true then some (.bl (x.eqv y)) else none
def dNe (x y : D) : Option D := if x.sh = true ∧ y.sh = true then some (.bl (!x.eqv y)) else none
theorem os_eq {K : PySem.W.Frag} {mg : Str → Option Value} : OpS K mg (rEqD K) dEq := by
  intro p G H v u x y d Q hK hmg s rx ry hd k
  subst hK
  simp only [dEq] at hd
  split at hd
  · rename_i hc
    cases hd
    obtain ⟨h1, h2⟩ := Bool.and_eq_true_iff.mp hc.1
    obtain ⟨h3, h4⟩ := Bool.and_eq_true_iff.mp hc.2
    exact ⟨x.pd, y.pd, rx.dp s h1, ry.dp s h3, h2, h4, k _ G H (.refl s) (.bl _)⟩
  · cases hd
theorem os_ne {K : PySem.W.Frag} {mg : Str → Option Value} : OpS K mg (rNeD K) dNe := by
  intro p G H v u x y d Q hK hmg s rx ry hd k
  subst hK
  simp only [dNe] at hd
  split at hd
  · rename_i hc
    cases hd
    obtain ⟨h1, h2⟩ := Bool.and_eq_true_iff.mp hc.1
    obtain ⟨h3, h4⟩ := Bool.and_eq_true_iff.mp hc.2
    exact ⟨x.pd, y.pd, rx.dp s h1, ry.dp s h3, h2, h4, k _ G H (.refl s) (.bl _)⟩
  · cases hd
/-! ### is -/
def D.isNon : D → Bool
  | .non => true
  | _ => false
def dIs : D → D → Option D
  | x, .non => some (.bl x.isNon)
  | .bl a, .bl b => some (.bl (decide (a = b)))
  | _, _ => none
def dIsNot : D → D → Option D
  | x, .non => some (.bl (!x.isNon))
  | .bl a, .bl b => some (.bl (!decide (a = b)))
  | _, _ => none
theorem RepX.isNon {p : Par} {G H : Hp} {v : V} {d : D} (r : RepX p G H v d) : decide (v = .non) = d.isNon := by
  cases r with
  | rep r => cases r <;> rfl
  | _ => rfl
theorem op_isA : OpR X (compareOp .Is) (fun x y H Q => (y = .non ∧ Q (.bl (decide (x = .non))) H) ∨ (∃ a b, x = .bl a ∧ y = .bl b ∧ Q (.bl (decide (a = b))) H)) := op_isN.or op_is_bl
theorem op_isNotA : OpR X (compareOp .IsNot) (fun x y H Q => (y = .non ∧ Q (.bl (!decide (x = .non))) H) ∨ (∃ a b, x = .bl a ∧ y = .bl b ∧ Q (.bl (!decide (a = b))) H)) := op_notN.or op_isnot_bl
theorem os_is {K : PySem.W.Frag} {mg : Str → Option Value} : OpS K mg (fun x y H Q => (y = .non ∧ Q (.bl (decide (x = .non))) H) ∨ (∃ a b, x = .bl a ∧ y = .bl b ∧ Q (.bl (decide (a = b))) H)) dIs := by
  intro p G H v u x y d Q hK hmg s rx ry hd k
  by_cases hy : y = .non
  · subst hy
    have e : some (D.bl x.isNon) = some d := by rw [← hd]; cases x <;> rfl
    cases e
    refine .inl ⟨ry.non, ?_⟩
    rw [rx.isNon]
    exact k _ G H (.refl s) (.bl _)
  · cases y <;> try (cases x <;> cases hd; done)
    · exact absurd rfl hy
    · rename_i b
      cases x <;> try (cases hd; done)
      rename_i a
      cases hd
      exact .inr ⟨a, b, rx.bl, ry.bl, k _ G H (.refl s) (.bl _)⟩
theorem os_isNot {K : PySem.W.Frag} {mg : Str → Option Value} : OpS K mg (fun x y H Q => (y = .non ∧ Q (.bl (!decide (x = .non))) H) ∨ (∃ a b, x = .bl a ∧ y = .bl b ∧ Q (.bl (!decide (a = b))) H)) dIsNot := by
  intro p G H v u x y d Q hK hmg s rx ry hd k
  by_cases hy : y = .non
  · subst hy
    have e : some (D.bl (!x.isNon)) = some d := by rw [← hd]; cases x <;> rfl
    cases e
    refine .inl ⟨ry.non, ?_⟩
    rw [rx.isNon]
    exact k _ G H (.refl s) (.bl _)
  · cases y <;> try (cases x <;> cases hd; done)
    · exact absurd rfl hy
    · rename_i b
      cases x <;> try (cases hd; done)
      rename_i a
      cases hd
      exact .inr ⟨a, b, rx.bl, ry.bl, k _ G H (.refl s) (.bl _)⟩
end
end Fc

/-! Fc, part C: expressions. -/
namespace Fc
open PySem PySem.Spec PyProof.Rows L2

section
variable {X : Cx} {O : List Nat} {al bl cl : Bool} {a b c e : Expr} {es : List Expr} {f g h : Env → M D} {fs : Env → M (List D)} {pos : Pos}

/-! ### the operators by name -/
theorem se_add (ha : SE X O al a f) (hb : SE X O bl b g) : SE X O false (.BinOp a .Add b pos) (eBin dAdd f g) := se_bin op_addA os_add ha hb
theorem se_sub (ha : SE X O al a f) (hb : SE X O bl b g) : SE X O false (.BinOp a .Sub b pos) (eBin dSub f g) := se_bin op_sub os_sub ha hb
theorem se_mul (ha : SE X O al a f) (hb : SE X O bl b g) : SE X O false (.BinOp a .Mult b pos) (eBin dMul f g) := se_bin op_mulA os_mul ha hb
theorem se_div (ha : SE X O al a f) (hb : SE X O bl b g) : SE X O false (.BinOp a .FloorDiv b pos) (eBin dDiv f g) := se_bin op_fdivN os_div ha hb
theorem se_mod (ha : SE X O al a f) (hb : SE X O bl b g) : SE X O false (.BinOp a .Mod b pos) (eBin dMod f g) := se_bin op_modN os_mod ha hb
theorem se_lt (ha : SE X O al a f) (hb : SE X O bl b g) : SE X O false (.Compare a [.Lt] [b] pos) (eBin dLt f g) := se_cmp op_lt os_lt ha hb
theorem se_le (ha : SE X O al a f) (hb : SE X O bl b g) : SE X O false (.Compare a [.LtE] [b] pos) (eBin dLe f g) := se_cmp op_le os_le ha hb
theorem se_gt (ha : SE X O al a f) (hb : SE X O bl b g) : SE X O false (.Compare a [.Gt] [b] pos) (eBin dGt f g) := se_cmp op_gt os_gt ha hb
theorem se_ge (ha : SE X O al a f) (hb : SE X O bl b g) : SE X O false (.Compare a [.GtE] [b] pos) (eBin dGe f g) := se_cmp op_ge os_ge ha hb
theorem se_eq (hu : X.A.units + 64 < cLine) (ha : SE X O al a f) (hb : SE X O bl b g) : SE X O false (.Compare a [.Eq] [b] pos) (eBin dEq f g) := se_cmp (op_eqD hu) os_eq ha hb
theorem se_ne (hu : X.A.units + 64 < cLine) (ha : SE X O al a f) (hb : SE X O bl b g) : SE X O false (.Compare a [.NotEq] [b] pos) (eBin dNe f g) := se_cmp (op_neD hu) os_ne ha hb
theorem se_is (ha : SE X O al a f) (hb : SE X O bl b g) : SE X O false (.Compare a [.Is] [b] pos) (eBin dIs f g) := se_cmp op_isA os_is ha hb
theorem se_isNot (ha : SE X O al a f) (hb : SE X O bl b g) : SE X O false (.Compare a [.IsNot] [b] pos) (eBin dIsNot f g) := se_cmp op_isNotA os_isNot ha hb
theorem st_lt (ha : SE X O al a f) (hb : SE X O bl b g) : ST X O (.Compare a [.Lt] [b] pos) (tB (eBin dLt f g)) := st_cmp op_lt os_lt ha hb
theorem st_le (ha : SE X O al a f) (hb : SE X O bl b g) : ST X O (.Compare a [.LtE] [b] pos) (tB (eBin dLe f g)) := st_cmp op_le os_le ha hb
theorem st_gt (ha : SE X O al a f) (hb : SE X O bl b g) : ST X O (.Compare a [.Gt] [b] pos) (tB (eBin dGt f g)) := st_cmp op_gt os_gt ha hb
theorem st_ge (ha : SE X O al a f) (hb : SE X O bl b g) : ST X O (.Compare a [.GtE] [b] pos) (tB (eBin dGe f g)) := st_cmp op_ge os_ge ha hb
theorem st_eq (hu : X.A.units + 64 < cLine) (ha : SE X O al a f) (hb : SE X O bl b g) : ST X O (.Compare a [.Eq] [b] pos) (tB (eBin dEq f g)) := st_cmp (op_eqD hu) os_eq ha hb
theorem st_ne (hu : X.A.units + 64 < cLine) (ha : SE X O al a f) (hb : SE X O bl b g) : ST X O (.Compare a [.NotEq] [b] pos) (tB (eBin dNe f g)) := st_cmp (op_neD hu) os_ne ha hb
theorem st_is (ha : SE X O al a f) (hb : SE X O bl b g) : ST X O (.Compare a [.Is] [b] pos) (tB (eBin dIs f g)) := st_cmp op_isA os_is ha hb
theorem st_isNot (ha : SE X O al a f) (hb : SE X O bl b g) : ST X O (.Compare a [.IsNot] [b] pos) (tB (eBin dIsNot f g)) := st_cmp op_isNotA os_isNot ha hb

/-! ### two comparisons in a row -/
def asBl : D → Option Bool := asB
def eChain (o1 o2 : D → D → Option D) (f g h : Env → M D) : Env → M D := fun δ => do
  let x ← f δ
  let y ← g δ
  let z ← liftO (o1 x y)
  let k ← liftO (asB z)
  if k = true then do
    let u ← h δ
    liftO (o2 y u)
  else pure (.bl false)
theorem tOf_chain {r1 r2 : R2} {o1 o2 : D → D → Option D} {K : PySem.W.Frag} {mg : Str → Option Value} (h1 : OpS K mg r1 o1) (h2 : OpS K mg r2 o2) {σ : L2.St} {H : Hp} {Q : VK} (q : tOf K mg O false (eChain o1 o2 f g h) σ H Q) :
    tChain r1 r2 (tOf K mg O al f) (tOf K mg O bl g) (tOf K mg O cl h) σ H Q := by
  obtain ⟨dr, B, G0, ad, δ, G, w, d, w', S, hf, k⟩ := q
  obtain ⟨x, w1, e1, hf⟩ := bind_some hf
  obtain ⟨y, w2, e2, hf⟩ := bind_some hf
  obtain ⟨z, w3, e3, hf⟩ := bind_some hf
  obtain ⟨b, w4, e4, hf5⟩ := bind_some hf
  obtain ⟨h3, rfl⟩ := liftO_some e3
  obtain ⟨h4, rfl⟩ := liftO_some e4
  refine ⟨dr, B, G0, ad, δ, G, w, x, w1, S, e1, fun v G1 H1 g1 S1 r1 => ⟨dr, B, G0, ad, δ, G1, w1, y, _, S1, e2, fun u G2 H2 g2 S2 r2 => ?_⟩⟩
  refine h1 _ G2 H2 v u x y z _ rfl rfl S2.sub (r1.grow g2).x r2.x h3 fun zv G3 H3 gr rz => ?_
  cases z <;> try (cases h4; done)
  cases h4
  cases rz
  refine ⟨b, rfl, ?_⟩
  have S3 := S2.gr gr
  cases b with
  | false =>
    rw [if_neg Bool.false_ne_true] at hf5 ⊢
    obtain ⟨rfl, rfl⟩ := pure_some hf5
    exact k _ G3 H3 ((g1.trans g2).trans gr.grow) S3 (.bl false)
  | true =>
    rw [if_pos rfl] at hf5 ⊢
    obtain ⟨u', w5, e5, hf6⟩ := bind_some hf5
    obtain ⟨e6, rfl⟩ := liftO_some hf6
    refine ⟨dr, B, G0, ad, δ, G3, _, u', _, S3, e5, fun u2 G4 H4 g4 S4 r4 => ?_⟩
    exact h2 _ G4 H4 u u2 y u' d Q rfl rfl S4.sub ((r2.grow gr.grow).grow g4).x r4.x e6 fun zv G5 H5 gr5 rz5 => k zv G5 H5 ((((g1.trans g2).trans gr.grow).trans g4).trans gr5.grow) (S4.gr gr5) rz5
theorem se_chain {p p' : CmpOp} {r1 r2 : R2} {o1 o2 : D → D → Option D} (c1 : OpR X (compareOp p) r1) (c2 : OpR X (compareOp p') r2) (h1 : OpS X.K X.mg r1 o1) (h2 : OpS X.K X.mg r2 o2) (ha : SE X O al a f) (hb : SE X O bl b g) (hc : SE X O cl c h)
    (hm : lastMarks [p, p'] [b, c] = false := by with_unfolding_all rfl) : SE X O false (.Compare a [p, p'] [b, c] pos) (eChain o1 o2 f g h) :=
  PE.weak (pe_chain c1 c2 ha hb hc hm) fun _ _ _ q => tOf_chain h1 h2 q
theorem st_chain {p p' : CmpOp} {r1 r2 : R2} {o1 o2 : D → D → Option D} (c1 : OpR X (compareOp p) r1) (c2 : OpR X (compareOp p') r2) (h1 : OpS X.K X.mg r1 o1) (h2 : OpS X.K X.mg r2 o2) (ha : SE X O al a f) (hb : SE X O bl b g) (hc : SE X O cl c h)
    (hm : lastMarks [p, p'] [b, c] = false := by with_unfolding_all rfl) : ST X O (.Compare a [p, p'] [b, c] pos) (tB (eChain o1 o2 f g h)) :=
  PT.weak (pt_chain c1 c2 ha hb hc hm) fun σ H Q q => by
    obtain ⟨dr, B, G0, ad, δ, G, w, d, w', S, hf, k⟩ := ttOf_B q
    exact tOf_chain (al := al) (bl := bl) (cl := cl) h1 h2 ⟨dr, B, G0, ad, δ, G, w, d, w', S, hf, k⟩

/-! ### - -/
def eUn (op : D → Option D) (f : Env → M D) : Env → M D := fun δ => do
  let x ← f δ
  liftO (op x)
theorem eUn_some {op : D → Option D} {δ : Env} {w w' : Dw} {d : D} (q : eUn op f δ w = some (d, w')) : ∃ x, f δ w = some (x, w') ∧ op x = some d := by
  obtain ⟨x, w1, h1, q⟩ := bind_some q
  obtain ⟨h3, e⟩ := liftO_some q
  subst e
  exact ⟨x, h1, h3⟩
def dNeg : D → Option D
  | .int i => some (.int (-i))
  | _ => none
theorem se_neg (ha : SE X O al a f) : SE X O false (.UnaryOp .USub a pos) (eUn dNeg f) :=
  PE.weak (pe_un un_neg ha) fun σ H Q ⟨dr, B, G0, ad, δ, G, w, d, w', S, hf, k⟩ => by
    obtain ⟨x, h1, h2⟩ := eUn_some hf
    refine ⟨dr, B, G0, ad, δ, G, w, x, w', S, h1, fun v G1 H1 g1 S1 r1 => ?_⟩
    cases x <;> try (cases h2; done)
    cases h2
    rw [r1.x.int]
    exact ⟨_, rfl, k _ G1 H1 g1 S1 (.int _)⟩

/-! ### truth: and, or, not -/
def tAndF (s t : Env → M Bool) : Env → M Bool := fun δ => do
  let x ← s δ
  if x = true then t δ else pure false
def tOrF (s t : Env → M Bool) : Env → M Bool := fun δ => do
  let x ← s δ
  if x = true then pure true else t δ
def tNotF (s : Env → M Bool) : Env → M Bool := fun δ => do
  let x ← s δ
  pure (!x)
variable {s t : Env → M Bool} {rest : List Expr}
theorem sw_and1 (ha : ST X O a s) : SW X O (.BoolOp .And [a] pos) s := pw_and1 ha
theorem sw_or1 (ha : ST X O a s) : SW X O (.BoolOp .Or [a] pos) s := pw_or1 ha
theorem sw_and (ha : ST X O a s) (hb : SW X O (.BoolOp .And (b :: rest) pos) t) : SW X O (.BoolOp .And (a :: b :: rest) pos) (tAndF s t) :=
  PW.weak (pw_and ha hb) fun σ H Q ⟨dr, B, G0, ad, δ, G, w, d, w', S, hf, k⟩ => by
    obtain ⟨x, w1, h1, hf⟩ := bind_some hf
    refine ⟨dr, B, G0, ad, δ, G, w, x, w1, S, h1, fun G1 H1 g1 S1 => ?_⟩
    cases x with
    | true =>
      rw [if_pos rfl] at hf ⊢
      exact ⟨dr, B, G0, ad, δ, G1, w1, d, w', S1, hf, fun G2 H2 g2 S2 => k G2 H2 (g1.trans g2) S2⟩
    | false =>
      rw [if_neg Bool.false_ne_true] at hf ⊢
      obtain ⟨rfl, rfl⟩ := pure_some hf
      exact k G1 H1 g1 S1
theorem sw_or (ha : ST X O a s) (hb : SW X O (.BoolOp .Or (b :: rest) pos) t) : SW X O (.BoolOp .Or (a :: b :: rest) pos) (tOrF s t) :=
  PW.weak (pw_or ha hb) fun σ H Q ⟨dr, B, G0, ad, δ, G, w, d, w', S, hf, k⟩ => by
    obtain ⟨x, w1, h1, hf⟩ := bind_some hf
    refine ⟨dr, B, G0, ad, δ, G, w, x, w1, S, h1, fun G1 H1 g1 S1 => ?_⟩
    cases x with
    | false =>
      rw [if_neg Bool.false_ne_true] at hf ⊢
      exact ⟨dr, B, G0, ad, δ, G1, w1, d, w', S1, hf, fun G2 H2 g2 S2 => k G2 H2 (g1.trans g2) S2⟩
    | true =>
      rw [if_pos rfl] at hf ⊢
      obtain ⟨rfl, rfl⟩ := pure_some hf
      exact k G1 H1 g1 S1
theorem st_w (h : SW X O a s) : ST X O a s := PW.pt h
theorem st_not (ha : ST X O a s) : ST X O (.UnaryOp .Not a pos) (tNotF s) :=
  PT.weak (pt_not ha) fun σ H Q ⟨dr, B, G0, ad, δ, G, w, d, w', S, hf, k⟩ => by
    obtain ⟨x, w1, h1, hf⟩ := bind_some hf
    obtain ⟨e, rfl⟩ := pure_some hf
    subst e
    exact ⟨dr, B, G0, ad, δ, G, w, x, w1, S, h1, k⟩
/-- .. as values: all of them True or False -/
def eAndV (f g : Env → M D) : Env → M D := fun δ => do
  let x ← f δ
  let k ← liftO (asB x)
  if k = true then g δ else pure (.bl false)
def eOrV (f g : Env → M D) : Env → M D := fun δ => do
  let x ← f δ
  let k ← liftO (asB x)
  if k = true then pure (.bl true) else g δ
def dNot : D → Option D
  | .bl b => some (.bl (!b))
  | _ => none
theorem se_one {op} (ha : SE X O al a f) : SE X O al (.BoolOp op [a] pos) f := pe_one ha
theorem se_and (ha : SE X O false a f) (hb : SE X O al (.BoolOp .And (b :: rest) pos) g) : SE X O al (.BoolOp .And (a :: b :: rest) pos) (eAndV f g) :=
  PE.weak (pe_and ha hb) fun σ H Q ⟨dr, B, G0, ad, δ, G, w, d, w', S, hf, k⟩ => by
    obtain ⟨x, w1, h1, hf⟩ := bind_some hf
    obtain ⟨b, w2, h20, hf2⟩ := bind_some hf
    obtain ⟨h2, rfl⟩ := liftO_some h20
    refine ⟨dr, B, G0, ad, δ, G, w, x, w1, S, h1, fun v G1 H1 g1 S1 r1 => ?_⟩
    cases x <;> try (cases h2; done)
    cases h2
    cases (show Rep _ G1 v (.bl b) from r1)
    refine ⟨b, rfl, ?_⟩
    cases b with
    | true =>
      rw [if_pos rfl] at hf2 ⊢
      exact ⟨dr, B, G0, ad, δ, G1, w1, d, w', S1, hf2, fun v2 G2 H2 g2 S2 r2 => k v2 G2 H2 (g1.trans g2) S2 r2⟩
    | false =>
      rw [if_neg Bool.false_ne_true] at hf2 ⊢
      obtain ⟨rfl, rfl⟩ := pure_some hf2
      refine k _ G1 H1 g1 S1 ?_
      cases al with
      | true => exact RepX.rep (.bl false)
      | false => exact Rep.bl false
theorem se_or (ha : SE X O false a f) (hb : SE X O al (.BoolOp .Or (b :: rest) pos) g) : SE X O al (.BoolOp .Or (a :: b :: rest) pos) (eOrV f g) :=
  PE.weak (pe_or ha hb) fun σ H Q ⟨dr, B, G0, ad, δ, G, w, d, w', S, hf, k⟩ => by
    obtain ⟨x, w1, h1, hf⟩ := bind_some hf
    obtain ⟨b, w2, h20, hf2⟩ := bind_some hf
    obtain ⟨h2, rfl⟩ := liftO_some h20
    refine ⟨dr, B, G0, ad, δ, G, w, x, w1, S, h1, fun v G1 H1 g1 S1 r1 => ?_⟩
    cases x <;> try (cases h2; done)
    cases h2
    cases (show Rep _ G1 v (.bl b) from r1)
    refine ⟨b, rfl, ?_⟩
    cases b with
    | false =>
      rw [if_neg Bool.false_ne_true] at hf2 ⊢
      exact ⟨dr, B, G0, ad, δ, G1, w1, d, w', S1, hf2, fun v2 G2 H2 g2 S2 r2 => k v2 G2 H2 (g1.trans g2) S2 r2⟩
    | true =>
      rw [if_pos rfl] at hf2 ⊢
      obtain ⟨rfl, rfl⟩ := pure_some hf2
      refine k _ G1 H1 g1 S1 ?_
      cases al with
      | true => exact RepX.rep (.bl true)
      | false => exact Rep.bl true
theorem se_not (ha : SE X O false a f) : SE X O false (.UnaryOp .Not a pos) (eUn dNot f) :=
  PE.weak (pe_not ha) fun σ H Q ⟨dr, B, G0, ad, δ, G, w, d, w', S, hf, k⟩ => by
    obtain ⟨x, h1, h2⟩ := eUn_some hf
    refine ⟨dr, B, G0, ad, δ, G, w, x, w', S, h1, fun v G1 H1 g1 S1 r1 => ?_⟩
    cases x <;> try (cases h2; done)
    cases h2
    cases (show Rep _ G1 v (.bl _) from r1)
    exact ⟨_, rfl, k _ G1 H1 g1 S1 (.bl _)⟩
def eIf (s : Env → M Bool) (f g : Env → M D) : Env → M D := fun δ => do
  let x ← s δ
  if x = true then f δ else g δ
theorem se_if (hc : ST X O c s) (ha : SE X O al a f) (hb : SE X O al b g) : SE X O al (.IfExp c a b pos) (eIf s f g) :=
  PE.weak (pe_ifExp hc ha hb) fun σ H Q ⟨dr, B, G0, ad, δ, G, w, d, w', S, hf, k⟩ => by
    obtain ⟨x, w1, h1, hf⟩ := bind_some hf
    refine ⟨dr, B, G0, ad, δ, G, w, x, w1, S, h1, fun G1 H1 g1 S1 => ?_⟩
    cases x with
    | true =>
      rw [if_pos rfl] at hf ⊢
      exact ⟨dr, B, G0, ad, δ, G1, w1, d, w', S1, hf, fun v2 G2 H2 g2 S2 r2 => k v2 G2 H2 (g1.trans g2) S2 r2⟩
    | false =>
      rw [if_neg Bool.false_ne_true] at hf ⊢
      exact ⟨dr, B, G0, ad, δ, G1, w1, d, w', S1, hf, fun v2 G2 H2 g2 S2 r2 => k v2 G2 H2 (g1.trans g2) S2 r2⟩
/-- the truth of any data -/
def dTru : D → Option Bool
  | .non => some false
  | .bl b => some b
  | .int i => some (i != 0)
  | .str x => if x.length ≤ LIM then some ((x.length : Int) != 0) else none
  | .tup l => some (!l.isEmpty)
  | .lst l => some (!l.isEmpty)
  | _ => none
def tT (f : Env → M D) : Env → M Bool := fun δ => do
  let x ← f δ
  liftO (dTru x)
theorem RepAll.isEmpty {p : Par} {G : Hp} {vs : List V} {ds : List D} (r : RepAll p G vs ds) : vs.isEmpty = ds.isEmpty := by
  cases r <;> rfl
theorem RepX.tru {p : Par} {G H : Hp} {v : V} {d : D} {k : Bool} (r : RepX p G H v d) (s : Sub G H) (h : dTru d = some k) : TruV p.K v H k := by
  cases d <;> try (cases h; done)
  · cases h
    rw [r.non]
    exact rfl
  · cases h
    rw [r.bl]
    exact rfl
  · cases h
    rw [r.int]
    exact rfl
  · rename_i x
    simp only [dTru] at h
    split at h
    · rename_i hl
      cases h
      rw [r.str]
      exact ⟨lim_ok hl, rfl⟩
    · cases h
  · cases h
    obtain ⟨a, vs, rfl, ha, ra, _⟩ := r.tup s
    exact .inr (.inl ⟨vs, ha, by rw [ra.isEmpty]⟩)
  · cases h
    obtain ⟨a, vs, rfl, ha, ra⟩ := r.lst s
    exact .inl ⟨vs, SqL.of ha, by rw [ra.isEmpty]⟩
theorem st_truth (ha : SE X O al a f) (he : ∀ whole, isTrue a X.env whole = (do let v ← whole; standAt a.pos; holding [v] (truthy v)) := by intro _; rfl) : ST X O a (tT f) :=
  PT.weak (pt_truth ha he) fun σ H Q ⟨dr, B, G0, ad, δ, G, w, d, w', S, hf, k⟩ => by
    obtain ⟨x, w1, h1, hf⟩ := bind_some hf
    obtain ⟨h2, rfl⟩ := liftO_some hf
    exact ⟨dr, B, G0, ad, δ, G, w, x, w1, S, h1, fun v G1 H1 g1 S1 r1 => ⟨d, r1.x.tru S1.sub h2, k G1 H1 g1 S1⟩⟩

/-! ### argument lists, tuples, lists -/
def aNil : Env → M (List D) := fun _ => pure []
def aCons (f : Env → M D) (fs : Env → M (List D)) : Env → M (List D) := fun δ => do
  let x ← f δ
  let xs ← fs δ
  pure (x :: xs)
theorem sa_nil : SA X O al [] aNil := PA.weak pa_nil fun σ H Q ⟨dr, B, G0, ad, δ, G, w, d, w', S, hf, k⟩ => by
  obtain ⟨rfl, rfl⟩ := pure_some hf
  exact k [] G H (.refl _ G H) S .nil
theorem sa_cons (ha : SE X O al e f) (hr : SA X O al es fs) (hs : starEach (e :: es) X.env = (false, eval e X.env) :: starEach es X.env := by rfl) : SA X O al (e :: es) (aCons f fs) :=
  PA.weak (pa_cons ha hr hs) fun σ H Q ⟨dr, B, G0, ad, δ, G, w, d, w', S, hf, k⟩ => by
    obtain ⟨x, w1, h1, hf⟩ := bind_some hf
    obtain ⟨xs, w2, h2, hf⟩ := bind_some hf
    obtain ⟨e, rfl⟩ := pure_some hf
    subst e
    refine ⟨dr, B, G0, ad, δ, G, w, x, w1, S, h1, fun v G1 H1 g1 S1 r1 => ⟨dr, B, G0, ad, δ, G1, w1, xs, w2, S1, h2, fun vs G2 H2 g2 S2 r2 => ?_⟩⟩
    exact k (v :: vs) G2 H2 (g1.trans g2) S2 (.cons (r1.grow g2) r2)
theorem sa_consA (ha : SE X O al e f) (hr : SA X O true es fs) (hs : starEach (e :: es) X.env = (false, eval e X.env) :: starEach es X.env := by rfl) : SA X O true (e :: es) (aCons f fs) := sa_cons ha.any hr hs
def eTup (fs : Env → M (List D)) : Env → M D := fun δ => do
  let xs ← fs δ
  if xs.length ≤ LIM then pure (.tup xs) else fail
def eLst (fs : Env → M (List D)) : Env → M D := fun δ => do
  let xs ← fs δ
  if xs.length ≤ LIM then pure (.lst xs) else fail
theorem se_tup {x1} (h : SA X O false es fs) : SE X O false (.Tuple es x1 pos) (eTup fs) :=
  PE.weak (pe_tup h) fun σ H Q ⟨dr, B, G0, ad, δ, G, w, d, w', S, hf, k⟩ => by
    obtain ⟨xs, w1, h1, hf⟩ := bind_some hf
    refine ⟨dr, B, G0, ad, δ, G, w, xs, w1, S, h1, fun vs G1 H1 g1 S1 r1 => ?_⟩
    split at hf
    · rename_i hl
      obtain ⟨rfl, rfl⟩ := pure_some hf
      refine ⟨by rw [r1.length]; exact lim_ok hl, fun p hp => ?_⟩
      obtain ⟨gr, r⟩ := Rep.newT (p := ⟨X.K, X.mg, dr, O, B, G0, ad⟩) S1.sub hp r1.all
      exact k _ _ _ (g1.trans gr.grow) (S1.gr gr) r
    · cases hf
theorem sf_lst (h : SA X O false es fs) : SF X O (.List es pos) (eLst fs) :=
  PE.weak (pe_lst h) fun σ H Q ⟨dr, B, G0, ad, δ, G, w, d, w', S, hf, k⟩ => by
    obtain ⟨xs, w1, h1, hf⟩ := bind_some hf
    refine ⟨dr, B, G0, ad, δ, G, w, xs, w1, S, h1, fun vs G1 H1 g1 S1 r1 => ?_⟩
    split at hf
    · rename_i hl
      obtain ⟨rfl, rfl⟩ := pure_some hf
      refine ⟨by rw [r1.length]; exact lim_ok hl, fun p hp => ?_⟩
      have gr : Gr G1 H1 G1 (upd H1 p (.lst vs)) := Gr.laid S1.sub hp
      have ne : p ≠ dr := fun z => by
        obtain ⟨o, q⟩ := S1.drS
        rw [show (Par.dr ⟨X.K, X.mg, dr, O, B, G0, ad⟩) = p from z.symm] at q
        rw [hp] at q
        cases q
      have hn : H p = none := by
        cases q : H p with
        | none => rfl
        | some o => rw [g1.h p o ne q] at hp; cases hp
      exact k p vs xs G1 _ rfl (g1.trans gr.grow) (S1.gr gr) hn upd_same (sub_none S1.sub hp) ne r1.all
    · cases hf
/-- a new list, from now on as it is -/
theorem se_new (h : SF X O e f) : SE X O false e f :=
  PE.weak h fun σ H Q ⟨dr, B, G0, ad, δ, G, w, d, w', S, hf, k⟩ => by
    refine ⟨dr, B, G0, ad, δ, G, w, d, w', S, hf, fun a vs ds G1 H1 ed g1 S1 h0 h1 h2 hne r => ?_⟩
    subst ed
    have sb : Sub (upd G1 a (.lst vs)) H1 := fun b o q => by
      by_cases hb : b = a
      · subst hb
        rw [upd_same] at q
        cases q
        exact h1
      · rw [upd_ne hb] at q
        exact S1.sub b o q
    have sg : Sub G1 (upd G1 a (.lst vs)) := fun b o q => by
      rw [upd_ne (ne_of_none q h2)]
      exact q
    have hB : B a = none := by
      cases q : B a with
      | none => rfl
      | some o => rw [S.bas a o hne q] at h0; cases h0
    have sk : ∀ b o, H b = some o → G b = none → (upd G1 a (HO.lst vs)) b = none := fun b o q1 q2 => by
      have hb : b ≠ a := fun z => by rw [z, h0] at q1; cases q1
      rw [upd_ne hb]
      exact g1.k b o q1 q2
    exact k _ (upd G1 a (.lst vs)) H1 ⟨g1.g.trans sg, g1.h, g1.hd, sk⟩ (S1.solid ((S.away h0).grow S.bd' g1) h1 h2 hB) (.lst upd_same (r.mono sg))
theorem eLst_lst {δ : Env} {w w' : Dw} {d : D} (h : eLst fs δ w = some (d, w')) : ∃ ds, d = .lst ds := by
  obtain ⟨xs, w1, h1, hf⟩ := bind_some h
  split at hf
  · obtain ⟨rfl, rfl⟩ := pure_some hf
    exact ⟨_, rfl⟩
  · cases hf
theorem se_lst (h : SA X O false es fs) : SE X O false (.List es pos) (eLst fs) := se_new (sf_lst h)

/-! ### built-in functions by values -/
def CallS (K : PySem.W.Frag) (mg : Str → Option Value) (r : List V → Hp → VK → Prop) (op : List D → Option D) : Prop :=
  ∀ (p : Par) (G H : Hp) (vs : List V) (ds : List D) (d : D) (Q : VK), p.K = K → p.mg = mg → Sub G H → RepAs p true G H vs ds → op ds = some d → (∀ z G' H', Gr G H G' H' → Rep p G' z d → Q z H') → r vs H Q
def eCall (op : List D → Option D) (fs : Env → M (List D)) : Env → M D := fun δ => do
  let xs ← fs δ
  liftO (op xs)
theorem tOf_call {K : PySem.W.Frag} {mg : Str → Option Value} {r : List V → Hp → VK → Prop} {op : List D → Option D} (hs : CallS K mg r op) {σ : L2.St} {H : Hp} {Q : VK} (q : tOf K mg O false (eCall op fs) σ H Q) : tCB r (taOf K mg O true fs) σ H Q := by
  obtain ⟨dr, B, G0, ad, δ, G, w, d, w', S, hf, k⟩ := q
  obtain ⟨xs, w1, h1, hf⟩ := bind_some hf
  obtain ⟨h2, rfl⟩ := liftO_some hf
  refine ⟨dr, B, G0, ad, δ, G, w, xs, w1, S, h1, fun vs G1 H1 g1 S1 r1 => ?_⟩
  exact hs _ G1 H1 vs xs d Q rfl rfl S1.sub r1 h2 fun z G' H' gr rz => k z G' H' (g1.trans gr.grow) (S1.gr gr) rz
variable {x : Str} {p : Pos} {r : List V → Hp → VK → Prop} {op : List D → Option D} {id T : String}
theorem se_callB (hc : CallR X (.builtin id) r) (hs : CallS X.K X.mg r op) (hg : Gl X x) (hm : X.mg x = none) (hv : bootBuiltins x = some (.builtin id)) (ha : SA X O true (e :: es) fs) (hn : x ≠ "__name__" := by decide) (hdb : (x == ("__debug__" : Str)) = false := by decide)
    (he : starEach (e :: es) X.env = (false, eval e X.env) :: starEach es X.env := by rfl) (hpl : (backTo pos (starEach es X.env)).any (·.1) = false := by rfl) : SE X O false (.Call (.Name x p) (e :: es) [] pos) (eCall op fs) :=
  PE.weak (pe_callB hc hg hm hv ha hn hdb he hpl) fun _ _ _ q => tOf_call hs q
theorem se_callTy (hc : CallR X (.type T) r) (hs : CallS X.K X.mg r op) (hg : Gl X x) (hm : X.mg x = none) (hv : bootBuiltins x = some (.type T)) (ha : SA X O true (e :: es) fs) (hn : x ≠ "__name__" := by decide) (hdb : (x == ("__debug__" : Str)) = false := by decide)
    (he : starEach (e :: es) X.env = (false, eval e X.env) :: starEach es X.env := by rfl) (hpl : (backTo pos (starEach es X.env)).any (·.1) = false := by rfl) : SE X O false (.Call (.Name x p) (e :: es) [] pos) (eCall op fs) :=
  PE.weak (pe_callTy hc hg hm hv ha hn hdb he hpl) fun _ _ _ q => tOf_call hs q
theorem se_callF (hc : CallR X (.builtin id) r) (hs : CallS X.K X.mg r op) (hg : Gl X x) (hm : X.mg x = some (.builtin id)) (ha : SA X O true (e :: es) fs) (hdb : (x == ("__debug__" : Str)) = false := by decide)
    (he : starEach (e :: es) X.env = (false, eval e X.env) :: starEach es X.env := by rfl) (hpl : (backTo pos (starEach es X.env)).any (·.1) = false := by rfl) : SE X O false (.Call (.Name x p) (e :: es) [] pos) (eCall op fs) :=
  PE.weak (pe_callBfun hc hg hm ha hdb he hpl) fun _ _ _ q => tOf_call hs q
end
end Fc

/-! Fc, part D: places, slices, built-ins, isinstance. -/
namespace Fc
open PySem PySem.Spec PyProof.Rows L2

section
variable {p : Par} {G H : Hp}
theorem RepAll.at {vs : List V} {ds : List D} {i : Int} {d : D} (r : RepAll p G vs ds) (h : atI ds i = some d) : ∃ v, atI vs i = some v ∧ Rep p G v d := by
  unfold atI at h ⊢
  rw [r.length]
  cases q : ixN ds.length i with
  | none => rw [q] at h; cases h
  | some j =>
    rw [q] at h
    exact r.get h
end
section
variable {X : Cx} {O : List Nat} {al bl cl : Bool} {a b c e : Expr} {es : List Expr} {f g h : Env → M D} {fs : Env → M (List D)} {pos : Pos}

def dIx : D → D → Option D
  | .tup l, .int i => atI l i
  | .lst l, .int i => atI l i
  | .str z, .int i => if z.length ≤ LIM then (atI z.cps.toList i).map fun c => .str ⟨#[c]⟩ else none
  | _, _ => none
theorem os_ix {K : PySem.W.Frag} {mg : Str → Option Value} : OpS K mg (rIx K) dIx := by
  intro p G H v u x y d Q hK hmg s rx ry hd k
  subst hK
  cases x <;> cases y <;> try (cases hd; done)
  · rename_i z i
    simp only [dIx] at hd
    split at hd
    · rename_i hl
      cases q : atI z.cps.toList i with
      | none => rw [q] at hd; cases hd
      | some ch =>
        rw [q] at hd
        cases hd
        rw [rx.str, ry.int]
        exact .inr (.inr ⟨z, i, ch, rfl, rfl, lim_ok hl, q, k _ G H (.refl s) (.str _)⟩)
    · cases hd
  · obtain ⟨a, vs, rfl, ha, ra, _⟩ := rx.tup s
    obtain ⟨w, e, rw'⟩ := ra.at hd
    rw [ry.int]
    exact .inr (.inl ⟨a, vs, _, w, rfl, rfl, ha, e, k _ G H (.refl s) rw'⟩)
  · obtain ⟨a, vs, rfl, ha, ra⟩ := rx.lst s
    obtain ⟨w, e, rw'⟩ := ra.at hd
    rw [ry.int]
    exact .inl ⟨a, vs, _, w, rfl, rfl, SqL.of ha, e, k _ G H (.refl s) rw'⟩
theorem se_ix (ha : SE X O al a f) (hb : SE X O bl b g) (hs : PlainIx b := by exact fun _ _ => rfl) : SE X O false (.Subscript a b pos) (eBin dIx f g) :=
  PE.weak (pe_ix ix_seq ha hb hs) fun _ _ _ q => tOf_bin os_ix q

/-! ### slices -/
def toOf (K : PySem.W.Frag) (mg : Str → Option Value) (O : List Nat) (f : Env → M (Option Int)) : TO := fun σ H Q =>
  ∃ (dr : Addr) (B G0 : Hp) (ad : Nat → Addr) (δ : Env) (G : Hp) (w : Dw) (d : Option Int) (w' : Dw), SR ⟨K, mg, dr, O, B, G0, ad⟩ δ σ G H w ∧ f δ w = some (d, w') ∧
    ∀ G' H', Grow ⟨K, mg, dr, O, B, G0, ad⟩ G H G' H' → SR ⟨K, mg, dr, O, B, G0, ad⟩ δ σ G' H' w' → Q d H'
def SO (X : Cx) (O : List Nat) (e : Option Expr) (f : Env → M (Option Int)) : Prop := PO X e (toOf X.K X.mg O f)
theorem PO.weak {X : Cx} {e : Option Expr} {t t' : TO} (h : PO X e t) (k : ∀ σ H Q, t' σ H Q → t σ H Q) : PO X e t' := ⟨fun pins s σ H Q I q => h.run pins s σ H Q I (k σ H Q q)⟩
def oNone : Env → M (Option Int) := fun _ => pure none
def asI : D → Option Int
  | .int i => some i
  | _ => none
def oSome (f : Env → M D) : Env → M (Option Int) := fun δ => do
  let x ← f δ
  let i ← liftO (asI x)
  pure (some i)
theorem so_none : SO X O none oNone := PO.weak po_none fun σ H Q ⟨dr, B, G0, ad, δ, G, w, d, w', S, hf, k⟩ => by
  obtain ⟨rfl, rfl⟩ := pure_some hf
  exact k G H (.refl _ G H) S
theorem so_some (ha : SE X O al a f) : SO X O (some a) (oSome f) := PO.weak (po_some ha) fun σ H Q ⟨dr, B, G0, ad, δ, G, w, d, w', S, hf, k⟩ => by
  obtain ⟨x, w1, h1, hf1⟩ := bind_some hf
  obtain ⟨i, w2, h2, hf2⟩ := bind_some hf1
  obtain ⟨h3, rfl⟩ := liftO_some h2
  obtain ⟨e, rfl⟩ := pure_some hf2
  subst e
  refine ⟨dr, B, G0, ad, δ, G, w, x, _, S, h1, fun v G1 H1 g1 S1 r1 => ?_⟩
  cases x <;> try (cases h3; done)
  cases h3
  exact ⟨i, r1.x.int, k G1 H1 g1 S1⟩
def cutD {α : Type} (xs : List α) (lo hi : Option Int) : List α := (xs.drop (HT.sIx xs.length 0 lo)).take (HT.sIx xs.length xs.length hi - HT.sIx xs.length 0 lo)
theorem RepAll.cut {p : Par} {G : Hp} {vs : List V} {ds : List D} (r : RepAll p G vs ds) (lo hi : Option Int) : RepAll p G (cutV vs lo hi) (cutD ds lo hi) := by
  unfold cutV cutD
  rw [r.length]
  exact (r.drop _).take _
def dSl (lo hi : Option Int) : D → Option D
  | .tup l => some (.tup (cutD l lo hi))
  | .lst l => some (.lst (cutD l lo hi))
  | .str z => if z.length ≤ LIM then some (.str (cutS z lo hi)) else none
  | _ => none
def eSl (f : Env → M D) (lo hi : Env → M (Option Int)) : Env → M D := fun δ => do
  let x ← f δ
  let l ← lo δ
  let u ← hi δ
  liftO (dSl l u x)
theorem cut_whole {α : Type} (xs : List α) (lo hi : Option Int) (h : HT.sIx xs.length 0 lo = 0 ∧ HT.sIx xs.length xs.length hi = xs.length) : cutD xs lo hi = xs := by
  unfold cutD
  rw [h.1, h.2]
  simp
variable {lo hi : Option Expr} {fl fh : Env → M (Option Int)} {p2 : Pos}
theorem se_slice (he : SE X O al e f) (hl : SO X O lo fl) (hh : SO X O hi fh) : SE X O false (.Subscript e (.Slice lo hi none p2) pos) (eSl f fl fh) :=
  PE.weak (pe_slice (sl_tupA.or (sl_list.or sl_str)) he hl hh) fun σ H Q ⟨dr, B, G0, ad, δ, G, w, d, w', S, hf, k⟩ => by
    obtain ⟨x, w1, h1, hf1⟩ := bind_some hf
    obtain ⟨l, w2, h2, hf2⟩ := bind_some hf1
    obtain ⟨u, w3, h3, hf3⟩ := bind_some hf2
    obtain ⟨h4, rfl⟩ := liftO_some hf3
    refine ⟨dr, B, G0, ad, δ, G, w, x, w1, S, h1, fun v G1 H1 g1 S1 r1 => ?_⟩
    refine ⟨dr, B, G0, ad, δ, G1, w1, l, w2, S1, h2, fun G2 H2 g2 S2 => ⟨dr, B, G0, ad, δ, G2, w2, u, _, S2, h3, fun G3 H3 g3 S3 => ?_⟩⟩
    have r3 := ((r1.grow g2).grow g3).x
    have k' : ∀ z G' H', Gr G3 H3 G' H' → Rep _ G' z d → Q z H' := fun z G' H' gr rz => k z G' H' (((g1.trans g2).trans g3).trans gr.grow) (S3.gr gr) rz
    cases x <;> try (cases h4; done)
    · rename_i z
      simp only [dSl] at h4
      split at h4
      · rename_i hl
        cases h4
        rw [r3.str]
        exact .inr (.inr ⟨z, rfl, lim_ok hl, k' _ G3 H3 (.refl S3.sub) (.str _)⟩)
      · cases h4
    · cases h4
      obtain ⟨a, vs, rfl, ha, ra, Ra⟩ := r3.tup S3.sub
      refine .inl ⟨a, vs, rfl, ha, fun hw => ?_, fun hw q hq => ?_⟩
      · rw [ra.length] at hw
        rw [cut_whole _ _ _ hw] at k'
        exact k' _ G3 H3 (.refl S3.sub) Ra
      · obtain ⟨gr, rz⟩ := Rep.newT S3.sub hq (ra.cut l u)
        exact k' _ _ _ gr rz
    · cases h4
      obtain ⟨a, vs, rfl, ha, ra⟩ := r3.lst S3.sub
      refine .inr (.inl ⟨a, vs, rfl, SqL.of ha, fun q hq => ?_⟩)
      obtain ⟨gr, rz⟩ := Rep.newL S3.sub hq (ra.cut l u)
      exact k' _ _ _ gr rz

/-! ### built-ins -/
theorem RepAs.one {p : Par} {al : Bool} {G H : Hp} {vs : List V} {d : D} (r : RepAs p al G H vs [d]) : ∃ v, vs = [v] ∧ RepA p al G H v d := by
  cases r with
  | cons r t => cases t; exact ⟨_, rfl, r⟩
theorem RepAs.two {p : Par} {al : Bool} {G H : Hp} {vs : List V} {d e : D} (r : RepAs p al G H vs [d, e]) : ∃ v u, vs = [v, u] ∧ RepA p al G H v d ∧ RepA p al G H u e := by
  cases r with
  | cons r t => cases t with
    | cons r2 t => cases t; exact ⟨_, _, rfl, r, r2⟩
variable {K : PySem.W.Frag} {mg : Str → Option Value}
def dLen : List D → Option D
  | [.tup l] => some (.int l.length)
  | [.lst l] => some (.int l.length)
  | [.str z] => if z.length ≤ LIM then some (.int z.length) else none
  | _ => none
def rLenA (K : PySem.W.Frag) : List V → Hp → VK → Prop := fun xs H Q => ∃ x n, xs = [x] ∧ LenV K x H n ∧ Q (.int n) H
theorem cs_len : CallS K mg (rLenA K) dLen := by
  intro p G H vs ds d Q hK hmg s r hd k
  subst hK
  match ds, hd, r with
  | [.tup l], hd, r =>
    cases hd
    obtain ⟨v, rfl, rr⟩ := r.one
    obtain ⟨a, us, rfl, ha, ra, _⟩ := rr.x.tup s
    exact ⟨_, l.length, rfl, .inr ⟨us, ha, ra.length.symm⟩, k _ G H (.refl s) (.int _)⟩
  | [.lst l], hd, r =>
    cases hd
    obtain ⟨v, rfl, rr⟩ := r.one
    obtain ⟨a, us, rfl, ha, ra⟩ := rr.x.lst s
    exact ⟨_, l.length, rfl, .inl ⟨us, SqL.of ha, ra.length.symm⟩, k _ G H (.refl s) (.int _)⟩
  | [.str z], hd, r =>
    simp only [dLen] at hd
    split at hd
    · rename_i hl
      cases hd
      obtain ⟨v, rfl, rr⟩ := r.one
      rw [rr.x.str]
      exact ⟨_, z.length, rfl, ⟨lim_ok hl, rfl⟩, k _ G H (.refl s) (.int _)⟩
    · cases hd
def dAbs : List D → Option D
  | [.int i] => some (.int (if i < 0 then -i else i))
  | _ => none
theorem cs_abs : CallS K mg (fun xs H Q => ∃ i, xs = [.int i] ∧ Q (.int (if i < 0 then -i else i)) H) dAbs := by
  intro p G H vs ds d Q hK hmg s r hd k
  match ds, hd, r with
  | [.int i], hd, r =>
    cases hd
    obtain ⟨v, rfl, rr⟩ := r.one
    exact ⟨i, by rw [rr.x.int], k _ G H (.refl s) (.int _)⟩
def dInt : List D → Option D
  | [.int i] => some (.int i)
  | [.bl b] => some (.int (if b then 1 else 0))
  | _ => none
theorem cs_int : CallS K mg (fun xs H Q => (∃ i, xs = [.int i] ∧ Q (.int i) H) ∨ ∃ k, xs = [.bl k] ∧ Q (.int (if k then 1 else 0)) H) dInt := by
  intro p G H vs ds d Q hK hmg s r hd k
  match ds, hd, r with
  | [.int i], hd, r =>
    cases hd
    obtain ⟨v, rfl, rr⟩ := r.one
    exact .inl ⟨i, by rw [rr.x.int], k _ G H (.refl s) (.int _)⟩
  | [.bl i], hd, r =>
    cases hd
    obtain ⟨v, rfl, rr⟩ := r.one
    exact .inr ⟨i, by rw [rr.x.bl], k _ G H (.refl s) (.int _)⟩
def dMax2 : List D → Option D
  | [.int i, .int j] => some (.int (if j > i then j else i))
  | _ => none
def dMin2 : List D → Option D
  | [.int i, .int j] => some (.int (if j < i then j else i))
  | _ => none
theorem cs_max2 : CallS K mg (fun xs H Q => ∃ i j, xs = [.int i, .int j] ∧ Q (.int (if j > i then j else i)) H) dMax2 := by
  intro p G H vs ds d Q hK hmg s r hd k
  match ds, hd, r with
  | [.int i, .int j], hd, r =>
    cases hd
    obtain ⟨v, u, rfl, rr, r2⟩ := r.two
    exact ⟨i, j, by rw [rr.x.int, r2.x.int], k _ G H (.refl s) (.int _)⟩
theorem cs_min2 : CallS K mg (fun xs H Q => ∃ i j, xs = [.int i, .int j] ∧ Q (.int (if j < i then j else i)) H) dMin2 := by
  intro p G H vs ds d Q hK hmg s r hd k
  match ds, hd, r with
  | [.int i, .int j], hd, r =>
    cases hd
    obtain ⟨v, u, rfl, rr, r2⟩ := r.two
    exact ⟨i, j, by rw [rr.x.int, r2.x.int], k _ G H (.refl s) (.int _)⟩
def dGcd : List D → Option D
  | [.int i, .int j] => some (.int (Nat.gcd i.natAbs j.natAbs : Nat))
  | _ => none
theorem cs_gcd : CallS K mg rGcd dGcd := by
  intro p G H vs ds d Q hK hmg s r hd k
  match ds, hd, r with
  | [.int i, .int j], hd, r =>
    cases hd
    obtain ⟨v, u, rfl, rr, r2⟩ := r.two
    exact ⟨i, j, by rw [rr.x.int, r2.x.int], k _ G H (.refl s) (.int _)⟩
def asBs : List D → Option (List Bool)
  | [] => some []
  | .bl b :: l => (asBs l).map (b :: ·)
  | _ => none
theorem asBs_some : ∀ {l : List D} {bs : List Bool}, asBs l = some bs → l = bs.map D.bl
  | [], _, h => by cases h; rfl
  | .bl b :: l, bs, h => by
    cases q : asBs l with
    | none => simp [asBs, q] at h
    | some cs =>
      have h' : some (b :: cs) = some bs := by rw [← h]; simp [asBs, q]
      cases h'
      rw [asBs_some q]
      rfl
def asIs : List D → Option (List Int)
  | [] => some []
  | .int b :: l => (asIs l).map (b :: ·)
  | _ => none
theorem asIs_some : ∀ {l : List D} {bs : List Int}, asIs l = some bs → l = bs.map D.int
  | [], _, h => by cases h; rfl
  | .int b :: l, bs, h => by
    cases q : asIs l with
    | none => simp [asIs, q] at h
    | some cs =>
      have h' : some (b :: cs) = some bs := by rw [← h]; simp [asIs, q]
      cases h'
      rw [asIs_some q]
      rfl
def dAny : List D → Option D
  | [.lst l] => (asBs l).map fun bs => .bl (bs.any id)
  | _ => none
def dAll : List D → Option D
  | [.lst l] => (asBs l).map fun bs => .bl (bs.all id)
  | _ => none
theorem cs_any : CallS K mg (rAny K) dAny := by
  intro p G H vs ds d Q hK hmg s r hd k
  subst hK
  match ds, hd, r with
  | [.lst l], hd, r =>
    cases q : asBs l with
    | none => simp [dAny, q] at hd
    | some bs =>
      have hd' : some (D.bl (bs.any id)) = some d := by rw [← hd]; simp [dAny, q]
      cases hd'
      obtain ⟨v, rfl, rr⟩ := r.one
      obtain ⟨a, us, rfl, ha, ra⟩ := rr.x.lst s
      rw [asBs_some q] at ra
      rw [RepAll.bls ra] at ha
      exact ⟨a, bs, rfl, SqL.of ha, k _ G H (.refl s) (.bl _)⟩
theorem cs_all : CallS K mg (rAll K) dAll := by
  intro p G H vs ds d Q hK hmg s r hd k
  subst hK
  match ds, hd, r with
  | [.lst l], hd, r =>
    cases q : asBs l with
    | none => simp [dAll, q] at hd
    | some bs =>
      have hd' : some (D.bl (bs.all id)) = some d := by rw [← hd]; simp [dAll, q]
      cases hd'
      obtain ⟨v, rfl, rr⟩ := r.one
      obtain ⟨a, us, rfl, ha, ra⟩ := rr.x.lst s
      rw [asBs_some q] at ra
      rw [RepAll.bls ra] at ha
      exact ⟨a, bs, rfl, SqL.of ha, k _ G H (.refl s) (.bl _)⟩
def dTuple : List D → Option D
  | [.lst l] => some (.tup l)
  | [.tup l] => some (.tup l)
  | _ => none
theorem cs_tuple : CallS K mg (fun xs H Q => ∃ p ys, xs = [.ref p] ∧ ((SqL K H p ys ∧ ∀ l, H l = none → Q (.ref l) (upd H l (.tup ys))) ∨ (SqT K H p ys ∧ Q (.ref p) H))) dTuple := by
  intro p G H vs ds d Q hK hmg s r hd k
  subst hK
  match ds, hd, r with
  | [.lst l], hd, r =>
    cases hd
    obtain ⟨v, rfl, rr⟩ := r.one
    obtain ⟨a, us, rfl, ha, ra⟩ := rr.x.lst s
    refine ⟨a, us, rfl, .inl ⟨SqL.of ha, fun q hq => ?_⟩⟩
    obtain ⟨gr, rz⟩ := Rep.newT s hq ra
    exact k _ _ _ gr rz
  | [.tup l], hd, r =>
    cases hd
    obtain ⟨v, rfl, rr⟩ := r.one
    obtain ⟨a, us, rfl, ha, ra, Ra⟩ := rr.x.tup s
    exact ⟨a, us, rfl, .inr ⟨ha, k _ G H (.refl s) Ra⟩⟩
def dList : List D → Option D
  | [.lst l] => some (.lst l)
  | [.tup l] => some (.lst l)
  | _ => none
theorem cs_list : CallS K mg (fun xs H Q => ∃ p ys, xs = [.ref p] ∧ (SqL K H p ys ∨ SqT K H p ys) ∧ ∀ l, H l = none → Q (.ref l) (upd H l (.lst ys))) dList := by
  intro p G H vs ds d Q hK hmg s r hd k
  subst hK
  match ds, hd, r with
  | [.lst l], hd, r =>
    cases hd
    obtain ⟨v, rfl, rr⟩ := r.one
    obtain ⟨a, us, rfl, ha, ra⟩ := rr.x.lst s
    refine ⟨a, us, rfl, .inl (SqL.of ha), fun q hq => ?_⟩
    obtain ⟨gr, rz⟩ := Rep.newL s hq ra
    exact k _ _ _ gr rz
  | [.tup l], hd, r =>
    cases hd
    obtain ⟨v, rfl, rr⟩ := r.one
    obtain ⟨a, us, rfl, ha, ra, Ra⟩ := rr.x.tup s
    refine ⟨a, us, rfl, .inr ha, fun q hq => ?_⟩
    obtain ⟨gr, rz⟩ := Rep.newL s hq ra
    exact k _ _ _ gr rz
variable {x : Str} {q : Pos}
theorem se_len (hm : X.mg "len" = none) (hg : Gl X "len") (ha : SA X O true [e] fs) (he : starEach [e] X.env = (false, eval e X.env) :: starEach [] X.env := by rfl) (hpl : (backTo pos (starEach [] X.env)).any (·.1) = false := by rfl) : SE X O false (.Call (.Name "len" q) [e] [] pos) (eCall dLen fs) :=
  se_callB call_len cs_len hg hm PySem.boot_len ha (by decide) (by decide) he hpl
theorem se_abs (hm : X.mg "abs" = none) (hg : Gl X "abs") (ha : SA X O true [e] fs) (he : starEach [e] X.env = (false, eval e X.env) :: starEach [] X.env := by rfl) (hpl : (backTo pos (starEach [] X.env)).any (·.1) = false := by rfl) : SE X O false (.Call (.Name "abs" q) [e] [] pos) (eCall dAbs fs) :=
  se_callB call_abs cs_abs hg hm (by decide +kernel) ha (by decide) (by decide) he hpl
theorem se_int1 (hm : X.mg "int" = none) (hg : Gl X "int") (ha : SA X O true [e] fs) (he : starEach [e] X.env = (false, eval e X.env) :: starEach [] X.env := by rfl) (hpl : (backTo pos (starEach [] X.env)).any (·.1) = false := by rfl) : SE X O false (.Call (.Name "int" q) [e] [] pos) (eCall dInt fs) :=
  se_callTy call_int1 cs_int hg hm (by decide +kernel) ha (by decide) (by decide) he hpl
theorem se_max2 (hc : X.calm = true) (hm : X.mg "max" = none) (hg : Gl X "max") (ha : SA X O true [a, b] fs) (he : starEach [a, b] X.env = (false, eval a X.env) :: starEach [b] X.env := by rfl) (hpl : (backTo pos (starEach [b] X.env)).any (·.1) = false := by rfl) : SE X O false (.Call (.Name "max" q) [a, b] [] pos) (eCall dMax2 fs) :=
  se_callB (call_max2 hc) cs_max2 hg hm (by decide +kernel) ha (by decide) (by decide) he hpl
theorem se_min2 (hc : X.calm = true) (hm : X.mg "min" = none) (hg : Gl X "min") (ha : SA X O true [a, b] fs) (he : starEach [a, b] X.env = (false, eval a X.env) :: starEach [b] X.env := by rfl) (hpl : (backTo pos (starEach [b] X.env)).any (·.1) = false := by rfl) : SE X O false (.Call (.Name "min" q) [a, b] [] pos) (eCall dMin2 fs) :=
  se_callB (call_min2 hc) cs_min2 hg hm (by decide +kernel) ha (by decide) (by decide) he hpl
theorem se_gcd (hm : X.mg "gcd" = some (.builtin "math.gcd")) (hg : Gl X "gcd") (ha : SA X O true [a, b] fs) (he : starEach [a, b] X.env = (false, eval a X.env) :: starEach [b] X.env := by rfl) (hpl : (backTo pos (starEach [b] X.env)).any (·.1) = false := by rfl) : SE X O false (.Call (.Name "gcd" q) [a, b] [] pos) (eCall dGcd fs) :=
  se_callF cr_gcd cs_gcd hg hm ha (by decide) he hpl
theorem se_any (hc : X.calm = true) (hm : X.mg "any" = none) (hg : Gl X "any") (ha : SA X O true [e] fs) (he : starEach [e] X.env = (false, eval e X.env) :: starEach [] X.env := by rfl) (hpl : (backTo pos (starEach [] X.env)).any (·.1) = false := by rfl) : SE X O false (.Call (.Name "any" q) [e] [] pos) (eCall dAny fs) :=
  se_callB (cr_any hc) cs_any hg hm (by decide +kernel) ha (by decide) (by decide) he hpl
theorem se_all (hc : X.calm = true) (hm : X.mg "all" = none) (hg : Gl X "all") (ha : SA X O true [e] fs) (he : starEach [e] X.env = (false, eval e X.env) :: starEach [] X.env := by rfl) (hpl : (backTo pos (starEach [] X.env)).any (·.1) = false := by rfl) : SE X O false (.Call (.Name "all" q) [e] [] pos) (eCall dAll fs) :=
  se_callB (cr_all hc) cs_all hg hm (by decide +kernel) ha (by decide) (by decide) he hpl
theorem se_tuple (hm : X.mg "tuple" = none) (hg : Gl X "tuple") (ha : SA X O true [e] fs) (he : starEach [e] X.env = (false, eval e X.env) :: starEach [] X.env := by rfl) (hpl : (backTo pos (starEach [] X.env)).any (·.1) = false := by rfl) : SE X O false (.Call (.Name "tuple" q) [e] [] pos) (eCall dTuple fs) :=
  se_callTy call_tuple_of cs_tuple hg hm boot_tuple ha (by decide) (by decide) he hpl
theorem se_list (hm : X.mg "list" = none) (hg : Gl X "list") (ha : SA X O true [e] fs) (he : starEach [e] X.env = (false, eval e X.env) :: starEach [] X.env := by rfl) (hpl : (backTo pos (starEach [] X.env)).any (·.1) = false := by rfl) : SE X O false (.Call (.Name "list" q) [e] [] pos) (eCall dList fs) :=
  se_callTy call_list_of cs_list hg hm (by decide +kernel) ha (by decide) (by decide) he hpl

/-! ### isinstance -/
def D.ty : D → Option String
  | .non => some "NoneType"
  | .bl _ => some "bool"
  | .int _ => some "int"
  | .str _ => some "str"
  | .tup _ => some "tuple"
  | .lst _ => some "list"
  | _ => none
theorem RepX.ty {p : Par} {G H : Hp} {v : V} {d : D} {t : String} (r : RepX p G H v d) (s : Sub G H) (h : d.ty = some t) : TyX p.K H v (.type t) := by
  cases d <;> try (cases h; done)
  · cases h; rw [r.non]; exact .base .non
  · cases h; rw [r.bl]; exact .base (.bl _)
  · cases h; rw [r.int]; exact .base (.int _)
  · cases h; rw [r.str]; exact .base (.str _)
  · cases h
    obtain ⟨a, vs, rfl, ha, _, _⟩ := r.tup s
    rcases ha with (ha | ⟨o, ha⟩) | ⟨o, its, n, hk, hc, _⟩
    · exact .base (.tup ha)
    · exact .fTuple ha
    · exact .kTuple hk hc
  · cases h
    obtain ⟨a, vs, rfl, ha, _⟩ := r.lst s
    exact .base (.lst ha)
/-- isinstance(x, T), T one of the built-in types -/
def isTy (T : String) (d : D) : Option Bool := d.ty.bind fun t => kitB t T
def eIsi (T : String) (f : Env → M D) : Env → M D := fun δ => do
  let x ← f δ
  let k ← liftO (isTy T x)
  pure (.bl k)
theorem se_isi {T : String} {p3 : Pos} {y : Str} (hm : X.mg "isinstance" = none) (hg : Gl X "isinstance") (hm2 : X.mg y = none) (hg2 : Gl X y) (hv : bootBuiltins y = some (.type T)) (ha : SE X O al a f) (hn : y ≠ "__name__" := by decide) (hd : (y == ("__debug__" : Str)) = false := by decide)
    (he : starEach [a, .Name y p3] X.env = (false, eval a X.env) :: starEach [.Name y p3] X.env := by rfl) (he2 : starEach [.Name y p3] X.env = (false, eval (.Name y p3) X.env) :: starEach [] X.env := by rfl) (hpl : (backTo pos (starEach [.Name y p3] X.env)).any (·.1) = false := by rfl) :
    SE X O false (.Call (.Name "isinstance" q) [a, .Name y p3] [] pos) (eIsi T f) :=
  PE.weak (pe_callB call_isi hg hm (by decide +kernel) (pa_cons ha (pa_cons (pe_bltn (v := .ty T) hg2 hm2 hv rfl hn hd) pa_nil he2) he) (by decide) (by decide) he hpl) fun σ H Q ⟨dr, B, G0, ad, δ, G, w, d, w', S, hf, k⟩ => by
    obtain ⟨x, w1, h1, hf1⟩ := bind_some hf
    obtain ⟨i, w2, h2, hf2⟩ := bind_some hf1
    obtain ⟨h3, rfl⟩ := liftO_some h2
    obtain ⟨e, rfl⟩ := pure_some hf2
    subst e
    refine ⟨dr, B, G0, ad, δ, G, w, x, _, S, h1, fun v G1 H1 g1 S1 r1 => ?_⟩
    unfold isTy at h3
    cases ht : x.ty with
    | none => rw [ht] at h3; cases h3
    | some t =>
      rw [ht] at h3
      exact ⟨v, .ty T, .type t, .type T, i, rfl, .ty T, r1.x.ty S1.sub ht, kit_ty h3, k _ G1 H1 g1 S1 (.bl i)⟩
/-- isinstance(x, (T, U)) -/
def isTy2 (T U : String) (d : D) : Option Bool := (isTy T d).bind fun a => (isTy U d).bind fun b => some (a || b)
def eIsi2 (T U : String) (f : Env → M D) : Env → M D := fun δ => do
  let x ← f δ
  let k ← liftO (isTy2 T U x)
  pure (.bl k)
theorem se_isi2 {T U : String} {p3 p4 p5 : Pos} {k5} {y z : Str} (hm : X.mg "isinstance" = none) (hg : Gl X "isinstance") (hm2 : X.mg y = none) (hg2 : Gl X y) (hv : bootBuiltins y = some (.type T)) (hm3 : X.mg z = none) (hg3 : Gl X z) (hv3 : bootBuiltins z = some (.type U)) (ha : SE X O al a f) (hn : y ≠ "__name__" := by decide) (hd : (y == ("__debug__" : Str)) = false := by decide)
    (hn3 : z ≠ "__name__" := by decide) (hd3 : (z == ("__debug__" : Str)) = false := by decide)
    (he : starEach [a, .Tuple [.Name y p3, .Name z p4] k5 p5] X.env = (false, eval a X.env) :: starEach [.Tuple [.Name y p3, .Name z p4] k5 p5] X.env := by rfl) (he2 : starEach [.Tuple [.Name y p3, .Name z p4] k5 p5] X.env = (false, eval (.Tuple [.Name y p3, .Name z p4] k5 p5) X.env) :: starEach [] X.env := by rfl)
    (he3 : starEach [.Name y p3, .Name z p4] X.env = (false, eval (.Name y p3) X.env) :: starEach [.Name z p4] X.env := by rfl) (he4 : starEach [.Name z p4] X.env = (false, eval (.Name z p4) X.env) :: starEach [] X.env := by rfl)
    (hpl : (backTo pos (starEach [.Tuple [.Name y p3, .Name z p4] k5 p5] X.env)).any (·.1) = false := by rfl) :
    SE X O false (.Call (.Name "isinstance" q) [a, .Tuple [.Name y p3, .Name z p4] k5 p5] [] pos) (eIsi2 T U f) :=
  PE.weak (pe_callB call_isiT hg hm (by decide +kernel) (pa_cons ha (pa_cons (pe_tup (pa_cons (pe_bltn (v := .ty T) hg2 hm2 hv rfl hn hd) (pa_cons (pe_bltn (v := .ty U) hg3 hm3 hv3 rfl hn3 hd3) pa_nil he4) he3)) pa_nil he2) he) (by decide) (by decide) he hpl) fun σ H Q ⟨dr, B, G0, ad, δ, G, w, d, w', S, hf, k⟩ => by
    obtain ⟨x, w1, h1, hf1⟩ := bind_some hf
    obtain ⟨i, w2, h2, hf2⟩ := bind_some hf1
    obtain ⟨h3, rfl⟩ := liftO_some h2
    obtain ⟨e, rfl⟩ := pure_some hf2
    subst e
    refine ⟨dr, B, G0, ad, δ, G, w, x, _, S, h1, fun v G1 H1 g1 S1 r1 => ⟨by show 2 ≤ sizeLine; decide, fun t ht => ?_⟩⟩
    have gr : Gr G1 H1 G1 (upd H1 t (.tup [.ty T, .ty U])) := Gr.laid S1.sub ht
    unfold isTy2 isTy at h3
    cases htt : x.ty with
    | none => rw [htt] at h3; cases h3
    | some tt =>
      rw [htt] at h3
      cases q1 : kitB tt T with
      | none => simp [q1] at h3
      | some b1 =>
        cases q2 : kitB tt U with
        | none => simp [q1, q2] at h3
        | some b2 =>
          have h3' : some (b1 || b2) = some i := by rw [← h3]; simp [q1, q2]
          cases h3'
          refine ⟨v, t, [.ty T, .ty U], .type tt, [.type T, .type U], b1 || b2, rfl, upd_same, .cons (.ty T) (.cons (.ty U) .nil), (r1.x.grow gr.grow).ty (S1.gr gr).sub htt, ?_, k _ G1 _ (g1.trans gr.grow) (S1.gr gr) (.bl _)⟩
          refine kitAny_cons (kit_ty q1) (fun z => ?_) (fun z => by rw [z]; rfl)
          refine kitAny_cons (kit_ty q2) (fun z2 => ?_) (fun z2 => by rw [z, z2]; rfl)
          rw [z, z2]
          exact kitAny_nil
end
end Fc

/-! Fc, part E: targets, statements, loops, comprehensions, calls. -/
namespace Fc
open PySem PySem.Spec PyProof.Rows L2

/-! ### how a body ends -/
inductive Out where
  | nx | bk | ct | rt (d : D)
  /-- an own thing is handed back -/
  | ro (d : D)
structure Fin (p : Par) (w : Dw) (G H : Hp) : Prop where
  sub : Sub G H
  g0 : Sub p.G0 G
  bas : ∀ a o, a ≠ p.dr → p.B a = some o → H a = some o
  kp : ∀ a o, p.B a = some o → p.G0 a = none → G a = none
  draw : DrawAt p w G H
theorem SR.fin {p : Par} {δ : Env} {σ : L2.St} {G H : Hp} {w : Dw} (S : SR p δ σ G H w) : Fin p w G H := ⟨S.sub, S.g0, S.bas, S.kp, S.draw⟩
/-- the parameters that the def changes stand where they stood -/
def PinsBy (p : Par) (δ : Env) (G H : Hp) (ρ : Lab) : Prop := ∀ i d, i + 2000 ∈ p.O → δ[i]? = some (some d) → d.isL = true → Node p G H ρ [i] (.ref (p.ad i)) d
def Pins (p : Par) (δ : Env) (G H : Hp) : Prop := ∃ ρ, PinsBy p δ G H ρ
theorem SR.pinsOf {p : Par} {δ : Env} {σ : L2.St} {G H : Hp} {w : Dw} (S : SR p δ σ G H w) : Pins p δ G H := by
  obtain ⟨ρ, ow⟩ := S.owns
  refine ⟨ρ, fun i d h e l => ?_⟩
  obtain ⟨h1, h2⟩ := S.pins i h
  obtain ⟨v, h3, n⟩ := ow i d e h1 l
  rw [h2] at h3
  cases h3
  exact n
def sKont (p : Par) (G : Hp) (o : Out) (δ' : Env) (w' : Dw) (E : Ends) : Prop := match o with
  | .nx => ∀ σ' G' H', SR p δ' σ' G' H' w' → Sub G G' → E.nx σ' H'
  | .bk => ∀ σ' G' H', SR p δ' σ' G' H' w' → Sub G G' → E.bk σ' H'
  | .ct => ∀ σ' G' H', SR p δ' σ' G' H' w' → Sub G G' → E.ct σ' H'
  | .rt d => ∀ v G' H', Fin p w' G' H' → Pins p δ' G' H' → Rep p G' v d → E.rt v H'
  | .ro d => ∀ v G' H' ρ r, Fin p w' G' H' → PinsBy p δ' G' H' ρ → r + 2000 ∉ p.O → Node p G' H' ρ [r] v d → E.rt v H'
abbrev F1 := Env → M (Out × Env)
def tsOf (K : PySem.W.Frag) (mg : Str → Option Value) (O : List Nat) (F : F1) : TS := fun E σ H =>
  ∃ (dr : Addr) (B G0 : Hp) (ad : Nat → Addr) (δ : Env) (G : Hp) (w : Dw) (o : Out) (δ' : Env) (w' : Dw), SR ⟨K, mg, dr, O, B, G0, ad⟩ δ σ G H w ∧ F δ w = some ((o, δ'), w') ∧ sKont ⟨K, mg, dr, O, B, G0, ad⟩ G o δ' w' E
def SS (X : Cx) (O : List Nat) (st : Stmt) (F : F1) : Prop := PS X st (tsOf X.K X.mg O F)
def SSs (X : Cx) (O : List Nat) (sts : List Stmt) (F : F1) : Prop := PSs X sts (tsOf X.K X.mg O F)

section
variable {p : Par} {δ : Env} {σ : L2.St} {G H G' H' : Hp} {w : Dw}
theorem set_at {α : Type} {l : List (Option α)} {i : Nat} {x y : Option α} (h : (l.set i x)[i]? = some y) : y = x ∧ i < l.length := by
  have hl : i < l.length := by
    have := (List.getElem?_eq_some_iff.mp h).1
    rwa [List.length_set] at this
  rw [List.getElem?_set_self hl] at h
  exact ⟨(Option.some.inj h).symm, hl⟩
/-- a name is stored -/
theorem SR.set {i : Nat} {d : D} {v : V} (S : SR p δ σ G H w) (hi : i ∉ p.O) (r : Rep p G v d) : SR p (δ.set i (some d)) (σ.set i (some v)) G H w where
  sub := S.sub
  g0 := S.g0
  bas := S.bas
  bd := S.bd
  len := by rw [List.length_set, List.length_set]; exact S.len
  vals := fun j e h n m => by
    by_cases hj : i = j
    · subst hj
      obtain ⟨q, hl⟩ := set_at h
      cases q
      exact ⟨v, List.getElem?_set_self (by rw [← S.len]; exact hl), r⟩
    · rw [List.getElem?_set_ne hj] at h
      obtain ⟨u, e1, r1⟩ := S.vals j e h n m
      exact ⟨u, by rw [List.getElem?_set_ne hj]; exact e1, r1⟩
  ros := fun j e h n => by
    by_cases hj : i = j
    · subst hj
      obtain ⟨q, hl⟩ := set_at h
      cases q
      exact ⟨v, List.getElem?_set_self (by rw [← S.len]; exact hl), .rep r⟩
    · rw [List.getElem?_set_ne hj] at h
      obtain ⟨u, e1, r1⟩ := S.ros j e h n
      exact ⟨u, by rw [List.getElem?_set_ne hj]; exact e1, r1⟩
  owns := by
    obtain ⟨ρ, ow⟩ := S.owns
    refine ⟨ρ, fun j e h n l => ?_⟩
    have hj : i ≠ j := fun z => hi (z ▸ n)
    rw [List.getElem?_set_ne hj] at h
    rw [List.getElem?_set_ne hj]
    exact ow j e h n l
  pins := fun j h => by
    obtain ⟨h1, h2⟩ := S.pins j h
    exact ⟨h1, by rw [List.getElem?_set_ne (fun z : i = j => hi (z ▸ h1))]; exact h2⟩
  draw := S.draw
  kp := S.kp
/-- a name takes an own thing, or an own thing becomes another one: the slots' own things are told anew -/
theorem SR.own {i : Nat} {d : D} {v : V} {ρ : Lab} (S : SR p δ σ G H w) (hi : i ∈ p.O) (hp : i + 2000 ∉ p.O ∨ v = .ref (p.ad i)) (hr : i + 1000 ∉ p.O) (hl : d.isL = true) (ow : ∀ j e, j ≠ i → δ[j]? = some (some e) → j ∈ p.O → e.isL = true → ∃ u, σ[j]? = some (some u) ∧ Node p G H ρ [j] u e) (n : Node p G H ρ [i] v d) :
    SR p (δ.set i (some d)) (σ.set i (some v)) G H w where
  sub := S.sub
  g0 := S.g0
  bas := S.bas
  bd := S.bd
  len := by rw [List.length_set, List.length_set]; exact S.len
  vals := fun j e h n m => by
    by_cases hj : i = j
    · subst hj
      obtain ⟨q, _⟩ := set_at h
      cases q
      exact absurd ⟨hi, hl⟩ n
    · rw [List.getElem?_set_ne hj] at h
      rw [List.getElem?_set_ne hj]
      exact S.vals j e h n m
  ros := fun j e h n => by
    have hj : i ≠ j := fun z => hr (z ▸ n)
    rw [List.getElem?_set_ne hj] at h
    rw [List.getElem?_set_ne hj]
    exact S.ros j e h n
  owns := by
    refine ⟨ρ, fun j e h n' l => ?_⟩
    by_cases hj : i = j
    · subst hj
      obtain ⟨q, hl⟩ := set_at h
      cases q
      exact ⟨v, List.getElem?_set_self (by rw [← S.len]; exact hl), n⟩
    · rw [List.getElem?_set_ne hj] at h
      rw [List.getElem?_set_ne hj]
      exact ow j e (fun z => hj z.symm) h n' l
  pins := fun j h => by
    obtain ⟨h1, h2⟩ := S.pins j h
    refine ⟨h1, ?_⟩
    by_cases hj : i = j
    · subst hj
      have hlt := (List.getElem?_eq_some_iff.mp h2).1
      rw [List.getElem?_set_self hlt]
      rcases hp with hp | hp
      · exact absurd h hp
      · rw [hp]
    · rw [List.getElem?_set_ne hj]; exact h2
  draw := S.draw
  kp := S.kp
/-- a name takes a new list that stays its own -/
theorem SR.setO {i : Nat} {ds : List D} {vs : List V} {a : Addr} (S : SR p δ σ G H w) (hi : i ∈ p.O) (hp : i + 2000 ∉ p.O) (hr : i + 1000 ∉ p.O) (h1 : H a = some (.lst vs)) (h2 : G a = none) (h3 : p.B a = none) (h4 : Away p δ σ G H a) (r : RepAll p G vs ds) :
    SR p (δ.set i (some (.lst ds))) (σ.set i (some (.ref a))) G H w := by
  obtain ⟨ρ, ow, e⟩ := h4
  refine S.own (ρ := fun b => if b = a then some [i] else ρ b) hi (.inl hp) hr rfl (fun j e' hj q1 q2 q3 => ?_) (.lst ⟨if_pos rfl, h2, h3⟩ h1 r)
  obtain ⟨u, e1, n⟩ := ow j e' q1 q2 q3
  refine ⟨u, e1, n.keep (Sub.refl G) fun b L o z1 z2 z3 z4 z5 => ⟨z5, z3, ?_⟩⟩
  rw [if_neg fun z => by rw [z, e] at z1; cases z1]
  exact z1
/-- what another heap must keep for the state but for its own things -/
theorem SR.heap {H2 : Hp} (S : SR p δ σ G H w) (s : Sub G H2) (b : ∀ a o, a ≠ p.dr → p.B a = some o → H2 a = some o) (dr : H2 p.dr = H p.dr) (ow : ∃ ρ, OwnsBy p δ σ G H2 ρ) : SR p δ σ G H2 w where
  sub := s
  g0 := S.g0
  bas := b
  bd := S.bd
  len := S.len
  vals := S.vals
  ros := S.ros
  owns := ow
  pins := S.pins
  draw := let ⟨ok, ⟨sc, d1, d2⟩, d3⟩ := S.draw; ⟨ok, ⟨sc, dr.trans d1, d2⟩, d3⟩
  kp := S.kp
theorem nodup_lab {i j : Nat} {L : List Nat} (h1 : [i] <:+ L) (h2 : [j] <:+ L) : i = j := by
  obtain ⟨x, rfl⟩ := h1
  obtain ⟨y, e⟩ := h2
  have h3 : (y ++ [j]).getLast? = (x ++ [i]).getLast? := by rw [e]
  rw [List.getLast?_append, List.getLast?_append] at h3
  exact (Option.some.inj h3).symm
/-- an own thing is changed: the object at a, at the label L of slot i -/
theorem SR.change {i : Nat} {d' : D} {L : List Nat} {a : Addr} {o : HO} {ρ ρ' : Lab} (S : SR p δ σ G H w) (hi : i ∈ p.O) (hr : i + 1000 ∉ p.O) (hl : d'.isL = true) (ow : OwnsBy p δ σ G H ρ) (hL : [i] <:+ L) (w1 : OwnAt p G ρ a L) (hρ : ∀ b M, ρ b = some M → ¬ [i] <:+ M → H b ≠ none → ρ' b = some M) {v : V} (ev : σ[i]? = some (some v)) (n : Node p G (upd H a o) ρ' [i] v d') :
    SR p (δ.set i (some d')) σ G (upd H a o) w := by
  have ne : a ≠ p.dr := own_ne S w1.b
  have hlt : i < σ.length := (List.getElem?_eq_some_iff.mp ev).1
  have e3 : σ.set i (some v) = σ := by
    refine List.ext_getElem? fun k => ?_
    by_cases hk : i = k
    · subst hk; rw [List.getElem?_set_self hlt, ev]
    · rw [List.getElem?_set_ne hk]
  have others : ∀ j e, j ≠ i → δ[j]? = some (some e) → j ∈ p.O → e.isL = true → ∃ u, σ[j]? = some (some u) ∧ Node p G (upd H a o) ρ' [j] u e := fun j e hj q1 q2 q3 => by
    obtain ⟨u, e1, n1⟩ := ow j e q1 q2 q3
    refine ⟨u, e1, n1.keep (Sub.refl G) fun b M u z1 z2 z3 z4 z5 => ⟨?_, z3, hρ b M z1 (fun z => hj (nodup_lab z2 z)) (by rw [z5]; exact nofun)⟩⟩
    rw [upd_ne fun z => ?_]
    · exact z5
    · subst z
      rw [w1.lab] at z1
      cases z1
      exact hj (nodup_lab z2 hL)
  refine ⟨fun b u h => ?_, S.g0, fun b u n h => ?_, S.bd, by rw [List.length_set]; exact S.len, fun j f h n m => ?_, fun j f h n => ?_, ⟨ρ', fun j f h m l => ?_⟩, S.pins, ?_, S.kp⟩
  · rw [upd_ne (ne_of_none h w1.g)]
    exact S.sub b u h
  · rw [upd_ne (ne_of_none h w1.b)]
    exact S.bas b u n h
  · have hj : i ≠ j := fun z => by
      subst z
      obtain ⟨q, _⟩ := set_at h
      cases q
      exact n ⟨hi, hl⟩
    rw [List.getElem?_set_ne hj] at h
    exact S.vals j f h n m
  · have hj : i ≠ j := fun z => hr (z ▸ n)
    rw [List.getElem?_set_ne hj] at h
    exact S.ros j f h n
  · by_cases hj : i = j
    · subst hj
      obtain ⟨q, _⟩ := set_at h
      cases q
      exact ⟨v, ev, n⟩
    · rw [List.getElem?_set_ne hj] at h
      exact others j f (fun z => hj z.symm) h m l
  · obtain ⟨ok, ⟨sc, d1, d2⟩, d3⟩ := S.draw
    exact ⟨ok, ⟨sc, by rw [upd_ne (Ne.symm ne)]; exact d1, d2⟩, d3⟩
/-- a list of one's own is changed -/
theorem SR.mut {i : Nat} {ds ds' : List D} {vs vs' : List V} {a : Addr} (S : SR p δ σ G H w) (hi : i ∈ p.O) (hr : i + 1000 ∉ p.O) (e : δ[i]? = some (some (.lst ds))) (e2 : σ[i]? = some (some (.ref a))) (h1 : H a = some (.lst vs)) (r : RepAll p G vs' ds') :
    SR p (δ.set i (some (.lst ds'))) σ G (upd H a (.lst vs')) w := by
  obtain ⟨ρ, ow⟩ := S.owns
  obtain ⟨v, q1, n⟩ := ow i _ e hi rfl
  rw [e2] at q1
  cases q1
  cases n with
  | lst w1 h2 r2 => exact S.change hi hr rfl ow (List.suffix_refl _) w1 (fun b M z _ _ => z) e2 (.lst w1 upd_same r)
/-- a new object that nobody of the state knows is changed -/
theorem SR.aside {a : Addr} {o : HO} (S : SR p δ σ G H w) (hG : G a = none) (hB : p.B a = none) (hO : Away p δ σ G H a) : SR p δ σ G (upd H a o) w := by
  have ne : a ≠ p.dr := own_ne S hB
  refine S.heap (fun b u h => ?_) (fun b u n h => ?_) (upd_ne (Ne.symm ne)) ?_
  · rw [upd_ne (ne_of_none h hG)]
    exact S.sub b u h
  · rw [upd_ne (ne_of_none h hB)]
    exact S.bas b u n h
  · obtain ⟨ρ, ow, e⟩ := hO
    refine ⟨ρ, ow.keep (Sub.refl G) fun i _ b L u z1 z2 z3 z4 z5 => ⟨?_, z3, z1⟩⟩
    rw [upd_ne fun z => by rw [z, e] at z1; cases z1]
    exact z5
/-- names forgotten -/
theorem wipe_get {σ : L2.St} {i : Nat} : ∀ {vs : List Nat}, i ∉ vs → (wipe σ vs)[i]? = σ[i]?
  | [], _ => rfl
  | v :: vs, h => by
    unfold wipe
    rw [List.getElem?_set_ne (fun e => h (by simp [e]))]
    exact wipe_get fun z => h (List.mem_cons_of_mem _ z)
def wipeD (δ : Env) : List Nat → Env
  | [] => δ
  | v :: vs => (wipeD δ vs).set v none
theorem wipeD_len (δ : Env) : ∀ vs : List Nat, (wipeD δ vs).length = δ.length
  | [] => rfl
  | v :: vs => by unfold wipeD; rw [List.length_set]; exact wipeD_len δ vs
theorem wipeD_get {δ : Env} {i : Nat} : ∀ {vs : List Nat}, i ∉ vs → (wipeD δ vs)[i]? = δ[i]?
  | [], _ => rfl
  | v :: vs, h => by
    unfold wipeD
    rw [List.getElem?_set_ne (fun e => h (by simp [e]))]
    exact wipeD_get fun z => h (List.mem_cons_of_mem _ z)
theorem wipeD_some {δ : Env} {i : Nat} {d : D} : ∀ {vs : List Nat}, (wipeD δ vs)[i]? = some (some d) → δ[i]? = some (some d) ∧ i ∉ vs
  | [], h => ⟨h, by simp⟩
  | v :: vs, h => by
    unfold wipeD at h
    by_cases hi : v = i
    · subst hi
      by_cases hv : v < (wipeD δ vs).length
      · rw [List.getElem?_set_self hv] at h; cases h
      · rw [List.getElem?_eq_none (by simpa using hv)] at h; cases h
    · rw [List.getElem?_set_ne hi] at h
      obtain ⟨h1, h2⟩ := wipeD_some h
      exact ⟨h1, by simp only [List.mem_cons, not_or]; exact ⟨fun e => hi e.symm, h2⟩⟩
theorem SR.wipe (S : SR p δ σ G H w) (vs : List Nat) (hv : ∀ i ∈ vs, i + 2000 ∉ p.O) : SR p (wipeD δ vs) (wipe σ vs) G H w := by
  refine ⟨S.sub, S.g0, S.bas, S.bd, by rw [wipeD_len, wipe_length]; exact S.len, fun j f h n m => ?_, fun j f h n => ?_, ?_, fun j h => ?_, S.draw, S.kp⟩
  · obtain ⟨h1, h2⟩ := wipeD_some h
    rw [wipe_get h2]
    exact S.vals j f h1 n m
  · obtain ⟨h1, h2⟩ := wipeD_some h
    rw [wipe_get h2]
    exact S.ros j f h1 n
  · obtain ⟨ρ, ow⟩ := S.owns
    refine ⟨ρ, fun j f h n l => ?_⟩
    obtain ⟨h1, h2⟩ := wipeD_some h
    rw [wipe_get h2]
    exact ow j f h1 n l
  · obtain ⟨h1, h2⟩ := S.pins j h
    exact ⟨h1, by rw [wipe_get fun z => hv j z h]; exact h2⟩
theorem wipe_same {σ σ' : L2.St} (hl : σ'.length = σ.length) : ∀ (vs : List Nat), (∀ i, i ∉ vs → σ'[i]? = σ[i]?) → L2.wipe σ' vs = L2.wipe σ vs := by
  intro vs h
  refine List.ext_getElem? fun i => ?_
  by_cases hi : i ∈ vs
  · have key : ∀ (τ : L2.St) (vs : List Nat), i ∈ vs → (L2.wipe τ vs)[i]? = if i < τ.length then some none else none := by
      intro τ vs
      induction vs with
      | nil => intro z; cases z
      | cons v vs ih =>
        intro z
        unfold L2.wipe
        by_cases hv : v = i
        · subst hv
          by_cases hlt : v < (L2.wipe τ vs).length
          · rw [List.getElem?_set_self hlt, if_pos (by rw [← wipe_length τ vs]; exact hlt)]
          · rw [List.getElem?_eq_none (by simpa using hlt), if_neg (by rw [← wipe_length τ vs]; exact hlt)]
        · rw [List.getElem?_set_ne hv]
          exact ih (by rcases List.mem_cons.mp z with e | e; exact absurd e.symm hv; exact e)
    rw [key σ' vs hi, key σ vs hi, hl]
  · rw [wipe_get hi, wipe_get hi]
    exact h i hi
theorem wipe_wipe {σ σ' : L2.St} {vs : List Nat} (h : L2.wipe σ' vs = L2.wipe (L2.wipe σ vs) vs) : L2.wipe σ' vs = L2.wipe σ vs := by
  rw [h]
  exact wipe_same (wipe_length σ vs) vs fun i hi => wipe_get hi
end

/-! ### targets -/
inductive Tg where
  | nm (i : Nat)
  | tp (l : List Tg)
mutual
def setT : Tg → D → Env → Option Env
  | .nm i, d, δ => some (δ.set i (some d))
  | .tp l, .tup ds, δ => setTs l ds δ
  | .tp _, _, _ => none
def setTs : List Tg → List D → Env → Option Env
  | [], [], δ => some δ
  | t :: ts, d :: ds, δ => (setT t d δ).bind (setTs ts ds)
  | _, _, _ => none
end
mutual
def Tg.ix : Tg → List Nat
  | .nm i => [i]
  | .tp l => Tg.ixs l
def Tg.ixs : List Tg → List Nat
  | [] => []
  | t :: ts => Tg.ix t ++ Tg.ixs ts
end
def tgOf (K : PySem.W.Frag) (mg : Str → Option Value) (O : List Nat) (T : Tg) : TG := fun v σ H Q =>
  ∃ (dr : Addr) (B G0 : Hp) (ad : Nat → Addr) (δ : Env) (G : Hp) (w : Dw) (d : D) (δ' : Env), SR ⟨K, mg, dr, O, B, G0, ad⟩ δ σ G H w ∧ Rep ⟨K, mg, dr, O, B, G0, ad⟩ G v d ∧ setT T d δ = some δ' ∧
    ∀ σ', SR ⟨K, mg, dr, O, B, G0, ad⟩ δ' σ' G H w → σ'.length = σ.length → (∀ i, i ∉ T.ix → σ'[i]? = σ[i]?) → Q σ' H
def tgsOf (K : PySem.W.Frag) (mg : Str → Option Value) (O : List Nat) (T : List Tg) : TGs := fun v σ H Q =>
  ∃ (dr : Addr) (B G0 : Hp) (ad : Nat → Addr) (δ : Env) (G : Hp) (w : Dw) (d : List D) (δ' : Env), SR ⟨K, mg, dr, O, B, G0, ad⟩ δ σ G H w ∧ RepAll ⟨K, mg, dr, O, B, G0, ad⟩ G v d ∧ setTs T d δ = some δ' ∧
    ∀ σ', SR ⟨K, mg, dr, O, B, G0, ad⟩ δ' σ' G H w → σ'.length = σ.length → (∀ i, i ∉ Tg.ixs T → σ'[i]? = σ[i]?) → Q σ' H
def SG (X : Cx) (O : List Nat) (tg : Expr) (T : Tg) : Prop := PG X tg (tgOf X.K X.mg O T)
def SGs (X : Cx) (O : List Nat) (tgs : List Expr) (T : List Tg) : Prop := PGs X tgs (tgsOf X.K X.mg O T)
theorem PG.weak {X : Cx} {e : Expr} {t t' : TG} (h : PG X e t) (k : ∀ v σ H Q, t' v σ H Q → t v σ H Q) : PG X e t' := ⟨fun pins s σ H v u Q I r q => h.run pins s σ H v u Q I r (k v σ H Q q)⟩
theorem PGs.weak {X : Cx} {e : List Expr} {t t' : TGs} (h : PGs X e t) (k : ∀ v σ H Q, t' v σ H Q → t v σ H Q) : PGs X e t' := ⟨fun pins s σ H v u Q I r q => h.run pins s σ H v u Q I r (k v σ H Q q)⟩

section
variable {X : Cx} {O : List Nat} {al bl cl : Bool} {a b c e tg : Expr} {es tgs : List Expr} {f g h : Env → M D} {fs : Env → M (List D)} {pos : Pos} {T : Tg} {Ts : List Tg}
theorem sg_name (i : Nat) {x : Str} (hN : X.N.Nodup) (hO : i ∉ O := by decide) (hi : X.N[i]? = some x := by rfl) (hx : Loc X.env.scope x := by first | exact Or.inl rfl | exact Or.inr rfl) (hf : X.fn x = true ∨ X.env.scope.names.lookup x = some .local := by first | exact .inl rfl | exact .inr rfl) :
    SG X O (.Name x pos) (.nm i) :=
  PG.weak (pg_name hN hi hx hf) fun v σ H Q ⟨dr, B, G0, ad, δ, G, w, d, δ', S, r, e, k⟩ => by
    have e' : some (δ.set i (some d)) = some δ' := by rw [← e, setT]
    cases e'
    refine k _ (S.set hO r) (by rw [List.length_set]) fun j hj => ?_
    have hj' : i ≠ j := fun z => hj (by rw [Tg.ix]; simp [z])
    rw [List.getElem?_set_ne hj']
theorem sgs_nil : SGs X O [] [] := PGs.weak pgs_nil fun v σ H Q ⟨dr, B, G0, ad, δ, G, w, d, δ', S, r, e, k⟩ => by
  cases r with
  | nil =>
    have e' : some δ = some δ' := by rw [← e, setTs]
    cases e'
    exact ⟨rfl, k σ S rfl fun _ _ => rfl⟩
  | cons r t => rw [setTs] at e; cases e; all_goals simp
theorem sgs_cons (h1 : SG X O tg T) (h2 : SGs X O tgs Ts) (hs : (assignEach (tg :: tgs) X.env).map (·.2) = assign tg X.env :: (assignEach tgs X.env).map (·.2) := by rfl) : SGs X O (tg :: tgs) (T :: Ts) :=
  PGs.weak (pgs_cons h1 h2 hs) fun v σ H Q ⟨dr, B, G0, ad, δ, G, w, d, δ', S, r, e, k⟩ => by
    cases r with
    | nil => rw [setTs] at e; cases e; all_goals simp
    | @cons v0 vs d0 ds r t =>
      rw [setTs] at e
      cases q : setT T d0 δ with
      | none => rw [q] at e; cases e
      | some δ1 =>
        rw [q] at e
        refine ⟨v0, vs, rfl, dr, B, G0, ad, δ, G, w, d0, δ1, S, r, q, fun σ1 S1 l1 k1 => ?_⟩
        refine ⟨dr, B, G0, ad, δ1, G, w, ds, δ', S1, t, e, fun σ2 S2 l2 k2 => k σ2 S2 (l2.trans l1) fun j hj => ?_⟩
        rw [Tg.ixs, List.mem_append, not_or] at hj
        rw [k2 j hj.2, k1 j hj.1]
theorem sg_tup {kk : Nat} (hc : X.calm = true) (h : SGs X O tgs Ts) (hn : (assignEach tgs X.env).length = Ts.length := by rfl) (hst : (assignEach tgs X.env).findIdx? (·.1) = none := by rfl) : SG X O (.Tuple tgs kk pos) (.tp Ts) :=
  PG.weak (pg_tup hc h hn hst) fun v σ H Q ⟨dr, B, G0, ad, δ, G, w, d, δ', S, r, e, k⟩ => by
    have key : ∀ (Ts : List Tg) (ds : List D) (δ : Env), setTs Ts ds δ = some δ' → ds.length = Ts.length := by
      intro Ts
      induction Ts with
      | nil =>
        intro ds δ q
        cases ds with
        | nil => rfl
        | cons => rw [setTs] at q; cases q; all_goals simp
      | cons t ts ih =>
        intro ds δ q
        cases ds with
        | nil => rw [setTs] at q; cases q; all_goals simp
        | cons d ds =>
          rw [setTs] at q
          cases q1 : setT t d δ with
          | none => rw [q1] at q; cases q
          | some δ1 =>
            rw [q1] at q
            have := ih ds δ1 q
            simp [this]
    cases d <;> try (rw [setT] at e <;> first | (cases e; done) | simp)
    rename_i ds
    cases r with
    | @tup a vs _ h1 h2 =>
      refine ⟨a, vs, rfl, sub_t S.sub h1, by rw [h2.length]; exact key Ts ds δ e, dr, B, G0, ad, δ, G, w, ds, δ', S, h2, e, fun σ' S' l' k' => ?_⟩
      exact k σ' S' l' fun i hi => k' i (by rw [Tg.ix] at hi; exact hi)
end
end Fc

/-! Fc, part F: what is walked, statements, loops, comprehensions, calls of defs. -/
namespace Fc
open PySem PySem.Spec PyProof.Rows L2
/-! ### own things stand still -/
mutual
def D.frz : D → D
  | .non => .non
  | .bl b => .bl b
  | .int i => .int i
  | .str x => .str x
  | .tup l => .tup l
  | .lst l => .lst l
  | .fn x => .fn x
  | .drw => .drw
  | .dK ks l => .dK ks l
  | .dT ks l => .dT ks l
  | .olst l => .lst (D.frzs l)
  | .odK ks l => .dK ks (D.frzs l)
  | .odT ks l => .dT ks (D.frzs l)
  | .ins c fs l => .ins c fs (D.frzs l)
  | .own d => D.frz d
def D.frzK : D → D
  | .non => .non
  | .bl b => .bl b
  | .int i => .int i
  | .str x => .str x
  | .tup l => .tup l
  | .lst l => .lst l
  | .fn x => .fn x
  | .drw => .drw
  | .dK ks l => .dK ks l
  | .dT ks l => .dT ks l
  | .olst l => .olst l
  | .odK ks l => .odK ks l
  | .odT ks l => .odT ks l
  | .ins c fs l => .ins c fs l
  | .own d => D.frz d
def D.frzs : List D → List D
  | [] => []
  | d :: l => D.frzK d :: D.frzs l
end
theorem Rep.frzK {p : Par} {G : Hp} {v : V} {d : D} (r : Rep p G v d) : d.frzK = d := by cases r <;> rw [D.frzK]
theorem RepAll.frzs {p : Par} {G : Hp} : ∀ {vs : List V} {ds : List D}, RepAll p G vs ds → D.frzs ds = ds
  | _, _, .nil => by rw [D.frzs]
  | _, _, .cons r t => by rw [D.frzs, r.frzK, RepAll.frzs t]
theorem Rep.frz {p : Par} {G : Hp} {v : V} {d : D} (r : Rep p G v d) : d.frz = d := by
  cases r with
  | ins h l m r => rw [D.frz, r.frzs]
  | _ => rw [D.frz]
open Classical in
noncomputable def frzG (p : Par) (ρ : Lab) (R : List Nat) (G H : Hp) : Hp := fun a => if (∃ i L, i ∈ R ∧ ρ a = some L ∧ [i] <:+ L) ∧ G a = none ∧ p.B a = none then H a else G a
section
variable {p : Par} {δ : Env} {σ : L2.St} {G H : Hp} {w : Dw} {ρ : Lab} {R : List Nat}
theorem frzG_sub (s : Sub G H) : Sub G (frzG p ρ R G H) := fun a o h => by
  unfold frzG
  split
  · exact s a o h
  · exact h
theorem frzG_at {a : Addr} {i : Nat} {L : List Nat} (h : OwnAt p G ρ a L) (hi : [i] <:+ L) (hR : i ∈ R) : frzG p ρ R G H a = H a := if_pos ⟨⟨i, L, hR, h.lab, hi⟩, h.g, h.b⟩
mutual
theorem Node.solid' {i : Nat} (s : Sub G H) (hR : i ∈ R) : ∀ {L : List Nat} {v : V} {d : D}, [i] <:+ L → Node p G H ρ L v d → Rep p (frzG p ρ R G H) v d.frz
  | _, _, _, hi, .lst w e r => by rw [D.frz]; exact .lst ((frzG_at w hi hR).trans e) (r.mono (frzG_sub s))
  | _, _, _, hi, .dK w e l r => by rw [D.frz]; exact .dK ((frzG_at w hi hR).trans e) l (r.mono (frzG_sub s))
  | _, _, _, hi, .dT w e l r => by rw [D.frz]; exact .dT ((frzG_at w hi hR).trans e) l (r.mono (frzG_sub s))
  | _, _, _, hi, .olst w e r => by rw [D.frz]; exact .lst ((frzG_at w hi hR).trans e) (Kids.solid' s hR hi r)
  | _, _, _, hi, .odK w e l r => by rw [D.frz]; exact .dK ((frzG_at w hi hR).trans e) l (Kids.solid' s hR hi r)
  | _, _, _, hi, .odT w e l r => by rw [D.frz]; exact .dT ((frzG_at w hi hR).trans e) l (Kids.solid' s hR hi r)
  | _, _, _, hi, .ins w e l m r => by rw [D.frz]; exact .ins ((frzG_at w hi hR).trans e) l m (Kids.solid' s hR hi r)
theorem Kids.solid' {i : Nat} (s : Sub G H) (hR : i ∈ R) : ∀ {L : List Nat} {k : Nat} {vs : List V} {ds : List D}, [i] <:+ L → Kids p G H ρ L k vs ds → RepAll p (frzG p ρ R G H) vs (D.frzs ds)
  | _, _, _, _, _, .nil => by rw [D.frzs]; exact .nil
  | _, _, _, _, hi, .rep r t => by
    rw [D.frzs, r.frzK]
    exact .cons (r.mono (frzG_sub s)) (Kids.solid' s hR hi t)
  | _, k, _, _, hi, .own n t => by
    rw [D.frzs, D.frzK]
    exact .cons (Node.solid' s hR (hi.trans (List.suffix_cons k _)) n) (Kids.solid' s hR hi t)
end
/-- the slots of R are forgotten; what they held stands still -/
theorem SR.frozen (S : SR p δ σ G H w) (ow : OwnsBy p δ σ G H ρ) (R : List Nat) (hp : ∀ i ∈ R, i + 2000 ∉ p.O) : SR p (wipeD δ R) (L2.wipe σ R) (frzG p ρ R G H) H w := by
  have sg : Sub G (frzG p ρ R G H) := frzG_sub S.sub
  have nb : ∀ a, p.B a ≠ none → frzG p ρ R G H a = G a := fun a h => if_neg fun z => h z.2.2
  have W := S.wipe R hp
  refine ⟨fun a o h => ?_, S.g0.trans sg, S.bas, S.bd, W.len, fun i d h n m => ?_, fun i d h n => ?_, ⟨ρ, fun i d h n l => ?_⟩, W.pins, ?_, fun a o e n => ?_⟩
  · unfold frzG at h
    split at h
    · exact h
    · exact S.sub a o h
  · obtain ⟨v, e, r⟩ := W.vals i d h n m
    exact ⟨v, e, r.mono sg⟩
  · obtain ⟨v, e, r⟩ := W.ros i d h n
    exact ⟨v, e, r.move sg fun _ _ _ z => z⟩
  · obtain ⟨h1, h2⟩ := wipeD_some h
    obtain ⟨v, e, nd⟩ := ow i d h1 n l
    refine ⟨v, by rw [wipe_get h2]; exact e, nd.keep sg fun a L o z1 z2 z3 z4 z5 => ⟨z5, ?_, z1⟩⟩
    unfold frzG
    rw [if_neg]
    · exact z3
    · rintro ⟨⟨j, M, hj, e1, e2⟩, _⟩
      rw [z1] at e1
      cases e1
      exact h2 (nodup_lab z2 e2 ▸ hj)
  · obtain ⟨ok, ⟨sc, h1, h2⟩, h3⟩ := S.draw
    exact ⟨ok, ⟨sc, h1, sub_l sg h2⟩, by rw [nb _ S.bd']; exact h3⟩
  · rw [nb a (by rw [e]; exact nofun)]
    exact S.kp a o e n
theorem SR.frozenPins (S : SR p δ σ G H w) (ow : OwnsBy p δ σ G H ρ) (R : List Nat) (hp : ∀ i ∈ R, i + 2000 ∉ p.O) : PinsBy p δ (frzG p ρ R G H) H ρ := fun i d h e l => by
  obtain ⟨h1, h2⟩ := S.pins i h
  obtain ⟨v, h3, nd⟩ := ow i d e h1 l
  rw [h2] at h3
  cases h3
  refine nd.keep (frzG_sub S.sub) fun a L o z1 z2 z3 z4 z5 => ⟨z5, ?_, z1⟩
  unfold frzG
  rw [if_neg]
  · exact z3
  · rintro ⟨⟨j, M, hj, e1, e2⟩, _⟩
    rw [z1] at e1
    cases e1
    exact hp j hj (nodup_lab z2 e2 ▸ h)
theorem Node.solid {i : Nat} {L : List Nat} {v : V} {d : D} (n : Node p G H ρ L v d) (s : Sub G H) (hi : [i] <:+ L) (hR : i ∈ R) : Rep p (frzG p ρ R G H) v d.frz := Node.solid' s hR hi n
end


/-! ### walks -/
structure WalksD (p : Par) (J : It) (Gs : Hp) (Ok : Hp → Prop) (ds : List D) : Prop where
  go : ∀ i G H, Sub Gs G → Sub G H → Ok H → i < ds.length → J.go i H
  yl : ∀ i G H x H', Sub Gs G → Sub G H → Ok H → i < ds.length → J.yld i H x H' → ∃ G' d, ds[i]? = some d ∧ Gr G H G' H' ∧ Rep p G' x d
  st : ∀ G H, Sub Gs G → Sub G H → Ok H → J.stop ds.length H
theorem WalksD.weak {p : Par} {J : It} {Gs : Hp} {Ok Ok' : Hp → Prop} {ds : List D} (h : WalksD p J Gs Ok ds) (k : ∀ H, Ok' H → Ok H) : WalksD p J Gs Ok' ds :=
  ⟨fun i G H a b c => h.go i G H a b (k H c), fun i G H x H' a b c => h.yl i G H x H' a b (k H c), fun G H a b c => h.st G H a b (k H c)⟩
def okOf (al : Bool) (dr : Addr) (H' : Hp) (H1 : Hp) : Prop := al = true → ∀ a o, a ≠ dr → H' a = some o → H1 a = some o
def tiOf (K : PySem.W.Frag) (mg : Str → Option Value) (O : List Nat) (al : Bool) (f : Env → M (List D)) : TI := fun σ H R =>
  ∃ (dr : Addr) (B G0 : Hp) (ad : Nat → Addr) (δ : Env) (G : Hp) (w : Dw) (ds : List D) (w' : Dw), SR ⟨K, mg, dr, O, B, G0, ad⟩ δ σ G H w ∧ f δ w = some (ds, w') ∧
    ∀ J G' H', Grow ⟨K, mg, dr, O, B, G0, ad⟩ G H G' H' → SR ⟨K, mg, dr, O, B, G0, ad⟩ δ σ G' H' w' → WalksD ⟨K, mg, dr, O, B, G0, ad⟩ J G' (okOf al dr H') ds → R J H'
def SI (X : Cx) (O : List Nat) (al : Bool) (tg it : Expr) (f : Env → M (List D)) : Prop := PI X tg it (tiOf X.K X.mg O al f)
section
variable {X : Cx} {O : List Nat} {al bl cl : Bool} {a b c e tg : Expr} {es tgs : List Expr} {f g h : Env → M D} {fs : Env → M (List D)} {pos q : Pos} {T : Tg} {Ts : List Tg}
theorem SI.any (h : SI X O al tg e fs) : SI X O true tg e fs := PI.weak h fun σ H R ⟨dr, B, G0, ad, δ, G, w, ds, w', S, hf, k⟩ =>
  ⟨dr, B, G0, ad, δ, G, w, ds, w', S, hf, fun J G' H' gr S' W => k J G' H' gr S' (W.weak fun H1 o hal => o rfl)⟩
theorem PI.or {t t' : TI} (h : PI X tg e t) (h' : PI X tg e t') : PI X tg e fun σ H R => t σ H R ∨ t' σ H R := ⟨fun pins s σ H R I q => by
  rcases q with q | q
  · exact h.run pins s σ H R I q
  · exact h'.run pins s σ H R I q⟩
def dItems : D → Option (List D)
  | .tup l => some l
  | .lst l => some l
  | _ => none
def itSeq (f : Env → M D) : Env → M (List D) := fun δ => do
  let x ← f δ
  liftO (dItems x)
theorem walksT {p : Par} {G : Hp} {a : Addr} {vs : List V} {ds : List D} {Ok : Hp → Prop} (h : SqT p.K G a vs) (r : RepAll p G vs ds) : WalksD p (Itt p.K a) G Ok ds where
  go := fun i G1 H1 s1 s2 _ hi => walk_tup.goes i H1 (by rw [r.length]; exact hi) (sub_t (s1.trans s2) h)
  yl := fun i G1 H1 x H2 s1 s2 _ hi y => by
    obtain ⟨rfl, e⟩ := walk_tup.yields i H1 x H2 (by rw [r.length]; exact hi) (sub_t (s1.trans s2) h) y
    obtain ⟨d, hd, rd⟩ := r.getV e
    exact ⟨G1, d, hd, .refl s2, rd.mono s1⟩
  st := fun G1 H1 s1 s2 _ => by
    rw [← r.length]
    exact walk_tup.stops H1 (sub_t (s1.trans s2) h)
theorem walksL {p : Par} {G : Hp} {a : Addr} {vs : List V} {ds : List D} {Ok : Hp → Prop} (h : ∀ G1 H1, Sub G G1 → Sub G1 H1 → Ok H1 → H1 a = some (.lst vs)) (r : RepAll p G vs ds) : WalksD p (Itl p.K a) G Ok ds where
  go := fun i G1 H1 s1 s2 o hi => walk_list.goes i H1 (by rw [r.length]; exact hi) (SqL.of (h G1 H1 s1 s2 o))
  yl := fun i G1 H1 x H2 s1 s2 o hi y => by
    obtain ⟨rfl, e⟩ := walk_list.yields i H1 x H2 (by rw [r.length]; exact hi) (SqL.of (h G1 H1 s1 s2 o)) y
    obtain ⟨d, hd, rd⟩ := r.getV e
    exact ⟨G1, d, hd, .refl s2, rd.mono s1⟩
  st := fun G1 H1 s1 s2 o => by
    rw [← r.length]
    exact walk_list.stops H1 (SqL.of (h G1 H1 s1 s2 o))
theorem RepA.walks {p : Par} {G H : Hp} {v : V} {l : List D} (r : RepA p al G H v (.lst l)) : ∃ a vs, v = .ref a ∧ (Sub G H → H a = some (.lst vs)) ∧ (∀ G1 H1, Sub G G1 → Sub G1 H1 → okOf al p.dr H H1 → H1 a = some (.lst vs)) ∧ RepAll p G vs l := by
  cases al with
  | false =>
    cases (show Rep p G v (.lst l) from r) with
    | lst h1 h2 => exact ⟨_, _, rfl, fun s => s _ _ h1, fun G1 H1 s1 s2 _ => s2 _ _ (s1 _ _ h1), h2⟩
  | true =>
    cases (show RepX p G H v (.lst l) from r) with
    | rep r =>
      cases r with
      | lst h1 h2 => exact ⟨_, _, rfl, fun s => s _ _ h1, fun G1 H1 s1 s2 _ => s2 _ _ (s1 _ _ h1), h2⟩
    | own n h r => exact ⟨_, _, rfl, fun _ => h, fun G1 H1 s1 s2 o => o rfl _ _ n h, r⟩
theorem si_seq (ha : SE X O al a f) : SI X O al tg a (itSeq f) :=
  PI.weak (PI.or (pi_tup ha) (pi_list ha)) fun σ H R ⟨dr, B, G0, ad, δ, G, w, ds, w', S, hf, k⟩ => by
    obtain ⟨x, w1, h1, hf1⟩ := bind_some hf
    obtain ⟨h3, rfl⟩ := liftO_some hf1
    cases x <;> try (cases h3; done)
    · rename_i l
      cases h3
      refine .inl ⟨dr, B, G0, ad, δ, G, w, _, _, S, h1, fun v G1 H1 g1 S1 r1 => ?_⟩
      have r2 := r1.x.tupR
      cases r2 with
      | @tup a vs _ h4 h5 => exact ⟨a, rfl, ⟨vs, sub_t S1.sub h4⟩, k _ G1 H1 g1 S1 (walksT h4 h5)⟩
    · rename_i l
      cases h3
      refine .inr ⟨dr, B, G0, ad, δ, G, w, _, _, S, h1, fun v G1 H1 g1 S1 r1 => ?_⟩
      obtain ⟨a, vs, rfl, h4, h5, h6⟩ := r1.walks
      exact ⟨a, rfl, ⟨vs, SqL.of (h4 S1.sub)⟩, k _ G1 H1 g1 S1 (walksL h5 h6)⟩
/-! ranges -/
def rangeD (lo : Int) (n : Nat) : List D := (List.range n).map fun (i : Nat) => D.int (lo + i)
theorem rangeD_len (lo : Int) (n : Nat) : (rangeD lo n).length = n := by unfold rangeD; simp
theorem walksR {p : Par} {G : Hp} {lo : Int} {n : Nat} {Ok : Hp → Prop} : WalksD p (Itr lo n) G Ok (rangeD lo n) where
  go := fun i G1 H1 s1 s2 _ hi => by rw [rangeD_len] at hi; exact hi
  yl := fun i G1 H1 x H2 s1 s2 _ hi y => by
    obtain ⟨rfl, rfl⟩ := y
    rw [rangeD_len] at hi
    exact ⟨G1, .int (lo + i), by unfold rangeD; simp [hi], .refl s2, .int _⟩
  st := fun G1 H1 s1 s2 _ => by rw [rangeD_len]; exact Nat.le_refl _
def BIG : Int := 1000000000
def dRange1 : List D → Option (List D)
  | [.int n] => if -BIG ≤ n ∧ n ≤ BIG then some (rangeD 0 n.toNat) else none
  | _ => none
def dRange2 : List D → Option (List D)
  | [.int i, .int n] => if -BIG ≤ i ∧ i ≤ BIG ∧ -BIG ≤ n ∧ n ≤ BIG then some (rangeD i (n - i).toNat) else none
  | _ => none
def itCall (op : List D → Option (List D)) (fs : Env → M (List D)) : Env → M (List D) := fun δ => do
  let xs ← fs δ
  liftO (op xs)
theorem si_range1 (hm : X.mg "range" = none) (hg : Gl X "range") (ha : SA X O true [a] fs) (hs : starEach [a] X.env = [(false, eval a X.env)] := by rfl) : SI X O false tg (.Call (.Name "range" q) [a] [] pos) (itCall dRange1 fs) :=
  PI.weak (pi_range1 hg hm ha hs) fun σ H R ⟨dr, B, G0, ad, δ, G, w, ds, w', S, hf, k⟩ => by
    obtain ⟨xs, w1, h1, hf1⟩ := bind_some hf
    obtain ⟨h3, rfl⟩ := liftO_some hf1
    refine ⟨dr, B, G0, ad, δ, G, w, xs, _, S, h1, fun vs G1 H1 g1 S1 r1 => ?_⟩
    match xs, h3, r1 with
    | [.int n], h3, r1 =>
      simp only [dRange1] at h3
      split at h3
      · rename_i hc
        cases h3
        obtain ⟨v, rfl, rr⟩ := r1.one
        have hB : BIG = 1000000000 := rfl
        exact ⟨n, by rw [rr.x.int], by omega, by omega, k _ G1 H1 g1 S1 walksR⟩
      · cases h3
theorem si_range2 (hm : X.mg "range" = none) (hg : Gl X "range") (ha : SA X O true [a, b] fs) (hs : starEach [a, b] X.env = [(false, eval a X.env), (false, eval b X.env)] := by rfl) (hs2 : starEach [b] X.env = [(false, eval b X.env)] := by rfl) : SI X O false tg (.Call (.Name "range" q) [a, b] [] pos) (itCall dRange2 fs) :=
  PI.weak (pi_range2 hg hm ha hs hs2) fun σ H R ⟨dr, B, G0, ad, δ, G, w, ds, w', S, hf, k⟩ => by
    obtain ⟨xs, w1, h1, hf1⟩ := bind_some hf
    obtain ⟨h3, rfl⟩ := liftO_some hf1
    refine ⟨dr, B, G0, ad, δ, G, w, xs, _, S, h1, fun vs G1 H1 g1 S1 r1 => ?_⟩
    match xs, h3, r1 with
    | [.int i, .int n], h3, r1 =>
      simp only [dRange2] at h3
      split at h3
      · rename_i hc
        cases h3
        obtain ⟨v, u, rfl, rr, rr2⟩ := r1.two
        have hB : BIG = 1000000000 := rfl
        exact ⟨i, n, by rw [rr.x.int, rr2.x.int], ⟨by omega, by omega, by omega, by omega⟩, k _ G1 H1 g1 S1 walksR⟩
      · cases h3
end

/-! ### statements -/
section
variable {X : Cx} {O : List Nat} {al bl cl : Bool} {a b c e tg it : Expr} {es tgs : List Expr} {f g h : Env → M D} {fs : Env → M (List D)} {pos q : Pos} {T : Tg} {Ts : List Tg} {st : Stmt} {sts rest : List Stmt} {F F' : F1} {t : Env → M Bool}
def sNil : F1 := fun δ => pure (.nx, δ)
def sSeq (F F' : F1) : F1 := fun δ => do
  let (o, δ1) ← F δ
  match o with
  | .nx => F' δ1
  | o => pure (o, δ1)
theorem sKont.mono {p : Par} {G G1 : Hp} {o : Out} {δ : Env} {w : Dw} {E : Ends} (s : Sub G G1) (h : sKont p G o δ w E) : sKont p G1 o δ w E := by
  cases o with
  | nx => exact fun σ' G' H' S s' => h σ' G' H' S (s.trans s')
  | bk => exact fun σ' G' H' S s' => h σ' G' H' S (s.trans s')
  | ct => exact fun σ' G' H' S s' => h σ' G' H' S (s.trans s')
  | rt d => exact h
  | ro d => exact h
theorem ss_nil : SSs X O [] sNil := PSs.weak pss_nil fun E σ H ⟨dr, B, G0, ad, δ, G, w, o, δ', w', S, hf, k⟩ => by
  obtain ⟨e, rfl⟩ := pure_some hf
  cases e
  exact k σ G H S (Sub.refl G)
theorem ss_cons (h1 : SS X O st F) (h2 : SSs X O rest F') : SSs X O (st :: rest) (sSeq F F') :=
  PSs.weak (pss_cons h1 h2) fun E σ H ⟨dr, B, G0, ad, δ, G, w, o, δ', w', S, hf, k⟩ => by
    obtain ⟨⟨o1, δ1⟩, w1, h1, hf1⟩ := bind_some hf
    refine ⟨dr, B, G0, ad, δ, G, w, o1, δ1, w1, S, h1, ?_⟩
    cases o1 with
    | nx => exact fun σ' G' H' S' s' => ⟨dr, B, G0, ad, δ1, G', w1, o, δ', w', S', hf1, k.mono s'⟩
    | bk =>
      obtain ⟨e, rfl⟩ := pure_some hf1
      cases e
      exact k
    | ct =>
      obtain ⟨e, rfl⟩ := pure_some hf1
      cases e
      exact k
    | rt d =>
      obtain ⟨e, rfl⟩ := pure_some hf1
      cases e
      exact k
    | ro d =>
      obtain ⟨e, rfl⟩ := pure_some hf1
      cases e
      exact k
theorem ss_one (h1 : SS X O st F) : SSs X O [st] F := pss_one h1
def sRet (f : Env → M D) : F1 := fun δ => do
  let d ← f δ
  pure (.rt d, δ)
theorem ss_ret (ha : SE X O false e f) : SS X O (.Return (some e) pos) (sRet f) :=
  PS.weak (ps_ret ha) fun E σ H ⟨dr, B, G0, ad, δ, G, w, o, δ', w', S, hf, k⟩ => by
    obtain ⟨d, w1, h1, hf1⟩ := bind_some hf
    obtain ⟨e, rfl⟩ := pure_some hf1
    cases e
    exact ⟨dr, B, G0, ad, δ, G, w, d, w1, S, h1, fun v G1 H1 g1 S1 r1 => k v G1 H1 S1.fin S1.pinsOf r1⟩
/-- an own thing of the slot i is handed back, and stands still from now on -/
def eFrz (i : Nat) : Env → M D := fun δ => do
  let d ← eVar i δ
  pure d.frz
theorem ss_retZ (i : Nat) {x : Str} (hO : i + 2000 ∉ O := by decide) (hR : i + 1000 ∉ O := by decide) (hN : X.N[i]? = some x := by rfl) (hv : Vis X.env.scope x := by first | exact Or.inl rfl | exact Or.inr (Or.inl rfl) | exact Or.inr (Or.inr rfl)) (hd : (x == ("__debug__" : Str)) = false := by decide)
    (hcd : (x == ("__classdict__" : Str)) = false := by decide) {p2 : Pos} : SS X O (.Return (some (.Name x p2)) pos) (sRet (eFrz i)) :=
  PS.weak (ps_ret (pe_var hN hv hd hcd)) fun E σ H ⟨dr, B, G0, ad, δ, G, w, o, δ', w', S, hf, k⟩ => by
    obtain ⟨d0, w0, h0, hf1⟩ := bind_some hf
    obtain ⟨e, rfl⟩ := pure_some hf1
    cases e
    obtain ⟨d, w1, h1, hf2⟩ := bind_some h0
    obtain ⟨e, rfl⟩ := pure_some hf2
    subst e
    obtain ⟨h2, rfl⟩ := eVar_some h1
    obtain ⟨ρ, ow⟩ := S.owns
    by_cases hi : i ∈ O ∧ d.isL = true
    · obtain ⟨v, e, n⟩ := ow i d h2 hi.1 hi.2
      have F := S.frozen ow [i] (fun j hj => by simp only [List.mem_singleton] at hj; exact hj ▸ hO)
      exact ⟨v, e, k v _ H F.fin ⟨ρ, S.frozenPins ow [i] (fun j hj => by simp only [List.mem_singleton] at hj; exact hj ▸ hO)⟩ (n.solid S.sub (List.suffix_refl _) (List.mem_singleton.mpr rfl))⟩
    · obtain ⟨v, e, r⟩ := S.vals i d h2 hi hR
      exact ⟨v, e, k v G H S.fin S.pinsOf (by rw [r.frz]; exact r)⟩
def sRetN : F1 := fun δ => pure (.rt .non, δ)
theorem ss_retN : SS X O (.Return none pos) sRetN := PS.weak ps_retN fun E σ H ⟨dr, B, G0, ad, δ, G, w, o, δ', w', S, hf, k⟩ => by
  obtain ⟨e, rfl⟩ := pure_some hf
  cases e
  exact k .non G H S.fin S.pinsOf .non
def sBk : F1 := fun δ => pure (.bk, δ)
def sCt : F1 := fun δ => pure (.ct, δ)
theorem ss_pass : SS X O (.Pass pos) sNil := PS.weak ps_pass fun E σ H ⟨dr, B, G0, ad, δ, G, w, o, δ', w', S, hf, k⟩ => by
  obtain ⟨e, rfl⟩ := pure_some hf
  cases e
  exact k σ G H S (Sub.refl G)
theorem ss_break : SS X O (.Break pos) sBk := PS.weak ps_break fun E σ H ⟨dr, B, G0, ad, δ, G, w, o, δ', w', S, hf, k⟩ => by
  obtain ⟨e, rfl⟩ := pure_some hf
  cases e
  exact k σ G H S (Sub.refl G)
theorem ss_continue : SS X O (.Continue pos) sCt := PS.weak ps_continue fun E σ H ⟨dr, B, G0, ad, δ, G, w, o, δ', w', S, hf, k⟩ => by
  obtain ⟨e, rfl⟩ := pure_some hf
  cases e
  exact k σ G H S (Sub.refl G)
def sDrop (f : Env → M D) : F1 := fun δ => do
  let _ ← f δ
  pure (.nx, δ)
theorem ss_expr (ha : SE X O al e f) (hs : swapsWith e none pos.line X.env = pure false := by rfl) : SS X O (.Expr e pos) (sDrop f) :=
  PS.weak (ps_expr ha hs) fun E σ H ⟨dr, B, G0, ad, δ, G, w, o, δ', w', S, hf, k⟩ => by
    obtain ⟨d, w1, h1, hf1⟩ := bind_some hf
    obtain ⟨e, rfl⟩ := pure_some hf1
    cases e
    exact ⟨dr, B, G0, ad, δ, G, w, d, w1, S, h1, fun v G1 H1 g1 S1 r1 => k σ G1 H1 S1 g1.g⟩
/-- target = value -/
def sAsg (T : Tg) (f : Env → M D) : F1 := fun δ => do
  let d ← f δ
  let δ' ← liftO (setT T d δ)
  pure (.nx, δ')
theorem tsOf_asg {K : PySem.W.Frag} {mg : Str → Option Value} {E : Ends} {σ : L2.St} {H : Hp} (q : tsOf K mg O (sAsg T f) E σ H) : tAsg (tOf K mg O false f) (tgOf K mg O T) E σ H := by
  obtain ⟨dr, B, G0, ad, δ, G, w, o, δ', w', S, hf, k⟩ := q
  obtain ⟨d, w1, h1, hf1⟩ := bind_some hf
  obtain ⟨δ1, w2, h2, hf2⟩ := bind_some hf1
  obtain ⟨h3, rfl⟩ := liftO_some h2
  obtain ⟨e, rfl⟩ := pure_some hf2
  cases e
  exact ⟨dr, B, G0, ad, δ, G, w, d, _, S, h1, fun v G1 H1 g1 S1 r1 => ⟨dr, B, G0, ad, δ, G1, _, d, _, S1, r1, h3, fun σ' S' _ _ => k σ' G1 H1 S' g1.g⟩⟩
theorem ss_asg (ha : SE X O false e f) (hg : SG X O tg T) (hs : swapsWithSole [tg] e pos.line X.env = pure false := by rfl) (hw : swappedStores [tg] e X.env = pure none := by rfl)
    (h1 : (assignEach [tg] X.env).map (·.2) = [assign tg X.env] := by rfl) : SS X O (.Assign [tg] e pos) (sAsg T f) :=
  PS.weak (ps_asg ha hg hs hw h1) fun E σ H q => tsOf_asg q
theorem ss_set (i : Nat) {x : Str} {p2 : Pos} (hN : X.N.Nodup) (ha : SE X O false e f) (hO : i ∉ O := by decide) (hi : X.N[i]? = some x := by rfl) (hx : Loc X.env.scope x := by first | exact Or.inl rfl | exact Or.inr rfl) (hs : swapsWith e (some (.Name x p2)) pos.line X.env = pure false := by rfl)
    (hf : X.fn x = true ∨ X.env.scope.names.lookup x = some .local := by first | exact .inl rfl | exact .inr rfl) : SS X O (.Assign [.Name x p2] e pos) (sAsg (.nm i) f) :=
  PS.weak (ps_set hN hi hx ha hs hf) fun E σ H q => by
    obtain ⟨dr, B, G0, ad, δ, G, w, o, δ', w', S, hf, k⟩ := q
    obtain ⟨d, w1, h1, hf1⟩ := bind_some hf
    obtain ⟨δ1, w2, h2, hf2⟩ := bind_some hf1
    obtain ⟨h3, rfl⟩ := liftO_some h2
    obtain ⟨e, rfl⟩ := pure_some hf2
    cases e
    have e' : some (δ.set i (some d)) = some δ' := by rw [← h3, setT]
    cases e'
    exact ⟨dr, B, G0, ad, δ, G, w, d, _, S, h1, fun v G1 H1 g1 S1 r1 => k _ G1 H1 (S1.set hO r1) g1.g⟩
/-- a, b = x, y of two local names -/
def sPar (i j : Nat) (fs : Env → M (List D)) : F1 := fun δ => do
  let xs ← fs δ
  match xs with
  | [x, y] => pure (.nx, (δ.set i (some x)).set j (some y))
  | _ => fail
theorem ss_par (i j : Nat) {x y : Str} {px py pt : Pos} {kt k2 pt2} (hc : X.calm = true) (hN : X.N.Nodup) (ha : SA X O false [a, b] fs) (hO : i ∉ O := by decide) (hO2 : j ∉ O := by decide) (hi : X.N[i]? = some x := by rfl) (hj : X.N[j]? = some y := by rfl) (hij : i ≠ j := by decide)
    (hx : X.env.scope.names.lookup x = some .local := by rfl) (hy : X.env.scope.names.lookup y = some .local := by rfl)
    (hw : swappedStores [.Tuple [.Name x px, .Name y py] kt pt] (.Tuple [a, b] k2 pt2) X.env = pure (some [x, y]) := by rfl)
    (hs : swapsWithSole [.Tuple [.Name x px, .Name y py] kt pt] (.Tuple [a, b] k2 pt2) pos.line X.env = pure false := by rfl) :
    SS X O (.Assign [.Tuple [.Name x px, .Name y py] kt pt] (.Tuple [a, b] k2 pt2) pos) (sPar i j fs) :=
  PS.weak (ps_par hc hN hi hj hij hx hy ha hw hs) fun E σ H ⟨dr, B, G0, ad, δ, G, w, o, δ', w', S, hf, k⟩ => by
    obtain ⟨xs, w1, h1, hf1⟩ := bind_some hf
    refine ⟨dr, B, G0, ad, δ, G, w, xs, w1, S, h1, fun vs G1 H1 g1 S1 r1 => ?_⟩
    match xs, hf1, r1 with
    | [d1, d2], hf1, r1 =>
      obtain ⟨e, rfl⟩ := pure_some hf1
      cases e
      obtain ⟨v, u, rfl, ra, rb⟩ := r1.two
      exact ⟨v, u, rfl, k _ G1 H1 ((S1.set hO ra).set hO2 rb) g1.g⟩
def sIf (t : Env → M Bool) (F F' : F1) : F1 := fun δ => do
  let k ← t δ
  if k = true then F δ else F' δ
theorem ss_if {A C : List Stmt} (hc : ST X O c t) (h1 : SSs X O A F) (h2 : SSs X O C F') : SS X O (.If c A C pos) (sIf t F F') :=
  PS.weak (ps_if hc h1 h2) fun E σ H ⟨dr, B, G0, ad, δ, G, w, o, δ', w', S, hf, k⟩ => by
    obtain ⟨b, w1, h1, hf1⟩ := bind_some hf
    refine ⟨dr, B, G0, ad, δ, G, w, b, w1, S, h1, fun G1 H1 g1 S1 => ?_⟩
    cases b with
    | true =>
      rw [if_pos rfl] at hf1 ⊢
      exact ⟨dr, B, G0, ad, δ, G1, w1, o, δ', w', S1, hf1, k.mono g1.g⟩
    | false =>
      rw [if_neg Bool.false_ne_true] at hf1 ⊢
      exact ⟨dr, B, G0, ad, δ, G1, w1, o, δ', w', S1, hf1, k.mono g1.g⟩
/-- while, at most n turns -/
def whileL : Nat → (Env → M Bool) → F1 → F1
  | 0, _, _ => fun _ => fail
  | n + 1, t, F => fun δ => do
    let k ← t δ
    if k = true then do
      let (o, δ1) ← F δ
      match o with
      | .nx => whileL n t F δ1
      | .ct => whileL n t F δ1
      | .bk => pure (.nx, δ1)
      | .rt d => pure (.rt d, δ1)
      | .ro d => pure (.ro d, δ1)
    else pure (.nx, δ)
theorem ss_while {A : List Stmt} (n : Nat) (hp : PassesOwn (model X.prog X.w) X.A X.env X.xe) (hc : ST X O c t) (h1 : SSs X O A F) : SS X O (.While c A [] pos) (whileL n t F) :=
  PS.weak (ps_while hp hc h1) fun E σ H ⟨dr, B, G0, ad, δ, G, w, o, δ', w', S, hf, k⟩ => by
    refine ⟨fun m σ1 H1 => ∃ δ1 G1 w1, SR ⟨X.K, X.mg, dr, O, B, G0, ad⟩ δ1 σ1 G1 H1 w1 ∧ Sub G G1 ∧ whileL m t F δ1 w1 = some ((o, δ'), w'), ⟨n, δ, G, w, S, Sub.refl G, hf⟩, ?_⟩
    rintro m σ1 H1 ⟨δ1, G1, w1, S1, s1, hm⟩
    cases m with
    | zero => cases hm
    | succ m =>
      obtain ⟨b, w2, h2, hm2⟩ := bind_some hm
      refine ⟨dr, B, G0, ad, δ1, G1, w1, b, w2, S1, h2, fun G2 H2 g2 S2 => ?_⟩
      cases b with
      | false =>
        rw [if_neg Bool.false_ne_true] at hm2 ⊢
        obtain ⟨e, rfl⟩ := pure_some hm2
        cases e
        exact k σ1 G2 H2 S2 (s1.trans g2.g)
      | true =>
        rw [if_pos rfl] at hm2 ⊢
        obtain ⟨⟨o3, δ3⟩, w3, h3, hm3⟩ := bind_some hm2
        refine ⟨fun σ' H' => ∃ δ4 G4 w4, SR ⟨X.K, X.mg, dr, O, B, G0, ad⟩ δ4 σ' G4 H' w4 ∧ Sub G G4 ∧ whileL m t F δ4 w4 = some ((o, δ'), w'), fun σ' H' q => ⟨m, Nat.lt_succ_self m, q⟩, ?_⟩
        refine ⟨dr, B, G0, ad, δ1, G2, w2, o3, δ3, w3, S2, h3, ?_⟩
        cases o3 with
        | nx => exact fun σ' G' H' S' s' => ⟨δ3, G', w3, S', (s1.trans g2.g).trans s', hm3⟩
        | ct => exact fun σ' G' H' S' s' => ⟨δ3, G', w3, S', (s1.trans g2.g).trans s', hm3⟩
        | bk =>
          obtain ⟨e, rfl⟩ := pure_some hm3
          cases e
          exact fun σ' G' H' S' s' => k σ' G' H' S' ((s1.trans g2.g).trans s')
        | rt d =>
          obtain ⟨e, rfl⟩ := pure_some hm3
          cases e
          exact k
        | ro d =>
          obtain ⟨e, rfl⟩ := pure_some hm3
          cases e
          exact k
/-- for -/
def forL (T : Tg) (F : F1) : List D → F1
  | [] => fun δ => pure (.nx, δ)
  | d :: ds => fun δ => do
    let δ1 ← liftO (setT T d δ)
    let (o, δ2) ← F δ1
    match o with
    | .nx => forL T F ds δ2
    | .ct => forL T F ds δ2
    | .bk => pure (.nx, δ2)
    | .rt d => pure (.rt d, δ2)
    | .ro d => pure (.ro d, δ2)
def sFor (T : Tg) (fs : Env → M (List D)) (F : F1) : F1 := fun δ => do
  let ds ← fs δ
  forL T F ds δ
theorem ss_for {A : List Stmt} (hp : PassesOwn (model X.prog X.w) X.A X.env X.xe) (hc : X.calm = true) (hi : SI X O false tg it fs) (hg : SG X O tg T) (hb : SSs X O A F) (hs : ∀ x, foldedSetIterable it X.env x = pure x := by intro _; rfl) : SS X O (.For tg it A [] pos) (sFor T fs F) :=
  PS.weak (ps_for hp hc hi hg hb hs) fun E σ H ⟨dr, B, G0, ad, δ, G, w, o, δ', w', S, hf, k⟩ => by
    obtain ⟨ds, w1, h1, hf1⟩ := bind_some hf
    refine ⟨dr, B, G0, ad, δ, G, w, ds, w1, S, h1, fun J Gs Hs gs Ss W => ?_⟩
    refine ⟨fun i m σ1 H1 => m = ds.length - i ∧ i ≤ ds.length ∧ ∃ δ1 G1 w1, SR ⟨X.K, X.mg, dr, O, B, G0, ad⟩ δ1 σ1 G1 H1 w1 ∧ Sub Gs G1 ∧ forL T F (ds.drop i) δ1 w1 = some ((o, δ'), w'), ⟨_, rfl, Nat.zero_le _, δ, Gs, w1, Ss, Sub.refl _, hf1⟩, ?_⟩
    rintro i m σ1 H1 ⟨rfl, hi, δ1, G1, w2, S1, s1, hm⟩
    have ok : okOf false dr Hs H1 := fun z => nomatch z
    by_cases hlt : i < ds.length
    · refine .inr ⟨W.go i G1 H1 s1 S1.sub ok hlt, fun σ' H' => i + 1 ≤ ds.length ∧ ∃ δ4 G4 w4, SR ⟨X.K, X.mg, dr, O, B, G0, ad⟩ δ4 σ' G4 H' w4 ∧ Sub Gs G4 ∧ forL T F (ds.drop (i + 1)) δ4 w4 = some ((o, δ'), w'), fun σ' H' q => ⟨_, by omega, rfl, q⟩, fun x H2 y => ?_⟩
      obtain ⟨G2, d, hd, gr, rd⟩ := W.yl i G1 H1 x H2 s1 S1.sub ok hlt y
      have ed : ds.drop i = d :: ds.drop (i + 1) := by
        obtain ⟨h', e'⟩ := List.getElem?_eq_some_iff.mp hd
        rw [List.drop_eq_getElem_cons hlt, e']
      rw [ed] at hm
      obtain ⟨δ3, w3, h3, hm3⟩ := bind_some hm
      obtain ⟨h4, rfl⟩ := liftO_some h3
      obtain ⟨⟨o5, δ5⟩, w5, h5, hm5⟩ := bind_some hm3
      refine ⟨dr, B, G0, ad, δ1, G2, _, d, δ3, S1.gr gr, rd, h4, fun σ' S' _ _ => ?_⟩
      refine ⟨dr, B, G0, ad, δ3, G2, _, o5, δ5, w5, S', h5, ?_⟩
      cases o5 with
      | nx => exact fun σ' G' H' S' s' => ⟨hlt, δ5, G', w5, S', (s1.trans gr.g).trans s', hm5⟩
      | ct => exact fun σ' G' H' S' s' => ⟨hlt, δ5, G', w5, S', (s1.trans gr.g).trans s', hm5⟩
      | bk =>
        obtain ⟨e, rfl⟩ := pure_some hm5
        cases e
        exact fun σ' G' H' S' s' => k σ' G' H' S' (((gs.g.trans s1).trans gr.g).trans s')
      | rt d =>
        obtain ⟨e, rfl⟩ := pure_some hm5
        cases e
        exact k
      | ro d =>
        obtain ⟨e, rfl⟩ := pure_some hm5
        cases e
        exact k
    · have e : i = ds.length := by omega
      subst e
      rw [List.drop_length] at hm
      obtain ⟨e, rfl⟩ := pure_some hm
      cases e
      exact .inl ⟨W.st G1 H1 s1 S1.sub ok, k σ1 G1 H1 S1 (gs.g.trans s1)⟩
end
end Fc

/-! Fc, part G: comprehensions, lists of one's own, calls of defs. -/
namespace Fc
open PySem PySem.Spec PyProof.Rows L2

section
variable {X : Cx} {O : List Nat} {al bl cl : Bool} {a b c e tg it : Expr} {es tgs ifs : List Expr} {f g h : Env → M D} {fs : Env → M (List D)} {pos q : Pos} {T : Tg} {Ts : List Tg} {st : Stmt} {sts rest : List Stmt} {F F' : F1} {t : Env → M Bool}
def lcL (T : Tg) (t : Env → M Bool) (f : Env → M D) (δ : Env) : List D → M (List D)
  | [] => pure []
  | d :: ds => do
    let δ1 ← liftO (setT T d δ)
    let k ← t δ1
    if k = true then do
      let y ← f δ1
      let ys ← lcL T t f δ ds
      pure (y :: ys)
    else lcL T t f δ ds
def eLc (own : List Nat) (T : Tg) (fs : Env → M (List D)) (t : Env → M Bool) (f : Env → M D) : Env → M D := fun δ => do
  let ds ← fs δ
  if ds.length ≤ LIM then do
    let ys ← lcL T t f (wipeD δ own) ds
    pure (.lst ys)
  else fail
theorem tf_lc {K : PySem.W.Frag} {mg : Str → Option Value} {own : List Nat} (hT : ∀ i ∈ T.ix, i ∈ own) (hW : ∀ i ∈ own, i + 2000 ∉ O) {σ : L2.St} {H : Hp} {Q : VK} (q : tfOf K mg O (eLc own T fs t f) σ H Q) :
    tLc (tiOf K mg O true fs) (tgOf K mg O T) (ttOf K mg O t) (tOf K mg O false f) own σ H Q := by
  obtain ⟨dr, B, G0, ad, δ, G, w, d, w', S, hf, k⟩ := q
  obtain ⟨ds, w1, h1, hf1⟩ := bind_some hf
  have hlen : ds.length ≤ LIM := by
    by_cases hl : ds.length ≤ LIM
    · exact hl
    · rw [if_neg hl] at hf1
      cases hf1
  rw [if_pos hlen] at hf1
  obtain ⟨ys, w2, h2, hf2⟩ := bind_some hf1
  obtain ⟨e0, rfl⟩ := pure_some hf2
  subst e0
  refine ⟨dr, B, G0, ad, δ, G, w, ds, w1, S, h1, fun J Gs Hs gs Ss W => fun Dn hD => ?_⟩
  have hDne : Dn ≠ dr := fun z => by
    obtain ⟨o, q⟩ := Ss.drS
    have q' : Hs dr = some o := q
    rw [← z, hD] at q'
    cases q'
  have hDG : Gs Dn = none := sub_none Ss.sub hD
  have hDB : B Dn = none := by
    cases q : B Dn with
    | none => rfl
    | some o =>
      have := Ss.bas Dn o hDne q
      rw [hD] at this
      cases this
  have hDH : H Dn = none := by
    cases q : H Dn with
    | none => rfl
    | some o =>
      have := gs.h Dn o hDne q
      rw [hD] at this
      cases this
  have hDO : Away ⟨K, mg, dr, O, B, G0, ad⟩ δ σ Gs Hs Dn := Ss.away hD
  let Iv : Nat → Hp → Prop := fun i H1 => i ≤ ds.length ∧ ∃ (G1 : Hp) (w1 : Dw) (acc : List D) (va : List V) (ys2 : List D), SR ⟨K, mg, dr, O, B, G0, ad⟩ δ σ G1 H1 w1 ∧ Sub Gs G1 ∧ (∀ a o, a ≠ dr → Hs a = some o → H1 a = some o) ∧
    (∃ o, H1 dr = some o) ∧ (∀ a o, Hs a = some o → Gs a = none → G1 a = none) ∧
    H1 Dn = some (.lst va) ∧ G1 Dn = none ∧ RepAll ⟨K, mg, dr, O, B, G0, ad⟩ G1 va acc ∧ acc.length ≤ i ∧ lcL T t f (wipeD δ own) (ds.drop i) w1 = some (ys2, w2) ∧ acc ++ ys2 = ys
  refine ⟨fun i m H1 => m = ds.length - i ∧ Iv i H1, ⟨_, rfl, Nat.zero_le _, Gs, w1, [], [], ys, ?_, Sub.refl _, fun a o n q => ?_, ?_, fun _ _ _ n => n, upd_same, hDG, .nil, Nat.le_refl _, h2, rfl⟩, ?_⟩
  · exact Ss.gr (Gr.laid Ss.sub hD)
  · rw [upd_ne (ne_of_none q hD)]
    exact q
  · obtain ⟨o, q⟩ := Ss.drS
    exact ⟨o, by rw [upd_ne (Ne.symm hDne)]; exact q⟩
  · rintro i m H1 ⟨rfl, hi, G1, w3, acc, va, ys2, S1, s1, b1, dr1, kk1, hva, hG1, rva, hal, hm, hys⟩
    have ok : okOf true dr Hs H1 := fun _ => b1
    by_cases hlt : i < ds.length
    · refine .inr ⟨W.go i G1 H1 s1 S1.sub ok hlt, Iv (i + 1), fun H' q => ⟨_, by omega, rfl, q⟩, fun x H2 y => ?_⟩
      obtain ⟨G2, d0, hd, gr, rd⟩ := W.yl i G1 H1 x H2 s1 S1.sub ok hlt y
      have ed : ds.drop i = d0 :: ds.drop (i + 1) := by
        obtain ⟨h', e'⟩ := List.getElem?_eq_some_iff.mp hd
        rw [List.drop_eq_getElem_cons hlt, e']
      rw [ed] at hm
      obtain ⟨δ3, w4, h3, hm3⟩ := bind_some hm
      obtain ⟨h4, rfl⟩ := liftO_some h3
      obtain ⟨b5, w5, h5, hm5⟩ := bind_some hm3
      have S2 := S1.gr gr
      refine ⟨dr, B, G0, ad, wipeD δ own, G2, _, d0, δ3, S2.wipe own hW, rd, h4, fun σ2 Sσ l2 k2 => ⟨wipe_wipe (wipe_same l2 own fun j hj => k2 j fun z => hj (hT j z)), ?_⟩⟩
      refine ⟨dr, B, G0, ad, δ3, G2, _, b5, w5, Sσ, h5, fun G3 H3 g3 S3 => ?_⟩
      -- the outer state, and what is known of the new list, carried on
      have keep : ∀ (G3 H3 : Hp) (w5 : Dw), Grow ⟨K, mg, dr, O, B, G0, ad⟩ G2 H2 G3 H3 → SR ⟨K, mg, dr, O, B, G0, ad⟩ δ3 σ2 G3 H3 w5 → SR ⟨K, mg, dr, O, B, G0, ad⟩ δ σ G3 H3 w5 ∧ Sub Gs G3 ∧ (∀ a o, a ≠ dr → Hs a = some o → H3 a = some o) ∧ (∃ o, H3 dr = some o) ∧ (∀ a o, Hs a = some o → Gs a = none → G3 a = none) ∧
          H3 Dn = some (.lst va) ∧ G3 Dn = none ∧ RepAll ⟨K, mg, dr, O, B, G0, ad⟩ G3 va acc := fun G3 H3 w5 g3 S3 => by
        have So : SR ⟨K, mg, dr, O, B, G0, ad⟩ δ σ G3 H3 w5 := S2.step g3 S3.sub S3.draw
        refine ⟨So, (s1.trans gr.g).trans g3.g, fun a o n q => g3.h a o n (gr.h a o (b1 a o n q)), So.drS, fun a o q1 q2 => ?_, g3.h _ _ hDne (gr.h _ _ hva), g3.k _ _ (gr.h _ _ hva) (gr.k _ _ hva hG1), rva.mono (gr.g.trans g3.g)⟩
        by_cases z : a = dr
        · rw [z]; exact S3.draw.out
        · have q3 := b1 a o z q1
          exact g3.k a o (gr.h a o q3) (gr.k a o q3 (kk1 a o q1 q2))
      cases b5 with
      | false =>
        rw [if_neg Bool.false_ne_true] at hm5
        show Iv (i + 1) H3
        obtain ⟨S4, s4, b4, dr4, kk4, v4, n4, r4⟩ := keep G3 H3 w5 g3 S3
        exact ⟨hlt, G3, w5, acc, va, ys2, S4, s4, b4, dr4, kk4, v4, n4, r4, by omega, hm5, hys⟩
      | true =>
        rw [if_pos rfl] at hm5
        show tOf K mg O false f σ2 H3 fun y H4 => ∃ acc, H4 Dn = some (HO.lst acc) ∧ acc.length < sizeLine ∧ Iv (i + 1) (upd H4 Dn (HO.lst (acc ++ [y])))
        obtain ⟨y6, w6, h6, hm6⟩ := bind_some hm5
        obtain ⟨ys7, w7, h7, hm7⟩ := bind_some hm6
        obtain ⟨e8, rfl⟩ := pure_some hm7
        refine ⟨dr, B, G0, ad, δ3, G3, w5, y6, w6, S3, h6, fun yv G4 H4 g4 S4 ry => ?_⟩
        obtain ⟨S5, s5, b5, dr5, kk5, v5, n5, r5⟩ := keep G4 H4 w6 (g3.trans g4) S4
        refine ⟨va, v5, lim_lt ?_, hlt, G4, w6, acc ++ [y6], va ++ [yv], ys7, S5.aside n5 hDB (hDO.grow Ss.bd' ⟨s5, b5, fun _ _ => dr5, kk5⟩), s5, fun a o n q => ?_, ?_, kk5, upd_same, n5, r5.append (.cons ry .nil), ?_, h7, ?_⟩
        · rw [rva.length]; omega
        · have hne : a ≠ Dn := fun z => by rw [z, hD] at q; cases q
          rw [upd_ne hne]
          exact b5 a o n q
        · obtain ⟨o, q⟩ := dr5
          exact ⟨o, by rw [upd_ne (Ne.symm hDne)]; exact q⟩
        · rw [List.length_append]
          have : [y6].length = 1 := rfl
          omega
        · rw [← hys, ← e8, List.append_assoc]
          rfl
    · have e : i = ds.length := by omega
      subst e
      rw [List.drop_length] at hm
      obtain ⟨e9, rfl⟩ := pure_some hm
      subst e9
      rw [List.append_nil] at hys
      subst hys
      refine .inl ⟨W.st G1 H1 s1 S1.sub ok, k Dn va acc G1 H1 rfl ⟨gs.g.trans s1, fun a o n q => b1 a o n (gs.h a o n q), fun o q => dr1, fun a o q1 q2 => ?_⟩ S1 hDH hva hG1 hDne rva⟩
      by_cases z : a = dr
      · rw [z]; exact S1.draw.out
      · exact kk1 a o (gs.h a o z q1) (gs.k a o q1 q2)
def STs (X : Cx) (O : List Nat) (ifs : List Expr) (t : Env → M Bool) : Prop := PTs X ifs (ttOf X.K X.mg O t)
theorem PTs.weak {X : Cx} {e : List Expr} {t t' : TT} (h : PTs X e t) (k : ∀ σ H Q, t' σ H Q → t σ H Q) : PTs X e t' := ⟨fun pins s σ H Q I q => h.run pins s σ H Q I (k σ H Q q)⟩
def tYesF : Env → M Bool := fun _ => pure true
theorem sts_nil : STs X O [] tYesF := PTs.weak pts_nil fun σ H Q ⟨dr, B, G0, ad, δ, G, w, d, w', S, hf, k⟩ => by
  obtain ⟨rfl, rfl⟩ := pure_some hf
  exact k G H (.refl _ G H) S
theorem sts_one (h : ST X O c t) : STs X O [c] t := pts_one h
variable {scope : Scope} {own : List (Str × Nat)} {ix : List Nat}
theorem sf_lc (hc : X.calm = true) (hN : X.N.Nodup) (hi : SI X O al tg it fs) (ok : BlkOk X.N X.env.scope scope own) (hT : ∀ i ∈ T.ix, i ∈ ix)
    (hg : ∀ (s : Shared) (H : Hp) (C : Addr) (cl : List (Str × Addr)) (fp : List Addr), SG (X.blk s H scope (compEnvC scope cl C X.env) fp) O tg T) (ht : ∀ (s : Shared) (H : Hp) (C : Addr) (cl : List (Str × Addr)) (fp : List Addr), STs (X.blk s H scope (compEnvC scope cl C X.env) fp) O ifs t)
    (he : ∀ (s : Shared) (H : Hp) (C : Addr) (cl : List (Str × Addr)) (fp : List Addr), SE (X.blk s H scope (compEnvC scope cl C X.env) fp) O false e f) (hs : ∀ x, foldedSetIterable it X.env x = pure x := by intro _; rfl) (hx : own.map (·.2) = ix := by rfl) (hW : ∀ i ∈ ix, i + 2000 ∉ O := by decide) :
    SF X O (.ListComp e [⟨tg, it, ifs, 0⟩] scope pos) (eLc ix T fs t f) :=
  PE.weak (pe_lc (g := tgOf X.K X.mg O T) (tt := ttOf X.K X.mg O t) (te := tOf X.K X.mg O false f) hc hN (SI.any hi) ok hg ht he hs) fun _ _ _ q => by subst hx; exact tf_lc hT hW q
theorem se_lc (hc : X.calm = true) (hN : X.N.Nodup) (hi : SI X O al tg it fs) (ok : BlkOk X.N X.env.scope scope own) (hT : ∀ i ∈ T.ix, i ∈ ix)
    (hg : ∀ (s : Shared) (H : Hp) (C : Addr) (cl : List (Str × Addr)) (fp : List Addr), SG (X.blk s H scope (compEnvC scope cl C X.env) fp) O tg T) (ht : ∀ (s : Shared) (H : Hp) (C : Addr) (cl : List (Str × Addr)) (fp : List Addr), STs (X.blk s H scope (compEnvC scope cl C X.env) fp) O ifs t)
    (he : ∀ (s : Shared) (H : Hp) (C : Addr) (cl : List (Str × Addr)) (fp : List Addr), SE (X.blk s H scope (compEnvC scope cl C X.env) fp) O false e f) (hs : ∀ x, foldedSetIterable it X.env x = pure x := by intro _; rfl) (hx : own.map (·.2) = ix := by rfl) (hW : ∀ i ∈ ix, i + 2000 ∉ O := by decide) :
    SE X O false (.ListComp e [⟨tg, it, ifs, 0⟩] scope pos) (eLc ix T fs t f) := se_new (sf_lc hc hN hi ok hT hg ht he hs hx hW)

/-! ### a new list given to a name -/
theorem tfOf_e {K : PySem.W.Frag} {mg : Str → Option Value} {σ : L2.St} {H : Hp} {Q : VK} (q : tOf K mg O false f σ H Q) : tfOf K mg O f σ H Q := by
  obtain ⟨dr, B, G0, ad, δ, G, w, d, w', S, hf, k⟩ := q
  refine ⟨dr, B, G0, ad, δ, G, w, d, w', S, hf, fun a vs ds G1 H1 ed g1 S1 h0 h1 h2 hne r => ?_⟩
  subst ed
  have sb : Sub (upd G1 a (.lst vs)) H1 := fun b o q => by
    by_cases hb : b = a
    · subst hb
      rw [upd_same] at q
      cases q
      exact h1
    · rw [upd_ne hb] at q
      exact S1.sub b o q
  have sg : Sub G1 (upd G1 a (.lst vs)) := fun b o q => by
    rw [upd_ne (ne_of_none q h2)]
    exact q
  have sk : ∀ b o, H b = some o → G b = none → (upd G1 a (HO.lst vs)) b = none := fun b o q1 q2 => by
    have hb : b ≠ a := fun z => by rw [z, h0] at q1; cases q1
    rw [upd_ne hb]
    exact g1.k b o q1 q2
  have gg : Grow ⟨K, mg, dr, O, B, G0, ad⟩ G H (upd G1 a (.lst vs)) H1 := ⟨g1.g.trans sg, g1.h, g1.hd, sk⟩
  have dd : DrawAt ⟨K, mg, dr, O, B, G0, ad⟩ w' (upd G1 a (.lst vs)) H1 := by
    obtain ⟨ok, ⟨sc, d1, d2⟩, d3⟩ := S1.draw
    exact ⟨ok, ⟨sc, d1, sub_l sg d2⟩, by rw [upd_ne (fun z => hne z.symm)]; exact d3⟩
  exact k _ (upd G1 a (.lst vs)) H1 gg (S.step gg sb dd) (.lst upd_same (r.mono sg))
/-- y = [..], y a plain slot: the list stands still from then on -/
theorem ss_setLc (i : Nat) {y : Str} {py spos : Pos} (hc : X.calm = true) (hN : X.N.Nodup) (hi : SI X O al tg it fs) (ok : BlkOk X.N X.env.scope scope own) (hT : ∀ j ∈ T.ix, j ∈ ix)
    (hg : ∀ (s : Shared) (H : Hp) (C : Addr) (cl : List (Str × Addr)) (fp : List Addr), SG (X.blk s H scope (compEnvC scope cl C X.env) fp) O tg T) (ht : ∀ (s : Shared) (H : Hp) (C : Addr) (cl : List (Str × Addr)) (fp : List Addr), STs (X.blk s H scope (compEnvC scope cl C X.env) fp) O ifs t)
    (he : ∀ (s : Shared) (H : Hp) (C : Addr) (cl : List (Str × Addr)) (fp : List Addr), SE (X.blk s H scope (compEnvC scope cl C X.env) fp) O false e f)
    (hO : i ∉ O := by decide) (hy : X.N[i]? = some y := by rfl) (hyl : X.env.scope.names.lookup y = some .local := by rfl) (hsw : swapsWith (.ListComp e [⟨tg, it, ifs, 0⟩] scope pos) (some (.Name y py)) spos.line X.env = pure true := by exact sw_true rfl rfl rfl (by decide +kernel)) (hs : ∀ x, foldedSetIterable it X.env x = pure x := by intro _; rfl) (hx : own.map (·.2) = ix := by rfl) (hW : ∀ i ∈ ix, i + 2000 ∉ O := by decide) :
    SS X O (.Assign [.Name y py] (.ListComp e [⟨tg, it, ifs, 0⟩] scope pos) spos) (sAsg (.nm i) (eLc ix T fs t f)) :=
  PS.weak (ps_setLc (g := tgOf X.K X.mg O T) (tt := ttOf X.K X.mg O t) (te := tOf X.K X.mg O false f) hc hN hy hyl hsw (SI.any hi) ok hg ht he hs) fun E σ H q => by
    subst hx
    refine tf_lc hT hW (tfOf_e ?_)
    obtain ⟨dr, B, G0, ad, δ, G, w, o, δ', w', S, hf, k⟩ := q
    obtain ⟨d, w1, h1, hf1⟩ := bind_some hf
    obtain ⟨δ1, w2, h2, hf2⟩ := bind_some hf1
    obtain ⟨h3, rfl⟩ := liftO_some h2
    obtain ⟨e, rfl⟩ := pure_some hf2
    cases e
    have e' : some (δ.set i (some d)) = some δ' := by rw [← h3, setT]
    cases e'
    exact ⟨dr, B, G0, ad, δ, G, w, d, _, S, h1, fun v G1 H1 g1 S1 r1 => k _ G1 H1 (S1.set hO r1) g1.g⟩
/-- a name of O takes a new list -/
theorem tfOf_own {K : PySem.W.Frag} {mg : Str → Option Value} {i : Nat} {E : Ends} {σ : L2.St} {H : Hp} (hO : i ∈ O) (hP : i + 2000 ∉ O) (hR : i + 1000 ∉ O) (q : tsOf K mg O (sAsg (.nm i) f) E σ H) : tfOf K mg O f σ H (fun x H1 => gName i x σ H1 E.nx) := by
  obtain ⟨dr, B, G0, ad, δ, G, w, o, δ', w', S, hf, k⟩ := q
  obtain ⟨d, w1, h1, hf1⟩ := bind_some hf
  obtain ⟨δ1, w2, h2, hf2⟩ := bind_some hf1
  obtain ⟨h3, rfl⟩ := liftO_some h2
  obtain ⟨e, rfl⟩ := pure_some hf2
  cases e
  have e' : some (δ.set i (some d)) = some δ' := by rw [← h3, setT]
  cases e'
  refine ⟨dr, B, G0, ad, δ, G, w, d, _, S, h1, fun a vs ds G1 H1 ed g1 S1 z0 z1 z2 hne r => ?_⟩
  subst ed
  have hB : B a = none := by
    cases q : B a with
    | none => rfl
    | some o => have := S.bas a o hne q; rw [z0] at this; cases this
  exact k _ G1 H1 (S1.setO (i := i) hO hP hR z1 z2 hB ((S.away z0).grow S.bd' g1) r) g1.g
theorem ss_setO (i : Nat) {x : Str} {p2 : Pos} (hN : X.N.Nodup) (ha : SF X O e f) (hO : i ∈ O := by decide) (hP : i + 2000 ∉ O := by decide) (hR : i + 1000 ∉ O := by decide) (hi : X.N[i]? = some x := by rfl) (hx : Loc X.env.scope x := by first | exact Or.inl rfl | exact Or.inr rfl) (hs : swapsWith e (some (.Name x p2)) pos.line X.env = pure false := by rfl)
    (hf : X.fn x = true ∨ X.env.scope.names.lookup x = some .local := by first | exact .inl rfl | exact .inr rfl) : SS X O (.Assign [.Name x p2] e pos) (sAsg (.nm i) f) :=
  PS.weak (ps_set hN hi hx ha hs hf) fun E σ H q => tfOf_own hO hP hR q
theorem ss_setLcO (i : Nat) {y : Str} {py spos : Pos} (hc : X.calm = true) (hN : X.N.Nodup) (hi : SI X O al tg it fs) (ok : BlkOk X.N X.env.scope scope own) (hT : ∀ j ∈ T.ix, j ∈ ix)
    (hg : ∀ (s : Shared) (H : Hp) (C : Addr) (cl : List (Str × Addr)) (fp : List Addr), SG (X.blk s H scope (compEnvC scope cl C X.env) fp) O tg T) (ht : ∀ (s : Shared) (H : Hp) (C : Addr) (cl : List (Str × Addr)) (fp : List Addr), STs (X.blk s H scope (compEnvC scope cl C X.env) fp) O ifs t)
    (he : ∀ (s : Shared) (H : Hp) (C : Addr) (cl : List (Str × Addr)) (fp : List Addr), SE (X.blk s H scope (compEnvC scope cl C X.env) fp) O false e f)
    (hO : i ∈ O := by decide) (hP : i + 2000 ∉ O := by decide) (hR : i + 1000 ∉ O := by decide) (hy : X.N[i]? = some y := by rfl) (hyl : X.env.scope.names.lookup y = some .local := by rfl) (hsw : swapsWith (.ListComp e [⟨tg, it, ifs, 0⟩] scope pos) (some (.Name y py)) spos.line X.env = pure true := by exact sw_true rfl rfl rfl (by decide +kernel)) (hs : ∀ x, foldedSetIterable it X.env x = pure x := by intro _; rfl) (hx : own.map (·.2) = ix := by rfl) (hW : ∀ i ∈ ix, i + 2000 ∉ O := by decide) :
    SS X O (.Assign [.Name y py] (.ListComp e [⟨tg, it, ifs, 0⟩] scope pos) spos) (sAsg (.nm i) (eLc ix T fs t f)) :=
  PS.weak (ps_setLc (g := tgOf X.K X.mg O T) (tt := ttOf X.K X.mg O t) (te := tOf X.K X.mg O false f) hc hN hy hyl hsw (SI.any hi) ok hg ht he hs) fun E σ H q => by subst hx; exact tf_lc hT hW (tfOf_own hO hP hR q)
/-! ### a list of one's own is changed -/
/-- the list in slot i becomes what op says -/
def chg (i : Nat) (op : List D → Option (List D)) (δ : Env) : Option Env := match δ[i]? with
  | some (some (.lst ds)) => (op ds).map fun ds' => δ.set i (some (.lst ds'))
  | _ => none
theorem chg_some {i : Nat} {op : List D → Option (List D)} {δ δ' : Env} (h : chg i op δ = some δ') : ∃ ds ds', δ[i]? = some (some (.lst ds)) ∧ op ds = some ds' ∧ δ' = δ.set i (some (.lst ds')) := by
  unfold chg at h
  cases q : δ[i]? with
  | none => rw [q] at h; cases h
  | some o =>
    cases o with
    | none => rw [q] at h; cases h
    | some d =>
      cases d <;> try (rw [q] at h; cases h; done)
      rename_i ds
      rw [q] at h
      cases q2 : op ds with
      | none => simp [q2] at h
      | some ds' =>
        have h' : some (δ.set i (some (.lst ds'))) = some δ' := by rw [← h]; simp [q2]
        exact ⟨ds, ds', rfl, q2, (Option.some.inj h').symm⟩
def opApp (d : D) (ds : List D) : Option (List D) := if ds.length < LIM then some (ds ++ [d]) else none
def sApp (i : Nat) (f : Env → M D) : F1 := fun δ => do
  let d ← f δ
  let δ' ← liftO (chg i (opApp d) δ)
  pure (.nx, δ')
theorem tyV_lst {K : PySem.W.Frag} {H : Hp} {a : Addr} {vs : List V} (h : H a = some (.lst vs)) : tyV K "list" (.ref a) H := Or.inl ⟨rfl, _, Or.inl (Or.inl h)⟩
theorem ss_app (i : Nat) {x : Str} {p2 p3 : Pos} (ha : SE X O false e f) (hO : i ∈ O := by decide) (hR : i + 1000 ∉ O := by decide) (hN : X.N[i]? = some x := by rfl) (hv : Vis X.env.scope x := by first | exact Or.inl rfl | exact Or.inr (Or.inl rfl)) (hs : swapsWith (.Call (.Attribute (.Name x p2) "append" p3) [e] [] q) none pos.line X.env = pure false := by rfl)
    (hd : (x == ("__debug__" : Str)) = false := by decide) (hcd : (x == ("__classdict__" : Str)) = false := by decide) (he : starEach [e] X.env = (false, eval e X.env) :: starEach [] X.env := by rfl)
    (hbase : attributeBase (.Name x p2) "append" X.env (eval (.Name x p2) X.env) = eval (.Name x p2) X.env := by rfl)
    (hfew : ((backTo q (starEach [e] X.env)).all (fun x => !x.1) && (backToKw q (keywordEach [] X.env)).all (fun x => x.1.isSome)
      && decide ([e].length + ([] : List Keyword).length + (if ([] : List Keyword).isEmpty then 0 else 1) < 30)) = true := by rfl)
    (hline : (p3.endLine == q.line) = true := by rfl) (hplain : (backTo q (starEach [] X.env)).any (·.1) = false := by rfl) :
    SS X O (.Expr (.Call (.Attribute (.Name x p2) "append" p3) [e] [] q) pos) (sApp i f) :=
  have hpe : PE X (.Call (.Attribute (.Name x p2) "append" p3) [e] [] q) (tBM X.K "list" rAppend (tVar i) (tCons (tOf X.K X.mg O false f) tNil)) :=
    pe_bm PySem.F.plainAttrs_list PySem.F.slot_list_append PySem.F.type_list_append mt_append (pe_var hN (by rcases hv with h | h; exact .inl h; exact .inr h) hd hcd) (pa_cons ha pa_nil he) hbase hfew hline he hplain
  PS.weak (ps_expr hpe hs) fun E σ H ⟨dr, B, G0, ad, δ, G, w, o, δ', w', S, hf, k⟩ => by
    obtain ⟨d, w1, h1, hf1⟩ := bind_some hf
    obtain ⟨δ1, w2, h2, hf2⟩ := bind_some hf1
    obtain ⟨h3, rfl⟩ := liftO_some h2
    obtain ⟨e, rfl⟩ := pure_some hf2
    cases e
    obtain ⟨ds, ds', e1, e2, e3⟩ := chg_some h3
    subst e3
    obtain ⟨a, vs, z1, z2, z3, z4, z5⟩ := S.own1 hO e1
    refine ⟨.ref a, z1, tyV_lst z2, dr, B, G0, ad, δ, G, w, d, _, S, h1, fun v G1 H1 g1 S1 r1 => ?_⟩
    obtain ⟨a', vs', y1, y2, y3, y4, y5⟩ := S1.own1 hO e1
    rw [z1] at y1
    cases y1
    have hl : ds.length < LIM ∧ ds' = ds ++ [d] := by
      unfold opApp at e2
      split at e2
      · rename_i hl
        exact ⟨hl, (Option.some.inj e2).symm⟩
      · cases e2
    refine ⟨a, vs', v, rfl, rfl, y2, lim_lt (by rw [y5.length]; exact hl.1), ?_⟩
    rw [hl.2] at k
    exact k σ G1 _ (S1.mut hO hR e1 z1 y2 (y5.append (.cons r1 .nil))) g1.g
end
end Fc

/-! Fc, part H: defs and their calls; the drawing list; a law's own def. -/
namespace Fc
open PySem PySem.Spec PyProof.Rows L2

theorem Rep.to' {K : PySem.W.Frag} {mg : Str → Option Value} {dr : Addr} {O O' : List Nat} {ad ad' : Nat → Addr} {B B' G0 G0' G : Hp} {v : V} {d : D} (h : Rep ⟨K, mg, dr, O, B, G0, ad⟩ G v d) : Rep ⟨K, mg, dr, O', B', G0', ad'⟩ G v d := Rep.to (by rfl) (by rfl) (by rfl) h
theorem RepAll.to' {K : PySem.W.Frag} {mg : Str → Option Value} {dr : Addr} {O O' : List Nat} {ad ad' : Nat → Addr} {B B' G0 G0' G : Hp} {v : List V} {d : List D} (h : RepAll ⟨K, mg, dr, O, B, G0, ad⟩ G v d) : RepAll ⟨K, mg, dr, O', B', G0', ad'⟩ G v d := RepAll.to (by rfl) (by rfl) (by rfl) h
/-- what a def promises that computes F -/
def spOf (K : PySem.W.Frag) (mg : Str → Option Value) (F : List D → M D) : Sp := fun vs H Q _ => ∃ (dr : Addr) (G : Hp) (w : Dw) (ds : List D) (d : D) (w' : Dw), Sub G H ∧ DrawAt ⟨K, mg, dr, [], H, G, fun _ => 0⟩ w G H ∧ RepAll ⟨K, mg, dr, [], H, G, fun _ => 0⟩ G vs ds ∧ F ds w = some (d, w') ∧
  ∀ v G' H', Fin ⟨K, mg, dr, [], H, G, fun _ => 0⟩ w' G' H' → Rep ⟨K, mg, dr, [], H, G, fun _ => 0⟩ G' v d → Q v H'
def eDef (F : List D → M D) (fs : Env → M (List D)) : Env → M D := fun δ => do
  let xs ← fs δ
  F xs
section
variable {X : Cx} {O : List Nat} {e : Expr} {es : List Expr} {fs : Env → M (List D)} {F : List D → M D} {k : Nat} {f : Addr} {fd : FuncData} {ps : List Str} {x : Str} {p pos : Pos}
theorem tOf_def {K : PySem.W.Frag} {mg : Str → Option Value} {σ : L2.St} {H : Hp} {Q : VK} (q : tOf K mg O false (eDef F fs) σ H Q) : tCall (spOf K mg F) [] E0 (taOf K mg O false fs) σ H Q := by
  obtain ⟨dr, B, G0, ad, δ, G, w, d, w', S, hf, k⟩ := q
  obtain ⟨xs, w1, h1, hf1⟩ := bind_some hf
  refine ⟨dr, B, G0, ad, δ, G, w, xs, w1, S, h1, fun vs G1 H1 g1 S1 r1 => ?_⟩
  show spOf K mg F (vs ++ []) H1 Q E0
  rw [List.append_nil]
  refine ⟨dr, G1, w1, xs, d, w', S1.sub, ⟨S1.draw.ok, S1.draw.at_, S1.draw.out⟩, RepAll.to' r1.all, hf1, fun v G2 H2 n r => ?_⟩
  have gr : Grow ⟨K, mg, dr, O, B, G0, ad⟩ G1 H1 G2 H2 := ⟨n.g0, fun a o ne q => n.bas a o ne q, fun o q => let ⟨_, z, _⟩ := n.draw.at_; ⟨_, z⟩, fun a o q1 q2 => n.kp a o q1 q2⟩
  exact k v G2 H2 (g1.trans gr) (S1.step gr n.sub ⟨n.draw.ok, n.draw.at_, n.draw.out⟩) (Rep.to' r)
theorem se_def (Fk : FnOk X.prog X.w X.K X.mg X.base CX0 k f fd ps (spOf X.K X.mg F)) (hr : Room k X.A) (hg : Gl X x) (hm : X.mg x = some (.ref f)) (hk : PySem.W.keepIn X.K (.ref f) = true) (hb : Binds X.K fd ps []) (ha : SA X O false (e :: es) fs)
    (hdb : (x == ("__debug__" : Str)) = false := by decide) (he : starEach (e :: es) X.env = (false, eval e X.env) :: starEach es X.env := by rfl) (hpl : (backTo pos (starEach es X.env)).any (·.1) = false := by rfl) :
    SE X O false (.Call (.Name x p) (e :: es) [] pos) (eDef F fs) :=
  PE.weak (pe_call (dvs := []) (ds := []) (E := E0) Fk hr hg hm hk hb .nil pass0 ha hdb he hpl) fun σ H Q q => tOf_def q
end

/-- a body with its parameters, as a function on data: n parameters, m slots -/
def bodyF (n m : Nat) (F : F1) (ds : List D) : M D := if ds.length = n then do
    let (o, _) ← F (ds.map some ++ List.replicate (m - ds.length) none)
    match o with
    | .rt d => pure d
    | .nx => pure .non
    | _ => fail
  else fail
section
variable {P : Program} {w : World} {K : PySem.W.Frag} {mg : Str → Option Value} {base : Heap}
theorem start_get {N : Nat} {ds : List D} {i : Nat} {d : D} (h : (ds.map some ++ List.replicate (N - ds.length) none)[i]? = some (some d)) : ds[i]? = some d ∧ i < ds.length := by
  by_cases hi : i < ds.length
  · rw [List.getElem?_append_left (by simpa using hi), List.getElem?_map] at h
    cases q : ds[i]? with
    | none => rw [q] at h; cases h
    | some e =>
      rw [q] at h
      have h' : some (some e) = some (some d) := h
      cases h'
      exact ⟨rfl, hi⟩
  · rw [List.getElem?_append_right (by simpa using hi)] at h
    rw [List.getElem?_replicate] at h
    split at h
    · cases h
    · cases h
theorem fn_ok {x qual : Str} {st : Stmt} {f : Addr} {fd : FuncData} {N ps : List Str} {k : Nat} {O : List Nat} {F : F1} (Fu : Fun K x qual st f fd) (sc : FnScope N ps (defScope st)) (hO : ∀ i ∈ O, ps.length ≤ i) (hO2 : ∀ i ∈ O, i < 1000) (hN : ps.length ≤ N.length)
    (hb : ∀ (cdv : Value) (A : Around) (outer : List PySem.Env) (s : Shared) (H : Hp) (E : XK), Room k (A.deeper (envOfC qual (defScope st) s.heap.objs.size f cdv)) → SSs (cxOf CX0 P w K mg base N qual (defScope st) f cdv A outer s H E).nox O (defBody st) F) :
    FnOk P w K mg base CX0 (k + 1) f fd ps (spOf K mg (bodyF ps.length N.length F)) := by
  refine Fu.ok sc (fun vs H Q E h => ?_) (fun cdv A outer s H vs Q E hr h => ?_)
  · obtain ⟨dr, G, w, ds, d, w', hs, hd, r, hf, q⟩ := h
    rw [r.length]
    unfold bodyF at hf
    split at hf
    · assumption
    · cases hf
  · obtain ⟨dr, G, w1, ds, d, w', hs, hd, r, hf, q⟩ := h
    have hlen : ds.length = ps.length := by
      unfold bodyF at hf
      split at hf
      · assumption
      · cases hf
    unfold bodyF at hf
    rw [if_pos hlen] at hf
    obtain ⟨⟨o, δ'⟩, w2, h1, hf1⟩ := bind_some hf
    refine ⟨_, hb cdv A outer s H E hr, dr, H, G, fun _ => 0, ds.map some ++ List.replicate (N.length - ds.length) none, G, w1, o, δ', w2, ⟨hs, Sub.refl G, fun _ _ _ q => q, ?_, ?_, fun i e hi n m => ?_, fun i e hi n => ?_, ⟨fun _ => none, fun i e hi n l => ?_⟩, fun i n => ?_, ⟨hd.ok, hd.at_, hd.out⟩, fun _ _ _ n => n⟩, h1, ?_⟩
    · obtain ⟨_, z, _⟩ := hd.at_
      exact ⟨_, z⟩
    · unfold L2.start
      rw [List.length_append, List.length_append, List.length_map, List.length_map, List.length_replicate, List.length_replicate, r.length]
    · obtain ⟨z1, z2⟩ := start_get hi
      obtain ⟨v, e1, r1⟩ := r.get z1
      refine ⟨v, ?_, Rep.to' r1⟩
      unfold L2.start
      rw [List.getElem?_append_left (by rw [List.length_map, r.length]; exact z2), List.getElem?_map, e1]
      rfl
    · exact absurd (hO2 _ n) (by omega)
    · obtain ⟨z1, z2⟩ := start_get hi
      exact absurd (hO i n) (by omega)
    · exact absurd (hO2 _ n) (by omega)
    · cases o with
      | nx =>
        obtain ⟨e, rfl⟩ := pure_some hf1
        subst e
        exact fun σ' G' H' S _ => q .non G' H' ⟨S.sub, S.g0, S.bas, S.kp, ⟨S.draw.ok, S.draw.at_, S.draw.out⟩⟩ .non
      | rt d' =>
        obtain ⟨e, rfl⟩ := pure_some hf1
        subst e
        exact fun v G' H' n _ r' => q v G' H' ⟨n.sub, n.g0, n.bas, n.kp, ⟨n.draw.ok, n.draw.at_, n.draw.out⟩⟩ (Rep.to' r')
      | bk => cases hf1
      | ct => cases hf1
      | ro d' => cases hf1
/-- a def that promises nothing -/
theorem fn_none {f : Addr} {fd : FuncData} {ps : List Str} {k : Nat} : FnOk P w K mg base CX0 k f fd ps (spOf K mg fun _ => fail) := by
  refine ⟨fun vs H Q E h => ?_, fun A outer s H args us vs Q E hr he hb hv h => ?_⟩
  · obtain ⟨_, _, _, _, _, _, _, _, _, hf, _⟩ := h
    cases hf
  · obtain ⟨_, _, _, _, _, _, _, _, _, hf, _⟩ := h
    cases hf
end

/-! ### the drawing -/
def cellOf (w : Dw) : Int := let c := w.sc.getD w.ix.toNat 0; if c < 0 then -c else c
def seedOut (s m : Int) : Int := s * 69621 % 2147483629 / 7 % m
def nextW (m : Int) (w : Dw) : Int × Dw :=
  if 0 < w.big then (w.big % m, { w with big := w.big / m })
  else if w.ix < (w.sc.length : Int) then
    if 1000000000000000000 ≤ cellOf w then (cellOf w % m, { w with ix := w.ix + 1, big := cellOf w / m })
    else (seedOut ((w.seed * 48271 + cellOf w + 11) % 2147483647) m, { w with ix := w.ix + 1, seed := (w.seed * 48271 + cellOf w + 11) % 2147483647 })
  else (seedOut ((w.seed * 48271 + 12345) % 2147483647) m, { w with seed := (w.seed * 48271 + 12345) % 2147483647 })
def nextF : List D → M D
  | [.drw, .int m] => fun w => if 0 < m ∧ m < 1073741824 then some (.int (nextW m w).1, (nextW m w).2) else none
  | _ => fail
theorem cell_nn (w : Dw) : 0 ≤ cellOf w := by
  unfold cellOf
  dsimp only
  split <;> omega
theorem nextW_ok {m : Int} {w : Dw} (h : w.Ok) (hm : 0 < m) : (nextW m w).2.Ok := by
  obtain ⟨h1, h2, h3, h4, h5⟩ := h
  have hc := cell_nn w
  unfold nextW
  split
  · exact ⟨h1, h2, Int.ediv_nonneg h3 (by omega), h4, h5⟩
  · split
    · split
      · exact ⟨h1, by show 0 ≤ w.ix + 1; omega, Int.ediv_nonneg hc (by omega), h4, h5⟩
      · exact ⟨h1, by show 0 ≤ w.ix + 1; omega, h3, Int.emod_nonneg _ (by omega), Int.emod_lt_of_pos _ (by omega)⟩
    · exact ⟨h1, h2, h3, Int.emod_nonneg _ (by omega), Int.emod_lt_of_pos _ (by omega)⟩
theorem nextW_lt {m : Int} {w : Dw} (hm : 0 < m) : 0 ≤ (nextW m w).1 ∧ (nextW m w).1 < m := by
  unfold nextW seedOut
  split
  · exact ⟨Int.emod_nonneg _ (by omega), Int.emod_lt_of_pos _ hm⟩
  · split
    · split
      · exact ⟨Int.emod_nonneg _ (by omega), Int.emod_lt_of_pos _ hm⟩
      · exact ⟨Int.emod_nonneg _ (by omega), Int.emod_lt_of_pos _ hm⟩
    · exact ⟨Int.emod_nonneg _ (by omega), Int.emod_lt_of_pos _ hm⟩
section
variable (K : PySem.W.Frag)
def nxIx (i : Int) : TE := tOp (rIxL K) (tVar 0) (tC (.int i))
def nxInt (t : TE) : TE := tCB (fun xs H Q => (∃ i, xs = [.int i] ∧ Q (.int i) H) ∨ ∃ k, xs = [.bl k] ∧ Q (.int (if k then 1 else 0)) H) (tCons t tNil)
def nxMod (t u : TE) : TE := tOp (rI (fun _ j => j ≠ 0) fun i j => .int (i.fmod j)) t u
def nxDiv (t u : TE) : TE := tOp (rI CDivN fun i j => .int (i.fdiv j)) t u
def nxMul (t u : TE) : TE := tOp (rI CMul fun i j => .int (i * j)) t u
def nxAdd (t u : TE) : TE := tOp (rI0 fun i j => .int (i + j)) t u
def nxSet (i : Int) (t : TE) : TS := tAsg t (gSub (tVar 0) (tC (.int i)) rSetL)
/-- the reading of _law_next's body -/
def tNx : TS :=
  tSeq (tIfS (tTest (tOp (rI0 fun i j => .bl (decide (j < i))) (nxIx K 2) (tC (.int 0)))) (tSeq (tAsg (nxMod (nxInt (nxIx K 2)) (tVar 1)) (gName 2)) (tSeq (nxSet 2 (nxDiv (nxIx K 2) (tVar 1))) (tRet (tVar 2)))) tNext)
  (tSeq (tIfS (tTest (tOp (rI0 fun i j => .bl (decide (i < j))) (nxIx K 1) (tCB (rLenA K) (tCons (nxIx K 0) tNil))))
    (tSeq (tAsg (tCB (fun xs H Q => ∃ i, xs = [.int i] ∧ Q (.int (if i < 0 then -i else i)) H) (tCons (tOp (rIxL K) (nxIx K 0) (nxIx K 1)) tNil)) (gName 3))
    (tSeq (nxSet 1 (nxAdd (nxIx K 1) (tC (.int 1))))
    (tSeq (tIfS (tTest (tOp (rI0 fun i j => .bl (decide (j ≤ i))) (tVar 3) (tOp (rI CPow fun i j => .int (i ^ j.toNat)) (tC (.int 10)) (tC (.int 18))))) (tSeq (nxSet 2 (nxDiv (tVar 3) (tVar 1))) (tRet (nxMod (nxInt (tVar 3)) (tVar 1)))) tNext)
    (nxSet 3 (nxMod (nxInt (nxAdd (nxAdd (nxMul (nxIx K 3) (tC (.int 48271))) (tVar 3)) (tC (.int 11)))) (tC (.int 2147483647)))))))
    (nxSet 3 (nxMod (nxInt (nxAdd (nxMul (nxIx K 3) (tC (.int 48271))) (tC (.int 12345)))) (tC (.int 2147483647)))))
  (tRet (nxMod (nxDiv (nxInt (nxMod (nxMul (nxIx K 3) (tC (.int 69621))) (tC (.int 2147483629)))) (tC (.int 7))) (tVar 1))))
variable {K}
theorem nx_ix {i : Int} {σ : L2.St} {H : Hp} {Q : VK} {dr : Addr} {xs : List V} {v : V} (h : σ[0]? = some (some (.ref dr))) (hd : H dr = some (.lst xs)) (hv : atI xs i = some v) (q : Q v H) : nxIx K i σ H Q := ⟨_, h, dr, xs, i, v, rfl, rfl, SqL.of hd, hv, q⟩
theorem fmod_pos {a b : Int} (h : 0 < b) : a.fmod b = a % b := by rw [Int.fmod_eq_emod_of_nonneg _ (by omega)]
theorem fdiv_pos {a b : Int} (h : 0 < b) : a.fdiv b = a / b := by rw [Int.fdiv_eq_ediv_of_nonneg _ (by omega)]
theorem nx_reads {m : Int} {w : Dw} {dr sc : Addr} {H : Hp} {Q : VK} (hok : w.Ok) (hm : 0 < m ∧ m < 1073741824) (hd : H dr = some (.lst [.ref sc, .int w.ix, .int w.big, .int w.seed])) (hs : ∀ H' : Hp, (∀ b o, b ≠ dr → H b = some o → H' b = some o) → SqL K H' sc (w.sc.map V.int))
    (q : Q (.int (nextW m w).1) (upd H dr (.lst [.ref sc, .int (nextW m w).2.ix, .int (nextW m w).2.big, .int (nextW m w).2.seed]))) : tNx K { nx := fun _ H' => Q .non H', rt := Q } [some (.ref dr), some (.int m), none, none] H := by
  obtain ⟨h1, h2, h3, h4, h5⟩ := hok
  have hc := cell_nn w
  have mn : m ≠ 0 := by omega
  have hup : ∀ xs ys : List V, upd (upd H dr (.lst xs)) dr (.lst ys) = upd H dr (.lst ys) := fun xs ys => upd_upd
  refine nx_ix rfl hd rfl ⟨_, _, rfl, rfl, _, rfl, ?_⟩
  unfold nextW at q
  by_cases hb : 0 < w.big
  · rw [if_pos hb] at q
    rw [decide_eq_true hb]
    refine iteT ?_
    refine nx_ix rfl hd rfl (.inl ⟨_, rfl, _, rfl, _, _, rfl, rfl, mn, ?_⟩)
    refine nx_ix rfl hd rfl ⟨_, rfl, _, _, rfl, rfl, ⟨mn, by omega⟩, _, rfl, dr, _, 2, 2, rfl, rfl, hd, rfl, ?_⟩
    refine ⟨_, rfl, ?_⟩
    show Q (.int (w.big.fmod m)) (upd H dr (.lst [.ref sc, .int w.ix, .int (w.big.fdiv m), .int w.seed]))
    rw [fmod_pos hm.1, fdiv_pos hm.1]
    exact q
  · rw [if_neg hb] at q
    rw [decide_eq_false hb]
    refine iteF ?_
    refine nx_ix rfl hd rfl (nx_ix rfl hd rfl ⟨_, w.sc.length, rfl, .inl ⟨_, hs H fun _ _ _ q => q, by rw [List.length_map]⟩, _, _, rfl, rfl, _, rfl, ?_⟩)
    have hmul : CMul w.seed 48271 := .inr ⟨by decide, by decide⟩
    by_cases hi : w.ix < (w.sc.length : Int)
    · rw [if_pos hi] at q
      rw [decide_eq_true hi]
      refine iteT ?_
      have hget : atI (w.sc.map V.int) w.ix = some (.int (w.sc.getD w.ix.toNat 0)) := by
        have hlt : w.ix.toNat < w.sc.length := by omega
        refine at_of (j := w.ix.toNat) (by omega) ?_
        rw [List.getElem?_map, List.getD_eq_getElem?_getD, List.getElem?_eq_getElem hlt]
        rfl
      refine nx_ix rfl hd rfl (nx_ix rfl hd rfl ⟨sc, _, _, _, rfl, rfl, hs H fun _ _ _ q => q, hget, _, rfl, ?_⟩)
      refine nx_ix rfl hd rfl ⟨_, _, rfl, rfl, _, rfl, dr, _, 1, 1, rfl, rfl, hd, rfl, ?_⟩
      refine ⟨_, rfl, _, _, rfl, rfl, ⟨by decide, by decide, by decide⟩, _, _, rfl, rfl, _, rfl, ?_⟩
      have hcd : (if w.sc.getD w.ix.toNat 0 < 0 then -w.sc.getD w.ix.toNat 0 else w.sc.getD w.ix.toNat 0) = cellOf w := rfl
      rw [hcd]
      have e18 : ((10 : Int) ^ (18 : Int).toNat) = 1000000000000000000 := by decide
      rw [e18]
      by_cases h18 : (1000000000000000000 : Int) ≤ cellOf w
      · rw [if_pos h18] at q
        rw [decide_eq_true h18]
        refine iteT ?_
        refine ⟨_, rfl, _, rfl, _, _, rfl, rfl, ⟨mn, by omega⟩, _, rfl, dr, _, 2, 2, rfl, rfl, upd_same, rfl, ?_⟩
        refine ⟨_, rfl, .inl ⟨_, rfl, _, rfl, _, _, rfl, rfl, mn, ?_⟩⟩
        show Q (.int ((cellOf w).fmod m)) (upd (upd H dr (.lst [.ref sc, .int (w.ix + 1), .int w.big, .int w.seed])) dr (.lst [.ref sc, .int (w.ix + 1), .int ((cellOf w).fdiv m), .int w.seed]))
        rw [hup, fmod_pos hm.1, fdiv_pos hm.1]
        exact q
      · rw [if_neg h18] at q
        rw [decide_eq_false h18]
        refine iteF ?_
        refine nx_ix rfl upd_same rfl ⟨_, _, rfl, rfl, hmul, _, rfl, _, _, rfl, rfl, _, _, rfl, rfl, .inl ⟨_, rfl, _, _, rfl, rfl, (by show (2147483647 : Int) ≠ 0; decide), _, rfl, dr, _, 3, 3, rfl, rfl, upd_same, rfl, ?_⟩⟩
        refine nx_ix rfl upd_same rfl ⟨_, _, rfl, rfl, .inr ⟨by decide, by decide⟩, _, _, rfl, rfl, (by show (2147483629 : Int) ≠ 0; decide), .inl ⟨_, rfl, _, _, rfl, rfl, ⟨by decide, by decide⟩, _, rfl, _, _, rfl, rfl, mn, ?_⟩⟩
        show Q (.int (((((w.seed * 48271 + cellOf w + 11).fmod 2147483647) * 69621).fmod 2147483629).fdiv 7 |>.fmod m)) (upd (upd H dr (.lst [.ref sc, .int (w.ix + 1), .int w.big, .int w.seed])) dr (.lst [.ref sc, .int (w.ix + 1), .int w.big, .int ((w.seed * 48271 + cellOf w + 11).fmod 2147483647)]))
        rw [hup, fmod_pos (by decide : (0 : Int) < 2147483647), fmod_pos (by decide : (0 : Int) < 2147483629), fdiv_pos (by decide : (0 : Int) < 7), fmod_pos hm.1]
        exact q
    · rw [if_neg hi] at q
      rw [decide_eq_false hi]
      refine iteF ?_
      refine nx_ix rfl hd rfl ⟨_, _, rfl, rfl, hmul, _, _, rfl, rfl, .inl ⟨_, rfl, _, _, rfl, rfl, (by show (2147483647 : Int) ≠ 0; decide), _, rfl, dr, _, 3, 3, rfl, rfl, hd, rfl, ?_⟩⟩
      refine nx_ix rfl upd_same rfl ⟨_, _, rfl, rfl, .inr ⟨by decide, by decide⟩, _, _, rfl, rfl, (by show (2147483629 : Int) ≠ 0; decide), .inl ⟨_, rfl, _, _, rfl, rfl, ⟨by decide, by decide⟩, _, rfl, _, _, rfl, rfl, mn, ?_⟩⟩
      show Q (.int (((((w.seed * 48271 + 12345).fmod 2147483647) * 69621).fmod 2147483629).fdiv 7 |>.fmod m)) (upd H dr (.lst [.ref sc, .int w.ix, .int w.big, .int ((w.seed * 48271 + 12345).fmod 2147483647)]))
      rw [fmod_pos (by decide : (0 : Int) < 2147483647), fmod_pos (by decide : (0 : Int) < 2147483629), fdiv_pos (by decide : (0 : Int) < 7), fmod_pos hm.1]
      exact q
end
section
variable {P : Program} {w : World} {K : PySem.W.Frag} {mg : Str → Option Value} {base : Heap}
theorem next_ok {x qual : Str} {st : Stmt} {f : Addr} {fd : FuncData} (Fu : Fun K x qual st f fd) (sc : FnScope ["draw", "many", "found", "cell"] ["draw", "many"] (defScope st))
    (hb : ∀ (cdv : Value) (A : Around) (outer : List PySem.Env) (s : Shared) (H : Hp) (E : XK), PSs (cxOf CX0 P w K mg base ["draw", "many", "found", "cell"] qual (defScope st) f cdv A outer s H E).nox (defBody st) (tNx K)) :
    FnOk P w K mg base CX0 1 f fd ["draw", "many"] (spOf K mg nextF) := by
  have key : ∀ {ds : List D} {d : D} {w1 w' : Dw}, nextF ds w1 = some (d, w') → ∃ m, ds = [.drw, .int m] ∧ (0 < m ∧ m < 1073741824) ∧ d = .int (nextW m w1).1 ∧ w' = (nextW m w1).2 := by
    intro ds d w1 w' h
    match ds, h with
    | [.drw, .int m], h =>
      have h' : (if 0 < m ∧ m < 1073741824 then some (D.int (nextW m w1).1, (nextW m w1).2) else none) = some (d, w') := h
      split at h'
      · rename_i hc
        cases h'
        exact ⟨m, rfl, hc, rfl, rfl⟩
      · cases h'
  refine Fu.ok (k := 0) sc (fun vs H Q E h => ?_) (fun cdv A outer s H vs Q E hr h => ?_)
  · obtain ⟨dr, G, w, ds, d, w', hs, hd, r, hf, q⟩ := h
    obtain ⟨m, rfl, _⟩ := key hf
    exact r.length
  · obtain ⟨dr, G, w1, ds, d, w', hs, hd, r, hf, q⟩ := h
    obtain ⟨m, rfl, hm, rfl, rfl⟩ := key hf
    obtain ⟨ok, ⟨scA, d1, d2⟩, d3⟩ := hd
    refine ⟨_, hb cdv A outer s H E, ?_⟩
    cases r with
    | cons r1 t =>
      cases t with
      | cons r2 t =>
        cases t
        cases r1
        cases r2
        have hG : Sub G (upd H dr (.lst [.ref scA, .int (nextW m w1).2.ix, .int (nextW m w1).2.big, .int (nextW m w1).2.seed])) := fun b o h => by
          rw [upd_ne (ne_of_none h d3)]
          exact hs b o h
        refine nx_reads ok hm d1 (fun H' hk => ?_) (q _ G _ ⟨hG, Sub.refl G, fun a o n h => ?_, fun _ _ _ n => n, ⟨nextW_ok ok hm.1, ⟨scA, upd_same, ?_⟩, d3⟩⟩ (.int _))
        · have hG' : Sub G H' := fun b o h => hk b o (ne_of_none h d3) (hs b o h)
          exact sub_l hG' d2
        · rw [upd_ne n]
          exact h
        · have e : (nextW m w1).2.sc = w1.sc := by
            unfold nextW
            split
            · rfl
            · split
              · split <;> rfl
              · rfl
          rw [e]
          exact d2
end
end Fc

/-! Fc, part I: a law's own def. -/
namespace Fc
open PySem PySem.Spec PyProof.Rows L2
section
variable {P : Program} {w : World} {K : PySem.W.Frag} {mg : Str → Option Value} {base : Heap}
def spDraw (K : PySem.W.Frag) : Sp := fun vs H Q _ => ∃ (a : Addr) (ns : List V), vs = [.ref a] ∧ SqL K H a ns ∧ ∀ l p, H l = none → p ≠ l → H p = none → Q (.ref p) (upd (upd H l (.lst ns)) p (.lst [.ref l, .int 0, .int 0, .int 17]))
def rListA (K : PySem.W.Frag) : List V → Hp → VK → Prop := fun xs H Q => ∃ p ys, xs = [.ref p] ∧ (SqL K H p ys ∨ SqT K H p ys) ∧ ∀ l, H l = none → Q (.ref l) (upd H l (.lst ys))
def tDr (K : PySem.W.Frag) : TS := tRet (tLst (tCons (tCB (rListA K) (tCons (tVar 0) tNil)) (tCons (tC (.int 0)) (tCons (tC (.int 0)) (tCons (tC (.int 17)) tNil)))))
theorem draw_ok {x qual : Str} {st : Stmt} {f : Addr} {fd : FuncData} (Fu : Fun K x qual st f fd) (sc : FnScope ["script"] ["script"] (defScope st))
    (hb : ∀ (cdv : Value) (A : Around) (outer : List PySem.Env) (s : Shared) (H : Hp) (E : XK), PSs (cxOf CX0 P w K mg base ["script"] qual (defScope st) f cdv A outer s H E).nox (defBody st) (tDr K)) :
    FnOk P w K mg base CX0 1 f fd ["script"] (spDraw K) := by
  refine Fu.ok (k := 0) sc (fun vs H Q E h => ?_) (fun cdv A outer s H vs Q E hr h => ?_)
  · obtain ⟨a, ns, rfl, _⟩ := h
    rfl
  · obtain ⟨a, ns, rfl, ha, q⟩ := h
    refine ⟨_, hb cdv A outer s H E, _, rfl, a, ns, rfl, .inl ha, fun l hl => ⟨by show 4 ≤ sizeLine; decide, fun p hp => ?_⟩⟩
    have hne : p ≠ l := fun z => by rw [z, upd_same] at hp; cases hp
    rw [upd_ne hne] at hp
    exact q l p hl hne hp
/-- law's: a list of at most 63 ints is handed in, True comes out -/
def spLaw (K : PySem.W.Frag) : Sp := fun vs H Q _ => ∃ (a : Addr) (ns : List Int), vs = [.ref a] ∧ SqL K H a (ns.map V.int) ∧ ns.length ≤ 63 ∧ ∀ H', Q (.bl true) H'
theorem law_ok {x qual : Str} {st st0 : Stmt} {rest : List Stmt} {f : Addr} {fd : FuncData} {N : List Str} {k : Nat} {O : List Nat} {F : F1} (Fu : Fun K x qual st f fd) (sc : FnScope N ["script"] (defScope st)) (hbody : defBody st = st0 :: rest)
    (hO : ∀ i ∈ O, 2 ≤ i) (hO2 : ∀ i ∈ O, i < 1000) (hN : 2 ≤ N.length)
    (h0 : ∀ (cdv : Value) (A : Around) (outer : List PySem.Env) (s : Shared) (H : Hp) (E : XK), Room k (A.deeper (envOfC qual (defScope st) s.heap.objs.size f cdv)) → PS (cxOf CX0 P w K mg base N qual (defScope st) f cdv A outer s H E).nox st0 (tAsg (tCall (spDraw K) [] E0 (tCons (tVar 0) tNil)) (gName 1)))
    (hb : ∀ (cdv : Value) (A : Around) (outer : List PySem.Env) (s : Shared) (H : Hp) (E : XK), Room k (A.deeper (envOfC qual (defScope st) s.heap.objs.size f cdv)) → SSs (cxOf CX0 P w K mg base N qual (defScope st) f cdv A outer s H E).nox O rest F)
    (hF : ∀ ns : List Int, ns.length ≤ 63 → ∃ δ' w', F (none :: some .drw :: List.replicate (N.length - 2) none) ⟨ns, 0, 0, 17⟩ = some ((.rt (.bl true), δ'), w')) :
    FnOk P w K mg base CX0 (k + 1) f fd ["script"] (spLaw K) := by
  refine Fu.ok sc (fun vs H Q E h => ?_) (fun cdv A outer s H vs Q E hr h => ?_)
  · obtain ⟨a, ns, rfl, _⟩ := h
    rfl
  · obtain ⟨a, ns, rfl, ha, hl, q⟩ := h
    obtain ⟨δ', w', hf⟩ := hF ns hl
    rw [hbody]
    refine ⟨_, pss_cons (h0 cdv A outer s H E hr) (hb cdv A outer s H E hr), ?_⟩
    have e0 : (L2.start N [.ref a])[0]? = some (some (.ref a)) := rfl
    refine ⟨_, e0, a, ns.map V.int, rfl, ha, fun l p h1 h2 h3 => ?_⟩
    have lp : l ≠ p := Ne.symm h2
    refine ⟨p, _, upd (fun _ => none) l (.lst (ns.map V.int)), fun _ => 0, none :: some .drw :: List.replicate (N.length - 2) none, upd (fun _ => none) l (.lst (ns.map V.int)), ⟨ns, 0, 0, 17⟩, _, δ', w', ⟨fun b o z => ?_, Sub.refl _, fun _ _ _ z => z, ⟨_, upd_same⟩, ?_, fun i d z n m => ?_, fun i d z n => ?_, ⟨fun _ => none, fun i d z n l1 => ?_⟩, fun i n => ?_, ⟨⟨hl, Int.le_refl 0, Int.le_refl 0, by show (0 : Int) ≤ 17; decide, by show (17 : Int) < 2147483647; decide⟩, ⟨l, upd_same, SqL.of upd_same⟩, ?_⟩, fun _ _ _ n => n⟩, hf, ?_⟩
    · by_cases hb : b = l
      · subst hb
        rw [upd_same] at z
        cases z
        show upd (upd H b _) p _ b = _
        rw [upd_ne lp, upd_same]
      · rw [upd_ne hb] at z
        cases z
    · show _ = ((L2.start N [.ref a]).set 1 (some (.ref p))).length
      rw [List.length_set]
      unfold L2.start
      simp
      omega
    · have key : i = 1 ∧ d = .drw := by
        match i, z with
        | 0, z => cases z
        | 1, z => cases z; exact ⟨rfl, rfl⟩
        | i + 2, z =>
          have z' : (List.replicate (N.length - 2) (none : Option D))[i]? = some (some d) := z
          rw [List.getElem?_replicate] at z'
          split at z' <;> cases z'
      obtain ⟨rfl, rfl⟩ := key
      refine ⟨.ref p, List.getElem?_set_self ?_, .drw⟩
      unfold L2.start
      simp
      omega
    · exact absurd (hO2 _ n) (by omega)
    · have h2i := hO i n
      match i, z with
      | i + 2, z =>
        have z' : (List.replicate (N.length - 2) (none : Option D))[i]? = some (some d) := z
        rw [List.getElem?_replicate] at z'
        split at z' <;> cases z'
    · exact absurd (hO2 _ n) (by omega)
    · show upd (fun _ => none) l _ p = none
      rw [upd_ne h2]
    · intro v G' H' n _ r
      cases r
      exact q H'
end
end Fc

/-! Fc, part Z: defs by names, and further forms. -/
namespace Fc
open PySem PySem.Spec PyProof.Rows L2

/-- the module's name x stands for a def that computes F, at level k -/
def Has (P : Program) (w : World) (K : PySem.W.Frag) (mg : Str → Option Value) (base : Heap) (k : Nat) (x : Str) (ps : List Str) (F : List D → M D) : Prop :=
  ∃ (f : Addr) (fd : FuncData), FnOk P w K mg base CX0 k f fd ps (spOf K mg F) ∧ mg x = some (.ref f) ∧ PySem.W.keepIn K (.ref f) = true ∧ Binds K fd ps []
section
variable {X : Cx} {O : List Nat} {al bl cl : Bool} {a b c e tg : Expr} {es : List Expr} {f g h : Env → M D} {fs : Env → M (List D)} {F : List D → M D} {k : Nat} {ps : List Str} {x : Str} {p pos : Pos}
theorem se_has (H : Has X.prog X.w X.K X.mg X.base k x ps F) (hr : Room k X.A) (hg : Gl X x) (ha : SA X O false (e :: es) fs)
    (hdb : (x == ("__debug__" : Str)) = false := by decide) (he : starEach (e :: es) X.env = (false, eval e X.env) :: starEach es X.env := by rfl) (hpl : (backTo pos (starEach es X.env)).any (·.1) = false := by rfl) :
    SE X O false (.Call (.Name x p) (e :: es) [] pos) (eDef F fs) := by
  obtain ⟨f, fd, h1, h2, h3, h4⟩ := H
  exact se_def h1 hr hg h2 h3 h4 ha hdb he hpl
def eNotT (f : Env → M D) : Env → M D := fun δ => do
  let x ← f δ
  let k ← liftO (dTru x)
  pure (.bl (!k))
theorem se_notT (ha : SE X O al a f) : SE X O false (.UnaryOp .Not a pos) (eNotT f) :=
  PE.weak (pe_notT ha) fun σ H Q ⟨dr, B, G0, ad, δ, G, w, d, w', S, hf, k⟩ => by
    obtain ⟨x, w1, h1, hf1⟩ := bind_some hf
    obtain ⟨b, w2, h2, hf2⟩ := bind_some hf1
    obtain ⟨h3, rfl⟩ := liftO_some h2
    obtain ⟨e, rfl⟩ := pure_some hf2
    subst e
    exact ⟨dr, B, G0, ad, δ, G, w, x, _, S, h1, fun v G1 H1 g1 S1 r1 => ⟨b, r1.x.tru S1.sub h3, k _ G1 H1 g1 S1 (.bl _)⟩⟩
theorem hu65 {k : Nat} {A : Around} (hr : Room k A) : A.units + 65 < cLine := by have := hr.un; omega
end
end Fc

/-! Fc, part J: sums, greatest and least, lcm, divmod, in, count, defs as values, a place of one's own list. -/
namespace Fc
open PySem PySem.Spec PyProof.Rows L2

section
variable {X : Cx}
/-- the sum of a tuple of ints -/
def rSumT (K : PySem.W.Frag) : List V → Hp → VK → Prop := fun vs H Q => ∃ (a : Addr) (ns : List Int), vs = [V.ref a] ∧ SqT K H a (ns.map V.int) ∧ Q (.int ns.sum) H
theorem cr_sumT (hc : X.calm = true) : CallR X (.builtin "sum") (rSumT X.K) := by
  intro pins s σ H vs us Q I r h
  obtain ⟨a, ns, rfl, hs, q⟩ := h
  obtain ⟨its, rv, hl, _⟩ := I.tuple hs
  rw [Vals.ref1 r]
  have hi := rv.ints
  obtain ⟨xs, e⟩ := hi.allInts.items
  have hn : numsOf (intItems xs).toList = ns := by rw [← e]; exact hi.numsOf
  rw [nums_intItems] at hn
  rw [e] at hl
  refine PySem.W.ktm_sumG (I.ok.hd hc) hl fun h' tk t' hk => ?_
  rw [preSum_eq, List.take_of_length_le (by simp), hn]
  exact ⟨.int _, H, I.kept hk, ⟨_, rfl⟩, q⟩
def CLcm (a b : Int) : Prop := a.natAbs < 2 ^ 64 ∧ b.natAbs < 2 ^ 64
def rLcm : List V → Hp → VK → Prop := fun vs H Q => ∃ a b : Int, vs = [.int a, .int b] ∧ CLcm a b ∧ Q (.int ((Nat.lcm a.natAbs b.natAbs : Nat) : Int)) H
theorem cr_lcm : CallR X (.builtin "math.lcm") rLcm := by
  intro pins s σ H vs us Q I r h
  obtain ⟨a, b, rfl, ⟨h1, h2⟩, q⟩ := h
  obtain ⟨t, u, rfl⟩ := Vals.int2 r
  exact PySem.W.mc_lcm h1 h2 fun _ => ⟨.int _, H, I.tok _, ⟨_, rfl⟩, q⟩
/-- how often a flat item is in a list of flat items -/
def rCntF (K : PySem.W.Frag) : V → List V → Hp → VK → Prop := fun x xs H Q => ∃ (p : Addr) (ys : List V) (k : V), x = .ref p ∧ xs = [k] ∧ SqL K H p ys ∧ flatV k = true ∧ ys.all flatV = true ∧ Q (.int (ys.countP fun y => eqV y k : Nat)) H
theorem count_eqU {x : V} : ∀ {xs : List V} {us : List Value}, Vals xs us → xs.all flatV = true → us.countP (eqU x) = xs.countP fun y => eqV y x
  | _, _, .nil, _ => rfl
  | y :: xs, u :: us, .cons r t, f => by
    rw [List.all_cons, Bool.and_eq_true] at f
    rw [List.countP_cons, List.countP_cons, eqU_of r f.1, count_eqU t f.2]
theorem mt_lcountF : MtR X "list.count" (rCntF X.K) := by
  intro pins s σ H x xs v us Q I rx rxs h
  obtain ⟨p, ys, k, rfl, rfl, hs, fk, fy, q⟩ := h
  cases rx
  obtain ⟨u, rfl, ru⟩ := rxs.one
  obtain ⟨its, rv, ⟨⟨cls, dd, data, sl⟩, n, ho, hc, hdn, hd⟩, hlen⟩ := I.list hs
  simp only at hc hd
  subst hc hd
  refine call_meets PySem.F.slot_list_count ⟨_, ho, rfl⟩ PySem.F.entry_list_count (PySem.F.args_list_count_2 _ _)
    (SeqAt.list_countAt p its.toArray n dd sl u (eqU k)) ⟨ho, fun y hy => mem_eqAt ru fk rv fy y (by simpa using hy), ?_⟩
  have ec : its.toArray.toList.countP (eqU k) = ys.countP fun y => eqV y k := count_eqU rv fy
  refine ⟨.int (ys.countP fun y => eqV y k : Nat), H, I.tok _, ⟨s.toks, ?_⟩, q⟩
  show Value.int ((its.toArray.toList.countP (eqU k) : Nat) : Int) s.toks = _
  rw [ec]
end

section
variable {X : Cx} {O : List Nat} {al bl cl : Bool} {a b c e tg : Expr} {es : List Expr} {f g h : Env → M D} {fs : Env → M (List D)} {pos : Pos}
variable {K : PySem.W.Frag} {mg : Str → Option Value} {x : Str} {q p : Pos}

theorem asIs_map : ∀ l : List Int, asIs (l.map D.int) = some l
  | [] => rfl
  | x :: l => by
    show (asIs (l.map D.int)).map (x :: ·) = _
    rw [asIs_map l]
    rfl
/-! ### sums, greatest, least -/
def dSum : List D → Option D
  | [.lst l] => (asIs l).map fun ns => .int ns.sum
  | [.tup l] => (asIs l).map fun ns => .int ns.sum
  | _ => none
theorem cs_sum : CallS K mg (fun xs H Q => rSum K xs H Q ∨ rSumT K xs H Q) dSum := by
  intro p G H vs ds d Q hK hmg s r hd k
  subst hK
  match ds, hd, r with
  | [.lst l], hd, r =>
    cases q : asIs l with
    | none => simp [dSum, q] at hd
    | some bs =>
      have hd' : some (D.int bs.sum) = some d := by rw [← hd]; simp [dSum, q]
      cases hd'
      obtain ⟨v, rfl, rr⟩ := r.one
      obtain ⟨a, us, rfl, ha, ra⟩ := rr.x.lst s
      rw [asIs_some q] at ra
      rw [RepAll.ints ra] at ha
      exact .inl ⟨a, bs, rfl, SqL.of ha, k _ G H (.refl s) (.int _)⟩
  | [.tup l], hd, r =>
    cases q : asIs l with
    | none => simp [dSum, q] at hd
    | some bs =>
      have hd' : some (D.int bs.sum) = some d := by rw [← hd]; simp [dSum, q]
      cases hd'
      obtain ⟨v, rfl, rr⟩ := r.one
      obtain ⟨a, us, rfl, ha, ra, _⟩ := rr.x.tup s
      rw [asIs_some q] at ra
      rw [RepAll.ints ra] at ha
      exact .inr ⟨a, bs, rfl, ha, k _ G H (.refl s) (.int _)⟩
theorem se_sum (hc : X.calm = true) (hm : X.mg "sum" = none) (hg : Gl X "sum") (ha : SA X O true [e] fs) (he : starEach [e] X.env = (false, eval e X.env) :: starEach [] X.env := by rfl) (hpl : (backTo pos (starEach [] X.env)).any (·.1) = false := by rfl) : SE X O false (.Call (.Name "sum" q) [e] [] pos) (eCall dSum fs) :=
  se_callB ((cr_sum hc).or (cr_sumT hc)) cs_sum hg hm (by decide +kernel) ha (by decide) (by decide) he hpl
def dMax1 : List D → Option D
  | [.lst l] => (asIs l).bind fun ns => ns.max?.map D.int
  | _ => none
def dMin1 : List D → Option D
  | [.lst l] => (asIs l).bind fun ns => ns.min?.map D.int
  | _ => none
theorem cs_max1 : CallS K mg (rMax K) dMax1 := by
  intro p G H vs ds d Q hK hmg s r hd k
  subst hK
  match ds, hd, r with
  | [.lst l], hd, r =>
    cases q : asIs l with
    | none => simp [dMax1, q] at hd
    | some bs =>
      cases q2 : bs.max? with
      | none => simp [dMax1, q, q2] at hd
      | some m =>
        have hd' : some (D.int m) = some d := by rw [← hd]; simp [dMax1, q, q2]
        cases hd'
        obtain ⟨v, rfl, rr⟩ := r.one
        obtain ⟨a, us, rfl, ha, ra⟩ := rr.x.lst s
        rw [asIs_some q] at ra
        rw [RepAll.ints ra] at ha
        obtain ⟨m1, m2⟩ := List.max?_eq_some_iff.mp q2
        refine ⟨a, bs, rfl, SqL.of ha, List.length_pos_of_mem m1, fun m' h1 h2 => ?_⟩
        have : m' = m := Int.le_antisymm (m2 _ h1) (h2 _ m1)
        rw [this]
        exact k _ G H (.refl s) (.int _)
theorem cs_min1 : CallS K mg (rMin K) dMin1 := by
  intro p G H vs ds d Q hK hmg s r hd k
  subst hK
  match ds, hd, r with
  | [.lst l], hd, r =>
    cases q : asIs l with
    | none => simp [dMin1, q] at hd
    | some bs =>
      cases q2 : bs.min? with
      | none => simp [dMin1, q, q2] at hd
      | some m =>
        have hd' : some (D.int m) = some d := by rw [← hd]; simp [dMin1, q, q2]
        cases hd'
        obtain ⟨v, rfl, rr⟩ := r.one
        obtain ⟨a, us, rfl, ha, ra⟩ := rr.x.lst s
        rw [asIs_some q] at ra
        rw [RepAll.ints ra] at ha
        obtain ⟨m1, m2⟩ := List.min?_eq_some_iff.mp q2
        refine ⟨a, bs, rfl, SqL.of ha, List.length_pos_of_mem m1, fun m' h1 h2 => ?_⟩
        have : m' = m := Int.le_antisymm (h2 _ m1) (m2 _ h1)
        rw [this]
        exact k _ G H (.refl s) (.int _)
theorem se_max1 (hc : X.calm = true) (hm : X.mg "max" = none) (hg : Gl X "max") (ha : SA X O true [e] fs) (he : starEach [e] X.env = (false, eval e X.env) :: starEach [] X.env := by rfl) (hpl : (backTo pos (starEach [] X.env)).any (·.1) = false := by rfl) : SE X O false (.Call (.Name "max" q) [e] [] pos) (eCall dMax1 fs) :=
  se_callB (cr_max hc) cs_max1 hg hm (by decide +kernel) ha (by decide) (by decide) he hpl
theorem se_min1 (hc : X.calm = true) (hm : X.mg "min" = none) (hg : Gl X "min") (ha : SA X O true [e] fs) (he : starEach [e] X.env = (false, eval e X.env) :: starEach [] X.env := by rfl) (hpl : (backTo pos (starEach [] X.env)).any (·.1) = false := by rfl) : SE X O false (.Call (.Name "min" q) [e] [] pos) (eCall dMin1 fs) :=
  se_callB (cr_min hc) cs_min1 hg hm (by decide +kernel) ha (by decide) (by decide) he hpl
/-! ### lcm, divmod -/
def dLcm : List D → Option D
  | [.int i, .int j] => if i.natAbs < 18446744073709551616 ∧ j.natAbs < 18446744073709551616 then some (.int (Nat.lcm i.natAbs j.natAbs : Nat)) else none
  | _ => none
theorem cs_lcm : CallS K mg rLcm dLcm := by
  intro p G H vs ds d Q hK hmg s r hd k
  match ds, hd, r with
  | [.int i, .int j], hd, r =>
    have hd2 : (if i.natAbs < 18446744073709551616 ∧ j.natAbs < 18446744073709551616 then some (D.int (Nat.lcm i.natAbs j.natAbs : Nat)) else none) = some d := hd
    split at hd2
    · rename_i hh
      cases hd2
      obtain ⟨v, u, rfl, rr, r2⟩ := r.two
      exact ⟨i, j, by rw [rr.x.int, r2.x.int], hh, k _ G H (.refl s) (.int _)⟩
    · cases hd2
theorem se_lcm (hm : X.mg "lcm" = some (.builtin "math.lcm")) (hg : Gl X "lcm") (ha : SA X O true [a, b] fs) (he : starEach [a, b] X.env = (false, eval a X.env) :: starEach [b] X.env := by rfl) (hpl : (backTo pos (starEach [b] X.env)).any (·.1) = false := by rfl) : SE X O false (.Call (.Name "lcm" q) [a, b] [] pos) (eCall dLcm fs) :=
  se_callF cr_lcm cs_lcm hg hm ha (by decide) he hpl
def dDivmod : List D → Option D
  | [.int i, .int j] => if 0 < j ∧ j < 1073741824 then some (.tup [.int (i / j), .int (i % j)]) else none
  | _ => none
theorem cs_divmod : CallS K mg (fun xs H Q => ∃ i j, xs = [.int i, .int j] ∧ CDiv i j ∧ ∀ p, H p = none → Q (.ref p) (upd H p (.tup [.int (i / j), .int (i % j)]))) dDivmod := by
  intro p G H vs ds d Q hK hmg s r hd k
  match ds, hd, r with
  | [.int i, .int j], hd, r =>
    have hd2 : (if 0 < j ∧ j < 1073741824 then some (D.tup [.int (i / j), .int (i % j)]) else none) = some d := hd
    split at hd2
    · rename_i hh
      cases hd2
      obtain ⟨v, u, rfl, rr, r2⟩ := r.two
      refine ⟨i, j, by rw [rr.x.int, r2.x.int], hh, fun a ha => ?_⟩
      obtain ⟨gr, rz⟩ := Rep.newT (p := p) (vs := [.int (i / j), .int (i % j)]) (ds := [.int (i / j), .int (i % j)]) s ha (.cons (.int _) (.cons (.int _) .nil))
      exact k _ _ _ gr rz
    · cases hd2
theorem se_divmod (hm : X.mg "divmod" = none) (hg : Gl X "divmod") (ha : SA X O true [a, b] fs) (he : starEach [a, b] X.env = (false, eval a X.env) :: starEach [b] X.env := by rfl) (hpl : (backTo pos (starEach [b] X.env)).any (·.1) = false := by rfl) : SE X O false (.Call (.Name "divmod" q) [a, b] [] pos) (eCall dDivmod fs) :=
  se_callB call_divmod cs_divmod hg hm (by decide +kernel) ha (by decide) (by decide) he hpl
/-! ### flat items -/
def D.flat : D → Option V
  | .non => some .non
  | .bl b => some (.bl b)
  | .int i => some (.int i)
  | .str x => some (.str x)
  | _ => none
def flats : List D → Option (List V)
  | [] => some []
  | d :: l => d.flat.bind fun v => (flats l).map (v :: ·)
theorem flat_is {p : Par} {G H : Hp} {v u : V} {d : D} (r : RepX p G H v d) (h : d.flat = some u) : v = u ∧ flatV u = true := by
  cases d <;> try (cases h; done)
  · cases h; exact ⟨r.non, rfl⟩
  · cases h; exact ⟨r.bl, rfl⟩
  · cases h; exact ⟨r.int, rfl⟩
  · cases h; exact ⟨r.str, rfl⟩
theorem flats_are {p : Par} {G : Hp} : ∀ {vs us : List V} {ds : List D}, RepAll p G vs ds → flats ds = some us → vs = us ∧ us.all flatV = true
  | _, _, _, .nil, h => by
    cases h
    exact ⟨rfl, rfl⟩
  | _, us, d :: ds, .cons (v := v) (vs := vs) r t, h => by
    have h' : (d.flat.bind fun v => (flats ds).map (v :: ·)) = some us := h
    cases q : d.flat with
    | none => rw [q] at h'; cases h'
    | some u =>
      cases q2 : flats ds with
      | none => rw [q, q2] at h'; cases h'
      | some ws =>
        rw [q, q2] at h'
        have h2 : some (u :: ws) = some us := h'
        cases h2
        obtain ⟨e1, f1⟩ := flat_is (H := G) (.rep r) q
        obtain ⟨e2, f2⟩ := flats_are t q2
        subst e1 e2
        exact ⟨rfl, by rw [List.all_cons, f1, f2]; rfl⟩
def dInB (neg : Bool) (x y : D) : Option D := match y with
  | .lst l => x.flat.bind fun u => (flats l).map fun us => .bl (if neg then !inV u us else inV u us)
  | .tup l => x.flat.bind fun u => (flats l).map fun us => .bl (if neg then !inV u us else inV u us)
  | _ => none
def dIn : D → D → Option D := dInB false
def dNotIn : D → D → Option D := dInB true
theorem os_inB {neg : Bool} : OpS K mg (rIn K neg) (dInB neg) := by
  intro p G H v u x y d Q hK hmg s rx ry hd k
  subst hK
  have key : ∀ l : List D, (x.flat.bind fun u => (flats l).map fun us => D.bl (if neg then !inV u us else inV u us)) = some d → ∃ w us, x.flat = some w ∧ flats l = some us ∧ d = .bl (if neg then !inV w us else inV w us) := by
    intro l h
    cases q : x.flat with
    | none => rw [q] at h; cases h
    | some w =>
      cases q2 : flats l with
      | none => rw [q, q2] at h; cases h
      | some us =>
        rw [q, q2] at h
        have h2 : some (D.bl (if neg then !inV w us else inV w us)) = some d := h
        exact ⟨w, us, rfl, rfl, (Option.some.inj h2).symm⟩
  cases y <;> try (cases hd; done)
  · rename_i l
    obtain ⟨w, us, h1, h2, rfl⟩ := key l hd
    obtain ⟨a, vs, rfl, ha, ra, _⟩ := ry.tup s
    obtain ⟨rfl, f1⟩ := flat_is rx h1
    obtain ⟨rfl, f2⟩ := flats_are ra h2
    exact ⟨a, _, rfl, .inr ha, f1, f2, k _ G H (.refl s) (.bl _)⟩
  · rename_i l
    obtain ⟨w, us, h1, h2, rfl⟩ := key l hd
    obtain ⟨a, vs, rfl, ha, ra⟩ := ry.lst s
    obtain ⟨rfl, f1⟩ := flat_is rx h1
    obtain ⟨rfl, f2⟩ := flats_are ra h2
    exact ⟨a, _, rfl, .inl (SqL.of ha), f1, f2, k _ G H (.refl s) (.bl _)⟩
theorem se_in (ha : SE X O al a f) (hb : SE X O bl b g) (hm : behindInMarks .In b = false := by first | exact nomark _ | rfl) : SE X O false (.Compare a [.In] [b] pos) (eBin dIn f g) := se_cmp op_in_seq os_inB ha hb hm
theorem se_notIn (ha : SE X O al a f) (hb : SE X O bl b g) (hm : behindInMarks .NotIn b = false := by first | exact nomark _ | rfl) : SE X O false (.Compare a [.NotIn] [b] pos) (eBin dNotIn f g) := se_cmp op_notIn_seq os_inB ha hb hm
/-- how often an item is in a list -/
def dCount (x y : D) : Option D := match x with
  | .lst l => y.flat.bind fun u => (flats l).map fun us => .int (us.countP fun z => eqV z u : Nat)
  | _ => none
theorem se_count {p3 : Pos} (ha : SE X O al a f) (hb : SE X O bl e g) (he : starEach [e] X.env = (false, eval e X.env) :: starEach [] X.env := by rfl)
    (hbase : attributeBase a "count" X.env (eval a X.env) = eval a X.env := by rfl)
    (hfew : ((backTo pos (starEach [e] X.env)).all (fun x => !x.1) && (backToKw pos (keywordEach [] X.env)).all (fun x => x.1.isSome)
      && decide ([e].length + ([] : List Keyword).length + (if ([] : List Keyword).isEmpty then 0 else 1) < 30)) = true := by rfl)
    (hline : (p3.endLine == pos.line) = true := by rfl) (hplain : (backTo pos (starEach [] X.env)).any (·.1) = false := by rfl) :
    SE X O false (.Call (.Attribute a "count" p3) [e] [] pos) (eBin dCount f g) :=
  PE.weak (pe_bm PySem.F.plainAttrs_list PySem.F.slot_list_count PySem.F.type_list_count mt_lcountF ha (pa_cons hb pa_nil he) hbase hfew hline he hplain) fun σ H Q ⟨dr, B, G0, ad, δ, G, w, d, w', S, hf, k⟩ => by
    obtain ⟨x, w1, y, h1, h2, h3⟩ := eBin_some hf
    refine ⟨dr, B, G0, ad, δ, G, w, x, w1, S, h1, fun v G1 H1 g1 S1 r1 => ?_⟩
    cases x <;> try (cases h3; done)
    rename_i l
    have h3' : (y.flat.bind fun u => (flats l).map fun us => D.int (us.countP fun z => eqV z u : Nat)) = some d := h3
    cases q : y.flat with
    | none => rw [q] at h3'; cases h3'
    | some u =>
      cases q2 : flats l with
      | none => rw [q, q2] at h3'; cases h3'
      | some us =>
        rw [q, q2] at h3'
        have h4 : some (D.int (us.countP fun z => eqV z u : Nat)) = some d := h3'
        cases h4
        obtain ⟨a0, vs0, e0, ha0, ra0⟩ := r1.x.lst S1.sub
        subst e0
        refine ⟨tyV_lst ha0, dr, B, G0, ad, δ, G1, w1, y, w', S1, h2, fun z G2 H2 g2 S2 r2 => ?_⟩
        obtain ⟨a1, vs1, e1, ha1, ra1⟩ := (r1.grow g2).x.lst S2.sub
        cases e1
        obtain ⟨rfl, f1⟩ := flat_is r2.x q
        obtain ⟨rfl, f2⟩ := flats_are ra1 q2
        exact ⟨a0, _, _, rfl, rfl, SqL.of ha1, f1, f2, k _ G2 H2 (g1.trans g2) S2 (.int _)⟩
/-! ### defs as values -/
def eFn (x : Str) : Env → M D := fun _ => pure (.fn x)
theorem se_fn {P : Program} {w : World} {base : Heap} {k : Nat} {ps : List Str} {F : List D → M D} (H : Has P w X.K X.mg base k x ps F) (hg : Gl X x) (hd : (x == ("__debug__" : Str)) = false := by decide) : SE X O false (.Name x pos) (eFn x) := by
  obtain ⟨f, fd, h1, h2, h3, h4⟩ := H
  exact PE.weak (pe_glob (v := .ref f) hg h2 rfl hd) fun σ H Q ⟨dr, B, G0, ad, δ, G, w, d', w', S, hf, k⟩ => by
    obtain ⟨h1, h2'⟩ := pure_some hf
    subst h1; subst h2'
    exact k (.ref f) G H (.refl _ G H) S (.fn h2)
def eDyn (tb : Str → Option (List D → M D)) (i : Nat) (fs : Env → M (List D)) : Env → M D := fun δ => match δ[i]? with
  | some (some (.fn x)) => match tb x with
    | some F => fs δ >>= F
    | none => fail
  | _ => fail
theorem eDyn_some {tb : Str → Option (List D → M D)} {i : Nat} {δ : Env} {w w' : Dw} {d : D} (h : eDyn tb i fs δ w = some (d, w')) : ∃ x F, δ[i]? = some (some (.fn x)) ∧ tb x = some F ∧ eDef F fs δ w = some (d, w') := by
  unfold eDyn at h
  cases q : δ[i]? with
  | none => rw [q] at h; cases h
  | some o =>
    cases o with
    | none => rw [q] at h; cases h
    | some d' =>
      cases d' <;> try (rw [q] at h; cases h; done)
      rename_i x
      rw [q] at h
      cases q2 : tb x with
      | none => simp only [q2] at h; cases h
      | some F =>
        simp only [q2] at h
        exact ⟨x, F, rfl, q2, h⟩
/-- a call through a name that holds one of the defs that tb tells -/
theorem se_dyn (i : Nat) {y : Str} {k : Nat} {tb : Str → Option (List D → M D)} (hT : ∀ x F, tb x = some F → ∃ ps, Has X.prog X.w X.K X.mg X.base k x ps F) (hr : Room k X.A) (ha : SA X O false (e :: es) fs) (hO : i ∉ O := by decide) (hR : i + 1000 ∉ O := by decide) (hN : X.N[i]? = some y := by rfl)
    (hv : Vis X.env.scope y := by first | exact Or.inl rfl | exact Or.inr (Or.inl rfl) | exact Or.inr (Or.inr rfl)) (hd : (y == ("__debug__" : Str)) = false := by decide) (hcd : (y == ("__classdict__" : Str)) = false := by decide)
    (he : starEach (e :: es) X.env = (false, eval e X.env) :: starEach es X.env := by rfl) (hpl : (backTo pos (starEach es X.env)).any (·.1) = false := by rfl) :
    SE X O false (.Call (.Name y p) (e :: es) [] pos) (eDyn tb i fs) := by
  refine ⟨fun pins s σ H Q I h => ?_⟩
  obtain ⟨dr, B, G0, ad, δ, G, w, d, w', S, hf, kk⟩ := h
  obtain ⟨x, F, h1, h2, h3⟩ := eDyn_some hf
  obtain ⟨ps, f, fd, H1, H2, H3, H4⟩ := hT x F h2
  obtain ⟨v, ev, rv⟩ := S.vals i _ h1 (fun z => hO z.1) hR
  have evf : v = .ref f := by
    cases rv with
    | fn hm =>
      have hm' : X.mg x = some (.ref _) := hm
      rw [H2] at hm'
      cases hm'
      rfl
  subst evf
  refine (ItX.pe_callV (H1.raw (ds := []) (dvs := []) H4 .nil) hr H3 (E := E0) pass0 hN hv ha hd hcd he hpl).run pins s σ H Q I ⟨ev, ?_⟩
  exact tOf_def ⟨dr, B, G0, ad, δ, G, w, d, w', S, h3, kk⟩
/-! ### a place of one's own list -/
def opSet (d : D) (i : Int) (ds : List D) : Option (List D) := (ixN ds.length i).map fun j => ds.set j d
def sSetIx (i : Nat) (f g : Env → M D) : F1 := fun δ => do
  let d ← f δ
  let n ← g δ
  let k ← liftO (asI n)
  let δ' ← liftO (chg i (opSet d k) δ)
  pure (.nx, δ')
theorem ss_setIx (i : Nat) {x : Str} {p2 p3 : Pos} (ha : SE X O false e f) (hb : SE X O bl b g) (hO : i ∈ O := by decide) (hR : i + 1000 ∉ O := by decide) (hN : X.N[i]? = some x := by rfl) (hv : Vis X.env.scope x := by first | exact Or.inl rfl | exact Or.inr (Or.inl rfl))
    (hsub : ∀ v, assign (.Subscript (.Name x p2) b p3) X.env v = (do
      let ov ← holding [v] (eval (.Name x p2) X.env)
      let iv ← holding [v, ov] (eval b X.env)
      standAt p3
      holding [v, ov, iv] (setItem ov iv v)
      release [v, ov, iv] []) := by intro _; rfl)
    (hd : (x == ("__debug__" : Str)) = false := by decide) (hcd : (x == ("__classdict__" : Str)) = false := by decide)
    (hs : swapsWithSole [(.Subscript (.Name x p2) b p3)] e pos.line X.env = pure false := by rfl) (hw : swappedStores [(.Subscript (.Name x p2) b p3)] e X.env = pure none := by rfl)
    (h1 : (assignEach [(.Subscript (.Name x p2) b p3)] X.env).map (·.2) = [assign (.Subscript (.Name x p2) b p3) X.env] := by rfl) : SS X O (.Assign [.Subscript (.Name x p2) b p3] e pos) (sSetIx i f g) :=
  PS.weak (ps_asg ha (pg_sub (pe_var hN (by rcases hv with h | h; exact .inl h; exact .inr h) hd hcd) hb set_list hsub) hs hw h1) fun E σ H ⟨dr, B, G0, ad, δ, G, w, o, δ', w', S, hf, k⟩ => by
    obtain ⟨d, w1, h1, hf1⟩ := bind_some hf
    obtain ⟨n, w2, h2, hf2⟩ := bind_some hf1
    obtain ⟨j, w3, h3, hf3⟩ := bind_some hf2
    obtain ⟨h4, rfl⟩ := liftO_some h3
    obtain ⟨δ1, w4, h5, hf4⟩ := bind_some hf3
    obtain ⟨h6, rfl⟩ := liftO_some h5
    obtain ⟨e, rfl⟩ := pure_some hf4
    cases e
    obtain ⟨ds, ds', e1, e2, e3⟩ := chg_some h6
    subst e3
    obtain ⟨a, vs, z1, z2, z3, z4, z5⟩ := S.own1 hO e1
    refine ⟨dr, B, G0, ad, δ, G, w, d, w1, S, h1, fun v G1 H1 g1 S1 r1 => ?_⟩
    refine ⟨.ref a, z1, dr, B, G0, ad, δ, G1, w1, n, _, S1, h2, fun u G2 H2 g2 S2 r2 => ?_⟩
    obtain ⟨a', vs', y1, y2, y3, y4, y5⟩ := S2.own1 hO e1
    rw [z1] at y1
    cases y1
    unfold opSet at e2
    cases q : ixN ds.length j with
    | none => rw [q] at e2; cases e2
    | some m =>
      rw [q] at e2
      have e2' : some (ds.set m d) = some ds' := e2
      cases e2'
      cases n <;> try (cases h4; done)
      cases h4
      refine ⟨a, vs', _, m, rfl, r2.x.int, y2, by rw [y5.length]; exact q, ?_⟩
      exact k σ G2 _ (S2.mut hO hR e1 z1 y2 (RepAll.set (Rep.mono g2.g r1) m y5)) (g1.g.trans g2.g)
end
end Fc

/-! Fc, part K: three names at once; tables of defs. -/
namespace Fc
open PySem PySem.Spec PyProof.Rows L2
section
variable {P : Program} {w : World} {K : PySem.W.Frag} {mg : Str → Option Value} {base : Heap} {j k : Nat} {x : Str} {ps : List Str} {F : List D → M D}
theorem Has.mono (H : Has P w K mg base j x ps F) (h : j ≤ k) : Has P w K mg base k x ps F := by
  obtain ⟨f, fd, h1, h2, h3, h4⟩ := H
  exact ⟨f, fd, h1.mono h, h2, h3, h4⟩
/-- a table of defs -/
def tbN : Str → Option (List D → M D) := fun _ => none
def tbC (x0 : Str) (F0 : List D → M D) (rest : Str → Option (List D → M D)) : Str → Option (List D → M D) := fun x => if x = x0 then some F0 else rest x
theorem tbN_has : ∀ x F, tbN x = some F → ∃ ps, Has P w K mg base k x ps F := fun x F h => by cases h
theorem tbC_has {x0 : Str} {F0 : List D → M D} {rest : Str → Option (List D → M D)} (h0 : Has P w K mg base k x0 ps F0) (hr : ∀ x F, rest x = some F → ∃ ps, Has P w K mg base k x ps F) : ∀ x F, tbC x0 F0 rest x = some F → ∃ ps, Has P w K mg base k x ps F := by
  intro x F h
  unfold tbC at h
  split at h
  · rename_i e
    cases h
    subst e
    exact ⟨_, h0⟩
  · exact hr x F h
end
section
variable {X : Cx} {O : List Nat} {a b c : Expr} {fs : Env → M (List D)} {pos : Pos}
theorem RepAs.three {p : Par} {al : Bool} {G H : Hp} {vs : List V} {d e f : D} (r : RepAs p al G H vs [d, e, f]) : ∃ v u t, vs = [v, u, t] ∧ RepA p al G H v d ∧ RepA p al G H u e ∧ RepA p al G H t f := by
  cases r with
  | cons r t => cases t with
    | cons r2 t => cases t with
      | cons r3 t => cases t; exact ⟨_, _, _, rfl, r, r2, r3⟩
/-- a, b, c = x, y, z of three local names -/
def sPar3 (i j l : Nat) (fs : Env → M (List D)) : F1 := fun δ => do
  let xs ← fs δ
  match xs with
  | [x, y, z] => pure (.nx, ((δ.set i (some x)).set j (some y)).set l (some z))
  | _ => fail
theorem ss_par3 (i j l : Nat) {x y z : Str} {px py pz pt : Pos} {kt k2 pt2} (hc : X.calm = true) (hN : X.N.Nodup) (ha : SA X O false [a, b, c] fs) (hO : i ∉ O := by decide) (hO2 : j ∉ O := by decide) (hO3 : l ∉ O := by decide) (hi : X.N[i]? = some x := by rfl) (hj : X.N[j]? = some y := by rfl) (hl : X.N[l]? = some z := by rfl)
    (hij : i ≠ j := by decide) (hil : i ≠ l := by decide) (hjl : j ≠ l := by decide)
    (hx : X.env.scope.names.lookup x = some .local := by rfl) (hy : X.env.scope.names.lookup y = some .local := by rfl) (hz : X.env.scope.names.lookup z = some .local := by rfl)
    (hw : swappedStores [.Tuple [.Name x px, .Name y py, .Name z pz] kt pt] (.Tuple [a, b, c] k2 pt2) X.env = pure (some [x, y, z]) := by rfl)
    (hs : swapsWithSole [.Tuple [.Name x px, .Name y py, .Name z pz] kt pt] (.Tuple [a, b, c] k2 pt2) pos.line X.env = pure false := by rfl) :
    SS X O (.Assign [.Tuple [.Name x px, .Name y py, .Name z pz] kt pt] (.Tuple [a, b, c] k2 pt2) pos) (sPar3 i j l fs) :=
  PS.weak (ps_par3 hc hN hi hj hl hij hil hjl hx hy hz ha hw hs) fun E σ H ⟨dr, B, G0, ad, δ, G, w, o, δ', w', S, hf, k⟩ => by
    obtain ⟨xs, w1, h1, hf1⟩ := bind_some hf
    refine ⟨dr, B, G0, ad, δ, G, w, xs, w1, S, h1, fun vs G1 H1 g1 S1 r1 => ?_⟩
    match xs, hf1, r1 with
    | [d1, d2, d3], hf1, r1 =>
      obtain ⟨e, rfl⟩ := pure_some hf1
      cases e
      obtain ⟨v, u, t, rfl, ra, rb, rc⟩ := r1.three
      exact ⟨v, u, t, rfl, k _ G1 H1 (((S1.set hO ra).set hO2 rb).set hO3 rc) g1.g⟩
end
end Fc

/-! Fc, part L: enumerate and zip of lists and tuples; slots that hold a list first and another thing then; two new lists at once; lists joined and repeated. -/
namespace Fc
open PySem PySem.Spec PyProof.Rows L2

/-! ### enumerate(v) of anything that begins -/
set_option maxHeartbeats 4000000 in
theorem enumNew1 {v : Value} {ob : Obj} {Hh : Heap → Prop} (B : Begins v ob Hh) :
    Meets (Builtin.«enumerate.__new__» ⟨[.type "enumerate", v], []⟩) (fun _ R s => Hh s.heap ∧
      R (.ok (.ret (.ref (s.heap.push ob).objs.size))) { s with heap := (s.heap.push ob).push { cls := .type "enumerate", data := .fields #[.none, .bool false, .ref s.heap.objs.size, rawInt 0, .none, .none] } }) :=
  .of_wp fun prog w A R s h => by
    obtain ⟨hp, gs, dr, tk, os⟩ := s; obtain ⟨hh1, hR⟩ := h
    have isSub := sub_enumerate
    have begin1 : ∀ {A' : Around} {E : Value → Shared → Prop} {Q : Value → Shared → Prop}, Q (.ref hp.objs.size) ⟨hp.push ob, gs, dr, tk, os⟩ → wpAny (model prog w) A' (pyIter v) Q E ⟨hp, gs, dr, tk, os⟩ :=
      fun k => B.iter prog w _ _ ⟨hp, gs, dr, tk, os⟩ _ hh1 k
    wp_walk using begin1
    refine wpAny_stack_any fun _ => wpAny_pure ?_
    split
    · rename_i cc _ _ _ _ _
      cases (cc == Value.type "enumerate") <;> (wp_walk using begin1; exact ⟨_, rfl, hR⟩)
    · wp_walk using begin1
      exact ⟨_, rfl, hR⟩
theorem enumCall1 {prog : Program} {w : World} {A : Around} {E : Value → Shared → Prop} {s : Shared} {v : Value} {ob : Obj} {Hh : Heap → Prop} {Q : Value → Shared → Prop} (B : Begins v ob Hh) (hh1 : Hh s.heap)
    (k : ∀ h', IsEnum h' (s.heap.objs.size + 1) s.heap.objs.size 0 .none → h'.get? s.heap.objs.size = some ob → (∀ b o, s.heap.get? b = some o → h'.get? b = some o) → Q (.ref (s.heap.objs.size + 1)) { s with heap := h' }) :
    wpAny (model prog w) A (call (.type "enumerate") [v]) Q E s := by
  have sz : (s.heap.push ob).objs.size = s.heap.objs.size + 1 := Heap.size_push ..
  have en : IsEnum ((s.heap.push ob).push { cls := .type "enumerate", data := .fields #[.none, .bool false, .ref s.heap.objs.size, rawInt 0, .none, .none] }) (s.heap.objs.size + 1) s.heap.objs.size 0 .none := by
    have z := Heap.get?_push_size (s.heap.push ob) (o := { cls := .type "enumerate", data := .fields #[.none, .bool false, .ref s.heap.objs.size, rawInt 0, .none, .none] }) rfl
    rw [sz] at z
    exact z
  refine callType_new F.called_enumerate (by decide) (F.typeCall_enumerate_1 _) (F.newCall_enumerate_1 _) (fun ob' => F.args_object_init_2 ob' _) F.entry_enumerate_new (enumNew1 B) ⟨hh1, ?_⟩
  show _ ∧ _
  rw [sz]
  exact ⟨⟨_, en, rfl⟩, k _ en (Heap.get?_push_of_some _ (Heap.get?_push_size _ B.free)) fun b o q => Heap.get?_push_of_some _ (Heap.get?_push_of_some _ q)⟩
/-- the tuple at a as it stands at each turn, its items with their numbers -/
def IteT (K : PySem.W.Frag) (a : Addr) : It where
  go := fun i H => ∃ (xs : List V) (x : V), SqT K H a xs ∧ xs[i]? = some x
  yld := fun i H v H' => ∃ T x, v = .ref T ∧ H T = none ∧ H' = upd H T (.tup [.int (i : Nat), x]) ∧ ∀ xs, SqT K H a xs → xs[i]? = some x
  stop := fun i H => ∃ xs : List V, SqT K H a xs ∧ xs.length = i
theorem turnEnumT {P : Program} {w : World} {K : PySem.W.Frag} {elts : List Expr} {kk : Nat} {tpos : Pos} (a e it : Addr) :
    Turn P w K (.Tuple elts kk tpos) (IteT K a) [e, it] e (fun i h => (∃ old, IsEnum h e it ((i : Nat) : Int) old) ∧ h.IsTupleIter it a i ∧ e ≠ it ∧ a ≠ it ∧ e ≠ a) where
  mem := by simp
  obj := fun i h st b hb => by
    obtain ⟨⟨old, en⟩, ⟨ob, hob, _, hdat⟩, _⟩ := st
    have two : b = e ∨ b = it := by simpa using hb
    rcases two with rfl | rfl
    · exact ⟨_, en, fun v z => nomatch z⟩
    · exact ⟨ob, hob, fun v z => by rw [hdat] at z; cases z⟩
  keep := fun i h h' st k => let ⟨⟨old, en⟩, ti, ne⟩ := st; ⟨⟨old, k e (by simp) _ en⟩, ti.at fun o z => k it (by simp) o z, ne⟩
  item := by
    intro X hP hw hK hc i pins s σ H E I hf st hg
    subst hP hw hK
    obtain ⟨⟨old, en⟩, ti, ne, na, nea⟩ := st
    obtain ⟨xs, x, hq, hx⟩ := hg
    obtain ⟨its, rv, tp, _⟩ := I.tuple hq
    obtain ⟨u, hu, ru⟩ := rv.get hx
    have el : e < s.heap.objs.size := Heap.lt_size en
    have il : it < s.heap.objs.size := by obtain ⟨_, z, _⟩ := ti; exact Heap.lt_size z
    have hlt : i < its.toArray.size := by
      have := (List.getElem?_eq_some_iff.mp hu).1
      simpa using this
    have hef : e ∉ [it, a] := by simp [ne, nea]
    refine wpAny_pyNext_enum_itemC (Draws.tuple (A := X.A.in1) (prog := X.prog) (w := X.w) (show X.A.in1.handled = none from I.ok.hd hc) it a na its.toArray) en ⟨ti, tp⟩ hlt ne hef fun x' h' tk hP ho st' hT hsz hk => ?_
    have ex : x' = u := by
      have hP' : its.toArray[i]? = some x' := hP
      have : its.toArray[i]? = some u := by simpa using hu
      rw [this] at hP'
      exact (Option.some.inj hP').symm
    subst ex
    refine ⟨_, rfl, wpAny_letOwnedTupleGo_enum (s := { s with heap := h', toks := tk + 1 }) ho fun h'' en' sb => ?_⟩
    have hT2 : h''.get? s.heap.objs.size = some { cls := .type "tuple", data := .seq #[.int i tk, x'] } := (sb.2 _ (Nat.ne_of_gt el)).trans hT
    have nw : ObjOk X.prog X.w (upd H s.heap.objs.size (.tup [.int (i : Nat), x])) h'' s.heap.objs.size (.tup [.int (i : Nat), x]) :=
      ⟨by show 2 ≤ sizeLine; decide, [.int i tk, x'], .cons ⟨_, rfl⟩ (.cons ru .nil), ⟨_, hT2, rfl, _, rfl⟩⟩
    have I1 : Inv X pins σ (upd H s.heap.objs.size (.tup [.int (i : Nat), x])) { s with heap := h'', toks := tk + 1 } :=
      I.turnedNew (ch := [e, it]) (fun b ob hb z => (sb.2 b (fun z' => hb (by simp [z']))).trans (hk b ob (fun z' => hb (by simp [z'])) (fun z' => hb (by simp [z'])) z)) hf (Nat.le_refl _) nw
    refine ⟨.ref s.heap.objs.size, _, I1, rfl, ⟨_, x, rfl, I.hok.fresh (Nat.le_refl _), rfl, fun ys hy => by rw [I.tuple_inj hy hq]; exact hx⟩, ⟨⟨x', ?_⟩, st'.1.at fun o z => (sb.2 it (Ne.symm ne)).trans z, ne, na, nea⟩, fun b hb => ?_⟩
    · have e1 : ((i + 1 : Nat) : Int) = (i : Int) + 1 := by omega
      rw [e1]; exact en'
    · have hb' : b < s.heap.objs.size := by
        have two : b = e ∨ b = it := by simpa using hb
        rcases two with rfl | rfl
        · exact el
        · exact il
      rw [upd_ne (Nat.ne_of_lt hb')]
      exact (hf b hb).1
  done := by
    intro X hP hw hK hc i pins s σ H E I hf st hg
    subst hP hw hK
    obtain ⟨⟨old, en⟩, ti, ne, na, nea⟩ := st
    obtain ⟨xs, hq, hx⟩ := hg
    obtain ⟨its, rv, tp, _⟩ := I.tuple hq
    obtain ⟨f0, f1, f2, f3, f4, f5⟩ := hf it (by simp)
    have hl := rv.length
    have hsz : i = its.toArray.size := by simp; omega
    exact wpAny_pyNext_enum_endD (Draws.tuple (A := X.A.in1) (prog := X.prog) (w := X.w) (show X.A.in1.handled = none from I.ok.hd hc) it a na its.toArray) en (hsz ▸ ⟨ti, tp⟩) fun h' eb => ⟨rfl, I.turned (t' := s.toks) (fun b o hb z => eb b o hb z) f0 f1 f3 f4 f5⟩
  self := fun A i s Q E st h => let ⟨⟨_, en⟩, _⟩ := st; wpAny_pyIter_enum en h
def iEnumA (K : PySem.W.Frag) (ta : TA) : TI := fun σ H R => ta σ H fun vs H1 => ∃ a xs, vs = [.ref a] ∧ ((SqL K H1 a xs ∧ R (Ite K a) H1) ∨ (SqT K H1 a xs ∧ R (IteT K a) H1))
theorem pi_enumA {X : Cx} {e : Expr} {ta : TA} {p pos tpos : Pos} {elts : List Expr} {kk : Nat} (hg : Gl X "enumerate") (hm : X.mg "enumerate" = none) (ha : PA X [e] ta) (hs : starEach [e] X.env = [(false, eval e X.env)] := by rfl) :
    PI X (.Tuple elts kk tpos) (.Call (.Name "enumerate" p) [e] [] pos) (iEnumA X.K ta) := by
  refine ⟨fun pins s σ H R I h => ?_⟩
  refine Call_ (ld_blt I hg hm boot_enumerate (PyProof.Rows.callWith_type1 (thn (ha.run pos pins s σ H _ I h) fun us s1 ⟨vs, H1, I1, r1, q1⟩ => ?_) hs rfl))
  obtain ⟨a, xs, ex, q1⟩ := q1
  subst ex
  cases r1 with
  | cons r rr =>
    cases rr
    cases r
    have two : ∀ b, b ∈ [s1.heap.objs.size + 1, s1.heap.objs.size] → FpOk X pins H1 b := fun b hb => by
      have hle : s1.heap.objs.size ≤ b := by
        have e' : b = s1.heap.objs.size + 1 ∨ b = s1.heap.objs.size := by simpa using hb
        rcases e' with z | z <;> rw [z]
        · exact Nat.le_add_right _ _
        · exact Nat.le_refl _
      exact I1.fpOk hle (I1.hok.fresh hle)
    rcases q1 with ⟨hq, q⟩ | ⟨hq, q⟩
    · obtain ⟨its, rv, lp, _⟩ := I1.list hq
      refine call_enumerate_list lp.isList fun h' en li _ hk => wpAny_pyIter_enum en ?_
      have I2 : Inv X pins σ H1 { s1 with heap := h' } := I1.kept (t' := s1.toks) hk
      exact ⟨s1.heap.objs.size + 1, _, _, _, H1, rfl, I2, turn_enum a (s1.heap.objs.size + 1) s1.heap.objs.size, ⟨⟨.none, en⟩, li, Nat.succ_ne_self _⟩, two, q⟩
    · obtain ⟨its, rv, tp, _⟩ := I1.tuple hq
      obtain ⟨ob, hob, _⟩ := id tp
      have hal : a < s1.heap.objs.size := Heap.lt_size hob
      refine enumCall1 (begins_tuple a its.toArray) tp fun h' en ti hk => wpAny_pyIter_enum en ?_
      have I2 : Inv X pins σ H1 { s1 with heap := h' } := I1.kept (t' := s1.toks) hk
      exact ⟨s1.heap.objs.size + 1, _, _, _, H1, rfl, I2, turnEnumT a (s1.heap.objs.size + 1) s1.heap.objs.size, ⟨⟨.none, en⟩, ⟨_, ti, rfl, rfl⟩, Nat.succ_ne_self _, Nat.ne_of_lt hal, Nat.ne_of_gt (Nat.lt_succ_of_lt hal)⟩, two, q⟩

section
variable {X : Cx} {O : List Nat} {al bl cl : Bool} {a b c e : Expr} {es elts : List Expr} {f g h : Env → M D} {fs : Env → M (List D)} {pos q tpos : Pos} {kk : Nat}
/-! ### as data -/
def enumD (n : Nat) : List D → List D
  | [] => []
  | d :: ds => .tup [.int (n : Nat), d] :: enumD (n + 1) ds
theorem enumD_len : ∀ (ds : List D) (n : Nat), (enumD n ds).length = ds.length
  | [], _ => rfl
  | d :: ds, n => by
    show (enumD (n + 1) ds).length + 1 = _
    rw [enumD_len ds (n + 1)]
    rfl
theorem enumD_get : ∀ (ds : List D) (n i : Nat) (d : D), ds[i]? = some d → (enumD n ds)[i]? = some (.tup [.int ((n + i : Nat) : Int), d])
  | [], _, _, _, h => by simp at h
  | d :: ds, n, 0, _, h => by
    cases h
    rfl
  | d :: ds, n, i + 1, _, h => by
    have e : n + (i + 1) = n + 1 + i := by omega
    rw [e]
    exact enumD_get ds (n + 1) i _ h
def dEnum : List D → Option (List D)
  | [.tup l] => some (enumD 0 l)
  | [.lst l] => some (enumD 0 l)
  | _ => none
theorem walksEnumT {p : Par} {G : Hp} {a : Addr} {vs : List V} {ds : List D} {Ok : Hp → Prop} (h : SqT p.K G a vs) (r : RepAll p G vs ds) : WalksD p (IteT p.K a) G Ok (enumD 0 ds) where
  go := fun i G1 H1 s1 s2 _ hi => by
    rw [enumD_len, ← r.length] at hi
    exact ⟨vs, vs[i], sub_t (s1.trans s2) h, List.getElem?_eq_getElem hi⟩
  yl := fun i G1 H1 x H2 s1 s2 _ hi y => by
    obtain ⟨T, v, rfl, hT, rfl, hv⟩ := y
    obtain ⟨d, hd, rd⟩ := r.getV (hv vs (sub_t (s1.trans s2) h))
    have e := enumD_get ds 0 i d hd
    rw [Nat.zero_add] at e
    obtain ⟨gr, rz⟩ := Rep.newT (p := p) (vs := [.int (i : Nat), v]) (ds := [.int (i : Nat), d]) s2 hT (.cons (.int _) (.cons (rd.mono s1) .nil))
    exact ⟨_, _, e, gr, rz⟩
  st := fun G1 H1 s1 s2 _ => ⟨vs, sub_t (s1.trans s2) h, by rw [enumD_len, r.length]⟩
theorem walksEnumL {p : Par} {G : Hp} {a : Addr} {vs : List V} {ds : List D} {Ok : Hp → Prop} (h : ∀ G1 H1, Sub G G1 → Sub G1 H1 → Ok H1 → H1 a = some (.lst vs)) (r : RepAll p G vs ds) : WalksD p (Ite p.K a) G Ok (enumD 0 ds) where
  go := fun i G1 H1 s1 s2 o hi => by
    rw [enumD_len, ← r.length] at hi
    exact ⟨vs, vs[i], SqL.of (h G1 H1 s1 s2 o), List.getElem?_eq_getElem hi⟩
  yl := fun i G1 H1 x H2 s1 s2 o hi y => by
    obtain ⟨T, v, rfl, hT, rfl, hv⟩ := y
    obtain ⟨d, hd, rd⟩ := r.getV (hv vs (SqL.of (h G1 H1 s1 s2 o)))
    have e := enumD_get ds 0 i d hd
    rw [Nat.zero_add] at e
    obtain ⟨gr, rz⟩ := Rep.newT (p := p) (vs := [.int (i : Nat), v]) (ds := [.int (i : Nat), d]) s2 hT (.cons (.int _) (.cons (rd.mono s1) .nil))
    exact ⟨_, _, e, gr, rz⟩
  st := fun G1 H1 s1 s2 o => ⟨vs, SqL.of (h G1 H1 s1 s2 o), by rw [enumD_len, r.length]; exact Nat.le_refl _⟩
theorem si_enum (hm : X.mg "enumerate" = none) (hg : Gl X "enumerate") (ha : SA X O false [e] fs) (hs : starEach [e] X.env = [(false, eval e X.env)] := by rfl) : SI X O false (.Tuple elts kk tpos) (.Call (.Name "enumerate" q) [e] [] pos) (itCall dEnum fs) :=
  PI.weak (pi_enumA hg hm ha hs) fun σ H R ⟨dr, B, G0, ad, δ, G, w, ds, w', S, hf, k⟩ => by
    obtain ⟨xs, w1, h1, hf1⟩ := bind_some hf
    obtain ⟨h3, rfl⟩ := liftO_some hf1
    refine ⟨dr, B, G0, ad, δ, G, w, xs, _, S, h1, fun vs G1 H1 g1 S1 r1 => ?_⟩
    match xs, h3, r1 with
    | [.tup l], h3, r1 =>
      cases h3
      obtain ⟨v, rfl, rr⟩ := r1.one
      have r2 : Rep _ G1 v (.tup l) := rr
      cases r2 with
      | @tup a vs _ h4 h5 => exact ⟨a, vs, rfl, .inr ⟨sub_t S1.sub h4, k _ G1 H1 g1 S1 (walksEnumT h4 h5)⟩⟩
    | [.lst l], h3, r1 =>
      cases h3
      obtain ⟨v, rfl, rr⟩ := r1.one
      have r2 : Rep _ G1 v (.lst l) := rr
      cases r2 with
      | @lst a vs _ h4 h5 => exact ⟨a, vs, rfl, .inl ⟨SqL.of (S1.sub _ _ h4), k _ G1 H1 g1 S1 (walksEnumL (fun G2 H2 s1 s2 _ => s2 _ _ (s1 _ _ h4)) h5)⟩⟩
end
end Fc

/-! Fc, part O: slots that hold a list of the def's own and later another thing; two new lists at once; lists joined, repeated. -/
namespace Fc
open PySem PySem.Spec PyProof.Rows L2
section
variable {p : Par} {δ : Env} {σ : L2.St} {G H G' H' : Hp} {w : Dw}
theorem SR.setV {i : Nat} {d : D} {v : V} (S : SR p δ σ G H w) (hp : i + 2000 ∉ p.O) (hd : d.isL = false) (r : Rep p G v d) : SR p (δ.set i (some d)) (σ.set i (some v)) G H w := by
  refine ⟨S.sub, S.g0, S.bas, S.bd, by rw [List.length_set, List.length_set]; exact S.len, fun j e h n m => ?_, fun j e h n => ?_, ?_, fun j h => ?_, S.draw, S.kp⟩
  · by_cases hj : i = j
    · subst hj
      obtain ⟨q, hl⟩ := set_at h
      cases q
      exact ⟨v, List.getElem?_set_self (by rw [← S.len]; exact hl), r⟩
    · rw [List.getElem?_set_ne hj] at h
      obtain ⟨u, e1, r1⟩ := S.vals j e h n m
      exact ⟨u, by rw [List.getElem?_set_ne hj]; exact e1, r1⟩
  · by_cases hj : i = j
    · subst hj
      obtain ⟨q, hl⟩ := set_at h
      cases q
      exact ⟨v, List.getElem?_set_self (by rw [← S.len]; exact hl), .rep r⟩
    · rw [List.getElem?_set_ne hj] at h
      obtain ⟨u, e1, r1⟩ := S.ros j e h n
      exact ⟨u, by rw [List.getElem?_set_ne hj]; exact e1, r1⟩
  · obtain ⟨ρ, ow⟩ := S.owns
    refine ⟨ρ, fun j e h n l => ?_⟩
    have hj : i ≠ j := fun z => by
      subst z
      obtain ⟨q, _⟩ := set_at h
      cases q
      rw [hd] at l
      cases l
    rw [List.getElem?_set_ne hj] at h
    rw [List.getElem?_set_ne hj]
    exact ow j e h n l
  · obtain ⟨h1, h2⟩ := S.pins j h
    exact ⟨h1, by rw [List.getElem?_set_ne (fun z : i = j => hp (z ▸ h))]; exact h2⟩
/-- addresses that no own thing stands at -/
def AwayL (p : Par) (δ : Env) (σ : L2.St) (G H : Hp) (as : List Addr) : Prop := ∃ ρ, OwnsBy p δ σ G H ρ ∧ ∀ a ∈ as, ρ a = none
open Classical in
theorem SR.awayL (S : SR p δ σ G H w) {as : List Addr} (h : ∀ a ∈ as, H a = none) : AwayL p δ σ G H as := by
  obtain ⟨ρ, ow⟩ := S.owns
  refine ⟨fun b => if b ∈ as then none else ρ b, ow.keep (Sub.refl G) fun i _ b L o q1 q2 q3 q4 q5 => ⟨q5, q3, ?_⟩, fun a ha => if_pos ha⟩
  rw [if_neg fun z => by rw [h b z] at q5; cases q5]
  exact q1
theorem AwayL.grow {as : List Addr} (h : AwayL p δ σ G H as) (hd : p.B p.dr ≠ none) (g : Grow p G H G' H') : AwayL p δ σ G' H' as := let ⟨ρ, ow, e⟩ := h; ⟨ρ, ow.grow hd g, e⟩
theorem SR.setOL {i : Nat} {ds : List D} {vs : List V} {a : Addr} {as : List Addr} (S : SR p δ σ G H w) (hi : i ∈ p.O) (hp : i + 2000 ∉ p.O) (hr : i + 1000 ∉ p.O) (h1 : H a = some (.lst vs)) (h2 : G a = none) (h3 : p.B a = none) (h4 : AwayL p δ σ G H (a :: as)) (hn : a ∉ as) (r : RepAll p G vs ds) :
    SR p (δ.set i (some (.lst ds))) (σ.set i (some (.ref a))) G H w ∧ AwayL p (δ.set i (some (.lst ds))) (σ.set i (some (.ref a))) G H as := by
  obtain ⟨ρ, ow, e⟩ := h4
  have e0 := e a (List.mem_cons_self)
  refine ⟨S.setO hi hp hr h1 h2 h3 ⟨ρ, ow, e0⟩ r, fun b => if b = a then some [i] else ρ b, fun j f h n l => ?_, fun b hb => ?_⟩
  · by_cases hj : i = j
    · subst hj
      obtain ⟨q, hl⟩ := set_at h
      cases q
      exact ⟨_, List.getElem?_set_self (by rw [← S.len]; exact hl), .lst ⟨if_pos rfl, h2, h3⟩ h1 r⟩
    · rw [List.getElem?_set_ne hj] at h
      rw [List.getElem?_set_ne hj]
      obtain ⟨u, e1, nd⟩ := ow j f h n l
      refine ⟨u, e1, nd.keep (Sub.refl G) fun b L o z1 z2 z3 z4 z5 => ⟨z5, z3, ?_⟩⟩
      rw [if_neg fun z => by rw [z, e0] at z1; cases z1]
      exact z1
  · show (if b = a then some [i] else ρ b) = none
    rw [if_neg fun z : b = a => hn (z ▸ hb)]
    exact e b (List.mem_cons_of_mem _ hb)
end
section
variable {X : Cx} {O : List Nat} {al bl : Bool} {a b e : Expr} {f g : Env → M D} {fs : Env → M (List D)} {pos : Pos}
/-- a name that holds no list -/
def eVal (i : Nat) : Env → M D := fun δ => match δ[i]? with
  | some (some d) => if d.isL = true then fail else pure d
  | _ => fail
theorem eVal_some {i : Nat} {δ : Env} {w w' : Dw} {d : D} (h : eVal i δ w = some (d, w')) : δ[i]? = some (some d) ∧ d.isL = false ∧ w = w' := by
  unfold eVal at h
  cases q : δ[i]? with
  | none => rw [q] at h; cases h
  | some o =>
    cases o with
    | none => rw [q] at h; cases h
    | some d' =>
      rw [q] at h
      cases hl : d'.isL with
      | true =>
        simp only [hl, if_true] at h
        cases h
      | false =>
        have h' : (pure d' : M D) w = some (d, w') := by simpa only [hl, Bool.false_eq_true, if_false] using h
        obtain ⟨e1, e2⟩ := pure_some h'
        subst e1
        exact ⟨rfl, hl, e2⟩
theorem se_val (i : Nat) {x : Str} (hR : i + 1000 ∉ O := by decide) (hN : X.N[i]? = some x := by rfl) (hv : Vis X.env.scope x := by first | exact Or.inl rfl | exact Or.inr (Or.inl rfl) | exact Or.inr (Or.inr rfl)) (hd : (x == ("__debug__" : Str)) = false := by decide)
    (hcd : (x == ("__classdict__" : Str)) = false := by decide) : SE X O false (.Name x pos) (eVal i) :=
  PE.weak (pe_var hN hv hd hcd) fun σ H Q ⟨dr, B, G0, ad, δ, G, w, d, w', S, hf, k⟩ => by
    obtain ⟨h1, hl, h2⟩ := eVal_some hf
    subst h2
    obtain ⟨v, e, r⟩ := S.vals i d h1 (fun z => by rw [hl] at z; cases z.2) hR
    exact ⟨v, e, k v G H (.refl _ G H) S r⟩
/-- such a name takes a value that is no list -/
def sAsgV (i : Nat) (f : Env → M D) : F1 := fun δ => do
  let d ← f δ
  if d.isL = true then fail else pure (.nx, δ.set i (some d))
theorem ss_setV (i : Nat) {x : Str} {p2 : Pos} (hN : X.N.Nodup) (ha : SE X O false e f) (hP : i + 2000 ∉ O := by decide) (hi : X.N[i]? = some x := by rfl) (hx : Loc X.env.scope x := by first | exact Or.inl rfl | exact Or.inr rfl) (hs : swapsWith e (some (.Name x p2)) pos.line X.env = pure false := by rfl)
    (hf : X.fn x = true ∨ X.env.scope.names.lookup x = some .local := by first | exact .inl rfl | exact .inr rfl) : SS X O (.Assign [.Name x p2] e pos) (sAsgV i f) :=
  PS.weak (ps_set hN hi hx ha hs hf) fun E σ H ⟨dr, B, G0, ad, δ, G, w, o, δ', w', S, hf, k⟩ => by
    obtain ⟨d, w1, h1, hf1⟩ := bind_some hf
    cases hl : d.isL with
    | true =>
      simp only [hl, if_true] at hf1
      cases hf1
    | false =>
      have hf2 : (pure (Out.nx, δ.set i (some d)) : M (Out × Env)) w1 = some ((o, δ'), w') := by simpa only [hl, Bool.false_eq_true, if_false] using hf1
      obtain ⟨e, rfl⟩ := pure_some hf2
      cases e
      exact ⟨dr, B, G0, ad, δ, G, w, d, _, S, h1, fun v G1 H1 g1 S1 r1 => k _ G1 H1 (S1.setV hP hl r1) g1.g⟩
/-- two lists, each new when it came, given to two names -/
theorem SR.two {K : PySem.W.Frag} {mg : Str → Option Value} {dr : Addr} {B G0 : Hp} {ad : Nat → Addr} {i j : Nat} {δ : Env} {σ : L2.St} {G H G1 H1 G2 H2 : Hp} {w w1 w2 : Dw} {a1 a2 : Addr} {vs1 vs2 : List V} {ds1 ds2 : List D} (S : SR ⟨K, mg, dr, O, B, G0, ad⟩ δ σ G H w) (S1 : SR ⟨K, mg, dr, O, B, G0, ad⟩ δ σ G1 H1 w1) (S2 : SR ⟨K, mg, dr, O, B, G0, ad⟩ δ σ G2 H2 w2) (gg : Grow ⟨K, mg, dr, O, B, G0, ad⟩ G H G1 H1) (g2 : Grow ⟨K, mg, dr, O, B, G0, ad⟩ G1 H1 G2 H2)
    (hO : i ∈ O) (hO2 : j ∈ O) (hP1 : i + 2000 ∉ O) (hR1 : i + 1000 ∉ O) (hP2 : j + 2000 ∉ O) (hR2 : j + 1000 ∉ O) (z0 : H a1 = none) (z1 : H1 a1 = some (.lst vs1)) (z2 : G1 a1 = none) (hne1 : a1 ≠ dr) (r1 : RepAll ⟨K, mg, dr, O, B, G0, ad⟩ G1 vs1 ds1) (y0 : H1 a2 = none) (y1 : H2 a2 = some (.lst vs2)) (y2 : G2 a2 = none) (hne2 : a2 ≠ dr) (r2 : RepAll ⟨K, mg, dr, O, B, G0, ad⟩ G2 vs2 ds2) :
    SR ⟨K, mg, dr, O, B, G0, ad⟩ ((δ.set i (some (.lst ds1))).set j (some (.lst ds2))) ((σ.set i (some (.ref a1))).set j (some (.ref a2))) G2 H2 w2 := by
  have hB1 : B a1 = none := by
    cases q : B a1 with
    | none => rfl
    | some o => have := S.bas a1 o hne1 q; rw [z0] at this; cases this
  have hB2 : B a2 = none := by
    cases q : B a2 with
    | none => rfl
    | some o => have := S1.bas a2 o hne2 q; rw [y0] at this; cases this
  have k1 : H2 a1 = some (.lst vs1) := g2.h _ _ hne1 z1
  have k2 : G2 a1 = none := g2.k _ _ z1 z2
  have ne : a1 ≠ a2 := fun z => by rw [z, y0] at z1; cases z1
  have aw : AwayL ⟨K, mg, dr, O, B, G0, ad⟩ δ σ G1 H1 [a2] := S1.awayL (by simp [y0])
  obtain ⟨ρ, ow, e2⟩ := (aw.grow S.bd' g2)
  have aw2 : AwayL ⟨K, mg, dr, O, B, G0, ad⟩ δ σ G2 H2 [a1, a2] := by
    have hz : H a2 = none := by
      cases q : H a2 with
      | none => rfl
      | some o => have := gg.h a2 o hne2 q; rw [y0] at this; cases this
    exact (S.awayL (by simp [z0, hz])).grow S.bd' (gg.trans g2)
  obtain ⟨S3, aw3⟩ := S2.setOL (i := i) hO hP1 hR1 k1 k2 hB1 aw2 (by simpa using ne) (r1.mono g2.g)
  exact (S3.setOL (i := j) hO2 hP2 hR2 y1 y2 hB2 aw3 (by simp) r2).1
/-- x, y = [..], [..]: two new lists of the def's own -/
def sParO (i j : Nat) (f g : Env → M D) : F1 := fun δ => do
  let x ← f δ
  let y ← g δ
  pure (.nx, (δ.set i (some x)).set j (some y))
theorem ss_parO (i j : Nat) {x y : Str} {px py pt : Pos} {kt k2 pt2} (hc : X.calm = true) (hN : X.N.Nodup) (ha : SF X O a f) (hb : SF X O b g) (hO : i ∈ O := by decide) (hO2 : j ∈ O := by decide) (hP1 : i + 2000 ∉ O := by decide) (hR1 : i + 1000 ∉ O := by decide) (hP2 : j + 2000 ∉ O := by decide) (hR2 : j + 1000 ∉ O := by decide) (hi : X.N[i]? = some x := by rfl) (hj : X.N[j]? = some y := by rfl) (hij : i ≠ j := by decide)
    (hx : X.env.scope.names.lookup x = some .local := by rfl) (hy : X.env.scope.names.lookup y = some .local := by rfl)
    (hw : swappedStores [.Tuple [.Name x px, .Name y py] kt pt] (.Tuple [a, b] k2 pt2) X.env = pure (some [x, y]) := by rfl)
    (hs : swapsWithSole [.Tuple [.Name x px, .Name y py] kt pt] (.Tuple [a, b] k2 pt2) pos.line X.env = pure false := by rfl)
    (he1 : starEach [a, b] X.env = (false, eval a X.env) :: starEach [b] X.env := by rfl) (he2 : starEach [b] X.env = (false, eval b X.env) :: starEach [] X.env := by rfl) :
    SS X O (.Assign [.Tuple [.Name x px, .Name y py] kt pt] (.Tuple [a, b] k2 pt2) pos) (sParO i j f g) :=
  PS.weak (ps_par hc hN hi hj hij hx hy (pa_cons ha (pa_cons hb pa_nil he2) he1) hw hs) fun E σ H ⟨dr, B, G0, ad, δ, G, w, o, δ', w', S, hf, k⟩ => by
    obtain ⟨d1, w1, h1, hf1⟩ := bind_some hf
    obtain ⟨d2, w2, h2, hf2⟩ := bind_some hf1
    obtain ⟨e, rfl⟩ := pure_some hf2
    cases e
    refine ⟨dr, B, G0, ad, δ, G, w, d1, w1, S, h1, fun a1 vs1 ds1 G1 H1 ed1 g1 S1 z0 z1 z2 hne1 r1 => ?_⟩
    refine ⟨dr, B, G0, ad, δ, G1, w1, d2, _, S1, h2, fun a2 vs2 ds2 G2 H2 ed2 g2 S2 y0 y1 y2 hne2 r2 => ?_⟩
    subst ed1 ed2
    exact ⟨.ref a1, .ref a2, rfl, k _ G2 H2 (S.two S1 S2 g1 g2 hO hO2 hP1 hR1 hP2 hR2 z0 z1 z2 hne1 r1 y0 y1 y2 hne2 r2) (g1.g.trans g2.g)⟩
/-- the same by a tuple, where one of the names is kept in a cell -/
theorem ss_parT (i j : Nat) {x y : Str} {px py pt : Pos} {kt k2 pt2} (hc : X.calm = true) (hN : X.N.Nodup) (ha : SF X O a f) (hb : SF X O b g) (hO : i ∈ O := by decide) (hO2 : j ∈ O := by decide) (hP1 : i + 2000 ∉ O := by decide) (hR1 : i + 1000 ∉ O := by decide) (hP2 : j + 2000 ∉ O := by decide) (hR2 : j + 1000 ∉ O := by decide) (hi : X.N[i]? = some x := by rfl) (hj : X.N[j]? = some y := by rfl)
    (hx : Loc X.env.scope x := by first | exact Or.inl rfl | exact Or.inr rfl) (hy : Loc X.env.scope y := by first | exact Or.inl rfl | exact Or.inr rfl)
    (hfx : X.fn x = true ∨ X.env.scope.names.lookup x = some .local := by first | exact .inl rfl | exact .inr rfl) (hfy : X.fn y = true ∨ X.env.scope.names.lookup y = some .local := by first | exact .inl rfl | exact .inr rfl)
    (hs : swapsWithSole [.Tuple [.Name x px, .Name y py] kt pt] (.Tuple [a, b] k2 pt2) pos.line X.env = pure false := by rfl) (hw : swappedStores [.Tuple [.Name x px, .Name y py] kt pt] (.Tuple [a, b] k2 pt2) X.env = pure none := by rfl)
    (h1 : (assignEach [.Tuple [.Name x px, .Name y py] kt pt] X.env).map (·.2) = [assign (.Tuple [.Name x px, .Name y py] kt pt) X.env] := by rfl)
    (he1 : starEach [a, b] X.env = (false, eval a X.env) :: starEach [b] X.env := by rfl) (he2 : starEach [b] X.env = (false, eval b X.env) :: starEach [] X.env := by rfl)
    (hn : (assignEach [.Name x px, .Name y py] X.env).length = 2 := by rfl) (hst : (assignEach [.Name x px, .Name y py] X.env).findIdx? (·.1) = none := by rfl)
    (hc1 : (assignEach [.Name x px, .Name y py] X.env).map (·.2) = assign (.Name x px) X.env :: (assignEach [.Name y py] X.env).map (·.2) := by rfl) (hc2 : (assignEach [.Name y py] X.env).map (·.2) = assign (.Name y py) X.env :: (assignEach [] X.env).map (·.2) := by rfl) :
    SS X O (.Assign [.Tuple [.Name x px, .Name y py] kt pt] (.Tuple [a, b] k2 pt2) pos) (sParO i j f g) :=
  PS.weak (ps_asg (pe_tup (pa_cons ha (pa_cons hb pa_nil he2) he1)) (pg_tup hc (pgs_cons (pg_name hN hi hx hfx) (pgs_cons (pg_name hN hj hy hfy) pgs_nil hc2) hc1) hn hst) hs hw h1) fun E σ H ⟨dr, B, G0, ad, δ, G, w, o, δ', w', S, hf, k⟩ => by
    obtain ⟨d1, w1, h1, hf1⟩ := bind_some hf
    obtain ⟨d2, w2, h2, hf2⟩ := bind_some hf1
    obtain ⟨e, rfl⟩ := pure_some hf2
    cases e
    refine ⟨dr, B, G0, ad, δ, G, w, d1, w1, S, h1, fun a1 vs1 ds1 G1 H1 ed1 g1 S1 z0 z1 z2 hne1 r1 => ?_⟩
    refine ⟨dr, B, G0, ad, δ, G1, w1, d2, _, S1, h2, fun a2 vs2 ds2 G2 H2 ed2 g2 S2 y0 y1 y2 hne2 r2 => ?_⟩
    subst ed1 ed2
    refine ⟨by show 2 ≤ sizeLine; decide, fun q hq => ?_⟩
    have S3 := S2.gr (Gr.laid (o := .tup [.ref a1, .ref a2]) S2.sub hq)
    have gq : Grow ⟨X.K, X.mg, dr, O, B, G0, ad⟩ G2 H2 G2 (upd H2 q (.tup [.ref a1, .ref a2])) := (Gr.laid S2.sub hq).grow
    have ne2 : a2 ≠ q := fun z => by rw [z, hq] at y1; cases y1
    have S4 := S.two S1 S3 g1 (g2.trans gq) hO hO2 hP1 hR1 hP2 hR2 z0 z1 z2 hne1 r1 y0 (by rw [upd_ne ne2]; exact y1) y2 hne2 r2
    exact ⟨q, [.ref a1, .ref a2], rfl, .inl (.inl upd_same), rfl, _, _, rfl, _, _, rfl, rfl, k _ G2 _ S4 (g1.g.trans g2.g)⟩
/-! ### lists joined and repeated -/
variable {K : PySem.W.Frag} {mg : Str → Option Value}
def dCat : D → D → Option D
  | .lst xs, .lst ys => if xs.length + ys.length ≤ LIM then some (.lst (xs ++ ys)) else none
  | _, _ => none
theorem os_cat : OpS K mg rCat dCat := by
  intro p G H v u x y d Q hK hmg s rx ry hd k
  subst hK
  cases x <;> cases y <;> try (cases hd; done)
  rename_i l m
  simp only [dCat] at hd
  split at hd
  · rename_i hl
    cases hd
    obtain ⟨a, vs, rfl, ha, ra⟩ := rx.lst s
    obtain ⟨b, us, rfl, hb, rb⟩ := ry.lst s
    refine ⟨a, b, vs, us, rfl, rfl, ha, hb, ?_, fun q hq => ?_⟩
    · rw [ra.length, rb.length]
      exact lim_ok hl
    · obtain ⟨gr, rz⟩ := Rep.newL s hq (ra.append rb)
      exact k _ _ _ gr rz
  · cases hd
theorem st_in (ha : SE X O al a f) (hb : SE X O bl b g) (hm : behindInMarks .In b = false := by first | exact nomark _ | rfl) : ST X O (.Compare a [.In] [b] pos) (tB (eBin dIn f g)) := st_cmp op_in_seq os_inB ha hb hm
theorem st_notIn (ha : SE X O al a f) (hb : SE X O bl b g) (hm : behindInMarks .NotIn b = false := by first | exact nomark _ | rfl) : ST X O (.Compare a [.NotIn] [b] pos) (tB (eBin dNotIn f g)) := st_cmp op_notIn_seq os_inB ha hb hm
theorem se_cat (ha : SE X O al a f) (hb : SE X O bl b g) : SE X O false (.BinOp a .Add b pos) (eBin dCat f g) := se_bin op_cat os_cat ha hb
def dRepL : D → D → Option D
  | .lst xs, .int k => if -1000000 ≤ k ∧ k ≤ 1000000 ∧ xs.length * k.toNat ≤ LIM then some (.lst (List.replicate k.toNat xs).flatten) else none
  | _, _ => none
theorem os_repL : OpS K mg rRep dRepL := by
  intro p G H v u x y d Q hK hmg s rx ry hd k
  subst hK
  cases x <;> cases y <;> try (cases hd; done)
  rename_i l m
  simp only [dRepL] at hd
  split at hd
  · rename_i hl
    cases hd
    obtain ⟨a, vs, rfl, ha, ra⟩ := rx.lst s
    refine ⟨a, m, vs, rfl, ry.int, ha, by omega, by omega, ?_, fun q hq => ?_⟩
    · rw [ra.length]
      exact lim_ok hl.2.2
    · obtain ⟨gr, rz⟩ := Rep.newL s hq (ra.rep m.toNat)
      exact k _ _ _ gr rz
  · cases hd
theorem se_repL (ha : SE X O al a f) (hb : SE X O bl b g) : SE X O false (.BinOp a .Mult b pos) (eBin dRepL f g) := se_bin op_rep os_repL ha hb
end
end Fc

/-! Fc, part P: own lists from + and *, lists of one's own within a value that is handed back, zip, what is turned around. -/
namespace HT
open PySem PySem.Spec PyProof.Rows
variable {prog : Program} {w : World} {A : Around} {E : Value → Shared → Prop} {s : Shared}
theorem sliceApplied_rev {sl : Addr} {vs : Value} {n : Nat} {Q : Int × Int × Nat → Shared → Prop} (hs : s.heap.IsSliceOf sl .none .none vs) (ps : IsPart vs (some (-1)))
    (h : Q (((n : Nat) : Int) - 1, -1, n) s) : wpAny (model prog w) A (Builtin.Slice.sliceApplied (.ref sl) (pure (n : Int))) Q E s := by
  obtain ⟨os, hos, hcs, hds⟩ := id hs
  unfold Builtin.Slice.sliceApplied Builtin.Slice.sliceFields
  refine wpAny_bind (wpAny_bind (wpAny_field hos hds (x := .none) rfl (wpAny_bind (wpAny_field hos hds (x := .none) rfl (wpAny_bind (wpAny_field hos hds (x := vs) rfl (wpAny_pure ?_)))))))
  refine wpAny_bind (slicePart_ ps ?_)
  show wpAny _ _ (if ((-1 : Int) == 0) = true then _ else _) _ _ s
  rw [if_neg (by decide)]
  refine wpAny_bind (slicePart_none (wpAny_bind (slicePart_none (wpAny_bind (wpAny_pure ?_)))))
  have e : Builtin.Slice.slicePlaces ((n : Int) - 1) (-1) (-1) = n := by
    unfold Builtin.Slice.slicePlaces
    rw [if_neg (show ¬ ((-1 : Int) > 0) by omega)]
    by_cases h : (n : Int) - 1 > -1
    · rw [if_pos h, show (-(-1 : Int)) = 1 by omega, Int.ediv_one]
      omega
    · rw [if_neg h]
      omega
  show wpAny _ _ (pure ((n : Int) - 1, (-1 : Int), Builtin.Slice.slicePlaces ((n : Int) - 1) (-1) (-1))) _ _ s
  rw [e]
  exact wpAny_pure h
theorem pick_rev (xs : Array Value) : ((List.range xs.size).filterMap fun (m : Nat) => xs[(((xs.size : Nat) : Int) - 1 + (m : Int) * (-1)).toNat]?).toArray = xs.toList.reverse.toArray := by
  have e : (List.range xs.size).filterMap (fun (m : Nat) => xs[(((xs.size : Nat) : Int) - 1 + (m : Int) * (-1)).toNat]?) = ((List.range xs.size).map fun k => xs.size - 1 - k).filterMap (xs[·]?) := by
    rw [List.filterMap_map]
    have e2 : (fun (m : Nat) => xs[(((xs.size : Nat) : Int) - 1 + (m : Int) * (-1)).toNat]?) = (fun x => xs[x]?) ∘ fun k => xs.size - 1 - k := by
      funext m
      show xs[(((xs.size : Nat) : Int) - 1 + (m : Int) * (-1)).toNat]? = xs[xs.size - 1 - m]?
      congr 1
      omega
    rw [e2]
  rw [e, PySem.W.krv_range, List.filterMap_reverse, PySem.W.krv_all]
theorem getItem_tuple_rev {t sl : Addr} {items : Array Value} {vs : Value} {Q : Value → Shared → Prop} (ht : IsTup s.heap t items) (hs : s.heap.IsSliceOf sl .none .none vs) (ps : IsPart vs (some (-1)))
    (h : Q (.ref s.heap.objs.size) { s with heap := s.heap.push { cls := .type "tuple", data := .seq items.toList.reverse.toArray } })
    (hsz : items.size ≤ sizeLine) : wpAny (model prog w) A (getItem (.ref t) (.ref sl)) Q E s := by
  have htake : sizeOk (.seq items.toList.reverse.toArray) := by
    show items.toList.reverse.toArray.size ≤ sizeLine
    rw [List.size_toArray, List.length_reverse, Array.length_toList]
    exact hsz
  obtain ⟨os, hos, hcs, hds⟩ := id hs
  have hTs : s.TypeIs (.ref sl) "slice" := ⟨os, hos, hcs⟩
  unfold getItem
  try with_reducible refine wpAny_holding ?_
  first | refine wpAny_bind (wpAny_pure ?_) | skip
  refine wpAny_bind (wpAny_sequenceKey ht.typeIs (by decide) ?_)
  refine wpAny_bind (wpAny_callSpecial?_slot (name := Str.ofString "__getitem__") ht.typeIs PyProof.Rows.slot_tuple_getitem
    (wpAny_call_entry PyProof.Rows.slot_tuple_getitem ht.typeIs entry_tuple_getitem ?_ (args_tuple_getitem _ _)))
  show wpAny _ _ (Builtin.Tuple.tupleItemsOf (.ref t) >>= _) _ _ s
  refine wpAny_bind (tupleItemsOf_ ht ?_)
  refine wpAny_bind (wpAny_typeOf hTs ?_)
  rw [if_pos (by decide)]
  refine wpAny_bind (sliceApplied_rev hs ps ?_)
  have hno : ¬ (((((items.size : Nat) : Int) - 1) == 0 && (-1 : Int) == 1 && items.size == items.size) = true) := by
    intro q
    rw [Bool.and_eq_true, Bool.and_eq_true] at q
    exact absurd q.1.2 (by decide)
  show wpAny _ _ (if ((((items.size : Nat) : Int) - 1) == 0 && (-1 : Int) == 1 && items.size == items.size) = true then _ else _) _ _ s
  rw [if_neg hno, pick_rev]
  first
    | exact wpAny_bind (m := Builtin.Tuple.tupleExact _) (wpAny_newObj_type (wpAny_pure ⟨_, rfl, wpAny_pure h⟩) htake)
    | exact wpAny_bind (m := Builtin.Tuple.tupleExact _) (wpAny_newObj_type (wpAny_bind (wpAny_pure (wpAny_pure ⟨_, rfl, wpAny_pure h⟩))) htake)
    | exact wpAny_bind (wpAny_bind (m := Builtin.Tuple.tupleExact _) (wpAny_newObj_type (wpAny_pure (wpAny_pure ⟨_, rfl, wpAny_pure h⟩)) htake))
    | exact wpAny_bind (wpAny_bind (m := Builtin.Tuple.tupleExact _) (wpAny_newObj_type (wpAny_pure ⟨_, rfl, wpAny_pure h⟩) htake))
end HT
namespace L2
open PySem PySem.Spec PyProof.Rows
variable {X : Cx} {e st : Expr} {te : TE} {ts : TO} {p2 pos : Pos}
/-- what x[::-1] is -/
def RvR (X : Cx) (r : V → Hp → VK → Prop) : Prop :=
  ∀ (pins : List (Addr × Obj)) (s : Shared) (σ : St) (H : Hp) (x : V) (v vs : Value) (sl : Addr) (Q : VK), Inv X pins σ H s → RelV x v → s.heap.IsSliceOf sl .none .none vs → IsPart vs (some (-1)) → r x H Q →
    ∃ T id, typeLookup (.type T) "__getitem__" = pure (some (.builtin id)) ∧ s.TypeIs v T ∧ wpAny (model X.prog X.w) X.A (getItem v (.ref sl)) (EP X pins σ Q) X.xe s
theorem pe_rev {r : V → Hp → VK → Prop} (hr : RvR X r) (he : PE X e te) (hs : PO X (some st) ts) : PE X (.Subscript e (.Slice none none (some st) p2) pos) (fun σ H Q => te σ H fun x H1 => ts σ H1 fun o H2 => o = some (-1) ∧ r x H2 Q) := by
  refine ⟨fun pins s σ H Q I h => ?_⟩
  refine Subscript_ (thn (he.run pins s σ H _ I h) fun v s1 ⟨x, H1, I1, r1, q1⟩ => ?_)
  refine wpAny_Slice ?_
  rw [evalPart_none]
  refine wpAny_pure ?_
  refine wpAny_pure ?_
  refine thn (hs.run pins s1 σ H1 _ I1 q1) fun vs s2 ⟨o, H2, I2, po, q2⟩ => ?_
  obtain ⟨rfl, q2⟩ := q2
  have I4 : Inv X pins σ H2 { s2 with heap := s2.heap.push { cls := .type "slice", data := .fields #[.none, .none, vs] } } := I2.kept (t' := s2.toks) fun b ob q => Heap.get?_push_of_some _ q
  obtain ⟨T, id, hT, ht, hg⟩ := hr pins { s2 with heap := s2.heap.push { cls := .type "slice", data := .fields #[.none, .none, vs] } } σ H2 x v vs s2.heap.objs.size Q I4 r1 (Heap.IsSliceOf.new ..) po q2
  show wpAny (model X.prog X.w) X.A (subscriptTail e (.Slice none none (some st) p2) v (.ref s2.heap.objs.size)) (EP X pins σ Q) X.xe { s2 with heap := s2.heap.push { cls := .type "slice", data := .fields #[.none, .none, vs] } }
  exact tail_any (ops := [v, .ref s2.heap.objs.size]) ht hT hg (by with_unfolding_all rfl)
theorem vals_reverse {xs : List V} {us : List Value} (r : Vals xs us) : Vals xs.reverse us.reverse := by
  induction r with
  | nil => exact .nil
  | cons h _ ih =>
    rw [List.reverse_cons, List.reverse_cons]
    exact ih.append (.cons h .nil)
def rRvL (K : PySem.W.Frag) : V → Hp → VK → Prop := fun x H Q => ∃ a xs, x = .ref a ∧ SqL K H a xs ∧ ∀ p, H p = none → Q (.ref p) (upd H p (.lst xs.reverse))
theorem rv_list : RvR X (rRvL X.K) := by
  intro pins s σ H x v vs sl Q I rx hs ps h
  obtain ⟨a, xs, rfl, hx, q⟩ := h
  cases rx
  obtain ⟨its, r, ht, hz⟩ := I.list hx
  have hlen := r.length
  refine ⟨"list", _, slot_list_getitem.lookup, ht.isList.typeIs, ?_⟩
  refine wpAny_getItem_list_slice ht.isList hs .none .none ps (by decide) ?_ (by rw [List.size_toArray] <;> omega)
  rw [PySem.W.krv_pick]
  refine ⟨.ref s.heap.objs.size, _, I.laid (t' := s.toks) (o := .lst xs.reverse) (fun b ob q => Heap.get?_push_of_some _ q) (Nat.le_refl _) ?_, rfl, q _ (I.hok.fresh (Nat.le_refl _))⟩
  exact ⟨by show xs.reverse.length ≤ sizeLine; rw [List.length_reverse]; exact hz, _, 0, vals_reverse r, Heap.get?_push_size _ rfl⟩
def rRvT (K : PySem.W.Frag) : V → Hp → VK → Prop := fun x H Q => ∃ a xs, x = .ref a ∧ SqT K H a xs ∧ ∀ p, H p = none → Q (.ref p) (upd H p (.tup xs.reverse))
theorem rv_tuple : RvR X (rRvT X.K) := by
  intro pins s σ H x v vs sl Q I rx hs ps h
  obtain ⟨a, xs, rfl, hx, q⟩ := h
  cases rx
  obtain ⟨its, r, ht, hz⟩ := I.tuple hx
  have hlen := r.length
  refine ⟨"tuple", _, PyProof.Rows.slot_tuple_getitem.lookup, ht.typeIs, ?_⟩
  refine HT.getItem_tuple_rev ht hs ps ?_ (by rw [List.size_toArray] <;> omega)
  refine ⟨.ref s.heap.objs.size, _, I.laid (t' := s.toks) (o := .tup xs.reverse) (fun b ob q => Heap.get?_push_of_some _ q) (Nat.le_refl _) ?_, rfl, q _ (I.hok.fresh (Nat.le_refl _))⟩
  exact ⟨by show xs.reverse.length ≤ sizeLine; rw [List.length_reverse]; exact hz, its.reverse, vals_reverse r, ⟨_, Heap.get?_push_size _ rfl, rfl, _, rfl⟩⟩
theorem RvR.or {r r' : V → Hp → VK → Prop} (h : RvR X r) (h' : RvR X r') : RvR X (fun x H Q => r x H Q ∨ r' x H Q) := by
  intro pins s σ H x v vs sl Q I rx hs ps q
  rcases q with q | q
  · exact h pins s σ H x v vs sl Q I rx hs ps q
  · exact h' pins s σ H x v vs sl Q I rx hs ps q
end L2

namespace Fc
open PySem PySem.Spec PyProof.Rows L2
section
variable {X : Cx} {O : List Nat} {al bl cl : Bool} {a b c e : Expr} {es elts : List Expr} {f g h : Env → M D} {fs : Env → M (List D)} {pos q tpos p2 : Pos} {kk : Nat} {K : PySem.W.Frag} {mg : Str → Option Value}
/-! ### turned around -/
def dRev : D → Option D
  | .tup l => some (.tup l.reverse)
  | .lst l => some (.lst l.reverse)
  | _ => none
def eRev (f g : Env → M D) : Env → M D := fun δ => do
  let x ← f δ
  let k ← g δ
  let i ← liftO (asI k)
  if i = -1 then liftO (dRev x) else fail
theorem RepAll.reverse {p : Par} {G : Hp} {vs : List V} {ds : List D} (h : RepAll p G vs ds) : RepAll p G vs.reverse ds.reverse := by
  induction vs generalizing ds with
  | nil => cases h; exact .nil
  | cons v vs ih =>
    cases h with
    | cons r rr =>
      rw [List.reverse_cons, List.reverse_cons]
      exact (ih rr).append (.cons r .nil)
theorem se_rev {st : Expr} (he : SE X O al e f) (hs : SE X O bl st g) : SE X O false (.Subscript e (.Slice none none (some st) p2) pos) (eRev f g) :=
  PE.weak (pe_rev (rv_list.or rv_tuple) he (po_some hs)) fun σ H Q ⟨dr, B, G0, ad, δ, G, w, d, w', S, hf, k⟩ => by
    obtain ⟨x, w1, h1, hf1⟩ := bind_some hf
    obtain ⟨n, w2, h2, hf2⟩ := bind_some hf1
    obtain ⟨i, w3, h3, hf3⟩ := bind_some hf2
    obtain ⟨h4, rfl⟩ := liftO_some h3
    refine ⟨dr, B, G0, ad, δ, G, w, x, w1, S, h1, fun v G1 H1 g1 S1 r1 => ?_⟩
    refine ⟨dr, B, G0, ad, δ, G1, w1, n, _, S1, h2, fun u G2 H2 g2 S2 r2 => ?_⟩
    split at hf3
    · rename_i hi
      subst hi
      obtain ⟨h5, rfl⟩ := liftO_some hf3
      have en : n = .int (-1) := by
        cases n <;> simp only [asI] at h4 <;> cases h4
        rfl
      subst en
      have hu : u = .int (-1) := r2.x.int
      refine ⟨-1, hu, rfl, ?_⟩
      have r3 := (r1.grow g2).x
      have k' : ∀ z G' H', Gr G2 H2 G' H' → Rep _ G' z d → Q z H' := fun z G' H' gr rz => k z G' H' ((g1.trans g2).trans gr.grow) (S2.gr gr) rz
      cases x <;> try (cases h5; done)
      · rename_i l
        cases h5
        obtain ⟨ad, vs, rfl, ha, ra, _⟩ := r3.tup S2.sub
        refine .inr ⟨ad, vs, rfl, ha, fun p hp => ?_⟩
        obtain ⟨gr, rz⟩ := Rep.newT S2.sub hp ra.reverse
        exact k' _ _ _ gr rz
      · rename_i l
        cases h5
        obtain ⟨ad, vs, rfl, ha, ra⟩ := r3.lst S2.sub
        refine .inl ⟨ad, vs, rfl, SqL.of ha, fun p hp => ?_⟩
        obtain ⟨gr, rz⟩ := Rep.newL S2.sub hp ra.reverse
        exact k' _ _ _ gr rz
    · cases hf3
/-! ### new lists by operators -/
def OpF (K : PySem.W.Frag) (mg : Str → Option Value) (r : R2) (op : D → D → Option D) : Prop :=
  ∀ (p : Par) (G H : Hp) (v u : V) (x y d : D) (Q : VK), p.K = K → p.mg = mg → Sub G H → RepX p G H v x → RepX p G H u y → op x y = some d → (∀ a vs ds, d = .lst ds → H a = none → RepAll p G vs ds → Q (.ref a) (upd H a (.lst vs))) → r v u H Q
theorem sf_op {o : Operator} {r : R2} {op : D → D → Option D} (ho : OpR X (binaryOp o) r) (hs : OpF X.K X.mg r op) (ha : SE X O al a f) (hb : SE X O bl b g) : SF X O (.BinOp a o b pos) (eBin op f g) :=
  PE.weak (pe_op ho ha hb) fun σ H Q ⟨dr, B, G0, ad, δ, G, w, d, w', S, hf, k⟩ => by
    obtain ⟨x, w1, y, h1, h2, h3⟩ := eBin_some hf
    refine ⟨dr, B, G0, ad, δ, G, w, x, w1, S, h1, fun v G1 H1 g1 S1 r1 => ?_⟩
    refine ⟨dr, B, G0, ad, δ, G1, w1, y, w', S1, h2, fun u G2 H2 g2 S2 r2 => ?_⟩
    refine hs _ G2 H2 v u x y d Q rfl rfl S2.sub (r1.grow g2).x r2.x h3 fun aq vs ds ed hp ra => ?_
    have gr : Gr G2 H2 G2 (upd H2 aq (.lst vs)) := Gr.laid S2.sub hp
    have ne : aq ≠ dr := fun z => by
      obtain ⟨o, q⟩ := S2.drS
      rw [show (Par.dr ⟨X.K, X.mg, dr, O, B, G0, ad⟩) = aq from z.symm] at q
      rw [hp] at q
      cases q
    have g12 := g1.trans g2
    have hn : H aq = none := by
      cases q : H aq with
      | none => rfl
      | some o => rw [g12.h aq o ne q] at hp; cases hp
    exact k aq vs ds G2 _ ed (g12.trans gr.grow) (S2.gr gr) hn upd_same (sub_none S2.sub hp) ne ra
theorem of_cat : OpF K mg rCat dCat := by
  intro p G H v u x y d Q hK hmg s rx ry hd k
  subst hK
  cases x <;> cases y <;> try (cases hd; done)
  rename_i l m
  simp only [dCat] at hd
  split at hd
  · rename_i hl
    cases hd
    obtain ⟨a, vs, rfl, ha, ra⟩ := rx.lst s
    obtain ⟨b, us, rfl, hb, rb⟩ := ry.lst s
    refine ⟨a, b, vs, us, rfl, rfl, ha, hb, ?_, fun q hq => ?_⟩
    · rw [ra.length, rb.length]
      exact lim_ok hl
    · exact k q _ _ rfl hq (ra.append rb)
  · cases hd
theorem of_repL : OpF K mg rRep dRepL := by
  intro p G H v u x y d Q hK hmg s rx ry hd k
  subst hK
  cases x <;> cases y <;> try (cases hd; done)
  rename_i l m
  simp only [dRepL] at hd
  split at hd
  · rename_i hl
    cases hd
    obtain ⟨a, vs, rfl, ha, ra⟩ := rx.lst s
    refine ⟨a, m, vs, rfl, ry.int, ha, by omega, by omega, ?_, fun q hq => ?_⟩
    · rw [ra.length]
      exact lim_ok hl.2.2
    · exact k q _ _ rfl hq (ra.rep m.toNat)
  · cases hd
theorem sf_cat (ha : SE X O al a f) (hb : SE X O bl b g) : SF X O (.BinOp a .Add b pos) (eBin dCat f g) := sf_op op_cat of_cat ha hb
theorem sf_repL (ha : SE X O al a f) (hb : SE X O bl b g) : SF X O (.BinOp a .Mult b pos) (eBin dRepL f g) := sf_op op_rep of_repL ha hb
/-! ### lists of one's own stand still at the end -/
theorem OwnAt.to {p q : Par} (hB : p.B = q.B) {G : Hp} {ρ : Lab} {a : Addr} {L : List Nat} (h : OwnAt p G ρ a L) : OwnAt q G ρ a L := ⟨h.lab, h.g, hB ▸ h.b⟩
mutual
theorem Node.to {p q : Par} (hK : p.K = q.K) (hm : p.mg = q.mg) (hd : p.dr = q.dr) (hB : p.B = q.B) {G H : Hp} {ρ : Lab} : ∀ {L : List Nat} {v : V} {d : D}, Node p G H ρ L v d → Node q G H ρ L v d
  | _, _, _, .lst w e r => .lst (w.to hB) e (r.to hK hm hd)
  | _, _, _, .dK w e l r => .dK (w.to hB) e l (r.to hK hm hd)
  | _, _, _, .dT w e l r => .dT (w.to hB) e l (r.to hK hm hd)
  | _, _, _, .olst w e r => .olst (w.to hB) e (Kids.to hK hm hd hB r)
  | _, _, _, .odK w e l r => .odK (w.to hB) e l (Kids.to hK hm hd hB r)
  | _, _, _, .odT w e l r => .odT (w.to hB) e l (Kids.to hK hm hd hB r)
  | _, _, _, .ins w e l m r => .ins (w.to hB) e l (hm ▸ m) (Kids.to hK hm hd hB r)
theorem Kids.to {p q : Par} (hK : p.K = q.K) (hm : p.mg = q.mg) (hd : p.dr = q.dr) (hB : p.B = q.B) {G H : Hp} {ρ : Lab} : ∀ {L : List Nat} {k : Nat} {vs : List V} {ds : List D}, Kids p G H ρ L k vs ds → Kids q G H ρ L k vs ds
  | _, _, _, _, .nil => .nil
  | _, _, _, _, .rep r t => .rep (r.to hK hm hd) (Kids.to hK hm hd hB t)
  | _, _, _, _, .own n t => .own (Node.to hK hm hd hB n) (Kids.to hK hm hd hB t)
end
/-- holds no own things -/
def D.flatD : D → Bool
  | .olst _ => false
  | .odK _ _ => false
  | .odT _ _ => false
  | .ins _ _ _ => false
  | .own _ => false
  | _ => true
theorem D.flat_frz {d : D} (h : d.flatD = true) : d.frz = d := by cases d <;> first | (cases h; done) | rw [D.frz]
def flatE (R : List Nat) (δ : Env) : Bool := R.all fun i => match δ[i]? with
  | some (some d) => d.flatD
  | _ => true
/-- which slots stay own -/
def stays (O R O' : List Nat) : Bool := O'.all (fun i => decide (i ∈ O)) && O.all (fun i => decide (i ∈ O') || decide (i ∈ R)) && R.all (fun i => decide (i ∉ O') && decide (i + 2000 ∉ O) && decide (i < 1000))
theorem stays_ok {O R O' : List Nat} (h : stays O R O' = true) : (∀ i ∈ O', i ∈ O) ∧ (∀ i ∈ O, i ∈ O' ∨ i ∈ R) ∧ ∀ i ∈ R, i ∉ O' ∧ i + 2000 ∉ O ∧ i < 1000 := by
  simp only [stays, Bool.and_eq_true, List.all_eq_true, decide_eq_true_eq, Bool.or_eq_true] at h
  exact ⟨h.1.1, h.1.2, fun i hi => ⟨(h.2 i hi).1.1, (h.2 i hi).1.2, (h.2 i hi).2⟩⟩
theorem SR.still {dr : Addr} {O O' R : List Nat} {ad : Nat → Addr} {B G0 G H : Hp} {δ : Env} {σ : L2.St} {w : Dw} {ρ : Lab} (hs : stays O R O' = true) (S : SR ⟨K, mg, dr, O, B, G0, ad⟩ δ σ G H w) (ow : OwnsBy ⟨K, mg, dr, O, B, G0, ad⟩ δ σ G H ρ) (hf : flatE R δ = true) :
    SR ⟨K, mg, dr, O', B, G0, ad⟩ δ σ (frzG ⟨K, mg, dr, O, B, G0, ad⟩ ρ R G H) H w := by
  obtain ⟨k1, k2, k3⟩ := stays_ok hs
  have F := S.frozen ow R fun i hi => (k3 i hi).2.1
  have sg := frzG_sub (p := ⟨K, mg, dr, O, B, G0, ad⟩) (ρ := ρ) (R := R) S.sub
  refine ⟨F.sub, F.g0, S.bas, S.bd, S.len, fun i d h n m => ?_, fun i d h n => ?_, ⟨ρ, fun i d h n l => ?_⟩, fun i h => ?_, ⟨F.draw.ok, F.draw.at_, F.draw.out⟩, F.kp⟩
  · by_cases c : i ∈ O ∧ d.isL = true
    · have hR : i ∈ R := by
        rcases k2 i c.1 with z | z
        · exact absurd ⟨z, c.2⟩ n
        · exact z
      obtain ⟨v, e, nd⟩ := ow i d h c.1 c.2
      have r := nd.solid S.sub (List.suffix_refl _) hR
      have fl : d.flatD = true := by
        have := List.all_eq_true.mp hf i hR
        rw [h] at this
        exact this
      rw [D.flat_frz fl] at r
      exact ⟨v, e, Rep.to (p := ⟨K, mg, dr, O, B, G0, ad⟩) (q := ⟨K, mg, dr, O', B, G0, ad⟩) rfl rfl rfl r⟩
    · have hm : i + 1000 ∉ O := fun z => by
        rcases k2 _ z with z | z
        · exact m z
        · exact absurd (k3 _ z).2.2 (by omega)
      obtain ⟨v, e, r⟩ := S.vals i d h c hm
      exact ⟨v, e, Rep.to (p := ⟨K, mg, dr, O, B, G0, ad⟩) (q := ⟨K, mg, dr, O', B, G0, ad⟩) rfl rfl rfl (r.mono sg)⟩
  · obtain ⟨v, e, r⟩ := S.ros i d h (k1 _ n)
    exact ⟨v, e, RepX.to (p := ⟨K, mg, dr, O, B, G0, ad⟩) (q := ⟨K, mg, dr, O', B, G0, ad⟩) rfl rfl rfl (fun r => Rep.to (p := ⟨K, mg, dr, O, B, G0, ad⟩) (q := ⟨K, mg, dr, O', B, G0, ad⟩) rfl rfl rfl r) (fun r => RepAll.to (p := ⟨K, mg, dr, O, B, G0, ad⟩) (q := ⟨K, mg, dr, O', B, G0, ad⟩) rfl rfl rfl r) (r.move sg fun _ _ _ z => z)⟩
  · obtain ⟨v, e, nd⟩ := ow i d h (k1 i n) l
    refine ⟨v, e, Node.to (p := ⟨K, mg, dr, O, B, G0, ad⟩) (q := ⟨K, mg, dr, O', B, G0, ad⟩) rfl rfl rfl rfl (nd.keep sg fun a L o z1 z2 z3 z4 z5 => ⟨z5, ?_, z1⟩)⟩
    unfold frzG
    rw [if_neg]
    · exact z3
    · rintro ⟨⟨j, M, hj, e1, e2⟩, _⟩
      rw [z1] at e1
      cases e1
      exact (k3 j hj).1 (nodup_lab z2 e2 ▸ n)
  · obtain ⟨h1, h2⟩ := S.pins i (k1 _ h)
    refine ⟨?_, h2⟩
    rcases k2 i h1 with z | z
    · exact z
    · exact absurd (k1 _ h) (k3 i z).2.1
/-- a value with own things of the slots R, which stand still from now on -/
def eStill (R : List Nat) (f : Env → M D) : Env → M D := fun δ => if flatE R δ = true then f δ else fail
theorem ss_retF (R O' : List Nat) (ha : SE X O' false e f) (hs : stays O R O' = true := by decide) : SS X O (.Return (some e) pos) (sRet (eStill R f)) :=
  PS.weak (ps_ret ha) fun E σ H ⟨dr, B, G0, ad, δ, G, w, o, δ', w', S, hf, k⟩ => by
    obtain ⟨d, w1, h1, hf1⟩ := bind_some hf
    obtain ⟨e, rfl⟩ := pure_some hf1
    cases e
    unfold eStill at h1
    split at h1
    · rename_i hfl
      obtain ⟨ρ, ow⟩ := S.owns
      refine ⟨dr, B, G0, ad, δ, _, w, d, w1, S.still hs ow hfl, h1, fun v G1 H1 g1 S1 r1 => ?_⟩
      have r1' : Rep ⟨X.K, X.mg, dr, O', B, G0, ad⟩ G1 v d := r1
      obtain ⟨ρ', pb⟩ := S1.pinsOf
      obtain ⟨k1, k2, k3⟩ := stays_ok hs
      refine k v G1 H1 ⟨S1.sub, S1.g0, S1.bas, S1.kp, ⟨S1.draw.ok, S1.draw.at_, S1.draw.out⟩⟩ ⟨ρ', fun i d' z1 z2 z3 => ?_⟩ (Rep.to (p := ⟨X.K, X.mg, dr, O', B, G0, ad⟩) (q := ⟨X.K, X.mg, dr, O, B, G0, ad⟩) rfl rfl rfl r1')
      have z1' : i + 2000 ∈ O' := by
        rcases k2 _ z1 with z | z
        · exact z
        · exact absurd (k3 _ z).2.2 (by omega)
      exact Node.to (p := ⟨X.K, X.mg, dr, O', B, G0, ad⟩) (q := ⟨X.K, X.mg, dr, O, B, G0, ad⟩) rfl rfl rfl rfl (pb i d' z1' z2 z3)
    · cases h1
/-! ### zip -/
def zipD : List D → List D → List D
  | x :: l, y :: m => .tup [x, y] :: zipD l m
  | _, _ => []
theorem zipD_len : ∀ l m : List D, (zipD l m).length = min l.length m.length
  | [], _ => by simp [zipD]
  | _ :: _, [] => by simp [zipD]
  | x :: l, y :: m => by
    rw [zipD, List.length_cons, zipD_len l m, List.length_cons, List.length_cons]
    omega
theorem zipD_get : ∀ (l m : List D) (i : Nat) (x y : D), l[i]? = some x → m[i]? = some y → (zipD l m)[i]? = some (.tup [x, y])
  | [], _, _, _, _, h, _ => by simp at h
  | _ :: _, [], _, _, _, _, h => by simp at h
  | x :: l, y :: m, 0, _, _, h, k => by
    cases h
    cases k
    rfl
  | x :: l, y :: m, i + 1, _, _, h, k => zipD_get l m i _ _ (by simpa using h) (by simpa using k)
def dZip : List D → Option (List D)
  | [.tup l, .tup m] => some (zipD l m)
  | [.lst l, .lst m] => some (zipD l m)
  | _ => none
theorem walksZipT {p : Par} {G : Hp} {a b : Addr} {vs us : List V} {ds es : List D} {Ok : Hp → Prop} (h : SqT p.K G a vs) (r : RepAll p G vs ds) (h' : SqT p.K G b us) (r' : RepAll p G us es) : WalksD p (RZ.ItzT p.K a b) G Ok (zipD ds es) where
  go := fun i G1 H1 s1 s2 _ hi => by
    rw [zipD_len, ← r.length, ← r'.length] at hi
    exact ⟨vs, us, vs[i]'(by omega), us[i]'(by omega), sub_t (s1.trans s2) h, sub_t (s1.trans s2) h', List.getElem?_eq_getElem (by omega), List.getElem?_eq_getElem (by omega)⟩
  yl := fun i G1 H1 x H2 s1 s2 _ hi y => by
    obtain ⟨T, v, u, rfl, hT, rfl, hv, hu⟩ := y
    obtain ⟨d, hd, rd⟩ := r.getV (hv vs (sub_t (s1.trans s2) h))
    obtain ⟨d', hd', rd'⟩ := r'.getV (hu us (sub_t (s1.trans s2) h'))
    obtain ⟨gr, rz⟩ := Rep.newT (p := p) (vs := [v, u]) (ds := [d, d']) s2 hT (.cons (rd.mono s1) (.cons (rd'.mono s1) .nil))
    exact ⟨_, _, zipD_get _ _ i _ _ hd hd', gr, rz⟩
  st := fun G1 H1 s1 s2 _ => ⟨vs, us, sub_t (s1.trans s2) h, sub_t (s1.trans s2) h', by rw [zipD_len, r.length, r'.length]; omega⟩
theorem walksZipL {p : Par} {G : Hp} {a b : Addr} {vs us : List V} {ds es : List D} {Ok : Hp → Prop} (h : G a = some (.lst vs)) (r : RepAll p G vs ds) (h' : G b = some (.lst us)) (r' : RepAll p G us es) : WalksD p (Itz p.K a b) G Ok (zipD ds es) where
  go := fun i G1 H1 s1 s2 _ hi => by
    rw [zipD_len, ← r.length, ← r'.length] at hi
    exact ⟨vs, us, vs[i]'(by omega), us[i]'(by omega), SqL.of (s2 _ _ (s1 _ _ h)), SqL.of (s2 _ _ (s1 _ _ h')), List.getElem?_eq_getElem (by omega), List.getElem?_eq_getElem (by omega)⟩
  yl := fun i G1 H1 x H2 s1 s2 _ hi y => by
    obtain ⟨T, v, u, rfl, hT, rfl, hv, hu⟩ := y
    obtain ⟨d, hd, rd⟩ := r.getV (hv vs (SqL.of (s2 _ _ (s1 _ _ h))))
    obtain ⟨d', hd', rd'⟩ := r'.getV (hu us (SqL.of (s2 _ _ (s1 _ _ h'))))
    obtain ⟨gr, rz⟩ := Rep.newT (p := p) (vs := [v, u]) (ds := [d, d']) s2 hT (.cons (rd.mono s1) (.cons (rd'.mono s1) .nil))
    exact ⟨_, _, zipD_get _ _ i _ _ hd hd', gr, rz⟩
  st := fun G1 H1 s1 s2 _ => ⟨vs, us, SqL.of (s2 _ _ (s1 _ _ h)), SqL.of (s2 _ _ (s1 _ _ h')), by rw [zipD_len, r.length, r'.length]; omega⟩
theorem si_zip (hm : X.mg "zip" = none) (hg : Gl X "zip") (ha : SA X O false [e, a] fs) (hs : starEach [e, a] X.env = (false, eval e X.env) :: starEach [a] X.env := by rfl) (hpl : (backTo q (starEach [a] X.env)).any (·.1) = false := by rfl) : SI X O false (.Tuple elts kk tpos) (.Call (.Name "zip" p2) [e, a] [] q) (itCall dZip fs) :=
  PI.weak (RZ.pi_zipA hg hm ha hs hpl) fun σ H R ⟨dr, B, G0, ad, δ, G, w, ds, w', S, hf, k⟩ => by
    obtain ⟨xs, w1, h1, hf1⟩ := bind_some hf
    obtain ⟨h3, rfl⟩ := liftO_some hf1
    refine ⟨dr, B, G0, ad, δ, G, w, xs, _, S, h1, fun vs G1 H1 g1 S1 r1 => ?_⟩
    match xs, h3, r1 with
    | [.tup l, .tup m], h3, r1 =>
      cases h3
      cases r1 with
      | cons r rr =>
        obtain ⟨v, rfl, rr2⟩ := rr.one
        have r2 : Rep _ G1 _ (.tup l) := r
        have r3 : Rep _ G1 _ (.tup m) := rr2
        cases r2 with
        | @tup a vs _ h4 h5 =>
          cases r3 with
          | @tup b us _ h6 h7 => exact ⟨a, b, vs, us, rfl, .inr ⟨sub_t S1.sub h4, sub_t S1.sub h6, k _ G1 H1 g1 S1 (walksZipT h4 h5 h6 h7)⟩⟩
    | [.lst l, .lst m], h3, r1 =>
      cases h3
      cases r1 with
      | cons r rr =>
        obtain ⟨v, rfl, rr2⟩ := rr.one
        have r2 : Rep _ G1 _ (.lst l) := r
        have r3 : Rep _ G1 _ (.lst m) := rr2
        cases r2 with
        | @lst a vs _ h4 h5 =>
          cases r3 with
          | @lst b us _ h6 h7 => exact ⟨a, b, vs, us, rfl, .inl ⟨SqL.of (S1.sub _ _ h4), SqL.of (S1.sub _ _ h6), k _ G1 H1 g1 S1 (walksZipL h4 h5 h6 h7)⟩⟩
end
end Fc

/-! Fc, part Q: several names at once, new lists among their values. -/
namespace Fc
open PySem PySem.Spec PyProof.Rows L2
/-- new lists and values in a row; N tells which addresses new lists may have -/
inductive Mix (p : Par) (G H : Hp) : (Addr → Prop) → List Bool → List V → List D → Prop
  | nil {N : Addr → Prop} : Mix p G H N [] [] []
  | val {N : Addr → Prop} {v : V} {d : D} {fl : List Bool} {vs : List V} {ds : List D} : Rep p G v d → Mix p G H N fl vs ds → Mix p G H N (false :: fl) (v :: vs) (d :: ds)
  | new {N : Addr → Prop} {a : Addr} {us : List V} {es : List D} {fl : List Bool} {vs : List V} {ds : List D} : N a → H a = some (.lst us) → G a = none → a ≠ p.dr → RepAll p G us es → Mix p G H (fun b => N b ∧ b ≠ a) fl vs ds → Mix p G H N (true :: fl) (.ref a :: vs) (.lst es :: ds)
theorem Mix.weak {p : Par} {G H : Hp} {N N' : Addr → Prop} {fl : List Bool} {vs : List V} {ds : List D} (h : Mix p G H N fl vs ds) (k : ∀ b, N b → N' b) : Mix p G H N' fl vs ds := by
  induction h generalizing N' with
  | nil => exact .nil
  | val r _ ih => exact .val r (ih k)
  | new h1 h2 h3 h4 h5 _ ih => exact .new (k _ h1) h2 h3 h4 h5 (ih fun b hb => ⟨k b hb.1, hb.2⟩)
theorem Mix.grow {p : Par} {G H G' H' : Hp} {N : Addr → Prop} {fl : List Bool} {vs : List V} {ds : List D} (h : Mix p G H N fl vs ds) (g : Grow p G H G' H') : Mix p G' H' N fl vs ds := by
  induction h with
  | nil => exact .nil
  | val r _ ih => exact .val (r.mono g.g) ih
  | new h1 h2 h3 h4 h5 _ ih => exact .new h1 (g.h _ _ h4 h2) (g.k _ _ h2 h3) h4 (h5.mono g.g) ih
def tmOf (K : PySem.W.Frag) (mg : Str → Option Value) (O : List Nat) (fl : List Bool) (f : Env → M (List D)) : TA := fun σ H Q =>
  ∃ (dr : Addr) (B G0 : Hp) (ad : Nat → Addr) (δ : Env) (G : Hp) (w : Dw) (d : List D) (w' : Dw), SR ⟨K, mg, dr, O, B, G0, ad⟩ δ σ G H w ∧ f δ w = some (d, w') ∧
    ∀ vs G' H', Grow ⟨K, mg, dr, O, B, G0, ad⟩ G H G' H' → SR ⟨K, mg, dr, O, B, G0, ad⟩ δ σ G' H' w' → Mix ⟨K, mg, dr, O, B, G0, ad⟩ G' H' (fun a => H a = none ∧ a ≠ dr) fl vs d → Q vs H'
def SM (X : Cx) (O : List Nat) (fl : List Bool) (es : List Expr) (f : Env → M (List D)) : Prop := PA X es (tmOf X.K X.mg O fl f)
section
variable {X : Cx} {O : List Nat} {e : Expr} {es : List Expr} {f : Env → M D} {fs : Env → M (List D)} {fl : List Bool}
theorem sm_nil : SM X O [] [] aNil := PA.weak pa_nil fun σ H Q ⟨dr, B, G0, ad, δ, G, w, d, w', S, hf, k⟩ => by
  obtain ⟨rfl, rfl⟩ := pure_some hf
  exact k [] G H (.refl _ G H) S .nil
theorem none_back {p : Par} {G H G' H' : Hp} (g : Grow p G H G' H') {a : Addr} (ha : a ≠ p.dr) (h : H' a = none) : H a = none := by
  cases q : H a with
  | none => rfl
  | some o => rw [g.h a o ha q] at h; cases h
theorem sm_val (ha : SE X O false e f) (hr : SM X O fl es fs) (hs : starEach (e :: es) X.env = (false, eval e X.env) :: starEach es X.env := by rfl) : SM X O (false :: fl) (e :: es) (aCons f fs) :=
  PA.weak (pa_cons ha hr hs) fun σ H Q ⟨dr, B, G0, ad, δ, G, w, d, w', S, hf, k⟩ => by
    obtain ⟨x, w1, h1, hf⟩ := bind_some hf
    obtain ⟨xs, w2, h2, hf⟩ := bind_some hf
    obtain ⟨e, rfl⟩ := pure_some hf
    subst e
    refine ⟨dr, B, G0, ad, δ, G, w, x, w1, S, h1, fun v G1 H1 g1 S1 r1 => ⟨dr, B, G0, ad, δ, G1, w1, xs, w2, S1, h2, fun vs G2 H2 g2 S2 r2 => ?_⟩⟩
    have r1' : Rep _ G1 v x := r1
    exact k (v :: vs) G2 H2 (g1.trans g2) S2 (.val (r1'.mono g2.g) (r2.weak fun b hb => ⟨none_back g1 hb.2 hb.1, hb.2⟩))
theorem sm_new (ha : SF X O e f) (hr : SM X O fl es fs) (hs : starEach (e :: es) X.env = (false, eval e X.env) :: starEach es X.env := by rfl) : SM X O (true :: fl) (e :: es) (aCons f fs) :=
  PA.weak (pa_cons ha hr hs) fun σ H Q ⟨dr, B, G0, ad, δ, G, w, d, w', S, hf, k⟩ => by
    obtain ⟨x, w1, h1, hf⟩ := bind_some hf
    obtain ⟨xs, w2, h2, hf⟩ := bind_some hf
    obtain ⟨e, rfl⟩ := pure_some hf
    subst e
    refine ⟨dr, B, G0, ad, δ, G, w, x, w1, S, h1, fun a us es' G1 H1 ed g1 S1 z0 z1 z2 hne r => ⟨dr, B, G0, ad, δ, G1, w1, xs, w2, S1, h2, fun vs G2 H2 g2 S2 r2 => ?_⟩⟩
    subst ed
    refine k (.ref a :: vs) G2 H2 (g1.trans g2) S2 (.new ⟨z0, hne⟩ (g2.h _ _ hne z1) (g2.k _ _ z1 z2) hne (r.mono g2.g) (r2.weak fun b hb => ⟨⟨none_back g1 hb.2 hb.1, hb.2⟩, fun e => ?_⟩))
    rw [e, z1] at hb
    cases hb.1
def setD : Env → List Nat → List D → Env
  | δ, i :: is, d :: ds => setD (δ.set i (some d)) is ds
  | δ, _, _ => δ
def setV : L2.St → List Nat → List V → L2.St
  | σ, i :: is, v :: vs => setV (σ.set i (some v)) is vs
  | σ, _, _ => σ
/-- which names take lists of one's own -/
def okFl (O : List Nat) : List Bool → List Nat → Bool
  | [], [] => true
  | b :: fl, i :: is => ((b == decide (i ∈ O)) && (decide (i + 2000 ∉ O) && decide (i + 1000 ∉ O))) && okFl O fl is
  | _, _ => false
/-- addresses that no own thing stands at -/
def AwayN (p : Par) (δ : Env) (σ : L2.St) (G H : Hp) (N : Addr → Prop) : Prop := ∃ ρ, OwnsBy p δ σ G H ρ ∧ ∀ a, N a → ρ a = none ∧ p.B a = none
open Classical in
theorem SR.awayN {p : Par} {δ : Env} {σ : L2.St} {G H : Hp} {w : Dw} (S : SR p δ σ G H w) : AwayN p δ σ G H (fun a => H a = none ∧ a ≠ p.dr) := by
  obtain ⟨ρ, ow⟩ := S.owns
  refine ⟨fun b => if H b = none then none else ρ b, ow.keep (Sub.refl G) fun i _ b L o q1 q2 q3 q4 q5 => ⟨q5, q3, ?_⟩, fun a ha => ⟨if_pos ha.1, ?_⟩⟩
  · rw [if_neg (by rw [q5]; exact nofun)]
    exact q1
  · cases q : p.B a with
    | none => rfl
    | some o => have := S.bas a o ha.2 q; rw [ha.1] at this; cases this
theorem AwayN.grow {p : Par} {δ : Env} {σ : L2.St} {G H G' H' : Hp} {N : Addr → Prop} (h : AwayN p δ σ G H N) (hd : p.B p.dr ≠ none) (g : Grow p G H G' H') : AwayN p δ σ G' H' N := let ⟨ρ, ow, e⟩ := h; ⟨ρ, ow.grow hd g, e⟩
theorem AwayN.setO {p : Par} {δ : Env} {σ : L2.St} {G H : Hp} {w : Dw} {N : Addr → Prop} {i : Nat} {ds : List D} {vs : List V} {a : Addr} (S : SR p δ σ G H w) (h1 : H a = some (.lst vs)) (h2 : G a = none) (ha : N a) (h4 : AwayN p δ σ G H N) (r : RepAll p G vs ds) :
    AwayN p (δ.set i (some (.lst ds))) (σ.set i (some (.ref a))) G H (fun b => N b ∧ b ≠ a) := by
  obtain ⟨ρ, ow, e⟩ := h4
  have e0 := e a ha
  refine ⟨fun b => if b = a then some [i] else ρ b, fun j f h n l => ?_, fun b hb => ⟨?_, (e b hb.1).2⟩⟩
  · by_cases hj : i = j
    · subst hj
      obtain ⟨q, hl⟩ := set_at h
      cases q
      exact ⟨_, List.getElem?_set_self (by rw [← S.len]; exact hl), .lst ⟨if_pos rfl, h2, e0.2⟩ h1 r⟩
    · rw [List.getElem?_set_ne hj] at h
      rw [List.getElem?_set_ne hj]
      obtain ⟨u, e1, nd⟩ := ow j f h n l
      refine ⟨u, e1, nd.keep (Sub.refl G) fun b L o z1 z2 z3 z4 z5 => ⟨z5, z3, ?_⟩⟩
      rw [if_neg fun z => by rw [z, e0.1] at z1; cases z1]
      exact z1
  · show (if b = a then some [i] else ρ b) = none
    rw [if_neg hb.2]
    exact (e b hb.1).1
theorem AwayN.set {p : Par} {δ : Env} {σ : L2.St} {G H : Hp} {N : Addr → Prop} {i : Nat} {d : D} {v : V} (hi : i ∉ p.O) (h4 : AwayN p δ σ G H N) : AwayN p (δ.set i (some d)) (σ.set i (some v)) G H N := by
  obtain ⟨ρ, ow, e⟩ := h4
  refine ⟨ρ, fun j f h n l => ?_, e⟩
  have hj : i ≠ j := fun z => hi (z ▸ n)
  rw [List.getElem?_set_ne hj] at h
  rw [List.getElem?_set_ne hj]
  exact ow j f h n l
theorem Mix.store {p : Par} {δ : Env} {σ : L2.St} {G H : Hp} {w : Dw} {N : Addr → Prop} {fl : List Bool} {vs : List V} {ds : List D} (h : Mix p G H N fl vs ds) : ∀ {δ : Env} {σ : L2.St} {is : List Nat}, SR p δ σ G H w → okFl p.O fl is = true →
    AwayN p δ σ G H N → SR p (setD δ is ds) (setV σ is vs) G H w := by
  induction h with
  | nil => intro δ σ is S _ _; cases is <;> exact S
  | @val N v d fl vs ds r _ ih =>
    intro δ σ is S ok hN
    cases is with
    | nil => cases ok
    | cons i is =>
      have ok' : (((false == decide (i ∈ p.O)) && (decide (i + 2000 ∉ p.O) && decide (i + 1000 ∉ p.O))) && okFl p.O fl is) = true := ok
      rw [Bool.and_eq_true, Bool.and_eq_true] at ok'
      have hi : i ∉ p.O := by
        intro hi
        rw [decide_eq_true hi] at ok'
        exact absurd ok'.1.1 (by decide)
      exact ih (S.set hi r) ok'.2 (hN.set hi)
  | @new N a us es fl vs ds h1 h2 h3 h4 h5 _ ih =>
    intro δ σ is S ok hN
    cases is with
    | nil => cases ok
    | cons i is =>
      have ok' : (((true == decide (i ∈ p.O)) && (decide (i + 2000 ∉ p.O) && decide (i + 1000 ∉ p.O))) && okFl p.O fl is) = true := ok
      rw [Bool.and_eq_true, Bool.and_eq_true, Bool.and_eq_true, decide_eq_true_eq, decide_eq_true_eq] at ok'
      have hi : i ∈ p.O := by
        by_cases hi : i ∈ p.O
        · exact hi
        · rw [decide_eq_false hi] at ok'
          exact absurd ok'.1.1 (by decide)
      have hN' := hN
      obtain ⟨ρ, ow, e⟩ := hN'
      exact ih (S.setO (i := i) hi ok'.1.2.1 ok'.1.2.2 h2 h3 (e a h1).2 ⟨ρ, ow, (e a h1).1⟩ h5) ok'.2 (hN.setO S h2 h3 h1 h5)
/-- the names take the values in a row -/
def sMix (is : List Nat) (fs : Env → M (List D)) : F1 := fun δ => do
  let xs ← fs δ
  if xs.length = is.length then pure (.nx, setD δ is xs) else fail
def gNames (is : List Nat) : TGs := fun vs σ H Q => vs.length = is.length ∧ Q (setV σ is vs) H
theorem gn_nil : PGs X [] (gNames []) := by
  refine ⟨fun pins s σ H vs us Q I r h => ?_⟩
  obtain ⟨h1, h2⟩ := h
  have : vs = [] := List.eq_nil_of_length_eq_zero h1
  subst this
  exact (pgs_nil (X := X)).run pins s σ H [] us Q I r ⟨rfl, h2⟩
theorem gn_cons {i : Nat} {is : List Nat} {x : Str} {pos : Pos} {es : List Expr} (hN : X.N.Nodup) (hr : PGs X es (gNames is)) (hi : X.N[i]? = some x := by rfl) (hx : Loc X.env.scope x := by first | exact Or.inl rfl | exact Or.inr rfl) (hf : X.fn x = true ∨ X.env.scope.names.lookup x = some .local := by first | exact .inl rfl | exact .inr rfl)
    (hs : (assignEach (.Name x pos :: es) X.env).map (·.2) = assign (.Name x pos) X.env :: (assignEach es X.env).map (·.2) := by rfl) : PGs X (.Name x pos :: es) (gNames (i :: is)) := by
  refine ⟨fun pins s σ H vs us Q I r h => ?_⟩
  obtain ⟨h1, h2⟩ := h
  cases vs with
  | nil => simp at h1
  | cons v vs => exact (pgs_cons (pg_name hN hi hx hf) hr hs).run pins s σ H (v :: vs) us Q I r ⟨v, vs, rfl, by rw [List.length_cons, List.length_cons] at h1; omega, h2⟩
theorem Mix.len {p : Par} {G H : Hp} {N : Addr → Prop} {fl : List Bool} {vs : List V} {ds : List D} (h : Mix p G H N fl vs ds) : vs.length = ds.length := by
  induction h with
  | nil => rfl
  | val _ _ ih => rw [List.length_cons, List.length_cons, ih]
  | new _ _ _ _ _ _ ih => rw [List.length_cons, List.length_cons, ih]
theorem ss_mixT {is : List Nat} {ts : List Expr} {pos pt pt2 : Pos} {kt k2} (hc : X.calm = true) (ha : SM X O fl es fs) (hg : PGs X ts (gNames is)) (ok : okFl O fl is = true := by decide) (hl : is.length < 30 := by decide)
    (hn : (assignEach ts X.env).length = is.length := by rfl) (hst : (assignEach ts X.env).findIdx? (·.1) = none := by rfl)
    (hs : swapsWithSole [.Tuple ts kt pt] (.Tuple es k2 pt2) pos.line X.env = pure false := by rfl) (hw : swappedStores [.Tuple ts kt pt] (.Tuple es k2 pt2) X.env = pure none := by rfl)
    (h1 : (assignEach [.Tuple ts kt pt] X.env).map (·.2) = [assign (.Tuple ts kt pt) X.env] := by rfl) : SS X O (.Assign [.Tuple ts kt pt] (.Tuple es k2 pt2) pos) (sMix is fs) :=
  PS.weak (ps_asg (pe_tup ha) (pg_tup hc hg hn hst) hs hw h1) fun E σ H ⟨dr, B, G0, ad, δ, G, w, o, δ', w', S, hf, k⟩ => by
    obtain ⟨xs, w1, h1, hf1⟩ := bind_some hf
    split at hf1
    · rename_i hx
      obtain ⟨e, rfl⟩ := pure_some hf1
      cases e
      refine ⟨dr, B, G0, ad, δ, G, w, xs, _, S, h1, fun vs G1 H1 g1 S1 m => ?_⟩
      have hv : vs.length = is.length := by rw [m.len]; exact hx
      refine ⟨by have : (30 : Nat) ≤ sizeLine := (by decide); omega, fun q hq => ?_⟩
      have gr := Gr.laid (o := HO.tup vs) S1.sub hq
      have S3 := S1.gr gr
      have m3 := m.grow (gr.grow (p := ⟨X.K, X.mg, dr, O, B, G0, ad⟩))
      refine ⟨q, vs, rfl, .inl (.inl upd_same), hv, hv, k _ G1 _ ?_ g1.g⟩
      exact m3.store (δ := δ) (σ := σ) S3 ok ((S.awayN.grow S.bd' g1).grow S.bd' gr.grow)
    · cases hf1
theorem ss_mix3 {i j l : Nat} {a b c : Expr} {x y z : Str} {px py pz pt pos pt2 : Pos} {kt k2} (hc : X.calm = true) (hN : X.N.Nodup) (ha : SM X O fl [a, b, c] fs) (ok : okFl O fl [i, j, l] = true := by decide) (hi : X.N[i]? = some x := by rfl) (hj : X.N[j]? = some y := by rfl) (hl : X.N[l]? = some z := by rfl)
    (hij : i ≠ j := by decide) (hil : i ≠ l := by decide) (hjl : j ≠ l := by decide)
    (hx : X.env.scope.names.lookup x = some .local := by rfl) (hy : X.env.scope.names.lookup y = some .local := by rfl) (hz : X.env.scope.names.lookup z = some .local := by rfl)
    (hw : swappedStores [.Tuple [.Name x px, .Name y py, .Name z pz] kt pt] (.Tuple [a, b, c] k2 pt2) X.env = pure (some [x, y, z]) := by rfl)
    (hs : swapsWithSole [.Tuple [.Name x px, .Name y py, .Name z pz] kt pt] (.Tuple [a, b, c] k2 pt2) pos.line X.env = pure false := by rfl) :
    SS X O (.Assign [.Tuple [.Name x px, .Name y py, .Name z pz] kt pt] (.Tuple [a, b, c] k2 pt2) pos) (sMix [i, j, l] fs) :=
  PS.weak (ps_par3 hc hN hi hj hl hij hil hjl hx hy hz ha hw hs) fun E σ H ⟨dr, B, G0, ad, δ, G, w, o, δ', w', S, hf, k⟩ => by
    obtain ⟨xs, w1, h1, hf1⟩ := bind_some hf
    split at hf1
    · rename_i hx
      obtain ⟨e, rfl⟩ := pure_some hf1
      cases e
      refine ⟨dr, B, G0, ad, δ, G, w, xs, _, S, h1, fun vs G1 H1 g1 S1 m => ?_⟩
      have hv : vs.length = 3 := by rw [m.len]; exact hx
      match vs, hv with
      | [v, u, t], _ =>
        refine ⟨v, u, t, rfl, k _ G1 H1 ?_ g1.g⟩
        have := m.store (δ := δ) (σ := σ) (is := [i, j, l]) S1 ok (S.awayN.grow S.bd' g1)
        exact this
    · cases hf1
theorem ss_mix2 {i j : Nat} {a b : Expr} {x y : Str} {px py pt pos pt2 : Pos} {kt k2} (hc : X.calm = true) (hN : X.N.Nodup) (ha : SM X O fl [a, b] fs) (ok : okFl O fl [i, j] = true := by decide) (hi : X.N[i]? = some x := by rfl) (hj : X.N[j]? = some y := by rfl) (hij : i ≠ j := by decide)
    (hx : X.env.scope.names.lookup x = some .local := by rfl) (hy : X.env.scope.names.lookup y = some .local := by rfl)
    (hw : swappedStores [.Tuple [.Name x px, .Name y py] kt pt] (.Tuple [a, b] k2 pt2) X.env = pure (some [x, y]) := by rfl)
    (hs : swapsWithSole [.Tuple [.Name x px, .Name y py] kt pt] (.Tuple [a, b] k2 pt2) pos.line X.env = pure false := by rfl) :
    SS X O (.Assign [.Tuple [.Name x px, .Name y py] kt pt] (.Tuple [a, b] k2 pt2) pos) (sMix [i, j] fs) :=
  PS.weak (ps_par hc hN hi hj hij hx hy ha hw hs) fun E σ H ⟨dr, B, G0, ad, δ, G, w, o, δ', w', S, hf, k⟩ => by
    obtain ⟨xs, w1, h1, hf1⟩ := bind_some hf
    split at hf1
    · rename_i hx
      obtain ⟨e, rfl⟩ := pure_some hf1
      cases e
      refine ⟨dr, B, G0, ad, δ, G, w, xs, _, S, h1, fun vs G1 H1 g1 S1 m => ?_⟩
      have hv : vs.length = 2 := by rw [m.len]; exact hx
      match vs, hv with
      | [v, u], _ =>
        refine ⟨v, u, rfl, k _ G1 H1 ?_ g1.g⟩
        have := m.store (δ := δ) (σ := σ) (is := [i, j]) S1 ok (S.awayN.grow S.bd' g1)
        exact this
    · cases hf1
end
end Fc

/-! Fc, part R: extend, pop within append. -/
namespace Fc
open PySem PySem.Spec PyProof.Rows L2
section
variable {X : Cx} {O : List Nat} {e : Expr} {f : Env → M D} {pos q : Pos}
def opExt (d : D) (ds : List D) : Option (List D) := match d with
  | .lst es => if ds.length + es.length ≤ LIM then some (ds ++ es) else none
  | _ => none
def sExt (i : Nat) (f : Env → M D) : F1 := fun δ => do
  let d ← f δ
  let δ' ← liftO (chg i (opExt d) δ)
  pure (.nx, δ')
theorem ss_ext (i : Nat) {x : Str} {p2 p3 : Pos} (ha : SE X O false e f) (hO : i ∈ O := by decide) (hR : i + 1000 ∉ O := by decide) (hN : X.N[i]? = some x := by rfl) (hv : Vis X.env.scope x := by first | exact Or.inl rfl | exact Or.inr (Or.inl rfl)) (hs : swapsWith (.Call (.Attribute (.Name x p2) "extend" p3) [e] [] q) none pos.line X.env = pure false := by rfl)
    (hd : (x == ("__debug__" : Str)) = false := by decide) (hcd : (x == ("__classdict__" : Str)) = false := by decide) (he : starEach [e] X.env = (false, eval e X.env) :: starEach [] X.env := by rfl)
    (hbase : attributeBase (.Name x p2) "extend" X.env (eval (.Name x p2) X.env) = eval (.Name x p2) X.env := by rfl)
    (hfew : ((backTo q (starEach [e] X.env)).all (fun x => !x.1) && (backToKw q (keywordEach [] X.env)).all (fun x => x.1.isSome)
      && decide ([e].length + ([] : List Keyword).length + (if ([] : List Keyword).isEmpty then 0 else 1) < 30)) = true := by rfl)
    (hline : (p3.endLine == q.line) = true := by rfl) (hplain : (backTo q (starEach [] X.env)).any (·.1) = false := by rfl) :
    SS X O (.Expr (.Call (.Attribute (.Name x p2) "extend" p3) [e] [] q) pos) (sExt i f) :=
  have hpe : PE X (.Call (.Attribute (.Name x p2) "extend" p3) [e] [] q) (tBM X.K "list" rExtend (tVar i) (tCons (tOf X.K X.mg O false f) tNil)) :=
    pe_bm PySem.F.plainAttrs_list PySem.F.slot_list_extend PySem.F.type_list_extend mt_extend (pe_var hN (by rcases hv with h | h; exact .inl h; exact .inr h) hd hcd) (pa_cons ha pa_nil he) hbase hfew hline he hplain
  PS.weak (ps_expr hpe hs) fun E σ H ⟨dr, B, G0, ad, δ, G, w, o, δ', w', S, hf, k⟩ => by
    obtain ⟨d, w1, h1, hf1⟩ := bind_some hf
    obtain ⟨δ1, w2, h2, hf2⟩ := bind_some hf1
    obtain ⟨h3, rfl⟩ := liftO_some h2
    obtain ⟨e, rfl⟩ := pure_some hf2
    cases e
    obtain ⟨ds, ds', e1, e2, e3⟩ := chg_some h3
    subst e3
    obtain ⟨a, vs, z1, z2, z3, z4, z5⟩ := S.own1 hO e1
    refine ⟨.ref a, z1, tyV_lst z2, dr, B, G0, ad, δ, G, w, d, _, S, h1, fun v G1 H1 g1 S1 r1 => ?_⟩
    obtain ⟨a', vs', y1, y2, y3, y4, y5⟩ := S1.own1 hO e1
    rw [z1] at y1
    cases y1
    cases d <;> try (cases e2; done)
    rename_i es
    have hl : ds.length + es.length ≤ LIM ∧ ds' = ds ++ es := by
      unfold opExt at e2
      dsimp only at e2
      split at e2
      · rename_i hl
        exact ⟨hl, (Option.some.inj e2).symm⟩
      · cases e2
    have r1' : Rep ⟨X.K, X.mg, dr, O, B, G0, ad⟩ G1 v (.lst es) := r1
    cases r1' with
    | @lst b us _ hb rb =>
      refine ⟨a, b, vs', us, rfl, rfl, y2, S1.sub _ _ hb, ?_, ?_⟩
      · rw [y5.length, rb.length]
        exact lim_ok hl.1
      · rw [hl.2] at k
        exact k σ G1 _ (S1.mut hO hR e1 z1 y2 (y5.append rb)) g1.g
/-- x.append(y.pop()) -/
def sAppPop (i j : Nat) : F1 := fun δ => match δ[j]? with
  | some (some (.lst ys)) => do
    let d ← liftO ys.getLast?
    let δ1 ← liftO (chg j (fun _ => some ys.dropLast) δ)
    let δ' ← liftO (chg i (opApp d) δ1)
    pure (.nx, δ')
  | _ => fail
theorem sAppPop_some {i j : Nat} {δ : Env} {w : Dw} {r : (Out × Env) × Dw} (h : sAppPop i j δ w = some r) : ∃ ys, δ[j]? = some (some (.lst ys)) ∧ (do
    let d ← liftO ys.getLast?
    let δ1 ← liftO (chg j (fun _ => some ys.dropLast) δ)
    let δ' ← liftO (chg i (opApp d) δ1)
    pure (Out.nx, δ') : M (Out × Env)) w = some r := by
  have e : sAppPop i j δ = (match δ[j]? with
    | some (some (.lst ys)) => do
      let d ← liftO ys.getLast?
      let δ1 ← liftO (chg j (fun _ => some ys.dropLast) δ)
      let δ' ← liftO (chg i (opApp d) δ1)
      pure (.nx, δ')
    | _ => fail) := rfl
  rw [e] at h
  cases q : δ[j]? with
  | none => rw [q] at h; cases h
  | some o =>
    cases o with
    | none => rw [q] at h; cases h
    | some d =>
      cases d <;> try (rw [q] at h; cases h; done)
      rename_i ys
      rw [q] at h
      exact ⟨ys, rfl, h⟩
theorem ss_appPop (i j : Nat) {x y : Str} {p2 p3 p4 p5 q2 : Pos} (hij : i ≠ j := by decide) (hO : i ∈ O := by decide) (hR : i + 1000 ∉ O := by decide) (hO2 : j ∈ O := by decide) (hR2 : j + 1000 ∉ O := by decide) (hN : X.N[i]? = some x := by rfl) (hN2 : X.N[j]? = some y := by rfl) (hv : Vis X.env.scope x := by first | exact Or.inl rfl | exact Or.inr (Or.inl rfl)) (hv2 : Vis X.env.scope y := by first | exact Or.inl rfl | exact Or.inr (Or.inl rfl))
    (hs : swapsWith (.Call (.Attribute (.Name x p2) "append" p3) [.Call (.Attribute (.Name y p4) "pop" p5) [] [] q2] [] q) none pos.line X.env = pure false := by rfl)
    (hd : (x == ("__debug__" : Str)) = false := by decide) (hcd : (x == ("__classdict__" : Str)) = false := by decide) (hd2 : (y == ("__debug__" : Str)) = false := by decide) (hcd2 : (y == ("__classdict__" : Str)) = false := by decide)
    (he : starEach [.Call (.Attribute (.Name y p4) "pop" p5) [] [] q2] X.env = (false, eval (.Call (.Attribute (.Name y p4) "pop" p5) [] [] q2) X.env) :: starEach [] X.env := by rfl)
    (hbase : attributeBase (.Name x p2) "append" X.env (eval (.Name x p2) X.env) = eval (.Name x p2) X.env := by rfl)
    (hbase2 : attributeBase (.Name y p4) "pop" X.env (eval (.Name y p4) X.env) = eval (.Name y p4) X.env := by rfl) (hline2 : (p5.endLine == q2.line) = true := by rfl)
    (hfew : ((backTo q (starEach [.Call (.Attribute (.Name y p4) "pop" p5) [] [] q2] X.env)).all (fun x => !x.1) && (backToKw q (keywordEach [] X.env)).all (fun x => x.1.isSome)
      && decide ([Expr.Call (.Attribute (.Name y p4) "pop" p5) [] [] q2].length + ([] : List Keyword).length + (if ([] : List Keyword).isEmpty then 0 else 1) < 30)) = true := by rfl)
    (hline : (p3.endLine == q.line) = true := by rfl) (hplain : (backTo q (starEach [] X.env)).any (·.1) = false := by rfl) :
    SS X O (.Expr (.Call (.Attribute (.Name x p2) "append" p3) [.Call (.Attribute (.Name y p4) "pop" p5) [] [] q2] [] q) pos) (sAppPop i j) :=
  have hpop : PE X (.Call (.Attribute (.Name y p4) "pop" p5) [] [] q2) (tBM0 X.K "list" rPop (tVar j)) :=
    pe_bm0 PySem.F.plainAttrs_list PySem.F.slot_list_pop PySem.F.type_list_pop mt_pop (pe_var hN2 (by rcases hv2 with h | h; exact .inl h; exact .inr h) hd2 hcd2) hbase2 hline2
  have hpe : PE X (.Call (.Attribute (.Name x p2) "append" p3) [.Call (.Attribute (.Name y p4) "pop" p5) [] [] q2] [] q) (tBM X.K "list" rAppend (tVar i) (tCons (tBM0 X.K "list" rPop (tVar j)) tNil)) :=
    pe_bm PySem.F.plainAttrs_list PySem.F.slot_list_append PySem.F.type_list_append mt_append (pe_var hN (by rcases hv with h | h; exact .inl h; exact .inr h) hd hcd) (pa_cons hpop pa_nil he) hbase hfew hline he hplain
  PS.weak (ps_expr hpe hs) fun E σ H ⟨dr, B, G0, ad, δ, G, w, o, δ', w', S, hf, k⟩ => by
    obtain ⟨ys, hj, hf⟩ := sAppPop_some hf
    obtain ⟨d, w1, h1, hf1⟩ := bind_some hf
    obtain ⟨h1', rfl⟩ := liftO_some h1
    obtain ⟨δ1, w2, h2, hf2⟩ := bind_some hf1
    obtain ⟨h2', rfl⟩ := liftO_some h2
    obtain ⟨δ2, w3, h3, hf3⟩ := bind_some hf2
    obtain ⟨h3', rfl⟩ := liftO_some h3
    obtain ⟨e, rfl⟩ := pure_some hf3
    cases e
    obtain ⟨ys0, ys', e1, e2, e3⟩ := chg_some h2'
    rw [hj] at e1
    cases e1
    cases e2
    subst e3
    obtain ⟨ds, ds', c1, c2, c3⟩ := chg_some h3'
    subst c3
    rw [List.getElem?_set_ne (fun z => hij z.symm)] at c1
    obtain ⟨a, vs, z1, z2, z3, z4, z5⟩ := S.own1 hO c1
    obtain ⟨b, us, y1, y2, y3, y4, y5⟩ := S.own1 hO2 hj
    have hlast : us[us.length - 1]? = us.getLast? := by rw [List.getLast?_eq_getElem?]
    have hg : ys[us.length - 1]? = some d := by rw [y5.length, ← List.getLast?_eq_getElem?]; exact h1'
    obtain ⟨v, hv1, rv⟩ := y5.get hg
    have S2 := S.mut hO2 hR2 hj y1 y2 (vs' := us.dropLast) (ds' := ys.dropLast) (by rw [List.dropLast_eq_take, List.dropLast_eq_take, y5.length]; exact y5.take _)
    obtain ⟨a', vs', x1, x2, x3, x4, x5⟩ := S2.own1 (ds := ds) hO (by rw [List.getElem?_set_ne (fun z => hij z.symm)]; exact c1)
    rw [z1] at x1
    cases x1
    have hl : ds.length < LIM ∧ ds' = ds ++ [d] := by
      unfold opApp at c2
      split at c2
      · rename_i hl
        exact ⟨hl, (Option.some.inj c2).symm⟩
      · cases c2
    refine ⟨.ref a, z1, tyV_lst z2, .ref b, y1, tyV_lst y2, b, us, v, rfl, rfl, y2, hv1, ?_⟩
    refine ⟨a, vs', v, rfl, rfl, x2, lim_lt (by rw [x5.length]; exact hl.1), ?_⟩
    rw [hl.2] at k
    exact k σ G _ (S2.mut (ds := ds) hO hR (by rw [List.getElem?_set_ne (fun z => hij z.symm)]; exact c1) z1 x2 (x5.append (.cons rv .nil))) (Sub.refl G)
/-! ### own lists from slices -/
def dSlL (lo hi : Option Int) : D → Option D
  | .lst l => some (.lst (cutD l lo hi))
  | _ => none
def eSlL (f : Env → M D) (lo hi : Env → M (Option Int)) : Env → M D := fun δ => do
  let x ← f δ
  let l ← lo δ
  let u ← hi δ
  liftO (dSlL l u x)
variable {al : Bool} {lo hi : Option Expr} {fl fh : Env → M (Option Int)} {p2 : Pos}
theorem new_ne {p : Par} {δ : Env} {σ : L2.St} {G H G1 H1 : Hp} {w : Dw} (S : SR p δ σ G1 H1 w) (g : Grow p G H G1 H1) {a : Addr} (h : H1 a = none) : a ≠ p.dr ∧ H a = none := by
  have ne : a ≠ p.dr := fun z => by
    obtain ⟨o, q⟩ := S.drS
    rw [z, q] at h
    cases h
  refine ⟨ne, ?_⟩
  cases q : H a with
  | none => rfl
  | some o => rw [g.h a o ne q] at h; cases h
theorem sf_slice (he : SE X O al e f) (hl : SO X O lo fl) (hh : SO X O hi fh) : SF X O (.Subscript e (.Slice lo hi none p2) pos) (eSlL f fl fh) :=
  PE.weak (pe_slice sl_list he hl hh) fun σ H Q ⟨dr, B, G0, ad, δ, G, w, d, w', S, hf, k⟩ => by
    obtain ⟨x, w1, h1, hf1⟩ := bind_some hf
    obtain ⟨l, w2, h2, hf2⟩ := bind_some hf1
    obtain ⟨u, w3, h3, hf3⟩ := bind_some hf2
    obtain ⟨h4, rfl⟩ := liftO_some hf3
    refine ⟨dr, B, G0, ad, δ, G, w, x, w1, S, h1, fun v G1 H1 g1 S1 r1 => ?_⟩
    refine ⟨dr, B, G0, ad, δ, G1, w1, l, w2, S1, h2, fun G2 H2 g2 S2 => ⟨dr, B, G0, ad, δ, G2, w2, u, _, S2, h3, fun G3 H3 g3 S3 => ?_⟩⟩
    have r3 := ((r1.grow g2).grow g3).x
    have g13 := (g1.trans g2).trans g3
    cases x <;> try (cases h4; done)
    cases h4
    obtain ⟨a, vs, rfl, ha, ra⟩ := r3.lst S3.sub
    refine ⟨a, vs, rfl, SqL.of ha, fun q hq => ?_⟩
    have gr := Gr.laid (o := HO.lst (cutD vs l u)) S3.sub hq
    obtain ⟨n1, n2⟩ := new_ne S3 g13 hq
    exact k q _ _ G3 _ rfl (g13.trans gr.grow) (S3.gr gr) n2 upd_same (sub_none S3.sub hq) n1 (ra.cut l u)
end
end Fc

/-! Fc, part S: calls that read own things. -/
namespace Fc
open PySem PySem.Spec PyProof.Rows L2
/-- values in a row, some of them own things -/
inductive RepF (p : Par) (G H : Hp) : List Bool → List V → List D → Prop
  | nil : RepF p G H [] [] []
  | cons {b : Bool} {fl : List Bool} {v : V} {vs : List V} {d : D} {ds : List D} : RepA p b G H v d → RepF p G H fl vs ds → RepF p G H (b :: fl) (v :: vs) (d :: ds)
theorem RepF.grow {p : Par} {G H G' H' : Hp} (g : Grow p G H G' H') : ∀ {fl : List Bool} {vs : List V} {ds : List D}, RepF p G H fl vs ds → RepF p G' H' fl vs ds
  | _, _, _, .nil => .nil
  | _, _, _, .cons r t => .cons (r.grow g) (t.grow g)
theorem RepF.length {p : Par} {G H : Hp} : ∀ {fl : List Bool} {vs : List V} {ds : List D}, RepF p G H fl vs ds → vs.length = ds.length
  | _, _, _, .nil => rfl
  | _, _, _, .cons _ t => congrArg (· + 1) t.length
theorem RepF.get {p : Par} {G H : Hp} : ∀ {fl : List Bool} {vs : List V} {ds : List D} {i : Nat} {d : D}, RepF p G H fl vs ds → ds[i]? = some d → ∃ v b, vs[i]? = some v ∧ fl[i]? = some b ∧ RepA p b G H v d
  | _, _, _, _, _, .nil, h => by simp at h
  | _, _, _, 0, _, .cons r _, h => by simp at h; subst h; exact ⟨_, _, rfl, rfl, r⟩
  | _, _, _, i + 1, _, .cons _ t, h => by
    obtain ⟨v, b, h1, h2, h3⟩ := RepF.get (i := i) t (by simpa using h)
    exact ⟨v, b, by simpa using h1, by simpa using h2, h3⟩
theorem RepA.to' {K : PySem.W.Frag} {mg : Str → Option Value} {dr : Addr} {O O' : List Nat} {ad ad' : Nat → Addr} {B B' G0 G0' G H : Hp} {b : Bool} {v : V} {d : D} (h : RepA ⟨K, mg, dr, O, B, G0, ad⟩ b G H v d) : RepA ⟨K, mg, dr, O', B', G0', ad'⟩ b G H v d := by
  cases b with
  | true => exact RepX.to (p := ⟨K, mg, dr, O, B, G0, ad⟩) (q := ⟨K, mg, dr, O', B', G0', ad'⟩) rfl rfl rfl (fun r => Rep.to' r) (fun r => RepAll.to' r) h
  | false => exact Rep.to' h
theorem RepF.to' {K : PySem.W.Frag} {mg : Str → Option Value} {dr : Addr} {O O' : List Nat} {ad ad' : Nat → Addr} {B B' G0 G0' G H : Hp} : ∀ {fl : List Bool} {vs : List V} {ds : List D}, RepF ⟨K, mg, dr, O, B, G0, ad⟩ G H fl vs ds → RepF ⟨K, mg, dr, O', B', G0', ad'⟩ G H fl vs ds
  | _, _, _, .nil => .nil
  | _, _, _, .cons r t => .cons r.to' t.to'
def trOf (K : PySem.W.Frag) (mg : Str → Option Value) (O : List Nat) (fl : List Bool) (f : Env → M (List D)) : TA := fun σ H Q =>
  ∃ (dr : Addr) (B G0 : Hp) (ad : Nat → Addr) (δ : Env) (G : Hp) (w : Dw) (d : List D) (w' : Dw), SR ⟨K, mg, dr, O, B, G0, ad⟩ δ σ G H w ∧ f δ w = some (d, w') ∧
    ∀ vs G' H', Grow ⟨K, mg, dr, O, B, G0, ad⟩ G H G' H' → SR ⟨K, mg, dr, O, B, G0, ad⟩ δ σ G' H' w' → RepF ⟨K, mg, dr, O, B, G0, ad⟩ G' H' fl vs d → Q vs H'
/-- arguments, some of them own things that are read -/
def SAF (X : Cx) (O : List Nat) (fl : List Bool) (es : List Expr) (f : Env → M (List D)) : Prop := PA X es (trOf X.K X.mg O fl f)
/-- what a def promises that computes F and reads own things -/
def spR (K : PySem.W.Frag) (mg : Str → Option Value) (fl : List Bool) (F : List D → M D) : Sp := fun vs H Q _ => ∃ (dr : Addr) (G : Hp) (w : Dw) (ds : List D) (d : D) (w' : Dw), Sub G H ∧ DrawAt ⟨K, mg, dr, [], H, G, fun _ => 0⟩ w G H ∧ RepF ⟨K, mg, dr, [], H, G, fun _ => 0⟩ G H fl vs ds ∧ F ds w = some (d, w') ∧
  ∀ v G' H', Fin ⟨K, mg, dr, [], H, G, fun _ => 0⟩ w' G' H' → Rep ⟨K, mg, dr, [], H, G, fun _ => 0⟩ G' v d → Q v H'
section
variable {X : Cx} {O : List Nat} {e : Expr} {es : List Expr} {g : Env → M D} {fs : Env → M (List D)} {F : List D → M D} {k : Nat} {f : Addr} {fd : FuncData} {ps : List Str} {x : Str} {p pos : Pos} {fl : List Bool} {b : Bool}
theorem saf_nil : SAF X O [] [] aNil := PA.weak pa_nil fun σ H Q ⟨dr, B, G0, ad, δ, G, w, d, w', S, hf, k⟩ => by
  obtain ⟨rfl, rfl⟩ := pure_some hf
  exact k [] G H (.refl _ G H) S .nil
theorem saf_cons (ha : SE X O b e g) (hr : SAF X O fl es fs) (hs : starEach (e :: es) X.env = (false, eval e X.env) :: starEach es X.env := by rfl) : SAF X O (b :: fl) (e :: es) (aCons g fs) :=
  PA.weak (pa_cons ha hr hs) fun σ H Q ⟨dr, B, G0, ad, δ, G, w, d, w', S, hf, k⟩ => by
    obtain ⟨x, w1, h1, hf⟩ := bind_some hf
    obtain ⟨xs, w2, h2, hf⟩ := bind_some hf
    obtain ⟨e, rfl⟩ := pure_some hf
    subst e
    refine ⟨dr, B, G0, ad, δ, G, w, x, w1, S, h1, fun v G1 H1 g1 S1 r1 => ⟨dr, B, G0, ad, δ, G1, w1, xs, w2, S1, h2, fun vs G2 H2 g2 S2 r2 => ?_⟩⟩
    exact k (v :: vs) G2 H2 (g1.trans g2) S2 (.cons (r1.grow g2) r2)
theorem tOf_defR {K : PySem.W.Frag} {mg : Str → Option Value} {σ : L2.St} {H : Hp} {Q : VK} (q : tOf K mg O false (eDef F fs) σ H Q) : tCall (spR K mg fl F) [] E0 (trOf K mg O fl fs) σ H Q := by
  obtain ⟨dr, B, G0, ad, δ, G, w, d, w', S, hf, k⟩ := q
  obtain ⟨xs, w1, h1, hf1⟩ := bind_some hf
  refine ⟨dr, B, G0, ad, δ, G, w, xs, w1, S, h1, fun vs G1 H1 g1 S1 r1 => ?_⟩
  show spR K mg fl F (vs ++ []) H1 Q E0
  rw [List.append_nil]
  refine ⟨dr, G1, w1, xs, d, w', S1.sub, ⟨S1.draw.ok, S1.draw.at_, S1.draw.out⟩, r1.to', hf1, fun v G2 H2 n r => ?_⟩
  have gr : Grow ⟨K, mg, dr, O, B, G0, ad⟩ G1 H1 G2 H2 := ⟨n.g0, fun a o ne q => n.bas a o ne q, fun o q => let ⟨_, z, _⟩ := n.draw.at_; ⟨_, z⟩, fun a o q1 q2 => n.kp a o q1 q2⟩
  exact k v G2 H2 (g1.trans gr) (S1.step gr n.sub ⟨n.draw.ok, n.draw.at_, n.draw.out⟩) (Rep.to' r)
theorem se_defR (Fk : FnOk X.prog X.w X.K X.mg X.base CX0 k f fd ps (spR X.K X.mg fl F)) (hr : Room k X.A) (hg : Gl X x) (hm : X.mg x = some (.ref f)) (hk : PySem.W.keepIn X.K (.ref f) = true) (hb : Binds X.K fd ps []) (ha : SAF X O fl (e :: es) fs)
    (hdb : (x == ("__debug__" : Str)) = false := by decide) (he : starEach (e :: es) X.env = (false, eval e X.env) :: starEach es X.env := by rfl) (hpl : (backTo pos (starEach es X.env)).any (·.1) = false := by rfl) :
    SE X O false (.Call (.Name x p) (e :: es) [] pos) (eDef F fs) :=
  PE.weak (pe_call (dvs := []) (ds := []) (E := E0) Fk hr hg hm hk hb .nil pass0 ha hdb he hpl) fun σ H Q q => tOf_defR q
end
section
variable {P : Program} {w : World} {K : PySem.W.Frag} {mg : Str → Option Value} {base : Heap}
theorem fn_okR {fl : List Bool} {x qual : Str} {st : Stmt} {f : Addr} {fd : FuncData} {N ps : List Str} {k : Nat} {O : List Nat} {F : F1} (Fu : Fun K x qual st f fd) (sc : FnScope N ps (defScope st)) (hO : ∀ i ∈ O, ps.length ≤ i) (hO2 : ∀ i ∈ O, i < 2000) (hfl : ∀ i : Nat, i < fl.length → (fl[i]? = some true ↔ i + 1000 ∈ O)) (hN : ps.length ≤ N.length)
    (hb : ∀ (cdv : Value) (A : Around) (outer : List PySem.Env) (s : Shared) (H : Hp) (E : XK), Room k (A.deeper (envOfC qual (defScope st) s.heap.objs.size f cdv)) → SSs (cxOf CX0 P w K mg base N qual (defScope st) f cdv A outer s H E).nox O (defBody st) F) :
    FnOk P w K mg base CX0 (k + 1) f fd ps (spR K mg fl (bodyF ps.length N.length F)) := by
  refine Fu.ok sc (fun vs H Q E h => ?_) (fun cdv A outer s H vs Q E hr h => ?_)
  · obtain ⟨dr, G, w, ds, d, w', hs, hd, r, hf, q⟩ := h
    rw [r.length]
    unfold bodyF at hf
    split at hf
    · assumption
    · cases hf
  · obtain ⟨dr, G, w1, ds, d, w', hs, hd, r, hf, q⟩ := h
    have hlen : ds.length = ps.length := by
      unfold bodyF at hf
      split at hf
      · assumption
      · cases hf
    unfold bodyF at hf
    rw [if_pos hlen] at hf
    obtain ⟨⟨o, δ'⟩, w2, h1, hf1⟩ := bind_some hf
    refine ⟨_, hb cdv A outer s H E hr, dr, H, G, fun _ => 0, ds.map some ++ List.replicate (N.length - ds.length) none, G, w1, o, δ', w2, ⟨hs, Sub.refl G, fun _ _ _ q => q, ?_, ?_, fun i e hi n m => ?_, fun i e hi n => ?_, ⟨fun _ => none, fun i e hi n l => ?_⟩, fun i n => ?_, ⟨hd.ok, hd.at_, hd.out⟩, fun _ _ _ n => n⟩, h1, ?_⟩
    · obtain ⟨_, z, _⟩ := hd.at_
      exact ⟨_, z⟩
    · unfold L2.start
      rw [List.length_append, List.length_append, List.length_map, List.length_map, List.length_replicate, List.length_replicate, r.length]
    · obtain ⟨z1, z2⟩ := start_get hi
      obtain ⟨v, b, e1, e2, r1⟩ := r.get z1
      have hb : b = false := by
        cases b with
        | false => rfl
        | true => exact absurd ((hfl i (List.getElem?_eq_some_iff.mp e2).1).mp e2) m
      subst hb
      refine ⟨v, ?_, Rep.to' (show Rep _ G v e from r1)⟩
      unfold L2.start
      rw [List.getElem?_append_left (by rw [List.length_map, r.length]; exact z2), List.getElem?_map, e1]
      rfl
    · obtain ⟨z1, z2⟩ := start_get hi
      obtain ⟨v, b, e1, e2, r1⟩ := r.get z1
      refine ⟨v, ?_, ?_⟩
      · unfold L2.start
        rw [List.getElem?_append_left (by rw [List.length_map, r.length]; exact z2), List.getElem?_map, e1]
        rfl
      · exact RepX.to (p := ⟨K, mg, dr, [], H, G, fun _ => 0⟩) (q := ⟨K, mg, dr, O, H, G, fun _ => 0⟩) rfl rfl rfl (fun r => Rep.to' r) (fun r => RepAll.to' r) r1.x
    · obtain ⟨z1, z2⟩ := start_get hi
      exact absurd (hO i n) (by omega)
    · exact absurd (hO2 _ n) (by omega)
    · cases o with
      | nx =>
        obtain ⟨e, rfl⟩ := pure_some hf1
        subst e
        exact fun σ' G' H' S _ => q .non G' H' ⟨S.sub, S.g0, S.bas, S.kp, ⟨S.draw.ok, S.draw.at_, S.draw.out⟩⟩ .non
      | rt d' =>
        obtain ⟨e, rfl⟩ := pure_some hf1
        subst e
        exact fun v G' H' n _ r' => q v G' H' ⟨n.sub, n.g0, n.bas, n.kp, ⟨n.draw.ok, n.draw.at_, n.draw.out⟩⟩ (Rep.to' r')
      | bk => cases hf1
      | ct => cases hf1
      | ro d' => cases hf1
end
/-- the module's name x stands for a def that computes F and reads own things -/
def HasR (P : Program) (w : World) (K : PySem.W.Frag) (mg : Str → Option Value) (base : Heap) (k : Nat) (x : Str) (ps : List Str) (fl : List Bool) (F : List D → M D) : Prop :=
  ∃ (f : Addr) (fd : FuncData), FnOk P w K mg base CX0 k f fd ps (spR K mg fl F) ∧ mg x = some (.ref f) ∧ PySem.W.keepIn K (.ref f) = true ∧ Binds K fd ps []
section
variable {X : Cx} {O : List Nat} {e : Expr} {es : List Expr} {fs : Env → M (List D)} {F : List D → M D} {k : Nat} {ps : List Str} {x : Str} {p pos : Pos} {fl : List Bool}
theorem se_hasR (H : HasR X.prog X.w X.K X.mg X.base k x ps fl F) (hr : Room k X.A) (hg : Gl X x) (ha : SAF X O fl (e :: es) fs)
    (hdb : (x == ("__debug__" : Str)) = false := by decide) (he : starEach (e :: es) X.env = (false, eval e X.env) :: starEach es X.env := by rfl) (hpl : (backTo pos (starEach es X.env)).any (·.1) = false := by rfl) :
    SE X O false (.Call (.Name x p) (e :: es) [] pos) (eDef F fs) := by
  obtain ⟨f, fd, h1, h2, h3, h4⟩ := H
  exact se_defR h1 hr hg h2 h3 h4 ha hdb he hpl
end
end Fc

/-! Fc, part AA: calls that change own things. -/
namespace Fc
open PySem PySem.Spec PyProof.Rows L2
section
variable {p q : Par} {G H : Hp} {ρ ρ' : Lab} {k i : Nat}
/-- how the labels of a callee's parameter k become labels of the caller's slot i -/
def Relab (p q : Par) (G : Hp) (ρ ρ' : Lab) (k i : Nat) : Prop := ∀ a M, ρ a = some (M ++ [k]) → G a = none → p.B a = none → ρ' a = some (M ++ [i]) ∧ q.B a = none
theorem Relab.at (h : Relab p q G ρ ρ' k i) {a : Addr} {M : List Nat} (w : OwnAt p G ρ a (M ++ [k])) : OwnAt q G ρ' a (M ++ [i]) :=
  let ⟨e1, e2⟩ := h a M w.lab w.g w.b
  ⟨e1, w.g, e2⟩
mutual
theorem Node.relab (hK : p.K = q.K) (hm : p.mg = q.mg) (hd : p.dr = q.dr) (h : Relab p q G ρ ρ' k i) : ∀ (M : List Nat) {L : List Nat} {v : V} {d : D}, L = M ++ [k] → Node p G H ρ L v d → Node q G H ρ' (M ++ [i]) v d
  | M, _, _, _, e, .lst w o r => .lst (h.at (e ▸ w)) o (r.to hK hm hd)
  | M, _, _, _, e, .dK w o l r => .dK (h.at (e ▸ w)) o l (r.to hK hm hd)
  | M, _, _, _, e, .dT w o l r => .dT (h.at (e ▸ w)) o l (r.to hK hm hd)
  | M, _, _, _, e, .olst w o r => .olst (h.at (e ▸ w)) o (Kids.relab hK hm hd h M e r)
  | M, _, _, _, e, .odK w o l r => .odK (h.at (e ▸ w)) o l (Kids.relab hK hm hd h M e r)
  | M, _, _, _, e, .odT w o l r => .odT (h.at (e ▸ w)) o l (Kids.relab hK hm hd h M e r)
  | M, _, _, _, e, .ins w o l m r => .ins (h.at (e ▸ w)) o l (hm ▸ m) (Kids.relab hK hm hd h M e r)
theorem Kids.relab (hK : p.K = q.K) (hm : p.mg = q.mg) (hd : p.dr = q.dr) (h : Relab p q G ρ ρ' k i) : ∀ (M : List Nat) {L : List Nat} {j : Nat} {vs : List V} {ds : List D}, L = M ++ [k] → Kids p G H ρ L j vs ds → Kids q G H ρ' (M ++ [i]) j vs ds
  | _, _, _, _, _, _, .nil => .nil
  | M, _, _, _, _, e, .rep r t => .rep (r.to hK hm hd) (Kids.relab hK hm hd h M e t)
  | M, _, j, _, _, e, .own n t => .own (Node.relab hK hm hd h (j :: M) (by rw [e]; rfl) n) (Kids.relab hK hm hd h M e t)
end
end
theorem Node.isL {p : Par} {G H : Hp} {ρ : Lab} {L : List Nat} {v : V} {d : D} (n : Node p G H ρ L v d) : d.isL = true := by cases n <;> rfl
/-! ### arguments: values that stand still (none), own things of a slot (some i) -/
inductive RepM (p : Par) (δ : Env) (σ : L2.St) (G : Hp) : List (Option Nat) → List V → List D → Prop
  | nil : RepM p δ σ G [] [] []
  | val {fl : List (Option Nat)} {v : V} {vs : List V} {d : D} {ds : List D} : Rep p G v d → RepM p δ σ G fl vs ds → RepM p δ σ G (none :: fl) (v :: vs) (d :: ds)
  | own {fl : List (Option Nat)} {i : Nat} {v : V} {vs : List V} {d : D} {ds : List D} : σ[i]? = some (some v) → δ[i]? = some (some d) → d.isL = true → RepM p δ σ G fl vs ds → RepM p δ σ G (some i :: fl) (v :: vs) (d :: ds)
theorem RepM.grow {p : Par} {δ : Env} {σ : L2.St} {G G' : Hp} (g : Sub G G') : ∀ {fl : List (Option Nat)} {vs : List V} {ds : List D}, RepM p δ σ G fl vs ds → RepM p δ σ G' fl vs ds
  | _, _, _, .nil => .nil
  | _, _, _, .val r t => .val (r.mono g) (t.grow g)
  | _, _, _, .own a b c t => .own a b c (t.grow g)
theorem RepM.len {p : Par} {δ : Env} {σ : L2.St} {G : Hp} : ∀ {fl : List (Option Nat)} {vs : List V} {ds : List D}, RepM p δ σ G fl vs ds → vs.length = fl.length ∧ ds.length = fl.length
  | _, _, _, .nil => ⟨rfl, rfl⟩
  | _, _, _, .val _ t => ⟨congrArg (· + 1) t.len.1, congrArg (· + 1) t.len.2⟩
  | _, _, _, .own _ _ _ t => ⟨congrArg (· + 1) t.len.1, congrArg (· + 1) t.len.2⟩
theorem RepM.get {p : Par} {δ : Env} {σ : L2.St} {G : Hp} : ∀ {fl : List (Option Nat)} {vs : List V} {ds : List D} {j : Nat} {v : V} {d : D}, RepM p δ σ G fl vs ds → vs[j]? = some v → ds[j]? = some d → (fl[j]? = some none ∧ Rep p G v d) ∨ ∃ i, fl[j]? = some (some i) ∧ σ[i]? = some (some v) ∧ δ[i]? = some (some d) ∧ d.isL = true
  | _, _, _, _, _, _, .nil, h, _ => by simp at h
  | _, _, _, 0, _, _, .val r _, h, h2 => by
    simp at h h2
    subst h h2
    exact .inl ⟨rfl, r⟩
  | _, _, _, 0, _, _, .own (i := i) a b c _, h, h2 => by
    simp at h h2
    subst h h2
    exact .inr ⟨i, rfl, a, b, c⟩
  | _, _, _, j + 1, _, _, .val _ t, h, h2 => by simpa using RepM.get (j := j) t (by simpa using h) (by simpa using h2)
  | _, _, _, j + 1, _, _, .own _ _ _ t, h, h2 => by simpa using RepM.get (j := j) t (by simpa using h) (by simpa using h2)
/-- the parameters of a def that changes some of them -/
inductive RepC (p : Par) (G H : Hp) (ρ : Lab) : Nat → List Bool → List V → List D → Prop
  | nil {k : Nat} : RepC p G H ρ k [] [] []
  | val {k : Nat} {cf : List Bool} {v : V} {vs : List V} {d : D} {ds : List D} : Rep p G v d → RepC p G H ρ (k + 1) cf vs ds → RepC p G H ρ k (false :: cf) (v :: vs) (d :: ds)
  | own {k : Nat} {cf : List Bool} {vs : List V} {d : D} {ds : List D} : Node p G H ρ [k] (.ref (p.ad k)) d → RepC p G H ρ (k + 1) cf vs ds → RepC p G H ρ k (true :: cf) (.ref (p.ad k) :: vs) (d :: ds)
theorem RepC.len {p : Par} {G H : Hp} {ρ : Lab} : ∀ {k : Nat} {cf : List Bool} {vs : List V} {ds : List D}, RepC p G H ρ k cf vs ds → vs.length = cf.length ∧ ds.length = cf.length
  | _, _, _, _, .nil => ⟨rfl, rfl⟩
  | _, _, _, _, .val _ t => ⟨congrArg (· + 1) t.len.1, congrArg (· + 1) t.len.2⟩
  | _, _, _, _, .own _ t => ⟨congrArg (· + 1) t.len.1, congrArg (· + 1) t.len.2⟩
theorem RepC.get {p : Par} {G H : Hp} {ρ : Lab} : ∀ {k : Nat} {cf : List Bool} {vs : List V} {ds : List D} {j : Nat} {d : D}, RepC p G H ρ k cf vs ds → ds[j]? = some d → ∃ v, vs[j]? = some v ∧ ((cf[j]? = some false ∧ Rep p G v d) ∨ (cf[j]? = some true ∧ v = .ref (p.ad (k + j)) ∧ Node p G H ρ [k + j] v d))
  | _, _, _, _, _, _, .nil, h => by simp at h
  | _, _, _, _, 0, _, .val r _, h => by
    simp at h
    subst h
    exact ⟨_, rfl, .inl ⟨rfl, r⟩⟩
  | _, _, _, _, 0, _, .own n _, h => by
    simp at h
    subst h
    exact ⟨_, rfl, .inr ⟨rfl, rfl, n⟩⟩
  | k, _, _, _, j + 1, _, .val _ t, h => by
    have := RepC.get (j := j) t (by simpa using h)
    rw [show k + 1 + j = k + (j + 1) from by omega] at this
    simpa using this
  | k, _, _, _, j + 1, _, .own _ t, h => by
    have := RepC.get (j := j) t (by simpa using h)
    rw [show k + 1 + j = k + (j + 1) from by omega] at this
    simpa using this
theorem RepC.of {p : Par} {G H : Hp} {ρ : Lab} : ∀ {k : Nat} {cf : List Bool} {vs : List V} {ds : List D}, vs.length = cf.length → ds.length = cf.length → (∀ j v d, vs[j]? = some v → ds[j]? = some d → (cf[j]? = some false ∧ Rep p G v d) ∨ (cf[j]? = some true ∧ v = .ref (p.ad (k + j)) ∧ Node p G H ρ [k + j] v d)) → RepC p G H ρ k cf vs ds
  | _, [], [], [], _, _, _ => .nil
  | k, b :: cf, v :: vs, d :: ds, h1, h2, h => by
    have t : RepC p G H ρ (k + 1) cf vs ds := RepC.of (by simpa using h1) (by simpa using h2) fun j v d q1 q2 => by
      have := h (j + 1) v d (by simpa using q1) (by simpa using q2)
      rw [show k + (j + 1) = k + 1 + j from by omega] at this
      simpa using this
    rcases h 0 v d rfl rfl with ⟨e, r⟩ | ⟨e, e2, n⟩
    · simp at e
      subst e
      exact .val r t
    · simp at e
      subst e e2
      exact .own n t
/-- what those parameters hold behind it -/
inductive RepN (p : Par) (G H : Hp) (ρ : Lab) : Nat → List Bool → List D → Prop
  | nil {k : Nat} : RepN p G H ρ k [] []
  | val {k : Nat} {cf : List Bool} {es : List D} : RepN p G H ρ (k + 1) cf es → RepN p G H ρ k (false :: cf) es
  | own {k : Nat} {cf : List Bool} {e : D} {es : List D} : Node p G H ρ [k] (.ref (p.ad k)) e → RepN p G H ρ (k + 1) cf es → RepN p G H ρ k (true :: cf) (e :: es)
theorem RepN.to {p q : Par} (hK : p.K = q.K) (hm : p.mg = q.mg) (hd : p.dr = q.dr) (hB : p.B = q.B) (ha : p.ad = q.ad) {G H : Hp} {ρ : Lab} : ∀ {k : Nat} {cf : List Bool} {es : List D}, RepN p G H ρ k cf es → RepN q G H ρ k cf es
  | _, _, _, .nil => .nil
  | _, _, _, .val t => .val (RepN.to hK hm hd hB ha t)
  | _, _, _, .own n t => .own (ha ▸ n.to hK hm hd hB) (RepN.to hK hm hd hB ha t)
/-- what stands beside the own things that are handed in -/
def offH (ρ : Lab) (H : Hp) : Hp := fun a => if ρ a = none then H a else none
theorem offH_none {ρ : Lab} {H : Hp} {a : Addr} (h : ρ a ≠ none) : offH ρ H a = none := if_neg h
theorem offH_at {ρ : Lab} {H : Hp} {a : Addr} (h : ρ a = none) : offH ρ H a = H a := if_pos h
theorem offH_some {ρ : Lab} {H : Hp} {a : Addr} {o : HO} (h : offH ρ H a = some o) : H a = some o ∧ ρ a = none := by
  unfold offH at h
  split at h
  · rename_i e
    exact ⟨h, e⟩
  · cases h
/-- what a def promises that computes F and changes the parameters of cf -/
def spM (K : PySem.W.Frag) (mg : Str → Option Value) (cf : List Bool) (F : List D → M (D × List D)) : Sp := fun vs H Q _ =>
  ∃ (dr : Addr) (G : Hp) (w : Dw) (ρ : Lab) (ad : Nat → Addr) (ds : List D) (d : D) (es : List D) (w' : Dw), Sub G H ∧ DrawAt ⟨K, mg, dr, [], offH ρ H, G, ad⟩ w G H ∧ ρ dr = none ∧ RepC ⟨K, mg, dr, [], offH ρ H, G, ad⟩ G H ρ 0 cf vs ds ∧ F ds w = some ((d, es), w') ∧
  ∀ v G' H' ρ', Fin ⟨K, mg, dr, [], offH ρ H, G, ad⟩ w' G' H' → RepN ⟨K, mg, dr, [], offH ρ H, G, ad⟩ G' H' ρ' 0 cf es → Rep ⟨K, mg, dr, [], offH ρ H, G, ad⟩ G' v d → Q v H'
def outM : Nat → List Bool → Env → Option (List D)
  | _, [], _ => some []
  | k, false :: cf, δ => outM (k + 1) cf δ
  | k, true :: cf, δ => match δ[k]? with
    | some (some d) => if d.isL = true then (outM (k + 1) cf δ).map (d :: ·) else none
    | _ => none
/-- a body with its parameters, some of which it changes -/
def bodyM (cf : List Bool) (m : Nat) (F : F1) (ds : List D) : M (D × List D) := if ds.length = cf.length then do
    let (o, δ') ← F (ds.map some ++ List.replicate (m - ds.length) none)
    let d ← (match o with
    | .rt d => pure d
    | .nx => pure .non
    | _ => fail : M D)
    let es ← liftO (outM 0 cf δ')
    pure (d, es)
  else fail
theorem outM_rep {p : Par} {G H : Hp} {ρ : Lab} {δ : Env} (pb : PinsBy p δ G H ρ) : ∀ {cf : List Bool} {k : Nat} {es : List D}, (∀ j, cf[j]? = some true → k + j + 2000 ∈ p.O) → outM k cf δ = some es → RepN p G H ρ k cf es
  | [], _, _, _, h => by
    have h' : some [] = some _ := h
    cases h'
    exact .nil
  | false :: cf, k, es, hO, h => .val (outM_rep pb (fun j q => by
      have := hO (j + 1) (by simpa using q)
      rwa [show k + (j + 1) = k + 1 + j from by omega] at this) h)
  | true :: cf, k, es, hO, h => by
    have h' : (match δ[k]? with
      | some (some d) => if d.isL = true then (outM (k + 1) cf δ).map (d :: ·) else none
      | _ => none) = some es := h
    cases q : δ[k]? with
    | none => rw [q] at h'; cases h'
    | some o =>
      cases o with
      | none => rw [q] at h'; cases h'
      | some d =>
        rw [q] at h'
        dsimp only at h'
        split at h'
        · rename_i hl
          cases q2 : outM (k + 1) cf δ with
          | none => rw [q2] at h'; cases h'
          | some es' =>
            rw [q2] at h'
            cases h'
            exact .own (pb k d (by simpa using hO 0 rfl) q hl) (outM_rep pb (fun j q => by
              have := hO (j + 1) (by simpa using q)
              rwa [show k + (j + 1) = k + 1 + j from by omega] at this) q2)
        · cases h'
section
variable {P : Program} {w : World} {K : PySem.W.Frag} {mg : Str → Option Value} {base : Heap}
theorem fn_okM {cf : List Bool} {x qual : Str} {st : Stmt} {f : Addr} {fd : FuncData} {N ps : List Str} {k : Nat} {O : List Nat} {F : F1} (Fu : Fun K x qual st f fd) (sc : FnScope N ps (defScope st)) (hcf : ps.length = cf.length) (hO : ∀ i ∈ O, i < 1000 → cf[i]? ≠ some false) (hO2 : ∀ i ∈ O, i < 1000 ∨ (2000 ≤ i ∧ cf[i - 2000]? = some true)) (hO3 : ∀ i : Nat, i < cf.length → cf[i]? = some true → i ∈ O ∧ i + 2000 ∈ O) (hsm : cf.length ≤ 1000) (hN : ps.length ≤ N.length)
    (hb : ∀ (cdv : Value) (A : Around) (outer : List PySem.Env) (s : Shared) (H : Hp) (E : XK), Room k (A.deeper (envOfC qual (defScope st) s.heap.objs.size f cdv)) → SSs (cxOf CX0 P w K mg base N qual (defScope st) f cdv A outer s H E).nox O (defBody st) F) :
    FnOk P w K mg base CX0 (k + 1) f fd ps (spM K mg cf (bodyM cf N.length F)) := by
  refine Fu.ok sc (fun vs H Q E h => ?_) (fun cdv A outer s H vs Q E hr h => ?_)
  · obtain ⟨dr, G, w, ρ, ad, ds, d, es, w', hs, hd, hρ, r, hf, q⟩ := h
    rw [r.len.1, hcf]
  · obtain ⟨dr, G, w1, ρ, ad, ds, d, es, w', hs, hd, hρ, r, hf, q⟩ := h
    have hlen : ds.length = cf.length := r.len.2
    unfold bodyM at hf
    rw [if_pos hlen] at hf
    obtain ⟨⟨o, δ'⟩, w2, h1, hf1⟩ := bind_some hf
    obtain ⟨d1, w3, h2, hf2⟩ := bind_some hf1
    obtain ⟨es1, w4, h3, hf3⟩ := bind_some hf2
    obtain ⟨h3', rfl⟩ := liftO_some h3
    obtain ⟨e, rfl⟩ := pure_some hf3
    cases e
    have hget : ∀ {i : Nat} {e : D}, (ds.map some ++ List.replicate (N.length - ds.length) none)[i]? = some (some e) → ∃ v, (L2.start N vs)[i]? = some (some v) ∧ ((cf[i]? = some false ∧ Rep ⟨K, mg, dr, [], offH ρ H, G, ad⟩ G v e) ∨ (cf[i]? = some true ∧ v = .ref (ad i) ∧ Node ⟨K, mg, dr, [], offH ρ H, G, ad⟩ G H ρ [i] v e)) := by
      intro i e hi
      obtain ⟨z1, z2⟩ := start_get hi
      obtain ⟨v, e1, r1⟩ := r.get z1
      rw [Nat.zero_add] at r1
      refine ⟨v, ?_, r1⟩
      unfold L2.start
      rw [List.getElem?_append_left (by rw [List.length_map, r.len.1, ← hlen]; exact z2), List.getElem?_map, e1]
      rfl
    have pin : ∀ i, i + 2000 ∈ O → cf[i]? = some true := fun i n => by
      rcases hO2 _ n with z | ⟨_, z⟩
      · omega
      · rwa [Nat.add_sub_cancel] at z
    refine ⟨_, hb cdv A outer s H E hr, dr, offH ρ H, G, ad, ds.map some ++ List.replicate (N.length - ds.length) none, G, w1, o, δ', w2, ⟨hs, Sub.refl G, fun _ _ _ q => (offH_some q).1, ?_, ?_, fun i e hi n m => ?_, fun i e hi n => ?_, ⟨ρ, fun i e hi n l => ?_⟩, fun i n => ?_, ⟨hd.ok, hd.at_, hd.out⟩, fun _ _ _ n => n⟩, h1, ?_⟩
    · obtain ⟨_, z, _⟩ := hd.at_
      exact ⟨_, (offH_at hρ).trans z⟩
    · unfold L2.start
      rw [List.length_append, List.length_append, List.length_map, List.length_map, List.length_replicate, List.length_replicate, r.len.1, r.len.2]
    · obtain ⟨v, e1, z | ⟨z1, z2, z3⟩⟩ := hget hi
      · exact ⟨v, e1, Rep.to' z.2⟩
      · have hlt : i < cf.length := (List.getElem?_eq_some_iff.mp z1).1
        exact absurd ⟨(hO3 i hlt z1).1, z3.isL⟩ n
    · rcases hO2 _ n with z | ⟨z1, z2⟩
      · exact absurd z (by omega)
      · obtain ⟨z3, z4⟩ := start_get hi
        exact absurd z1 (by omega)
    · obtain ⟨v, e1, z | ⟨z1, z2, z3⟩⟩ := hget hi
      · exact absurd z.1 (hO i n (by have := (List.getElem?_eq_some_iff.mp z.1).1; omega))
      · exact ⟨v, e1, Node.to (p := ⟨K, mg, dr, [], offH ρ H, G, ad⟩) (q := ⟨K, mg, dr, O, offH ρ H, G, ad⟩) rfl rfl rfl rfl z3⟩
    · have c := pin i n
      have hlt : i < cf.length := (List.getElem?_eq_some_iff.mp c).1
      refine ⟨(hO3 i hlt c).1, ?_⟩
      have hi : (ds.map some)[i]? = some (some (ds[i]'(by omega))) := by
        rw [List.getElem?_map, List.getElem?_eq_getElem (by omega)]
        rfl
      obtain ⟨v, e1, z | ⟨z1, z2, z3⟩⟩ := hget (i := i) (e := ds[i]'(by omega)) (by rw [List.getElem?_append_left (by simpa using (by omega : i < ds.length))]; exact hi)
      · rw [c] at z
        cases z.1
      · rw [e1, z2]
    · have fin : ∀ {v : V} {G' H' : Hp}, Fin ⟨K, mg, dr, O, offH ρ H, G, ad⟩ w2 G' H' → Pins ⟨K, mg, dr, O, offH ρ H, G, ad⟩ δ' G' H' → Rep ⟨K, mg, dr, O, offH ρ H, G, ad⟩ G' v d → w3 = w2 → Q v H' := fun n pn r' e => by
        subst e
        obtain ⟨ρ', pb⟩ := pn
        exact q _ _ _ ρ' ⟨n.sub, n.g0, n.bas, n.kp, ⟨n.draw.ok, n.draw.at_, n.draw.out⟩⟩ (RepN.to (p := ⟨K, mg, dr, O, offH ρ H, G, ad⟩) (q := ⟨K, mg, dr, [], offH ρ H, G, ad⟩) rfl rfl rfl rfl rfl (outM_rep pb (fun j hj => by
          rw [Nat.zero_add]
          exact (hO3 j (List.getElem?_eq_some_iff.mp hj).1 hj).2) h3')) (Rep.to' r')
      cases o with
      | nx =>
        obtain ⟨e, rfl⟩ := pure_some h2
        subst e
        exact fun σ' G' H' S _ => fin S.fin S.pinsOf .non rfl
      | rt d' =>
        obtain ⟨e, rfl⟩ := pure_some h2
        subst e
        exact fun v G' H' n pn r' => fin n pn r' rfl
      | bk => cases h2
      | ct => cases h2
      | ro d' => cases h2
end
/-! ### the caller -/
theorem Node.root {p : Par} {G H : Hp} {ρ : Lab} {L : List Nat} {v : V} {d : D} (n : Node p G H ρ L v d) : ∃ a, v = .ref a ∧ ρ a = some L := by
  cases n with
  | lst w e r => exact ⟨_, rfl, w.lab⟩
  | dK w e l r => exact ⟨_, rfl, w.lab⟩
  | dT w e l r => exact ⟨_, rfl, w.lab⟩
  | olst w e r => exact ⟨_, rfl, w.lab⟩
  | odK w e l r => exact ⟨_, rfl, w.lab⟩
  | odT w e l r => exact ⟨_, rfl, w.lab⟩
  | ins w e l m r => exact ⟨_, rfl, w.lab⟩
/-- the argument at which the slot i stands -/
def ixOf : List (Option Nat) → Nat → Option Nat
  | [], _ => none
  | some j :: fl, i => if j = i then some 0 else (ixOf fl i).map (· + 1)
  | none :: fl, i => (ixOf fl i).map (· + 1)
theorem ixOf_get {i : Nat} : ∀ {fl : List (Option Nat)} {k : Nat}, ixOf fl i = some k → fl[k]? = some (some i)
  | [], _, h => by cases h
  | some j :: fl, k, h => by
    unfold ixOf at h
    split at h
    · rename_i e
      cases h
      rw [e]
      rfl
    · cases q : ixOf fl i with
      | none => rw [q] at h; cases h
      | some m =>
        rw [q] at h
        cases h
        simpa using ixOf_get q
  | none :: fl, k, h => by
    unfold ixOf at h
    cases q : ixOf fl i with
    | none => rw [q] at h; cases h
    | some m =>
      rw [q] at h
      cases h
      simpa using ixOf_get q
/-- no slot is handed in twice -/
def Once (fl : List (Option Nat)) : Prop := ∀ k i, fl[k]? = some (some i) → ixOf fl i = some k
def onceB (fl : List (Option Nat)) : Bool := (List.range fl.length).all fun k => match fl[k]? with
  | some (some i) => ixOf fl i == some k
  | _ => true
theorem once_of {fl : List (Option Nat)} (h : onceB fl = true) : Once fl := fun k i q => by
  have h1 := List.all_eq_true.mp h k (List.mem_range.mpr (List.getElem?_eq_some_iff.mp q).1)
  rw [q] at h1
  exact eq_of_beq h1
def reK (fl : List (Option Nat)) (L : List Nat) : Option (List Nat) := L.getLast?.bind fun i => (ixOf fl i).map fun k => L.dropLast ++ [k]
def reB (fl : List (Option Nat)) (L : List Nat) : Option (List Nat) := L.getLast?.bind fun k => (fl[k]?.bind id).map fun i => L.dropLast ++ [i]
theorem reK_at {fl : List (Option Nat)} {M : List Nat} {i : Nat} : reK fl (M ++ [i]) = (ixOf fl i).map fun k => M ++ [k] := by
  unfold reK
  rw [List.getLast?_append, List.dropLast_concat]
  rfl
theorem reB_at {fl : List (Option Nat)} {M : List Nat} {k : Nat} : reB fl (M ++ [k]) = (fl[k]?.bind id).map fun i => M ++ [i] := by
  unfold reB
  rw [List.getLast?_append, List.dropLast_concat]
  rfl
theorem reK_some {fl : List (Option Nat)} {L L' : List Nat} (h : reK fl L = some L') : ∃ M i k, L = M ++ [i] ∧ ixOf fl i = some k := by
  cases q : L.getLast? with
  | none => unfold reK at h; rw [q] at h; cases h
  | some i =>
    have e := List.getLast?_eq_some_iff.mp q
    obtain ⟨M, rfl⟩ := e
    rw [reK_at] at h
    cases q2 : ixOf fl i with
    | none => rw [q2] at h; cases h
    | some k => exact ⟨M, i, k, rfl, q2⟩
def setL : List (Option Nat) → List D → Env → Option Env
  | [], [], δ => some δ
  | none :: fl, es, δ => setL fl es δ
  | some i :: fl, e :: es, δ => setL fl es (δ.set i (some e))
  | _, _, _ => none
theorem setL_get {p : Par} {G H : Hp} {ρ : Lab} : ∀ {fl : List (Option Nat)} {k : Nat} {es : List D} {δ δ' : Env}, setL fl es δ = some δ' → RepN p G H ρ k (fl.map Option.isSome) es → δ'.length = δ.length ∧
    ∀ j x, δ'[j]? = some (some x) → (δ[j]? = some (some x) ∧ ∀ m : Nat, fl[m]? ≠ some (some j)) ∨ ∃ m : Nat, fl[m]? = some (some j) ∧ Node p G H ρ [k + m] (.ref (p.ad (k + m))) x
  | [], _, _, _, _, h, .nil => by
    cases h
    exact ⟨rfl, fun j x q => .inl ⟨q, fun m z => by simp at z⟩⟩
  | none :: fl, k, es, δ, δ', h, .val t => by
    obtain ⟨h1, h2⟩ := setL_get (fl := fl) h t
    refine ⟨h1, fun j x q => ?_⟩
    rcases h2 j x q with ⟨z1, z2⟩ | ⟨m, z1, z2⟩
    · refine .inl ⟨z1, fun m z => ?_⟩
      cases m with
      | zero => simp at z
      | succ m => exact z2 m (by simpa using z)
    · refine .inr ⟨m + 1, by simpa using z1, ?_⟩
      rwa [show k + (m + 1) = k + 1 + m from by omega]
  | some i :: fl, k, e :: es, δ, δ', h, .own n t => by
    obtain ⟨h1, h2⟩ := setL_get (fl := fl) (show setL fl es (δ.set i (some e)) = some δ' from h) t
    refine ⟨by rw [h1, List.length_set], fun j x q => ?_⟩
    rcases h2 j x q with ⟨z1, z2⟩ | ⟨m, z1, z2⟩
    · by_cases hj : i = j
      · subst hj
        obtain ⟨w, _⟩ := set_at z1
        cases w
        exact .inr ⟨0, rfl, n⟩
      · rw [List.getElem?_set_ne hj] at z1
        refine .inl ⟨z1, fun m z => ?_⟩
        cases m with
        | zero => simp at z; exact hj z
        | succ m => exact z2 m (by simpa using z)
    · refine .inr ⟨m + 1, by simpa using z1, ?_⟩
      rwa [show k + (m + 1) = k + 1 + m from by omega]
/-- an expression that also changes own things -/
def tmuOf (K : PySem.W.Frag) (mg : Str → Option Value) (O : List Nat) (f : Env → M (D × Env)) : TE := fun σ H Q =>
  ∃ (dr : Addr) (B G0 : Hp) (ad : Nat → Addr) (δ : Env) (G : Hp) (w : Dw) (d : D) (δ' : Env) (w' : Dw), SR ⟨K, mg, dr, O, B, G0, ad⟩ δ σ G H w ∧ f δ w = some ((d, δ'), w') ∧
    ∀ v G' H', Sub G G' → SR ⟨K, mg, dr, O, B, G0, ad⟩ δ' σ G' H' w' → Rep ⟨K, mg, dr, O, B, G0, ad⟩ G' v d → Q v H'
def SEM (X : Cx) (O : List Nat) (e : Expr) (f : Env → M (D × Env)) : Prop := PE X e (tmuOf X.K X.mg O f)
def trmOf (K : PySem.W.Frag) (mg : Str → Option Value) (O : List Nat) (fl : List (Option Nat)) (f : Env → M (List D)) : TA := fun σ H Q =>
  ∃ (dr : Addr) (B G0 : Hp) (ad : Nat → Addr) (δ : Env) (G : Hp) (w : Dw) (d : List D) (w' : Dw), SR ⟨K, mg, dr, O, B, G0, ad⟩ δ σ G H w ∧ f δ w = some (d, w') ∧
    ∀ vs G' H', Grow ⟨K, mg, dr, O, B, G0, ad⟩ G H G' H' → SR ⟨K, mg, dr, O, B, G0, ad⟩ δ σ G' H' w' → RepM ⟨K, mg, dr, O, B, G0, ad⟩ δ σ G' fl vs d → Q vs H'
/-- arguments of which some are own things that the def changes -/
def SAM (X : Cx) (O : List Nat) (fl : List (Option Nat)) (es : List Expr) (f : Env → M (List D)) : Prop := PA X es (trmOf X.K X.mg O fl f)
def eOwn (i : Nat) : Env → M D := fun δ => do
  let d ← eVar i δ
  if d.isL = true then pure d else fail
def eMut (fl : List (Option Nat)) (F : List D → M (D × List D)) (fs : Env → M (List D)) : Env → M (D × Env) := fun δ => do
  let xs ← fs δ
  let r ← F xs
  let δ' ← liftO (setL fl r.2 δ)
  pure (r.1, δ')
section
variable {X : Cx} {O : List Nat} {e : Expr} {es : List Expr} {g : Env → M D} {fs : Env → M (List D)} {F : List D → M (D × List D)} {k : Nat} {f : Addr} {fd : FuncData} {ps : List Str} {x : Str} {p pos : Pos} {fl : List (Option Nat)} {cf : List Bool}
theorem sam_nil : SAM X O [] [] aNil := PA.weak pa_nil fun σ H Q ⟨dr, B, G0, ad, δ, G, w, d, w', S, hf, k⟩ => by
  obtain ⟨rfl, rfl⟩ := pure_some hf
  exact k [] G H (.refl _ G H) S .nil
theorem sam_val (ha : SE X O false e g) (hr : SAM X O fl es fs) (hs : starEach (e :: es) X.env = (false, eval e X.env) :: starEach es X.env := by rfl) : SAM X O (none :: fl) (e :: es) (aCons g fs) :=
  PA.weak (pa_cons ha hr hs) fun σ H Q ⟨dr, B, G0, ad, δ, G, w, d, w', S, hf, k⟩ => by
    obtain ⟨x, w1, h1, hf⟩ := bind_some hf
    obtain ⟨xs, w2, h2, hf⟩ := bind_some hf
    obtain ⟨e, rfl⟩ := pure_some hf
    subst e
    refine ⟨dr, B, G0, ad, δ, G, w, x, w1, S, h1, fun v G1 H1 g1 S1 r1 => ⟨dr, B, G0, ad, δ, G1, w1, xs, w2, S1, h2, fun vs G2 H2 g2 S2 r2 => ?_⟩⟩
    have r1' : Rep _ G1 v x := r1
    exact k (v :: vs) G2 H2 (g1.trans g2) S2 (.val (r1'.mono g2.g) r2)
theorem sam_own (i : Nat) (hr : SAM X O fl es fs) (hO : i ∈ O := by decide) (hN : X.N[i]? = some x := by rfl) (hv : Vis X.env.scope x := by first | exact Or.inl rfl | exact Or.inr (Or.inl rfl) | exact Or.inr (Or.inr rfl)) (hd : (x == ("__debug__" : Str)) = false := by decide)
    (hcd : (x == ("__classdict__" : Str)) = false := by decide) (hs : starEach (.Name x pos :: es) X.env = (false, eval (.Name x pos) X.env) :: starEach es X.env := by rfl) : SAM X O (some i :: fl) (.Name x pos :: es) (aCons (eOwn i) fs) :=
  PA.weak (pa_cons (pe_var hN hv hd hcd) hr hs) fun σ H Q ⟨dr, B, G0, ad, δ, G, w, d, w', S, hf, k⟩ => by
    obtain ⟨x, w1, h1, hf⟩ := bind_some hf
    obtain ⟨xs, w2, h2, hf⟩ := bind_some hf
    obtain ⟨e, rfl⟩ := pure_some hf
    subst e
    obtain ⟨x', w3, h3, h4⟩ := bind_some h1
    obtain ⟨h5, rfl⟩ := eVar_some h3
    by_cases hl : x'.isL = true
    · rw [if_pos hl] at h4
      obtain ⟨e, rfl⟩ := pure_some h4
      subst e
      obtain ⟨ρ, ow⟩ := S.owns
      obtain ⟨v, e1, n⟩ := ow i _ h5 hO hl
      exact ⟨v, e1, dr, B, G0, ad, δ, G, _, xs, w2, S, h2, fun vs G2 H2 g2 S2 r2 => k (v :: vs) G2 H2 g2 S2 (.own e1 h5 hl r2)⟩
    · rw [if_neg hl] at h4
      cases h4
theorem tmu_def {K : PySem.W.Frag} {mg : Str → Option Value} (hcf : fl.map Option.isSome = cf) (on : Once fl) (hO : ∀ (k i : Nat), fl[k]? = some (some i) → i ∈ O ∧ i + 1000 ∉ O) {σ : L2.St} {H : Hp} {Q : VK} (q : tmuOf K mg O (eMut fl F fs) σ H Q) : tCall (spM K mg cf F) [] E0 (trmOf K mg O fl fs) σ H Q := by
  subst hcf
  obtain ⟨dr, B, G0, ad, δ, G, w, d, δ', w', S, hf, k⟩ := q
  obtain ⟨xs, w1, h1, hf1⟩ := bind_some hf
  obtain ⟨⟨d1, es⟩, w2, h2, hf2⟩ := bind_some hf1
  obtain ⟨δ1, w3, h3, hf3⟩ := bind_some hf2
  obtain ⟨h3', rfl⟩ := liftO_some h3
  obtain ⟨e, rfl⟩ := pure_some hf3
  cases e
  refine ⟨dr, B, G0, ad, δ, G, w, xs, w1, S, h1, fun vs G1 H1 g1 S1 r1 => ?_⟩
  show spM K mg (fl.map Option.isSome) F (vs ++ []) H1 Q E0
  rw [List.append_nil]
  obtain ⟨ρ, ow⟩ := S1.owns
  have bd' := S1.bd'
  have hl := r1.len
  let p1 : Par := ⟨K, mg, dr, O, B, G0, ad⟩
  let ρ1 : Lab := fun a => if G1 a = none ∧ B a = none then (ρ a).bind (reK fl) else none
  let ad1 : Nat → Addr := fun k => match vs[k]? with | some (.ref a) => a | _ => 0
  let p2 : Par := ⟨K, mg, dr, [], offH ρ1 H1, G1, ad1⟩
  have ρ1_at : ∀ {a : Addr} {M : List Nat} {i k : Nat}, ρ a = some (M ++ [i]) → G1 a = none → B a = none → ixOf fl i = some k → ρ1 a = some (M ++ [k]) := fun {a M i k} e1 e2 e3 e4 => by
    show (if G1 a = none ∧ B a = none then (ρ a).bind (reK fl) else none) = _
    rw [if_pos ⟨e2, e3⟩, e1]
    show reK fl (M ++ [i]) = _
    rw [reK_at, e4]
    rfl
  have ρ1_some : ∀ {a : Addr}, ρ1 a ≠ none → G1 a = none ∧ B a = none ∧ ∃ M i k, ρ a = some (M ++ [i]) ∧ ixOf fl i = some k := fun {a} h => by
    have h' : (if G1 a = none ∧ B a = none then (ρ a).bind (reK fl) else none) ≠ none := h
    by_cases c : G1 a = none ∧ B a = none
    · rw [if_pos c] at h'
      cases q : ρ a with
      | none => rw [q] at h'; exact absurd rfl h'
      | some L =>
        rw [q] at h'
        cases q2 : reK fl L with
        | none => exact absurd q2 h'
        | some L' =>
          obtain ⟨M, i, k, e1, e2⟩ := reK_some q2
          exact ⟨c.1, c.2, M, i, k, by rw [e1], e2⟩
    · rw [if_neg c] at h'
      exact absurd rfl h'
  have hdr : ρ1 dr = none := by
    cases q : ρ1 dr with
    | none => rfl
    | some L => exact absurd (ρ1_some (a := dr) (by rw [q]; exact nofun)).2.1 bd'
  have nodeIn : ∀ {k i : Nat} {v : V} {d : D}, fl[k]? = some (some i) → σ[i]? = some (some v) → δ[i]? = some (some d) → d.isL = true → vs[k]? = some v → v = .ref (ad1 k) ∧ Node p2 G1 H1 ρ1 [k] v d := fun {k i v d} e1 e2 e3 e4 e5 => by
    obtain ⟨v', e6, n⟩ := ow i d e3 (hO k i e1).1 e4
    rw [e2] at e6
    cases e6
    obtain ⟨a, ea, _⟩ := n.root
    subst ea
    refine ⟨?_, Node.relab (p := p1) (q := p2) rfl rfl rfl (k := i) (i := k) (fun b M z1 z2 z3 => ?_) [] rfl n⟩
    · show V.ref a = V.ref (match vs[k]? with | some (.ref a) => a | _ => 0)
      rw [e5]
    · have := ρ1_at z1 z2 z3 (on k i e1)
      exact ⟨this, offH_none (by rw [this]; exact nofun)⟩
  have rc : RepC p2 G1 H1 ρ1 0 (fl.map Option.isSome) vs xs := RepC.of (by rw [hl.1, List.length_map]) (by rw [hl.2, List.length_map]) fun j v d e1 e2 => by
    rw [Nat.zero_add, List.getElem?_map]
    rcases r1.get e1 e2 with ⟨z1, z2⟩ | ⟨i, z1, z2, z3, z4⟩
    · exact .inl ⟨by rw [z1]; rfl, Rep.to' z2⟩
    · obtain ⟨y1, y2⟩ := nodeIn z1 z2 z3 z4 e1
      exact .inr ⟨by rw [z1]; rfl, y1, y2⟩
  refine ⟨dr, G1, w1, ρ1, ad1, xs, d1, es, _, S1.sub, ⟨S1.draw.ok, S1.draw.at_, S1.draw.out⟩, hdr, rc, h2, fun v G2 H2 ρ2 n rn r => ?_⟩
  let ρ3 : Lab := fun a => if ρ1 a ≠ none ∨ H1 a = none then (ρ2 a).bind (reB fl) else ρ a
  obtain ⟨hlen, hget⟩ := setL_get h3' rn
  have slotv : ∀ {m j : Nat} , fl[m]? = some (some j) → σ[j]? = some (some (.ref (ad1 m))) := fun {m j} e1 => by
    have hm : m < fl.length := (List.getElem?_eq_some_iff.mp e1).1
    have ev : vs[m]? = some (vs[m]'(by omega)) := List.getElem?_eq_getElem (by omega)
    have ed : xs[m]? = some (xs[m]'(by omega)) := List.getElem?_eq_getElem (by omega)
    rcases r1.get ev ed with ⟨z1, z2⟩ | ⟨i, z1, z2, z3, z4⟩
    · rw [e1] at z1; cases z1
    · rw [e1] at z1
      cases z1
      obtain ⟨y1, _⟩ := nodeIn e1 z2 z3 z4 ev
      rw [z2, y1]
  have s12 : Sub G1 G2 := n.g0
  refine k v G2 H2 (g1.g.trans s12) ⟨n.sub, S1.g0.trans s12, fun a o ne h => ?_, S1.bd, by rw [hlen]; exact S1.len, fun i e hi nn m => ?_, fun i e hi m => ?_, ⟨ρ3, fun i e hi m l => ?_⟩, S1.pins, ⟨n.draw.ok, n.draw.at_, n.draw.out⟩, fun a o h1 h2 => ?_⟩ (Rep.to' r)
  · refine n.bas a o ne ?_
    show offH ρ1 H1 a = some o
    rw [offH_at]
    · exact S1.bas a o ne h
    · cases q : ρ1 a with
      | none => rfl
      | some L =>
        have := (ρ1_some (a := a) (by rw [q]; exact nofun)).2.1
        rw [show B a = some o from h] at this
        cases this
  · rcases hget i e hi with ⟨z1, _⟩ | ⟨m', z1, z2⟩
    · obtain ⟨v, e1, r2⟩ := S1.vals i e z1 nn m
      exact ⟨v, e1, r2.mono s12⟩
    · exact absurd ⟨(hO m' i z1).1, z2.isL⟩ nn
  · rcases hget i e hi with ⟨z1, _⟩ | ⟨m', z1, z2⟩
    · obtain ⟨v, e1, r2⟩ := S1.ros i e z1 m
      exact ⟨v, e1, r2.move s12 fun _ _ _ z => z⟩
    · exact absurd m (hO m' i z1).2
  · rcases hget i e hi with ⟨z1, z2⟩ | ⟨m', z1, z2⟩
    · obtain ⟨v, e1, nd⟩ := ow i e z1 m l
      refine ⟨v, e1, nd.keep s12 fun b L o y1 y2 y3 y4 y5 => ?_⟩
      have hρ1 : ρ1 b = none := by
        cases q : ρ1 b with
        | none => rfl
        | some L' =>
          obtain ⟨_, _, M, i', k', e2, e3⟩ := ρ1_some (a := b) (by rw [q]; exact nofun)
          rw [y1] at e2
          cases e2
          have : i = i' := nodup_lab y2 ⟨M, rfl⟩
          subst this
          exact absurd (ixOf_get e3) (z2 k')
      have hb : b ≠ dr := fun z => bd' (by rw [← z]; exact y4)
      have hoff : offH ρ1 H1 b = some o := (offH_at hρ1).trans y5
      refine ⟨n.bas b o hb hoff, n.kp b o hoff y3, ?_⟩
      show (if ρ1 b ≠ none ∨ H1 b = none then (ρ2 b).bind (reB fl) else ρ b) = some L
      rw [if_neg, y1]
      rintro (z | z)
      · exact z hρ1
      · rw [y5] at z; cases z
    · rw [Nat.zero_add] at z2
      refine ⟨_, slotv z1, Node.relab (p := p2) (q := p1) rfl rfl rfl (k := m') (i := i) (fun b M y1 y2 y3 => ?_) [] rfl z2⟩
      have hw : ρ1 b ≠ none ∨ H1 b = none := by
        by_cases c : ρ1 b = none
        · exact .inr ((offH_at c).symm.trans y3)
        · exact .inl c
      refine ⟨?_, ?_⟩
      · show (if ρ1 b ≠ none ∨ H1 b = none then (ρ2 b).bind (reB fl) else ρ b) = some _
        rw [if_pos hw, y1]
        show reB fl (M ++ [m']) = _
        rw [reB_at, z1]
        rfl
      · show B b = none
        rcases hw with c | c
        · exact (ρ1_some c).2.1
        · cases q : B b with
          | none => rfl
          | some o =>
            by_cases hb : b = dr
            · subst hb
              obtain ⟨o', q'⟩ := S1.drS
              rw [show H1 b = some o' from q'] at c
              cases c
            · rw [S1.bas b o hb q] at c
              cases c
  · by_cases hb : a = dr
    · subst hb
      exact n.draw.out
    · have e1 := S1.bas a o hb h1
      refine n.kp a o ?_ (S1.kp a o h1 h2)
      show offH ρ1 H1 a = some o
      rw [offH_at]
      · exact e1
      · cases q : ρ1 a with
        | none => rfl
        | some L =>
          have := (ρ1_some (a := a) (by rw [q]; exact nofun)).2.1
          rw [show B a = some o from h1] at this
          cases this
theorem se_mut (Fk : FnOk X.prog X.w X.K X.mg X.base CX0 k f fd ps (spM X.K X.mg cf F)) (hr : Room k X.A) (hg : Gl X x) (hm : X.mg x = some (.ref f)) (hk : PySem.W.keepIn X.K (.ref f) = true) (hb : Binds X.K fd ps []) (ha : SAM X O fl (e :: es) fs) (hcf : fl.map Option.isSome = cf := by rfl) (on : onceB fl = true := by decide) (hO : fl.all (fun o => match o with | some i => decide (i ∈ O ∧ i + 1000 ∉ O) | none => true) = true := by decide)
    (hdb : (x == ("__debug__" : Str)) = false := by decide) (he : starEach (e :: es) X.env = (false, eval e X.env) :: starEach es X.env := by rfl) (hpl : (backTo pos (starEach es X.env)).any (·.1) = false := by rfl) :
    SEM X O (.Call (.Name x p) (e :: es) [] pos) (eMut fl F fs) :=
  PE.weak (pe_call (dvs := []) (ds := []) (E := E0) Fk hr hg hm hk hb .nil pass0 ha hdb he hpl) fun σ H Q q => tmu_def hcf (once_of on) (fun k i h => by
    have := List.all_eq_true.mp hO _ (List.mem_of_getElem? h)
    exact of_decide_eq_true this) q
end
/-- the module's name x stands for a def that computes F and changes the parameters of cf -/
def HasM (P : Program) (w : World) (K : PySem.W.Frag) (mg : Str → Option Value) (base : Heap) (k : Nat) (x : Str) (ps : List Str) (cf : List Bool) (F : List D → M (D × List D)) : Prop :=
  ∃ (f : Addr) (fd : FuncData), FnOk P w K mg base CX0 k f fd ps (spM K mg cf F) ∧ mg x = some (.ref f) ∧ PySem.W.keepIn K (.ref f) = true ∧ Binds K fd ps []
section
variable {X : Cx} {O : List Nat} {e : Expr} {es : List Expr} {fs : Env → M (List D)} {F : List D → M (D × List D)} {k : Nat} {ps : List Str} {x : Str} {p pos : Pos} {fl : List (Option Nat)} {cf : List Bool} {g : Env → M (D × Env)}
theorem se_hasM (H : HasM X.prog X.w X.K X.mg X.base k x ps cf F) (hr : Room k X.A) (hg : Gl X x) (ha : SAM X O fl (e :: es) fs) (hcf : fl.map Option.isSome = cf := by rfl) (on : onceB fl = true := by decide) (hO : fl.all (fun o => match o with | some i => decide (i ∈ O ∧ i + 1000 ∉ O) | none => true) = true := by decide)
    (hdb : (x == ("__debug__" : Str)) = false := by decide) (he : starEach (e :: es) X.env = (false, eval e X.env) :: starEach es X.env := by rfl) (hpl : (backTo pos (starEach es X.env)).any (·.1) = false := by rfl) :
    SEM X O (.Call (.Name x p) (e :: es) [] pos) (eMut fl F fs) := by
  obtain ⟨f, fd, h1, h2, h3, h4⟩ := H
  exact se_mut h1 hr hg h2 h3 h4 ha hcf on hO hdb he hpl
/-! statements -/
def sDropM (f : Env → M (D × Env)) : F1 := fun δ => do
  let r ← f δ
  pure (.nx, r.2)
theorem ss_exprM (ha : SEM X O e g) (hs : swapsWith e none pos.line X.env = pure false := by rfl) : SS X O (.Expr e pos) (sDropM g) :=
  PS.weak (ps_expr ha hs) fun E σ H ⟨dr, B, G0, ad, δ, G, w, o, δ', w', S, hf, k⟩ => by
    obtain ⟨⟨d, δ1⟩, w1, h1, hf1⟩ := bind_some hf
    obtain ⟨e, rfl⟩ := pure_some hf1
    cases e
    exact ⟨dr, B, G0, ad, δ, G, w, d, _, w1, S, h1, fun v G1 H1 g1 S1 r1 => k σ G1 H1 S1 g1⟩
def sRetM (f : Env → M (D × Env)) : F1 := fun δ => do
  let r ← f δ
  pure (.rt r.1, r.2)
theorem ss_retM (ha : SEM X O e g) : SS X O (.Return (some e) pos) (sRetM g) :=
  PS.weak (ps_ret ha) fun E σ H ⟨dr, B, G0, ad, δ, G, w, o, δ', w', S, hf, k⟩ => by
    obtain ⟨⟨d, δ1⟩, w1, h1, hf1⟩ := bind_some hf
    obtain ⟨e, rfl⟩ := pure_some hf1
    cases e
    exact ⟨dr, B, G0, ad, δ, G, w, d, _, w1, S, h1, fun v G1 H1 g1 S1 r1 => k v G1 H1 S1.fin S1.pinsOf r1⟩
def sAsgM (T : Tg) (f : Env → M (D × Env)) : F1 := fun δ => do
  let r ← f δ
  let δ' ← liftO (setT T r.1 r.2)
  pure (.nx, δ')
theorem ss_setM (i : Nat) {p2 : Pos} (hN : X.N.Nodup) (ha : SEM X O e g) (hO : i ∉ O := by decide) (hi : X.N[i]? = some x := by rfl) (hx : Loc X.env.scope x := by first | exact Or.inl rfl | exact Or.inr rfl) (hs : swapsWith e (some (.Name x p2)) pos.line X.env = pure false := by rfl)
    (hf : X.fn x = true ∨ X.env.scope.names.lookup x = some .local := by first | exact .inl rfl | exact .inr rfl) : SS X O (.Assign [.Name x p2] e pos) (sAsgM (.nm i) g) :=
  PS.weak (ps_set hN hi hx ha hs hf) fun E σ H q => by
    obtain ⟨dr, B, G0, ad, δ, G, w, o, δ', w', S, hf, k⟩ := q
    obtain ⟨⟨d, δ1⟩, w1, h1, hf1⟩ := bind_some hf
    obtain ⟨δ2, w2, h2, hf2⟩ := bind_some hf1
    obtain ⟨h3, rfl⟩ := liftO_some h2
    obtain ⟨e, rfl⟩ := pure_some hf2
    cases e
    have e' : some (δ1.set i (some d)) = some δ' := by rw [← h3, setT]
    cases e'
    exact ⟨dr, B, G0, ad, δ, G, w, d, _, _, S, h1, fun v G1 H1 g1 S1 r1 => k _ G1 H1 (S1.set hO r1) g1⟩
theorem ss_asgM {tg : Expr} {T : Tg} (ha : SEM X O e g) (hg : SG X O tg T) (hs : swapsWithSole [tg] e pos.line X.env = pure false := by rfl) (hw : swappedStores [tg] e X.env = pure none := by rfl)
    (h1 : (assignEach [tg] X.env).map (·.2) = [assign tg X.env] := by rfl) : SS X O (.Assign [tg] e pos) (sAsgM T g) :=
  PS.weak (ps_asg ha hg hs hw h1) fun E σ H q => by
    obtain ⟨dr, B, G0, ad, δ, G, w, o, δ', w', S, hf, k⟩ := q
    obtain ⟨⟨d, δ1⟩, w1, h1, hf1⟩ := bind_some hf
    obtain ⟨δ2, w2, h2, hf2⟩ := bind_some hf1
    obtain ⟨h3, rfl⟩ := liftO_some h2
    obtain ⟨e, rfl⟩ := pure_some hf2
    cases e
    exact ⟨dr, B, G0, ad, δ, G, w, d, _, _, S, h1, fun v G1 H1 g1 S1 r1 => ⟨dr, B, G0, ad, _, G1, _, d, _, S1, r1, h3, fun σ' S' _ _ => k σ' G1 H1 S' g1⟩⟩
end
end Fc

/-! Fc, part CC: enumerate of own lists, lists from ranges, own lists from list(..). -/
namespace Fc
open PySem PySem.Spec PyProof.Rows L2
section
variable {X : Cx} {O : List Nat} {al bl : Bool} {a b e : Expr} {es elts : List Expr} {kk : Nat} {f g : Env → M D} {fs : Env → M (List D)} {pos q p tpos : Pos}
theorem si_enumA (hm : X.mg "enumerate" = none) (hg : Gl X "enumerate") (ha : SA X O true [e] fs) (hs : starEach [e] X.env = [(false, eval e X.env)] := by rfl) : SI X O true (.Tuple elts kk tpos) (.Call (.Name "enumerate" q) [e] [] pos) (itCall dEnum fs) :=
  PI.weak (pi_enumA hg hm ha hs) fun σ H R ⟨dr, B, G0, ad, δ, G, w, ds, w', S, hf, k⟩ => by
    obtain ⟨xs, w1, h1, hf1⟩ := bind_some hf
    obtain ⟨h3, rfl⟩ := liftO_some hf1
    refine ⟨dr, B, G0, ad, δ, G, w, xs, _, S, h1, fun vs G1 H1 g1 S1 r1 => ?_⟩
    match xs, h3, r1 with
    | [.tup l], h3, r1 =>
      cases h3
      obtain ⟨v, rfl, rr⟩ := r1.one
      have r2 := rr.x.tupR
      cases r2 with
      | @tup a vs _ h4 h5 => exact ⟨a, vs, rfl, .inr ⟨sub_t S1.sub h4, k _ G1 H1 g1 S1 (walksEnumT h4 h5)⟩⟩
    | [.lst l], h3, r1 =>
      cases h3
      obtain ⟨v, rfl, rr⟩ := r1.one
      obtain ⟨a, vs, rfl, h4, h5, h6⟩ := rr.walks
      exact ⟨a, vs, rfl, .inl ⟨SqL.of (h4 S1.sub), k _ G1 H1 g1 S1 (walksEnumL h5 h6)⟩⟩
/-! ### lists and tuples from ranges -/
def dRg : List D → Option (List D)
  | [.int n] => if 0 ≤ n ∧ n ≤ 100000 then some (rangeD 0 n.toNat) else none
  | [.int i, .int n] => if -BIG ≤ i ∧ i ≤ BIG ∧ -BIG ≤ n ∧ n ≤ BIG ∧ n - i ≤ 100000 then some (rangeD i (n - i).toNat) else none
  | _ => none
theorem rgV_eq {a b : Int} : rgV a b = (List.range (b - a).toNat).map fun i : Nat => V.int (a + i) := rfl
theorem rep_range {p : Par} {G : Hp} (a b : Int) : RepAll p G (rgV a b) (rangeD a (b - a).toNat) := by
  unfold rgV rangeD
  generalize (b - a).toNat = n
  induction List.range n with
  | nil => exact .nil
  | cons x l ih => exact .cons (.int _) ih
def eRg (c : List D → D) (fs : Env → M (List D)) : Env → M D := fun δ => do
  let xs ← fs δ
  liftO ((dRg xs).map c)
def trgOf (K : PySem.W.Frag) (mg : Str → Option Value) (O : List Nat) (fs : Env → M (List D)) : L2.St → Hp → (Int → Int → Hp → Prop) → Prop := fun σ H Q =>
  ∃ (dr : Addr) (B G0 : Hp) (ad : Nat → Addr) (δ : Env) (G : Hp) (w : Dw) (xs : List D) (w' : Dw) (l : List D), SR ⟨K, mg, dr, O, B, G0, ad⟩ δ σ G H w ∧ fs δ w = some (xs, w') ∧ dRg xs = some l ∧
    ∀ i n G' H', Grow ⟨K, mg, dr, O, B, G0, ad⟩ G H G' H' → SR ⟨K, mg, dr, O, B, G0, ad⟩ δ σ G' H' w' → l = rangeD i (n - i).toNat → RgOk i n → Q i n H'
def SRg (X : Cx) (O : List Nat) (e : Expr) (fs : Env → M (List D)) : Prop := PRg X e (trgOf X.K X.mg O fs)
theorem PRg.weak {X : Cx} {e : Expr} {t t' : L2.St → Hp → (Int → Int → Hp → Prop) → Prop} (h : PRg X e t) (k : ∀ σ H Q, t' σ H Q → t σ H Q) : PRg X e t' := fun pins s σ H Q I q => h pins s σ H Q I (k σ H Q q)
theorem sr_1 (hm : X.mg "range" = none) (hg : Gl X "range") (ha : SE X O al a f) (na : starEach [a] X.env = (false, eval a X.env) :: starEach [] X.env := by rfl) : SRg X O (.Call (.Name "range" p) [a] [] pos) (aCons f aNil) :=
  PRg.weak (prg_1 hg hm ha na) fun σ H Q ⟨dr, B, G0, ad, δ, G, w, xs, w', l, S, hf, hd, k⟩ => by
    obtain ⟨x, w1, h1, hf1⟩ := bind_some hf
    obtain ⟨ys, w2, h2, hf2⟩ := bind_some hf1
    obtain ⟨rfl, rfl⟩ := pure_some h2
    obtain ⟨e, rfl⟩ := pure_some hf2
    subst e
    refine ⟨dr, B, G0, ad, δ, G, w, x, _, S, h1, fun v G1 H1 g1 S1 r1 => ?_⟩
    cases x <;> try (cases hd; done)
    rename_i n
    simp only [dRg] at hd
    split at hd
    · rename_i hc
      cases hd
      exact ⟨n, r1.x.int, k 0 n G1 H1 g1 S1 (by rw [Int.sub_zero]) ⟨by omega, by omega, by omega, by omega, by omega⟩⟩
    · cases hd
theorem sr_2 (hm : X.mg "range" = none) (hg : Gl X "range") (ha : SE X O al a f) (hb : SE X O bl b g) (na : starEach [a, b] X.env = (false, eval a X.env) :: starEach [b] X.env := by rfl)
    (nb : starEach [b] X.env = (false, eval b X.env) :: starEach [] X.env := by rfl) (hp : (backTo pos (starEach [b] X.env)).any (·.1) = false := by rfl) : SRg X O (.Call (.Name "range" p) [a, b] [] pos) (aCons f (aCons g aNil)) :=
  PRg.weak (prg_2 hg hm ha hb na nb hp) fun σ H Q ⟨dr, B, G0, ad, δ, G, w, xs, w', l, S, hf, hd, k⟩ => by
    obtain ⟨x, w1, h1, hf1⟩ := bind_some hf
    obtain ⟨ys, w2, h2, hf2⟩ := bind_some hf1
    obtain ⟨y, w3, h3, hf3⟩ := bind_some h2
    obtain ⟨zs, w4, h4, hf4⟩ := bind_some hf3
    obtain ⟨rfl, rfl⟩ := pure_some h4
    obtain ⟨e, rfl⟩ := pure_some hf4
    subst e
    obtain ⟨e, rfl⟩ := pure_some hf2
    subst e
    refine ⟨dr, B, G0, ad, δ, G, w, x, w1, S, h1, fun v G1 H1 g1 S1 r1 => ⟨dr, B, G0, ad, δ, G1, w1, y, _, S1, h3, fun u G2 H2 g2 S2 r2 => ?_⟩⟩
    have hB : BIG = 1000000000 := rfl
    cases x <;> cases y <;> try (cases hd; done)
    rename_i i n
    simp only [dRg] at hd
    split at hd
    · rename_i hc
      cases hd
      exact ⟨i, n, (r1.grow g2).x.int, r2.x.int, k i n G2 H2 (g1.trans g2) S2 rfl ⟨by omega, by omega, by omega, by omega, by omega⟩⟩
    · cases hd
theorem sf_listRg (hc : X.calm = true) (hm : X.mg "list" = none) (hg : Gl X "list") (he : SRg X O e fs) (na : starEach [e] X.env = (false, eval e X.env) :: starEach [] X.env := by rfl) : SF X O (.Call (.Name "list" p) [e] [] pos) (eRg D.lst fs) :=
  PE.weak (pe_listRg hc hg hm he na) fun σ H Q ⟨dr, B, G0, ad, δ, G, w, d, w', S, hf, k⟩ => by
    obtain ⟨xs, w1, h1, hf1⟩ := bind_some hf
    obtain ⟨h3, rfl⟩ := liftO_some hf1
    cases hd : dRg xs with
    | none => rw [hd] at h3; cases h3
    | some l =>
      rw [hd] at h3
      cases h3
      refine ⟨dr, B, G0, ad, δ, G, w, xs, _, l, S, h1, hd, fun i n G1 H1 g1 S1 el ok => ⟨ok, fun q hq => ?_⟩⟩
      have gr := Gr.laid (o := HO.lst (rgV i n)) S1.sub hq
      obtain ⟨n1, n2⟩ := new_ne S1 g1 hq
      rw [el] at k
      exact k q _ _ G1 _ rfl (g1.trans gr.grow) (S1.gr gr) n2 upd_same (sub_none S1.sub hq) n1 (rep_range i n)
theorem se_tupRg (hc : X.calm = true) (hm : X.mg "tuple" = none) (hg : Gl X "tuple") (he : SRg X O e fs) (na : starEach [e] X.env = (false, eval e X.env) :: starEach [] X.env := by rfl) : SE X O false (.Call (.Name "tuple" p) [e] [] pos) (eRg D.tup fs) :=
  PE.weak (pe_tupRg hc hg hm he na) fun σ H Q ⟨dr, B, G0, ad, δ, G, w, d, w', S, hf, k⟩ => by
    obtain ⟨xs, w1, h1, hf1⟩ := bind_some hf
    obtain ⟨h3, rfl⟩ := liftO_some hf1
    cases hd : dRg xs with
    | none => rw [hd] at h3; cases h3
    | some l =>
      rw [hd] at h3
      cases h3
      refine ⟨dr, B, G0, ad, δ, G, w, xs, _, l, S, h1, hd, fun i n G1 H1 g1 S1 el ok => ⟨ok, fun q hq => ?_⟩⟩
      obtain ⟨gr, rz⟩ := Rep.newT (p := ⟨X.K, X.mg, dr, O, B, G0, ad⟩) S1.sub hq (rep_range i n)
      rw [← el] at rz
      exact k _ _ _ (g1.trans gr.grow) (S1.gr gr) rz
/-- an own list from list(..) -/
theorem sf_list (hm : X.mg "list" = none) (hg : Gl X "list") (ha : SA X O true [e] fs) (he : starEach [e] X.env = (false, eval e X.env) :: starEach [] X.env := by rfl) (hpl : (backTo pos (starEach [] X.env)).any (·.1) = false := by rfl) : SF X O (.Call (.Name "list" q) [e] [] pos) (eCall dList fs) :=
  PE.weak (pe_callTy call_list_of hg hm (by decide +kernel) ha (by decide) (by decide) he hpl) fun σ H Q ⟨dr, B, G0, ad, δ, G, w, d, w', S, hf, k⟩ => by
    obtain ⟨xs, w1, h1, hf1⟩ := bind_some hf
    obtain ⟨h3, rfl⟩ := liftO_some hf1
    refine ⟨dr, B, G0, ad, δ, G, w, xs, _, S, h1, fun vs G1 H1 g1 S1 r1 => ?_⟩
    match xs, h3, r1 with
    | [.lst l], h3, r1 =>
      cases h3
      obtain ⟨v, rfl, rr⟩ := r1.one
      obtain ⟨a, us, rfl, ha, ra⟩ := rr.x.lst S1.sub
      refine ⟨a, us, rfl, .inl (SqL.of ha), fun q hq => ?_⟩
      have gr := Gr.laid (o := HO.lst us) S1.sub hq
      obtain ⟨n1, n2⟩ := new_ne S1 g1 hq
      exact k q _ _ G1 _ rfl (g1.trans gr.grow) (S1.gr gr) n2 upd_same (sub_none S1.sub hq) n1 ra
    | [.tup l], h3, r1 =>
      cases h3
      obtain ⟨v, rfl, rr⟩ := r1.one
      obtain ⟨a, us, rfl, ha, ra, Ra⟩ := rr.x.tup S1.sub
      refine ⟨a, us, rfl, .inr ha, fun q hq => ?_⟩
      have gr := Gr.laid (o := HO.lst us) S1.sub hq
      obtain ⟨n1, n2⟩ := new_ne S1 g1 hq
      exact k q _ _ G1 _ rfl (g1.trans gr.grow) (S1.gr gr) n2 upd_same (sub_none S1.sub hq) n1 ra
/-! ### sorted(..) of ints -/
def intsD : List D → Option (List Int)
  | [] => some []
  | .int i :: l => (intsD l).map (i :: ·)
  | _ => none
def sortI (ns : List Int) : List Int := ns.mergeSort fun a b => decide (a ≤ b)
def dSorted : List D → Option D
  | [.lst l] => (intsD l).map fun ns => .lst ((sortI ns).map .int)
  | _ => none
theorem sortI_perm (ns : List Int) : (sortI ns).Perm ns := List.mergeSort_perm ns _
theorem sortI_sorted (ns : List Int) : (sortI ns).Pairwise (· ≤ ·) := by
  refine (List.pairwise_mergeSort (le := fun a b : Int => decide (a ≤ b)) (fun a b c h1 h2 => ?_) (fun a b => ?_) ns).imp fun {a b} h => of_decide_eq_true h
  · have := of_decide_eq_true h1
    have := of_decide_eq_true h2
    exact decide_eq_true (by omega)
  · by_cases h : a ≤ b
    · rw [decide_eq_true h]; rfl
    · rw [decide_eq_true (show b ≤ a by omega), Bool.or_true]
theorem sorted_uniq : ∀ {l m : List Int}, l.Pairwise (· ≤ ·) → m.Pairwise (· ≤ ·) → l.Perm m → l = m
  | [], m, _, _, p => p.nil_eq
  | a :: l, m, h1, h2, p => by
    cases m with
    | nil => exact absurd p.length_eq (by simp)
    | cons b m =>
      have hab : a = b := by
        have ha : a ∈ b :: m := p.mem_iff.mp List.mem_cons_self
        have hb : b ∈ a :: l := p.mem_iff.mpr List.mem_cons_self
        rcases List.mem_cons.mp ha with e | ha
        · exact e
        · rcases List.mem_cons.mp hb with e | hb
          · exact e.symm
          · have := (List.pairwise_cons.mp h1).1 b hb
            have := (List.pairwise_cons.mp h2).1 a ha
            omega
      subst hab
      rw [sorted_uniq (List.pairwise_cons.mp h1).2 (List.pairwise_cons.mp h2).2 (List.perm_cons a |>.mp p)]
theorem RepAll.intsOf {p : Par} {G : Hp} : ∀ {vs : List V} {l : List D} {ns : List Int}, RepAll p G vs l → intsD l = some ns → vs = ns.map V.int
  | _, _, _, .nil, h => by
    cases h
    rfl
  | _, d :: l, ns, .cons r t, h => by
    cases d <;> try (cases h; done)
    rename_i i
    cases r
    have h' : (intsD l).map (i :: ·) = some ns := h
    cases q : intsD l with
    | none => rw [q] at h'; cases h'
    | some ms =>
      rw [q] at h'
      cases h'
      rw [t.intsOf q]
      rfl
theorem rep_ints {p : Par} {G : Hp} : ∀ ns : List Int, RepAll p G (ns.map V.int) (ns.map D.int)
  | [] => .nil
  | _ :: ns => .cons (.int _) (rep_ints ns)
theorem cs_sorted {K : PySem.W.Frag} {mg : Str → Option Value} : CallS K mg (rSortedI K) dSorted := by
  intro p G H vs ds d Q hK hmg s r hd k
  subst hK
  match ds, hd, r with
  | [.lst l], hd, r =>
    obtain ⟨v, rfl, rr⟩ := r.one
    obtain ⟨a, us, rfl, ha, ra⟩ := rr.x.lst s
    have hd' : (intsD l).map (fun ns => D.lst ((sortI ns).map .int)) = some d := hd
    cases q : intsD l with
    | none => rw [q] at hd'; cases hd'
    | some ns =>
      rw [q] at hd'
      cases hd'
      have e := ra.intsOf q
      subst e
      refine ⟨a, ns, rfl, SqL.of ha, fun ns' q hp hs hq => ?_⟩
      have e2 : ns' = sortI ns := sorted_uniq hs (sortI_sorted ns) (hp.trans (sortI_perm ns).symm)
      subst e2
      obtain ⟨gr, rz⟩ := Rep.newL s hq (rep_ints (p := p) (G := G) (sortI ns))
      exact k _ _ _ gr rz
theorem se_sorted (hc : X.calm = true) (hm : X.mg "sorted" = none) (hg : Gl X "sorted") (ha : SA X O true [e] fs) (he : starEach [e] X.env = (false, eval e X.env) :: starEach [] X.env := by rfl) (hpl : (backTo pos (starEach [] X.env)).any (·.1) = false := by rfl) : SE X O false (.Call (.Name "sorted" q) [e] [] pos) (eCall dSorted fs) :=
  se_callB cr_sortedI cs_sorted hg hm (by decide +kernel) ha (by decide) (by decide) he hpl
end
end Fc

/-! Fc, part M: working out what bodies compute. -/
namespace Fc
open PySem L2

/-- m runs from w, and its end is as Q says -/
def wp {α : Type} (m : M α) (Q : α → Dw → Prop) (w : Dw) : Prop := ∃ a w', m w = some (a, w') ∧ Q a w'
section
variable {α β : Type} {Q : α → Dw → Prop} {R : β → Dw → Prop} {w : Dw}
theorem wp_pure (a : α) : wp (pure a) Q w = Q a w := propext ⟨fun ⟨b, w', h, q⟩ => by
  obtain ⟨rfl, rfl⟩ := pure_some h
  exact q, fun q => ⟨a, w, rfl, q⟩⟩
theorem wp_bind (m : M α) (f : α → M β) : wp (m >>= f) R w = wp m (fun a => wp (f a) R) w := propext ⟨fun ⟨b, w', h, q⟩ => by
  obtain ⟨a, w1, h1, h2⟩ := bind_some h
  exact ⟨a, w1, h1, b, w', h2, q⟩, fun ⟨a, w1, h1, b, w', h2, q⟩ => ⟨b, w', by
    show (m w).bind (fun p => f p.1 p.2) = _
    rw [h1]
    exact h2, q⟩⟩
theorem liftO_pure (a : α) : liftO (some a) = (pure a : M α) := rfl
theorem wp_liftO (a : α) : wp (liftO (some a)) Q w = Q a w := wp_pure a
theorem wp_mono {Q' : α → Dw → Prop} {m : M α} (h : wp m Q w) (k : ∀ a w', Q a w' → Q' a w') : wp m Q' w := let ⟨a, w', h1, q⟩ := h; ⟨a, w', h1, k a w' q⟩
theorem wp_next {m : Int} {Q : D → Dw → Prop} (hm : 0 < m ∧ m < 1073741824) (h : ∀ k w', 0 ≤ k → k < m → Q (.int k) w') : wp (nextF [.drw, .int m]) Q w := by
  refine ⟨.int (nextW m w).1, (nextW m w).2, ?_, ?_⟩
  · show (if 0 < m ∧ m < 1073741824 then some _ else none) = _
    rw [if_pos hm]
  · obtain ⟨h1, h2⟩ := nextW_lt (w := w) hm.1
    exact h _ _ h1 h2
theorem wp_ite {c : Prop} [Decidable c] {m n : M α} : wp (if c then m else n) Q w = if c then wp m Q w else wp n Q w := by
  split <;> rfl
end

/-! ### small facts that simp uses -/
theorem eVar_at {i : Nat} {δ : Env} {d : D} (h : δ[i]? = some (some d)) : eVar i δ = pure d := by
  have e : eVar i δ = (match δ[i]? with | some (some d) => pure d | _ => fail) := rfl
  rw [e, h]
theorem eVar_zero (d : D) (δ : Env) : eVar 0 (some d :: δ) = pure d := rfl
theorem eVar_succ (i : Nat) (o : Option D) (δ : Env) : eVar (i + 1) (o :: δ) = eVar i δ := rfl
theorem dEq_int (a b : Int) : dEq (.int a) (.int b) = some (.bl (decide (a = b))) := by
  show (if (D.int a).sh = true ∧ (D.int b).sh = true then some (D.bl ((D.int a).eqv (.int b))) else none) = _
  have h : ∀ x : Int, (D.int x).sh = true := fun x => rfl
  rw [if_pos ⟨h a, h b⟩]
  show some (D.bl (a == b)) = _
  rw [Bool.beq_eq_decide_eq]
theorem dNe_int (a b : Int) : dNe (.int a) (.int b) = some (.bl (!decide (a = b))) := by
  show (if (D.int a).sh = true ∧ (D.int b).sh = true then some (D.bl (!(D.int a).eqv (.int b))) else none) = _
  have h : ∀ x : Int, (D.int x).sh = true := fun x => rfl
  rw [if_pos ⟨h a, h b⟩]
  show some (D.bl (!(a == b))) = _
  rw [Bool.beq_eq_decide_eq]
end Fc
namespace Fc
open PySem L2
theorem pb {α β : Type} (a : α) (f : α → M β) : (pure a >>= f) = f a := by
  funext w
  exact rfl
theorem bb {α β γ : Type} (m : M α) (f : α → M β) (g : β → M γ) : ((m >>= f) >>= g) = (m >>= fun a => f a >>= g) := by
  funext w
  show ((m w).bind fun p => f p.1 p.2).bind (fun p => g p.1 p.2) = (m w).bind fun p => ((f p.1 p.2).bind fun q => g q.1 q.2)
  cases m w <;> rfl
/-- the end of a body -/
def endF (p : Out × Env) : M D := match p.1 with
  | .rt d => pure d
  | .nx => pure .non
  | _ => fail
theorem bodyF_eq {n m : Nat} {F : F1} {ds : List D} (h : ds.length = n) : bodyF n m F ds = (F (ds.map some ++ List.replicate (m - ds.length) none) >>= endF) := by
  unfold bodyF
  rw [if_pos h]
  rfl
theorem bodyF_1 {m : Nat} {F : F1} {a : D} : bodyF 1 m F [a] = (F (some a :: List.replicate (m - 1) none) >>= endF) := rfl
theorem bodyF_2 {m : Nat} {F : F1} {a b : D} : bodyF 2 m F [a, b] = (F (some a :: some b :: List.replicate (m - 2) none) >>= endF) := rfl
theorem bodyF_3 {m : Nat} {F : F1} {a b c : D} : bodyF 3 m F [a, b, c] = (F (some a :: some b :: some c :: List.replicate (m - 3) none) >>= endF) := rfl
theorem bodyF_4 {m : Nat} {F : F1} {a b c d : D} : bodyF 4 m F [a, b, c, d] = (F (some a :: some b :: some c :: some d :: List.replicate (m - 4) none) >>= endF) := rfl
theorem bodyF_5 {m : Nat} {F : F1} {a b c d e : D} : bodyF 5 m F [a, b, c, d, e] = (F (some a :: some b :: some c :: some d :: some e :: List.replicate (m - 5) none) >>= endF) := rfl
theorem sSeq_eq (F F' : F1) (δ : Env) : sSeq F F' δ = (F δ >>= fun p => match p.1 with | .nx => F' p.2 | o => pure (o, p.2)) := rfl
theorem sSeq_nx {F F' : F1} {δ δ1 : Env} (h : F δ = pure (.nx, δ1)) : sSeq F F' δ = F' δ1 := by
  rw [sSeq_eq, h]
  rfl
theorem sSeq_rt {F F' : F1} {δ δ1 : Env} {d : D} (h : F δ = pure (.rt d, δ1)) : sSeq F F' δ = pure (.rt d, δ1) := by
  rw [sSeq_eq, h]
  rfl
theorem endF_rt (d : D) (δ : Env) : endF (.rt d, δ) = pure d := rfl
theorem endF_nx (δ : Env) : endF (.nx, δ) = pure .non := rfl
theorem set_zero {α : Type} (a b : α) (l : List α) : (a :: l).set 0 b = b :: l := rfl
theorem set_succ {α : Type} (a b : α) (n : Nat) (l : List α) : (a :: l).set (n + 1) b = a :: l.set n b := rfl
theorem if_tt {α : Type} (a b : α) : (if true = true then a else b) = a := rfl
/-! statements in a row, by equations -/
section
variable {F F' A C : F1} {δ δ1 δ2 : Env} {d : D} {r : M D} {g : Out × Env → M D} {c : Env → M Bool} {b : Bool}
theorem q_seq (h : F δ = pure (.nx, δ1)) (k : (F' δ1 >>= g) = r) : (sSeq F F' δ >>= g) = r := by
  rw [sSeq_nx h]
  exact k
theorem q_ret (h : F δ = pure (.rt d, δ1)) (k : g (.rt d, δ1) = r) : (sSeq F F' δ >>= g) = r := by
  rw [sSeq_rt h]
  exact k
theorem q_end (h : F δ = pure (.rt d, δ1)) (k : g (.rt d, δ1) = r) : (F δ >>= g) = r := by
  rw [h]
  exact k
theorem sIf_t (h : c δ = pure true) : sIf c A C δ = A δ := by
  show (c δ >>= fun k => if k = true then A δ else C δ) = _
  rw [h]
  rfl
theorem sIf_f (h : c δ = pure false) : sIf c A C δ = C δ := by
  show (c δ >>= fun k => if k = true then A δ else C δ) = _
  rw [h]
  rfl
theorem sIf_b (h : c δ = pure b) : sIf c A C δ = if b = true then A δ else C δ := by
  show (c δ >>= fun k => if k = true then A δ else C δ) = _
  rw [h]
  rfl
end
/-! loops -/
section
variable {T : Tg} {F : F1} {t : Env → M Bool} {f : Env → M D}
/-- every turn goes on -/
theorem forL_all (I : Env → Prop) : ∀ {ds : List D} {δ : Env}, I δ → (∀ d ∈ ds, ∀ δ, I δ → ∃ δ1 δ2, setT T d δ = some δ1 ∧ F δ1 = pure (.nx, δ2) ∧ I δ2) → ∃ δ', forL T F ds δ = pure (.nx, δ') ∧ I δ'
  | [], δ, h, _ => ⟨δ, rfl, h⟩
  | d :: ds, δ, h, k => by
    obtain ⟨δ1, δ2, h1, h2, h3⟩ := k d List.mem_cons_self δ h
    obtain ⟨δ', e, h4⟩ := forL_all I h3 fun d' hd => k d' (List.mem_cons_of_mem _ hd)
    refine ⟨δ', ?_, h4⟩
    show (liftO (setT T d δ) >>= fun δ1 => F δ1 >>= _) = _
    rw [h1, liftO_pure, pb, h2]
    exact e
/-- a search: the first that P takes is handed back by r -/
theorem forL_find (I : Env → Prop) (P : D → Bool) (r : D → D) : ∀ {ds : List D} {δ : Env}, I δ → (∀ d ∈ ds, ∀ δ, I δ → ∃ δ1 δ2, setT T d δ = some δ1 ∧ ((P d = true ∧ F δ1 = pure (.rt (r d), δ2)) ∨ (P d = false ∧ F δ1 = pure (.nx, δ2) ∧ I δ2))) →
    (∃ d δ', ds.find? P = some d ∧ forL T F ds δ = pure (.rt (r d), δ')) ∨ (∃ δ', ds.find? P = none ∧ forL T F ds δ = pure (.nx, δ') ∧ I δ')
  | [], δ, h, _ => .inr ⟨δ, rfl, rfl, h⟩
  | d :: ds, δ, h, k => by
    obtain ⟨δ1, δ2, h1, h2⟩ := k d List.mem_cons_self δ h
    have e0 : forL T F (d :: ds) δ = (liftO (setT T d δ) >>= fun δ1 => F δ1 >>= fun p => match p.1 with
      | .nx => forL T F ds p.2
      | .ct => forL T F ds p.2
      | .bk => pure (.nx, p.2)
      | .rt d => pure (.rt d, p.2)
      | .ro d => pure (.ro d, p.2)) := rfl
    rw [e0, h1, liftO_pure, pb]
    rcases h2 with ⟨hp, h2⟩ | ⟨hp, h2, h3⟩
    · exact .inl ⟨d, δ2, by rw [List.find?_cons, hp], by rw [h2]; rfl⟩
    · rw [h2, List.find?_cons, hp]
      exact forL_find I P r h3 fun d' hd => k d' (List.mem_cons_of_mem _ hd)
/-- a loop that carries a state s -/
theorem forL_fold {σ : Type} (I : σ → Env → Prop) (step : σ → D → σ) : ∀ {ds : List D} {δ : Env} {s : σ}, I s δ → (∀ d ∈ ds, ∀ s δ, I s δ → ∃ δ1 δ2, setT T d δ = some δ1 ∧ (F δ1 = pure (.nx, δ2) ∨ F δ1 = pure (.ct, δ2)) ∧ I (step s d) δ2) → ∃ δ', forL T F ds δ = pure (.nx, δ') ∧ I (ds.foldl step s) δ'
  | [], δ, s, h, _ => ⟨δ, rfl, h⟩
  | d :: ds, δ, s, h, k => by
    obtain ⟨δ1, δ2, h1, h2, h3⟩ := k d List.mem_cons_self s δ h
    obtain ⟨δ', e, h4⟩ := forL_fold I step h3 fun d' hd => k d' (List.mem_cons_of_mem _ hd)
    refine ⟨δ', ?_, h4⟩
    have e0 : forL T F (d :: ds) δ = (liftO (setT T d δ) >>= fun δ1 => F δ1 >>= fun p => match p.1 with
      | .nx => forL T F ds p.2
      | .ct => forL T F ds p.2
      | .bk => pure (.nx, p.2)
      | .rt d => pure (.rt d, p.2)
      | .ro d => pure (.ro d, p.2)) := rfl
    rw [e0, h1, liftO_pure, pb]
    rcases h2 with h2 | h2
    · rw [h2]
      exact e
    · rw [h2]
      exact e
/-- a comprehension: the items that q takes, by v -/
theorem lcL_pure {δ : Env} (q : D → Bool) (v : D → D) : ∀ {ds : List D}, (∀ d ∈ ds, ∃ δ1, setT T d δ = some δ1 ∧ t δ1 = pure (q d) ∧ (q d = true → f δ1 = pure (v d))) → lcL T t f δ ds = pure ((ds.filter q).map v)
  | [], _ => rfl
  | d :: ds, h => by
    obtain ⟨δ1, h1, h2, h3⟩ := h d List.mem_cons_self
    have ih := lcL_pure q v (ds := ds) fun d' hd => h d' (List.mem_cons_of_mem _ hd)
    have e0 : lcL T t f δ (d :: ds) = (liftO (setT T d δ) >>= fun δ1 => t δ1 >>= fun k => if k = true then f δ1 >>= fun y => lcL T t f δ ds >>= fun ys => pure (y :: ys) else lcL T t f δ ds) := rfl
    rw [e0, h1, liftO_pure, pb, h2, pb, List.filter_cons]
    cases hq : q d with
    | true =>
      rw [if_pos rfl, if_pos rfl, h3 hq, pb, ih, pb]
      rfl
    | false =>
      rw [if_neg Bool.false_ne_true, if_neg Bool.false_ne_true]
      exact ih
theorem lcL_map {δ : Env} (v : D → D) {ds : List D} (h : ∀ d ∈ ds, ∃ δ1, setT T d δ = some δ1 ∧ f δ1 = pure (v d)) : lcL T tYesF f δ ds = pure (ds.map v) := by
  rw [lcL_pure (t := tYesF) (fun _ => true) v (fun d hd => let ⟨δ1, h1, h2⟩ := h d hd; ⟨δ1, h1, rfl, fun _ => h2⟩), List.filter_eq_self.mpr fun _ _ => rfl]
end
/-! ### lists of numbers -/
def zl (l : List Int) : List D := l.map D.int
theorem ints_len (l : List Int) : (zl l).length = l.length := List.length_map _
theorem ints_cut (l : List Int) (lo hi : Option Int) : cutD (zl l) lo hi = zl (cutD l lo hi) := by
  unfold cutD zl
  rw [List.length_map, List.map_take, List.map_drop]
theorem ints_at (l : List Int) (i : Int) : atI (zl l) i = (atI l i).map D.int := by
  unfold atI zl
  rw [List.length_map]
  cases ixN l.length i with
  | none => rfl
  | some j => simp
theorem ints_rep (l : List Int) (k : Nat) : (List.replicate k (zl l)).flatten = zl (List.replicate k l).flatten := by
  unfold zl
  rw [List.map_flatten, List.map_replicate]
theorem ints_app (l m : List Int) : zl l ++ zl m = zl (l ++ m) := by
  unfold zl
  rw [List.map_append]
theorem pds_ints : ∀ l : List Int, D.pds (zl l) = l.map PyData.int
  | [] => rfl
  | x :: l => by
    show D.pd (.int x) :: D.pds (zl l) = _
    rw [pds_ints l]
    rfl
theorem dats_ints : ∀ l : List Int, D.dats (zl l) = true
  | [] => rfl
  | x :: l => by
    show (D.dat (.int x) && D.dats (zl l)) = true
    rw [dats_ints l]
    rfl
theorem lay_ints : ∀ l : List Int, PyData.canLayAll0 (l.map PyData.int) = true
  | [] => rfl
  | x :: l => by
    show (PyData.canLay0 (.int x) && PyData.canLayAll0 (l.map PyData.int)) = true
    rw [lay_ints l]
    rfl
theorem depth_ints : ∀ l : List Int, PyData.depthAll (l.map PyData.int) = 0
  | [] => rfl
  | x :: l => by
    show max (PyData.depth (.int x)) (PyData.depthAll (l.map PyData.int)) = 0
    rw [depth_ints l]
    rfl
theorem sh_ints (l : List Int) : (D.tup (zl l)).sh = true := by
  show (D.dats (zl l) && (PyData.canLayAll0 (D.pds (zl l)) && decide (PyData.depthAll (D.pds (zl l)) + 1 ≤ 64))) = true
  rw [dats_ints, pds_ints, lay_ints, depth_ints]
  rfl
theorem eqv_ints : ∀ l m : List Int, PyData.eqvAll (l.map PyData.int) (m.map PyData.int) = decide (l = m)
  | [], [] => rfl
  | [], y :: m => by simp [PyData.eqvAll]
  | x :: l, [] => by simp [PyData.eqvAll]
  | x :: l, y :: m => by
    rw [List.map_cons, List.map_cons, PyData.eqvAll, PyData.eqv, eqv_ints l m]
    by_cases h : x = y
    · subst h
      simp
    · simp [h]
theorem dEq_ints (l m : List Int) : dEq (.tup (zl l)) (.tup (zl m)) = some (.bl (decide (l = m))) := by
  unfold dEq
  rw [if_pos ⟨sh_ints l, sh_ints m⟩]
  show some (D.bl (PyData.eqv (.tuple (D.pds (zl l))) (.tuple (D.pds (zl m))))) = _
  rw [PyData.eqv, pds_ints, pds_ints, eqv_ints]
theorem if_ff {α : Type} (a b : α) : (if false = true then a else b) = b := rfl
theorem isTy_int_non  : isTy "int" .non = some false := by show kitB "NoneType" "int" = _; decide +kernel
theorem isTy_int_bl (b : Bool) : isTy "int" (.bl b) = some true := by show kitB "bool" "int" = _; decide +kernel
theorem isTy_int_int (i : Int) : isTy "int" (.int i) = some true := by show kitB "int" "int" = _; decide +kernel
theorem isTy_int_str (x : Str) : isTy "int" (.str x) = some false := by show kitB "str" "int" = _; decide +kernel
theorem isTy_int_tup (l : List D) : isTy "int" (.tup l) = some false := by show kitB "tuple" "int" = _; decide +kernel
theorem isTy_int_lst (l : List D) : isTy "int" (.lst l) = some false := by show kitB "list" "int" = _; decide +kernel
theorem isTy_bool_non  : isTy "bool" .non = some false := by show kitB "NoneType" "bool" = _; decide +kernel
theorem isTy_bool_bl (b : Bool) : isTy "bool" (.bl b) = some true := by show kitB "bool" "bool" = _; decide +kernel
theorem isTy_bool_int (i : Int) : isTy "bool" (.int i) = some false := by show kitB "int" "bool" = _; decide +kernel
theorem isTy_bool_str (x : Str) : isTy "bool" (.str x) = some false := by show kitB "str" "bool" = _; decide +kernel
theorem isTy_bool_tup (l : List D) : isTy "bool" (.tup l) = some false := by show kitB "tuple" "bool" = _; decide +kernel
theorem isTy_bool_lst (l : List D) : isTy "bool" (.lst l) = some false := by show kitB "list" "bool" = _; decide +kernel
theorem isTy_tuple_non  : isTy "tuple" .non = some false := by show kitB "NoneType" "tuple" = _; decide +kernel
theorem isTy_tuple_bl (b : Bool) : isTy "tuple" (.bl b) = some false := by show kitB "bool" "tuple" = _; decide +kernel
theorem isTy_tuple_int (i : Int) : isTy "tuple" (.int i) = some false := by show kitB "int" "tuple" = _; decide +kernel
theorem isTy_tuple_str (x : Str) : isTy "tuple" (.str x) = some false := by show kitB "str" "tuple" = _; decide +kernel
theorem isTy_tuple_tup (l : List D) : isTy "tuple" (.tup l) = some true := by show kitB "tuple" "tuple" = _; decide +kernel
theorem isTy_tuple_lst (l : List D) : isTy "tuple" (.lst l) = some false := by show kitB "list" "tuple" = _; decide +kernel
theorem isTy_list_non  : isTy "list" .non = some false := by show kitB "NoneType" "list" = _; decide +kernel
theorem isTy_list_bl (b : Bool) : isTy "list" (.bl b) = some false := by show kitB "bool" "list" = _; decide +kernel
theorem isTy_list_int (i : Int) : isTy "list" (.int i) = some false := by show kitB "int" "list" = _; decide +kernel
theorem isTy_list_str (x : Str) : isTy "list" (.str x) = some false := by show kitB "str" "list" = _; decide +kernel
theorem isTy_list_tup (l : List D) : isTy "list" (.tup l) = some false := by show kitB "tuple" "list" = _; decide +kernel
theorem isTy_list_lst (l : List D) : isTy "list" (.lst l) = some true := by show kitB "list" "list" = _; decide +kernel
theorem isTy_str_non  : isTy "str" .non = some false := by show kitB "NoneType" "str" = _; decide +kernel
theorem isTy_str_bl (b : Bool) : isTy "str" (.bl b) = some false := by show kitB "bool" "str" = _; decide +kernel
theorem isTy_str_int (i : Int) : isTy "str" (.int i) = some false := by show kitB "int" "str" = _; decide +kernel
theorem isTy_str_str (x : Str) : isTy "str" (.str x) = some true := by show kitB "str" "str" = _; decide +kernel
theorem isTy_str_tup (l : List D) : isTy "str" (.tup l) = some false := by show kitB "tuple" "str" = _; decide +kernel
theorem isTy_str_lst (l : List D) : isTy "str" (.lst l) = some false := by show kitB "list" "str" = _; decide +kernel
theorem opt_bind_some {α β : Type} (a : α) (f : α → Option β) : (some a).bind f = f a := rfl
theorem opt_map_some {α β : Type} (a : α) (f : α → β) : (some a).map f = some (f a) := rfl
theorem pure_inj {α : Type} {a b : α} (h : a = b) : (pure a : M α) = pure b := by rw [h]
theorem andV_b (a : Bool) (m : M D) : (if a = true then m else pure (.bl false)) = if a = true then m else pure (.bl false) := rfl
theorem shB (b : Bool) : (D.bl b).sh = true := rfl
theorem at0 {α : Type} (a : α) (l : List α) : atI (a :: l) 0 = some a := by
  have : atI (a :: l) ((0 : Nat) : Int) = some a := atI_nat rfl
  exact this
theorem at1 {α : Type} (a b : α) (l : List α) : atI (a :: b :: l) 1 = some b := by
  have : atI (a :: b :: l) ((1 : Nat) : Int) = some b := atI_nat rfl
  exact this
theorem at2 {α : Type} (a b c : α) (l : List α) : atI (a :: b :: c :: l) 2 = some c := by
  have : atI (a :: b :: c :: l) ((2 : Nat) : Int) = some c := atI_nat rfl
  exact this
theorem dIx_tup (l : List D) (i : Int) : dIx (.tup l) (.int i) = atI l i := rfl
theorem dIx_lst (l : List D) (i : Int) : dIx (.lst l) (.int i) = atI l i := rfl

theorem dDiv_ok {i j : Int} (h : j ≠ 0) (h2 : j.natAbs < 1073741824) : dDiv (.int i) (.int j) = some (.int (i.fdiv j)) := by
  unfold dDiv
  exact if_pos ⟨h, h2⟩
theorem dMod_ok {i j : Int} (h : j ≠ 0) : dMod (.int i) (.int j) = some (.int (i.fmod j)) := by
  unfold dMod
  exact if_pos h
theorem dMul_okL {i j : Int} (h1 : -18446744073709551616 < i) (h2 : i < 18446744073709551616) : dMul (.int i) (.int j) = some (.int (i * j)) := by
  unfold dMul small64
  refine if_pos ?_
  have e : (2 : Int) ^ 64 = 18446744073709551616 := by decide
  rw [e, decide_eq_true h1, decide_eq_true h2]
  rfl
theorem dMul_okR {i j : Int} (h1 : -18446744073709551616 < j) (h2 : j < 18446744073709551616) : dMul (.int i) (.int j) = some (.int (i * j)) := by
  unfold dMul small64
  refine if_pos ?_
  have e : (2 : Int) ^ 64 = 18446744073709551616 := by decide
  rw [e, decide_eq_true h1, decide_eq_true h2]
  simp
theorem len_ok {α : Type} {n : Nat} {a b : M α} (h : n ≤ 100000) : (if n ≤ LIM then a else b) = a := if_pos h

theorem dRange1_ok {n : Int} (h1 : -1000000000 ≤ n) (h2 : n ≤ 1000000000) : dRange1 [.int n] = some (rangeD 0 n.toNat) := by
  unfold dRange1 BIG
  exact if_pos ⟨h1, h2⟩
theorem dRange2_ok {i n : Int} (h1 : -1000000000 ≤ i) (h2 : i ≤ 1000000000) (h3 : -1000000000 ≤ n) (h4 : n ≤ 1000000000) : dRange2 [.int i, .int n] = some (rangeD i (n - i).toNat) := by
  unfold dRange2 BIG
  exact if_pos ⟨h1, h2, h3, h4⟩
theorem dMul_tup {xs : List D} {k : Int} (h1 : -1000 ≤ k) (h2 : k ≤ 1000) (h3 : xs.length ≤ 1000) : dMul (.tup xs) (.int k) = some (.tup (List.replicate k.toNat xs).flatten) := by
  unfold dMul
  exact if_pos ⟨h1, h2, h3⟩
theorem dAdd_tup {xs ys : List D} (h : xs.length + ys.length ≤ 100000) : dAdd (.tup xs) (.tup ys) = some (.tup (xs ++ ys)) := by
  unfold dAdd
  exact if_pos h
theorem dAdd_int (i j : Int) : dAdd (.int i) (.int j) = some (.int (i + j)) := rfl
theorem q_for {T : Tg} {fs : Env → M (List D)} {F F' : F1} {δ : Env} {g : Out × Env → M D} {r : M D} {ds : List D} (h : fs δ = pure ds) (k : (forL T F ds δ >>= fun p => (match p.1 with | .nx => F' p.2 | o => pure (o, p.2)) >>= g) = r) : (sSeq (sFor T fs F) F' δ >>= g) = r := by
  rw [sSeq_eq, bb]
  have e : sFor T fs F δ = forL T F ds δ := by
    unfold sFor
    rw [h, pb]
  rw [e]
  exact k

theorem eLc_eq {own : List Nat} {T : Tg} {fs : Env → M (List D)} {t : Env → M Bool} {f : Env → M D} {δ : Env} {ds ys : List D} (h : fs δ = pure ds) (hl : ds.length ≤ 100000) (hc : lcL T t f (wipeD δ own) ds = pure ys) : eLc own T fs t f δ = pure (.lst ys) := by
  unfold eLc
  rw [h, pb]
  have e : (if ds.length ≤ LIM then (do let ys ← lcL T t f (wipeD δ own) ds; pure (D.lst ys)) else fail) = (do let ys ← lcL T t f (wipeD δ own) ds; pure (D.lst ys)) := if_pos hl
  rw [e, hc, pb]
theorem if_T {α : Type} (a b : α) : (if True then a else b) = a := if_pos trivial
theorem if_F {α : Type} (a b : α) : (if False then a else b) = b := if_neg id
theorem whileL_step {n : Nat} {c : Env → M Bool} {F : F1} {δ δ1 : Env} (h : c δ = pure true) (h1 : F δ = pure (.nx, δ1)) : whileL (n + 1) c F δ = whileL n c F δ1 := by
  have e : whileL (n + 1) c F δ = (c δ >>= fun k => if k = true then F δ >>= fun p => match p.1 with
    | .nx => whileL n c F p.2
    | .ct => whileL n c F p.2
    | .bk => pure (.nx, p.2)
    | .rt d => pure (.rt d, p.2)
    | .ro d => pure (.ro d, p.2) else pure (.nx, δ)) := rfl
  rw [e, h, pb, if_pos rfl, h1]
  rfl
theorem whileL_end {n : Nat} {c : Env → M Bool} {F : F1} {δ : Env} (h : c δ = pure false) : whileL (n + 1) c F δ = pure (.nx, δ) := by
  have e : whileL (n + 1) c F δ = (c δ >>= fun k => if k = true then F δ >>= fun p => match p.1 with
    | .nx => whileL n c F p.2
    | .ct => whileL n c F p.2
    | .bk => pure (.nx, p.2)
    | .rt d => pure (.rt d, p.2)
    | .ro d => pure (.ro d, p.2) else pure (.nx, δ)) := rfl
  rw [e, h]
  rfl
/-- two lists of numbers in a pair -/
def calD (h t : List Int) : D := .tup [.tup (zl h), .tup (zl t)]
theorem sh_calD (h t : List Int) : (calD h t).sh = true := by
  show ((D.dats (zl h) && (D.dats (zl t) && true)) && ((PyData.canLayAll0 (D.pds (zl h)) && (PyData.canLayAll0 (D.pds (zl t)) && true)) && decide (max (PyData.depthAll (D.pds (zl h)) + 1) (max (PyData.depthAll (D.pds (zl t)) + 1) 0) + 1 ≤ 64))) = true
  rw [dats_ints, dats_ints, pds_ints, pds_ints, lay_ints, lay_ints, depth_ints, depth_ints]
  rfl
theorem eqv_calD (a b c d : List Int) : (calD a b).eqv (calD c d) = decide (a = c ∧ b = d) := by
  show (PyData.eqvAll (D.pds (zl a)) (D.pds (zl c)) && (PyData.eqvAll (D.pds (zl b)) (D.pds (zl d)) && true)) = _
  rw [pds_ints, pds_ints, pds_ints, pds_ints, eqv_ints, eqv_ints, Bool.and_true]
  simp
theorem dEq_cal (a b c d : List Int) : dEq (.tup [.tup (zl a), .tup (zl b)]) (.tup [.tup (zl c), .tup (zl d)]) = some (.bl (decide (a = c ∧ b = d))) := by
  unfold dEq
  rw [if_pos ⟨sh_calD a b, sh_calD c d⟩]
  show some (D.bl ((calD a b).eqv (calD c d))) = _
  rw [eqv_calD]

theorem asBs_map {α : Type} (f : α → Bool) : ∀ l : List α, asBs (l.map fun x => D.bl (f x)) = some (l.map f)
  | [] => rfl
  | x :: l => by
    rw [List.map_cons, asBs, asBs_map f l]
    rfl
theorem dAll_map {α : Type} (f : α → Bool) (l : List α) : dAll [.lst (l.map fun x => D.bl (f x))] = some (.bl (l.all f)) := by
  show (asBs (l.map fun x => D.bl (f x))).map (fun bs => D.bl (bs.all id)) = _
  rw [asBs_map]
  show some (D.bl ((l.map f).all id)) = _
  rw [List.all_map]
  rfl
theorem dAny_map {α : Type} (f : α → Bool) (l : List α) : dAny [.lst (l.map fun x => D.bl (f x))] = some (.bl (l.any f)) := by
  show (asBs (l.map fun x => D.bl (f x))).map (fun bs => D.bl (bs.any id)) = _
  rw [asBs_map]
  show some (D.bl ((l.map f).any id)) = _
  rw [List.any_map]
  rfl

theorem dEq_bl (a b : Bool) : dEq (.bl a) (.bl b) = some (.bl (decide (a = b))) := by cases a <;> cases b <;> rfl
theorem dNe_bl (a b : Bool) : dNe (.bl a) (.bl b) = some (.bl (!decide (a = b))) := by cases a <;> cases b <;> rfl
theorem isNon_int (i : Int) : (D.int i).isNon = false := rfl
theorem isNon_bl (i : Bool) : (D.bl i).isNon = false := rfl
theorem isNon_str (i : Str) : (D.str i).isNon = false := rfl
theorem isNon_tup (i : List D) : (D.tup i).isNon = false := rfl
theorem isNon_lst (i : List D) : (D.lst i).isNon = false := rfl
theorem isNon_non : D.non.isNon = true := rfl
theorem dIs_non (x : D) : dIs x .non = some (.bl x.isNon) := by cases x <;> rfl
theorem dIsNot_non (x : D) : dIsNot x .non = some (.bl (!x.isNon)) := by cases x <;> rfl
theorem dIs_bl (a b : Bool) : dIs (.bl a) (.bl b) = some (.bl (decide (a = b))) := rfl
theorem dIsNot_bl (a b : Bool) : dIsNot (.bl a) (.bl b) = some (.bl (!decide (a = b))) := rfl
theorem all_true {α : Type} (l : List α) : l.all (fun _ => true) = true := by simp
end Fc

set_option maxHeartbeats 1000000
/-! Calendars as pairs of lists: the shortest pair for a set of times is one. -/
namespace Cal
/-- the flag at a time -/
def val (h t : List Int) (i : Nat) : Int := if i < h.length then h.getD i 0 else t.getD ((i - h.length) % t.length) 0

/-! ### a list again and again -/
theorem rep_get (s : List Int) : ∀ (k i : Nat), i < k * s.length → ((List.replicate k s).flatten).getD i 0 = s.getD (i % s.length) 0
  | 0, i, h => by simp at h
  | k + 1, i, h => by
    rw [List.replicate_succ, List.flatten_cons]
    by_cases hi : i < s.length
    · rw [List.getD_eq_getElem?_getD, List.getElem?_append_left hi, ← List.getD_eq_getElem?_getD, Nat.mod_eq_of_lt hi]
    · have h1 : i - s.length < k * s.length := by
        rw [Nat.add_mul, Nat.one_mul] at h
        omega
      rw [List.getD_eq_getElem?_getD, List.getElem?_append_right (by omega), ← List.getD_eq_getElem?_getD, rep_get s k _ h1, Nat.mod_eq_sub_mod (show i ≥ s.length by omega)]
theorem rep_len (s : List Int) (k : Nat) : ((List.replicate k s).flatten).length = k * s.length := by
  induction k with
  | zero => simp
  | succ k ih => rw [List.replicate_succ, List.flatten_cons, List.length_append, ih, Nat.add_mul, Nat.one_mul, Nat.add_comm]
theorem ext_getD {l m : List Int} (hl : l.length = m.length) (h : ∀ i, i < l.length → l.getD i 0 = m.getD i 0) : l = m := by
  refine List.ext_getElem hl fun i h1 h2 => ?_
  have := h i h1
  rw [List.getD_eq_getElem?_getD, List.getD_eq_getElem?_getD, List.getElem?_eq_getElem h1, List.getElem?_eq_getElem h2] at this
  exact this
theorem take_getD (l : List Int) {n i : Nat} (h : i < n) : (l.take n).getD i 0 = l.getD i 0 := by
  rw [List.getD_eq_getElem?_getD, List.getD_eq_getElem?_getD, List.getElem?_take_of_lt h]
theorem drop_getD (l : List Int) (n i : Nat) : (l.drop n).getD i 0 = l.getD (n + i) 0 := by
  rw [List.getD_eq_getElem?_getD, List.getD_eq_getElem?_getD, List.getElem?_drop]

def rootAt (l : List Int) (k : Nat) : Bool := decide (l.length % k = 0) && decide (l = (List.replicate (l.length / k) (l.take k)).flatten)
def leastRoot (l : List Int) : List Int := match (List.range (l.length - 1)).find? fun i => rootAt l (i + 1) with
  | some i => l.take (i + 1)
  | none => l
theorem range_find_some {n i : Nat} {p : Nat → Bool} (h : (List.range n).find? p = some i) : p i = true ∧ i < n ∧ ∀ j, j < i → p j = false := by
  refine ⟨List.find?_some h, List.mem_range.mp (List.mem_of_find?_eq_some h), fun j hj => ?_⟩
  obtain ⟨_, as, bs, e, h3⟩ := List.find?_eq_some_iff_append.mp h
  have hn : i < n := List.mem_range.mp (List.mem_of_find?_eq_some h)
  have hlen : as.length = i := by
    have h1 : (List.range n)[as.length]? = some i := by rw [e]; simp
    rw [List.getElem?_range (by
      have : (List.range n).length = as.length + (bs.length + 1) := by rw [e]; simp
      rw [List.length_range] at this
      omega)] at h1
    exact Option.some.inj h1
  have hm : j ∈ as := by
    have h1 : (List.range n)[j]? = some j := List.getElem?_range (by omega)
    rw [e, List.getElem?_append_left (by omega)] at h1
    exact List.mem_of_getElem? h1
  simpa using h3 j hm
/-- what least root says: a divisor of the length, a root, and the least -/
theorem root_spec {l : List Int} (hl : l ≠ []) : ∃ L, leastRoot l = l.take L ∧ 0 < L ∧ L ≤ l.length ∧ (∀ i, i < l.length → l.getD i 0 = l.getD (i % L) 0) ∧ l.length % L = 0 ∧ ∀ k, 0 < k → k < L → rootAt l k = false := by
  have hn : 0 < l.length := List.length_pos_iff.mpr hl
  unfold leastRoot
  cases h : (List.range (l.length - 1)).find? fun i => rootAt l (i + 1) with
  | none =>
    refine ⟨l.length, (List.take_length).symm, hn, Nat.le_refl _, fun i hi => by rw [Nat.mod_eq_of_lt hi], Nat.mod_self _, fun k h1 h2 => ?_⟩
    have := List.find?_eq_none.mp h (k - 1) (List.mem_range.mpr (by omega))
    have e : k - 1 + 1 = k := by omega
    rw [e] at this
    simpa using this
  | some i =>
    obtain ⟨h1, h2, h3⟩ := range_find_some h
    unfold rootAt at h1
    rw [Bool.and_eq_true, decide_eq_true_eq, decide_eq_true_eq] at h1
    refine ⟨i + 1, rfl, by omega, by omega, fun j hj => ?_, h1.1, fun k h4 h5 => ?_⟩
    · have tl : (l.take (i + 1)).length = i + 1 := by rw [List.length_take]; omega
      have e := rep_get (l.take (i + 1)) (l.length / (i + 1)) j (by rw [tl, Nat.div_mul_cancel (Nat.dvd_of_mod_eq_zero h1.1)]; exact hj)
      rw [← h1.2, tl, take_getD _ (Nat.mod_lt _ (by omega))] at e
      exact e
    · have := h3 (k - 1) (by omega)
      have e : k - 1 + 1 = k := by omega
      rw [e] at this
      exact this
theorem root_of {l : List Int} {d : Nat} (hd : 0 < d) (hdv : l.length % d = 0) (h : ∀ i, i < l.length → l.getD i 0 = l.getD (i % d) 0) (hle : d ≤ l.length) : rootAt l d = true := by
  unfold rootAt
  rw [Bool.and_eq_true, decide_eq_true_eq, decide_eq_true_eq]
  refine ⟨hdv, ?_⟩
  have tl : (l.take d).length = d := by rw [List.length_take]; omega
  have hm : l.length / d * d = l.length := Nat.div_mul_cancel (Nat.dvd_of_mod_eq_zero hdv)
  refine ext_getD (by rw [rep_len, tl, hm]) fun i hi => ?_
  rw [rep_get _ _ _ (by rw [tl, hm]; exact hi), tl, take_getD _ (Nat.mod_lt _ hd)]
  exact h i hi

/-! ### periods -/
def Per (g : Nat → Int) (q : Nat) : Prop := ∀ i, g (i + q) = g i
theorem Per.mul {g : Nat → Int} {q : Nat} (h : Per g q) (i : Nat) : ∀ m, g (i + m * q) = g i
  | 0 => by rw [Nat.zero_mul]; rfl
  | m + 1 => by
    have e : i + (m + 1) * q = (i + m * q) + q := by rw [Nat.add_mul, Nat.one_mul]; omega
    rw [e, h, Per.mul h i m]
theorem Per.gcd {g : Nat → Int} (m n : Nat) : Per g m → Per g n → Per g (Nat.gcd m n) := by
  induction m, n using Nat.gcd.induction with
  | H0 n => intro _ h; rw [Nat.gcd_zero_left]; exact h
  | H1 m n hm ih =>
    intro h1 h2
    rw [Nat.gcd_rec]
    refine ih (fun i => ?_) h1
    have e : i + n % m + n / m * m = i + n := by
      have := Nat.mod_add_div n m
      rw [Nat.mul_comm] at this
      omega
    rw [← Per.mul h1 (i + n % m) (n / m), e, h2]
theorem Per.mod {g : Nat → Int} {q : Nat} (h : Per g q) (i : Nat) : g i = g (i % q) := by
  have e : i % q + i / q * q = i := by
    have := Nat.mod_add_div i q
    rw [Nat.mul_comm] at this
    omega
  rw [← Per.mul h (i % q) (i / q), e]

/-! ### the shortest pair -/
/-- the flag of the turn at a time that may lie in the head -/
def vt (n : Nat) (t : List Int) (i : Nat) : Int := t.getD (((i : Int) - n) % t.length).toNat 0
def trim (h t : List Int) : Nat → Nat
  | 0 => 0
  | i + 1 => if h.getD i 0 = vt h.length t i then trim h t i else i + 1
def calOf (h t : List Int) : List Int × List Int :=
  let r := leastRoot t
  let last := trim h r h.length
  let moved := (((last : Int) - h.length) % r.length).toNat
  (h.take last, r.drop moved ++ r.take moved)
theorem trim_le (h t : List Int) : ∀ n, trim h t n ≤ n
  | 0 => Nat.le_refl 0
  | n + 1 => by
    unfold trim
    split
    · have := trim_le h t n; omega
    · omega
theorem trim_eq (h t : List Int) : ∀ n i, trim h t n ≤ i → i < n → h.getD i 0 = vt h.length t i
  | 0, i, _, h2 => by omega
  | n + 1, i, h1, h2 => by
    unfold trim at h1
    split at h1
    · rename_i e
      by_cases hi : i = n
      · rw [hi]; exact e
      · exact trim_eq h t n i h1 (by omega)
    · omega
theorem trim_ne (h t : List Int) : ∀ n, 0 < trim h t n → h.getD (trim h t n - 1) 0 ≠ vt h.length t (trim h t n - 1)
  | 0, h0 => by simp [trim] at h0
  | n + 1, h0 => by
    unfold trim at h0 ⊢
    split
    · rename_i e
      rw [if_pos e] at h0
      exact trim_ne h t n h0
    · rename_i e
      exact e
theorem vt_per (n : Nat) (t : List Int) (i : Nat) : vt n t (i + t.length) = vt n t i := by
  unfold vt
  have e : (((i + t.length : Nat) : Int) - n) = ((i : Int) - n) + t.length := by omega
  rw [e, Int.add_emod_right]
theorem vt_high {n : Nat} {t : List Int} {i : Nat} (h : n ≤ i) : vt n t i = t.getD ((i - n) % t.length) 0 := by
  unfold vt
  have e : ((i : Int) - n) = ((i - n : Nat) : Int) := by omega
  rw [e, ← Int.natCast_emod]
  rfl
section
variable {h t : List Int} (ht : t ≠ [])
include ht
/-- the facts of the shortest pair: with L, N its lengths, f its flags -/
theorem calOf_spec : ∃ L N, 0 < L ∧ N ≤ h.length ∧ (calOf h t).1 = (List.range N).map (val h t) ∧ (calOf h t).2 = (List.range L).map (fun j => val h t (N + j)) ∧
    (∀ i, N ≤ i → val h t (i + L) = val h t i) ∧ (0 < N → val h t (N - 1 + L) ≠ val h t (N - 1)) ∧ (∀ q M, 0 < q → (∀ i, M ≤ i → val h t (i + q) = val h t i) → L ≤ q) := by
  obtain ⟨L, hr, hL, hLn, hget, hdv, hleast⟩ := root_spec ht
  have hn : 0 < t.length := List.length_pos_iff.mpr ht
  have rl : (leastRoot t).length = L := by rw [hr, List.length_take]; omega
  -- the flags behind the head
  have high : ∀ i, h.length ≤ i → val h t i = vt h.length (leastRoot t) i := fun i hi => by
    rw [vt_high hi, rl, hr, take_getD _ (Nat.mod_lt _ hL)]
    unfold val
    rw [if_neg (by omega), hget _ (Nat.mod_lt _ hn), Nat.mod_mod_of_dvd _ (Nat.dvd_of_mod_eq_zero hdv)]
  have all : ∀ i, trim h (leastRoot t) h.length ≤ i → val h t i = vt h.length (leastRoot t) i := fun i hi => by
    by_cases hh : i < h.length
    · unfold val
      rw [if_pos hh]
      exact trim_eq h _ h.length i hi hh
    · exact high i (by omega)
  have per : ∀ i, vt h.length (leastRoot t) (i + L) = vt h.length (leastRoot t) i := fun i => by
    have := vt_per h.length (leastRoot t) i
    rw [rl] at this
    exact this
  have hN := trim_le h (leastRoot t) h.length
  refine ⟨L, trim h (leastRoot t) h.length, hL, hN, ?_, ?_, fun i hi => ?_, fun h0 => ?_, fun q M hq hp => ?_⟩
  · refine ext_getD ?_ fun i hi => ?_
    · show (h.take _).length = _
      rw [List.length_take, List.length_map, List.length_range]
      omega
    · have hi' : i < trim h (leastRoot t) h.length := by
        have : (h.take (trim h (leastRoot t) h.length)).length = _ := List.length_take
        have h2 : i < (h.take (trim h (leastRoot t) h.length)).length := hi
        omega
      show (h.take _).getD i 0 = _
      rw [take_getD _ hi', List.getD_eq_getElem?_getD, List.getD_eq_getElem?_getD, List.getElem?_map, List.getElem?_range hi']
      show _ = (val h t i)
      unfold val
      rw [if_pos (by omega), List.getD_eq_getElem?_getD]
  · have hml : ((((trim h (leastRoot t) h.length : Nat) : Int) - h.length) % L).toNat < L := by
      have h1 := Int.emod_nonneg (((trim h (leastRoot t) h.length : Nat) : Int) - h.length) (by omega : (L : Int) ≠ 0)
      have h2 := Int.emod_lt_of_pos (((trim h (leastRoot t) h.length : Nat) : Int) - h.length) (by omega : (0 : Int) < L)
      omega
    have e2 : (calOf h t).2 = (leastRoot t).drop ((((trim h (leastRoot t) h.length : Nat) : Int) - h.length) % L).toNat ++ (leastRoot t).take ((((trim h (leastRoot t) h.length : Nat) : Int) - h.length) % L).toNat := by
      show (leastRoot t).drop ((((trim h (leastRoot t) h.length : Nat) : Int) - h.length) % (leastRoot t).length).toNat ++ (leastRoot t).take ((((trim h (leastRoot t) h.length : Nat) : Int) - h.length) % (leastRoot t).length).toNat = _
      rw [rl]
    rw [e2]
    generalize hm : ((((trim h (leastRoot t) h.length : Nat) : Int) - h.length) % L).toNat = m at hml ⊢
    have hmI : (m : Int) = (((trim h (leastRoot t) h.length : Nat) : Int) - h.length) % L := by
      have h1 := Int.emod_nonneg (((trim h (leastRoot t) h.length : Nat) : Int) - h.length) (by omega : (L : Int) ≠ 0)
      omega
    refine ext_getD ?_ fun i hi => ?_
    · rw [List.length_append, List.length_drop, List.length_take, List.length_map, List.length_range, rl]
      omega
    · have hi' : i < L := by
        rw [List.length_append, List.length_drop, List.length_take, rl] at hi
        omega
      have e3 : ((List.range L).map fun j => val h t (trim h (leastRoot t) h.length + j)).getD i 0 = val h t (trim h (leastRoot t) h.length + i) := by
        rw [List.getD_eq_getElem?_getD, List.getElem?_map, List.getElem?_range hi']
        rfl
      rw [e3, all _ (Nat.le_add_right _ _)]
      unfold vt
      rw [rl]
      have e4 : (((trim h (leastRoot t) h.length + i : Nat) : Int) - h.length) % L = ((m : Int) + i) % L := by
        have e5 : (((trim h (leastRoot t) h.length + i : Nat) : Int) - h.length) = (((trim h (leastRoot t) h.length : Nat) : Int) - h.length) + i := by omega
        rw [e5, Int.add_emod, ← hmI, ← Int.add_emod_emod, hmI, Int.emod_emod_of_dvd _ (Int.dvd_refl _)]
        simp [Int.add_emod]
      rw [e4]
      by_cases hw : m + i < L
      · have e6 : (((m : Int) + i) % L).toNat = m + i := by rw [Int.emod_eq_of_lt (by omega) (by omega)]; omega
        rw [e6, List.getD_eq_getElem?_getD, List.getElem?_append_left (by rw [List.length_drop, rl]; omega), ← List.getD_eq_getElem?_getD, drop_getD]
      · have e6 : (((m : Int) + i) % L).toNat = m + i - L := by
          have e7 : ((m : Int) + i) = ((m : Int) + i - L) + L := by omega
          rw [e7, Int.add_emod_right, Int.emod_eq_of_lt (by omega) (by omega)]
          omega
        rw [e6, List.getD_eq_getElem?_getD, List.getElem?_append_right (by rw [List.length_drop, rl]; omega), ← List.getD_eq_getElem?_getD, List.length_drop, rl]
        have e8 : i - (L - m) = m + i - L := by omega
        rw [e8, take_getD _ (by omega)]
  · rw [all _ (by omega), all _ hi, per]
  · have h1 : val h t (trim h (leastRoot t) h.length - 1) = h.getD (trim h (leastRoot t) h.length - 1) 0 := by
      unfold val
      rw [if_pos (by omega)]
    rw [h1, all _ (by omega), per]
    exact Ne.symm (trim_ne h _ _ h0)
  · -- a period of the flags is one of the turn
    have gper : Per (fun i => t.getD (i % t.length) 0) t.length := fun i => by
      show t.getD ((i + t.length) % t.length) 0 = _
      rw [Nat.add_mod_right]
    have gval : ∀ i, val h t (h.length + i) = t.getD (i % t.length) 0 := fun i => by
      unfold val
      rw [if_neg (by omega)]
      have : h.length + i - h.length = i := by omega
      rw [this]
    have gq : Per (fun i => t.getD (i % t.length) 0) q := fun i => by
      have e1 := Per.mul gper (i + q) M
      have e2 := Per.mul gper i M
      have e3 : i + q + M * t.length = (i + M * t.length) + q := by omega
      rw [e3] at e1
      have hM : M ≤ M * t.length := Nat.le_mul_of_pos_right M hn
      have e4 := hp (h.length + (i + M * t.length)) (by omega)
      have e5 : h.length + (i + M * t.length) + q = h.length + (i + M * t.length + q) := by omega
      rw [e5, gval, gval] at e4
      show t.getD ((i + q) % t.length) 0 = t.getD (i % t.length) 0
      have e1' : t.getD ((i + M * t.length + q) % t.length) 0 = t.getD ((i + q) % t.length) 0 := e1
      have e2' : t.getD ((i + M * t.length) % t.length) 0 = t.getD (i % t.length) 0 := e2
      rw [← e1', ← e2', e4]
    have gd := Per.gcd q t.length gq gper
    have hd0 : 0 < Nat.gcd q t.length := Nat.gcd_pos_of_pos_left _ hq
    have hdq : Nat.gcd q t.length ≤ q := Nat.le_of_dvd hq (Nat.gcd_dvd_left _ _)
    have hdn : Nat.gcd q t.length ≤ t.length := Nat.le_of_dvd hn (Nat.gcd_dvd_right _ _)
    have root : rootAt t (Nat.gcd q t.length) = true := root_of hd0 (Nat.mod_eq_zero_of_dvd (Nat.gcd_dvd_right _ _)) (fun i hi => by
      have e := Per.mod gd i
      have e' : t.getD (i % t.length) 0 = t.getD (i % Nat.gcd q t.length % t.length) 0 := e
      rw [Nat.mod_eq_of_lt hi, Nat.mod_eq_of_lt (Nat.lt_of_lt_of_le (Nat.mod_lt _ hd0) hdn)] at e'
      exact e') hdn
    by_cases hc : L ≤ Nat.gcd q t.length
    · omega
    · rw [hleast _ hd0 (by omega)] at root
      cases root
theorem calOf_ne : (calOf h t).2 ≠ [] := by
  obtain ⟨L, N, hL, _, _, e, _⟩ := calOf_spec (h := h) ht
  rw [e]
  intro z
  have := congrArg List.length z
  rw [List.length_map, List.length_range] at this
  have h0 : ([] : List Int).length = 0 := rfl
  omega
/-- the shortest pair tells the same set -/
theorem calOf_val (i : Nat) : val (calOf h t).1 (calOf h t).2 i = val h t i := by
  obtain ⟨L, N, hL, hN, e1, e2, hp, _, _⟩ := calOf_spec (h := h) ht
  rw [e1, e2]
  show (if i < ((List.range N).map (val h t)).length then ((List.range N).map (val h t)).getD i 0 else ((List.range L).map fun j => val h t (N + j)).getD ((i - ((List.range N).map (val h t)).length) % ((List.range L).map fun j => val h t (N + j)).length) 0) = _
  rw [List.length_map, List.length_range, List.length_map, List.length_range]
  by_cases hi : i < N
  · rw [if_pos hi, List.getD_eq_getElem?_getD, List.getElem?_map, List.getElem?_range hi]
    rfl
  · rw [if_neg hi, List.getD_eq_getElem?_getD, List.getElem?_map, List.getElem?_range (Nat.mod_lt _ hL)]
    show val h t (N + (i - N) % L) = _
    have key : ∀ m, val h t (N + (i - N) % L + m * L) = val h t (N + (i - N) % L) := by
      intro m
      induction m with
      | zero => rw [Nat.zero_mul]; rfl
      | succ m ih =>
        have e : N + (i - N) % L + (m + 1) * L = (N + (i - N) % L + m * L) + L := by rw [Nat.add_mul, Nat.one_mul]; omega
        rw [e, hp _ (by omega), ih]
    have e3 : N + (i - N) % L + (i - N) / L * L = i := by
      have := Nat.mod_add_div (i - N) L
      rw [Nat.mul_comm] at this
      omega
    rw [← key ((i - N) / L), e3]
end
/-- there is one shortest pair for each set -/
theorem calOf_uniq {h t h' t' : List Int} (ht : t ≠ []) (ht' : t' ≠ []) (e : ∀ i, val h t i = val h' t' i) : calOf h t = calOf h' t' := by
  obtain ⟨L, N, hL, hN, e1, e2, hp, hm, hl⟩ := calOf_spec (h := h) ht
  obtain ⟨L', N', hL', hN', e1', e2', hp', hm', hl'⟩ := calOf_spec (h := h') ht'
  have ev : val h t = val h' t' := funext e
  rw [ev] at e1 e2 hp hm hl
  have eL : L = L' := by
    have a := hl L' N' hL' hp'
    have b := hl' L N hL hp
    omega
  subst eL
  have eN : N = N' := by
    by_cases h1 : N < N'
    · exact absurd (hp (N' - 1) (by omega)) (hm' (by omega))
    · by_cases h2 : N' < N
      · exact absurd (hp' (N - 1) (by omega)) (hm (by omega))
      · omega
  subst eN
  rw [← e1'] at e1
  rw [← e2'] at e2
  exact Prod.ext e1 e2
theorem calOf_idem {h t : List Int} (ht : t ≠ []) : calOf (calOf h t).1 (calOf h t).2 = calOf h t := calOf_uniq (calOf_ne ht) ht (calOf_val ht)
end Cal

/-! Fc, part T: functions on data as functions on typed things. -/
namespace Fc
open PySem L2

/-- what y gives, x gives too, as P says -/
def Im {A B : Type} (x : M A) (y : M B) (P : B → A → Prop) : Prop := ∀ w b w', y w = some (b, w') → ∃ a, x w = some (a, w') ∧ P b a
section
variable {A B C E : Type} {x : M A} {y : M B} {P : B → A → Prop}
theorem Im.bind {k : A → M C} {l : B → M E} {Q : E → C → Prop} (h : Im x y P) (g : ∀ b a, P b a → Im (k a) (l b) Q) : Im (x >>= k) (y >>= l) Q := fun w e w' he => by
  obtain ⟨b, w1, h1, h2⟩ := bind_some he
  obtain ⟨a, h3, h4⟩ := h w b w1 h1
  obtain ⟨c, h5, h6⟩ := g b a h4 w1 e w' h2
  exact ⟨c, by show (x w).bind (fun p => k p.1 p.2) = _; rw [h3]; exact h5, h6⟩
theorem Im.pure {a : A} {b : B} (h : P b a) : Im (pure a) (pure b) P := fun w c w' hc => by
  obtain ⟨rfl, rfl⟩ := pure_some hc
  exact ⟨a, rfl, h⟩
theorem Im.mono {Q : B → A → Prop} (h : Im x y P) (g : ∀ b a, P b a → Q b a) : Im x y Q := fun w b w' hb => let ⟨a, h1, h2⟩ := h w b w' hb; ⟨a, h1, g b a h2⟩
theorem Im.fail : Im x (fail : M B) P := fun w b w' h => by cases h
theorem Im.ite {c : Prop} [Decidable c] {x' : M A} {y' : M B} (h1 : c → Im x y P) (h2 : ¬ c → Im x' y' P) : Im (if c then x else x') (if c then y else y') P := by
  by_cases h : c
  · rw [if_pos h, if_pos h]; exact h1 h
  · rw [if_neg h, if_neg h]; exact h2 h
theorem Im.lift {o : Option A} {b : B} (a : A) (h : o = some a) (hp : P b a) : Im (liftO o) (Pure.pure b) P := by
  rw [h]
  exact Im.pure hp
/-- only if c -/
def chk (c : Prop) [Decidable c] (a : A) : M A := if c then pure a else fail
theorem Im.chk {c : Prop} [Decidable c] {o : Option A} {b : B} (a : A) (h : c → o = some a) (hp : c → P b a) : Im (liftO o) (chk c b) P := by
  unfold Fc.chk
  by_cases hc : c
  · rw [if_pos hc]; exact Im.lift a (h hc) (hp hc)
  · rw [if_neg hc]; exact Im.fail
theorem chk_ok {c : Prop} [Decidable c] {a : A} (h : c) : chk c a = pure a := if_pos h
end

/-! ### patterns of what the names hold -/
abbrev Pat := List (Option D)
inductive Agr : Pat → Env → Prop
  | nil : Agr [] []
  | no {p : Pat} {δ : Env} (x : Option D) : Agr p δ → Agr (none :: p) (x :: δ)
  | at_ {p : Pat} {δ : Env} (d : D) : Agr p δ → Agr (some d :: p) (some d :: δ)
inductive PLe : Pat → Pat → Prop
  | nil : PLe [] []
  | no {q p : Pat} {x : Option D} : PLe q p → PLe (none :: q) (x :: p)
  | at_ {q p : Pat} {d : D} : PLe q p → PLe (some d :: q) (some d :: p)
theorem Agr.le {q p : Pat} {δ : Env} (h : PLe q p) (a : Agr p δ) : Agr q δ := by
  induction h generalizing δ with
  | nil => exact a
  | no _ ih => cases a with
    | no x a => exact .no _ (ih a)
    | at_ d a => exact .no _ (ih a)
  | at_ _ ih => cases a with
    | at_ d a => exact .at_ _ (ih a)
theorem Agr.set {p : Pat} {δ : Env} (a : Agr p δ) (i : Nat) (d : D) : Agr (p.set i (some d)) (δ.set i (some d)) := by
  induction a generalizing i with
  | nil => exact .nil
  | no x a ih => cases i with
    | zero => exact .at_ _ a
    | succ i => exact .no _ (ih i)
  | at_ e a ih => cases i with
    | zero => exact .at_ _ a
    | succ i => exact .at_ _ (ih i)
theorem Agr.wipe1 {p : Pat} {δ : Env} (a : Agr p δ) (i : Nat) : Agr (p.set i none) (δ.set i none) := by
  induction a generalizing i with
  | nil => exact .nil
  | no x a ih => cases i with
    | zero => exact .no _ a
    | succ i => exact .no _ (ih i)
  | at_ e a ih => cases i with
    | zero => exact .no _ a
    | succ i => exact .at_ _ (ih i)
def wipeP (p : Pat) : List Nat → Pat
  | [] => p
  | v :: vs => (wipeP p vs).set v none
theorem Agr.wipe {p : Pat} {δ : Env} (a : Agr p δ) : ∀ l : List Nat, Agr (wipeP p l) (wipeD δ l)
  | [] => a
  | v :: vs => (Agr.wipe a vs).wipe1 v
theorem Agr.get {p : Pat} {δ : Env} (a : Agr p δ) {i : Nat} {d : D} (h : p[i]? = some (some d)) : δ[i]? = some (some d) := by
  induction a generalizing i with
  | nil => simp at h
  | no x a ih => cases i with
    | zero => simp at h
    | succ i => simpa using ih (by simpa using h)
  | at_ e a ih => cases i with
    | zero => simpa using h
    | succ i => simpa using ih (by simpa using h)

/-! ### how typed things are data -/
section
variable {α β γ τ υ ζ : Type}
@[reducible] def eI (i : Int) : D := .int i
@[reducible] def eB (b : Bool) : D := .bl b
@[reducible] def eS (s : Str) : D := .str s
@[reducible] def eN (_ : Unit) : D := .non
@[reducible] def eX (_ : Unit) : D := .drw
@[reducible] def eD (d : D) : D := d
def eO (e : α → D) : Option α → D
  | none => .non
  | some a => e a
@[reducible] def eL (e : α → D) (l : List α) : D := .tup (l.map e)
@[reducible] def eA (e : α → D) (l : List α) : D := .lst (l.map e)
@[reducible] def eT2 (e1 : α → D) (e2 : β → D) (x : α × β) : D := .tup [e1 x.1, e2 x.2]
@[reducible] def eT3 (e1 : α → D) (e2 : β → D) (e3 : γ → D) (x : α × β × γ) : D := .tup [e1 x.1, e2 x.2.1, e3 x.2.2]
@[reducible] def eT4 (e1 : α → D) (e2 : β → D) (e3 : γ → D) (e4 : τ → D) (x : α × β × γ × τ) : D := .tup [e1 x.1, e2 x.2.1, e3 x.2.2.1, e4 x.2.2.2]
@[reducible] def eT5 (e1 : α → D) (e2 : β → D) (e3 : γ → D) (e4 : τ → D) (e5 : υ → D) (x : α × β × γ × τ × υ) : D := .tup [e1 x.1, e2 x.2.1, e3 x.2.2.1, e4 x.2.2.2.1, e5 x.2.2.2.2]
@[reducible] def eT6 (e1 : α → D) (e2 : β → D) (e3 : γ → D) (e4 : τ → D) (e5 : υ → D) (e6 : ζ → D) (x : α × β × γ × τ × υ × ζ) : D := .tup [e1 x.1, e2 x.2.1, e3 x.2.2.1, e4 x.2.2.2.1, e5 x.2.2.2.2.1, e6 x.2.2.2.2.2]
def eU (e1 : α → D) (e2 : β → D) : Sum α β → D
  | .inl a => e1 a
  | .inr b => e2 b
end

/-! ### judgements -/
def TE {α : Type} (p : Pat) (f : Env → M D) (e : α → D) (m : M α) : Prop := ∀ δ, Agr p δ → Im (f δ) m fun a d => d = e a
def TT (p : Pat) (f : Env → M Bool) (m : M Bool) : Prop := ∀ δ, Agr p δ → Im (f δ) m fun a d => d = a
def TAs {α : Type} (p : Pat) (f : Env → M (List D)) (e : α → D) (m : M (List α)) : Prop := ∀ δ, Agr p δ → Im (f δ) m fun a d => d = a.map e
def TO (p : Pat) (f : Env → M (Option Int)) (m : M (Option Int)) : Prop := ∀ δ, Agr p δ → Im (f δ) m fun a d => d = a
def TB {β : Type} (p : Pat) (F : F1) (m : M β) (P : β → Out × Env → Prop) : Prop := ∀ δ, Agr p δ → Im (F δ) m P
def TG {α : Type} (T : Tg) (e : α → D) (q : α → Pat → Pat) : Prop := ∀ a p δ, Agr p δ → ∃ δ', setT T (e a) δ = some δ' ∧ Agr (q a p) δ'
def O1 {α γ : Type} (op : D → Option D) (e1 : α → D) (e : γ → D) (g : α → M γ) : Prop := ∀ a, Im (liftO (op (e1 a))) (g a) fun c d => d = e c
def O2 {α β γ : Type} (op : D → D → Option D) (e1 : α → D) (e2 : β → D) (e : γ → D) (g : α → β → M γ) : Prop := ∀ a b, Im (liftO (op (e1 a) (e2 b))) (g a b) fun c d => d = e c
/-- calls of built-in functions -/
def C1 {α γ : Type} (op : List D → Option D) (e1 : α → D) (e : γ → D) (g : α → M γ) : Prop := ∀ a, Im (liftO (op [e1 a])) (g a) fun c d => d = e c
def C2 {α β γ : Type} (op : List D → Option D) (e1 : α → D) (e2 : β → D) (e : γ → D) (g : α → β → M γ) : Prop := ∀ a b, Im (liftO (op [e1 a, e2 b])) (g a b) fun c d => d = e c

section
variable {α β γ τ υ ζ ι : Type}
def b1 (g : α → M γ) (m : M α) : M γ := m >>= g
def b2 (g : α → β → M γ) (m : M α) (n : M β) : M γ := m >>= fun a => n >>= fun b => g a b
def b3 (g : α → β → γ → M τ) (m : M α) (n : M β) (o : M γ) : M τ := m >>= fun a => n >>= fun b => o >>= fun c => g a b c
def b4 (g : α → β → γ → τ → M υ) (m : M α) (n : M β) (o : M γ) (q : M τ) : M υ := m >>= fun a => n >>= fun b => o >>= fun c => q >>= fun d => g a b c d
def b5 (g : α → β → γ → τ → υ → M ζ) (m : M α) (n : M β) (o : M γ) (q : M τ) (r : M υ) : M ζ := m >>= fun a => n >>= fun b => o >>= fun c => q >>= fun d => r >>= fun e => g a b c d e
def b6 (g : α → β → γ → τ → υ → ζ → M ι) (m : M α) (n : M β) (o : M γ) (q : M τ) (r : M υ) (s : M ζ) : M ι := m >>= fun a => n >>= fun b => o >>= fun c => q >>= fun d => r >>= fun e => s >>= fun f => g a b c d e f
def ifM (t : M Bool) (m n : M α) : M α := t >>= fun b => if b = true then m else n
def andB (m n : M Bool) : M Bool := m >>= fun b => if b = true then n else pure false
def orB (m n : M Bool) : M Bool := m >>= fun b => if b = true then pure true else n
def notB (m : M Bool) : M Bool := m >>= fun b => pure (!b)
def chM (o1 : α → β → M Bool) (o2 : β → γ → M Bool) (m : M α) (n : M β) (o : M γ) : M Bool := m >>= fun a => n >>= fun b => o1 a b >>= fun k => if k = true then o >>= fun c => o2 b c else pure false
def consM (m : M α) (n : M (List α)) : M (List α) := m >>= fun a => n >>= fun l => pure (a :: l)
def getO : Option α → M α
  | some a => pure a
  | none => fail
variable {p : Pat} {e : α → D} {e1 : α → D} {e2 : β → D} {e3 : γ → D} {e4 : τ → D} {e5 : υ → D} {e6 : ζ → D} {e7 : ι → D}
  {f f1 f2 f3 f4 f5 f6 : Env → M D} {m1 : M α} {m2 : M β} {m3 : M γ} {m4 : M τ} {m5 : M υ} {m6 : M ζ}

theorem te_var {i : Nat} {a : α} (h : p[i]? = some (some (e a))) : TE p (eVar i) e (pure a) := fun δ A => by
  have h1 := A.get h
  rw [eVar_at h1]
  exact Im.pure rfl
theorem te_val {i : Nat} {a : α} (h : p[i]? = some (some (e a))) (hl : (e a).isL = false) : TE p (eVal i) e (pure a) := fun δ A => by
  have h1 := A.get h
  have e0 : eVal i δ = (match δ[i]? with | some (some d) => if d.isL = true then fail else pure d | _ => fail) := rfl
  rw [e0, h1]
  show Im (if (e a).isL = true then fail else pure (e a)) _ _
  rw [hl]
  exact Im.pure rfl
theorem te_c {d : D} {a : α} (h : d = e a) : TE p (eC d) e (pure a) := fun δ A => Im.pure h
theorem te_as {f : Env → M D} {e e' : α → D} {m : M α} (h : TE p f e m) (g : ∀ a, e a = e' a) : TE p f e' m := fun δ A => (h δ A).mono fun a d q => q.trans (g a)
theorem te_map {f : Env → M D} {e : α → D} {e' : β → D} {m : M α} (g : α → M β) (h : TE p f e m) (k : ∀ a, Im (pure (e a)) (g a) fun c d => d = e' c) : TE p f e' (b1 g m) := fun δ A => by
  have h2 : Im (f δ >>= pure) (m >>= g) fun c d => d = e' c := (h δ A).bind fun a d q => by
    rw [q]
    exact k a
  have : (f δ >>= pure) = f δ := by
    funext w
    show (f δ w).bind (fun p => some (p.1, p.2)) = _
    cases f δ w <;> rfl
  rw [this] at h2
  exact h2
theorem te_some {e : α → D} {m : M α} (h : TE p f e m) : TE p f (eO e) (b1 (fun a => pure (some a)) m) := te_map _ h fun a => Im.pure rfl
theorem te_get {e : α → D} {m : M (Option α)} (h : TE p f (eO e) m) : TE p f e (b1 getO m) := te_map _ h fun a => by
  cases a with
  | none => exact Im.fail
  | some a => exact Im.pure rfl
theorem te_none {e : α → D} : TE p (eC .non) (eO e) (pure none) := te_c rfl
theorem te_bin {op : D → D → Option D} {g : α → β → M γ} (o : O2 op e1 e2 e3 g) (h1 : TE p f1 e1 m1) (h2 : TE p f2 e2 m2) : TE p (eBin op f1 f2) e3 (b2 g m1 m2) := fun δ A =>
  (h1 δ A).bind fun a d q => (h2 δ A).bind fun b d' q' => by
    subst q q'
    exact o a b
theorem te_un {op : D → Option D} {g : α → M β} (o : O1 op e1 e2 g) (h1 : TE p f1 e1 m1) : TE p (eUn op f1) e2 (b1 g m1) := fun δ A =>
  (h1 δ A).bind fun a d q => by
    subst q
    exact o a
theorem te_call1 {op : List D → Option D} {g : α → M β} (o : C1 op e1 e2 g) (h1 : TE p f1 e1 m1) : TE p (eCall op (aCons f1 aNil)) e2 (b1 g m1) := fun δ A => by
  show Im ((f1 δ >>= fun x => pure [x]) >>= fun xs => liftO (op xs)) _ _
  rw [bb]
  exact (h1 δ A).bind fun a d q => by
    subst q
    exact o a
theorem te_call2 {op : List D → Option D} {g : α → β → M γ} (o : C2 op e1 e2 e3 g) (h1 : TE p f1 e1 m1) (h2 : TE p f2 e2 m2) : TE p (eCall op (aCons f1 (aCons f2 aNil))) e3 (b2 g m1 m2) := fun δ A => by
  show Im ((f1 δ >>= fun x => (f2 δ >>= fun y => pure [y]) >>= fun ys => pure (x :: ys)) >>= fun xs => liftO (op xs)) _ _
  simp only [bb, pb]
  exact (h1 δ A).bind fun a d q => (h2 δ A).bind fun b d' q' => by
    subst q q'
    exact o a b
/-! defs -/
def R0 {γ : Type} (F : List D → M D) (e : γ → D) (g : M γ) : Prop := Im (F []) g fun c d => d = e c
theorem te_def1 {F : List D → M D} {g : α → M β} (o : ∀ a, Im (F [e1 a]) (g a) fun c d => d = e2 c) (h1 : TE p f1 e1 m1) : TE p (eDef F (aCons f1 aNil)) e2 (b1 g m1) := fun δ A => by
  show Im ((f1 δ >>= fun x => pure [x]) >>= fun xs => F xs) _ _
  rw [bb]
  exact (h1 δ A).bind fun a d q => by
    subst q
    exact o a
theorem te_def2 {F : List D → M D} {g : α → β → M γ} (o : ∀ a b, Im (F [e1 a, e2 b]) (g a b) fun c d => d = e3 c) (h1 : TE p f1 e1 m1) (h2 : TE p f2 e2 m2) : TE p (eDef F (aCons f1 (aCons f2 aNil))) e3 (b2 g m1 m2) := fun δ A => by
  show Im ((f1 δ >>= fun x => (f2 δ >>= fun y => pure [y]) >>= fun ys => pure (x :: ys)) >>= fun xs => F xs) _ _
  simp only [bb, pb]
  exact (h1 δ A).bind fun a d q => (h2 δ A).bind fun b d' q' => by
    subst q q'
    exact o a b
theorem te_def3 {F : List D → M D} {g : α → β → γ → M τ} (o : ∀ a b c, Im (F [e1 a, e2 b, e3 c]) (g a b c) fun c d => d = e4 c) (h1 : TE p f1 e1 m1) (h2 : TE p f2 e2 m2) (h3 : TE p f3 e3 m3) : TE p (eDef F (aCons f1 (aCons f2 (aCons f3 aNil)))) e4 (b3 g m1 m2 m3) := fun δ A => by
  show Im ((f1 δ >>= fun x => (f2 δ >>= fun y => (f3 δ >>= fun z => pure [z]) >>= fun ys => pure (y :: ys)) >>= fun ys => pure (x :: ys)) >>= fun xs => F xs) _ _
  simp only [bb, pb]
  exact (h1 δ A).bind fun a d q => (h2 δ A).bind fun b d' q' => (h3 δ A).bind fun c d2 q2 => by
    subst q q' q2
    exact o a b c
theorem te_def4 {F : List D → M D} {g : α → β → γ → τ → M υ} (o : ∀ a b c x, Im (F [e1 a, e2 b, e3 c, e4 x]) (g a b c x) fun c d => d = e5 c) (h1 : TE p f1 e1 m1) (h2 : TE p f2 e2 m2) (h3 : TE p f3 e3 m3) (h4 : TE p f4 e4 m4) : TE p (eDef F (aCons f1 (aCons f2 (aCons f3 (aCons f4 aNil))))) e5 (b4 g m1 m2 m3 m4) := fun δ A => by
  show Im ((f1 δ >>= fun x => (f2 δ >>= fun y => (f3 δ >>= fun z => (f4 δ >>= fun z => pure [z]) >>= fun ys => pure (z :: ys)) >>= fun ys => pure (y :: ys)) >>= fun ys => pure (x :: ys)) >>= fun xs => F xs) _ _
  simp only [bb, pb]
  exact (h1 δ A).bind fun a d q => (h2 δ A).bind fun b d' q' => (h3 δ A).bind fun c d2 q2 => (h4 δ A).bind fun x d3 q3 => by
    subst q q' q2 q3
    exact o a b c x
theorem te_def5 {F : List D → M D} {g : α → β → γ → τ → υ → M ζ} (o : ∀ a b c x y, Im (F [e1 a, e2 b, e3 c, e4 x, e5 y]) (g a b c x y) fun c d => d = e6 c) (h1 : TE p f1 e1 m1) (h2 : TE p f2 e2 m2) (h3 : TE p f3 e3 m3) (h4 : TE p f4 e4 m4) (h5 : TE p f5 e5 m5) : TE p (eDef F (aCons f1 (aCons f2 (aCons f3 (aCons f4 (aCons f5 aNil)))))) e6 (b5 g m1 m2 m3 m4 m5) := fun δ A => by
  show Im ((f1 δ >>= fun x => (f2 δ >>= fun y => (f3 δ >>= fun z => (f4 δ >>= fun z => (f5 δ >>= fun z => pure [z]) >>= fun ys => pure (z :: ys)) >>= fun ys => pure (z :: ys)) >>= fun ys => pure (y :: ys)) >>= fun ys => pure (x :: ys)) >>= fun xs => F xs) _ _
  simp only [bb, pb]
  exact (h1 δ A).bind fun a d q => (h2 δ A).bind fun b d' q' => (h3 δ A).bind fun c d2 q2 => (h4 δ A).bind fun x d3 q3 => (h5 δ A).bind fun y d4 q4 => by
    subst q q' q2 q3 q4
    exact o a b c x y
theorem te_def6 {F : List D → M D} {g : α → β → γ → τ → υ → ζ → M ι} (o : ∀ a b c x y z, Im (F [e1 a, e2 b, e3 c, e4 x, e5 y, e6 z]) (g a b c x y z) fun c d => d = e7 c) (h1 : TE p f1 e1 m1) (h2 : TE p f2 e2 m2) (h3 : TE p f3 e3 m3) (h4 : TE p f4 e4 m4) (h5 : TE p f5 e5 m5) (h6 : TE p f6 e6 m6) : TE p (eDef F (aCons f1 (aCons f2 (aCons f3 (aCons f4 (aCons f5 (aCons f6 aNil))))))) e7 (b6 g m1 m2 m3 m4 m5 m6) := fun δ A => by
  show Im ((f1 δ >>= fun x => (f2 δ >>= fun y => (f3 δ >>= fun z => (f4 δ >>= fun z => (f5 δ >>= fun z => (f6 δ >>= fun z => pure [z]) >>= fun ys => pure (z :: ys)) >>= fun ys => pure (z :: ys)) >>= fun ys => pure (z :: ys)) >>= fun ys => pure (y :: ys)) >>= fun ys => pure (x :: ys)) >>= fun xs => F xs) _ _
  simp only [bb, pb]
  exact (h1 δ A).bind fun a d q => (h2 δ A).bind fun b d' q' => (h3 δ A).bind fun c d2 q2 => (h4 δ A).bind fun x d3 q3 => (h5 δ A).bind fun y d4 q4 => (h6 δ A).bind fun z d5 q5 => by
    subst q q' q2 q3 q4 q5
    exact o a b c x y z
/-! tuples and lists -/
theorem te_tup2 (h1 : TE p f1 e1 m1) (h2 : TE p f2 e2 m2) : TE p (eTup (aCons f1 (aCons f2 aNil))) (eT2 e1 e2) (b2 (fun a b => pure (a, b)) m1 m2) := fun δ A => by
  show Im ((f1 δ >>= fun x => (f2 δ >>= fun y => pure [y]) >>= fun ys => pure (x :: ys)) >>= fun xs => if xs.length ≤ LIM then pure (D.tup xs) else fail) _ _
  simp only [bb, pb]
  exact (h1 δ A).bind fun a d q => (h2 δ A).bind fun b d' q' => by
    subst q q'
    rw [if_pos (by show (2 : Nat) ≤ 100000; omega)]
    exact Im.pure rfl
theorem te_tup3 (h1 : TE p f1 e1 m1) (h2 : TE p f2 e2 m2) (h3 : TE p f3 e3 m3) : TE p (eTup (aCons f1 (aCons f2 (aCons f3 aNil)))) (eT3 e1 e2 e3) (b3 (fun a b c => pure (a, b, c)) m1 m2 m3) := fun δ A => by
  show Im ((f1 δ >>= fun x => (f2 δ >>= fun y => (f3 δ >>= fun z => pure [z]) >>= fun ys => pure (y :: ys)) >>= fun ys => pure (x :: ys)) >>= fun xs => if xs.length ≤ LIM then pure (D.tup xs) else fail) _ _
  simp only [bb, pb]
  exact (h1 δ A).bind fun a d q => (h2 δ A).bind fun b d' q' => (h3 δ A).bind fun c d2 q2 => by
    subst q q' q2
    rw [if_pos (by show (3 : Nat) ≤ 100000; omega)]
    exact Im.pure rfl
theorem te_tup4 (h1 : TE p f1 e1 m1) (h2 : TE p f2 e2 m2) (h3 : TE p f3 e3 m3) (h4 : TE p f4 e4 m4) : TE p (eTup (aCons f1 (aCons f2 (aCons f3 (aCons f4 aNil))))) (eT4 e1 e2 e3 e4) (b4 (fun a b c d => pure (a, b, c, d)) m1 m2 m3 m4) := fun δ A => by
  show Im ((f1 δ >>= fun x => (f2 δ >>= fun y => (f3 δ >>= fun z => (f4 δ >>= fun z => pure [z]) >>= fun ys => pure (z :: ys)) >>= fun ys => pure (y :: ys)) >>= fun ys => pure (x :: ys)) >>= fun xs => if xs.length ≤ LIM then pure (D.tup xs) else fail) _ _
  simp only [bb, pb]
  exact (h1 δ A).bind fun a d q => (h2 δ A).bind fun b d' q' => (h3 δ A).bind fun c d2 q2 => (h4 δ A).bind fun x d3 q3 => by
    subst q q' q2 q3
    rw [if_pos (by show (4 : Nat) ≤ 100000; omega)]
    exact Im.pure rfl
theorem te_tup5 (h1 : TE p f1 e1 m1) (h2 : TE p f2 e2 m2) (h3 : TE p f3 e3 m3) (h4 : TE p f4 e4 m4) (h5 : TE p f5 e5 m5) : TE p (eTup (aCons f1 (aCons f2 (aCons f3 (aCons f4 (aCons f5 aNil)))))) (eT5 e1 e2 e3 e4 e5) (b5 (fun a b c d e => pure (a, b, c, d, e)) m1 m2 m3 m4 m5) := fun δ A => by
  show Im ((f1 δ >>= fun x => (f2 δ >>= fun y => (f3 δ >>= fun z => (f4 δ >>= fun z => (f5 δ >>= fun z => pure [z]) >>= fun ys => pure (z :: ys)) >>= fun ys => pure (z :: ys)) >>= fun ys => pure (y :: ys)) >>= fun ys => pure (x :: ys)) >>= fun xs => if xs.length ≤ LIM then pure (D.tup xs) else fail) _ _
  simp only [bb, pb]
  exact (h1 δ A).bind fun a d q => (h2 δ A).bind fun b d' q' => (h3 δ A).bind fun c d2 q2 => (h4 δ A).bind fun x d3 q3 => (h5 δ A).bind fun y d4 q4 => by
    subst q q' q2 q3 q4
    rw [if_pos (by show (5 : Nat) ≤ 100000; omega)]
    exact Im.pure rfl
theorem te_tup6 (h1 : TE p f1 e1 m1) (h2 : TE p f2 e2 m2) (h3 : TE p f3 e3 m3) (h4 : TE p f4 e4 m4) (h5 : TE p f5 e5 m5) (h6 : TE p f6 e6 m6) : TE p (eTup (aCons f1 (aCons f2 (aCons f3 (aCons f4 (aCons f5 (aCons f6 aNil))))))) (eT6 e1 e2 e3 e4 e5 e6) (b6 (fun a b c d e f => pure (a, b, c, d, e, f)) m1 m2 m3 m4 m5 m6) := fun δ A => by
  show Im ((f1 δ >>= fun x => (f2 δ >>= fun y => (f3 δ >>= fun z => (f4 δ >>= fun z => (f5 δ >>= fun z => (f6 δ >>= fun z => pure [z]) >>= fun ys => pure (z :: ys)) >>= fun ys => pure (z :: ys)) >>= fun ys => pure (z :: ys)) >>= fun ys => pure (y :: ys)) >>= fun ys => pure (x :: ys)) >>= fun xs => if xs.length ≤ LIM then pure (D.tup xs) else fail) _ _
  simp only [bb, pb]
  exact (h1 δ A).bind fun a d q => (h2 δ A).bind fun b d' q' => (h3 δ A).bind fun c d2 q2 => (h4 δ A).bind fun x d3 q3 => (h5 δ A).bind fun y d4 q4 => (h6 δ A).bind fun z d5 q5 => by
    subst q q' q2 q3 q4 q5
    rw [if_pos (by show (6 : Nat) ≤ 100000; omega)]
    exact Im.pure rfl
theorem tas_nil : TAs p aNil e (pure []) := fun δ A => Im.pure rfl
theorem tas_cons {fs : Env → M (List D)} {m : M α} {n : M (List α)} (h : TE p f e m) (k : TAs p fs e n) : TAs p (aCons f fs) e (consM m n) := fun δ A =>
  (h δ A).bind fun a d q => (k δ A).bind fun l ds r => Im.pure (by rw [q, r]; rfl)
def limM (l : List α) : M (List α) := chk (l.length ≤ LIM) l
theorem te_tupL {fs : Env → M (List D)} {n : M (List α)} (k : TAs p fs e n) : TE p (eTup fs) (eL e) (b1 limM n) := fun δ A =>
  (k δ A).bind fun l ds r => by
    subst r
    unfold limM chk
    rw [List.length_map]
    exact Im.ite (fun _ => Im.pure rfl) fun _ => Im.fail
theorem te_lst {fs : Env → M (List D)} {n : M (List α)} (k : TAs p fs e n) : TE p (eLst fs) (eA e) (b1 limM n) := fun δ A =>
  (k δ A).bind fun l ds r => by
    subst r
    unfold limM chk
    rw [List.length_map]
    exact Im.ite (fun _ => Im.pure rfl) fun _ => Im.fail
/-! choices -/
theorem te_if {c : Env → M Bool} {t : M Bool} {m n : M α} (hc : TT p c t) (h1 : TE p f1 e m) (h2 : TE p f2 e n) : TE p (eIf c f1 f2) e (ifM t m n) := fun δ A =>
  (hc δ A).bind fun b b' q => by
    subst q
    exact Im.ite (fun _ => h1 δ A) fun _ => h2 δ A
theorem tt_b {m : M Bool} (h : TE p f eB m) : TT p (Fc.tB f) m := fun δ A => by
  have h2 : Im (f δ >>= fun x => liftO (asB x)) (m >>= pure) fun a d => d = a := (h δ A).bind fun a d q => by
    rw [q]
    exact Im.pure rfl
  have : (m >>= pure) = m := by
    funext w
    show (m w).bind (fun p => some (p.1, p.2)) = _
    cases m w <;> rfl
  rw [this] at h2
  exact h2
theorem tt_t {g : α → M Bool} {m : M α} (o : ∀ a, Im (liftO (dTru (e a))) (g a) fun c d => d = c) (h : TE p f e m) : TT p (tT f) (b1 g m) := fun δ A =>
  (h δ A).bind fun a d q => by
    subst q
    exact o a
theorem tt_and {s t : Env → M Bool} {m n : M Bool} (h1 : TT p s m) (h2 : TT p t n) : TT p (tAndF s t) (andB m n) := fun δ A =>
  (h1 δ A).bind fun b b' q => by
    subst q
    exact Im.ite (fun _ => h2 δ A) fun _ => Im.pure rfl
theorem tt_or {s t : Env → M Bool} {m n : M Bool} (h1 : TT p s m) (h2 : TT p t n) : TT p (tOrF s t) (orB m n) := fun δ A =>
  (h1 δ A).bind fun b b' q => by
    subst q
    exact Im.ite (fun _ => Im.pure rfl) fun _ => h2 δ A
theorem tt_not {s : Env → M Bool} {m : M Bool} (h1 : TT p s m) : TT p (tNotF s) (notB m) := fun δ A =>
  (h1 δ A).bind fun b b' q => by
    subst q
    exact Im.pure rfl
theorem te_and {m n : M Bool} (h1 : TE p f1 eB m) (h2 : TE p f2 eB n) : TE p (eAndV f1 f2) eB (andB m n) := fun δ A =>
  (h1 δ A).bind fun b b' q => by
    subst q
    show Im (if b = true then f2 δ else pure (.bl false)) _ _
    exact Im.ite (fun _ => h2 δ A) fun _ => Im.pure rfl
theorem te_or {m n : M Bool} (h1 : TE p f1 eB m) (h2 : TE p f2 eB n) : TE p (eOrV f1 f2) eB (orB m n) := fun δ A =>
  (h1 δ A).bind fun b b' q => by
    subst q
    show Im (if b = true then pure (.bl true) else f2 δ) _ _
    exact Im.ite (fun _ => Im.pure rfl) fun _ => h2 δ A
theorem te_not {g : α → M Bool} {m : M α} (o : ∀ a, Im (liftO (dTru (e a))) (g a) fun c d => d = c) (h : TE p f e m) : TE p (eNotT f) eB (notB (b1 g m)) := fun δ A => by
  unfold notB b1
  rw [bb]
  exact (h δ A).bind fun a d q => by
    subst q
    exact (o a).bind fun b b' r => by
      subst r
      exact Im.pure rfl
theorem te_ch {o1 o2 : D → D → Option D} {g1 : α → β → M Bool} {g2 : β → γ → M Bool} (q1 : O2 o1 e1 e2 eB g1) (q2 : O2 o2 e2 e3 eB g2) (h1 : TE p f1 e1 m1) (h2 : TE p f2 e2 m2) (h3 : TE p f3 e3 m3) : TE p (eChain o1 o2 f1 f2 f3) eB (chM g1 g2 m1 m2 m3) := fun δ A =>
  (h1 δ A).bind fun a d r => (h2 δ A).bind fun b d' r' => (by
    subst r r'
    exact (q1 a b).bind fun k z s => by
      subst s
      show Im (if k = true then f3 δ >>= fun u => liftO (o2 (e2 b) u) else pure (.bl false)) _ _
      exact Im.ite (fun _ => (h3 δ A).bind fun c u t => by
        subst t
        exact q2 b c) fun _ => Im.pure rfl)
/-! slices -/
theorem to_none : TO p oNone (pure none) := fun δ A => Im.pure rfl
theorem to_some {m : M Int} (h : TE p f eI m) : TO p (oSome f) (b1 (fun i => pure (some i)) m) := fun δ A =>
  (h δ A).bind fun i d q => by
    subst q
    exact Im.pure rfl
theorem cutD_map {lo hi : Option Int} (g : α → β) (l : List α) : cutD (l.map g) lo hi = (cutD l lo hi).map g := by
  unfold cutD
  rw [List.length_map, List.map_take, List.map_drop]
def yCut (l : List α) (lo hi : Option Int) : M (List α) := pure (cutD l lo hi)
theorem te_slL {lo hi : Env → M (Option Int)} {m : M (List α)} {n1 n2 : M (Option Int)} (h : TE p f (eL e) m) (h1 : TO p lo n1) (h2 : TO p hi n2) : TE p (eSl f lo hi) (eL e) (b3 yCut m n1 n2) := fun δ A =>
  (h δ A).bind fun l d q => (h1 δ A).bind fun i i' r => (h2 δ A).bind fun j j' s => by
    subst q r s
    exact Im.pure (by rw [cutD_map])
theorem te_slA {lo hi : Env → M (Option Int)} {m : M (List α)} {n1 n2 : M (Option Int)} (h : TE p f (eA e) m) (h1 : TO p lo n1) (h2 : TO p hi n2) : TE p (eSl f lo hi) (eA e) (b3 yCut m n1 n2) := fun δ A =>
  (h δ A).bind fun l d q => (h1 δ A).bind fun i i' r => (h2 δ A).bind fun j j' s => by
    subst q r s
    exact Im.pure (by rw [cutD_map])
/-! what is gone through -/
theorem ti_L {m : M (List α)} (h : TE p f (eL e) m) : TAs p (itSeq f) e m := fun δ A => by
  have h2 : Im (f δ >>= fun x => liftO (dItems x)) (m >>= pure) fun a d => d = a.map e := (h δ A).bind fun a d q => by
    rw [q]
    exact Im.pure rfl
  have : (m >>= pure) = m := by
    funext w
    show (m w).bind (fun p => some (p.1, p.2)) = _
    cases m w <;> rfl
  rw [this] at h2
  exact h2
theorem ti_A {m : M (List α)} (h : TE p f (eA e) m) : TAs p (itSeq f) e m := fun δ A => by
  have h2 : Im (f δ >>= fun x => liftO (dItems x)) (m >>= pure) fun a d => d = a.map e := (h δ A).bind fun a d q => by
    rw [q]
    exact Im.pure rfl
  have : (m >>= pure) = m := by
    funext w
    show (m w).bind (fun p => some (p.1, p.2)) = _
    cases m w <;> rfl
  rw [this] at h2
  exact h2
def rangeI (lo : Int) (n : Nat) : List Int := (List.range n).map fun (i : Nat) => lo + i
theorem rangeI_map (lo : Int) (n : Nat) : (rangeI lo n).map eI = rangeD lo n := by
  unfold rangeI rangeD
  rw [List.map_map]
  rfl
def yRange1 (n : Int) : M (List Int) := chk (-1000000000 ≤ n ∧ n ≤ 1000000000) (rangeI 0 n.toNat)
def yRange2 (i n : Int) : M (List Int) := chk (-1000000000 ≤ i ∧ i ≤ 1000000000 ∧ -1000000000 ≤ n ∧ n ≤ 1000000000) (rangeI i (n - i).toNat)
theorem ti_range1 {m : M Int} (h : TE p f eI m) : TAs p (itCall dRange1 (aCons f aNil)) eI (b1 yRange1 m) := fun δ A => by
  show Im ((f δ >>= fun x => pure [x]) >>= fun xs => liftO (dRange1 xs)) _ _
  rw [bb]
  exact (h δ A).bind fun i d q => by
    subst q
    exact Im.chk _ (fun hc => dRange1_ok hc.1 hc.2) fun _ => (rangeI_map _ _).symm
theorem ti_range2 {m n : M Int} (h : TE p f1 eI m) (k : TE p f2 eI n) : TAs p (itCall dRange2 (aCons f1 (aCons f2 aNil))) eI (b2 yRange2 m n) := fun δ A => by
  show Im ((f1 δ >>= fun x => (f2 δ >>= fun y => pure [y]) >>= fun ys => pure (x :: ys)) >>= fun xs => liftO (dRange2 xs)) _ _
  simp only [bb, pb]
  exact (h δ A).bind fun i d q => (k δ A).bind fun j d' q' => by
    subst q q'
    exact Im.chk _ (fun hc => dRange2_ok hc.1 hc.2.1 hc.2.2.1 hc.2.2.2) fun _ => (rangeI_map _ _).symm
def enumI (n : Nat) : List α → List (Int × α)
  | [] => []
  | d :: ds => ((n : Nat), d) :: enumI (n + 1) ds
theorem enumI_map (e : α → D) : ∀ (n : Nat) (l : List α), (enumI n l).map (eT2 eI e) = enumD n (l.map e)
  | _, [] => rfl
  | n, d :: l => by
    rw [enumI, List.map_cons, enumI_map e (n + 1) l]
    rfl
theorem ti_enumL {m : M (List α)} (h : TE p f (eL e) m) : TAs p (itCall dEnum (aCons f aNil)) (eT2 eI e) (b1 (fun l => pure (enumI 0 l)) m) := fun δ A => by
  show Im ((f δ >>= fun x => pure [x]) >>= fun xs => liftO (dEnum xs)) _ _
  rw [bb]
  exact (h δ A).bind fun i d q => by
    subst q
    exact Im.lift _ rfl (enumI_map _ _ _).symm
theorem ti_enumA {m : M (List α)} (h : TE p f (eA e) m) : TAs p (itCall dEnum (aCons f aNil)) (eT2 eI e) (b1 (fun l => pure (enumI 0 l)) m) := fun δ A => by
  show Im ((f δ >>= fun x => pure [x]) >>= fun xs => liftO (dEnum xs)) _ _
  rw [bb]
  exact (h δ A).bind fun i d q => by
    subst q
    exact Im.lift _ rfl (enumI_map _ _ _).symm
end
end Fc

/-! Fc, part U: operations and statements on typed things. -/
namespace Fc
open PySem L2
section
variable {α β γ τ υ ζ : Type}
/-! ### operations -/
def yAdd (a b : Int) : M Int := pure (a + b)
def ySub (a b : Int) : M Int := pure (a - b)
def yMul (a b : Int) : M Int := chk (small64 a b = true) (a * b)
def yDiv (a b : Int) : M Int := chk (b ≠ 0 ∧ b.natAbs < 1073741824) (a.fdiv b)
def yMod (a b : Int) : M Int := chk (b ≠ 0) (a.fmod b)
def yLt (a b : Int) : M Bool := pure (decide (a < b))
def yLe (a b : Int) : M Bool := pure (decide (a ≤ b))
def yGt (a b : Int) : M Bool := pure (decide (b < a))
def yGe (a b : Int) : M Bool := pure (decide (b ≤ a))
def yNeg (a : Int) : M Int := pure (-a)
def yAbs (a : Int) : M Int := pure (a.natAbs : Nat)
def yMax (a b : Int) : M Int := pure (max a b)
def yMin (a b : Int) : M Int := pure (min a b)
def yGcd (a b : Int) : M Int := pure (Nat.gcd a.natAbs b.natAbs : Nat)
def yCat (a b : List α) : M (List α) := chk (a.length + b.length ≤ 100000) (a ++ b)
def yCatS (a b : Str) : M Str := chk (a.length + b.length ≤ 100000) (a ++ b)
def yRep (a : List α) (k : Int) : M (List α) := chk (-1000 ≤ k ∧ k ≤ 1000 ∧ a.length ≤ 1000) (List.replicate k.toNat a).flatten
def yRepA (a : List α) (k : Int) : M (List α) := chk (-1000000 ≤ k ∧ k ≤ 1000000 ∧ a.length * k.toNat ≤ 100000) (List.replicate k.toNat a).flatten
def yEq [DecidableEq α] (a b : α) : M Bool := pure (decide (a = b))
def yNe [DecidableEq α] (a b : α) : M Bool := pure (!decide (a = b))
def yIx (a : List α) (i : Int) : M α := getO (atI a i)
def yLen (a : List α) : M Int := pure (a.length : Nat)
def ySum (a : List Int) : M Int := pure a.sum
def yMaxL (a : List Int) : M Int := getO a.max?
def yMinL (a : List Int) : M Int := getO a.min?
def yAny (a : List Bool) : M Bool := pure (a.any id)
def yAll (a : List Bool) : M Bool := pure (a.all id)
def yId (a : α) : M α := pure a
def yOfB (b : Bool) : M Int := pure (if b then 1 else 0)
def yIsN (a : Option α) (_ : Unit) : M Bool := pure a.isNone
def yNotN (a : Option α) (_ : Unit) : M Bool := pure (!a.isNone)
def yEqB (a b : Bool) : M Bool := pure (decide (a = b))
def yNeB (a b : Bool) : M Bool := pure (!decide (a = b))

theorem ty_add : O2 dAdd eI eI eI yAdd := fun a b => Im.lift _ rfl rfl
theorem ty_sub : O2 dSub eI eI eI ySub := fun a b => Im.lift _ rfl rfl
theorem ty_mul : O2 dMul eI eI eI yMul := fun a b => Im.chk _ (fun h => if_pos h) fun _ => rfl
theorem ty_div : O2 dDiv eI eI eI yDiv := fun a b => Im.chk _ (fun h => if_pos h) fun _ => rfl
theorem ty_mod : O2 dMod eI eI eI yMod := fun a b => Im.chk _ (fun h => if_pos h) fun _ => rfl
theorem ty_lt : O2 dLt eI eI eB yLt := fun a b => Im.lift _ rfl rfl
theorem ty_le : O2 dLe eI eI eB yLe := fun a b => Im.lift _ rfl rfl
theorem ty_gt : O2 dGt eI eI eB yGt := fun a b => Im.lift _ rfl rfl
theorem ty_ge : O2 dGe eI eI eB yGe := fun a b => Im.lift _ rfl rfl
theorem ty_neg : O1 dNeg eI eI yNeg := fun a => Im.lift _ rfl rfl
theorem ty_abs : C1 dAbs eI eI yAbs := fun a => Im.lift _ rfl (by
  show D.int (if a < 0 then -a else a) = .int _
  congr 1
  split <;> omega)
theorem ty_max : C2 dMax2 eI eI eI yMax := fun a b => Im.lift _ (dMax2_eq' a b) rfl
where dMax2_eq' (i j : Int) : dMax2 [.int i, .int j] = some (.int (max i j)) := by
        show some (D.int (if j > i then j else i)) = _
        congr 2
        split <;> omega
theorem ty_min : C2 dMin2 eI eI eI yMin := fun a b => Im.lift _ (dMin2_eq' a b) rfl
where dMin2_eq' (i j : Int) : dMin2 [.int i, .int j] = some (.int (min i j)) := by
        show some (D.int (if j < i then j else i)) = _
        congr 2
        split <;> omega
theorem ty_gcd : C2 dGcd eI eI eI yGcd := fun a b => Im.lift _ rfl rfl
theorem ty_catL {e : α → D} : O2 dAdd (eL e) (eL e) (eL e) yCat := fun a b => Im.chk _ (fun h => dAdd_tup (by rw [List.length_map, List.length_map]; exact h)) fun _ => by show _ = D.tup _; rw [List.map_append]
theorem ty_catA {e : α → D} : O2 dCat (eA e) (eA e) (eA e) yCat := fun a b => Im.chk _ (fun h => if_pos (by rw [List.length_map, List.length_map]; exact h)) fun _ => by show _ = D.lst _; rw [List.map_append]
theorem ty_catS : O2 dAdd eS eS eS yCatS := fun a b => Im.chk _ (fun h => if_pos h) fun _ => rfl
theorem ty_rep {e : α → D} : O2 dMul (eL e) eI (eL e) yRep := fun a k => Im.chk _ (fun h => dMul_tup h.1 h.2.1 (by rw [List.length_map]; exact h.2.2)) fun _ => by
  rw [← List.map_replicate, ← List.map_flatten]
theorem ty_repA {e : α → D} : O2 dRepL (eA e) eI (eA e) yRepA := fun a k => Im.chk _ (fun h => if_pos (by rw [List.length_map]; exact h)) fun _ => by
  rw [← List.map_replicate, ← List.map_flatten]
theorem atI_map (e : α → β) (l : List α) (i : Int) : atI (l.map e) i = (atI l i).map e := by
  unfold atI
  rw [List.length_map]
  cases ixN l.length i with
  | none => rfl
  | some j => simp
theorem im_getO {o : Option α} {e : α → D} : Im (liftO (o.map e)) (getO o) fun c d => d = e c := by
  cases o with
  | none => exact Im.fail
  | some a => exact Im.lift _ rfl rfl
theorem ty_ixL {e : α → D} : O2 dIx (eL e) eI e yIx := fun a i => by
  show Im (liftO (atI (a.map e) i)) _ _
  rw [atI_map]
  exact im_getO
theorem ty_ixA {e : α → D} : O2 dIx (eA e) eI e yIx := fun a i => by
  show Im (liftO (atI (a.map e) i)) _ _
  rw [atI_map]
  exact im_getO
theorem ty_lenL {e : α → D} : C1 dLen (eL e) eI yLen := fun a => Im.lift _ rfl (by show D.int _ = .int _; rw [List.length_map])
theorem ty_lenA {e : α → D} : C1 dLen (eA e) eI yLen := fun a => Im.lift _ rfl (by show D.int _ = .int _; rw [List.length_map])
theorem ty_tupleA {e : α → D} : C1 dTuple (eA e) (eL e) yId := fun a => Im.lift _ rfl rfl
theorem ty_tupleL {e : α → D} : C1 dTuple (eL e) (eL e) yId := fun a => Im.lift _ rfl rfl
theorem ty_listA {e : α → D} : C1 dList (eA e) (eA e) yId := fun a => Im.lift _ rfl rfl
theorem ty_listL {e : α → D} : C1 dList (eL e) (eA e) yId := fun a => Im.lift _ rfl rfl
theorem ty_int : C1 dInt eI eI yId := fun a => Im.lift _ rfl rfl
theorem ty_intB : C1 dInt eB eI yOfB := fun a => Im.lift _ rfl rfl
theorem ty_sumL : C1 dSum (eL eI) eI ySum := fun a => Im.lift _ (by
  show (asIs (a.map D.int)).map (fun ns => D.int ns.sum) = _
  rw [asIs_map]
  rfl) rfl
theorem ty_sumA : C1 dSum (eA eI) eI ySum := fun a => Im.lift _ (by
  show (asIs (a.map D.int)).map (fun ns => D.int ns.sum) = _
  rw [asIs_map]
  rfl) rfl
theorem ty_maxA : C1 dMax1 (eA eI) eI yMaxL := fun a => by
  have : dMax1 [eA eI a] = (a.max?).map eI := by
    show (asIs (a.map D.int)).bind (fun ns => ns.max?.map D.int) = _
    rw [asIs_map]
    rfl
  rw [this]
  exact im_getO
theorem ty_minA : C1 dMin1 (eA eI) eI yMinL := fun a => by
  have : dMin1 [eA eI a] = (a.min?).map eI := by
    show (asIs (a.map D.int)).bind (fun ns => ns.min?.map D.int) = _
    rw [asIs_map]
    rfl
  rw [this]
  exact im_getO
theorem asBs_mapB : ∀ l : List Bool, asBs (l.map eB) = some l
  | [] => rfl
  | x :: l => by
    rw [List.map_cons, asBs, asBs_mapB l]
    rfl
theorem ty_any : C1 dAny (eA eB) eB yAny := fun a => Im.lift _ (by
  show (asBs (a.map eB)).map _ = _
  rw [asBs_mapB]
  rfl) rfl
theorem ty_all : C1 dAll (eA eB) eB yAll := fun a => Im.lift _ (by
  show (asBs (a.map eB)).map _ = _
  rw [asBs_mapB]
  rfl) rfl
def NN (e : α → D) : Prop := ∀ a, (e a).isNon = false
theorem ty_isN {e : α → D} (h : NN e) : O2 dIs (eO e) eN eB yIsN := fun a u => Im.lift _ (dIs_non _) (by
  cases a with
  | none => rfl
  | some a => show D.bl (e a).isNon = _; rw [h a]; rfl)
theorem ty_notN {e : α → D} (h : NN e) : O2 dIsNot (eO e) eN eB yNotN := fun a u => Im.lift _ (dIsNot_non _) (by
  cases a with
  | none => rfl
  | some a => show D.bl (!(e a).isNon) = _; rw [h a]; rfl)
/-! truth -/
def Tr (e : α → D) (g : α → M Bool) : Prop := ∀ a, Im (liftO (dTru (e a))) (g a) fun c d => d = c
theorem tr_B : Tr eB yId := fun a => Im.lift _ rfl rfl
def yTrI (a : Int) : M Bool := pure (a != 0)
theorem tr_I : Tr eI yTrI := fun a => Im.lift _ rfl rfl
def yTrL (a : List α) : M Bool := pure (!a.isEmpty)
theorem tr_L {e : α → D} : Tr (eL e) yTrL := fun a => Im.lift _ rfl (by cases a <;> rfl)
theorem tr_A {e : α → D} : Tr (eA e) yTrL := fun a => Im.lift _ rfl (by cases a <;> rfl)
def yTrO (g : α → M Bool) : Option α → M Bool
  | none => pure false
  | some a => g a
theorem tr_O {e : α → D} {g : α → M Bool} (h : Tr e g) : Tr (eO e) (yTrO g) := fun a => by
  cases a with
  | none => exact Im.lift _ rfl rfl
  | some a => exact h a
/-! equal things -/
structure Cm [DecidableEq α] (e : α → D) (n : Nat) : Prop where
  dat : ∀ a, (e a).dat = true
  lay : ∀ a, PyData.canLay0 (e a).pd = true
  dep : ∀ a, PyData.depth (e a).pd ≤ n
  eqv : ∀ a b, PyData.eqv (e a).pd (e b).pd = decide (a = b)
theorem Cm.sh [DecidableEq α] {e : α → D} {n : Nat} (h : Cm e n) (hn : n ≤ 64) (a : α) : (e a).sh = true := by
  show ((e a).dat && (PyData.canLay0 (e a).pd && decide (PyData.depth (e a).pd ≤ 64))) = true
  rw [h.dat, h.lay, decide_eq_true (Nat.le_trans (h.dep a) hn)]
  rfl
theorem ty_eq [DecidableEq α] {e : α → D} {n : Nat} (h : Cm e n) (hn : n ≤ 64) : O2 dEq e e eB yEq := fun a b => Im.lift _ (by
  unfold dEq
  rw [if_pos ⟨h.sh hn a, h.sh hn b⟩]) (by
  show D.bl (PyData.eqv (e a).pd (e b).pd) = _
  rw [h.eqv])
theorem ty_ne [DecidableEq α] {e : α → D} {n : Nat} (h : Cm e n) (hn : n ≤ 64) : O2 dNe e e eB yNe := fun a b => Im.lift _ (by
  unfold dNe
  rw [if_pos ⟨h.sh hn a, h.sh hn b⟩]) (by
  show D.bl (!PyData.eqv (e a).pd (e b).pd) = _
  rw [h.eqv])
theorem cm_I : Cm eI 0 := ⟨fun _ => rfl, fun _ => rfl, fun _ => Nat.le_refl _, fun a b => by
  show (a == b) = _
  rw [Bool.beq_eq_decide_eq]⟩
theorem cm_B : Cm eB 0 := ⟨fun _ => rfl, fun _ => rfl, fun _ => Nat.le_refl _, fun a b => by cases a <;> cases b <;> rfl⟩
theorem pds_map (e : α → D) : ∀ l : List α, D.pds (l.map e) = l.map fun a => (e a).pd
  | [] => rfl
  | x :: l => by
    show D.pd (e x) :: D.pds (l.map e) = _
    rw [pds_map e l]
    rfl
theorem Cm.dats [DecidableEq α] {e : α → D} {n : Nat} (h : Cm e n) : ∀ l : List α, D.dats (l.map e) = true
  | [] => rfl
  | x :: l => by
    show (D.dat (e x) && D.dats (l.map e)) = true
    rw [h.dat, h.dats l]
    rfl
theorem Cm.lays [DecidableEq α] {e : α → D} {n : Nat} (h : Cm e n) : ∀ l : List α, PyData.canLayAll0 (D.pds (l.map e)) = true
  | [] => rfl
  | x :: l => by
    show (PyData.canLay0 (e x).pd && PyData.canLayAll0 (D.pds (l.map e))) = true
    rw [h.lay, h.lays l]
    rfl
theorem Cm.deps [DecidableEq α] {e : α → D} {n : Nat} (h : Cm e n) : ∀ l : List α, PyData.depthAll (D.pds (l.map e)) ≤ n
  | [] => Nat.zero_le _
  | x :: l => by
    show max (PyData.depth (e x).pd) (PyData.depthAll (D.pds (l.map e))) ≤ n
    have := h.dep x
    have := h.deps l
    omega
theorem Cm.eqvs [DecidableEq α] {e : α → D} {n : Nat} (h : Cm e n) : ∀ l m : List α, PyData.eqvAll (D.pds (l.map e)) (D.pds (m.map e)) = decide (l = m)
  | [], [] => by simp [D.pds, PyData.eqvAll]
  | [], y :: m => by simp [D.pds, PyData.eqvAll]
  | x :: l, [] => by simp [D.pds, PyData.eqvAll]
  | x :: l, y :: m => by
    show (PyData.eqv (e x).pd (e y).pd && PyData.eqvAll (D.pds (l.map e)) (D.pds (m.map e))) = _
    rw [h.eqv, h.eqvs l m]
    by_cases c : x = y
    · subst c
      simp
    · simp [c]
theorem cm_L [DecidableEq α] {e : α → D} {n : Nat} (h : Cm e n) : Cm (eL e) (n + 1) := ⟨fun l => h.dats l, fun l => h.lays l, fun l => by
  show PyData.depthAll (D.pds (l.map e)) + 1 ≤ n + 1
  have := h.deps l
  omega, fun l m => h.eqvs l m⟩
theorem cm_A [DecidableEq α] {e : α → D} {n : Nat} (h : Cm e n) : Cm (eA e) (n + 1) := ⟨fun l => h.dats l, fun l => h.lays l, fun l => by
  show PyData.depthAll (D.pds (l.map e)) + 1 ≤ n + 1
  have := h.deps l
  omega, fun l m => h.eqvs l m⟩
theorem cm_O [DecidableEq α] {e : α → D} {n : Nat} (h : Cm e n) (hn : ∀ a, PyData.eqv .none (e a).pd = false ∧ PyData.eqv (e a).pd .none = false) : Cm (eO e) n := by
  refine ⟨fun a => ?_, fun a => ?_, fun a => ?_, fun a b => ?_⟩
  · cases a with
    | none => rfl
    | some a => exact h.dat a
  · cases a with
    | none => rfl
    | some a => exact h.lay a
  · cases a with
    | none => exact Nat.zero_le _
    | some a => exact h.dep a
  · cases a with
    | none => cases b with
      | none => rfl
      | some b => exact (hn b).1
    | some a => cases b with
      | none => exact (hn a).2
      | some b => show PyData.eqv (e a).pd (e b).pd = _; rw [h.eqv]; simp
theorem cm_T2 [DecidableEq α] [DecidableEq β] {e1 : α → D} {e2 : β → D} {n : Nat} (h1 : Cm e1 n) (h2 : Cm e2 n) : Cm (eT2 e1 e2) (n + 1) := by
  refine ⟨fun a => ?_, fun a => ?_, fun a => ?_, fun a b => ?_⟩
  · show ((e1 a.1).dat && ((e2 a.2).dat && true)) = true
    rw [h1.dat, h2.dat]; rfl
  · show (PyData.canLay0 (e1 a.1).pd && (PyData.canLay0 (e2 a.2).pd && true)) = true
    rw [h1.lay, h2.lay]; rfl
  · show max (PyData.depth (e1 a.1).pd) (max (PyData.depth (e2 a.2).pd) 0) + 1 ≤ n + 1
    have := h1.dep a.1; have := h2.dep a.2
    omega
  · show (PyData.eqv (e1 a.1).pd (e1 b.1).pd && (PyData.eqv (e2 a.2).pd (e2 b.2).pd && true)) = _
    rw [h1.eqv, h2.eqv, Bool.and_true, ← Bool.decide_and]
    exact decide_eq_decide.mpr Prod.ext_iff.symm
theorem cm_T3 [DecidableEq α] [DecidableEq β] [DecidableEq γ] {e1 : α → D} {e2 : β → D} {e3 : γ → D} {n : Nat} (h1 : Cm e1 n) (h2 : Cm e2 n) (h3 : Cm e3 n) : Cm (eT3 e1 e2 e3) (n + 1) := by
  refine ⟨fun a => ?_, fun a => ?_, fun a => ?_, fun a b => ?_⟩
  · show ((e1 a.1).dat && ((e2 a.2.1).dat && ((e3 a.2.2).dat && true))) = true
    rw [h1.dat, h2.dat, h3.dat]; rfl
  · show (PyData.canLay0 (e1 a.1).pd && (PyData.canLay0 (e2 a.2.1).pd && (PyData.canLay0 (e3 a.2.2).pd && true))) = true
    rw [h1.lay, h2.lay, h3.lay]; rfl
  · show max (PyData.depth (e1 a.1).pd) (max (PyData.depth (e2 a.2.1).pd) (max (PyData.depth (e3 a.2.2).pd) 0)) + 1 ≤ n + 1
    have := h1.dep a.1; have := h2.dep a.2.1; have := h3.dep a.2.2
    omega
  · show (PyData.eqv (e1 a.1).pd (e1 b.1).pd && (PyData.eqv (e2 a.2.1).pd (e2 b.2.1).pd && (PyData.eqv (e3 a.2.2).pd (e3 b.2.2).pd && true))) = _
    rw [h1.eqv, h2.eqv, h3.eqv, Bool.and_true, ← Bool.decide_and, ← Bool.decide_and]
    exact decide_eq_decide.mpr (by simp [Prod.ext_iff])
theorem cm_T4 [DecidableEq α] [DecidableEq β] [DecidableEq γ] [DecidableEq τ] {e1 : α → D} {e2 : β → D} {e3 : γ → D} {e4 : τ → D} {n : Nat} (h1 : Cm e1 n) (h2 : Cm e2 n) (h3 : Cm e3 n) (h4 : Cm e4 n) : Cm (eT4 e1 e2 e3 e4) (n + 1) := by
  refine ⟨fun a => ?_, fun a => ?_, fun a => ?_, fun a b => ?_⟩
  · show ((e1 a.1).dat && ((e2 a.2.1).dat && ((e3 a.2.2.1).dat && ((e4 a.2.2.2).dat && true)))) = true
    rw [h1.dat, h2.dat, h3.dat, h4.dat]; rfl
  · show (PyData.canLay0 (e1 a.1).pd && (PyData.canLay0 (e2 a.2.1).pd && (PyData.canLay0 (e3 a.2.2.1).pd && (PyData.canLay0 (e4 a.2.2.2).pd && true)))) = true
    rw [h1.lay, h2.lay, h3.lay, h4.lay]; rfl
  · show max (PyData.depth (e1 a.1).pd) (max (PyData.depth (e2 a.2.1).pd) (max (PyData.depth (e3 a.2.2.1).pd) (max (PyData.depth (e4 a.2.2.2).pd) 0))) + 1 ≤ n + 1
    have := h1.dep a.1; have := h2.dep a.2.1; have := h3.dep a.2.2.1; have := h4.dep a.2.2.2
    omega
  · show (PyData.eqv (e1 a.1).pd (e1 b.1).pd && (PyData.eqv (e2 a.2.1).pd (e2 b.2.1).pd && (PyData.eqv (e3 a.2.2.1).pd (e3 b.2.2.1).pd && (PyData.eqv (e4 a.2.2.2).pd (e4 b.2.2.2).pd && true)))) = _
    rw [h1.eqv, h2.eqv, h3.eqv, h4.eqv, Bool.and_true, ← Bool.decide_and, ← Bool.decide_and, ← Bool.decide_and]
    exact decide_eq_decide.mpr (by simp [Prod.ext_iff])

/-! ### targets -/
theorem tg_nm {e : α → D} (i : Nat) : TG (.nm i) e fun a p => p.set i (some (e a)) := fun a p δ A => ⟨_, rfl, A.set i _⟩
theorem tg_2 {T1 T2 : Tg} {e1 : α → D} {e2 : β → D} {q1 : α → Pat → Pat} {q2 : β → Pat → Pat} (h1 : TG T1 e1 q1) (h2 : TG T2 e2 q2) : TG (.tp [T1, T2]) (eT2 e1 e2) fun a p => q2 a.2 (q1 a.1 p) := fun a p δ A => by
  obtain ⟨δ1, s1, A1⟩ := h1 a.1 p δ A
  obtain ⟨δ2, s2, A2⟩ := h2 a.2 _ δ1 A1
  refine ⟨δ2, ?_, A2⟩
  show (setT T1 (e1 a.1) δ).bind (fun δ => (setT T2 (e2 a.2) δ).bind some) = _
  rw [s1, opt_bind_some, s2]
  rfl
theorem tg_3 {T1 T2 T3 : Tg} {e1 : α → D} {e2 : β → D} {e3 : γ → D} {q1 : α → Pat → Pat} {q2 : β → Pat → Pat} {q3 : γ → Pat → Pat} (h1 : TG T1 e1 q1) (h2 : TG T2 e2 q2) (h3 : TG T3 e3 q3) : TG (.tp [T1, T2, T3]) (eT3 e1 e2 e3) fun a p => q3 a.2.2 (q2 a.2.1 (q1 a.1 p)) := fun a p δ A => by
  obtain ⟨δ1, s1, A1⟩ := h1 a.1 p δ A
  obtain ⟨δ2, s2, A2⟩ := h2 a.2.1 _ δ1 A1
  obtain ⟨δ3, s3, A3⟩ := h3 a.2.2 _ δ2 A2
  refine ⟨δ3, ?_, A3⟩
  show (setT T1 (e1 a.1) δ).bind (fun δ => (setT T2 (e2 a.2.1) δ).bind fun δ => (setT T3 (e3 a.2.2) δ).bind some) = _
  rw [s1, opt_bind_some, s2, opt_bind_some, s3]
  rfl
theorem tg_4 {T1 T2 T3 T4 : Tg} {e1 : α → D} {e2 : β → D} {e3 : γ → D} {e4 : τ → D} {q1 : α → Pat → Pat} {q2 : β → Pat → Pat} {q3 : γ → Pat → Pat} {q4 : τ → Pat → Pat} (h1 : TG T1 e1 q1) (h2 : TG T2 e2 q2) (h3 : TG T3 e3 q3) (h4 : TG T4 e4 q4) : TG (.tp [T1, T2, T3, T4]) (eT4 e1 e2 e3 e4) fun a p => q4 a.2.2.2 (q3 a.2.2.1 (q2 a.2.1 (q1 a.1 p))) := fun a p δ A => by
  obtain ⟨δ1, s1, A1⟩ := h1 a.1 p δ A
  obtain ⟨δ2, s2, A2⟩ := h2 a.2.1 _ δ1 A1
  obtain ⟨δ3, s3, A3⟩ := h3 a.2.2.1 _ δ2 A2
  obtain ⟨δ4, s4, A4⟩ := h4 a.2.2.2 _ δ3 A3
  refine ⟨δ4, ?_, A4⟩
  show (setT T1 (e1 a.1) δ).bind (fun δ => (setT T2 (e2 a.2.1) δ).bind fun δ => (setT T3 (e3 a.2.2.1) δ).bind fun δ => (setT T4 (e4 a.2.2.2) δ).bind some) = _
  rw [s1, opt_bind_some, s2, opt_bind_some, s3, opt_bind_some, s4]
  rfl
theorem tg_5 {T1 T2 T3 T4 T5 : Tg} {e1 : α → D} {e2 : β → D} {e3 : γ → D} {e4 : τ → D} {e5 : υ → D} {q1 : α → Pat → Pat} {q2 : β → Pat → Pat} {q3 : γ → Pat → Pat} {q4 : τ → Pat → Pat} {q5 : υ → Pat → Pat} (h1 : TG T1 e1 q1) (h2 : TG T2 e2 q2) (h3 : TG T3 e3 q3) (h4 : TG T4 e4 q4) (h5 : TG T5 e5 q5) : TG (.tp [T1, T2, T3, T4, T5]) (eT5 e1 e2 e3 e4 e5) fun a p => q5 a.2.2.2.2 (q4 a.2.2.2.1 (q3 a.2.2.1 (q2 a.2.1 (q1 a.1 p)))) := fun a p δ A => by
  obtain ⟨δ1, s1, A1⟩ := h1 a.1 p δ A
  obtain ⟨δ2, s2, A2⟩ := h2 a.2.1 _ δ1 A1
  obtain ⟨δ3, s3, A3⟩ := h3 a.2.2.1 _ δ2 A2
  obtain ⟨δ4, s4, A4⟩ := h4 a.2.2.2.1 _ δ3 A3
  obtain ⟨δ5, s5, A5⟩ := h5 a.2.2.2.2 _ δ4 A4
  refine ⟨δ5, ?_, A5⟩
  show (setT T1 (e1 a.1) δ).bind (fun δ => (setT T2 (e2 a.2.1) δ).bind fun δ => (setT T3 (e3 a.2.2.1) δ).bind fun δ => (setT T4 (e4 a.2.2.2.1) δ).bind fun δ => (setT T5 (e5 a.2.2.2.2) δ).bind some) = _
  rw [s1, opt_bind_some, s2, opt_bind_some, s3, opt_bind_some, s4, opt_bind_some, s5]
  rfl
end
end Fc

/-! Fc, part V: blocks, loops, comprehensions, defs. -/
namespace Fc
open PySem L2
section
variable {α β γ σ ρ τ : Type}
/-! ### loops and comprehensions of typed things -/
inductive Res (σ ρ : Type) where
  | nx (s : σ) | bk (s : σ) | rt (r : ρ)
def foldS (g : σ → α → M σ) : List α → σ → M σ
  | [], s => pure s
  | a :: l, s => g s a >>= foldS g l
def forR (g : σ → α → M (Res σ ρ)) : List α → σ → M (Sum σ ρ)
  | [], s => pure (.inl s)
  | a :: l, s => g s a >>= fun r => match r with
    | .nx s' => forR g l s'
    | .bk s' => pure (.inl s')
    | .rt r => pure (.inr r)
def whileS : Nat → (σ → M Bool) → (σ → M σ) → σ → M σ
  | 0, _, _ => fun _ => fail
  | n + 1, c, g => fun s => c s >>= fun b => if b = true then g s >>= whileS n c g else pure s
def whileR : Nat → (σ → M Bool) → (σ → M (Res σ ρ)) → σ → M (Sum σ ρ)
  | 0, _, _ => fun _ => fail
  | n + 1, c, g => fun s => c s >>= fun b => if b = true then g s >>= fun r => match r with
    | .nx s' => whileR n c g s'
    | .bk s' => pure (.inl s')
    | .rt r => pure (.inr r) else pure (.inl s)
def elimF (k : σ → M ρ) : Sum σ ρ → M ρ
  | .inl s => k s
  | .inr r => pure r
def elimP (k : σ → M (Res τ ρ)) : Sum σ ρ → M (Res τ ρ)
  | .inl s => k s
  | .inr r => pure (.rt r)
def mapGo (f : α → M β) : List α → M (List β)
  | [] => pure []
  | a :: l => f a >>= fun y => mapGo f l >>= fun ys => pure (y :: ys)
def filGo (t : α → M Bool) (f : α → M β) : List α → M (List β)
  | [] => pure []
  | a :: l => t a >>= fun k => if k = true then f a >>= fun y => filGo t f l >>= fun ys => pure (y :: ys) else filGo t f l
def mapS (f : α → M β) (l : List α) : M (List β) := if l.length ≤ 100000 then mapGo f l else fail
def filS (t : α → M Bool) (f : α → M β) (l : List α) : M (List β) := if l.length ≤ 100000 then filGo t f l else fail

theorem sSeq_as (X Y Z : F1) : sSeq (sSeq X Y) Z = sSeq X (sSeq Y Z) := by
  funext δ w
  show ((sSeq X Y δ w).bind fun p => _) = (X δ w).bind fun p => _
  have e : sSeq X Y δ w = (X δ w).bind fun p => (match p.1.1 with | .nx => Y p.1.2 | o => pure (o, p.1.2)) p.2 := rfl
  rw [e]
  cases X δ w with
  | none => rfl
  | some p =>
    obtain ⟨⟨o, δ1⟩, w1⟩ := p
    cases o <;> rfl
theorem sSeq_nil (X : F1) : sSeq X sNil = X := by
  funext δ w
  have e : sSeq X sNil δ w = (X δ w).bind fun p => (match p.1.1 with | .nx => sNil p.1.2 | o => pure (o, p.1.2)) p.2 := rfl
  rw [e]
  cases X δ w with
  | none => rfl
  | some p =>
    obtain ⟨⟨o, δ1⟩, w1⟩ := p
    cases o <;> rfl
theorem sSeq_nl (X : F1) : sSeq sNil X = X := rfl
theorem sSeq_if (c : Env → M Bool) (A B X : F1) : sSeq (sIf c A B) X = sIf c (sSeq A X) (sSeq B X) := by
  funext δ w
  have e : sSeq (sIf c A B) X δ w = ((c δ w).bind fun k => (if k.1 = true then A δ else B δ) k.2).bind fun p => (match p.1.1 with | .nx => X p.1.2 | o => pure (o, p.1.2)) p.2 := rfl
  have e2 : sIf c (sSeq A X) (sSeq B X) δ w = (c δ w).bind fun k => (if k.1 = true then sSeq A X δ else sSeq B X δ) k.2 := rfl
  rw [e, e2]
  cases c δ w with
  | none => rfl
  | some k =>
    obtain ⟨k, w1⟩ := k
    cases k <;> rfl

/-! ### ends of blocks -/
def Fn (e : α → D) (a : α) (o : Out × Env) : Prop := o.1 = .rt (e a) ∨ (o.1 = .nx ∧ e a = .non)
def Jn (q : σ → Pat) (s : σ) (o : Out × Env) : Prop := o.1 = .nx ∧ Agr (q s) o.2
def Lq (q : σ → Pat) (s : σ) (o : Out × Env) : Prop := (o.1 = .nx ∨ o.1 = .ct) ∧ Agr (q s) o.2
def Lp (q : σ → Pat) (e : ρ → D) : Res σ ρ → Out × Env → Prop
  | .nx s, o => (o.1 = .nx ∨ o.1 = .ct) ∧ Agr (q s) o.2
  | .bk s, o => o.1 = .bk ∧ Agr (q s) o.2
  | .rt r, o => o.1 = .rt (e r)
variable {p : Pat} {F F' A B C : F1} {e : α → D} {q : σ → Pat} {er : ρ → D} {f : Env → M D} {m : M α} {P : β → Out × Env → Prop}

theorem tb_last {m : M β} (h : TB p (sSeq F sNil) m P) : TB p F m P := by
  rw [sSeq_nil] at h
  exact h
theorem tb_skip {m : M β} (h : TB p F m P) : TB p (sSeq sNil F) m P := h
theorem tb_assoc {m : M β} (h : TB p (sSeq A (sSeq B C)) m P) : TB p (sSeq (sSeq A B) C) m P := by
  rw [sSeq_as]
  exact h
theorem tb_join {m : M σ} {k : σ → M β} (h : TB p F m (Jn q)) (g : ∀ s, TB (q s) F' (k s) P) : TB p (sSeq F F') (m >>= k) P := fun δ A =>
  (h δ A).bind fun s o ho => by
    obtain ⟨o, δ1⟩ := o
    obtain ⟨h1, h2⟩ := ho
    obtain rfl : o = .nx := h1
    exact g s δ1 h2
theorem tb_asg {T : Tg} {k : α → M β} {g : α → Pat → Pat} (h : TE p f e m) (t : TG T e g) (b : ∀ a, TB (g a p) F' (k a) P) : TB p (sSeq (sAsg T f) F') (m >>= k) P := fun δ A => by
  have e0 : sSeq (sAsg T f) F' δ = (f δ >>= fun d => liftO (setT T d δ) >>= fun δ' => F' δ') := by
    rw [sSeq_eq]
    show ((f δ >>= fun d => liftO (setT T d δ) >>= fun δ' => pure (Out.nx, δ')) >>= _) = _
    rw [bb]
    congr 1
    funext d
    rw [bb]
    rfl
  rw [e0]
  exact (h δ A).bind fun a d r => by
    subst r
    obtain ⟨δ', h1, h2⟩ := t a p δ A
    rw [h1, liftO_pure, pb]
    exact b a δ' h2
theorem tb_asgV {i : Nat} {k : α → M β} (h : TE p f e m) (hl : ∀ a, (e a).isL = false) (b : ∀ a, TB (p.set i (some (e a))) F' (k a) P) : TB p (sSeq (sAsgV i f) F') (m >>= k) P := fun δ A => by
  have e0 : sSeq (sAsgV i f) F' δ = (f δ >>= fun d => (if d.isL = true then fail else pure (Out.nx, δ.set i (some d))) >>= fun p => match p.1 with | .nx => F' p.2 | o => pure (o, p.2)) := by
    rw [sSeq_eq]
    show ((f δ >>= fun d => if d.isL = true then fail else pure (Out.nx, δ.set i (some d))) >>= _) = _
    rw [bb] <;> rfl
  rw [e0]
  exact (h δ A).bind fun a d r => by
    subst r
    rw [hl a, if_neg Bool.false_ne_true]
    exact b a _ (A.set i _)
theorem tb_par {i j : Nat} {f1 f2 : Env → M D} {e1 : α → D} {e2 : γ → D} {m1 : M α} {m2 : M γ} {k : α → γ → M β} (h1 : TE p f1 e1 m1) (h2 : TE p f2 e2 m2) (b : ∀ a c, TB ((p.set i (some (e1 a))).set j (some (e2 c))) F' (k a c) P) : TB p (sSeq (sPar i j (aCons f1 (aCons f2 aNil))) F') (m1 >>= fun a => m2 >>= fun c => k a c) P := fun δ A => by
  have e0 : sSeq (sPar i j (aCons f1 (aCons f2 aNil))) F' δ = (f1 δ >>= fun x => f2 δ >>= fun y => F' ((δ.set i (some x)).set j (some y))) := by
    rw [sSeq_eq]
    show (((f1 δ >>= fun x => (f2 δ >>= fun y => pure [y]) >>= fun ys => pure (x :: ys)) >>= fun xs => match xs with | [x, y] => pure (Out.nx, (δ.set i (some x)).set j (some y)) | _ => fail) >>= _) = _
    simp only [bb, pb]
  rw [e0]
  exact (h1 δ A).bind fun a d r => (h2 δ A).bind fun c d' r' => by
    subst r r'
    exact b a c _ ((A.set i _).set j _)
theorem tb_parO {i j : Nat} {f1 f2 : Env → M D} {e1 : α → D} {e2 : γ → D} {m1 : M α} {m2 : M γ} {k : α → γ → M β} (h1 : TE p f1 e1 m1) (h2 : TE p f2 e2 m2) (b : ∀ a c, TB ((p.set i (some (e1 a))).set j (some (e2 c))) F' (k a c) P) : TB p (sSeq (sParO i j f1 f2) F') (m1 >>= fun a => m2 >>= fun c => k a c) P := fun δ A => by
  have e0 : sSeq (sParO i j f1 f2) F' δ = (f1 δ >>= fun x => f2 δ >>= fun y => F' ((δ.set i (some x)).set j (some y))) := by
    rw [sSeq_eq]
    show ((f1 δ >>= fun x => f2 δ >>= fun y => pure (Out.nx, (δ.set i (some x)).set j (some y))) >>= _) = _
    simp only [bb, pb]
  rw [e0]
  exact (h1 δ A).bind fun a d r => (h2 δ A).bind fun c d' r' => by
    subst r r'
    exact b a c _ ((A.set i _).set j _)
theorem tb_par3 {i j l : Nat} {f1 f2 f3 : Env → M D} {e1 : α → D} {e2 : γ → D} {e3 : τ → D} {m1 : M α} {m2 : M γ} {m3 : M τ} {k : α → γ → τ → M β} (h1 : TE p f1 e1 m1) (h2 : TE p f2 e2 m2) (h3 : TE p f3 e3 m3) (b : ∀ a c x, TB (((p.set i (some (e1 a))).set j (some (e2 c))).set l (some (e3 x))) F' (k a c x) P) : TB p (sSeq (sPar3 i j l (aCons f1 (aCons f2 (aCons f3 aNil)))) F') (m1 >>= fun a => m2 >>= fun c => m3 >>= fun x => k a c x) P := fun δ A => by
  have e0 : sSeq (sPar3 i j l (aCons f1 (aCons f2 (aCons f3 aNil)))) F' δ = (f1 δ >>= fun x => f2 δ >>= fun y => f3 δ >>= fun z => F' (((δ.set i (some x)).set j (some y)).set l (some z))) := by
    rw [sSeq_eq]
    show (((f1 δ >>= fun x => (f2 δ >>= fun y => (f3 δ >>= fun z => pure [z]) >>= fun ys => pure (y :: ys)) >>= fun ys => pure (x :: ys)) >>= fun xs => match xs with | [x, y, z] => pure (Out.nx, ((δ.set i (some x)).set j (some y)).set l (some z)) | _ => fail) >>= _) = _
    simp only [bb, pb]
  rw [e0]
  exact (h1 δ A).bind fun a d r => (h2 δ A).bind fun c d' r' => (h3 δ A).bind fun x d2 r2 => by
    subst r r' r2
    exact b a c x _ (((A.set i _).set j _).set l _)
def yApp (l : List α) (a : α) : M (List α) := chk (l.length < 100000) (l ++ [a])
theorem tb_app {i : Nat} {l : List α} {k : List α → M β} (hi : p[i]? = some (some (eA e l))) (h : TE p f e m) (b : ∀ l', TB (p.set i (some (eA e l'))) F' (k l') P) : TB p (sSeq (sApp i f) F') ((m >>= fun a => yApp l a) >>= k) P := fun δ A => by
  have e0 : sSeq (sApp i f) F' δ = (f δ >>= fun d => liftO (chg i (opApp d) δ) >>= fun δ' => F' δ') := by
    rw [sSeq_eq]
    show ((f δ >>= fun d => liftO (chg i (opApp d) δ) >>= fun δ' => pure (Out.nx, δ')) >>= _) = _
    rw [bb]
    congr 1
    funext d
    rw [bb]
    rfl
  rw [e0, bb]
  exact (h δ A).bind fun a d r => by
    subst r
    have hc : chg i (opApp (e a)) δ = (opApp (e a) (l.map e)).map fun ds' => δ.set i (some (.lst ds')) := by
      unfold chg
      rw [A.get hi]
    rw [hc]
    unfold yApp chk opApp
    rw [List.length_map]
    by_cases c : l.length < 100000
    · rw [if_pos c, if_pos (show l.length < LIM from c), opt_map_some, liftO_pure, pb, pb]
      have := b (l ++ [a]) _ (A.set i (eA e (l ++ [a])))
      rw [show eA e (l ++ [a]) = D.lst (l.map e ++ [e a]) from by show D.lst _ = _; rw [List.map_append]; rfl] at this
      exact this
    · rw [if_neg c]
      exact fun w b w' h => by cases h
def ySet (l : List α) (i : Int) (a : α) : M (List α) := getO ((ixN l.length i).map fun j => l.set j a)
theorem tb_setIx {i : Nat} {l : List α} {g : Env → M D} {n : M Int} {k : List α → M β} (hi : p[i]? = some (some (eA e l))) (h : TE p f e m) (h2 : TE p g eI n) (b : ∀ l', TB (p.set i (some (eA e l'))) F' (k l') P) : TB p (sSeq (sSetIx i f g) F') ((m >>= fun a => n >>= fun j => ySet l j a) >>= k) P := fun δ A => by
  have e0 : sSeq (sSetIx i f g) F' δ = (f δ >>= fun d => g δ >>= fun n => liftO (asI n) >>= fun j => liftO (chg i (opSet d j) δ) >>= fun δ' => F' δ') := by
    rw [sSeq_eq]
    show ((f δ >>= fun d => g δ >>= fun n => liftO (asI n) >>= fun j => liftO (chg i (opSet d j) δ) >>= fun δ' => pure (Out.nx, δ')) >>= _) = _
    simp only [bb, pb]
  rw [e0, bb]
  refine (h δ A).bind fun a d r => ?_
  rw [bb]
  exact (h2 δ A).bind fun j d' r' => by
    subst r r'
    have hc : chg i (opSet (e a) j) δ = (opSet (e a) j (l.map e)).map fun ds' => δ.set i (some (.lst ds')) := by
      unfold chg
      rw [A.get hi]
    show Im (liftO (some j) >>= fun j => liftO (chg i (opSet (e a) j) δ) >>= fun δ' => F' δ') _ _
    rw [liftO_pure, pb, hc]
    unfold ySet opSet
    rw [List.length_map]
    cases ixN l.length j with
    | none => exact fun w b w' h => by cases h
    | some j =>
      rw [opt_map_some, opt_map_some, opt_map_some, liftO_pure, pb]
      show Im _ (pure (l.set j a) >>= k) P
      rw [pb]
      have := b (l.set j a) _ (A.set i (eA e (l.set j a)))
      rw [show eA e (l.set j a) = D.lst ((l.map e).set j (e a)) from by show D.lst _ = _; rw [List.map_set]] at this
      exact this
theorem tb_if {c : Env → M Bool} {t : M Bool} {mA mB : M β} (hc : TT p c t) (h1 : TB p (sSeq A F') mA P) (h2 : TB p (sSeq B F') mB P) : TB p (sSeq (sIf c A B) F') (ifM t mA mB) P := by
  rw [sSeq_if]
  exact fun δ Ag => (hc δ Ag).bind fun b b' r => by
    subst r
    exact Im.ite (fun _ => h1 δ Ag) fun _ => h2 δ Ag
/-- the slots of R hold things without own things in them -/
def patFl (R : List Nat) (p : Pat) : Bool := R.all fun i => match p[i]? with
  | some (some d) => d.flatD
  | _ => false
theorem te_still {R : List Nat} {f : Env → M D} {m : M α} (h : patFl R p = true) (t : TE p f e m) : TE p (eStill R f) e m := fun δ A => by
  have hf : flatE R δ = true := by
    refine List.all_eq_true.mpr fun i hi => ?_
    have h1 := List.all_eq_true.mp h i hi
    cases q : p[i]? with
    | none => rw [q] at h1; cases h1
    | some o =>
      cases o with
      | none => rw [q] at h1; cases h1
      | some d =>
        rw [q] at h1
        rw [A.get q]
        exact h1
  have e0 : eStill R f δ = (if flatE R δ = true then f δ else fail) := rfl
  rw [e0, if_pos hf]
  exact t δ A
theorem te_frz {i : Nat} {a : α} (h : p[i]? = some (some (e a))) (hz : (e a).frz = e a := by first | rfl | (cases a <;> rfl)) : TE p (eFrz i) e (pure a) := fun δ A => by
  have e0 : eFrz i δ = (eVar i δ >>= fun d => pure d.frz) := rfl
  rw [e0, eVar_at (A.get h), pb]
  exact Im.pure hz
theorem tb_ret (h : TE p f e m) : TB p (sSeq (sRet f) F') m (Fn e) := fun δ A => by
  have e0 : sSeq (sRet f) F' δ = (f δ >>= fun d => pure (Out.rt d, δ)) := by
    rw [sSeq_eq]
    show ((f δ >>= fun d => pure (Out.rt d, δ)) >>= _) = _
    rw [bb]
    rfl
  have h2 : Im (f δ >>= fun d => pure (Out.rt d, δ)) (m >>= pure) (Fn e) := (h δ A).bind fun a d q => by
    subst q
    exact Im.pure (.inl rfl)
  have : (m >>= pure) = m := by
    funext w
    show (m w).bind (fun p => some (p.1, p.2)) = _
    cases m w <;> rfl
  rw [this] at h2
  rw [e0]
  exact h2
theorem tb_retP {q : σ → Pat} (h : TE p f e m) : TB p (sSeq (sRet f) F') (m >>= fun r => pure (Res.rt r)) (Lp q e) := fun δ A => by
  have e0 : sSeq (sRet f) F' δ = (f δ >>= fun d => pure (Out.rt d, δ)) := by
    rw [sSeq_eq]
    show ((f δ >>= fun d => pure (Out.rt d, δ)) >>= _) = _
    rw [bb]
    rfl
  rw [e0]
  exact (h δ A).bind fun a d q => by
    subst q
    exact Im.pure rfl
theorem tb_endF {r : α} (h : e r = .non) : TB p sNil (pure r) (Fn e) := fun δ A => Im.pure (.inr ⟨rfl, h⟩)
theorem tb_retN {r : α} (h : e r = .non) : TB p (sSeq sRetN F') (pure r) (Fn e) := fun δ A => Im.pure (.inl (by rw [h]))
theorem tb_endJ {s : σ} (h : PLe (q s) p) : TB p sNil (pure s) (Jn q) := fun δ A => Im.pure ⟨rfl, A.le h⟩
theorem tb_endL {s : σ} (h : PLe (q s) p) : TB p sNil (pure s) (Lq q) := fun δ A => Im.pure ⟨.inl rfl, A.le h⟩
theorem tb_ctL {s : σ} (h : PLe (q s) p) : TB p (sSeq sCt F') (pure s) (Lq q) := fun δ A => Im.pure ⟨.inr rfl, A.le h⟩
theorem tb_endP {s : σ} (h : PLe (q s) p) : TB p sNil (pure (Res.nx s)) (Lp q er) := fun δ A => Im.pure ⟨.inl rfl, A.le h⟩
theorem tb_ctP {s : σ} (h : PLe (q s) p) : TB p (sSeq sCt F') (pure (Res.nx s)) (Lp q er) := fun δ A => Im.pure ⟨.inr rfl, A.le h⟩
theorem tb_bkP {s : σ} (h : PLe (q s) p) : TB p (sSeq sBk F') (pure (Res.bk s)) (Lp q er) := fun δ A => Im.pure ⟨rfl, A.le h⟩

theorem im_fold {T : Tg} {g : α → Pat → Pat} {body : σ → α → M σ} (t : TG T e g) (hb : ∀ s a, TB (g a (q s)) F (body s a) (Lq q)) : ∀ (l : List α) (s : σ) (δ : Env), Agr (q s) δ → Im (forL T F (l.map e) δ) (foldS body l s) (Jn q)
  | [], s, δ, A => Im.pure ⟨rfl, A⟩
  | a :: l, s, δ, A => by
    obtain ⟨δ1, h1, h2⟩ := t a _ δ A
    have e0 : forL T F ((a :: l).map e) δ = (liftO (setT T (e a) δ) >>= fun δ1 => F δ1 >>= fun p => match p.1 with
      | .nx => forL T F (l.map e) p.2
      | .ct => forL T F (l.map e) p.2
      | .bk => pure (.nx, p.2)
      | .rt d => pure (.rt d, p.2)
      | .ro d => pure (.ro d, p.2)) := rfl
    rw [e0, h1, liftO_pure, pb]
    exact (hb s a δ1 h2).bind fun s' o ho => by
      obtain ⟨o, δ2⟩ := o
      obtain ⟨h3, h4⟩ := ho
      rcases h3 with h3 | h3
      · obtain rfl : o = .nx := h3
        exact im_fold t hb l s' δ2 h4
      · obtain rfl : o = .ct := h3
        exact im_fold t hb l s' δ2 h4
theorem tb_for {T : Tg} {g : α → Pat → Pat} {fs : Env → M (List D)} {mi : M (List α)} {s0 : σ} {body : σ → α → M σ} {k : σ → M β} (q : σ → Pat) (hi : TAs p fs e mi) (t : TG T e g) (h0 : PLe (q s0) p) (hb : ∀ s a, TB (g a (q s)) F (body s a) (Lq q)) (hk : ∀ s, TB (q s) F' (k s) P) : TB p (sSeq (sFor T fs F) F') (mi >>= fun l => foldS body l s0 >>= k) P := fun δ A => by
  have e0 : sSeq (sFor T fs F) F' δ = (fs δ >>= fun ds => forL T F ds δ >>= fun p => match p.1 with | .nx => F' p.2 | o => pure (o, p.2)) := by
    rw [sSeq_eq]
    show ((fs δ >>= fun ds => forL T F ds δ) >>= _) = _
    rw [bb] <;> rfl
  rw [e0]
  exact (hi δ A).bind fun l ds r => by
    subst r
    exact (im_fold t hb l s0 δ (A.le h0)).bind fun s o ho => by
      obtain ⟨o, δ1⟩ := o
      obtain ⟨h1, h2⟩ := ho
      obtain rfl : o = .nx := h1
      exact hk s δ1 h2
/-- how a loop with an end inside ends -/
def Sn (q : σ → Pat) (er : ρ → D) : Sum σ ρ → Out × Env → Prop
  | .inl s, o => o.1 = .nx ∧ Agr (q s) o.2
  | .inr r, o => o.1 = .rt (er r)
theorem im_forR {T : Tg} {g : α → Pat → Pat} {body : σ → α → M (Res σ ρ)} (t : TG T e g) (hb : ∀ s a, TB (g a (q s)) F (body s a) (Lp q er)) : ∀ (l : List α) (s : σ) (δ : Env), Agr (q s) δ → Im (forL T F (l.map e) δ) (forR body l s) (Sn q er)
  | [], s, δ, A => Im.pure ⟨rfl, A⟩
  | a :: l, s, δ, A => by
    obtain ⟨δ1, h1, h2⟩ := t a _ δ A
    have e0 : forL T F ((a :: l).map e) δ = (liftO (setT T (e a) δ) >>= fun δ1 => F δ1 >>= fun p => match p.1 with
      | .nx => forL T F (l.map e) p.2
      | .ct => forL T F (l.map e) p.2
      | .bk => pure (.nx, p.2)
      | .rt d => pure (.rt d, p.2)
      | .ro d => pure (.ro d, p.2)) := rfl
    rw [e0, h1, liftO_pure, pb]
    exact (hb s a δ1 h2).bind fun r o ho => by
      obtain ⟨o, δ2⟩ := o
      cases r with
      | nx s' =>
        obtain ⟨h3, h4⟩ := ho
        rcases h3 with h3 | h3
        · obtain rfl : o = .nx := h3
          exact im_forR t hb l s' δ2 h4
        · obtain rfl : o = .ct := h3
          exact im_forR t hb l s' δ2 h4
      | bk s' =>
        obtain ⟨h3, h4⟩ := ho
        obtain rfl : o = .bk := h3
        exact Im.pure ⟨rfl, h4⟩
      | rt r =>
        obtain rfl : o = .rt (er r) := ho
        exact Im.pure rfl
theorem tb_forG {T : Tg} {g : α → Pat → Pat} {fs : Env → M (List D)} {mi : M (List α)} {s0 : σ} {body : σ → α → M (Res σ ρ)} {k : Sum σ ρ → M β} (q : σ → Pat) (hi : TAs p fs e mi) (t : TG T e g) (h0 : PLe (q s0) p) (hb : ∀ s a, TB (g a (q s)) F (body s a) (Lp q er)) (hk : ∀ s, TB (q s) F' (k (.inl s)) P) (hr : ∀ r δ, Im (pure (Out.rt (er r), δ)) (k (.inr r)) P) : TB p (sSeq (sFor T fs F) F') (mi >>= fun l => forR body l s0 >>= k) P := fun δ A => by
  have e0 : sSeq (sFor T fs F) F' δ = (fs δ >>= fun ds => forL T F ds δ >>= fun p => match p.1 with | .nx => F' p.2 | o => pure (o, p.2)) := by
    rw [sSeq_eq]
    show ((fs δ >>= fun ds => forL T F ds δ) >>= _) = _
    rw [bb] <;> rfl
  rw [e0]
  exact (hi δ A).bind fun l ds r => by
    subst r
    exact (im_forR t hb l s0 δ (A.le h0)).bind fun s o ho => by
      obtain ⟨o, δ1⟩ := o
      cases s with
      | inl s =>
        obtain ⟨h1, h2⟩ := ho
        obtain rfl : o = .nx := h1
        exact hk s δ1 h2
      | inr r =>
        obtain rfl : o = .rt (er r) := ho
        exact hr r δ1
theorem tb_forF {T : Tg} {g : α → Pat → Pat} {fs : Env → M (List D)} {mi : M (List α)} {s0 : σ} {body : σ → α → M (Res σ ρ)} {k : σ → M ρ} (q : σ → Pat) (hi : TAs p fs e mi) (t : TG T e g) (h0 : PLe (q s0) p) (hb : ∀ s a, TB (g a (q s)) F (body s a) (Lp q er)) (hk : ∀ s, TB (q s) F' (k s) (Fn er)) : TB p (sSeq (sFor T fs F) F') (mi >>= fun l => forR body l s0 >>= elimF k) (Fn er) :=
  tb_forG q hi t h0 hb hk fun r δ => Im.pure (.inl rfl)
theorem tb_forP {T : Tg} {g : α → Pat → Pat} {fs : Env → M (List D)} {mi : M (List α)} {s0 : σ} {body : σ → α → M (Res σ ρ)} {q' : τ → Pat} {k : σ → M (Res τ ρ)} (q : σ → Pat) (hi : TAs p fs e mi) (t : TG T e g) (h0 : PLe (q s0) p) (hb : ∀ s a, TB (g a (q s)) F (body s a) (Lp q er)) (hk : ∀ s, TB (q s) F' (k s) (Lp q' er)) : TB p (sSeq (sFor T fs F) F') (mi >>= fun l => forR body l s0 >>= elimP k) (Lp q' er) :=
  tb_forG q hi t h0 hb hk fun r δ => Im.pure rfl
theorem im_while {c : Env → M Bool} {t : σ → M Bool} {body : σ → M σ} (hc : ∀ s, TT (q s) c (t s)) (hb : ∀ s, TB (q s) F (body s) (Lq q)) : ∀ (n : Nat) (s : σ) (δ : Env), Agr (q s) δ → Im (whileL n c F δ) (whileS n t body s) (Jn q)
  | 0, s, δ, A => Im.fail
  | n + 1, s, δ, A => by
    have e0 : whileL (n + 1) c F δ = (c δ >>= fun k => if k = true then F δ >>= fun p => match p.1 with
      | .nx => whileL n c F p.2
      | .ct => whileL n c F p.2
      | .bk => pure (.nx, p.2)
      | .rt d => pure (.rt d, p.2)
      | .ro d => pure (.ro d, p.2) else pure (.nx, δ)) := rfl
    rw [e0]
    exact (hc s δ A).bind fun b b' r => by
      subst r
      exact Im.ite (fun _ => (hb s δ A).bind fun s' o ho => by
        obtain ⟨o, δ2⟩ := o
        obtain ⟨h3, h4⟩ := ho
        rcases h3 with h3 | h3
        · obtain rfl : o = .nx := h3
          exact im_while hc hb n s' δ2 h4
        · obtain rfl : o = .ct := h3
          exact im_while hc hb n s' δ2 h4) fun _ => Im.pure ⟨rfl, A⟩
theorem tb_while {n : Nat} {c : Env → M Bool} {t : σ → M Bool} {s0 : σ} {body : σ → M σ} {k : σ → M β} (q : σ → Pat) (h0 : PLe (q s0) p) (hc : ∀ s, TT (q s) c (t s)) (hb : ∀ s, TB (q s) F (body s) (Lq q)) (hk : ∀ s, TB (q s) F' (k s) P) : TB p (sSeq (whileL n c F) F') (whileS n t body s0 >>= k) P := fun δ A => by
  rw [sSeq_eq]
  exact (im_while hc hb n s0 δ (A.le h0)).bind fun s o ho => by
    obtain ⟨o, δ1⟩ := o
    obtain ⟨h1, h2⟩ := ho
    obtain rfl : o = .nx := h1
    exact hk s δ1 h2
theorem im_whileR {c : Env → M Bool} {t : σ → M Bool} {body : σ → M (Res σ ρ)} (hc : ∀ s, TT (q s) c (t s)) (hb : ∀ s, TB (q s) F (body s) (Lp q er)) : ∀ (n : Nat) (s : σ) (δ : Env), Agr (q s) δ → Im (whileL n c F δ) (whileR n t body s) (Sn q er)
  | 0, s, δ, A => Im.fail
  | n + 1, s, δ, A => by
    have e0 : whileL (n + 1) c F δ = (c δ >>= fun k => if k = true then F δ >>= fun p => match p.1 with
      | .nx => whileL n c F p.2
      | .ct => whileL n c F p.2
      | .bk => pure (.nx, p.2)
      | .rt d => pure (.rt d, p.2)
      | .ro d => pure (.ro d, p.2) else pure (.nx, δ)) := rfl
    rw [e0]
    exact (hc s δ A).bind fun b b' r => by
      subst r
      exact Im.ite (fun _ => (hb s δ A).bind fun r o ho => by
        obtain ⟨o, δ2⟩ := o
        cases r with
        | nx s' =>
          obtain ⟨h3, h4⟩ := ho
          rcases h3 with h3 | h3
          · obtain rfl : o = .nx := h3
            exact im_whileR hc hb n s' δ2 h4
          · obtain rfl : o = .ct := h3
            exact im_whileR hc hb n s' δ2 h4
        | bk s' =>
          obtain ⟨h3, h4⟩ := ho
          obtain rfl : o = .bk := h3
          exact Im.pure ⟨rfl, h4⟩
        | rt r =>
          obtain rfl : o = .rt (er r) := ho
          exact Im.pure rfl) fun _ => Im.pure ⟨rfl, A⟩
theorem tb_whileG {n : Nat} {c : Env → M Bool} {t : σ → M Bool} {s0 : σ} {body : σ → M (Res σ ρ)} {k : Sum σ ρ → M β} (q : σ → Pat) (h0 : PLe (q s0) p) (hc : ∀ s, TT (q s) c (t s)) (hb : ∀ s, TB (q s) F (body s) (Lp q er)) (hk : ∀ s, TB (q s) F' (k (.inl s)) P) (hr : ∀ r δ, Im (pure (Out.rt (er r), δ)) (k (.inr r)) P) : TB p (sSeq (whileL n c F) F') (whileR n t body s0 >>= k) P := fun δ A => by
  rw [sSeq_eq]
  exact (im_whileR hc hb n s0 δ (A.le h0)).bind fun s o ho => by
    obtain ⟨o, δ1⟩ := o
    cases s with
    | inl s =>
      obtain ⟨h1, h2⟩ := ho
      obtain rfl : o = .nx := h1
      exact hk s δ1 h2
    | inr r =>
      obtain rfl : o = .rt (er r) := ho
      exact hr r δ1
theorem tb_whileF {n : Nat} {c : Env → M Bool} {t : σ → M Bool} {s0 : σ} {body : σ → M (Res σ ρ)} {k : σ → M ρ} (q : σ → Pat) (h0 : PLe (q s0) p) (hc : ∀ s, TT (q s) c (t s)) (hb : ∀ s, TB (q s) F (body s) (Lp q er)) (hk : ∀ s, TB (q s) F' (k s) (Fn er)) : TB p (sSeq (whileL n c F) F') (whileR n t body s0 >>= elimF k) (Fn er) :=
  tb_whileG q h0 hc hb hk fun r δ => Im.pure (.inl rfl)
theorem tb_whileP {n : Nat} {c : Env → M Bool} {t : σ → M Bool} {s0 : σ} {body : σ → M (Res σ ρ)} {q' : τ → Pat} {k : σ → M (Res τ ρ)} (q : σ → Pat) (h0 : PLe (q s0) p) (hc : ∀ s, TT (q s) c (t s)) (hb : ∀ s, TB (q s) F (body s) (Lp q er)) (hk : ∀ s, TB (q s) F' (k s) (Lp q' er)) : TB p (sSeq (whileL n c F) F') (whileR n t body s0 >>= elimP k) (Lp q' er) :=
  tb_whileG q h0 hc hb hk fun r δ => Im.pure rfl

/-! ### comprehensions -/
theorem te_lc {own : List Nat} {T : Tg} {g : α → Pat → Pat} {fs : Env → M (List D)} {mi : M (List α)} {e2 : γ → D} {h : α → M γ} (hi : TAs p fs e mi) (t : TG T e g) (hf : ∀ a, TE (g a (wipeP p own)) f e2 (h a)) : TE p (eLc own T fs tYesF f) (eA e2) (mi >>= fun l => mapS h l) := fun δ A => by
  refine (hi δ A).bind fun l ds r => ?_
  subst r
  unfold mapS
  show Im (if (l.map e).length ≤ LIM then lcL T tYesF f (wipeD δ own) (l.map e) >>= fun ys => pure (D.lst ys) else fail) _ _
  rw [List.length_map]
  refine Im.ite (fun _ => ?_) fun _ => Im.fail
  have go : ∀ l : List α, Im (lcL T tYesF f (wipeD δ own) (l.map e)) (mapGo h l) fun ys ds => ds = ys.map e2 := fun l => by
    induction l with
    | nil => exact Im.pure rfl
    | cons a l ih =>
      obtain ⟨δ1, h1, h2⟩ := t a _ _ (A.wipe own)
      have e0 : lcL T tYesF f (wipeD δ own) ((a :: l).map e) = (liftO (setT T (e a) (wipeD δ own)) >>= fun δ1 => f δ1 >>= fun y => lcL T tYesF f (wipeD δ own) (l.map e) >>= fun ys => pure (y :: ys)) := rfl
      rw [e0, h1, liftO_pure, pb]
      exact (hf a δ1 h2).bind fun y d r => ih.bind fun ys ds s => Im.pure (by rw [r, s]; rfl)
  have h2 : Im (lcL T tYesF f (wipeD δ own) (l.map e) >>= fun ys => pure (D.lst ys)) (mapGo h l >>= pure) fun ys d => d = eA e2 ys := (go l).bind fun ys ds r => Im.pure (by rw [r])
  have : (mapGo h l >>= pure) = mapGo h l := by
    funext w
    show (mapGo h l w).bind (fun p => some (p.1, p.2)) = _
    cases mapGo h l w <;> rfl
  rw [this] at h2
  exact h2
theorem te_lcF {own : List Nat} {T : Tg} {g : α → Pat → Pat} {fs : Env → M (List D)} {mi : M (List α)} {e2 : γ → D} {h : α → M γ} {c : Env → M Bool} {t' : α → M Bool} (hi : TAs p fs e mi) (t : TG T e g) (ht : ∀ a, TT (g a (wipeP p own)) c (t' a)) (hf : ∀ a, TE (g a (wipeP p own)) f e2 (h a)) : TE p (eLc own T fs c f) (eA e2) (mi >>= fun l => filS t' h l) := fun δ A => by
  refine (hi δ A).bind fun l ds r => ?_
  subst r
  unfold filS
  show Im (if (l.map e).length ≤ LIM then lcL T c f (wipeD δ own) (l.map e) >>= fun ys => pure (D.lst ys) else fail) _ _
  rw [List.length_map]
  refine Im.ite (fun _ => ?_) fun _ => Im.fail
  have go : ∀ l : List α, Im (lcL T c f (wipeD δ own) (l.map e)) (filGo t' h l) fun ys ds => ds = ys.map e2 := fun l => by
    induction l with
    | nil => exact Im.pure rfl
    | cons a l ih =>
      obtain ⟨δ1, h1, h2⟩ := t a _ _ (A.wipe own)
      have e0 : lcL T c f (wipeD δ own) ((a :: l).map e) = (liftO (setT T (e a) (wipeD δ own)) >>= fun δ1 => c δ1 >>= fun k => if k = true then f δ1 >>= fun y => lcL T c f (wipeD δ own) (l.map e) >>= fun ys => pure (y :: ys) else lcL T c f (wipeD δ own) (l.map e)) := rfl
      rw [e0, h1, liftO_pure, pb]
      exact (ht a δ1 h2).bind fun k k' r => by
        subst r
        exact Im.ite (fun _ => (hf a δ1 h2).bind fun y d r => ih.bind fun ys ds s => Im.pure (by rw [r, s]; rfl)) fun _ => ih
  have h2 : Im (lcL T c f (wipeD δ own) (l.map e) >>= fun ys => pure (D.lst ys)) (filGo t' h l >>= pure) fun ys d => d = eA e2 ys := (go l).bind fun ys ds r => Im.pure (by rw [r])
  have : (filGo t' h l >>= pure) = filGo t' h l := by
    funext w
    show (filGo t' h l w).bind (fun p => some (p.1, p.2)) = _
    cases filGo t' h l w <;> rfl
  rw [this] at h2
  exact h2
/-! ### defs -/
theorem agr_some : ∀ l : List D, Agr (l.map some) (l.map some)
  | [] => .nil
  | d :: l => .at_ d (agr_some l)
theorem agr_none : ∀ n : Nat, Agr (List.replicate n none) (List.replicate n none)
  | 0 => .nil
  | n + 1 => .no _ (agr_none n)
theorem agr_app {p q : Pat} {δ ε : Env} (h : Agr p δ) (k : Agr q ε) : Agr (p ++ q) (δ ++ ε) := by
  induction h with
  | nil => exact k
  | no x _ ih => exact .no x ih
  | at_ d _ ih => exact .at_ d ih
theorem im_body {n k : Nat} {ds : List D} (hn : ds.length = n) (h : TB (ds.map some ++ List.replicate (k - ds.length) none) F m (Fn e)) : Im (bodyF n k F ds) m fun a d => d = e a := by
  rw [bodyF_eq hn]
  have h2 : Im (F (ds.map some ++ List.replicate (k - ds.length) none) >>= endF) (m >>= pure) fun a d => d = e a := (h _ (agr_app (agr_some ds) (agr_none _))).bind fun a o ho => by
    obtain ⟨o, δ⟩ := o
    rcases ho with ho | ⟨ho, h2⟩
    · obtain rfl : o = .rt (e a) := ho
      exact Im.pure rfl
    · obtain rfl : o = .nx := ho
      exact Im.pure (by rw [h2])
  have : (m >>= pure) = m := by
    funext w
    show (m w).bind (fun p => some (p.1, p.2)) = _
    cases m w <;> rfl
  rw [this] at h2
  exact h2
/-- a drawn number -/
def yNext (_ : Unit) (n : Int) : M Int := fun w => if 0 < n ∧ n < 1073741824 then some (nextW n w) else none
theorem im_next (u : Unit) (n : Int) : Im (nextF [eX u, eI n]) (yNext u n) fun c d => d = eI c := fun w b w' h => by
  have h' : (if 0 < n ∧ n < 1073741824 then some (nextW n w) else none) = some (b, w') := h
  by_cases c : 0 < n ∧ n < 1073741824
  · rw [if_pos c] at h'
    refine ⟨.int b, ?_, rfl⟩
    show (if 0 < n ∧ n < 1073741824 then some (D.int (nextW n w).1, (nextW n w).2) else none) = _
    rw [if_pos c]
    have := Option.some.inj h'
    rw [this]
  · rw [if_neg c] at h'
    cases h'
theorem wp_yNext {n : Int} {Q : Int → Dw → Prop} {w : Dw} {u : Unit} (hn : 0 < n ∧ n < 1073741824) (h : ∀ k w', 0 ≤ k → k < n → Q k w') : wp (yNext u n) Q w := by
  obtain ⟨h1, h2⟩ := nextW_lt (w := w) hn.1
  exact ⟨(nextW n w).1, (nextW n w).2, if_pos hn, h _ _ h1 h2⟩
theorem law_of {n : Nat} {m : M Bool} (h : TB (none :: some D.drw :: List.replicate n none) F m (Fn eB)) (k : ∀ w, wp m (fun b _ => b = true) w) : ∀ ns : List Int, ns.length ≤ 63 → ∃ δ' w', F (none :: some .drw :: List.replicate n none) ⟨ns, 0, 0, 17⟩ = some ((.rt (.bl true), δ'), w') := fun ns _ => by
  obtain ⟨b, w', h1, h2⟩ := k ⟨ns, 0, 0, 17⟩
  obtain ⟨o, h3, h4⟩ := h (none :: some .drw :: List.replicate n none) (.no _ (.at_ _ (agr_none n))) _ b w' h1
  obtain ⟨o, δ⟩ := o
  subst h2
  rcases h4 with h4 | ⟨_, h4⟩
  · obtain rfl : o = .rt (.bl true) := h4
    exact ⟨δ, w', h3⟩
  · cases h4
end
end Fc

/-! Defs that several laws share, as functions on data (printed by gen.py). -/
namespace Sh
open PySem PySem.Spec L2 Fc
def F__law_same (self : List D → M D) : F1 :=
    (sSeq (sIf (tT (eIsi2 "list" "tuple" (eVar 1))) (sSeq (sIf (tOrF (tB (eBin dNe (eIsi "list" (eVar 1)) (eIsi "list" (eVar 0)))) (tB (eBin dNe (eIsi "tuple" (eVar 1)) (eIsi "tuple" (eVar 0))))) (sRet (eC (.bl false))) sNil)
      (sSeq (sIf (tB (eBin dNe (eCall dLen (aCons (eVar 0) aNil)) (eCall dLen (aCons (eVar 1) aNil)))) (sRet (eC (.bl false))) sNil)
      (sRet (eCall dAll (aCons (eLc [2] (.nm 2) (itCall dRange1 (aCons (eCall dLen (aCons (eVar 1) aNil)) aNil)) tYesF (eDef self (aCons (eBin dIx (eVar 0) (eVar 2)) (aCons (eBin dIx (eVar 1) (eVar 2)) aNil)))) aNil))))) sNil)
    (sSeq (sIf (tB (eBin dIs (eVar 1) (eC .non))) (sRet (eBin dIs (eVar 0) (eC .non))) sNil)
    (sSeq (sIf (tB (eBin dNe (eIsi "bool" (eVar 1)) (eIsi "bool" (eVar 0)))) (sRet (eC (.bl false))) sNil)
    (sSeq (sIf (tT (eIsi "str" (eVar 1))) (sRet (eAndV (eIsi "str" (eVar 0)) (eBin dEq (eVar 0) (eVar 1)))) sNil)
    (sRet (eAndV (eIsi "int" (eVar 0)) (eBin dEq (eVar 0) (eVar 1))))))))
def r__law_same : Nat → List D → M D
  | 0 => fun _ => fail
  | n + 1 => bodyF 2 3 (F__law_same (r__law_same n))
def m__law_same : List D → M D := r__law_same 30
def F_ratio : F1 :=
    (sSeq (sIf (tB (eBin dLt (eVar 1) (eC (.int 0)))) (sPar 0 1 (aCons (eUn dNeg (eVar 0)) (aCons (eUn dNeg (eVar 1)) aNil))) sNil)
    (sSeq (sAsg (.nm 2) (eCall dGcd (aCons (eVar 0) (aCons (eVar 1) aNil))))
    (sRet (eTup (aCons (eBin dDiv (eVar 0) (eVar 2)) (aCons (eBin dDiv (eVar 1) (eVar 2)) aNil))))))
def m_ratio : List D → M D := bodyF 2 3 F_ratio
def F_add : F1 :=
    (sRet (eDef m_ratio (aCons (eBin dAdd (eBin dMul (eBin dIx (eVar 0) (eC (.int 0))) (eBin dIx (eVar 1) (eC (.int 1)))) (eBin dMul (eBin dIx (eVar 1) (eC (.int 0))) (eBin dIx (eVar 0) (eC (.int 1))))) (aCons (eBin dMul (eBin dIx (eVar 0) (eC (.int 1))) (eBin dIx (eVar 1) (eC (.int 1)))) aNil))))
def m_add : List D → M D := bodyF 2 2 F_add
def F_subtract : F1 :=
    (sRet (eDef m_ratio (aCons (eBin dSub (eBin dMul (eBin dIx (eVar 0) (eC (.int 0))) (eBin dIx (eVar 1) (eC (.int 1)))) (eBin dMul (eBin dIx (eVar 1) (eC (.int 0))) (eBin dIx (eVar 0) (eC (.int 1))))) (aCons (eBin dMul (eBin dIx (eVar 0) (eC (.int 1))) (eBin dIx (eVar 1) (eC (.int 1)))) aNil))))
def m_subtract : List D → M D := bodyF 2 2 F_subtract
def F_multiply : F1 :=
    (sRet (eDef m_ratio (aCons (eBin dMul (eBin dIx (eVar 0) (eC (.int 0))) (eBin dIx (eVar 1) (eC (.int 0)))) (aCons (eBin dMul (eBin dIx (eVar 0) (eC (.int 1))) (eBin dIx (eVar 1) (eC (.int 1)))) aNil))))
def m_multiply : List D → M D := bodyF 2 2 F_multiply
def F_divide : F1 :=
    (sRet (eDef m_ratio (aCons (eBin dMul (eBin dIx (eVar 0) (eC (.int 0))) (eBin dIx (eVar 1) (eC (.int 1)))) (aCons (eBin dMul (eBin dIx (eVar 0) (eC (.int 1))) (eBin dIx (eVar 1) (eC (.int 0)))) aNil))))
def m_divide : List D → M D := bodyF 2 2 F_divide
def F_less : F1 :=
    (sRet (eBin dLt (eBin dMul (eBin dIx (eVar 0) (eC (.int 0))) (eBin dIx (eVar 1) (eC (.int 1)))) (eBin dMul (eBin dIx (eVar 1) (eC (.int 0))) (eBin dIx (eVar 0) (eC (.int 1))))))
def m_less : List D → M D := bodyF 2 2 F_less
def F_is_ratio : F1 :=
    (sSeq (sIf (tOrF (tNotF (tT (eIsi "tuple" (eVar 0)))) (tB (eBin dNe (eCall dLen (aCons (eVar 0) aNil)) (eC (.int 2))))) (sRet (eC (.bl false))) sNil)
    (sSeq (sFor (.nm 1) (itSeq (eVar 0)) (sIf (tOrF (tT (eIsi "bool" (eVar 1))) (tNotF (tT (eIsi "int" (eVar 1))))) (sRet (eC (.bl false))) sNil))
    (sRet (eAndV (eBin dGe (eBin dIx (eVar 0) (eC (.int 1))) (eC (.int 1))) (eBin dEq (eCall dGcd (aCons (eBin dIx (eVar 0) (eC (.int 0))) (aCons (eBin dIx (eVar 0) (eC (.int 1))) aNil))) (eC (.int 1)))))))
def m_is_ratio : List D → M D := bodyF 1 2 F_is_ratio
def F_floor_of : F1 :=
    (sRet (eBin dDiv (eBin dIx (eVar 0) (eC (.int 0))) (eBin dIx (eVar 0) (eC (.int 1)))))
def m_floor_of : List D → M D := bodyF 1 1 F_floor_of
def F_ceiling_of : F1 :=
    (sRet (eUn dNeg (eBin dDiv (eUn dNeg (eBin dIx (eVar 0) (eC (.int 0)))) (eBin dIx (eVar 0) (eC (.int 1))))))
def m_ceiling_of : List D → M D := bodyF 1 1 F_ceiling_of
def F_least_turn : F1 :=
    (sSeq (sFor (.nm 1) (itCall dRange2 (aCons (eC (.int 1)) (aCons (eCall dLen (aCons (eVar 0) aNil)) aNil))) (sIf (tAndF (tB (eBin dEq (eBin dMod (eCall dLen (aCons (eVar 0) aNil)) (eVar 1)) (eC (.int 0)))) (tB (eBin dEq (eVar 0) (eBin dMul (eSl (eVar 0) oNone (oSome (eVar 1))) (eBin dDiv (eCall dLen (aCons (eVar 0) aNil)) (eVar 1)))))) (sRet (eSl (eVar 0) oNone (oSome (eVar 1)))) sNil))
    (sRet (eVar 0)))
def m_least_turn : List D → M D := bodyF 1 2 F_least_turn
def F_calendar_of : F1 :=
    (sSeq (sAsg (.nm 1) (eDef m_least_turn (aCons (eVar 1) aNil)))
    (sSeq (sAsg (.nm 2) (eCall dLen (aCons (eVar 0) aNil)))
    (sSeq (whileL 1000 (tAndF (tB (eBin dGt (eVar 2) (eC (.int 0)))) (tB (eBin dEq (eBin dIx (eVar 0) (eBin dSub (eVar 2) (eC (.int 1)))) (eBin dIx (eVar 1) (eBin dMod (eBin dSub (eBin dSub (eVar 2) (eCall dLen (aCons (eVar 0) aNil))) (eC (.int 1))) (eCall dLen (aCons (eVar 1) aNil))))))) (sAsg (.nm 2) (eBin dSub (eVar 2) (eC (.int 1)))))
    (sSeq (sAsg (.nm 3) (eBin dMod (eBin dSub (eVar 2) (eCall dLen (aCons (eVar 0) aNil))) (eCall dLen (aCons (eVar 1) aNil))))
    (sRet (eTup (aCons (eSl (eVar 0) oNone (oSome (eVar 2))) (aCons (eBin dAdd (eSl (eVar 1) (oSome (eVar 3)) oNone) (eSl (eVar 1) oNone (oSome (eVar 3)))) aNil))))))))
def m_calendar_of : List D → M D := bodyF 2 4 F_calendar_of
def F_every : F1 :=
    (sSeq (sAsg (.nm 3) (eCall dTuple (aCons (eLc [4] (.nm 4) (itCall dRange1 (aCons (eVar 1) aNil)) tYesF (eIf (tB (eBin dLt (eVar 4) (eVar 2))) (eC (.int 1)) (eC (.int 0)))) aNil)))
    (sRet (eDef m_calendar_of (aCons (eBin dMul (eTup (aCons (eC (.int 0)) aNil)) (eVar 0)) (aCons (eVar 3) aNil)))))
def m_every : List D → M D := bodyF 3 5 F_every
def F_flag_at : F1 :=
    (sSeq (sAsg (.tp [(.nm 2), (.nm 3)]) (eVar 0))
    (sSeq (sIf (tB (eBin dLt (eVar 1) (eCall dLen (aCons (eVar 2) aNil)))) (sRet (eBin dIx (eVar 2) (eVar 1))) sNil)
    (sRet (eBin dIx (eVar 3) (eBin dMod (eBin dSub (eVar 1) (eCall dLen (aCons (eVar 2) aNil))) (eCall dLen (aCons (eVar 3) aNil)))))))
def m_flag_at : List D → M D := bodyF 2 4 F_flag_at
def F_holds : F1 :=
    (sRet (eBin dEq (eDef m_flag_at (aCons (eVar 0) (aCons (eVar 1) aNil))) (eC (.int 1))))
def m_holds : List D → M D := bodyF 2 2 F_holds
def F_is_row : F1 :=
    (sRet (eAndV (eIsi "tuple" (eVar 0)) (eAndV (eBin dGe (eCall dLen (aCons (eVar 0) aNil)) (eVar 1)) (eOrV (eBin dIs (eVar 2) (eC .non)) (eBin dLe (eCall dLen (aCons (eVar 0) aNil)) (eVar 2))))))
def m_is_row : List D → M D := bodyF 3 3 F_is_row
def F_is_whole : F1 :=
    (sSeq (sIf (tOrF (tT (eIsi "bool" (eVar 0))) (tNotF (tT (eIsi "int" (eVar 0))))) (sRet (eC (.bl false))) sNil)
    (sRet (eAndV (eOrV (eBin dIs (eVar 1) (eC .non)) (eBin dGe (eVar 0) (eVar 1))) (eOrV (eBin dIs (eVar 2) (eC .non)) (eBin dLe (eVar 0) (eVar 2))))))
def m_is_whole : List D → M D := bodyF 3 3 F_is_whole
def F_is_integer : F1 :=
    (sRet (eAndV (eIsi "int" (eVar 0)) (eNotT (eIsi "bool" (eVar 0)))))
def m_is_integer : List D → M D := bodyF 1 1 F_is_integer
def F_is_number : F1 :=
    (sRet (eAndV (eDef m_is_integer (aCons (eVar 0) aNil)) (eAndV (eBin dGe (eVar 0) (eVar 1)) (eOrV (eBin dIs (eVar 2) (eC .non)) (eBin dLe (eVar 0) (eVar 2))))))
def m_is_number : List D → M D := bodyF 3 3 F_is_number
def F_are_flags : F1 :=
    (sRet (eAndV (eIsi "tuple" (eVar 0)) (eCall dAll (aCons (eLc [1] (.nm 1) (itSeq (eVar 0)) tYesF (eDef m_is_number (aCons (eVar 1) (aCons (eC (.int 0)) (aCons (eC (.int 1)) aNil))))) aNil))))
def m_are_flags : List D → M D := bodyF 1 2 F_are_flags
def F_is_calendar : F1 :=
    (sSeq (sIf (tOrF (tNotF (tT (eIsi "tuple" (eVar 0)))) (tB (eBin dNe (eCall dLen (aCons (eVar 0) aNil)) (eC (.int 2))))) (sRet (eC (.bl false))) sNil)
    (sSeq (sAsg (.tp [(.nm 1), (.nm 2)]) (eVar 0))
    (sSeq (sIf (tOrF (tNotF (tT (eDef m_are_flags (aCons (eVar 1) aNil)))) (tOrF (tNotF (tT (eDef m_are_flags (aCons (eVar 2) aNil)))) (tB (eBin dEq (eVar 2) (eTup aNil))))) (sRet (eC (.bl false))) sNil)
    (sRet (eBin dEq (eDef m_calendar_of (aCons (eVar 1) (aCons (eVar 2) aNil))) (eVar 0))))))
def m_is_calendar : List D → M D := bodyF 1 3 F_is_calendar
def F_is_load : F1 :=
    (sRet (eAndV (eDef m_is_row (aCons (eVar 0) (aCons (eC (.int 2)) (aCons (eC (.int 2)) aNil)))) (eAndV (eDef m_is_whole (aCons (eBin dIx (eVar 0) (eC (.int 0))) (aCons (eC (.int 1)) (aCons (eC (.int 999)) aNil)))) (eDef m_is_calendar (aCons (eBin dIx (eVar 0) (eC (.int 1))) aNil)))))
def m_is_load : List D → M D := bodyF 1 1 F_is_load
end Sh

namespace Sh
open PySem L2 Fc
local macro_rules | `(tactic| walk_at "ev") => `(tactic| simp (disch := omega) only [List.map_cons, List.map_nil, List.length_cons, List.length_nil, List.replicate, List.cons_append, List.nil_append,
  sIf, Fc.tB, tT, tAndF, tOrF, tNotF, eBin, eUn, eVar_zero, eVar_succ, eC, pb, asB, asI, liftO_pure, sPar, aCons, aNil, sAsg, eCall, eDef, setT, setTs, sRet, sNil, eTup, eLst, eIf, eIsi, eIsi2, isTy2, eNotT, eAndV, eOrV, eChain, eSl, oNone, oSome, sBk, sCt, itCall, itSeq, dItems,
  dAdd_int, dAdd_tup, dMul_tup, dRange1_ok, dRange2_ok, dSub, dDiv_ok, dMod_ok, dMul_okL, dMul_okR, len_ok, dLt, dLe, dGt, dGe, dEq_int, dNe_int, dNeg, dLen, dAbs, dInt, dGcd, dMax2, dMin2, dTuple, dList, dTru, dIs_non, dIsNot_non, dIs_bl, dIsNot_bl, isNon_int, isNon_bl, isNon_str, isNon_tup, isNon_lst, isNon_non, dEq_bl, dNe_bl, dIx_tup, dIx_lst, at0, at1, at2, dSl,
  isTy_int_non, isTy_int_bl, isTy_int_int, isTy_int_str, isTy_int_tup, isTy_int_lst, isTy_bool_non, isTy_bool_bl, isTy_bool_int, isTy_bool_str, isTy_bool_tup, isTy_bool_lst, isTy_tuple_non, isTy_tuple_bl, isTy_tuple_int, isTy_tuple_str, isTy_tuple_tup, isTy_tuple_lst, isTy_list_non, isTy_list_bl, isTy_list_int, isTy_list_str, isTy_list_tup, isTy_list_lst, isTy_str_non, isTy_str_bl, isTy_str_int, isTy_str_str, isTy_str_tup, isTy_str_lst,
  opt_bind_some, opt_map_some, Bool.or_true, Bool.true_or, Bool.or_false, Bool.false_or, Bool.not_true, Bool.not_false, Bool.and_true, Bool.true_and,
  decide_true, decide_false, if_tt, if_ff, if_T, if_F, set_zero, set_succ, endF_rt, endF_nx, decide_eq_true, decide_eq_false, *])
/-! ### cuts -/
theorem cut_take {α : Type} (l : List α) {k : Int} (h : 0 ≤ k) : cutD l none (some k) = l.take k.toNat := by
  unfold cutD HT.sIx
  dsimp only
  rw [if_neg (by omega), List.drop_zero, Nat.sub_zero]
  by_cases h1 : k.toNat ≤ l.length
  · rw [Nat.min_eq_left h1]
  · rw [Nat.min_eq_right (by omega), List.take_length, List.take_of_length_le (by omega)]
theorem cut_drop {α : Type} (l : List α) {k : Int} (h : 0 ≤ k) : cutD l (some k) none = l.drop k.toNat := by
  unfold cutD HT.sIx
  dsimp only
  rw [if_neg (by omega)]
  by_cases h1 : k.toNat ≤ l.length
  · rw [Nat.min_eq_left h1, List.take_of_length_le (by rw [List.length_drop]; omega)]
  · rw [Nat.min_eq_right (by omega), List.drop_length, List.drop_of_length_le (by omega), List.take_nil]
theorem at_getD (l : List Int) {k : Int} (h0 : 0 ≤ k) (h : k < l.length) : atI (zl l) k = some (.int (l.getD k.toNat 0)) := by
  have e : k = (k.toNat : Int) := by omega
  have hl : k.toNat < l.length := by omega
  have h1 : atI l (k.toNat : Int) = some l[k.toNat] := atI_nat (List.getElem?_eq_getElem hl)
  rw [← e] at h1
  rw [ints_at, h1, List.getD_eq_getElem?_getD, List.getElem?_eq_getElem hl]
  rfl
theorem range_mem {lo : Int} {n : Nat} {d : D} (h : d ∈ rangeD lo n) : ∃ i, i < n ∧ d = .int (lo + (i : Nat)) := by
  unfold rangeD at h
  obtain ⟨i, hi, e⟩ := List.mem_map.mp h
  exact ⟨i, List.mem_range.mp hi, e.symm⟩
theorem find_range (lo : Int) (n : Nat) (p : D → Bool) : (rangeD lo n).find? p = ((List.range n).find? fun i => p (.int (lo + (i : Nat)))).map fun (i : Nat) => D.int (lo + i) := by
  unfold rangeD
  rw [List.find?_map]
  rfl

/-! ### the shortest turn -/
def leP (l : List Int) : D → Bool
  | .int k => Cal.rootAt l k.toNat
  | _ => false
def leR (l : List Int) : D → D
  | .int k => .tup (zl (l.take k.toNat))
  | _ => .non
theorem m_least_turn_eq (l : List Int) (hl : l.length ≤ 1000) : m_least_turn [.tup (zl l)] = pure (.tup (zl (Cal.leastRoot l))) := by
  unfold m_least_turn
  rw [bodyF_1]
  show (F_least_turn [some (.tup (zl l)), none] >>= endF) = _
  unfold F_least_turn
  have hlen : (zl l).length = l.length := ints_len l
  refine q_for (ds := rangeD 1 ((l.length : Int) - 1).toNat) (by walk_at "ev") ?_
  have loop := forL_find (T := .nm 1) (F := sIf (tAndF (Fc.tB (eBin dEq (eBin dMod (eCall dLen (aCons (eVar 0) aNil)) (eVar 1)) (eC (.int 0)))) (Fc.tB (eBin dEq (eVar 0) (eBin dMul (eSl (eVar 0) oNone (oSome (eVar 1))) (eBin dDiv (eCall dLen (aCons (eVar 0) aNil)) (eVar 1)))))) (sRet (eSl (eVar 0) oNone (oSome (eVar 1)))) sNil)
    (fun δ => ∃ x, δ = [some (.tup (zl l)), x]) (leP l) (leR l) (ds := rangeD 1 ((l.length : Int) - 1).toNat) (δ := [some (.tup (zl l)), none]) ⟨none, rfl⟩ fun d hd δ hδ => by
    obtain ⟨x, rfl⟩ := hδ
    obtain ⟨i, hi, rfl⟩ := range_mem hd
    refine ⟨[some (.tup (zl l)), some (.int (1 + i))], [some (.tup (zl l)), some (.int (1 + i))], rfl, ?_⟩
    have k0 : (0 : Int) ≤ 1 + i := by omega
    have tn : ((1 : Int) + i).toNat = i + 1 := by omega
    have fm : ((l.length : Int)).fmod (1 + i) = ((l.length % (i + 1) : Nat) : Int) := by
      rw [fmod_pos (by omega)]
      have : ((1 : Int) + i) = ((i + 1 : Nat) : Int) := by omega
      rw [this, Int.natCast_emod]
    have fd : ((l.length : Int)).fdiv (1 + i) = ((l.length / (i + 1) : Nat) : Int) := by
      rw [fdiv_pos (by omega)]
      have : ((1 : Int) + i) = ((i + 1 : Nat) : Int) := by omega
      rw [this, Int.natCast_ediv]
    show (Cal.rootAt l ((1 : Int) + i).toNat = true ∧ _) ∨ (Cal.rootAt l ((1 : Int) + i).toNat = false ∧ _)
    rw [tn]
    have hq : l.length / (i + 1) ≤ 1000 := Nat.le_trans (Nat.div_le_self _ _) hl
    have ecut : cutD (zl l) none (some (1 + (i : Int))) = zl (l.take (i + 1)) := by rw [ints_cut, cut_take _ k0, tn]
    have emulA : ∀ q : Nat, q ≤ 1000 → dMul (.tup (zl (l.take (i + 1)))) (.int (q : Int)) = some (.tup (zl (List.replicate q (l.take (i + 1))).flatten)) := fun q hq => by
      rw [dMul_tup (by omega) (by omega) (by rw [ints_len, List.length_take]; omega), ints_rep]
      rfl
    have emul := emulA _ hq
    have c0 : (tAndF (Fc.tB (eBin dEq (eBin dMod (eCall dLen (aCons (eVar 0) aNil)) (eVar 1)) (eC (.int 0)))) (Fc.tB (eBin dEq (eVar 0) (eBin dMul (eSl (eVar 0) oNone (oSome (eVar 1))) (eBin dDiv (eCall dLen (aCons (eVar 0) aNil)) (eVar 1)))))) [some (.tup (zl l)), some (.int (1 + i))] = pure (Cal.rootAt l (i + 1)) := by
      unfold Cal.rootAt
      by_cases hm : l.length % (i + 1) = 0
      · have hm' : ((l.length % (i + 1) : Nat) : Int) = 0 := by omega
        walk_at "ev"
        rw [dEq_ints]
        rfl
      · have hm' : ¬ ((l.length % (i + 1) : Nat) : Int) = 0 := by omega
        walk_at "ev"
        rfl
    cases hc : Cal.rootAt l (i + 1) with
    | true =>
      refine .inl ⟨rfl, ?_⟩
      rw [hc] at c0
      rw [sIf_t c0]
      walk_at "ev"
      show _ = pure (Out.rt (D.tup (zl (l.take ((1 : Int) + i).toNat))), _)
      rw [tn]
    | false =>
      refine .inr ⟨rfl, ?_, _, rfl⟩
      rw [hc] at c0
      rw [sIf_f c0]
      rfl
  have hlen1 : ((l.length : Int) - 1).toNat = l.length - 1 := by omega
  have tn : ∀ i : Nat, ((1 : Int) + i).toNat = i + 1 := fun i => by omega
  have hP : (fun (i : Nat) => leP l (.int (1 + (i : Nat)))) = fun i => Cal.rootAt l (i + 1) := by
    funext i
    show Cal.rootAt l ((1 : Int) + i).toNat = _
    rw [tn]
  rw [hlen1] at loop ⊢
  rw [find_range, hP] at loop
  unfold Cal.leastRoot
  rcases loop with ⟨d, δ', h1, h2⟩ | ⟨δ', h1, h2, x, rfl⟩
  · rw [h2, pb]
    cases hf : (List.range (l.length - 1)).find? fun i => Cal.rootAt l (i + 1) with
    | none => rw [hf] at h1; cases h1
    | some i =>
      rw [hf] at h1
      cases h1
      show (pure (D.tup (zl (l.take ((1 : Int) + i).toNat))) : M D) = _
      rw [tn]
  · rw [h2, pb]
    cases hf : (List.range (l.length - 1)).find? fun i => Cal.rootAt l (i + 1) with
    | some i => rw [hf] at h1; cases h1
    | none => rfl

/-! ### the shortest pair -/
theorem vt_at {n : Nat} {t : List Int} {i : Nat} (ht : t ≠ []) : atI (zl t) (((i : Int) - n).fmod t.length) = some (.int (Cal.vt n t i)) := by
  have hp : 0 < (t.length : Int) := by have := List.length_pos_iff.mpr ht; omega
  rw [fmod_pos hp]
  have h1 := Int.emod_nonneg ((i : Int) - n) (by omega : (t.length : Int) ≠ 0)
  have h2 := Int.emod_lt_of_pos ((i : Int) - n) hp
  rw [at_getD t h1 h2]
  rfl
theorem root_ne {t : List Int} (ht : t ≠ []) : Cal.leastRoot t ≠ [] := by
  obtain ⟨L, hr, hL, hLn, _⟩ := Cal.root_spec ht
  rw [hr]
  intro z
  have := congrArg List.length z
  rw [List.length_take] at this
  have h0 : ([] : List Int).length = 0 := rfl
  omega
theorem root_len {t : List Int} : (Cal.leastRoot t).length ≤ t.length := by
  unfold Cal.leastRoot
  split
  · rw [List.length_take]; omega
  · exact Nat.le_refl _
theorem m_calendar_of_eq (h t : List Int) (ht : t ≠ []) (h1 : h.length ≤ 900) (h2 : t.length ≤ 900) : m_calendar_of [.tup (zl h), .tup (zl t)] = pure (calD (Cal.calOf h t).1 (Cal.calOf h t).2) := by
  have hr := root_ne ht
  have hrl := root_len (t := t)
  have hlen : (zl h).length = h.length := ints_len h
  have rlen : (zl (Cal.leastRoot t)).length = (Cal.leastRoot t).length := ints_len _
  have hp : 0 < ((Cal.leastRoot t).length : Int) := by have := List.length_pos_iff.mpr hr; omega
  have hlt := m_least_turn_eq t (by omega)
  unfold m_calendar_of
  rw [bodyF_2]
  show (F_calendar_of [some (.tup (zl h)), some (.tup (zl t)), none, none] >>= endF) = _
  unfold F_calendar_of
  refine q_seq (δ1 := [some (.tup (zl h)), some (.tup (zl (Cal.leastRoot t))), none, none]) (by walk_at "ev") ?_
  refine q_seq (δ1 := [some (.tup (zl h)), some (.tup (zl (Cal.leastRoot t))), some (.int (h.length : Int)), none]) (by walk_at "ev") ?_
  have loop : ∀ k n, k ≤ h.length → k < n → whileL n (tAndF (Fc.tB (eBin dGt (eVar 2) (eC (.int 0)))) (Fc.tB (eBin dEq (eBin dIx (eVar 0) (eBin dSub (eVar 2) (eC (.int 1)))) (eBin dIx (eVar 1) (eBin dMod (eBin dSub (eBin dSub (eVar 2) (eCall dLen (aCons (eVar 0) aNil))) (eC (.int 1))) (eCall dLen (aCons (eVar 1) aNil))))))) (sAsg (.nm 2) (eBin dSub (eVar 2) (eC (.int 1)))) [some (.tup (zl h)), some (.tup (zl (Cal.leastRoot t))), some (.int (k : Int)), none] =
      pure (.nx, [some (.tup (zl h)), some (.tup (zl (Cal.leastRoot t))), some (.int (Cal.trim h (Cal.leastRoot t) k : Int)), none]) := by
    intro k
    induction k with
    | zero =>
      intro n hk hn
      obtain ⟨n, rfl⟩ : ∃ m, n = m + 1 := ⟨n - 1, by omega⟩
      refine whileL_end ?_
      walk_at "ev"
    | succ k ih =>
      intro n hk hn
      obtain ⟨n, rfl⟩ : ∃ m, n = m + 1 := ⟨n - 1, by omega⟩
      have e1 : (((k + 1 : Nat) : Int) - 1) = (k : Int) := by omega
      have e2 : (((k + 1 : Nat) : Int) - (h.length : Int) - 1) = ((k : Int) - h.length) := by omega
      have e3 : atI (zl h) (k : Int) = some (.int (h.getD k 0)) := by
        have := at_getD h (k := (k : Int)) (by omega) (by omega)
        rw [this]
        rfl
      have e4 := vt_at (n := h.length) (i := k) hr
      unfold Cal.trim
      by_cases hc : h.getD k 0 = Cal.vt h.length (Cal.leastRoot t) k
      · rw [if_pos hc, ← ih n (by omega) (by omega)]
        refine whileL_step ?_ ?_
        · walk_at "ev"
        · walk_at "ev"
      · rw [if_neg hc]
        refine whileL_end ?_
        walk_at "ev"
  refine q_seq (loop h.length 1000 (Nat.le_refl _) (by omega)) ?_
  have hN := Cal.trim_le h (Cal.leastRoot t) h.length
  generalize hNN : Cal.trim h (Cal.leastRoot t) h.length = N at hN ⊢
  refine q_seq (δ1 := [some (.tup (zl h)), some (.tup (zl (Cal.leastRoot t))), some (.int (N : Int)), some (.int (((N : Int) - h.length) % (Cal.leastRoot t).length))]) (by
    have e := fmod_pos (a := (N : Int) - h.length) hp
    walk_at "ev") ?_
  have m0 := Int.emod_nonneg ((N : Int) - h.length) (by omega : ((Cal.leastRoot t).length : Int) ≠ 0)
  have m1 := Int.emod_lt_of_pos ((N : Int) - h.length) hp
  have c1 : cutD (zl h) none (some (N : Int)) = zl (h.take N) := by
    rw [ints_cut, cut_take _ (by omega)]
    rfl
  have c2 : cutD (zl (Cal.leastRoot t)) (some (((N : Int) - h.length) % (Cal.leastRoot t).length)) none = zl ((Cal.leastRoot t).drop (((N : Int) - h.length) % (Cal.leastRoot t).length).toNat) := by rw [ints_cut, cut_drop _ m0]
  have c3 : cutD (zl (Cal.leastRoot t)) none (some (((N : Int) - h.length) % (Cal.leastRoot t).length)) = zl ((Cal.leastRoot t).take (((N : Int) - h.length) % (Cal.leastRoot t).length).toNat) := by rw [ints_cut, cut_take _ m0]
  have l2 : (zl ((Cal.leastRoot t).drop (((N : Int) - h.length) % (Cal.leastRoot t).length).toNat)).length + (zl ((Cal.leastRoot t).take (((N : Int) - h.length) % (Cal.leastRoot t).length).toNat)).length ≤ 100000 := by
    rw [ints_len, ints_len, List.length_drop, List.length_take]
    omega
  refine q_end (d := calD (h.take N) ((Cal.leastRoot t).drop (((N : Int) - h.length) % (Cal.leastRoot t).length).toNat ++ (Cal.leastRoot t).take (((N : Int) - h.length) % (Cal.leastRoot t).length).toNat)) (by
    have e5 := dAdd_tup l2
    rw [ints_app] at e5
    walk_at "ev"
    rfl) ?_
  rw [endF_rt]
  unfold Cal.calOf
  dsimp only
  rw [hNN]

/-! ### flags, and what is in a calendar -/
theorem m_flag_at_eq (h t : List Int) (k : Int) (ht : t ≠ []) (h0 : 0 ≤ k) : m_flag_at [calD h t, .int k] = pure (.int (Cal.val h t k.toNat)) := by
  have hlen : (zl h).length = h.length := ints_len h
  have tlen : (zl t).length = t.length := ints_len t
  have hp : 0 < (t.length : Int) := by have := List.length_pos_iff.mpr ht; omega
  unfold m_flag_at
  rw [bodyF_2]
  show (F_flag_at [some (.tup [.tup (zl h), .tup (zl t)]), some (.int k), none, none] >>= endF) = _
  unfold F_flag_at
  refine q_seq (δ1 := [some (.tup [.tup (zl h), .tup (zl t)]), some (.int k), some (.tup (zl h)), some (.tup (zl t))]) (by walk_at "ev") ?_
  by_cases hk : k < h.length
  · have e := at_getD h h0 hk
    refine q_ret (d := .int (h.getD k.toNat 0)) (by walk_at "ev"; rfl) ?_
    rw [endF_rt]
    unfold Cal.val
    rw [if_pos (by omega)]
  · refine q_seq (δ1 := [some (.tup [.tup (zl h), .tup (zl t)]), some (.int k), some (.tup (zl h)), some (.tup (zl t))]) (by walk_at "ev") ?_
    have e2 : (k - (h.length : Int)).fmod t.length = (((k.toNat - h.length) % t.length : Nat) : Int) := by
      rw [fmod_pos hp]
      have : k - (h.length : Int) = ((k.toNat - h.length : Nat) : Int) := by omega
      rw [this, Int.natCast_emod]
    have hm : (k.toNat - h.length) % t.length < t.length := Nat.mod_lt _ (by omega)
    generalize hq : (k.toNat - h.length) % t.length = q at e2 hm
    have e3 := at_getD t (k := (q : Int)) (by omega) (by omega)
    refine q_end (d := .int (t.getD q 0)) (by walk_at "ev"; rfl) ?_
    rw [endF_rt]
    unfold Cal.val
    rw [if_neg (by omega), hq]
theorem m_holds_eq (h t : List Int) (k : Int) (ht : t ≠ []) (h0 : 0 ≤ k) : m_holds [calD h t, .int k] = pure (.bl (decide (Cal.val h t k.toNat = 1))) := by
  have e := m_flag_at_eq h t k ht h0
  unfold m_holds
  rw [bodyF_2]
  show (F_holds [some (calD h t), some (.int k)] >>= endF) = _
  unfold F_holds
  refine q_end (d := .bl (decide (Cal.val h t k.toNat = 1))) (by walk_at "ev" <;> rfl) ?_
  rw [endF_rt]
/-- the turn of every so many times -/
def evT (period long : Int) : List Int := (List.range period.toNat).map fun (i : Nat) => if (i : Int) < long then (1 : Int) else 0
theorem zl_rep (n : Nat) (x : Int) : List.replicate n (D.int x) = zl (List.replicate n x) := by
  unfold zl
  rw [List.map_replicate]
theorem m_every_eq (first period long : Int) (h1 : 0 ≤ first ∧ first ≤ 200) (h2 : 1 ≤ period ∧ period ≤ 60) : m_every [.int first, .int period, .int long] = pure (calD (Cal.calOf (List.replicate first.toNat 0) (evT period long)).1 (Cal.calOf (List.replicate first.toNat 0) (evT period long)).2) := by
  unfold m_every
  rw [bodyF_3]
  show (F_every [some (.int first), some (.int period), some (.int long), none, none] >>= endF) = _
  unfold F_every
  have comp : lcL (.nm 4) tYesF (eIf (Fc.tB (eBin dLt (eVar 4) (eVar 2))) (eC (.int 1)) (eC (.int 0))) [some (.int first), some (.int period), some (.int long), none, none] (rangeD 0 period.toNat) = pure (zl (evT period long)) := by
    rw [lcL_map (fun d => match d with | .int i => .int (if i < long then 1 else 0) | _ => .non) fun d hd => ?_]
    · refine pure_inj ?_
      unfold rangeD evT zl
      rw [List.map_map, List.map_map]
      refine List.map_congr_left fun i _ => ?_
      show D.int (if (0 : Int) + i < long then 1 else 0) = D.int (if (i : Int) < long then 1 else 0)
      rw [Int.zero_add]
    · obtain ⟨i, hi, rfl⟩ := range_mem hd
      refine ⟨[some (.int first), some (.int period), some (.int long), none, some (.int (0 + i))], rfl, ?_⟩
      show _ = pure (D.int (if (0 : Int) + i < long then 1 else 0))
      by_cases hc : (0 : Int) + i < long
      · rw [if_pos hc]
        walk_at "ev"
      · rw [if_neg hc]
        walk_at "ev"
  have hl : (rangeD 0 period.toNat).length = period.toNat := rangeD_len _ _
  have e0 : eLc [4] (.nm 4) (itCall dRange1 (aCons (eVar 1) aNil)) tYesF (eIf (Fc.tB (eBin dLt (eVar 4) (eVar 2))) (eC (.int 1)) (eC (.int 0))) [some (.int first), some (.int period), some (.int long), none, none] = pure (.lst (zl (evT period long))) := eLc_eq (ds := rangeD 0 period.toNat) (by walk_at "ev") (by omega) comp
  refine q_seq (δ1 := [some (.int first), some (.int period), some (.int long), some (.tup (zl (evT period long))), none]) (by
    walk_at "ev") ?_
  have el : (evT period long).length = period.toNat := by unfold evT; rw [List.length_map, List.length_range]
  have ene : evT period long ≠ [] := by
    intro z
    rw [z] at el
    have h0 : ([] : List Int).length = 0 := rfl
    omega
  have e1 : dMul (.tup [.int 0]) (.int first) = some (.tup (zl (List.replicate first.toNat 0))) := by
    rw [dMul_tup (by omega) (by omega) (by simp)]
    have : (List.replicate first.toNat [D.int 0]).flatten = zl (List.replicate first.toNat 0) := by
      have e := ints_rep [0] first.toNat
      have e9 : (List.replicate first.toNat [(0 : Int)]).flatten = List.replicate first.toNat 0 := by simp
      rw [← e9, ← e]
      rfl
    rw [this]
  have e2 := m_calendar_of_eq (List.replicate first.toNat 0) (evT period long) ene (by rw [List.length_replicate]; omega) (by rw [el]; omega)
  refine q_end (d := calD (Cal.calOf (List.replicate first.toNat 0) (evT period long)).1 (Cal.calOf (List.replicate first.toNat 0) (evT period long)).2) (by walk_at "ev" <;> rfl) ?_
  rw [endF_rt]
/-! ### shapes -/
theorem m_is_number_eq (k a b : Int) : m_is_number [.int k, .int a, .int b] = pure (.bl (decide (a ≤ k ∧ k ≤ b))) := by
  have e : m_is_integer [.int k] = pure (.bl true) := rfl
  unfold m_is_number
  rw [bodyF_3]
  show (F_is_number [some (.int k), some (.int a), some (.int b)] >>= endF) = _
  unfold F_is_number
  by_cases h1 : a ≤ k
  · by_cases h2 : k ≤ b
    · refine q_end (d := .bl true) (by walk_at "ev" <;> rfl) ?_
      rw [endF_rt, decide_eq_true (show a ≤ k ∧ k ≤ b from ⟨h1, h2⟩)]
    · refine q_end (d := .bl false) (by walk_at "ev" <;> rfl) ?_
      rw [endF_rt, decide_eq_false (show ¬ (a ≤ k ∧ k ≤ b) from fun z => h2 z.2)]
  · refine q_end (d := .bl false) (by walk_at "ev" <;> rfl) ?_
    rw [endF_rt, decide_eq_false (show ¬ (a ≤ k ∧ k ≤ b) from fun z => h1 z.1)]
theorem m_are_flags_eq (l : List Int) (hl : l.length ≤ 100000) : m_are_flags [.tup (zl l)] = pure (.bl (l.all fun k => decide (0 ≤ k ∧ k ≤ 1))) := by
  unfold m_are_flags
  rw [bodyF_1]
  show (F_are_flags [some (.tup (zl l)), none] >>= endF) = _
  unfold F_are_flags
  have comp : lcL (.nm 1) tYesF (eDef m_is_number (aCons (eVar 1) (aCons (eC (.int 0)) (aCons (eC (.int 1)) aNil)))) [some (.tup (zl l)), none] (zl l) = pure (l.map fun k => .bl (decide (0 ≤ k ∧ k ≤ 1))) := by
    rw [lcL_map (fun d => match d with | .int k => .bl (decide (0 ≤ k ∧ k ≤ 1)) | _ => .non) fun d hd => ?_]
    · refine pure_inj ?_
      unfold zl
      rw [List.map_map]
      rfl
    · obtain ⟨k, _, rfl⟩ := List.mem_map.mp hd
      refine ⟨[some (.tup (zl l)), some (.int k)], rfl, ?_⟩
      have e := m_is_number_eq k 0 1
      walk_at "ev"
  have hlen : (zl l).length = l.length := ints_len l
  have e0 : eLc [1] (.nm 1) (itSeq (eVar 0)) tYesF (eDef m_is_number (aCons (eVar 1) (aCons (eC (.int 0)) (aCons (eC (.int 1)) aNil)))) [some (.tup (zl l)), none] = pure (.lst (l.map fun k => .bl (decide (0 ≤ k ∧ k ≤ 1)))) := eLc_eq (ds := zl l) (by walk_at "ev") (by omega) comp
  have e1 : dAll [.lst (l.map fun k => .bl (decide (0 ≤ k ∧ k ≤ 1)))] = some (.bl (l.all fun k => decide (0 ≤ k ∧ k ≤ 1))) := dAll_map (fun k => decide (0 ≤ k ∧ k ≤ 1)) l
  refine q_end (d := .bl (l.all fun k => decide (0 ≤ k ∧ k ≤ 1))) (by walk_at "ev" <;> rfl) ?_
  rw [endF_rt]
theorem m_is_calendar_eq (h t : List Int) (ht : t ≠ []) (h1 : h.length ≤ 900) (h2 : t.length ≤ 900) (f1 : (h.all fun k => decide (0 ≤ k ∧ k ≤ 1)) = true) (f2 : (t.all fun k => decide (0 ≤ k ∧ k ≤ 1)) = true) : m_is_calendar [calD h t] = pure (.bl (decide ((Cal.calOf h t).1 = h ∧ (Cal.calOf h t).2 = t))) := by
  have e1 := m_are_flags_eq h (by omega)
  have e2 := m_are_flags_eq t (by omega)
  rw [f1] at e1
  rw [f2] at e2
  have e3 := m_calendar_of_eq h t ht h1 h2
  have e4 : dEq (.tup (zl t)) (.tup []) = some (.bl false) := by
    have := dEq_ints t []
    rw [decide_eq_false ht] at this
    exact this
  have e5 := dEq_cal (Cal.calOf h t).1 (Cal.calOf h t).2 h t
  unfold m_is_calendar
  rw [bodyF_1]
  show (F_is_calendar [some (.tup [.tup (zl h), .tup (zl t)]), none, none] >>= endF) = _
  unfold F_is_calendar
  unfold calD at e3
  refine q_seq (δ1 := [some (.tup [.tup (zl h), .tup (zl t)]), none, none]) (by walk_at "ev") ?_
  refine q_seq (δ1 := [some (.tup [.tup (zl h), .tup (zl t)]), some (.tup (zl h)), some (.tup (zl t))]) (by walk_at "ev") ?_
  refine q_seq (δ1 := [some (.tup [.tup (zl h), .tup (zl t)]), some (.tup (zl h)), some (.tup (zl t))]) (by walk_at "ev") ?_
  refine q_end (d := .bl (decide ((Cal.calOf h t).1 = h ∧ (Cal.calOf h t).2 = t))) (by walk_at "ev" <;> rfl) ?_
  rw [endF_rt]

/-! ### the same data -/
def okD : Nat → D → Bool
  | _, .non => true
  | _, .bl _ => true
  | _, .int _ => true
  | _, .str s => (D.str s).sh
  | n + 1, .tup l => decide (l.length ≤ 100000) && l.all (okD n)
  | n + 1, .lst l => decide (l.length ≤ 100000) && l.all (okD n)
  | _, _ => false
theorem same_refl : ∀ (n : Nat) (d : D), okD n d = true → r__law_same (n + 1) [d, d] = pure (.bl true)
  | n, .non, _ => rfl
  | n, .bl b, _ => by cases b <;> rfl
  | n, .int i, _ => by
    show (F__law_same (r__law_same n) [some (.int i), some (.int i), none] >>= endF) = _
    unfold F__law_same
    refine q_seq (δ1 := [some (.int i), some (.int i), none]) (by walk_at "ev" <;> rfl) ?_
    refine q_seq (δ1 := [some (.int i), some (.int i), none]) (by walk_at "ev" <;> rfl) ?_
    refine q_seq (δ1 := [some (.int i), some (.int i), none]) (by walk_at "ev" <;> rfl) ?_
    refine q_seq (δ1 := [some (.int i), some (.int i), none]) (by walk_at "ev" <;> rfl) ?_
    refine q_end (d := .bl true) (by walk_at "ev" <;> rfl) ?_
    rfl
  | n, .str i, h => by
    have h' : (D.str i).sh = true := by cases n <;> exact h
    have e : dEq (.str i) (.str i) = some (.bl true) := by
      unfold dEq
      rw [if_pos ⟨h', h'⟩]
      show some (D.bl (i == i)) = _
      rw [beq_self_eq_true]
    show (F__law_same (r__law_same n) [some (.str i), some (.str i), none] >>= endF) = _
    unfold F__law_same
    refine q_seq (δ1 := [some (.str i), some (.str i), none]) (by walk_at "ev" <;> rfl) ?_
    refine q_seq (δ1 := [some (.str i), some (.str i), none]) (by walk_at "ev" <;> rfl) ?_
    refine q_seq (δ1 := [some (.str i), some (.str i), none]) (by walk_at "ev" <;> rfl) ?_
    refine q_ret (d := .bl true) (by walk_at "ev" <;> rfl) ?_
    rfl
  | 0, .tup l, h => by cases h
  | 0, .lst l, h => by cases h
  | n, .fn _, h => by cases n <;> cases h
  | n, .drw, h => by cases n <;> cases h
  | n, .dK _ _, h => by cases n <;> cases h
  | n, .dT _ _, h => by cases n <;> cases h
  | n, .olst _, h => by cases n <;> cases h
  | n, .odK _ _, h => by cases n <;> cases h
  | n, .odT _ _, h => by cases n <;> cases h
  | n, .ins _ _ _, h => by cases n <;> cases h
  | n, .own _, h => by cases n <;> cases h
  | n + 1, .tup l, h => by
    have h' : (decide (l.length ≤ 100000) && l.all (okD n)) = true := h
    rw [Bool.and_eq_true, decide_eq_true_eq, List.all_eq_true] at h'
    obtain ⟨hl, ha⟩ := h'
    have comp : lcL (.nm 2) tYesF (eDef (r__law_same (n + 1)) (aCons (eBin dIx (eVar 0) (eVar 2)) (aCons (eBin dIx (eVar 1) (eVar 2)) aNil))) [some (.tup l), some (.tup l), none] (rangeD 0 l.length) = pure ((rangeD 0 l.length).map fun _ => .bl true) := by
      refine lcL_map (fun _ => .bl true) fun d hd => ?_
      obtain ⟨i, hi, rfl⟩ := range_mem hd
      refine ⟨[some (.tup l), some (.tup l), some (.int (0 + i))], rfl, ?_⟩
      have e : atI l ((0 : Int) + i) = some l[i] := by
        rw [Int.zero_add]
        exact atI_nat (List.getElem?_eq_getElem hi)
      have ih := same_refl n l[i] (ha _ (List.getElem_mem hi))
      walk_at "ev"
    have e0 : eLc [2] (.nm 2) (itCall dRange1 (aCons (eCall dLen (aCons (eVar 1) aNil)) aNil)) tYesF (eDef (r__law_same (n + 1)) (aCons (eBin dIx (eVar 0) (eVar 2)) (aCons (eBin dIx (eVar 1) (eVar 2)) aNil))) [some (.tup l), some (.tup l), none] = pure (.lst ((rangeD 0 l.length).map fun _ => .bl true)) :=
      eLc_eq (ds := rangeD 0 l.length) (by walk_at "ev" <;> rfl) (by rw [rangeD_len]; exact hl) comp
    have e1 : dAll [.lst ((rangeD 0 l.length).map fun _ => .bl true)] = some (.bl true) := by
      have := dAll_map (fun _ => true) (rangeD 0 l.length)
      rw [all_true] at this
      exact this
    show (F__law_same (r__law_same (n + 1)) [some (.tup l), some (.tup l), none] >>= endF) = _
    unfold F__law_same
    refine q_ret (d := .bl true) (δ1 := [some (.tup l), some (.tup l), none]) ?_ rfl
    rw [sIf_t (by walk_at "ev" <;> rfl)]
    rw [sSeq_nx (δ1 := [some (.tup l), some (.tup l), none]) (by walk_at "ev" <;> rfl)]
    rw [sSeq_nx (δ1 := [some (.tup l), some (.tup l), none]) (by walk_at "ev" <;> rfl)]
    walk_at "ev"
  | n + 1, .lst l, h => by
    have h' : (decide (l.length ≤ 100000) && l.all (okD n)) = true := h
    rw [Bool.and_eq_true, decide_eq_true_eq, List.all_eq_true] at h'
    obtain ⟨hl, ha⟩ := h'
    have comp : lcL (.nm 2) tYesF (eDef (r__law_same (n + 1)) (aCons (eBin dIx (eVar 0) (eVar 2)) (aCons (eBin dIx (eVar 1) (eVar 2)) aNil))) [some (.lst l), some (.lst l), none] (rangeD 0 l.length) = pure ((rangeD 0 l.length).map fun _ => .bl true) := by
      refine lcL_map (fun _ => .bl true) fun d hd => ?_
      obtain ⟨i, hi, rfl⟩ := range_mem hd
      refine ⟨[some (.lst l), some (.lst l), some (.int (0 + i))], rfl, ?_⟩
      have e : atI l ((0 : Int) + i) = some l[i] := by
        rw [Int.zero_add]
        exact atI_nat (List.getElem?_eq_getElem hi)
      have ih := same_refl n l[i] (ha _ (List.getElem_mem hi))
      walk_at "ev"
    have e0 : eLc [2] (.nm 2) (itCall dRange1 (aCons (eCall dLen (aCons (eVar 1) aNil)) aNil)) tYesF (eDef (r__law_same (n + 1)) (aCons (eBin dIx (eVar 0) (eVar 2)) (aCons (eBin dIx (eVar 1) (eVar 2)) aNil))) [some (.lst l), some (.lst l), none] = pure (.lst ((rangeD 0 l.length).map fun _ => .bl true)) :=
      eLc_eq (ds := rangeD 0 l.length) (by walk_at "ev" <;> rfl) (by rw [rangeD_len]; exact hl) comp
    have e1 : dAll [.lst ((rangeD 0 l.length).map fun _ => .bl true)] = some (.bl true) := by
      have := dAll_map (fun _ => true) (rangeD 0 l.length)
      rw [all_true] at this
      exact this
    show (F__law_same (r__law_same (n + 1)) [some (.lst l), some (.lst l), none] >>= endF) = _
    unfold F__law_same
    refine q_ret (d := .bl true) (δ1 := [some (.lst l), some (.lst l), none]) ?_ rfl
    rw [sIf_t (by walk_at "ev" <;> rfl)]
    rw [sSeq_nx (δ1 := [some (.lst l), some (.lst l), none]) (by walk_at "ev" <;> rfl)]
    rw [sSeq_nx (δ1 := [some (.lst l), some (.lst l), none]) (by walk_at "ev" <;> rfl)]
    walk_at "ev"
theorem m_law_same_refl (d : D) (h : okD 29 d = true) : m__law_same [d, d] = pure (.bl true) := same_refl 29 d h
/-! ### rows, numbers, loads -/
theorem m_is_row_tup (l : List D) (a b : Int) : m_is_row [.tup l, .int a, .int b] = pure (.bl (decide (a ≤ l.length ∧ (l.length : Int) ≤ b))) := by
  unfold m_is_row
  rw [bodyF_3]
  show (F_is_row [some (.tup l), some (.int a), some (.int b)] >>= endF) = _
  unfold F_is_row
  by_cases h1 : a ≤ l.length
  · by_cases h2 : (l.length : Int) ≤ b
    · refine q_end (d := .bl true) (by walk_at "ev" <;> rfl) ?_
      rw [endF_rt, decide_eq_true (show a ≤ l.length ∧ (l.length : Int) ≤ b from ⟨h1, h2⟩)]
    · refine q_end (d := .bl false) (by walk_at "ev" <;> rfl) ?_
      rw [endF_rt, decide_eq_false (show ¬ (a ≤ l.length ∧ (l.length : Int) ≤ b) from fun z => h2 z.2)]
  · refine q_end (d := .bl false) (by walk_at "ev" <;> rfl) ?_
    rw [endF_rt, decide_eq_false (show ¬ (a ≤ l.length ∧ (l.length : Int) ≤ b) from fun z => h1 z.1)]
theorem m_is_whole_int (k a b : Int) : m_is_whole [.int k, .int a, .int b] = pure (.bl (decide (a ≤ k ∧ k ≤ b))) := by
  unfold m_is_whole
  rw [bodyF_3]
  show (F_is_whole [some (.int k), some (.int a), some (.int b)] >>= endF) = _
  unfold F_is_whole
  refine q_seq (δ1 := [some (.int k), some (.int a), some (.int b)]) (by walk_at "ev" <;> rfl) ?_
  by_cases h1 : a ≤ k
  · by_cases h2 : k ≤ b
    · refine q_end (d := .bl true) (by walk_at "ev" <;> rfl) ?_
      rw [endF_rt, decide_eq_true (show a ≤ k ∧ k ≤ b from ⟨h1, h2⟩)]
    · refine q_end (d := .bl false) (by walk_at "ev" <;> rfl) ?_
      rw [endF_rt, decide_eq_false (show ¬ (a ≤ k ∧ k ≤ b) from fun z => h2 z.2)]
  · refine q_end (d := .bl false) (by walk_at "ev" <;> rfl) ?_
    rw [endF_rt, decide_eq_false (show ¬ (a ≤ k ∧ k ≤ b) from fun z => h1 z.1)]
end Sh

/-! Fc, part W: further forms on typed things. -/
namespace Fc
open PySem L2
section
variable {α β γ : Type} {p : Pat} {f f1 f2 : Env → M D} {e : α → D} {e' : β → D} {m : M α}
theorem te_ixT {k : Int} {g : α → β} (h : ∀ x, dIx (e x) (.int k) = some (e' (g x))) (hf : TE p f e m) : TE p (eBin dIx f (eC (.int k))) e' (b1 (fun x => pure (g x)) m) := fun δ A =>
  (hf δ A).bind fun a d q => by
    subst q
    show Im (liftO (dIx (e a) (.int k))) _ _
    exact Im.lift _ (h a) rfl
theorem te_ixTn {k : Int} {g : α → β} (h : ∀ x, dIx (e x) (.int (-k)) = some (e' (g x))) (hf : TE p f e m) : TE p (eBin dIx f (eUn dNeg (eC (.int k)))) e' (b1 (fun x => pure (g x)) m) := fun δ A =>
  (hf δ A).bind fun a d q => by
    subst q
    show Im (liftO (dIx (e a) (.int (-k)))) _ _
    exact Im.lift _ (h a) rfl
theorem te_isi {T : String} {b : Bool} (h : ∀ a, isTy T (e a) = some b) (hf : TE p f e m) : TE p (eIsi T f) eB (b1 (fun _ => pure b) m) := fun δ A =>
  (hf δ A).bind fun a d q => by
    subst q
    rw [h a]
    exact Im.pure rfl
theorem te_isi2 {T U : String} {b c x : Bool} (h : ∀ a, isTy T (e a) = some b) (k : ∀ a, isTy U (e a) = some c) (hx : (b || c) = x) (hf : TE p f e m) : TE p (eIsi2 T U f) eB (b1 (fun _ => pure x) m) := fun δ A =>
  (hf δ A).bind fun a d q => by
    subst q
    unfold isTy2
    rw [h a, opt_bind_some, k a, opt_bind_some]
    exact Im.pure (by rw [hx])
theorem Cm.up [DecidableEq α] {e : α → D} {n k : Nat} (h : Cm e n) (hk : n ≤ k) : Cm e k := ⟨h.dat, h.lay, fun a => Nat.le_trans (h.dep a) hk, h.eqv⟩
/-! rows and tuples -/
def yTL2 (x : α × α) : M (List α) := pure [x.1, x.2]
def yTL3 (x : α × α × α) : M (List α) := pure [x.1, x.2.1, x.2.2]
def yTL4 (x : α × α × α × α) : M (List α) := pure [x.1, x.2.1, x.2.2.1, x.2.2.2]
def yLT2 : List α → M (α × α)
  | [a, b] => pure (a, b)
  | _ => fail
def yLT3 : List α → M (α × α × α)
  | [a, b, c] => pure (a, b, c)
  | _ => fail
theorem te_TL2 {m : M (α × α)} (h : TE p f (eT2 e e) m) : TE p f (eL e) (b1 yTL2 m) := te_map _ h fun a => Im.pure rfl
theorem te_TL3 {m : M (α × α × α)} (h : TE p f (eT3 e e e) m) : TE p f (eL e) (b1 yTL3 m) := te_map _ h fun a => Im.pure rfl
theorem te_TL4 {m : M (α × α × α × α)} (h : TE p f (eT4 e e e e) m) : TE p f (eL e) (b1 yTL4 m) := te_map _ h fun a => Im.pure rfl
theorem te_LT2 {m : M (List α)} (h : TE p f (eL e) m) : TE p f (eT2 e e) (b1 yLT2 m) := te_map _ h fun a => match a with
  | [a, b] => Im.pure rfl
  | [] => Im.fail
  | [_] => Im.fail
  | _ :: _ :: _ :: _ => Im.fail
theorem te_LT3 {m : M (List α)} (h : TE p f (eL e) m) : TE p f (eT3 e e e) (b1 yLT3 m) := te_map _ h fun a => match a with
  | [a, b, c] => Im.pure rfl
  | [] => Im.fail
  | [_] => Im.fail
  | [_, _] => Im.fail
  | _ :: _ :: _ :: _ :: _ => Im.fail
theorem te_toD (h : TE p f e m) : TE p f eD (b1 (fun a => pure (e a)) m) := te_map _ h fun a => Im.pure rfl
theorem te_inl {e2 : β → D} (h : TE p f e m) : TE p f (eU e e2) (b1 (fun a => pure (Sum.inl a)) m) := te_map _ h fun a => Im.pure rfl
theorem te_inr {e2 : β → D} (h : TE p f e m) : TE p f (eU e2 e) (b1 (fun a => pure (Sum.inr a)) m) := te_map _ h fun a => Im.pure rfl
def getInl : Sum α β → M α
  | .inl a => pure a
  | .inr _ => fail
def getInr : Sum α β → M β
  | .inr a => pure a
  | .inl _ => fail
theorem te_getInl {m : M (Sum α β)} (h : TE p f (eU e e') m) : TE p f e (b1 getInl m) := te_map _ h fun a => by
  cases a with
  | inl a => exact Im.pure rfl
  | inr b => exact Im.fail
theorem te_getInr {m : M (Sum α β)} (h : TE p f (eU e e') m) : TE p f e' (b1 getInr m) := te_map _ h fun a => by
  cases a with
  | inl a => exact Im.fail
  | inr b => exact Im.pure rfl
/-! in -/
def yIn [DecidableEq α] (a : α) (l : List α) : M Bool := pure (decide (a ∈ l))
def yNotIn [DecidableEq α] (a : α) (l : List α) : M Bool := pure (!decide (a ∈ l))
theorem flats_eI : ∀ l : List Int, flats (l.map eI) = some (l.map V.int)
  | [] => rfl
  | x :: l => by
    show (some (V.int x)).bind (fun v => (flats (l.map eI)).map (v :: ·)) = _
    rw [flats_eI l]
    rfl
theorem inV_eI (k : Int) (l : List Int) : inV (.int k) (l.map V.int) = decide (k ∈ l) := by
  unfold inV
  rw [List.any_map]
  induction l with
  | nil => rfl
  | cons x l ih =>
    rw [List.any_cons, ih]
    show ((x == k) || decide (k ∈ l)) = _
    rw [Bool.beq_eq_decide_eq]
    by_cases h : x = k
    · subst h; simp
    · have : ¬ k = x := fun z => h z.symm
      simp [h, this]
theorem ty_inLI : O2 dIn eI (eL eI) eB yIn := fun a l => Im.lift (.bl (decide (a ∈ l))) (by
  show (some (V.int a)).bind (fun u => (flats (l.map eI)).map fun us => D.bl (if false = true then !inV u us else inV u us)) = _
  rw [flats_eI]
  show some (D.bl (inV (.int a) (l.map V.int))) = _
  rw [inV_eI]) rfl
theorem ty_inAI : O2 dIn eI (eA eI) eB yIn := fun a l => Im.lift (.bl (decide (a ∈ l))) (by
  show (some (V.int a)).bind (fun u => (flats (l.map eI)).map fun us => D.bl (if false = true then !inV u us else inV u us)) = _
  rw [flats_eI]
  show some (D.bl (inV (.int a) (l.map V.int))) = _
  rw [inV_eI]) rfl
theorem ty_notInLI : O2 dNotIn eI (eL eI) eB yNotIn := fun a l => Im.lift (.bl (!decide (a ∈ l))) (by
  show (some (V.int a)).bind (fun u => (flats (l.map eI)).map fun us => D.bl (if true = true then !inV u us else inV u us)) = _
  rw [flats_eI]
  show some (D.bl (!inV (.int a) (l.map V.int))) = _
  rw [inV_eI]) rfl
theorem ty_notInAI : O2 dNotIn eI (eA eI) eB yNotIn := fun a l => Im.lift (.bl (!decide (a ∈ l))) (by
  show (some (V.int a)).bind (fun u => (flats (l.map eI)).map fun us => D.bl (if true = true then !inV u us else inV u us)) = _
  rw [flats_eI]
  show some (D.bl (!inV (.int a) (l.map V.int))) = _
  rw [inV_eI]) rfl
/-! the same -/
def ySame [DecidableEq α] (e : α → D) (a b : α) : M Bool := chk (a = b ∧ Sh.okD 29 (e a) = true) true
theorem im_same [DecidableEq α] (e : α → D) (a b : α) : Im (Sh.m__law_same [e a, e b]) (ySame e a b) fun c d => d = eB c := by
  unfold ySame chk
  by_cases h : a = b ∧ Sh.okD 29 (e a) = true
  · rw [if_pos h, ← h.1, Sh.m_law_same_refl _ h.2]
    exact Im.pure rfl
  · rw [if_neg h]
    exact Im.fail
theorem ySame_ok [DecidableEq α] {e : α → D} {a b : α} (h : a = b) (k : Sh.okD 29 (e a) = true) : ySame e a b = pure true := chk_ok ⟨h, k⟩
theorem okD_L {e : α → D} {n : Nat} {l : List α} (h : l.length ≤ 100000) (k : ∀ a ∈ l, Sh.okD n (e a) = true) : Sh.okD (n + 1) (eL e l) = true := by
  show (decide ((l.map e).length ≤ 100000) && (l.map e).all (Sh.okD n)) = true
  rw [List.length_map, decide_eq_true h, Bool.true_and, List.all_map, List.all_eq_true]
  exact k
theorem okD_A {e : α → D} {n : Nat} {l : List α} (h : l.length ≤ 100000) (k : ∀ a ∈ l, Sh.okD n (e a) = true) : Sh.okD (n + 1) (eA e l) = true := by
  show (decide ((l.map e).length ≤ 100000) && (l.map e).all (Sh.okD n)) = true
  rw [List.length_map, decide_eq_true h, Bool.true_and, List.all_map, List.all_eq_true]
  exact k
end
/-! ### working out typed programs -/
section
variable {α β γ σ ρ : Type}
theorem b1_p (g : α → M γ) (a : α) : b1 g (pure a) = g a := rfl
theorem yMul_okL {i j : Int} (h1 : -18446744073709551616 < i) (h2 : i < 18446744073709551616) : yMul i j = pure (i * j) := by
  refine chk_ok ?_
  unfold small64
  have e : (2 : Int) ^ 64 = 18446744073709551616 := by decide
  rw [e, decide_eq_true h1, decide_eq_true h2]
  rfl
theorem yMul_okR {i j : Int} (h1 : -18446744073709551616 < j) (h2 : j < 18446744073709551616) : yMul i j = pure (i * j) := by
  refine chk_ok ?_
  unfold small64
  have e : (2 : Int) ^ 64 = 18446744073709551616 := by decide
  rw [e, decide_eq_true h1, decide_eq_true h2]
  simp
theorem yDiv_ok {i j : Int} (h : j ≠ 0) (h2 : j.natAbs < 1073741824) : yDiv i j = pure (i.fdiv j) := chk_ok ⟨h, h2⟩
theorem yMod_ok {i j : Int} (h : j ≠ 0) : yMod i j = pure (i.fmod j) := chk_ok h
theorem yRange1_ok {n : Int} (h1 : -1000000000 ≤ n) (h2 : n ≤ 1000000000) : yRange1 n = pure (rangeI 0 n.toNat) := chk_ok ⟨h1, h2⟩
theorem yRange2_ok {i n : Int} (h1 : -1000000000 ≤ i) (h2 : i ≤ 1000000000) (h3 : -1000000000 ≤ n) (h4 : n ≤ 1000000000) : yRange2 i n = pure (rangeI i (n - i).toNat) := chk_ok ⟨h1, h2, h3, h4⟩
theorem yCat_ok {a b : List α} (h : a.length + b.length ≤ 100000) : yCat a b = pure (a ++ b) := chk_ok h
theorem yApp_ok {l : List α} {a : α} (h : l.length < 100000) : yApp l a = pure (l ++ [a]) := chk_ok h
theorem limM_ok {l : List α} (h : l.length ≤ 100000) : limM l = pure l := chk_ok h
theorem yIx_ok {l : List α} {i : Int} {a : α} (h : atI l i = some a) : yIx l i = pure a := by
  unfold yIx
  rw [h]
  rfl
theorem yIx_get {l : List α} {i : Nat} (h : i < l.length) : yIx l (i : Int) = pure l[i] := yIx_ok (atI_nat (List.getElem?_eq_getElem h))
theorem mapGo_pure {f : α → M β} {g : α → β} : ∀ {l : List α}, (∀ a ∈ l, f a = pure (g a)) → mapGo f l = pure (l.map g)
  | [], _ => rfl
  | a :: l, h => by
    rw [mapGo, h a List.mem_cons_self, pb, mapGo_pure fun b hb => h b (List.mem_cons_of_mem _ hb), pb]
    rfl
theorem mapS_pure {f : α → M β} {g : α → β} {l : List α} (hl : l.length ≤ 100000) (h : ∀ a ∈ l, f a = pure (g a)) : mapS f l = pure (l.map g) := by
  unfold mapS
  rw [if_pos hl, mapGo_pure h]
theorem filGo_pure {t : α → M Bool} {f : α → M β} {q : α → Bool} {g : α → β} : ∀ {l : List α}, (∀ a ∈ l, t a = pure (q a)) → (∀ a ∈ l, q a = true → f a = pure (g a)) → filGo t f l = pure ((l.filter q).map g)
  | [], _, _ => rfl
  | a :: l, h, k => by
    rw [filGo, h a List.mem_cons_self, pb, List.filter_cons]
    have ih := filGo_pure (fun b hb => h b (List.mem_cons_of_mem _ hb)) fun b hb => k b (List.mem_cons_of_mem _ hb)
    cases hq : q a with
    | true =>
      rw [if_pos rfl, if_pos rfl, k a List.mem_cons_self hq, pb, ih, pb]
      rfl
    | false =>
      rw [if_neg Bool.false_ne_true, if_neg Bool.false_ne_true]
      exact ih
theorem filS_pure {t : α → M Bool} {f : α → M β} {q : α → Bool} {g : α → β} {l : List α} (hl : l.length ≤ 100000) (h : ∀ a ∈ l, t a = pure (q a)) (k : ∀ a ∈ l, q a = true → f a = pure (g a)) : filS t f l = pure ((l.filter q).map g) := by
  unfold filS
  rw [if_pos hl, filGo_pure h k]
theorem foldS_pure {f : σ → α → M σ} {g : σ → α → σ} (I : σ → Prop) : ∀ {l : List α} {s : σ}, I s → (∀ s a, I s → a ∈ l → f s a = pure (g s a) ∧ I (g s a)) → foldS f l s = pure (l.foldl g s)
  | [], s, _, _ => rfl
  | a :: l, s, hs, h => by
    obtain ⟨h1, h2⟩ := h s a hs List.mem_cons_self
    rw [foldS, h1, pb]
    exact foldS_pure I h2 fun s b hs hb => h s b hs (List.mem_cons_of_mem _ hb)
/-- a search: the first that q takes, by r -/
theorem forR_find {f : Unit → α → M (Res Unit ρ)} {q : α → Option ρ} : ∀ {l : List α}, (∀ a ∈ l, f () a = pure (match q a with | some r => Res.rt r | none => Res.nx ())) → forR f l () = pure (match l.findSome? q with | some r => Sum.inr r | none => Sum.inl ())
  | [], _ => rfl
  | a :: l, h => by
    rw [forR, h a List.mem_cons_self, pb, List.findSome?_cons]
    cases q a with
    | some r => rfl
    | none => exact forR_find fun b hb => h b (List.mem_cons_of_mem _ hb)
/-- nothing of the list ends the loop -/
theorem forR_none {f : σ → α → M (Res σ ρ)} {g : σ → α → σ} (I : σ → Prop) : ∀ {l : List α} {s : σ}, I s → (∀ s a, I s → a ∈ l → f s a = pure (.nx (g s a)) ∧ I (g s a)) → forR f l s = pure (.inl (l.foldl g s))
  | [], s, _, _ => rfl
  | a :: l, s, hs, h => by
    obtain ⟨h1, h2⟩ := h s a hs List.mem_cons_self
    rw [forR, h1, pb]
    exact forR_none I h2 fun s b hs hb => h s b hs (List.mem_cons_of_mem _ hb)
theorem elimF_l {k : σ → M ρ} {s : σ} : elimF k (.inl s) = k s := rfl
theorem elimF_r {k : σ → M ρ} {r : ρ} : elimF k (.inr r) = pure r := rfl
theorem elimP_l {τ : Type} {k : σ → M (Res τ ρ)} {s : σ} : elimP k (.inl s) = k s := rfl
theorem elimP_r {τ : Type} {k : σ → M (Res τ ρ)} {r : ρ} : elimP k (.inr r) = pure (.rt r) := rfl
theorem getO_some (a : α) : getO (some a) = pure a := rfl
theorem rangeI_len (lo : Int) (n : Nat) : (rangeI lo n).length = n := by
  unfold rangeI
  rw [List.length_map, List.length_range]
theorem rangeI_mem {lo : Int} {n : Nat} {x : Int} (h : x ∈ rangeI lo n) : ∃ i : Nat, i < n ∧ x = lo + i := by
  obtain ⟨i, h1, rfl⟩ := List.mem_map.mp h
  exact ⟨i, List.mem_range.mp h1, rfl⟩
theorem mem_rangeI {lo : Int} {n : Nat} {x : Int} : x ∈ rangeI lo n ↔ lo ≤ x ∧ x < lo + n := by
  constructor
  · intro h
    obtain ⟨i, h1, rfl⟩ := rangeI_mem h
    omega
  · intro h
    exact List.mem_map.mpr ⟨(x - lo).toNat, List.mem_range.mpr (by omega), by omega⟩
/-- drawn rows -/
theorem wp_mapGo {f : α → M β} (I : β → Prop) : ∀ {l : List α} {Q : List β → Dw → Prop} {w : Dw}, (∀ a ∈ l, ∀ (R : β → Dw → Prop) w, (∀ b w', I b → R b w') → wp (f a) R w) → (∀ bs w', bs.length = l.length → (∀ b ∈ bs, I b) → Q bs w') → wp (mapGo f l) Q w
  | [], Q, w, _, hq => by
    show wp (pure []) Q w
    rw [wp_pure]
    exact hq [] w rfl fun b hb => by cases hb
  | a :: l, Q, w, h, hq => by
    rw [mapGo, wp_bind]
    refine h a List.mem_cons_self _ w fun b w1 hb => ?_
    rw [wp_bind]
    refine wp_mapGo I (fun a' ha => h a' (List.mem_cons_of_mem _ ha)) fun bs w2 hl hp => ?_
    rw [wp_pure]
    exact hq (b :: bs) w2 (by rw [List.length_cons, List.length_cons, hl]) fun x hx => by
      rcases List.mem_cons.mp hx with rfl | hx
      · exact hb
      · exact hp x hx
theorem wp_mapS {f : α → M β} (I : β → Prop) {l : List α} {Q : List β → Dw → Prop} {w : Dw} (hl : l.length ≤ 100000) (h : ∀ a ∈ l, ∀ (R : β → Dw → Prop) w, (∀ b w', I b → R b w') → wp (f a) R w) (hq : ∀ bs w', bs.length = l.length → (∀ b ∈ bs, I b) → Q bs w') : wp (mapS f l) Q w := by
  unfold mapS
  rw [if_pos hl]
  exact wp_mapGo I h hq
/-- a loop that draws -/
theorem wp_foldS {f : σ → α → M σ} (I : Nat → σ → Prop) : ∀ {l : List α} {n : Nat} {s : σ} {Q : σ → Dw → Prop} {w : Dw}, I n s → (∀ i s a w, l[i]? = some a → I (n + i) s → wp (f s a) (fun s' _ => I (n + i + 1) s') w) → (∀ s w', I (n + l.length) s → Q s w') → wp (foldS f l s) Q w
  | [], n, s, Q, w, hs, _, hq => by
    show wp (pure s) Q w
    rw [wp_pure]
    exact hq s w hs
  | a :: l, n, s, Q, w, hs, h, hq => by
    rw [foldS, wp_bind]
    refine wp_mono (h 0 s a w rfl hs) fun s' w' hs' => ?_
    refine wp_foldS I hs' (fun i s b w hi hb => ?_) fun s w' hs => hq s w' ?_
    · have := h (i + 1) s b w hi (by rw [show n + (i + 1) = n + 0 + 1 + i from by omega]; exact hb)
      rw [show n + (i + 1) + 1 = n + 0 + 1 + i + 1 from by omega] at this
      exact this
    · rw [List.length_cons, show n + (l.length + 1) = n + 0 + 1 + l.length from by omega]
      exact hs
theorem lt_of_get {l : List α} {i : Nat} {a : α} (h : l[i]? = some a) : i < l.length := by
  by_cases c : i < l.length
  · exact c
  · rw [List.getElem?_eq_none (by omega)] at h
    cases h
end
end Fc

/-! Fc, part X: working out typed programs, further lemmas. -/
namespace Fc
open PySem L2
section
variable {α β γ σ ρ τ : Type}
theorem enumI_get : ∀ (n : Nat) (l : List α) (i : Nat), (enumI n l)[i]? = l[i]?.map fun a => (((n + i : Nat) : Int), a)
  | n, [], i => by simp [enumI]
  | n, a :: l, 0 => rfl
  | n, a :: l, i + 1 => by
    show (enumI (n + 1) l)[i]? = _
    rw [enumI_get (n + 1) l i, show n + 1 + i = n + (i + 1) from by omega]
    rfl
theorem enumI_len : ∀ (n : Nat) (l : List α), (enumI n l).length = l.length
  | _, [] => rfl
  | n, _ :: l => by rw [enumI, List.length_cons, enumI_len (n + 1) l, List.length_cons]
theorem rangeI_get (lo : Int) (n i : Nat) (h : i < n) : (rangeI lo n)[i]? = some (lo + i) := by
  unfold rangeI
  rw [List.getElem?_map, List.getElem?_range h]
  rfl
theorem enumI_range (d : α) (l : List α) : enumI 0 l = (rangeI 0 l.length).map fun i => (i, l.getD i.toNat d) := by
  apply List.ext_getElem?
  intro i
  rw [enumI_get, List.getElem?_map]
  by_cases h : i < l.length
  · rw [rangeI_get _ _ _ h, List.getElem?_eq_getElem h]
    show some _ = some _
    congr 1
    have : ((0 : Int) + (i : Nat)).toNat = i := by omega
    show (((0 + i : Nat) : Int), l[i]) = ((0 : Int) + (i : Nat), l.getD ((0 : Int) + (i : Nat)).toNat d)
    rw [this, List.getD_eq_getElem?_getD, List.getElem?_eq_getElem h, Nat.zero_add, Int.zero_add]
    rfl
  · rw [List.getElem?_eq_none (by omega), List.getElem?_eq_none (by rw [rangeI_len]; omega)]
    rfl
theorem yIx_getD (d : α) {l : List α} {i : Int} (h0 : 0 ≤ i) (h : i < (l.length : Nat)) : yIx l i = pure (l.getD i.toNat d) := by
  have h2 : i.toNat < l.length := by omega
  have := yIx_get h2
  rw [show ((i.toNat : Nat) : Int) = i from by omega] at this
  rw [this, List.getD_eq_getElem?_getD, List.getElem?_eq_getElem h2]
  rfl
theorem getD_mem (d : α) {l : List α} {i : Nat} (h : i < l.length) : l.getD i d ∈ l := by
  rw [List.getD_eq_getElem?_getD, List.getElem?_eq_getElem h]
  exact List.getElem_mem h
theorem forR_map (g : β → α) (f : σ → α → M (Res σ ρ)) : ∀ (l : List β) (s : σ), forR f (l.map g) s = forR (fun s b => f s (g b)) l s
  | [], _ => rfl
  | b :: l, s => by
    rw [List.map_cons, forR, forR]
    congr 1
    funext r
    cases r with
    | nx s' => exact forR_map g f l s'
    | bk s' => rfl
    | rt r => rfl
theorem foldS_map (g : β → α) (f : σ → α → M σ) : ∀ (l : List β) (s : σ), foldS f (l.map g) s = foldS (fun s b => f s (g b)) l s
  | [], _ => rfl
  | b :: l, s => by
    rw [List.map_cons, foldS, foldS]
    congr 1
    funext s'
    exact foldS_map g f l s'
/-- a search within a search -/
theorem forR_find2 {f : Unit → α → M (Res Unit ρ)} {l : List α} {q : α → Option ρ} (h : ∀ a ∈ l, f () a = pure (match q a with | some r => Res.rt r | none => Res.nx ())) {k : Unit → M ρ} : (forR f l () >>= elimF k) = (match l.findSome? q with | some r => pure r | none => k ()) := by
  rw [forR_find h, pb]
  cases l.findSome? q <;> rfl
theorem forR_find3 {f : Unit → α → M (Res Unit ρ)} {l : List α} {q : α → Option ρ} (h : ∀ a ∈ l, f () a = pure (match q a with | some r => Res.rt r | none => Res.nx ())) {k : Unit → M (Res τ ρ)} : (forR f l () >>= elimP k) = (match l.findSome? q with | some r => pure (.rt r) | none => k ()) := by
  rw [forR_find h, pb]
  cases l.findSome? q <;> rfl
/-- the first pair of numbers, i before j, that q takes -/
def fpair (n : Nat) (q : Int → Int → Bool) : Option (Int × Int) :=
  (rangeI 0 n).findSome? fun i => (rangeI (i + 1) ((n : Nat) - (i + 1)).toNat).findSome? fun j => if q i j = true then some (i, j) else none
theorem fpair_congr {n : Nat} {q r : Int → Int → Bool} (h : ∀ i j : Int, 0 ≤ i → i < j → j < (n : Int) → q i j = r i j) : fpair n q = fpair n r := by
  unfold fpair
  have cg : ∀ {l : List Int} {f g : Int → Option (Int × Int)}, (∀ x ∈ l, f x = g x) → l.findSome? f = l.findSome? g := fun {l f g} h => by
    induction l with
    | nil => rfl
    | cons a l ih =>
      rw [List.findSome?_cons, List.findSome?_cons, h a List.mem_cons_self, ih fun x hx => h x (List.mem_cons_of_mem _ hx)]
  refine cg fun i hi => cg fun j hj => ?_
  have h1 := mem_rangeI.mp hi
  have h2 := mem_rangeI.mp hj
  rw [h i j (by omega) (by omega) (by omega)]
theorem fpair_none {n : Nat} {q : Int → Int → Bool} : fpair n q = none ↔ ∀ i j : Int, 0 ≤ i → i < j → j < (n : Int) → q i j = false := by
  unfold fpair
  rw [List.findSome?_eq_none_iff]
  constructor
  · intro h i j h0 h1 h2
    have := h i (mem_rangeI.mpr (by omega))
    rw [List.findSome?_eq_none_iff] at this
    have := this j (mem_rangeI.mpr (by omega))
    cases hq : q i j with
    | false => rfl
    | true => rw [hq] at this; simp at this
  · intro h i hi
    rw [List.findSome?_eq_none_iff]
    intro j hj
    have h1 := mem_rangeI.mp hi
    have h2 := mem_rangeI.mp hj
    rw [h i j (by omega) (by omega) (by omega)]
    simp
theorem fpair_some {n : Nat} {q : Int → Int → Bool} {i j : Int} (h : fpair n q = some (i, j)) : 0 ≤ i ∧ i < j ∧ j < (n : Int) ∧ q i j = true := by
  unfold fpair at h
  obtain ⟨a, ha, h1⟩ := List.exists_of_findSome?_eq_some h
  obtain ⟨b, hb, h2⟩ := List.exists_of_findSome?_eq_some h1
  have h3 := mem_rangeI.mp ha
  have h4 := mem_rangeI.mp hb
  by_cases c : q a b = true
  · rw [if_pos c] at h2
    cases h2
    exact ⟨by omega, by omega, by omega, c⟩
  · rw [if_neg c] at h2
    cases h2
theorem wp_pure' {a : α} {Q : α → Dw → Prop} {w : Dw} (h : Q a w) : wp (pure a) Q w := by
  rw [wp_pure]
  exact h
theorem wp_bind' {m : M α} {f : α → M β} {R : β → Dw → Prop} {w : Dw} (h : wp m (fun a => wp (f a) R) w) : wp (m >>= f) R w := by
  rw [wp_bind]
  exact h
theorem wp_next' {n : Int} {f : Int → M β} {R : β → Dw → Prop} {w : Dw} {u : Unit} (hn : 0 < n ∧ n < 1073741824) (h : ∀ k w', 0 ≤ k → k < n → wp (f k) R w') : wp (yNext u n >>= f) R w := by
  rw [wp_bind]
  exact wp_yNext hn h
/-- a loop with ends inside, by an invariant -/
theorem forR_inv {f : σ → α → M (Res σ ρ)} (I : Nat → σ → Prop) (B : σ → Prop) (R : ρ → Prop) : ∀ {l : List α} {n : Nat} {s : σ}, I n s → (∀ i s a, l[i]? = some a → I (n + i) s → ∃ r, f s a = pure r ∧ match r with | .nx s' => I (n + i + 1) s' | .bk s' => B s' | .rt r => R r) → ∃ e, forR f l s = pure e ∧ match e with | .inl s' => I (n + l.length) s' ∨ B s' | .inr r => R r
  | [], n, s, h, _ => ⟨.inl s, rfl, .inl h⟩
  | a :: l, n, s, h, k => by
    obtain ⟨r, h1, h2⟩ := k 0 s a rfl h
    cases r with
    | nx s' =>
      obtain ⟨e, h3, h4⟩ := forR_inv I B R (l := l) (n := n + 1) (s := s') h2 fun i s a hi hs => by
        rw [show n + 1 + i = n + (i + 1) from by omega] at hs ⊢
        exact k (i + 1) s a hi hs
      refine ⟨e, by rw [forR, h1, pb]; exact h3, ?_⟩
      rw [List.length_cons, show n + (l.length + 1) = n + 1 + l.length from by omega]
      exact h4
    | bk s' => exact ⟨.inl s', by rw [forR, h1, pb], .inr h2⟩
    | rt r => exact ⟨.inr r, by rw [forR, h1, pb], h2⟩
theorem foldS_inv {f : σ → α → M σ} (I : Nat → σ → Prop) : ∀ {l : List α} {n : Nat} {s : σ}, I n s → (∀ i s a, l[i]? = some a → I (n + i) s → ∃ s', f s a = pure s' ∧ I (n + i + 1) s') → ∃ s', foldS f l s = pure s' ∧ I (n + l.length) s'
  | [], n, s, h, _ => ⟨s, rfl, h⟩
  | a :: l, n, s, h, k => by
    obtain ⟨s1, h1, h2⟩ := k 0 s a rfl h
    obtain ⟨s2, h3, h4⟩ := foldS_inv I (l := l) (n := n + 1) (s := s1) h2 fun i s a hi hs => by
      rw [show n + 1 + i = n + (i + 1) from by omega] at hs ⊢
      exact k (i + 1) s a hi hs
    refine ⟨s2, by rw [foldS, h1, pb]; exact h3, ?_⟩
    rw [List.length_cons, show n + (l.length + 1) = n + 1 + l.length from by omega]
    exact h4
theorem whileS_inv {c : σ → M Bool} {f : σ → M σ} (I : σ → Prop) (me : σ → Nat) : ∀ {n : Nat} {s : σ}, I s → me s < n → (∀ s, I s → c s = pure false ∨ (c s = pure true ∧ ∃ s', f s = pure s' ∧ I s' ∧ me s' < me s)) → ∃ s', whileS n c f s = pure s' ∧ I s' ∧ c s' = pure false
  | 0, s, _, h, _ => by omega
  | n + 1, s, hs, h, k => by
    rcases k s hs with h1 | ⟨h1, s', h2, h3, h4⟩
    · refine ⟨s, ?_, hs, h1⟩
      rw [whileS]
      show (c s >>= _) = _
      rw [h1, pb, if_neg Bool.false_ne_true]
    · obtain ⟨s2, h5, h6⟩ := whileS_inv I me (n := n) (s := s') h3 (by omega) k
      refine ⟨s2, ?_, h6⟩
      show (c s >>= fun b => if b = true then f s >>= whileS n c f else pure s) = _
      rw [h1, pb, if_pos rfl, h2, pb]
      exact h5
theorem fold_filter (q : α → Bool) : ∀ (l acc : List α), l.foldl (fun s k => if q k = true then s ++ [k] else s) acc = acc ++ l.filter q
  | [], acc => by simp
  | a :: l, acc => by
    rw [List.foldl_cons, fold_filter q l, List.filter_cons]
    cases q a with
    | true => simp
    | false => simp
theorem yIx_rng {f : Int → α} {n : Nat} {z : Int} (h0 : 0 ≤ z) (h : z < (n : Int)) : yIx ((rangeI 0 n).map f) z = pure (f z) := by
  have h2 : z.toNat < n := by omega
  have := atI_nat (xs := (rangeI 0 n).map f) (j := z.toNat) (v := f z) (by
    rw [List.getElem?_map, rangeI_get _ _ _ h2]
    show some (f (0 + (z.toNat : Nat))) = _
    rw [show (0 : Int) + (z.toNat : Nat) = z from by omega])
  rw [show ((z.toNat : Nat) : Int) = z from by omega] at this
  exact yIx_ok this
end
end Fc

/-! Fc, part Y: typed rules for part P. -/
namespace Fc
open PySem L2
section
variable {α β γ : Type} {p : Pat} {f g f1 f2 : Env → M D} {e : α → D} {e' : β → D} {m : M α}
def yRev (l : List α) (i : Int) : M (List α) := chk (i = -1) l.reverse
theorem te_revL {m : M (List α)} {n : M Int} (h : TE p f (eL e) m) (k : TE p g eI n) : TE p (eRev f g) (eL e) (b2 yRev m n) := fun δ A =>
  (h δ A).bind fun l d q => (k δ A).bind fun i d' q' => by
    subst q q'
    show Im (liftO (some i) >>= fun i => if i = -1 then liftO (dRev (eL e l)) else fail) _ _
    rw [liftO_pure, pb]
    unfold yRev chk
    by_cases c : i = -1
    · rw [if_pos c, if_pos c]
      exact Im.lift _ rfl (by show D.tup _ = .tup _; rw [List.map_reverse])
    · rw [if_neg c, if_neg c]
      exact Im.fail
theorem te_revA {m : M (List α)} {n : M Int} (h : TE p f (eA e) m) (k : TE p g eI n) : TE p (eRev f g) (eA e) (b2 yRev m n) := fun δ A =>
  (h δ A).bind fun l d q => (k δ A).bind fun i d' q' => by
    subst q q'
    show Im (liftO (some i) >>= fun i => if i = -1 then liftO (dRev (eA e l)) else fail) _ _
    rw [liftO_pure, pb]
    unfold yRev chk
    by_cases c : i = -1
    · rw [if_pos c, if_pos c]
      exact Im.lift _ rfl (by show D.lst _ = .lst _; rw [List.map_reverse])
    · rw [if_neg c, if_neg c]
      exact Im.fail
theorem yRev_ok {l : List α} : yRev l (-1) = pure l.reverse := chk_ok rfl
def yZip (l : List α) (m : List β) : M (List (α × β)) := pure (l.zip m)
theorem zipD_map (e : α → D) (e' : β → D) : ∀ (l : List α) (m : List β), zipD (l.map e) (m.map e') = (l.zip m).map (eT2 e e')
  | [], _ => by simp [zipD]
  | _ :: _, [] => by simp [zipD]
  | x :: l, y :: m => by
    rw [List.map_cons, List.map_cons, zipD, zipD_map e e' l m]
    rfl
theorem ti_zipLL {m : M (List α)} {n : M (List β)} (h : TE p f1 (eL e) m) (k : TE p f2 (eL e') n) : TAs p (itCall dZip (aCons f1 (aCons f2 aNil))) (eT2 e e') (b2 yZip m n) := fun δ A => by
  show Im ((f1 δ >>= fun x => (f2 δ >>= fun y => pure [y]) >>= fun ys => pure (x :: ys)) >>= fun xs => liftO (dZip xs)) _ _
  simp only [bb, pb]
  exact (h δ A).bind fun i d q => (k δ A).bind fun j d' q' => by
    subst q q'
    exact Im.lift _ rfl (zipD_map _ _ _ _)
theorem ti_zipAA {m : M (List α)} {n : M (List β)} (h : TE p f1 (eA e) m) (k : TE p f2 (eA e') n) : TAs p (itCall dZip (aCons f1 (aCons f2 aNil))) (eT2 e e') (b2 yZip m n) := fun δ A => by
  show Im ((f1 δ >>= fun x => (f2 δ >>= fun y => pure [y]) >>= fun ys => pure (x :: ys)) >>= fun xs => liftO (dZip xs)) _ _
  simp only [bb, pb]
  exact (h δ A).bind fun i d q => (k δ A).bind fun j d' q' => by
    subst q q'
    exact Im.lift _ rfl (zipD_map _ _ _ _)
def yDivmod (i j : Int) : M (Int × Int) := chk (0 < j ∧ j < 1073741824) (i / j, i % j)
theorem ty_divmod : C2 dDivmod eI eI (eT2 eI eI) yDivmod := fun i j => Im.chk _ (fun h => if_pos h) fun _ => rfl
theorem yDivmod_ok {i j : Int} (h1 : 0 < j) (h2 : j < 1073741824) : yDivmod i j = pure (i / j, i % j) := chk_ok ⟨h1, h2⟩
/-- equal things are equal data -/
def Cq [DecidableEq α] (e : α → D) : Prop := ∀ a b, PyData.eqv (e a).pd (e b).pd = decide (a = b)
theorem Cm.q [DecidableEq α] {e : α → D} {n : Nat} (h : Cm e n) : Cq e := h.eqv
theorem cq_S : Cq eS := fun a b => by
  show (a == b) = _
  rw [Bool.beq_eq_decide_eq]
theorem cq_I : Cq eI := cm_I.eqv
theorem cq_B : Cq eB := cm_B.eqv
theorem cq_all [DecidableEq α] {e : α → D} (h : Cq e) : ∀ l m : List α, PyData.eqvAll (D.pds (l.map e)) (D.pds (m.map e)) = decide (l = m)
  | [], [] => by simp [D.pds, PyData.eqvAll]
  | [], y :: m => by simp [D.pds, PyData.eqvAll]
  | x :: l, [] => by simp [D.pds, PyData.eqvAll]
  | x :: l, y :: m => by
    show (PyData.eqv (e x).pd (e y).pd && PyData.eqvAll (D.pds (l.map e)) (D.pds (m.map e))) = _
    rw [h x y, cq_all h l m]
    by_cases c : x = y
    · subst c
      simp
    · simp [c]
theorem cq_L [DecidableEq α] {e : α → D} (h : Cq e) : Cq (eL e) := fun l m => cq_all h l m
theorem cq_A [DecidableEq α] {e : α → D} (h : Cq e) : Cq (eA e) := fun l m => cq_all h l m
theorem cq_O [DecidableEq α] {e : α → D} (h : Cq e) (hn : ∀ a, PyData.eqv .none (e a).pd = false ∧ PyData.eqv (e a).pd .none = false) : Cq (eO e) := fun a b => by
  cases a with
  | none => cases b with
    | none => rfl
    | some b => exact (hn b).1
  | some a => cases b with
    | none => exact (hn a).2
    | some b => show PyData.eqv (e a).pd (e b).pd = _; rw [h a b]; simp
theorem cq_U [DecidableEq α] [DecidableEq β] {e1 : α → D} {e2 : β → D} (h1 : Cq e1) (h2 : Cq e2) (hx : ∀ a b, PyData.eqv (e1 a).pd (e2 b).pd = false ∧ PyData.eqv (e2 b).pd (e1 a).pd = false) : Cq (eU e1 e2) := fun a b => by
  cases a with
  | inl a => cases b with
    | inl b => show PyData.eqv (e1 a).pd (e1 b).pd = _; rw [h1 a b]; simp
    | inr b => show PyData.eqv (e1 a).pd (e2 b).pd = _; rw [(hx a b).1]; simp
  | inr a => cases b with
    | inl b => show PyData.eqv (e2 a).pd (e1 b).pd = _; rw [(hx b a).2]; simp
    | inr b => show PyData.eqv (e2 a).pd (e2 b).pd = _; rw [h2 a b]; simp
theorem cq_T2 [DecidableEq α] [DecidableEq β] {e1 : α → D} {e2 : β → D} (h1 : Cq e1) (h2 : Cq e2) : Cq (eT2 e1 e2) := fun a b => by
  show (PyData.eqv (e1 a.1).pd (e1 b.1).pd && (PyData.eqv (e2 a.2).pd (e2 b.2).pd && true)) = _
  rw [h1, h2, Bool.and_true, ← Bool.decide_and]
  exact decide_eq_decide.mpr Prod.ext_iff.symm
theorem cq_T3 [DecidableEq α] [DecidableEq β] [DecidableEq γ] {e1 : α → D} {e2 : β → D} {e3 : γ → D} (h1 : Cq e1) (h2 : Cq e2) (h3 : Cq e3) : Cq (eT3 e1 e2 e3) := fun a b => by
  show (PyData.eqv (e1 a.1).pd (e1 b.1).pd && (PyData.eqv (e2 a.2.1).pd (e2 b.2.1).pd && (PyData.eqv (e3 a.2.2).pd (e3 b.2.2).pd && true))) = _
  rw [h1, h2, h3, Bool.and_true, ← Bool.decide_and, ← Bool.decide_and]
  exact decide_eq_decide.mpr (by simp [Prod.ext_iff])
/-- equality of things with texts in them: where they stand well -/
def yEqQ [DecidableEq α] (e : α → D) (a b : α) : M Bool := chk ((e a).sh = true ∧ (e b).sh = true) (decide (a = b))
def yNeQ [DecidableEq α] (e : α → D) (a b : α) : M Bool := chk ((e a).sh = true ∧ (e b).sh = true) (!decide (a = b))
theorem ty_eqQ [DecidableEq α] {e : α → D} (h : Cq e) : O2 dEq e e eB (yEqQ e) := fun a b => Im.chk _ (fun c => if_pos c) fun _ => by
  show D.bl (PyData.eqv (e a).pd (e b).pd) = _
  rw [h a b]
theorem ty_neQ [DecidableEq α] {e : α → D} (h : Cq e) : O2 dNe e e eB (yNeQ e) := fun a b => Im.chk _ (fun c => if_pos c) fun _ => by
  show D.bl (!PyData.eqv (e a).pd (e b).pd) = _
  rw [h a b]
theorem cm_U [DecidableEq α] [DecidableEq β] {e1 : α → D} {e2 : β → D} {n : Nat} (h1 : Cm e1 n) (h2 : Cm e2 n) (hx : ∀ a b, PyData.eqv (e1 a).pd (e2 b).pd = false ∧ PyData.eqv (e2 b).pd (e1 a).pd = false) : Cm (eU e1 e2) n := by
  refine ⟨fun a => ?_, fun a => ?_, fun a => ?_, fun a b => ?_⟩
  · cases a with
    | inl a => exact h1.dat a
    | inr a => exact h2.dat a
  · cases a with
    | inl a => exact h1.lay a
    | inr a => exact h2.lay a
  · cases a with
    | inl a => exact h1.dep a
    | inr a => exact h2.dep a
  · cases a with
    | inl a => cases b with
      | inl b => show PyData.eqv (e1 a).pd (e1 b).pd = _; rw [h1.eqv]; simp
      | inr b => show PyData.eqv (e1 a).pd (e2 b).pd = _; rw [(hx a b).1]; simp
    | inr a => cases b with
      | inl b => show PyData.eqv (e2 a).pd (e1 b).pd = _; rw [(hx b a).2]; simp
      | inr b => show PyData.eqv (e2 a).pd (e2 b).pd = _; rw [h2.eqv]; simp
theorem sMix_eq {is : List Nat} {fs : Env → M (List D)} {F' : F1} {δ : Env} : sSeq (sMix is fs) F' δ = (fs δ >>= fun xs => if xs.length = is.length then F' (setD δ is xs) else fail) := by
  rw [sSeq_eq]
  show ((fs δ >>= fun xs => if xs.length = is.length then pure (Out.nx, setD δ is xs) else fail) >>= _) = _
  rw [bb]
  congr 1
  funext xs
  by_cases c : xs.length = is.length
  · rw [if_pos c, if_pos c]
    rfl
  · rw [if_neg c, if_neg c]
    rfl
theorem tb_mix2 {i j : Nat} {F' : F1} {A1 A2 Z : Type} {P : Z → Out × Env → Prop} {e1 : A1 → D} {e2 : A2 → D} {m1 : M A1} {m2 : M A2} {k : A1 → A2 → M Z} (h1 : TE p f1 e1 m1) (h2 : TE p f2 e2 m2)
    (b : ∀ a c, TB ((p.set i (some (e1 a))).set j (some (e2 c))) F' (k a c) P) : TB p (sSeq (sMix [i, j] (aCons f1 (aCons f2 aNil))) F') (m1 >>= fun a => m2 >>= fun c => k a c) P := fun δ A => by
  rw [sMix_eq]
  show Im ((f1 δ >>= fun x => (f2 δ >>= fun y => pure [y]) >>= fun ys => pure (x :: ys)) >>= fun xs => if xs.length = 2 then F' (setD δ [i, j] xs) else fail) _ _
  simp only [bb, pb]
  exact (h1 δ A).bind fun a d r => (h2 δ A).bind fun c d' r' => by
    subst r r'
    exact b a c _ ((A.set i _).set j _)
theorem tb_mix3 {i j l : Nat} {f3 : Env → M D} {F' : F1} {A1 A2 A3 Z : Type} {P : Z → Out × Env → Prop} {e1 : A1 → D} {e2 : A2 → D} {e3 : A3 → D} {m1 : M A1} {m2 : M A2} {m3 : M A3} {k : A1 → A2 → A3 → M Z} (h1 : TE p f1 e1 m1) (h2 : TE p f2 e2 m2) (h3 : TE p f3 e3 m3)
    (b : ∀ a c x, TB (((p.set i (some (e1 a))).set j (some (e2 c))).set l (some (e3 x))) F' (k a c x) P) : TB p (sSeq (sMix [i, j, l] (aCons f1 (aCons f2 (aCons f3 aNil)))) F') (m1 >>= fun a => m2 >>= fun c => m3 >>= fun x => k a c x) P := fun δ A => by
  rw [sMix_eq]
  show Im ((f1 δ >>= fun x => (f2 δ >>= fun y => (f3 δ >>= fun z => pure [z]) >>= fun ys => pure (y :: ys)) >>= fun ys => pure (x :: ys)) >>= fun xs => if xs.length = 3 then F' (setD δ [i, j, l] xs) else fail) _ _
  simp only [bb, pb]
  exact (h1 δ A).bind fun a d r => (h2 δ A).bind fun c d' r' => (h3 δ A).bind fun x d2 r2 => by
    subst r r' r2
    exact b a c x _ (((A.set i _).set j _).set l _)
theorem tb_mix4 {i j l n : Nat} {f3 f4 : Env → M D} {F' : F1} {A1 A2 A3 A4 Z : Type} {P : Z → Out × Env → Prop} {e1 : A1 → D} {e2 : A2 → D} {e3 : A3 → D} {e4 : A4 → D} {m1 : M A1} {m2 : M A2} {m3 : M A3} {m4 : M A4} {k : A1 → A2 → A3 → A4 → M Z} (h1 : TE p f1 e1 m1) (h2 : TE p f2 e2 m2) (h3 : TE p f3 e3 m3) (h4 : TE p f4 e4 m4)
    (b : ∀ a c x y, TB ((((p.set i (some (e1 a))).set j (some (e2 c))).set l (some (e3 x))).set n (some (e4 y))) F' (k a c x y) P) : TB p (sSeq (sMix [i, j, l, n] (aCons f1 (aCons f2 (aCons f3 (aCons f4 aNil))))) F') (m1 >>= fun a => m2 >>= fun c => m3 >>= fun x => m4 >>= fun y => k a c x y) P := fun δ A => by
  rw [sMix_eq]
  show Im ((f1 δ >>= fun x => (f2 δ >>= fun y => (f3 δ >>= fun z => (f4 δ >>= fun u => pure [u]) >>= fun ys => pure (z :: ys)) >>= fun ys => pure (y :: ys)) >>= fun ys => pure (x :: ys)) >>= fun xs => if xs.length = 4 then F' (setD δ [i, j, l, n] xs) else fail) _ _
  simp only [bb, pb]
  exact (h1 δ A).bind fun a d r => (h2 δ A).bind fun c d' r' => (h3 δ A).bind fun x d2 r2 => (h4 δ A).bind fun y d3 r3 => by
    subst r r' r2 r3
    exact b a c x y _ ((((A.set i _).set j _).set l _).set n _)
end
end Fc

/-! Fc, part DD: typed things: extend, pop within append, lists from ranges, calls that change own things. -/
namespace Fc
open PySem L2
section
variable {α β γ τ υ ζ ι : Type} {p : Pat} {e e1 : α → D} {F' : F1} {P : β → Out × Env → Prop} {f f1 f2 f3 f4 : Env → M D} {er : ρ → D}
theorem te_slLA {lo hi : Env → M (Option Int)} {m : M (List α)} {n1 n2 : M (Option Int)} (h : TE p f (eA e) m) (h1 : TO p lo n1) (h2 : TO p hi n2) : TE p (eSlL f lo hi) (eA e) (b3 yCut m n1 n2) := fun δ A =>
  (h δ A).bind fun l d q => (h1 δ A).bind fun i i' r => (h2 δ A).bind fun j j' s => by
    subst q r s
    exact Im.pure (by rw [cutD_map])
def yRg1 (n : Int) : M (List Int) := chk (0 ≤ n ∧ n ≤ 100000) (rangeI 0 n.toNat)
def yRg2 (i n : Int) : M (List Int) := chk (-1000000000 ≤ i ∧ i ≤ 1000000000 ∧ -1000000000 ≤ n ∧ n ≤ 1000000000 ∧ n - i ≤ 100000) (rangeI i (n - i).toNat)
theorem te_rg1L {m : M Int} (h : TE p f eI m) : TE p (eRg D.lst (aCons f aNil)) (eA eI) (b1 yRg1 m) := fun δ A => by
  show Im ((f δ >>= fun x => pure [x]) >>= fun xs => liftO ((dRg xs).map D.lst)) _ _
  rw [bb]
  exact (h δ A).bind fun i d q => by
    subst q
    refine Im.chk (D.lst (rangeD 0 i.toNat)) (fun hc => ?_) fun _ => by rw [← rangeI_map]
    show ((if 0 ≤ i ∧ i ≤ 100000 then some (rangeD 0 i.toNat) else none).map D.lst) = _
    rw [if_pos hc]
    rfl
theorem te_rg1T {m : M Int} (h : TE p f eI m) : TE p (eRg D.tup (aCons f aNil)) (eL eI) (b1 yRg1 m) := fun δ A => by
  show Im ((f δ >>= fun x => pure [x]) >>= fun xs => liftO ((dRg xs).map D.tup)) _ _
  rw [bb]
  exact (h δ A).bind fun i d q => by
    subst q
    refine Im.chk (D.tup (rangeD 0 i.toNat)) (fun hc => ?_) fun _ => by rw [← rangeI_map]
    show ((if 0 ≤ i ∧ i ≤ 100000 then some (rangeD 0 i.toNat) else none).map D.tup) = _
    rw [if_pos hc]
    rfl
theorem te_rg2L {m n : M Int} (h : TE p f1 eI m) (k : TE p f2 eI n) : TE p (eRg D.lst (aCons f1 (aCons f2 aNil))) (eA eI) (b2 yRg2 m n) := fun δ A => by
  show Im ((f1 δ >>= fun x => (f2 δ >>= fun y => pure [y]) >>= fun ys => pure (x :: ys)) >>= fun xs => liftO ((dRg xs).map D.lst)) _ _
  simp only [bb, pb]
  exact (h δ A).bind fun i d q => (k δ A).bind fun j d' q' => by
    subst q q'
    refine Im.chk (D.lst (rangeD i (j - i).toNat)) (fun hc => ?_) fun _ => by rw [← rangeI_map]
    show ((if -BIG ≤ i ∧ i ≤ BIG ∧ -BIG ≤ j ∧ j ≤ BIG ∧ j - i ≤ 100000 then some (rangeD i (j - i).toNat) else none).map D.lst) = _
    rw [if_pos (show -BIG ≤ i ∧ i ≤ BIG ∧ -BIG ≤ j ∧ j ≤ BIG ∧ j - i ≤ 100000 from hc)]
    rfl
theorem te_rg2T {m n : M Int} (h : TE p f1 eI m) (k : TE p f2 eI n) : TE p (eRg D.tup (aCons f1 (aCons f2 aNil))) (eL eI) (b2 yRg2 m n) := fun δ A => by
  show Im ((f1 δ >>= fun x => (f2 δ >>= fun y => pure [y]) >>= fun ys => pure (x :: ys)) >>= fun xs => liftO ((dRg xs).map D.tup)) _ _
  simp only [bb, pb]
  exact (h δ A).bind fun i d q => (k δ A).bind fun j d' q' => by
    subst q q'
    refine Im.chk (D.tup (rangeD i (j - i).toNat)) (fun hc => ?_) fun _ => by rw [← rangeI_map]
    show ((if -BIG ≤ i ∧ i ≤ BIG ∧ -BIG ≤ j ∧ j ≤ BIG ∧ j - i ≤ 100000 then some (rangeD i (j - i).toNat) else none).map D.tup) = _
    rw [if_pos (show -BIG ≤ i ∧ i ≤ BIG ∧ -BIG ≤ j ∧ j ≤ BIG ∧ j - i ≤ 100000 from hc)]
    rfl
def yExt (l k : List α) : M (List α) := chk (l.length + k.length ≤ 100000) (l ++ k)
theorem tb_ext {i : Nat} {l : List α} {m : M (List α)} {k : List α → M β} (hi : p[i]? = some (some (eA e l))) (h : TE p f (eA e) m) (b : ∀ l', TB (p.set i (some (eA e l'))) F' (k l') P) : TB p (sSeq (sExt i f) F') ((m >>= fun a => yExt l a) >>= k) P := fun δ A => by
  have e0 : sSeq (sExt i f) F' δ = (f δ >>= fun d => liftO (chg i (opExt d) δ) >>= fun δ' => F' δ') := by
    rw [sSeq_eq]
    show ((f δ >>= fun d => liftO (chg i (opExt d) δ) >>= fun δ' => pure (Out.nx, δ')) >>= _) = _
    rw [bb]
    congr 1
    funext d
    rw [bb]
    rfl
  rw [e0, bb]
  exact (h δ A).bind fun a d r => by
    subst r
    have hc : chg i (opExt (eA e a)) δ = (opExt (eA e a) (l.map e)).map fun ds' => δ.set i (some (.lst ds')) := by
      unfold chg
      rw [A.get hi]
    rw [hc]
    have ho : opExt (eA e a) (l.map e) = if l.length + a.length ≤ LIM then some (l.map e ++ a.map e) else none := by
      show (if (l.map e).length + (a.map e).length ≤ LIM then some (l.map e ++ a.map e) else none) = _
      rw [List.length_map, List.length_map]
    rw [ho]
    unfold yExt chk
    by_cases c : l.length + a.length ≤ 100000
    · rw [if_pos c, if_pos (show l.length + a.length ≤ LIM from c), opt_map_some, liftO_pure, pb, pb]
      have := b (l ++ a) _ (A.set i (eA e (l ++ a)))
      rw [show eA e (l ++ a) = D.lst (l.map e ++ a.map e) from by show D.lst _ = _; rw [List.map_append]] at this
      exact this
    · rw [if_neg c]
      exact fun w b w' h => by cases h
def yPop (l : List α) : M (α × List α) := match l.getLast? with
  | some a => pure (a, l.dropLast)
  | none => fail
theorem tb_appPop {i j : Nat} {l k : List α} {K : α × List α → List α → M β} (hi : p[i]? = some (some (eA e l))) (hj : p[j]? = some (some (eA e k))) (hij : i ≠ j) (b : ∀ q l', TB ((p.set j (some (eA e q.2))).set i (some (eA e l'))) F' (K q l') P) : TB p (sSeq (sAppPop i j) F') (yPop k >>= fun q => yApp l q.1 >>= fun l' => K q l') P := fun δ A => by
  have a1 := A.get hi
  have a2 := A.get hj
  have e1 : sAppPop i j δ = (do
      let d ← liftO (k.map e).getLast?
      let δ1 ← liftO (chg j (fun _ => some (k.map e).dropLast) δ)
      let δ' ← liftO (chg i (opApp d) δ1)
      pure (.nx, δ')) := by
    unfold sAppPop
    rw [a2]
  have e0 : sSeq (sAppPop i j) F' δ = (do
      let d ← liftO (k.map e).getLast?
      let δ1 ← liftO (chg j (fun _ => some (k.map e).dropLast) δ)
      let δ' ← liftO (chg i (opApp d) δ1)
      F' δ') := by
    rw [sSeq_eq, e1]
    simp only [bb, pb]
  rw [e0]
  unfold yPop
  rw [List.getLast?_map]
  cases q : k.getLast? with
  | none => exact fun w b w' h => by cases h
  | some a =>
    have hc : chg j (fun _ => some (k.map e).dropLast) δ = some (δ.set j (some (.lst (k.map e).dropLast))) := by
      unfold chg
      rw [a2]
      rfl
    show Im (liftO (some (e a)) >>= fun d => liftO (chg j (fun _ => some (k.map e).dropLast) δ) >>= fun δ1 => liftO (chg i (opApp d) δ1) >>= fun δ' => F' δ') (pure (a, k.dropLast) >>= fun q => yApp l q.1 >>= fun l' => K q l') P
    rw [hc, liftO_pure, liftO_pure, pb, pb, pb]
    have a3 : (δ.set j (some (.lst (k.map e).dropLast)))[i]? = some (some (eA e l)) := by rw [List.getElem?_set_ne (fun z => hij z.symm)]; exact a1
    have hc2 : chg i (opApp (e a)) (δ.set j (some (.lst (k.map e).dropLast))) = (opApp (e a) (l.map e)).map fun ds' => (δ.set j (some (.lst (k.map e).dropLast))).set i (some (.lst ds')) := by
      unfold chg
      rw [a3]
    rw [hc2]
    unfold yApp chk opApp
    rw [List.length_map]
    by_cases c : l.length < 100000
    · rw [if_pos c, if_pos (show l.length < LIM from c), opt_map_some, liftO_pure, pb, pb]
      have := b (a, k.dropLast) (l ++ [a]) _ ((A.set j (eA e k.dropLast)).set i (eA e (l ++ [a])))
      rw [show eA e (l ++ [a]) = D.lst (l.map e ++ [e a]) from by show D.lst _ = _; rw [List.map_append]; rfl, show eA e k.dropLast = D.lst (k.map e).dropLast from by show D.lst _ = _; rw [List.map_dropLast]] at this
      exact this
    · rw [if_neg c]
      exact fun w b w' h => by cases h
theorem intsD_map (l : List Int) : intsD (l.map eI) = some l := by
  induction l with
  | nil => rfl
  | cons i l ih =>
    show (intsD (l.map eI)).map (i :: ·) = _
    rw [ih]
    rfl
def ySortI (l : List Int) : M (List Int) := pure (sortI l)
theorem ty_sortI : C1 dSorted (eA eI) (eA eI) ySortI := fun l => by
  refine Im.lift (D.lst ((sortI l).map .int)) ?_ rfl
  show (intsD (l.map eI)).map _ = _
  rw [intsD_map]
  rfl
/-! ### calls that change own things -/
/-- a call that changes own things; the pattern behind it -/
def TEM {ρ : Type} (p : Pat) (g : Env → M (D × Env)) (e : ρ → D) (q : ρ → Pat) (m : M ρ) : Prop := ∀ δ, Agr p δ → Im (g δ) m fun c r => r.1 = e c ∧ Agr (q c) r.2
theorem eOwn_at {i : Nat} {d : D} {δ : Env} (h : δ[i]? = some (some d)) (hl : d.isL = true) : eOwn i δ = pure d := by
  unfold eOwn
  rw [eVar_at h, pb, if_pos hl]
theorem im_end {A B C E : Type} {x : M A} {y : M B} {P : B → A → Prop} {k : A → M C} {Q : B → C → Prop} (h : Im x y P) (g : ∀ b a, P b a → ∃ c, k a = pure c ∧ Q b c) : Im (x >>= k) y Q := fun w b w' hb => by
  obtain ⟨a, h1, h2⟩ := h w b w' hb
  obtain ⟨c, h3, h4⟩ := g b a h2
  refine ⟨c, ?_, h4⟩
  show (x w).bind (fun p => k p.1 p.2) = _
  rw [h1]
  show k a w' = _
  rw [h3]
  rfl
theorem tb_dropM {ρ : Type} {er : ρ → D} {g : Env → M (D × Env)} {q : ρ → Pat} {m : M ρ} {k : ρ → M β} (h : TEM p g er q m) (b : ∀ c, TB (q c) F' (k c) P) : TB p (sSeq (sDropM g) F') (m >>= k) P := fun δ A => by
  have e0 : sSeq (sDropM g) F' δ = (g δ >>= fun r => F' r.2) := by
    rw [sSeq_eq]
    show ((g δ >>= fun r => pure (Out.nx, r.2)) >>= _) = _
    rw [bb] <;> rfl
  rw [e0]
  exact (h δ A).bind fun c r hr => b c r.2 hr.2
theorem tb_asgM {ρ : Type} {er : ρ → D} {g : Env → M (D × Env)} {q : ρ → Pat} {m : M ρ} {j : Nat} {k : ρ → M β} (h : TEM p g er q m) (b : ∀ c, TB ((q c).set j (some (er c))) F' (k c) P) : TB p (sSeq (sAsgM (.nm j) g) F') (m >>= k) P := fun δ A => by
  have e0 : sSeq (sAsgM (.nm j) g) F' δ = (g δ >>= fun r => F' (r.2.set j (some r.1))) := by
    rw [sSeq_eq]
    show ((g δ >>= fun r => liftO (setT (.nm j) r.1 r.2) >>= fun δ' => pure (Out.nx, δ')) >>= _) = _
    rw [bb] <;> rfl
  rw [e0]
  exact (h δ A).bind fun c r hr => by
    obtain ⟨r1, r2⟩ := r
    obtain ⟨h1, h2⟩ := hr
    have h1' : r1 = er c := h1
    subst h1'
    exact b c _ (h2.set j _)
theorem tb_retM {ρ : Type} {er : ρ → D} {g : Env → M (D × Env)} {q : ρ → Pat} {m : M ρ} (h : TEM p g er q m) : TB p (sSeq (sRetM g) F') m (Fn er) := fun δ A => by
  have e0 : sSeq (sRetM g) F' δ = (g δ >>= fun r => pure (Out.rt r.1, r.2)) := by
    rw [sSeq_eq]
    show ((g δ >>= fun r => pure (Out.rt r.1, r.2)) >>= _) = _
    rw [bb] <;> rfl
  rw [e0]
  exact im_end (E := Unit) (h δ A) fun c r hr => ⟨_, rfl, .inl (by show Out.rt r.1 = _; rw [hr.1])⟩
theorem te_mut_o {ρ : Type} {er : ρ → D} {i0 : Nat} {d0 : D} {n0 : ρ → D} {F : List D → M (D × List D)} {t : M ρ} (hi0 : p[i0]? = some (some d0)) (hl0 : d0.isL = true := by rfl) (hF : Im (F [d0]) (t) fun c d => d = (er c, [n0 c])) : TEM p (eMut [some i0] F (aCons (eOwn i0) aNil)) er (fun c => (p.set i0 (some (n0 c)))) (t) := fun δ A => by
  show Im ((eOwn i0 δ >>= fun x0 => pure [] >>= fun ys => pure (x0 :: ys)) >>= fun xs => F xs >>= fun r => liftO (setL [some i0] r.2 δ) >>= fun δ' => pure (r.1, δ')) _ _
  simp only [eOwn_at (A.get hi0) hl0, bb, pb]
  exact im_end (E := Unit) (hF) fun c r hr => by
    subst hr
    exact ⟨(er c, (δ.set i0 (some (n0 c)))), rfl, rfl, (A.set i0 (n0 c))⟩
theorem te_mut_ov {ρ : Type} {τ1 : Type} {er : ρ → D} {i0 : Nat} {d0 : D} {n0 : ρ → D} {f1 : Env → M D} {e1 : τ1 → D} {m1 : M τ1} {F : List D → M (D × List D)} {t : τ1 → M ρ} (hi0 : p[i0]? = some (some d0)) (hl0 : d0.isL = true := by rfl) (h1 : TE p f1 e1 m1) (hF : ∀ a1, Im (F [d0, e1 a1]) (t a1) fun c d => d = (er c, [n0 c])) : TEM p (eMut [some i0, none] F (aCons (eOwn i0) (aCons f1 aNil))) er (fun c => (p.set i0 (some (n0 c)))) (m1 >>= fun a1 => t a1) := fun δ A => by
  show Im ((eOwn i0 δ >>= fun x0 => (f1 δ >>= fun x1 => pure [] >>= fun ys => pure (x1 :: ys)) >>= fun ys => pure (x0 :: ys)) >>= fun xs => F xs >>= fun r => liftO (setL [some i0, none] r.2 δ) >>= fun δ' => pure (r.1, δ')) _ _
  simp only [eOwn_at (A.get hi0) hl0, bb, pb]
  refine (h1 δ A).bind fun a1 y1 q1 => ?_
  subst q1
  exact im_end (E := Unit) (hF a1) fun c r hr => by
    subst hr
    exact ⟨(er c, (δ.set i0 (some (n0 c)))), rfl, rfl, (A.set i0 (n0 c))⟩
theorem te_mut_ovv {ρ : Type} {τ1 : Type} {τ2 : Type} {er : ρ → D} {i0 : Nat} {d0 : D} {n0 : ρ → D} {f1 : Env → M D} {e1 : τ1 → D} {m1 : M τ1} {f2 : Env → M D} {e2 : τ2 → D} {m2 : M τ2} {F : List D → M (D × List D)} {t : τ1 → τ2 → M ρ} (hi0 : p[i0]? = some (some d0)) (hl0 : d0.isL = true := by rfl) (h1 : TE p f1 e1 m1) (h2 : TE p f2 e2 m2) (hF : ∀ a1 a2, Im (F [d0, e1 a1, e2 a2]) (t a1 a2) fun c d => d = (er c, [n0 c])) : TEM p (eMut [some i0, none, none] F (aCons (eOwn i0) (aCons f1 (aCons f2 aNil)))) er (fun c => (p.set i0 (some (n0 c)))) (m1 >>= fun a1 => m2 >>= fun a2 => t a1 a2) := fun δ A => by
  show Im ((eOwn i0 δ >>= fun x0 => (f1 δ >>= fun x1 => (f2 δ >>= fun x2 => pure [] >>= fun ys => pure (x2 :: ys)) >>= fun ys => pure (x1 :: ys)) >>= fun ys => pure (x0 :: ys)) >>= fun xs => F xs >>= fun r => liftO (setL [some i0, none, none] r.2 δ) >>= fun δ' => pure (r.1, δ')) _ _
  simp only [eOwn_at (A.get hi0) hl0, bb, pb]
  refine (h1 δ A).bind fun a1 y1 q1 => (h2 δ A).bind fun a2 y2 q2 => ?_
  subst q1 q2
  exact im_end (E := Unit) (hF a1 a2) fun c r hr => by
    subst hr
    exact ⟨(er c, (δ.set i0 (some (n0 c)))), rfl, rfl, (A.set i0 (n0 c))⟩
theorem te_mut_ovvv {ρ : Type} {τ1 : Type} {τ2 : Type} {τ3 : Type} {er : ρ → D} {i0 : Nat} {d0 : D} {n0 : ρ → D} {f1 : Env → M D} {e1 : τ1 → D} {m1 : M τ1} {f2 : Env → M D} {e2 : τ2 → D} {m2 : M τ2} {f3 : Env → M D} {e3 : τ3 → D} {m3 : M τ3} {F : List D → M (D × List D)} {t : τ1 → τ2 → τ3 → M ρ} (hi0 : p[i0]? = some (some d0)) (hl0 : d0.isL = true := by rfl) (h1 : TE p f1 e1 m1) (h2 : TE p f2 e2 m2) (h3 : TE p f3 e3 m3) (hF : ∀ a1 a2 a3, Im (F [d0, e1 a1, e2 a2, e3 a3]) (t a1 a2 a3) fun c d => d = (er c, [n0 c])) : TEM p (eMut [some i0, none, none, none] F (aCons (eOwn i0) (aCons f1 (aCons f2 (aCons f3 aNil))))) er (fun c => (p.set i0 (some (n0 c)))) (m1 >>= fun a1 => m2 >>= fun a2 => m3 >>= fun a3 => t a1 a2 a3) := fun δ A => by
  show Im ((eOwn i0 δ >>= fun x0 => (f1 δ >>= fun x1 => (f2 δ >>= fun x2 => (f3 δ >>= fun x3 => pure [] >>= fun ys => pure (x3 :: ys)) >>= fun ys => pure (x2 :: ys)) >>= fun ys => pure (x1 :: ys)) >>= fun ys => pure (x0 :: ys)) >>= fun xs => F xs >>= fun r => liftO (setL [some i0, none, none, none] r.2 δ) >>= fun δ' => pure (r.1, δ')) _ _
  simp only [eOwn_at (A.get hi0) hl0, bb, pb]
  refine (h1 δ A).bind fun a1 y1 q1 => (h2 δ A).bind fun a2 y2 q2 => (h3 δ A).bind fun a3 y3 q3 => ?_
  subst q1 q2 q3
  exact im_end (E := Unit) (hF a1 a2 a3) fun c r hr => by
    subst hr
    exact ⟨(er c, (δ.set i0 (some (n0 c)))), rfl, rfl, (A.set i0 (n0 c))⟩
theorem te_mut_ovvvv {ρ : Type} {τ1 : Type} {τ2 : Type} {τ3 : Type} {τ4 : Type} {er : ρ → D} {i0 : Nat} {d0 : D} {n0 : ρ → D} {f1 : Env → M D} {e1 : τ1 → D} {m1 : M τ1} {f2 : Env → M D} {e2 : τ2 → D} {m2 : M τ2} {f3 : Env → M D} {e3 : τ3 → D} {m3 : M τ3} {f4 : Env → M D} {e4 : τ4 → D} {m4 : M τ4} {F : List D → M (D × List D)} {t : τ1 → τ2 → τ3 → τ4 → M ρ} (hi0 : p[i0]? = some (some d0)) (hl0 : d0.isL = true := by rfl) (h1 : TE p f1 e1 m1) (h2 : TE p f2 e2 m2) (h3 : TE p f3 e3 m3) (h4 : TE p f4 e4 m4) (hF : ∀ a1 a2 a3 a4, Im (F [d0, e1 a1, e2 a2, e3 a3, e4 a4]) (t a1 a2 a3 a4) fun c d => d = (er c, [n0 c])) : TEM p (eMut [some i0, none, none, none, none] F (aCons (eOwn i0) (aCons f1 (aCons f2 (aCons f3 (aCons f4 aNil)))))) er (fun c => (p.set i0 (some (n0 c)))) (m1 >>= fun a1 => m2 >>= fun a2 => m3 >>= fun a3 => m4 >>= fun a4 => t a1 a2 a3 a4) := fun δ A => by
  show Im ((eOwn i0 δ >>= fun x0 => (f1 δ >>= fun x1 => (f2 δ >>= fun x2 => (f3 δ >>= fun x3 => (f4 δ >>= fun x4 => pure [] >>= fun ys => pure (x4 :: ys)) >>= fun ys => pure (x3 :: ys)) >>= fun ys => pure (x2 :: ys)) >>= fun ys => pure (x1 :: ys)) >>= fun ys => pure (x0 :: ys)) >>= fun xs => F xs >>= fun r => liftO (setL [some i0, none, none, none, none] r.2 δ) >>= fun δ' => pure (r.1, δ')) _ _
  simp only [eOwn_at (A.get hi0) hl0, bb, pb]
  refine (h1 δ A).bind fun a1 y1 q1 => (h2 δ A).bind fun a2 y2 q2 => (h3 δ A).bind fun a3 y3 q3 => (h4 δ A).bind fun a4 y4 q4 => ?_
  subst q1 q2 q3 q4
  exact im_end (E := Unit) (hF a1 a2 a3 a4) fun c r hr => by
    subst hr
    exact ⟨(er c, (δ.set i0 (some (n0 c)))), rfl, rfl, (A.set i0 (n0 c))⟩
theorem te_mut_vo {ρ : Type} {τ0 : Type} {er : ρ → D} {i1 : Nat} {d1 : D} {n1 : ρ → D} {f0 : Env → M D} {e0 : τ0 → D} {m0 : M τ0} {F : List D → M (D × List D)} {t : τ0 → M ρ} (h0 : TE p f0 e0 m0) (hi1 : p[i1]? = some (some d1)) (hl1 : d1.isL = true := by rfl) (hF : ∀ a0, Im (F [e0 a0, d1]) (t a0) fun c d => d = (er c, [n1 c])) : TEM p (eMut [none, some i1] F (aCons f0 (aCons (eOwn i1) aNil))) er (fun c => (p.set i1 (some (n1 c)))) (m0 >>= fun a0 => t a0) := fun δ A => by
  show Im ((f0 δ >>= fun x0 => (eOwn i1 δ >>= fun x1 => pure [] >>= fun ys => pure (x1 :: ys)) >>= fun ys => pure (x0 :: ys)) >>= fun xs => F xs >>= fun r => liftO (setL [none, some i1] r.2 δ) >>= fun δ' => pure (r.1, δ')) _ _
  simp only [eOwn_at (A.get hi1) hl1, bb, pb]
  refine (h0 δ A).bind fun a0 y0 q0 => ?_
  subst q0
  exact im_end (E := Unit) (hF a0) fun c r hr => by
    subst hr
    exact ⟨(er c, (δ.set i1 (some (n1 c)))), rfl, rfl, (A.set i1 (n1 c))⟩
theorem te_mut_oo {ρ : Type} {er : ρ → D} {i0 : Nat} {d0 : D} {n0 : ρ → D} {i1 : Nat} {d1 : D} {n1 : ρ → D} {F : List D → M (D × List D)} {t : M ρ} (hi0 : p[i0]? = some (some d0)) (hl0 : d0.isL = true := by rfl) (hi1 : p[i1]? = some (some d1)) (hl1 : d1.isL = true := by rfl) (hF : Im (F [d0, d1]) (t) fun c d => d = (er c, [n0 c, n1 c])) : TEM p (eMut [some i0, some i1] F (aCons (eOwn i0) (aCons (eOwn i1) aNil))) er (fun c => ((p.set i0 (some (n0 c))).set i1 (some (n1 c)))) (t) := fun δ A => by
  show Im ((eOwn i0 δ >>= fun x0 => (eOwn i1 δ >>= fun x1 => pure [] >>= fun ys => pure (x1 :: ys)) >>= fun ys => pure (x0 :: ys)) >>= fun xs => F xs >>= fun r => liftO (setL [some i0, some i1] r.2 δ) >>= fun δ' => pure (r.1, δ')) _ _
  simp only [eOwn_at (A.get hi0) hl0, eOwn_at (A.get hi1) hl1, bb, pb]
  exact im_end (E := Unit) (hF) fun c r hr => by
    subst hr
    exact ⟨(er c, ((δ.set i0 (some (n0 c))).set i1 (some (n1 c)))), rfl, rfl, ((A.set i0 (n0 c)).set i1 (n1 c))⟩
theorem te_mut_vov {ρ : Type} {τ0 : Type} {τ2 : Type} {er : ρ → D} {i1 : Nat} {d1 : D} {n1 : ρ → D} {f0 : Env → M D} {e0 : τ0 → D} {m0 : M τ0} {f2 : Env → M D} {e2 : τ2 → D} {m2 : M τ2} {F : List D → M (D × List D)} {t : τ0 → τ2 → M ρ} (h0 : TE p f0 e0 m0) (hi1 : p[i1]? = some (some d1)) (hl1 : d1.isL = true := by rfl) (h2 : TE p f2 e2 m2) (hF : ∀ a0 a2, Im (F [e0 a0, d1, e2 a2]) (t a0 a2) fun c d => d = (er c, [n1 c])) : TEM p (eMut [none, some i1, none] F (aCons f0 (aCons (eOwn i1) (aCons f2 aNil)))) er (fun c => (p.set i1 (some (n1 c)))) (m0 >>= fun a0 => m2 >>= fun a2 => t a0 a2) := fun δ A => by
  show Im ((f0 δ >>= fun x0 => (eOwn i1 δ >>= fun x1 => (f2 δ >>= fun x2 => pure [] >>= fun ys => pure (x2 :: ys)) >>= fun ys => pure (x1 :: ys)) >>= fun ys => pure (x0 :: ys)) >>= fun xs => F xs >>= fun r => liftO (setL [none, some i1, none] r.2 δ) >>= fun δ' => pure (r.1, δ')) _ _
  simp only [eOwn_at (A.get hi1) hl1, bb, pb]
  refine (h0 δ A).bind fun a0 y0 q0 => (h2 δ A).bind fun a2 y2 q2 => ?_
  subst q0 q2
  exact im_end (E := Unit) (hF a0 a2) fun c r hr => by
    subst hr
    exact ⟨(er c, (δ.set i1 (some (n1 c)))), rfl, rfl, (A.set i1 (n1 c))⟩
/-! ### defs that change parameters -/
def FnM {ρ : Type} (e : ρ → D) (q : ρ → Pat) (c : ρ) (o : Out × Env) : Prop := (o.1 = .rt (e c) ∨ (o.1 = .nx ∧ e c = .non)) ∧ Agr (q c) o.2
theorem tb_endM {ρ : Type} {e : ρ → D} {q : ρ → Pat} {r : ρ} (h : e r = .non) (l : PLe (q r) p) : TB p sNil (pure r) (FnM e q) := fun δ A => Im.pure ⟨.inr ⟨rfl, h⟩, A.le l⟩
theorem tb_retG {ρ : Type} {e : ρ → D} {q : ρ → Pat} {m : M α} {mk : α → ρ} (h : TE p f e1 m) (he : ∀ r, e (mk r) = e1 r) (l : ∀ r, PLe (q (mk r)) p) : TB p (sSeq (sRet f) F') (m >>= fun r => pure (mk r)) (FnM e q) := fun δ A => by
  have e0 : sSeq (sRet f) F' δ = (f δ >>= fun d => pure (Out.rt d, δ)) := by
    rw [sSeq_eq]
    show ((f δ >>= fun d => pure (Out.rt d, δ)) >>= _) = _
    rw [bb] <;> rfl
  rw [e0]
  exact (h δ A).bind fun a d r => by
    subst r
    exact Im.pure ⟨.inl (by show Out.rt _ = _; rw [he]), A.le (l a)⟩
theorem om_nil {k : Nat} {δ : Env} : outM k [] δ = some [] := rfl
theorem om_f {k : Nat} {cf : List Bool} {δ : Env} {es : List D} (h : outM (k + 1) cf δ = some es) : outM k (false :: cf) δ = some es := h
theorem om_t {k : Nat} {cf : List Bool} {δ : Env} {es : List D} {d : D} (h : δ[k]? = some (some d)) (hl : d.isL = true) (t : outM (k + 1) cf δ = some es) : outM k (true :: cf) δ = some (d :: es) := by
  show (match δ[k]? with
    | some (some d) => if d.isL = true then (outM (k + 1) cf δ).map (d :: ·) else none
    | _ => none) = _
  rw [h]
  dsimp only
  rw [if_pos hl, t]
  rfl
theorem im_bodyM {ρ : Type} {e : ρ → D} {q : ρ → Pat} {es : ρ → List D} {cf : List Bool} {k : Nat} {ds : List D} {F : F1} {m : M ρ} (hn : ds.length = cf.length) (h : TB (ds.map some ++ List.replicate (k - ds.length) none) F m (FnM e q)) (ho : ∀ c δ, Agr (q c) δ → outM 0 cf δ = some (es c)) : Im (bodyM cf k F ds) m fun c d => d = (e c, es c) := by
  unfold bodyM
  rw [if_pos hn]
  refine im_end (E := Unit) (h _ (agr_app (agr_some ds) (agr_none _))) fun c o ho' => ?_
  obtain ⟨o, δ⟩ := o
  obtain ⟨h1, h2⟩ := ho'
  refine ⟨(e c, es c), ?_, rfl⟩
  rcases h1 with h1 | ⟨h1, h3⟩
  · obtain rfl : o = .rt (e c) := h1
    show (pure (e c) >>= fun d => liftO (outM 0 cf δ) >>= fun es => pure (d, es) : M (D × List D)) = _
    rw [pb, ho c δ h2, liftO_pure, pb]
  · obtain rfl : o = .nx := h1
    show (pure D.non >>= fun d => liftO (outM 0 cf δ) >>= fun es => pure (d, es) : M (D × List D)) = _
    rw [pb, ho c δ h2, liftO_pure, pb, h3]
end
end Fc

/-! Typed forms of shared defs whose work is known. -/
namespace Sh
open PySem L2 Fc
theorem Im.of_pure {A B : Type} {x : M A} {c : Prop} [Decidable c] {a : A} {b : B} {P : B → A → Prop} (h : c → x = pure a) (hp : c → P b a) : Im x (chk c b) P := by
  unfold chk
  by_cases hc : c
  · rw [if_pos hc, h hc]
    exact Im.pure (hp hc)
  · rw [if_neg hc]
    exact Im.fail
def t_calendar_of (h t : List Int) : M (List Int × List Int) := chk (t ≠ [] ∧ h.length ≤ 900 ∧ t.length ≤ 900) (Cal.calOf h t)
theorem im_calendar_of (h t : List Int) : Im (m_calendar_of [eL eI h, eL eI t]) (t_calendar_of h t) fun c d => d = eT2 (eL eI) (eL eI) c :=
  Im.of_pure (fun c => m_calendar_of_eq h t c.1 c.2.1 c.2.2) fun _ => rfl
def t_flag_at (c : List Int × List Int) (k : Int) : M Int := chk (c.2 ≠ [] ∧ 0 ≤ k) (Cal.val c.1 c.2 k.toNat)
theorem im_flag_at (c : List Int × List Int) (k : Int) : Im (m_flag_at [eT2 (eL eI) (eL eI) c, eI k]) (t_flag_at c k) fun c d => d = eI c :=
  Im.of_pure (fun q => m_flag_at_eq c.1 c.2 k q.1 q.2) fun _ => rfl
def t_holds (c : List Int × List Int) (k : Int) : M Bool := chk (c.2 ≠ [] ∧ 0 ≤ k) (decide (Cal.val c.1 c.2 k.toNat = 1))
theorem im_holds (c : List Int × List Int) (k : Int) : Im (m_holds [eT2 (eL eI) (eL eI) c, eI k]) (t_holds c k) fun c d => d = eB c :=
  Im.of_pure (fun q => m_holds_eq c.1 c.2 k q.1 q.2) fun _ => rfl
end Sh

/-! Defs of memories and calls home, as functions on data (printed by gen.py). -/
namespace Mm
open PySem PySem.Spec L2 Fc Sh
def F_open_times : F1 :=
    (sRet (eLc [2] (.nm 2) (itCall dRange1 (aCons (eCall dLen (aCons (eVar 0) aNil)) aNil)) tYesF (eIf (tT (eDef m_holds (aCons (eVar 1) (aCons (eVar 2) aNil)))) (eC (.int 1)) (eC (.int 0)))))
def m_open_times : List D → M D := bodyF 2 3 F_open_times
def F_calls_needed : F1 :=
    (sSeq (sAsg (.tp [(.nm 4), (.nm 5)]) (eVar 3))
    (sRet (eCall dMax2 (aCons (eC (.int 0)) (aCons (eUn dNeg (eBin dDiv (eUn dNeg (eBin dSub (eCall dSum (aCons (eSl (eVar 0) (oSome (eVar 4)) (oSome (eBin dAdd (eVar 5) (eC (.int 1))))) aNil)) (eVar 1))) (eVar 2))) aNil)))))
def m_calls_needed : List D → M D := bodyF 4 6 F_calls_needed
def F_bare_span : F1 :=
    (sSeq (sFor (.nm 4) (itCall dRange1 (aCons (eCall dLen (aCons (eVar 0) aNil)) aNil)) (sFor (.nm 5) (itCall dRange2 (aCons (eVar 4) (aCons (eCall dLen (aCons (eVar 0) aNil)) aNil))) (sIf (tB (eBin dGt (eDef m_calls_needed (aCons (eVar 0) (aCons (eVar 1) (aCons (eVar 2) (aCons (eTup (aCons (eVar 4) (aCons (eVar 5) aNil))) aNil))))) (eCall dSum (aCons (eSl (eVar 3) (oSome (eVar 4)) (oSome (eVar 5))) aNil)))) (sRet (eTup (aCons (eVar 4) (aCons (eVar 5) aNil)))) sNil)))
    (sRet (eC .non)))
def m_bare_span : List D → M D := bodyF 4 6 F_bare_span
def F_step_worth : F1 :=
    (sSeq (sIf (tB (eBin dLe (eVar 4) (eVar 5))) (sRet (eIf (tB (eBin dLt (eVar 4) (eVar 5))) (eDef m_calls_needed (aCons (eVar 0) (aCons (eVar 1) (aCons (eVar 2) (aCons (eTup (aCons (eVar 4) (aCons (eVar 5) aNil))) aNil))))) (eC (.int 0)))) sNil)
    (sRet (eUn dNeg (eCall dSum (aCons (eSl (eVar 3) (oSome (eVar 5)) (oSome (eVar 4))) aNil)))))
def m_step_worth : List D → M D := bodyF 6 6 F_step_worth
def F_raised : F1 :=
    (sSeq (sAsg (.nm 4) (eCall dLen (aCons (eVar 0) aNil)))
    (sSeq (sAsg (.nm 5) (eBin dCat (eLst (aCons (eC (.int 0)) aNil)) (eBin dRepL (eLst (aCons (eC .non) aNil)) (eBin dSub (eVar 4) (eC (.int 1))))))
    (sSeq (sAsg (.nm 6) (eBin dRepL (eLst (aCons (eC .non) aNil)) (eVar 4)))
    (sSeq (sAsg (.nm 7) (eC (.bl true)))
    (sSeq (whileL 100000 (tT (eVar 7)) (sSeq (sAsg (.nm 7) (eC (.bl false)))
      (sFor (.nm 8) (itCall dRange1 (aCons (eVar 4) aNil)) (sSeq (sIf (tB (eBin dIs (eBin dIx (eVar 5) (eVar 8)) (eC .non))) sCt sNil)
        (sFor (.nm 9) (itCall dRange1 (aCons (eVar 4) aNil)) (sSeq (sAsg (.nm 10) (eBin dAdd (eBin dIx (eVar 5) (eVar 8)) (eDef m_step_worth (aCons (eVar 0) (aCons (eVar 1) (aCons (eVar 2) (aCons (eVar 3) (aCons (eVar 8) (aCons (eVar 9) aNil)))))))))
          (sIf (tOrF (tB (eBin dIs (eBin dIx (eVar 5) (eVar 9)) (eC .non))) (tB (eBin dGt (eVar 10) (eBin dIx (eVar 5) (eVar 9))))) (sSeq (sSetIx 5 (eVar 10) (eVar 9))
            (sSeq (sSetIx 6 (eVar 8) (eVar 9))
            (sAsg (.nm 7) (eC (.bl true))))) sNil)))))))
    (sRet (eStill [5, 6] (eTup (aCons (eVar 5) (aCons (eVar 6) aNil))))))))))
def m_raised : List D → M D := bodyF 4 11 F_raised
def F_bar_to : F1 :=
    (sSeq (sAsg (.nm 2) (eLst (aCons (eVar 1) aNil)))
    (sSeq (whileL 100000 (tB (eBin dNe (eBin dIx (eVar 2) (eUn dNeg (eC (.int 1)))) (eC (.int 0)))) (sApp 2 (eBin dIx (eVar 0) (eBin dIx (eVar 2) (eUn dNeg (eC (.int 1)))))))
    (sRet (eCall dTuple (aCons (eRev (eVar 2) (eUn dNeg (eC (.int 1)))) aNil)))))
def m_bar_to : List D → M D := bodyF 2 3 F_bar_to
def F_fewest_calls : F1 :=
    (sSeq (sAsg (.nm 4) (eDef m_open_times (aCons (eVar 0) (aCons (eVar 2) aNil))))
    (sSeq (sAsg (.nm 5) (eDef m_bare_span (aCons (eVar 0) (aCons (eVar 1) (aCons (eVar 3) (aCons (eVar 4) aNil))))))
    (sSeq (sIf (tB (eBin dIsNot (eVar 5) (eC .non))) (sRet (eTup (aCons (eC (.str "none")) (aCons (eVar 5) aNil)))) sNil)
    (sSeq (sAsg (.tp [(.nm 6), (.nm 7)]) (eDef m_raised (aCons (eVar 0) (aCons (eVar 1) (aCons (eVar 3) (aCons (eVar 4) aNil))))))
    (sSeq (sAsg (.nm 8) (eLst aNil))
    (sSeq (sFor (.nm 9) (itCall dRange1 (aCons (eBin dSub (eCall dLen (aCons (eVar 0) aNil)) (eC (.int 1))) aNil)) (sIf (tB (eBin dGt (eBin dIx (eVar 6) (eBin dAdd (eVar 9) (eC (.int 1)))) (eBin dIx (eVar 6) (eVar 9)))) (sApp 8 (eVar 9)) sNil))
    (sRet (eTup (aCons (eCall dTuple (aCons (eVar 8) aNil)) (aCons (eDef m_bar_to (aCons (eVar 7) (aCons (eBin dSub (eCall dLen (aCons (eVar 0) aNil)) (eC (.int 1))) aNil))) aNil))))))))))
def m_fewest_calls : List D → M D := bodyF 4 10 F_fewest_calls
def F_bar_worth : F1 :=
    (sSeq (sAsg (.nm 5) (eDef m_open_times (aCons (eVar 0) (aCons (eVar 2) aNil))))
    (sRet (eCall dSum (aCons (eLc [6, 7] (.tp [(.nm 6), (.nm 7)]) (itCall dZip (aCons (eVar 4) (aCons (eSl (eVar 4) (oSome (eC (.int 1))) oNone) aNil))) tYesF (eDef m_step_worth (aCons (eVar 0) (aCons (eVar 1) (aCons (eVar 3) (aCons (eVar 5) (aCons (eVar 6) (aCons (eVar 7) aNil)))))))) aNil))))
def m_bar_worth : List D → M D := bodyF 5 8 F_bar_worth
def F_steps_of : F1 :=
    (sSeq (sAsg (.nm 3) (eLst aNil))
    (sSeq (sAsg (.nm 4) (eC (.int 0)))
    (sSeq (sFor (.tp [(.nm 5), (.nm 6)]) (itCall dZip (aCons (eVar 0) (aCons (eVar 1) aNil))) (sSeq (sAsg (.nm 7) (eCall dMax2 (aCons (eC (.int 0)) (aCons (eBin dSub (eBin dAdd (eVar 4) (eVar 5)) (eVar 2)) aNil))))
      (sSeq (sAsg (.nm 8) (eBin dSub (eBin dAdd (eVar 4) (eVar 5)) (eVar 7)))
      (sSeq (sAsg (.nm 9) (eCall dMin2 (aCons (eVar 8) (aCons (eVar 6) aNil))))
      (sSeq (sApp 3 (eTup (aCons (eVar 8) (aCons (eVar 7) (aCons (eVar 9) aNil)))))
      (sAsg (.nm 4) (eBin dSub (eVar 8) (eVar 9))))))))
    (sRet (eFrz 3)))))
def m_steps_of : List D → M D := bodyF 3 10 F_steps_of
def F_kept_levels : F1 :=
    (sSeq (sAsg (.nm 3) (eDef m_steps_of (aCons (eVar 0) (aCons (eVar 1) (aCons (eVar 2) aNil)))))
    (sRet (eTup (aCons (eCall dTuple (aCons (eLc [4, 5, 5] (.tp [(.nm 4), (.nm 5), (.nm 5)]) (itSeq (eVar 3)) tYesF (eVar 4)) aNil)) (aCons (eCall dTuple (aCons (eLc [5, 6, 5] (.tp [(.nm 5), (.nm 6), (.nm 5)]) (itSeq (eVar 3)) tYesF (eVar 6)) aNil)) aNil)))))
def m_kept_levels : List D → M D := bodyF 3 7 F_kept_levels
def F_need : F1 :=
    (sRet (eCall dMax1 (aCons (eBin dCat (eLst (aCons (eC (.int 0)) aNil)) (eLc [2, 3, 3] (.tp [(.nm 2), (.nm 3), (.nm 3)]) (itSeq (eDef m_steps_of (aCons (eVar 0) (aCons (eVar 1) (aCons (eCall dSum (aCons (eVar 0) aNil)) aNil))))) tYesF (eVar 2))) aNil)))
def m_need : List D → M D := bodyF 2 4 F_need
def F_span_for : F1 :=
    (sSeq (sFor (.nm 3) (itCall dRange1 (aCons (eCall dLen (aCons (eVar 0) aNil)) aNil)) (sSeq (sAsg (.nm 4) (eC (.int 0)))
      (sFor (.nm 5) (itCall dRange2 (aCons (eVar 3) (aCons (eCall dLen (aCons (eVar 0) aNil)) aNil))) (sSeq (sAsg (.nm 4) (eBin dAdd (eVar 4) (eBin dIx (eVar 0) (eVar 5))))
        (sSeq (sIf (tB (eBin dGt (eVar 4) (eVar 2))) (sRet (eTup (aCons (eVar 3) (aCons (eVar 5) aNil)))) sNil)
        (sAsg (.nm 4) (eBin dSub (eVar 4) (eBin dIx (eVar 1) (eVar 5)))))))))
    (sRet (eC .non)))
def m_span_for : List D → M D := bodyF 3 6 F_span_for
def F_brought : F1 :=
    (sRet (eCall dTuple (aCons (eLc [3, 3, 4] (.tp [(.nm 3), (.nm 3), (.nm 4)]) (itSeq (eDef m_steps_of (aCons (eVar 0) (aCons (eVar 1) (aCons (eVar 2) aNil))))) tYesF (eVar 4)) aNil)))
def m_brought : List D → M D := bodyF 3 5 F_brought
end Mm

namespace Mm
open PySem PySem.Spec L2 Fc Sh
def t_open_times_C1 (calendar : ((List Int) × (List Int))) (z' : Int) : M Int :=
  (ifM (b1 yId (b2 t_holds (pure calendar) (pure z'))) (pure (1 : Int)) (pure (0 : Int)))
def t_open_times (made : (List Int)) (calendar : ((List Int) × (List Int))) : M (List Int) :=
  ((b1 yRange1 (b1 yLen (pure made))) >>= fun l => mapS (t_open_times_C1 calendar) l)
theorem im_open_times (made : (List Int)) (calendar : ((List Int) × (List Int))) : Im (m_open_times [(eL eI) made, (eT2 (eL eI) (eL eI)) calendar]) (t_open_times made calendar) fun c d => d = (eA eI) c :=
  im_body (e := (eA eI)) rfl
  (tb_last (tb_ret (te_lc (ti_range1 (te_call1 ty_lenL (te_var (e := (eL eI)) rfl))) (tg_nm 2) (fun z' => (te_if (tt_t tr_B (te_def2 im_holds (te_var (e := (eT2 (eL eI) (eL eI))) rfl) (te_var (e := eI) rfl))) (te_c (e := eI) (a := 1) rfl) (te_c (e := eI) (a := 0) rfl))))))
def t_calls_needed (made : (List Int)) (size : Int) (units : Int) (span : (Int × Int)) : M Int :=
  (pure span) >>= fun p_ =>
  (b2 yMax (pure (0 : Int)) (b1 yNeg (b2 yDiv (b1 yNeg (b2 ySub (b1 ySum (b3 yCut (pure made) (b1 (fun i => pure (some i)) (pure p_.1)) (b1 (fun i => pure (some i)) (b2 yAdd (pure p_.2) (pure (1 : Int)))))) (pure size))) (pure units))))
theorem im_calls_needed (made : (List Int)) (size : Int) (units : Int) (span : (Int × Int)) : Im (m_calls_needed [(eL eI) made, eI size, eI units, (eT2 eI eI) span]) (t_calls_needed made size units span) fun c d => d = eI c :=
  im_body (e := eI) rfl
  (tb_asg (te_var (e := (eT2 eI eI)) rfl) (tg_2 (tg_nm 4) (tg_nm 5)) fun p_ =>
  (tb_last (tb_ret (te_call2 ty_max (te_c (e := eI) (a := 0) rfl) (te_un ty_neg (te_bin ty_div (te_un ty_neg (te_bin ty_sub (te_call1 ty_sumL (te_slL (te_var (e := (eL eI)) rfl) (to_some (te_var (e := eI) rfl)) (to_some (te_bin ty_add (te_var (e := eI) rfl) (te_c (e := eI) (a := 1) rfl))))) (te_var (e := eI) rfl))) (te_var (e := eI) rfl)))))))
def t_bare_span_L2 (made : (List Int)) (size : Int) (units : Int) (flags : (List Int)) (first : Int) (s' : Unit) (z' : Int) : M (Res Unit (Option (Int × Int))) :=
  (ifM (b2 yGt (b4 t_calls_needed (pure made) (pure size) (pure units) (b2 (fun x0 x1 => pure (x0, x1)) (pure first) (pure z'))) (b1 ySum (b3 yCut (pure flags) (b1 (fun i => pure (some i)) (pure first)) (b1 (fun i => pure (some i)) (pure z')))))
    (((b1 (fun a => pure (some a)) (b2 (fun x0 x1 => pure (x0, x1)) (pure first) (pure z'))) >>= fun r => pure (Res.rt r)))
    ((pure (Res.nx ()))))
def t_bare_span_L1 (made : (List Int)) (size : Int) (units : Int) (flags : (List Int)) (s' : Unit) (z' : Int) : M (Res Unit (Option (Int × Int))) :=
  (b2 yRange2 (pure z') (b1 yLen (pure made))) >>= fun l => forR (t_bare_span_L2 made size units flags z') l () >>= elimP (fun s_ =>
    (pure (Res.nx ())))
def t_bare_span (made : (List Int)) (size : Int) (units : Int) (flags : (List Int)) : M (Option (Int × Int)) :=
  (b1 yRange1 (b1 yLen (pure made))) >>= fun l => forR (t_bare_span_L1 made size units flags) l () >>= elimF (fun s_ =>
  (pure none))
theorem im_bare_span (made : (List Int)) (size : Int) (units : Int) (flags : (List Int)) : Im (m_bare_span [(eL eI) made, eI size, eI units, (eA eI) flags]) (t_bare_span made size units flags) fun c d => d = (eO (eT2 eI eI)) c :=
  im_body (e := (eO (eT2 eI eI))) rfl
  (tb_forF (s0 := ()) (er := (eO (eT2 eI eI))) (fun (s1' : Unit) => ([some ((eL eI) made), some (eI size), some (eI units), some ((eA eI) flags), none, none] : Pat)) (ti_range1 (te_call1 ty_lenL (te_var (e := (eL eI)) rfl))) (tg_nm 4) (PLe.at_ (PLe.at_ (PLe.at_ (PLe.at_ (PLe.no (PLe.no PLe.nil))))))
  (fun s1' z1' => (tb_last (tb_forP (s0 := ()) (er := (eO (eT2 eI eI))) (fun (s2' : Unit) => ([some ((eL eI) made), some (eI size), some (eI units), some ((eA eI) flags), some (eI z1'), none] : Pat)) (ti_range2 (te_var (e := eI) rfl) (te_call1 ty_lenL (te_var (e := (eL eI)) rfl))) (tg_nm 5) (PLe.at_ (PLe.at_ (PLe.at_ (PLe.at_ (PLe.at_ (PLe.no PLe.nil))))))
    (fun s2' z2' => (tb_last (tb_if (tt_b (te_bin ty_gt (te_def4 im_calls_needed (te_var (e := (eL eI)) rfl) (te_var (e := eI) rfl) (te_var (e := eI) rfl) (te_tup2 (te_var (e := eI) rfl) (te_var (e := eI) rfl))) (te_call1 ty_sumA (te_slA (te_var (e := (eA eI)) rfl) (to_some (te_var (e := eI) rfl)) (to_some (te_var (e := eI) rfl))))))
    (tb_retP (te_some (te_tup2 (te_var (e := eI) rfl) (te_var (e := eI) rfl))))
    (tb_skip (tb_endP (s := ()) (PLe.at_ (PLe.at_ (PLe.at_ (PLe.at_ (PLe.at_ (PLe.no PLe.nil)))))))))))
    (fun s_ => (tb_endP (s := ()) (PLe.at_ (PLe.at_ (PLe.at_ (PLe.at_ (PLe.no (PLe.no PLe.nil)))))))))))
  (fun s_ => (tb_last (tb_ret te_none))))
def t_step_worth (made : (List Int)) (size : Int) (units : Int) (flags : (List Int)) (start : Int) (stop : Int) : M Int :=
  (ifM (b2 yLe (pure start) (pure stop))
  ((ifM (b2 yLt (pure start) (pure stop)) (b4 t_calls_needed (pure made) (pure size) (pure units) (b2 (fun x0 x1 => pure (x0, x1)) (pure start) (pure stop))) (pure (0 : Int))))
  ((b1 yNeg (b1 ySum (b3 yCut (pure flags) (b1 (fun i => pure (some i)) (pure stop)) (b1 (fun i => pure (some i)) (pure start)))))))
theorem im_step_worth (made : (List Int)) (size : Int) (units : Int) (flags : (List Int)) (start : Int) (stop : Int) : Im (m_step_worth [(eL eI) made, eI size, eI units, (eA eI) flags, eI start, eI stop]) (t_step_worth made size units flags start stop) fun c d => d = eI c :=
  im_body (e := eI) rfl
  (tb_if (tt_b (te_bin ty_le (te_var (e := eI) rfl) (te_var (e := eI) rfl)))
  (tb_ret (te_if (tt_b (te_bin ty_lt (te_var (e := eI) rfl) (te_var (e := eI) rfl))) (te_def4 im_calls_needed (te_var (e := (eL eI)) rfl) (te_var (e := eI) rfl) (te_var (e := eI) rfl) (te_tup2 (te_var (e := eI) rfl) (te_var (e := eI) rfl))) (te_c (e := eI) (a := 0) rfl)))
  (tb_skip (tb_last (tb_ret (te_un ty_neg (te_call1 ty_sumA (te_slA (te_var (e := (eA eI)) rfl) (to_some (te_var (e := eI) rfl)) (to_some (te_var (e := eI) rfl)))))))))
def t_raised_L3 (made : (List Int)) (size : Int) (units : Int) (flags : (List Int)) (many : Int) (start : Int) (s' : ((List (Option Int)) × (List (Option Int)) × Bool)) (z' : Int) : M ((List (Option Int)) × (List (Option Int)) × Bool) :=
  (b2 yAdd (b1 getO (b2 yIx (pure s'.1) (pure start))) (b6 t_step_worth (pure made) (pure size) (pure units) (pure flags) (pure start) (pure z'))) >>= fun told =>
    (ifM (orB (b2 yIsN (b2 yIx (pure s'.1) (pure z')) (pure ())) (b2 yGt (pure told) (b1 getO (b2 yIx (pure s'.1) (pure z')))))
    (((b1 (fun a => pure (some a)) (pure told)) >>= fun a => (pure z') >>= fun j => ySet s'.1 j a) >>= fun counts_1 =>
      ((b1 (fun a => pure (some a)) (pure start)) >>= fun a => (pure z') >>= fun j => ySet s'.2.1 j a) >>= fun before_1 =>
      (pure true) >>= fun rising_2 =>
      (pure (counts_1, before_1, rising_2)))
    ((pure (s'.1, s'.2.1, s'.2.2))))
def t_raised_L2 (made : (List Int)) (size : Int) (units : Int) (flags : (List Int)) (many : Int) (s' : ((List (Option Int)) × (List (Option Int)) × Bool)) (z' : Int) : M ((List (Option Int)) × (List (Option Int)) × Bool) :=
  (ifM (b2 yIsN (b2 yIx (pure s'.1) (pure z')) (pure ()))
    ((pure (s'.1, s'.2.1, s'.2.2)))
    ((b1 yRange1 (pure many)) >>= fun l => foldS (t_raised_L3 made size units flags many z') l (s'.1, s'.2.1, s'.2.2) >>= fun s_ =>
      (pure (s_.1, s_.2.1, s_.2.2))))
def t_raised_W1 (made : (List Int)) (size : Int) (units : Int) (flags : (List Int)) (many : Int) (s' : ((List (Option Int)) × (List (Option Int)) × Bool)) : M Bool :=
  (b1 yId (pure s'.2.2))
def t_raised_L1 (made : (List Int)) (size : Int) (units : Int) (flags : (List Int)) (many : Int) (s' : ((List (Option Int)) × (List (Option Int)) × Bool)) : M ((List (Option Int)) × (List (Option Int)) × Bool) :=
  (pure false) >>= fun rising_1 =>
    (b1 yRange1 (pure many)) >>= fun l => foldS (t_raised_L2 made size units flags many) l (s'.1, s'.2.1, rising_1) >>= fun s_ =>
    (pure (s_.1, s_.2.1, s_.2.2))
def t_raised (made : (List Int)) (size : Int) (units : Int) (flags : (List Int)) : M ((List (Option Int)) × (List (Option Int))) :=
  (b1 yLen (pure made)) >>= fun many =>
  (b2 yCat (b1 limM (consM (b1 (fun a => pure (some a)) (pure (0 : Int))) (pure []))) (b2 yRepA (b1 limM (consM (pure none) (pure []))) (b2 ySub (pure many) (pure (1 : Int))))) >>= fun counts =>
  (b2 yRepA (b1 limM (consM (pure none) (pure []))) (pure many)) >>= fun before =>
  (pure true) >>= fun rising =>
  whileS 100000 (t_raised_W1 made size units flags many) (t_raised_L1 made size units flags many) (counts, before, rising) >>= fun s_ =>
  (b2 (fun x0 x1 => pure (x0, x1)) (pure s_.1) (pure s_.2.1))
theorem im_raised (made : (List Int)) (size : Int) (units : Int) (flags : (List Int)) : Im (m_raised [(eL eI) made, eI size, eI units, (eA eI) flags]) (t_raised made size units flags) fun c d => d = (eT2 (eA (eO eI)) (eA (eO eI))) c :=
  im_body (e := (eT2 (eA (eO eI)) (eA (eO eI)))) rfl
  (show TB ([some ((eL eI) made), some (eI size), some (eI units), some ((eA eI) flags), none, none, none, none, none, none, none] : Pat) _ _ _ from (tb_asg (te_call1 ty_lenL (te_var (e := (eL eI)) rfl)) (tg_nm 4) fun many =>
  (show TB ([some ((eL eI) made), some (eI size), some (eI units), some ((eA eI) flags), some (eI many), none, none, none, none, none, none] : Pat) _ _ _ from (tb_asg (te_bin ty_catA (te_lst (tas_cons (te_some (te_c (e := eI) (a := 0) rfl)) tas_nil)) (te_bin ty_repA (te_lst (tas_cons te_none tas_nil)) (te_bin ty_sub (te_var (e := eI) rfl) (te_c (e := eI) (a := 1) rfl)))) (tg_nm 5) fun counts =>
  (show TB ([some ((eL eI) made), some (eI size), some (eI units), some ((eA eI) flags), some (eI many), some ((eA (eO eI)) counts), none, none, none, none, none] : Pat) _ _ _ from (tb_asg (te_bin ty_repA (te_lst (tas_cons te_none tas_nil)) (te_var (e := eI) rfl)) (tg_nm 6) fun before =>
  (show TB ([some ((eL eI) made), some (eI size), some (eI units), some ((eA eI) flags), some (eI many), some ((eA (eO eI)) counts), some ((eA (eO eI)) before), none, none, none, none] : Pat) _ _ _ from (tb_asg (te_c (e := eB) (a := true) rfl) (tg_nm 7) fun rising =>
  (show TB ([some ((eL eI) made), some (eI size), some (eI units), some ((eA eI) flags), some (eI many), some ((eA (eO eI)) counts), some ((eA (eO eI)) before), some (eB rising), none, none, none] : Pat) _ _ _ from (tb_while (s0 := (counts, before, rising)) (fun (s1' : ((List (Option Int)) × (List (Option Int)) × Bool)) => ([some ((eL eI) made), some (eI size), some (eI units), some ((eA eI) flags), some (eI many), some ((eA (eO eI)) s1'.1), some ((eA (eO eI)) s1'.2.1), some (eB s1'.2.2), none, none, none] : Pat)) (PLe.at_ (PLe.at_ (PLe.at_ (PLe.at_ (PLe.at_ (PLe.at_ (PLe.at_ (PLe.at_ (PLe.no (PLe.no (PLe.no PLe.nil)))))))))))
  (fun s1' => (show TT ([some ((eL eI) made), some (eI size), some (eI units), some ((eA eI) flags), some (eI many), some ((eA (eO eI)) s1'.1), some ((eA (eO eI)) s1'.2.1), some (eB s1'.2.2), none, none, none] : Pat) _ _ from (tt_t tr_B (te_var (e := eB) rfl))))
  (fun s1' => (show TB ([some ((eL eI) made), some (eI size), some (eI units), some ((eA eI) flags), some (eI many), some ((eA (eO eI)) s1'.1), some ((eA (eO eI)) s1'.2.1), some (eB s1'.2.2), none, none, none] : Pat) _ _ _ from (tb_asg (te_c (e := eB) (a := false) rfl) (tg_nm 7) fun rising_1 =>
    (show TB ([some ((eL eI) made), some (eI size), some (eI units), some ((eA eI) flags), some (eI many), some ((eA (eO eI)) s1'.1), some ((eA (eO eI)) s1'.2.1), some (eB rising_1), none, none, none] : Pat) _ _ _ from (tb_last (tb_for (s0 := (s1'.1, s1'.2.1, rising_1)) (fun (s2' : ((List (Option Int)) × (List (Option Int)) × Bool)) => ([some ((eL eI) made), some (eI size), some (eI units), some ((eA eI) flags), some (eI many), some ((eA (eO eI)) s2'.1), some ((eA (eO eI)) s2'.2.1), some (eB s2'.2.2), none, none, none] : Pat)) (ti_range1 (te_var (e := eI) rfl)) (tg_nm 8) (PLe.at_ (PLe.at_ (PLe.at_ (PLe.at_ (PLe.at_ (PLe.at_ (PLe.at_ (PLe.at_ (PLe.no (PLe.no (PLe.no PLe.nil)))))))))))
    (fun s2' z2' => (show TB ([some ((eL eI) made), some (eI size), some (eI units), some ((eA eI) flags), some (eI many), some ((eA (eO eI)) s2'.1), some ((eA (eO eI)) s2'.2.1), some (eB s2'.2.2), some (eI z2'), none, none] : Pat) _ _ _ from (tb_if (tt_b (te_bin (ty_isN (fun _ => rfl)) (te_bin ty_ixA (te_var (e := (eA (eO eI))) rfl) (te_var (e := eI) rfl)) (te_c (e := eN) (a := ()) rfl)))
    (tb_ctL (s := (s2'.1, s2'.2.1, s2'.2.2)) (PLe.at_ (PLe.at_ (PLe.at_ (PLe.at_ (PLe.at_ (PLe.at_ (PLe.at_ (PLe.at_ (PLe.no (PLe.no (PLe.no PLe.nil))))))))))))
    (tb_skip (tb_last (tb_for (s0 := (s2'.1, s2'.2.1, s2'.2.2)) (fun (s3' : ((List (Option Int)) × (List (Option Int)) × Bool)) => ([some ((eL eI) made), some (eI size), some (eI units), some ((eA eI) flags), some (eI many), some ((eA (eO eI)) s3'.1), some ((eA (eO eI)) s3'.2.1), some (eB s3'.2.2), some (eI z2'), none, none] : Pat)) (ti_range1 (te_var (e := eI) rfl)) (tg_nm 9) (PLe.at_ (PLe.at_ (PLe.at_ (PLe.at_ (PLe.at_ (PLe.at_ (PLe.at_ (PLe.at_ (PLe.at_ (PLe.no (PLe.no PLe.nil)))))))))))
      (fun s3' z3' => (show TB ([some ((eL eI) made), some (eI size), some (eI units), some ((eA eI) flags), some (eI many), some ((eA (eO eI)) s3'.1), some ((eA (eO eI)) s3'.2.1), some (eB s3'.2.2), some (eI z2'), some (eI z3'), none] : Pat) _ _ _ from (tb_asg (te_bin ty_add (te_get (te_bin ty_ixA (te_var (e := (eA (eO eI))) rfl) (te_var (e := eI) rfl))) (te_def6 im_step_worth (te_var (e := (eL eI)) rfl) (te_var (e := eI) rfl) (te_var (e := eI) rfl) (te_var (e := (eA eI)) rfl) (te_var (e := eI) rfl) (te_var (e := eI) rfl))) (tg_nm 10) fun told =>
    (show TB ([some ((eL eI) made), some (eI size), some (eI units), some ((eA eI) flags), some (eI many), some ((eA (eO eI)) s3'.1), some ((eA (eO eI)) s3'.2.1), some (eB s3'.2.2), some (eI z2'), some (eI z3'), some (eI told)] : Pat) _ _ _ from (tb_last (tb_if (tt_or (tt_b (te_bin (ty_isN (fun _ => rfl)) (te_bin ty_ixA (te_var (e := (eA (eO eI))) rfl) (te_var (e := eI) rfl)) (te_c (e := eN) (a := ()) rfl))) (tt_b (te_bin ty_gt (te_var (e := eI) rfl) (te_get (te_bin ty_ixA (te_var (e := (eA (eO eI))) rfl) (te_var (e := eI) rfl))))))
    (tb_assoc (tb_setIx rfl (te_some (te_var (e := eI) rfl)) (te_var (e := eI) rfl) fun counts_1 =>
      (show TB ([some ((eL eI) made), some (eI size), some (eI units), some ((eA eI) flags), some (eI many), some ((eA (eO eI)) counts_1), some ((eA (eO eI)) s3'.2.1), some (eB s3'.2.2), some (eI z2'), some (eI z3'), some (eI told)] : Pat) _ _ _ from (tb_assoc (tb_setIx rfl (te_some (te_var (e := eI) rfl)) (te_var (e := eI) rfl) fun before_1 =>
      (show TB ([some ((eL eI) made), some (eI size), some (eI units), some ((eA eI) flags), some (eI many), some ((eA (eO eI)) counts_1), some ((eA (eO eI)) before_1), some (eB s3'.2.2), some (eI z2'), some (eI z3'), some (eI told)] : Pat) _ _ _ from (tb_asg (te_c (e := eB) (a := true) rfl) (tg_nm 7) fun rising_2 =>
      (show TB ([some ((eL eI) made), some (eI size), some (eI units), some ((eA eI) flags), some (eI many), some ((eA (eO eI)) counts_1), some ((eA (eO eI)) before_1), some (eB rising_2), some (eI z2'), some (eI z3'), some (eI told)] : Pat) _ _ _ from (tb_endL (s := (counts_1, before_1, rising_2)) (PLe.at_ (PLe.at_ (PLe.at_ (PLe.at_ (PLe.at_ (PLe.at_ (PLe.at_ (PLe.at_ (PLe.at_ (PLe.no (PLe.no PLe.nil))))))))))))))))))))
    (tb_skip (tb_endL (s := (s3'.1, s3'.2.1, s3'.2.2)) (PLe.at_ (PLe.at_ (PLe.at_ (PLe.at_ (PLe.at_ (PLe.at_ (PLe.at_ (PLe.at_ (PLe.at_ (PLe.no (PLe.no PLe.nil)))))))))))))))))))
      (fun s_ => (show TB ([some ((eL eI) made), some (eI size), some (eI units), some ((eA eI) flags), some (eI many), some ((eA (eO eI)) s_.1), some ((eA (eO eI)) s_.2.1), some (eB s_.2.2), some (eI z2'), none, none] : Pat) _ _ _ from (tb_endL (s := (s_.1, s_.2.1, s_.2.2)) (PLe.at_ (PLe.at_ (PLe.at_ (PLe.at_ (PLe.at_ (PLe.at_ (PLe.at_ (PLe.at_ (PLe.no (PLe.no (PLe.no PLe.nil))))))))))))))))))))
    (fun s_ => (show TB ([some ((eL eI) made), some (eI size), some (eI units), some ((eA eI) flags), some (eI many), some ((eA (eO eI)) s_.1), some ((eA (eO eI)) s_.2.1), some (eB s_.2.2), none, none, none] : Pat) _ _ _ from (tb_endL (s := (s_.1, s_.2.1, s_.2.2)) (PLe.at_ (PLe.at_ (PLe.at_ (PLe.at_ (PLe.at_ (PLe.at_ (PLe.at_ (PLe.at_ (PLe.no (PLe.no (PLe.no PLe.nil))))))))))))))))))))
  (fun s_ => (show TB ([some ((eL eI) made), some (eI size), some (eI units), some ((eA eI) flags), some (eI many), some ((eA (eO eI)) s_.1), some ((eA (eO eI)) s_.2.1), some (eB s_.2.2), none, none, none] : Pat) _ _ _ from (tb_last (tb_ret (te_still rfl (te_tup2 (te_var (e := (eA (eO eI))) rfl) (te_var (e := (eA (eO eI))) rfl)))))))))))))))))
def t_bar_to_W1 (before : (List (Option Int))) (s' : (List Int)) : M Bool :=
  (b2 yNe (b2 yIx (pure s') (b1 yNeg (pure (1 : Int)))) (pure (0 : Int)))
def t_bar_to_L1 (before : (List (Option Int))) (s' : (List Int)) : M (List Int) :=
  ((b1 getO (b2 yIx (pure before) (b2 yIx (pure s') (b1 yNeg (pure (1 : Int)))))) >>= fun a => yApp s' a) >>= fun found_1 =>
    (pure found_1)
def t_bar_to (before : (List (Option Int))) (goal : Int) : M (List Int) :=
  (b1 limM (consM (pure goal) (pure []))) >>= fun found =>
  whileS 100000 (t_bar_to_W1 before) (t_bar_to_L1 before) found >>= fun s_ =>
  (b1 yId (b2 yRev (pure s_) (b1 yNeg (pure (1 : Int)))))
theorem im_bar_to (before : (List (Option Int))) (goal : Int) : Im (m_bar_to [(eA (eO eI)) before, eI goal]) (t_bar_to before goal) fun c d => d = (eL eI) c :=
  im_body (e := (eL eI)) rfl
  (tb_asg (te_lst (tas_cons (te_var (e := eI) rfl) tas_nil)) (tg_nm 2) fun found =>
  (tb_while (s0 := found) (fun (s1' : (List Int)) => ([some ((eA (eO eI)) before), none, some ((eA eI) s1')] : Pat)) (PLe.at_ (PLe.no (PLe.at_ PLe.nil)))
  (fun s1' => (tt_b (te_bin (ty_ne cm_I (by decide)) (te_bin ty_ixA (te_var (e := (eA eI)) rfl) (te_un ty_neg (te_c (e := eI) (a := 1) rfl))) (te_c (e := eI) (a := 0) rfl))))
  (fun s1' => (tb_last (tb_app rfl (te_get (te_bin ty_ixA (te_var (e := (eA (eO eI))) rfl) (te_bin ty_ixA (te_var (e := (eA eI)) rfl) (te_un ty_neg (te_c (e := eI) (a := 1) rfl))))) fun found_1 =>
    (tb_endL (s := found_1) (PLe.at_ (PLe.no (PLe.at_ PLe.nil)))))))
  (fun s_ => (tb_last (tb_ret (te_call1 ty_tupleA (te_revA (te_var (e := (eA eI)) rfl) (te_un ty_neg (te_c (e := eI) (a := 1) rfl)))))))))
def t_fewest_calls_L1 (made : (List Int)) (counts : (List (Option Int))) (before : (List (Option Int))) (s' : (List Int)) (z' : Int) : M (List Int) :=
  (ifM (b2 yGt (b1 getO (b2 yIx (pure counts) (b2 yAdd (pure z') (pure (1 : Int))))) (b1 getO (b2 yIx (pure counts) (pure z'))))
    (((pure z') >>= fun a => yApp s' a) >>= fun times_1 =>
      (pure times_1))
    ((pure s')))
def t_fewest_calls (made : (List Int)) (size : Int) (calendar : ((List Int) × (List Int))) (units : Int) : M (Sum (Str × (Int × Int)) ((List Int) × (List Int))) :=
  (b2 t_open_times (pure made) (pure calendar)) >>= fun flags =>
  (b4 t_bare_span (pure made) (pure size) (pure units) (pure flags)) >>= fun span =>
  (ifM (b2 yNotN (pure span) (pure ()))
  ((b1 (fun a => pure (Sum.inl a)) (b2 (fun x0 x1 => pure (x0, x1)) (pure ("none" : Str)) (b1 getO (pure span)))))
  ((b4 t_raised (pure made) (pure size) (pure units) (pure flags)) >>= fun p_ =>
    (b1 limM (pure [])) >>= fun times =>
    (b1 yRange1 (b2 ySub (b1 yLen (pure made)) (pure (1 : Int)))) >>= fun l => foldS (t_fewest_calls_L1 made p_.1 p_.2) l times >>= fun s_ =>
    (b1 (fun a => pure (Sum.inr a)) (b2 (fun x0 x1 => pure (x0, x1)) (b1 yId (pure s_)) (b2 t_bar_to (pure p_.2) (b2 ySub (b1 yLen (pure made)) (pure (1 : Int))))))))
theorem im_fewest_calls (made : (List Int)) (size : Int) (calendar : ((List Int) × (List Int))) (units : Int) : Im (m_fewest_calls [(eL eI) made, eI size, (eT2 (eL eI) (eL eI)) calendar, eI units]) (t_fewest_calls made size calendar units) fun c d => d = (eU (eT2 eS (eT2 eI eI)) (eT2 (eL eI) (eL eI))) c :=
  im_body (e := (eU (eT2 eS (eT2 eI eI)) (eT2 (eL eI) (eL eI)))) rfl
  (show TB ([some ((eL eI) made), some (eI size), some ((eT2 (eL eI) (eL eI)) calendar), some (eI units), none, none, none, none, none, none] : Pat) _ _ _ from (tb_asg (te_def2 im_open_times (te_var (e := (eL eI)) rfl) (te_var (e := (eT2 (eL eI) (eL eI))) rfl)) (tg_nm 4) fun flags =>
  (show TB ([some ((eL eI) made), some (eI size), some ((eT2 (eL eI) (eL eI)) calendar), some (eI units), some ((eA eI) flags), none, none, none, none, none] : Pat) _ _ _ from (tb_asg (te_def4 im_bare_span (te_var (e := (eL eI)) rfl) (te_var (e := eI) rfl) (te_var (e := eI) rfl) (te_var (e := (eA eI)) rfl)) (tg_nm 5) fun span =>
  (show TB ([some ((eL eI) made), some (eI size), some ((eT2 (eL eI) (eL eI)) calendar), some (eI units), some ((eA eI) flags), some ((eO (eT2 eI eI)) span), none, none, none, none] : Pat) _ _ _ from (tb_if (tt_b (te_bin (ty_notN (fun _ => rfl)) (te_var (e := (eO (eT2 eI eI))) rfl) (te_c (e := eN) (a := ()) rfl)))
  (tb_ret (te_inl (te_tup2 (te_c (e := eS) (a := "none") rfl) (te_get (te_var (e := (eO (eT2 eI eI))) rfl)))))
  (tb_skip (tb_asg (te_def4 im_raised (te_var (e := (eL eI)) rfl) (te_var (e := eI) rfl) (te_var (e := eI) rfl) (te_var (e := (eA eI)) rfl)) (tg_2 (tg_nm 6) (tg_nm 7)) fun p_ =>
    (show TB ([some ((eL eI) made), some (eI size), some ((eT2 (eL eI) (eL eI)) calendar), some (eI units), some ((eA eI) flags), some ((eO (eT2 eI eI)) span), some ((eA (eO eI)) p_.1), some ((eA (eO eI)) p_.2), none, none] : Pat) _ _ _ from (tb_asg (te_lst (tas_nil (e := eI))) (tg_nm 8) fun times =>
    (show TB ([some ((eL eI) made), some (eI size), some ((eT2 (eL eI) (eL eI)) calendar), some (eI units), some ((eA eI) flags), some ((eO (eT2 eI eI)) span), some ((eA (eO eI)) p_.1), some ((eA (eO eI)) p_.2), some ((eA eI) times), none] : Pat) _ _ _ from (tb_for (s0 := times) (fun (s1' : (List Int)) => ([some ((eL eI) made), none, none, none, none, none, some ((eA (eO eI)) p_.1), some ((eA (eO eI)) p_.2), some ((eA eI) s1'), none] : Pat)) (ti_range1 (te_bin ty_sub (te_call1 ty_lenL (te_var (e := (eL eI)) rfl)) (te_c (e := eI) (a := 1) rfl))) (tg_nm 9) (PLe.at_ (PLe.no (PLe.no (PLe.no (PLe.no (PLe.no (PLe.at_ (PLe.at_ (PLe.at_ (PLe.no PLe.nil))))))))))
    (fun s1' z1' => (show TB ([some ((eL eI) made), none, none, none, none, none, some ((eA (eO eI)) p_.1), some ((eA (eO eI)) p_.2), some ((eA eI) s1'), some (eI z1')] : Pat) _ _ _ from (tb_last (tb_if (tt_b (te_bin ty_gt (te_get (te_bin ty_ixA (te_var (e := (eA (eO eI))) rfl) (te_bin ty_add (te_var (e := eI) rfl) (te_c (e := eI) (a := 1) rfl)))) (te_get (te_bin ty_ixA (te_var (e := (eA (eO eI))) rfl) (te_var (e := eI) rfl)))))
    (tb_app rfl (te_var (e := eI) rfl) fun times_1 =>
      (show TB ([some ((eL eI) made), none, none, none, none, none, some ((eA (eO eI)) p_.1), some ((eA (eO eI)) p_.2), some ((eA eI) times_1), some (eI z1')] : Pat) _ _ _ from (tb_endL (s := times_1) (PLe.at_ (PLe.no (PLe.no (PLe.no (PLe.no (PLe.no (PLe.at_ (PLe.at_ (PLe.at_ (PLe.no PLe.nil)))))))))))))
    (tb_skip (tb_endL (s := s1') (PLe.at_ (PLe.no (PLe.no (PLe.no (PLe.no (PLe.no (PLe.at_ (PLe.at_ (PLe.at_ (PLe.no PLe.nil))))))))))))))))
    (fun s_ => (show TB ([some ((eL eI) made), none, none, none, none, none, some ((eA (eO eI)) p_.1), some ((eA (eO eI)) p_.2), some ((eA eI) s_), none] : Pat) _ _ _ from (tb_last (tb_ret (te_inr (te_tup2 (te_call1 ty_tupleA (te_var (e := (eA eI)) rfl)) (te_def2 im_bar_to (te_var (e := (eA (eO eI))) rfl) (te_bin ty_sub (te_call1 ty_lenL (te_var (e := (eL eI)) rfl)) (te_c (e := eI) (a := 1) rfl)))))))))))))))))))))
def t_bar_worth_C1 (made : (List Int)) (size : Int) (units : Int) (flags : (List Int)) (z' : (Int × Int)) : M Int :=
  (b6 t_step_worth (pure made) (pure size) (pure units) (pure flags) (pure z'.1) (pure z'.2))
def t_bar_worth (made : (List Int)) (size : Int) (calendar : ((List Int) × (List Int))) (units : Int) (bar : (List Int)) : M Int :=
  (b2 t_open_times (pure made) (pure calendar)) >>= fun flags =>
  (b1 ySum ((b2 yZip (pure bar) (b3 yCut (pure bar) (b1 (fun i => pure (some i)) (pure (1 : Int))) (pure none))) >>= fun l => mapS (t_bar_worth_C1 made size units flags) l))
theorem im_bar_worth (made : (List Int)) (size : Int) (calendar : ((List Int) × (List Int))) (units : Int) (bar : (List Int)) : Im (m_bar_worth [(eL eI) made, eI size, (eT2 (eL eI) (eL eI)) calendar, eI units, (eL eI) bar]) (t_bar_worth made size calendar units bar) fun c d => d = eI c :=
  im_body (e := eI) rfl
  (show TB ([some ((eL eI) made), some (eI size), some ((eT2 (eL eI) (eL eI)) calendar), some (eI units), some ((eL eI) bar), none, none, none] : Pat) _ _ _ from (tb_asg (te_def2 im_open_times (te_var (e := (eL eI)) rfl) (te_var (e := (eT2 (eL eI) (eL eI))) rfl)) (tg_nm 5) fun flags =>
  (show TB ([some ((eL eI) made), some (eI size), some ((eT2 (eL eI) (eL eI)) calendar), some (eI units), some ((eL eI) bar), some ((eA eI) flags), none, none] : Pat) _ _ _ from (tb_last (tb_ret (te_call1 ty_sumA (te_lc (ti_zipLL (te_var (e := (eL eI)) rfl) (te_slL (te_var (e := (eL eI)) rfl) (to_some (te_c (e := eI) (a := 1) rfl)) to_none)) (tg_2 (tg_nm 6) (tg_nm 7)) (fun z' => (show TE ([some ((eL eI) made), some (eI size), some ((eT2 (eL eI) (eL eI)) calendar), some (eI units), some ((eL eI) bar), some ((eA eI) flags), some (eI z'.1), some (eI z'.2)] : Pat) _ _ _ from (te_def6 im_step_worth (te_var (e := (eL eI)) rfl) (te_var (e := eI) rfl) (te_var (e := eI) rfl) (te_var (e := (eA eI)) rfl) (te_var (e := eI) rfl) (te_var (e := eI) rfl)))))))))))
def t_steps_of_L1 (size : Int) (s' : ((List (Int × Int × Int)) × Int)) (z' : (Int × Int)) : M ((List (Int × Int × Int)) × Int) :=
  (b2 yMax (pure (0 : Int)) (b2 ySub (b2 yAdd (pure s'.2) (pure z'.1)) (pure size))) >>= fun lost =>
    (b2 ySub (b2 yAdd (pure s'.2) (pure z'.1)) (pure lost)) >>= fun level =>
    (b2 yMin (pure level) (pure z'.2)) >>= fun brought =>
    ((b3 (fun x0 x1 x2 => pure (x0, x1, x2)) (pure level) (pure lost) (pure brought)) >>= fun a => yApp s'.1 a) >>= fun found_1 =>
    (b2 ySub (pure level) (pure brought)) >>= fun held_1 =>
    (pure (found_1, held_1))
def t_steps_of (made : (List Int)) (down : (List Int)) (size : Int) : M (List (Int × Int × Int)) :=
  (b1 limM (pure [])) >>= fun found =>
  (pure (0 : Int)) >>= fun held =>
  (b2 yZip (pure made) (pure down)) >>= fun l => foldS (t_steps_of_L1 size) l (found, held) >>= fun s_ =>
  (pure s_.1)
theorem im_steps_of (made : (List Int)) (down : (List Int)) (size : Int) : Im (m_steps_of [(eL eI) made, (eL eI) down, eI size]) (t_steps_of made down size) fun c d => d = (eA (eT3 eI eI eI)) c :=
  im_body (e := (eA (eT3 eI eI eI))) rfl
  (show TB ([some ((eL eI) made), some ((eL eI) down), some (eI size), none, none, none, none, none, none, none] : Pat) _ _ _ from (tb_asg (te_lst (tas_nil (e := (eT3 eI eI eI)))) (tg_nm 3) fun found =>
  (show TB ([some ((eL eI) made), some ((eL eI) down), some (eI size), some ((eA (eT3 eI eI eI)) found), none, none, none, none, none, none] : Pat) _ _ _ from (tb_asg (te_c (e := eI) (a := 0) rfl) (tg_nm 4) fun held =>
  (show TB ([some ((eL eI) made), some ((eL eI) down), some (eI size), some ((eA (eT3 eI eI eI)) found), some (eI held), none, none, none, none, none] : Pat) _ _ _ from (tb_for (s0 := (found, held)) (fun (s1' : ((List (Int × Int × Int)) × Int)) => ([none, none, some (eI size), some ((eA (eT3 eI eI eI)) s1'.1), some (eI s1'.2), none, none, none, none, none] : Pat)) (ti_zipLL (te_var (e := (eL eI)) rfl) (te_var (e := (eL eI)) rfl)) (tg_2 (tg_nm 5) (tg_nm 6)) (PLe.no (PLe.no (PLe.at_ (PLe.at_ (PLe.at_ (PLe.no (PLe.no (PLe.no (PLe.no (PLe.no PLe.nil))))))))))
  (fun s1' z1' => (show TB ([none, none, some (eI size), some ((eA (eT3 eI eI eI)) s1'.1), some (eI s1'.2), some (eI z1'.1), some (eI z1'.2), none, none, none] : Pat) _ _ _ from (tb_asg (te_call2 ty_max (te_c (e := eI) (a := 0) rfl) (te_bin ty_sub (te_bin ty_add (te_var (e := eI) rfl) (te_var (e := eI) rfl)) (te_var (e := eI) rfl))) (tg_nm 7) fun lost =>
    (show TB ([none, none, some (eI size), some ((eA (eT3 eI eI eI)) s1'.1), some (eI s1'.2), some (eI z1'.1), some (eI z1'.2), some (eI lost), none, none] : Pat) _ _ _ from (tb_asg (te_bin ty_sub (te_bin ty_add (te_var (e := eI) rfl) (te_var (e := eI) rfl)) (te_var (e := eI) rfl)) (tg_nm 8) fun level =>
    (show TB ([none, none, some (eI size), some ((eA (eT3 eI eI eI)) s1'.1), some (eI s1'.2), some (eI z1'.1), some (eI z1'.2), some (eI lost), some (eI level), none] : Pat) _ _ _ from (tb_asg (te_call2 ty_min (te_var (e := eI) rfl) (te_var (e := eI) rfl)) (tg_nm 9) fun brought =>
    (show TB ([none, none, some (eI size), some ((eA (eT3 eI eI eI)) s1'.1), some (eI s1'.2), some (eI z1'.1), some (eI z1'.2), some (eI lost), some (eI level), some (eI brought)] : Pat) _ _ _ from (tb_app rfl (te_tup3 (te_var (e := eI) rfl) (te_var (e := eI) rfl) (te_var (e := eI) rfl)) fun found_1 =>
    (show TB ([none, none, some (eI size), some ((eA (eT3 eI eI eI)) found_1), some (eI s1'.2), some (eI z1'.1), some (eI z1'.2), some (eI lost), some (eI level), some (eI brought)] : Pat) _ _ _ from (tb_last (tb_asg (te_bin ty_sub (te_var (e := eI) rfl) (te_var (e := eI) rfl)) (tg_nm 4) fun held_1 =>
    (show TB ([none, none, some (eI size), some ((eA (eT3 eI eI eI)) found_1), some (eI held_1), some (eI z1'.1), some (eI z1'.2), some (eI lost), some (eI level), some (eI brought)] : Pat) _ _ _ from (tb_endL (s := (found_1, held_1)) (PLe.no (PLe.no (PLe.at_ (PLe.at_ (PLe.at_ (PLe.no (PLe.no (PLe.no (PLe.no (PLe.no PLe.nil))))))))))))))))))))))))
  (fun s_ => (show TB ([none, none, some (eI size), some ((eA (eT3 eI eI eI)) s_.1), some (eI s_.2), none, none, none, none, none] : Pat) _ _ _ from (tb_last (tb_ret (te_frz (e := (eA (eT3 eI eI eI))) rfl)))))))))))
def t_need_C1  (z' : (Int × Int × Int)) : M Int :=
  (pure z'.1)
def t_need (made : (List Int)) (down : (List Int)) : M Int :=
  (b1 yMaxL (b2 yCat (b1 limM (consM (pure (0 : Int)) (pure []))) ((b3 t_steps_of (pure made) (pure down) (b1 ySum (pure made))) >>= fun l => mapS t_need_C1 l)))
theorem im_need (made : (List Int)) (down : (List Int)) : Im (m_need [(eL eI) made, (eL eI) down]) (t_need made down) fun c d => d = eI c :=
  im_body (e := eI) rfl
  (tb_last (tb_ret (te_call1 ty_maxA (te_bin ty_catA (te_lst (tas_cons (te_c (e := eI) (a := 0) rfl) tas_nil)) (te_lc (ti_A (te_def3 im_steps_of (te_var (e := (eL eI)) rfl) (te_var (e := (eL eI)) rfl) (te_call1 ty_sumL (te_var (e := (eL eI)) rfl)))) (tg_3 (tg_nm 2) (tg_nm 3) (tg_nm 3)) (fun z' => (te_var (e := eI) rfl)))))))
def t_span_for_L2 (made : (List Int)) (down : (List Int)) (size : Int) (first : Int) (s' : Int) (z' : Int) : M (Res Int (Option (Int × Int))) :=
  (b2 yAdd (pure s') (b2 yIx (pure made) (pure z'))) >>= fun held_1 =>
    (ifM (b2 yGt (pure held_1) (pure size))
    (((b1 (fun a => pure (some a)) (b2 (fun x0 x1 => pure (x0, x1)) (pure first) (pure z'))) >>= fun r => pure (Res.rt r)))
    ((b2 ySub (pure held_1) (b2 yIx (pure down) (pure z'))) >>= fun held_2 =>
      (pure (Res.nx held_2))))
def t_span_for_L1 (made : (List Int)) (down : (List Int)) (size : Int) (s' : Unit) (z' : Int) : M (Res Unit (Option (Int × Int))) :=
  (pure (0 : Int)) >>= fun held =>
    (b2 yRange2 (pure z') (b1 yLen (pure made))) >>= fun l => forR (t_span_for_L2 made down size z') l held >>= elimP (fun s_ =>
    (pure (Res.nx ())))
def t_span_for (made : (List Int)) (down : (List Int)) (size : Int) : M (Option (Int × Int)) :=
  (b1 yRange1 (b1 yLen (pure made))) >>= fun l => forR (t_span_for_L1 made down size) l () >>= elimF (fun s_ =>
  (pure none))
theorem im_span_for (made : (List Int)) (down : (List Int)) (size : Int) : Im (m_span_for [(eL eI) made, (eL eI) down, eI size]) (t_span_for made down size) fun c d => d = (eO (eT2 eI eI)) c :=
  im_body (e := (eO (eT2 eI eI))) rfl
  (tb_forF (s0 := ()) (er := (eO (eT2 eI eI))) (fun (s1' : Unit) => ([some ((eL eI) made), some ((eL eI) down), some (eI size), none, none, none] : Pat)) (ti_range1 (te_call1 ty_lenL (te_var (e := (eL eI)) rfl))) (tg_nm 3) (PLe.at_ (PLe.at_ (PLe.at_ (PLe.no (PLe.no (PLe.no PLe.nil))))))
  (fun s1' z1' => (tb_asg (te_c (e := eI) (a := 0) rfl) (tg_nm 4) fun held =>
    (tb_last (tb_forP (s0 := held) (er := (eO (eT2 eI eI))) (fun (s2' : Int) => ([some ((eL eI) made), some ((eL eI) down), some (eI size), some (eI z1'), some (eI s2'), none] : Pat)) (ti_range2 (te_var (e := eI) rfl) (te_call1 ty_lenL (te_var (e := (eL eI)) rfl))) (tg_nm 5) (PLe.at_ (PLe.at_ (PLe.at_ (PLe.at_ (PLe.at_ (PLe.no PLe.nil))))))
    (fun s2' z2' => (tb_asg (te_bin ty_add (te_var (e := eI) rfl) (te_bin ty_ixL (te_var (e := (eL eI)) rfl) (te_var (e := eI) rfl))) (tg_nm 4) fun held_1 =>
    (tb_if (tt_b (te_bin ty_gt (te_var (e := eI) rfl) (te_var (e := eI) rfl)))
    (tb_retP (te_some (te_tup2 (te_var (e := eI) rfl) (te_var (e := eI) rfl))))
    (tb_skip (tb_last (tb_asg (te_bin ty_sub (te_var (e := eI) rfl) (te_bin ty_ixL (te_var (e := (eL eI)) rfl) (te_var (e := eI) rfl))) (tg_nm 4) fun held_2 =>
      (tb_endP (s := held_2) (PLe.at_ (PLe.at_ (PLe.at_ (PLe.at_ (PLe.at_ (PLe.no PLe.nil)))))))))))))
    (fun s_ => (tb_endP (s := ()) (PLe.at_ (PLe.at_ (PLe.at_ (PLe.no (PLe.no (PLe.no PLe.nil))))))))))))
  (fun s_ => (tb_last (tb_ret te_none))))
def t_kept_levels_C1  (z' : (Int × Int × Int)) : M Int :=
  (pure z'.1)
def t_kept_levels_C2  (z' : (Int × Int × Int)) : M Int :=
  (pure z'.2.1)
def t_kept_levels (made : (List Int)) (down : (List Int)) (size : Int) : M ((List Int) × (List Int)) :=
  (b3 t_steps_of (pure made) (pure down) (pure size)) >>= fun steps =>
  (b2 (fun x0 x1 => pure (x0, x1)) (b1 yId ((pure steps) >>= fun l => mapS t_kept_levels_C1 l)) (b1 yId ((pure steps) >>= fun l => mapS t_kept_levels_C2 l)))
theorem im_kept_levels (made : (List Int)) (down : (List Int)) (size : Int) : Im (m_kept_levels [(eL eI) made, (eL eI) down, eI size]) (t_kept_levels made down size) fun c d => d = (eT2 (eL eI) (eL eI)) c :=
  im_body (e := (eT2 (eL eI) (eL eI))) rfl
  (show TB ([some ((eL eI) made), some ((eL eI) down), some (eI size), none, none, none, none] : Pat) _ _ _ from (tb_asg (te_def3 im_steps_of (te_var (e := (eL eI)) rfl) (te_var (e := (eL eI)) rfl) (te_var (e := eI) rfl)) (tg_nm 3) fun steps =>
  (show TB ([some ((eL eI) made), some ((eL eI) down), some (eI size), some ((eA (eT3 eI eI eI)) steps), none, none, none] : Pat) _ _ _ from (tb_last (tb_ret (te_tup2 (te_call1 ty_tupleA (te_lc (ti_A (te_var (e := (eA (eT3 eI eI eI))) rfl)) (tg_3 (tg_nm 4) (tg_nm 5) (tg_nm 5)) (fun z' => (show TE ([some ((eL eI) made), some ((eL eI) down), some (eI size), some ((eA (eT3 eI eI eI)) steps), some (eI z'.1), some (eI z'.2.2), none] : Pat) _ _ _ from (te_var (e := eI) rfl))))) (te_call1 ty_tupleA (te_lc (ti_A (te_var (e := (eA (eT3 eI eI eI))) rfl)) (tg_3 (tg_nm 5) (tg_nm 6) (tg_nm 5)) (fun z' => (show TE ([some ((eL eI) made), some ((eL eI) down), some (eI size), some ((eA (eT3 eI eI eI)) steps), none, some (eI z'.2.2), some (eI z'.2.1)] : Pat) _ _ _ from (te_var (e := eI) rfl)))))))))))
def t_brought_C1  (z' : (Int × Int × Int)) : M Int :=
  (pure z'.2.2)
def t_brought (made : (List Int)) (down : (List Int)) (size : Int) : M (List Int) :=
  (b1 yId ((b3 t_steps_of (pure made) (pure down) (pure size)) >>= fun l => mapS t_brought_C1 l))
theorem im_brought (made : (List Int)) (down : (List Int)) (size : Int) : Im (m_brought [(eL eI) made, (eL eI) down, eI size]) (t_brought made down size) fun c d => d = (eL eI) c :=
  im_body (e := (eL eI)) rfl
  (tb_last (tb_ret (te_call1 ty_tupleA (te_lc (ti_A (te_def3 im_steps_of (te_var (e := (eL eI)) rfl) (te_var (e := (eL eI)) rfl) (te_var (e := eI) rfl))) (tg_3 (tg_nm 3) (tg_nm 3) (tg_nm 4)) (fun z' => (te_var (e := eI) rfl))))))
end Mm

/-! Memories and calls home: what the typed defs compute. -/
namespace Mm
open PySem L2 Fc Sh
local macro_rules | `(tactic| walk_at "tv") => `(tactic| simp (disch := omega) only [b1, b2, b3, b4, b5, b6, pb, ifM, andB, orB, notB, chM, consM, getO_some, yAdd, ySub, yNeg, yAbs, yMax, yMin, yGcd, yLt, yLe, yGt, yGe, yEq, yNe, yId, yOfB, yIsN, yNotN, yEqB, yNeB, yLen, ySum, yAny, yAll, yTrI, yTrL, yTrO, yIn, yNotIn, yCut, yTL2, yTL3, yTL4, yLT2, yLT3, limM_ok, yMul_okL, yMul_okR, yDiv_ok, yMod_ok, yRange1_ok, yRange2_ok, yCat_ok, yApp_ok,
  List.length_nil, List.length_cons, Option.isNone_some, Option.isNone_none, Bool.not_true, Bool.not_false, Bool.or_true, Bool.true_or, Bool.or_false, Bool.false_or, Bool.and_true, Bool.true_and, Bool.and_false, Bool.false_and, if_tt, if_ff, if_T, if_F, elimF_l, elimF_r, elimP_l, elimP_r, decide_true, decide_false, decide_eq_true, decide_eq_false, *])
/-! ### sums of the first -/
def pre (l : List Int) (k : Nat) : Int := (l.take k).sum
theorem pre_zero (l : List Int) : pre l 0 = 0 := rfl
theorem pre_succ (l : List Int) (k : Nat) : pre l (k + 1) = pre l k + l.getD k 0 := by
  unfold pre
  rw [List.take_succ, List.sum_append, List.getD_eq_getElem?_getD]
  cases l[k]? with
  | none => simp
  | some a => simp
theorem pre_all {l : List Int} {k : Nat} (h : l.length ≤ k) : pre l k = l.sum := by
  unfold pre
  rw [List.take_of_length_le h]
theorem drop_sum (l : List Int) (a b : Nat) (h : a ≤ b) : ((l.drop a).take (b - a)).sum = pre l b - pre l a := by
  unfold pre
  have := (List.take_append_drop a (l.take b)).symm
  rw [List.take_take, Nat.min_eq_left h, List.drop_take] at this
  rw [this, List.sum_append]
  omega
theorem cut_sum {l : List Int} {a b : Int} (h0 : 0 ≤ a) (h1 : a ≤ b) (h2 : b ≤ (l.length : Int)) : (cutD l (some a) (some b)).sum = pre l b.toNat - pre l a.toNat := by
  unfold cutD
  have e1 : HT.sIx l.length 0 (some a) = a.toNat := by
    show (if a < 0 then (a + (l.length : Int)).toNat else min a.toNat l.length) = a.toNat
    rw [if_neg (by omega)]
    omega
  have e2 : HT.sIx l.length l.length (some b) = b.toNat := by
    show (if b < 0 then (b + (l.length : Int)).toNat else min b.toNat l.length) = b.toNat
    rw [if_neg (by omega)]
    omega
  rw [e1, e2, drop_sum _ _ _ (by omega)]
/-! ### calls that a span needs -/
def nd (made : List Int) (size units : Int) (a b : Nat) : Int := max 0 (-(-(pre made (b + 1) - pre made a - size)).fdiv units)
theorem nd_le {made : List Int} {size units k : Int} {a b : Nat} (hu : 0 < units) (hk : 0 ≤ k) : nd made size units a b ≤ k ↔ pre made (b + 1) - pre made a - size ≤ k * units := by
  unfold nd
  generalize pre made (b + 1) - pre made a - size = x
  rw [Int.fdiv_eq_ediv_of_nonneg _ (Int.le_of_lt hu)]
  have h1 := Int.ediv_mul_le (-x) (Int.ne_of_gt hu)
  have h2 := Int.lt_ediv_add_one_mul_self (-x) hu
  generalize hq : (-x) / units = q at *
  constructor
  · intro h
    have h3 : -q ≤ k := by omega
    have h4 := Int.mul_le_mul_of_nonneg_right h3 (Int.le_of_lt hu)
    rw [Int.neg_mul] at h4
    omega
  · intro h
    have h3 : -k * units < (q + 1) * units := by
      rw [Int.neg_mul]
      omega
    have h4 := Int.lt_of_mul_lt_mul_right h3 (Int.le_of_lt hu)
    omega
theorem nd_nonneg {made : List Int} {size units : Int} {a b : Nat} : 0 ≤ nd made size units a b := by
  unfold nd
  omega
theorem calls_needed_eq {made : List Int} {size units : Int} {a b : Int} (hu : 0 < units ∧ units < 1000000) (h0 : 0 ≤ a) (h1 : a ≤ b + 1) (h2 : b < (made.length : Int)) (hb : 0 ≤ b) : t_calls_needed made size units (a, b) = pure (nd made size units a.toNat b.toNat) := by
  unfold t_calls_needed nd
  have e := cut_sum (l := made) (a := a) (b := b + 1) h0 h1 (by omega)
  simp only [b1, b2, b3, pb, yAdd, yCut, ySum, e, ySub, yNeg, yDiv_ok (show units ≠ 0 by omega) (show units.natAbs < 1073741824 by omega), yMax]
  rw [show (b + 1).toNat = b.toNat + 1 from by omega]
/-! ### which times -/
def dn (u : Int) (P : Int → Bool) (n : Nat) : List Int := (rangeI 0 n).map fun t => if P t = true then u else 0
theorem dn_len (u : Int) (P : Int → Bool) (n : Nat) : (dn u P n).length = n := by
  unfold dn
  rw [List.length_map, rangeI_len]
theorem dn_get (u : Int) (P : Int → Bool) {n k : Nat} (h : k < n) : (dn u P n).getD k 0 = if P (k : Int) = true then u else 0 := by
  unfold dn
  rw [List.getD_eq_getElem?_getD, List.getElem?_map, rangeI_get _ _ _ h]
  show (if P (0 + (k : Int)) = true then u else 0) = _
  rw [Int.zero_add]
def cnt (P : Int → Bool) (n k : Nat) : Int := pre (dn 1 P n) k
theorem cnt_zero (P : Int → Bool) (n : Nat) : cnt P n 0 = 0 := rfl
theorem cnt_succ (P : Int → Bool) {n k : Nat} (h : k < n) : cnt P n (k + 1) = cnt P n k + if P (k : Int) = true then 1 else 0 := by
  unfold cnt
  rw [pre_succ, dn_get _ _ h]
theorem pre_dn (u : Int) (P : Int → Bool) (n : Nat) : ∀ k, k ≤ n → pre (dn u P n) k = cnt P n k * u
  | 0, _ => by rw [pre_zero, cnt_zero, Int.zero_mul]
  | k + 1, h => by
    rw [pre_succ, dn_get _ _ (by omega), cnt_succ _ (by omega), pre_dn u P n k (by omega), Int.add_mul]
    congr 1
    split
    · rw [Int.one_mul]
    · rw [Int.zero_mul]
theorem cnt_mono (P : Int → Bool) (n : Nat) : ∀ d a, a + d ≤ n → cnt P n a ≤ cnt P n (a + d) ∧ cnt P n (a + d) ≤ cnt P n a + d
  | 0, a, _ => by
    rw [Nat.add_zero]
    omega
  | d + 1, a, h => by
    have := cnt_mono P n d a (by omega)
    have e := cnt_succ P (n := n) (k := a + d) (by omega)
    rw [show a + (d + 1) = a + d + 1 from rfl, e]
    split <;> omega
theorem cnt_sub {P Q : Int → Bool} {n : Nat} (h : ∀ t : Nat, t < n → P (t : Int) = true → Q (t : Int) = true) : ∀ d a, a + d ≤ n → cnt P n (a + d) - cnt P n a ≤ cnt Q n (a + d) - cnt Q n a
  | 0, a, _ => by
    rw [Nat.add_zero]
    omega
  | d + 1, a, hd => by
    have := cnt_sub h d a (by omega)
    have e1 := cnt_succ P (n := n) (k := a + d) (by omega)
    have e2 := cnt_succ Q (n := n) (k := a + d) (by omega)
    rw [show a + (d + 1) = a + d + 1 from rfl, e1, e2]
    have := h (a + d) (by omega)
    by_cases c : P ((a + d : Nat) : Int) = true
    · rw [if_pos c, if_pos (this c)]
      omega
    · rw [if_neg c]
      split <;> omega
/-! ### the memory's course -/
def mem (size : Int) : Int → List (Int × Int) → List (Int × Int × Int)
  | _, [] => []
  | h, (m, d) :: r => (h + m - max 0 (h + m - size), max 0 (h + m - size), min (h + m - max 0 (h + m - size)) d) :: mem size (h + m - max 0 (h + m - size) - min (h + m - max 0 (h + m - size)) d) r
theorem mem_len (size : Int) : ∀ (h : Int) (l : List (Int × Int)), (mem size h l).length = l.length
  | _, [] => rfl
  | h, (m, d) :: r => by rw [mem, List.length_cons, mem_len size _ r, List.length_cons]
theorem steps_of_eq {made down : List Int} {size : Int} (hl : made.length ≤ 1000) : t_steps_of made down size = pure (mem size 0 (made.zip down)) := by
  unfold t_steps_of
  have go : ∀ (l : List (Int × Int)) (acc : List (Int × Int × Int)) (h : Int), acc.length + l.length ≤ 10000 → ∃ h', foldS (t_steps_of_L1 size) l (acc, h) = pure (acc ++ mem size h l, h') := fun l => by
    induction l with
    | nil => intro acc h _; exact ⟨h, by simp [foldS, mem]⟩
    | cons z l ih =>
      intro acc h hl
      obtain ⟨m, d⟩ := z
      rw [List.length_cons] at hl
      have e : t_steps_of_L1 size (acc, h) (m, d) = pure (acc ++ [(h + m - max 0 (h + m - size), max 0 (h + m - size), min (h + m - max 0 (h + m - size)) d)], h + m - max 0 (h + m - size) - min (h + m - max 0 (h + m - size)) d) := by
        unfold t_steps_of_L1
        simp only [b1, b2, b3, pb, yAdd, ySub, yMax, yMin, yApp_ok (show acc.length < 100000 by omega)]
      obtain ⟨h', e2⟩ := ih (acc ++ [(h + m - max 0 (h + m - size), max 0 (h + m - size), min (h + m - max 0 (h + m - size)) d)]) (h + m - max 0 (h + m - size) - min (h + m - max 0 (h + m - size)) d) (by rw [List.length_append, List.length_singleton]; omega)
      refine ⟨h', ?_⟩
      rw [foldS, e, pb, e2, mem]
      simp
  obtain ⟨h', e⟩ := go (made.zip down) [] 0 (by rw [List.length_zip]; simp; omega)
  simp only [b1, b2, pb, limM_ok (show ([] : List (Int × Int × Int)).length ≤ 100000 from by simp), yZip, e, List.nil_append]
def lostS (size : Int) (made down : List Int) : Int := ((mem size 0 (made.zip down)).map fun z => z.2.1).sum
theorem kept_eq {made down : List Int} {size : Int} (hl : made.length ≤ 1000) : t_kept_levels made down size = pure ((mem size 0 (made.zip down)).map fun z => z.1, (mem size 0 (made.zip down)).map fun z => z.2.1) := by
  unfold t_kept_levels
  have hl2 : (mem size 0 (made.zip down)).length ≤ 100000 := by
    rw [mem_len, List.length_zip]
    omega
  have e1 : mapS t_kept_levels_C1 (mem size 0 (made.zip down)) = pure ((mem size 0 (made.zip down)).map fun z => z.1) := mapS_pure hl2 fun _ _ => rfl
  have e2 : mapS t_kept_levels_C2 (mem size 0 (made.zip down)) = pure ((mem size 0 (made.zip down)).map fun z => z.2.1) := mapS_pure hl2 fun _ _ => rfl
  simp only [b1, b2, b3, pb, steps_of_eq hl, e1, e2, yId]
/-- nothing is lost from h on -/
def Fits (size : Int) : Int → List (Int × Int) → Prop
  | _, [] => True
  | h, (m, d) :: r => h + m ≤ size ∧ Fits size (max 0 (h + m - d)) r
theorem fits_mem {size : Int} : ∀ (l : List (Int × Int)) (h : Int), 0 ≤ ((mem size h l).map fun z => z.2.1).sum ∧ (((mem size h l).map fun z => z.2.1).sum = 0 ↔ Fits size h l)
  | [], h => ⟨by simp [mem], by simp [mem, Fits]⟩
  | (m, d) :: r, h => by
    obtain ⟨h1, h2⟩ := fits_mem (size := size) r (h + m - max 0 (h + m - size) - min (h + m - max 0 (h + m - size)) d)
    rw [mem, List.map_cons, List.sum_cons]
    refine ⟨by dsimp only; omega, ?_⟩
    show max 0 (h + m - size) + _ = 0 ↔ (h + m ≤ size ∧ Fits size (max 0 (h + m - d)) r)
    constructor
    · intro e
      have c : h + m ≤ size := by omega
      have e2 : h + m - max 0 (h + m - size) - min (h + m - max 0 (h + m - size)) d = max 0 (h + m - d) := by omega
      rw [e2] at h2 h1 e
      exact ⟨c, h2.mp (by omega)⟩
    · intro ⟨c, f⟩
      have e2 : h + m - max 0 (h + m - size) - min (h + m - max 0 (h + m - size)) d = max 0 (h + m - d) := by omega
      rw [e2] at h2 h1 ⊢
      have := h2.mpr f
      omega
/-- the level where nothing is ever lost -/
theorem need_go {size S : Int} : ∀ (l : List (Int × Int)) (h : Int), (∀ z ∈ l, 0 ≤ z.1 ∧ 0 ≤ z.2) → h + (l.map (·.1)).sum ≤ S → 0 ≤ h → ((∀ x ∈ (mem S h l).map (fun z => z.1), x ≤ size) ↔ Fits size h l)
  | [], h, _, _, _ => by simp [mem, Fits]
  | (m, d) :: r, h, hz, hS, h0 => by
    rw [List.map_cons, List.sum_cons] at hS
    have hz1 := hz (m, d) List.mem_cons_self
    have hz2 : ∀ z ∈ r, 0 ≤ z.1 ∧ 0 ≤ z.2 := fun z hz' => hz z (List.mem_cons_of_mem _ hz')
    have hr : 0 ≤ (r.map (·.1)).sum := by
      clear hS hz
      induction r with
      | nil => simp
      | cons z r ih =>
        rw [List.map_cons, List.sum_cons]
        have := hz2 z List.mem_cons_self
        have := ih fun z hz' => hz2 z (List.mem_cons_of_mem _ hz')
        omega
    dsimp only at hS hz1
    have e1 : h + m - max 0 (h + m - S) = h + m := by omega
    have e2 : h + m - min (h + m) d = max 0 (h + m - d) := by omega
    rw [mem, e1, e2, List.map_cons]
    have ih := need_go (size := size) (S := S) r (max 0 (h + m - d)) hz2 (by omega) (by omega)
    show (∀ x ∈ (h + m) :: _, x ≤ size) ↔ (h + m ≤ size ∧ Fits size (max 0 (h + m - d)) r)
    rw [List.forall_mem_cons, ih]
theorem need_eq {made down : List Int} (hl : made.length ≤ 1000) : ∃ N, t_need made down = pure N ∧ ∀ size, N ≤ size ↔ (0 ≤ size ∧ ∀ x ∈ (mem made.sum 0 (made.zip down)).map (fun z => z.1), x ≤ size) := by
  have hl2 : (mem made.sum 0 (made.zip down)).length ≤ 1000 := by
    rw [mem_len, List.length_zip]
    omega
  have e1 : mapS t_need_C1 (mem made.sum 0 (made.zip down)) = pure ((mem made.sum 0 (made.zip down)).map fun z => z.1) := mapS_pure (by omega) fun _ _ => rfl
  unfold t_need
  simp only [b1, b2, b3, pb, consM, ySum, steps_of_eq hl, e1, limM_ok (show [(0 : Int)].length ≤ 100000 from by simp), yCat_ok (show [(0 : Int)].length + ((mem made.sum 0 (made.zip down)).map fun z => z.1).length ≤ 100000 from by rw [List.length_map]; simp; omega), yMaxL, List.singleton_append]
  generalize (mem made.sum 0 (made.zip down)).map (fun z => z.1) = l
  rw [List.max?_cons']
  refine ⟨_, rfl, fun size => ?_⟩
  have key : ∀ (l : List Int) (a : Int), l.foldl max a ≤ size ↔ (a ≤ size ∧ ∀ x ∈ l, x ≤ size) := fun l => by
    induction l with
    | nil => intro a; simp
    | cons b l ih =>
      intro a
      rw [List.foldl_cons, ih, List.forall_mem_cons, Int.max_le, and_assoc]
  exact key l 0
theorem need_fits {made down : List Int} {size : Int} (hl : made.length ≤ 1000) (hs : 0 ≤ size) (hm : ∀ x ∈ made, 0 ≤ x) (hd : ∀ x ∈ down, 0 ≤ x) (hlen : made.length = down.length) : ∃ N, t_need made down = pure N ∧ (N ≤ size ↔ Fits size 0 (made.zip down)) := by
  obtain ⟨N, e, h⟩ := need_eq (down := down) hl
  refine ⟨N, e, ?_⟩
  rw [h size]
  have hz : ∀ z ∈ made.zip down, 0 ≤ z.1 ∧ 0 ≤ z.2 := fun z hz => by
    obtain ⟨m, d⟩ := z
    have := List.of_mem_zip hz
    exact ⟨hm _ this.1, hd _ this.2⟩
  have hsum : ((made.zip down).map (·.1)).sum = made.sum := by
    rw [List.map_fst_zip (by omega)]
  have := need_go (size := size) (S := made.sum) (made.zip down) 0 hz (by rw [hsum]; omega) (by omega)
  rw [← this]
  exact ⟨fun h => h.2, fun h => ⟨hs, h⟩⟩
/-! ### nothing is lost, by spans -/
def Span (size : Int) (made down : List Int) (a b : Nat) : Prop := pre made (b + 1) - pre made a - (pre down b - pre down a) ≤ size
theorem pre_cons (x : Int) (l : List Int) (k : Nat) : pre (x :: l) (k + 1) = x + pre l k := by
  unfold pre
  rw [List.take_succ_cons, List.sum_cons]
theorem fits_span {size : Int} : ∀ (made down : List Int) (h : Int), made.length = down.length → 0 ≤ h → (Fits size h (made.zip down) ↔ (∀ b, b < made.length → h + pre made (b + 1) - pre down b ≤ size) ∧ ∀ a b, a ≤ b → b < made.length → Span size made down a b)
  | [], [], h, _, _ => by simp [Fits]
  | [], _ :: _, _, e, _ => by simp at e
  | _ :: _, [], _, e, _ => by simp at e
  | m :: made, d :: down, h, e, h0 => by
    rw [List.length_cons, List.length_cons] at e
    have ih := fits_span (size := size) made down (max 0 (h + m - d)) (by omega) (by omega)
    show (h + m ≤ size ∧ Fits size (max 0 (h + m - d)) (made.zip down)) ↔ _
    rw [ih]
    unfold Span
    constructor
    · intro ⟨h1, h2, h3⟩
      refine ⟨fun b hb => ?_, fun a b hab hb => ?_⟩
      · cases b with
        | zero =>
          rw [pre_cons, pre_zero, pre_zero]
          omega
        | succ b =>
          rw [pre_cons, pre_cons]
          have := h2 b (by rw [List.length_cons] at hb; omega)
          omega
      · rw [List.length_cons] at hb
        cases a with
        | zero =>
          cases b with
          | zero =>
            rw [pre_cons, pre_zero, pre_zero, pre_zero]
            omega
          | succ b =>
            rw [pre_cons, pre_cons, pre_zero, pre_zero]
            have := h2 b (by omega)
            omega
        | succ a =>
          cases b with
          | zero => omega
          | succ b =>
            rw [pre_cons, pre_cons, pre_cons, pre_cons]
            have := h3 a b (by omega) (by omega)
            omega
    · intro ⟨h1, h2⟩
      refine ⟨?_, fun b hb => ?_, fun a b hab hb => ?_⟩
      · have := h1 0 (by rw [List.length_cons]; omega)
        rw [pre_cons, pre_zero, pre_zero] at this
        omega
      · have q1 := h1 (b + 1) (by rw [List.length_cons]; omega)
        have q2 := h2 (0 + 1) (b + 1) (by omega) (by rw [List.length_cons]; omega)
        rw [pre_cons, pre_cons] at q1
        rw [pre_cons, pre_cons, pre_cons, pre_cons, pre_zero, pre_zero] at q2
        omega
      · have q2 := h2 (a + 1) (b + 1) (by omega) (by rw [List.length_cons]; omega)
        rw [pre_cons, pre_cons, pre_cons, pre_cons] at q2
        omega
theorem fits_iff {size : Int} {made down : List Int} (e : made.length = down.length) : Fits size 0 (made.zip down) ↔ ∀ a b, a ≤ b → b < made.length → Span size made down a b := by
  rw [fits_span made down 0 e (Int.le_refl _)]
  refine ⟨fun h => h.2, fun h => ⟨fun b hb => ?_, h⟩⟩
  have := h 0 b (by omega) hb
  unfold Span at this
  rw [pre_zero, pre_zero] at this
  omega
end Mm

/-! Calls home: the least counts. -/
namespace Mm
open PySem L2 Fc Sh
local macro_rules | `(tactic| walk_at "tv") => `(tactic| simp (disch := omega) only [b1, b2, b3, b4, b5, b6, pb, ifM, andB, orB, notB, chM, consM, getO_some, yAdd, ySub, yNeg, yAbs, yMax, yMin, yGcd, yLt, yLe, yGt, yGe, yEq, yNe, yId, yOfB, yIsN, yNotN, yEqB, yNeB, yLen, ySum, yAny, yAll, yTrI, yTrL, yTrO, yIn, yNotIn, yCut, yTL2, yTL3, yTL4, yLT2, yLT3, limM_ok, yMul_okL, yMul_okR, yDiv_ok, yMod_ok, yRange1_ok, yRange2_ok, yCat_ok, yApp_ok,
  List.length_nil, List.length_cons, Option.isNone_some, Option.isNone_none, Bool.not_true, Bool.not_false, Bool.or_true, Bool.true_or, Bool.or_false, Bool.false_or, Bool.and_true, Bool.true_and, Bool.and_false, Bool.false_and, if_tt, if_ff, if_T, if_F, elimF_l, elimF_r, elimP_l, elimP_r, decide_true, decide_false, decide_eq_true, decide_eq_false, *])
theorem app_filter {q : Int → Bool} {F : List Int → Int → M (List Int)} {n : Nat} (hn : n ≤ 1000) (h : ∀ acc k, 0 ≤ k → k < (n : Int) → acc.length ≤ 1000 → F acc k = pure (if q k = true then acc ++ [k] else acc)) : foldS F (rangeI 0 n) [] = pure ((rangeI 0 n).filter q) := by
  have go : ∀ (l acc : List Int), (∀ k ∈ l, 0 ≤ k ∧ k < (n : Int)) → acc.length + l.length ≤ 1000 → foldS F l acc = pure (acc ++ l.filter q) := fun l => by
    induction l with
    | nil => intro acc _ _; simp [foldS]
    | cons k l ih =>
      intro acc hk hl
      rw [List.length_cons] at hl
      obtain ⟨h1, h2⟩ := hk k List.mem_cons_self
      rw [foldS, h acc k h1 h2 (by omega), pb, List.filter_cons]
      have hk' := fun k' h' => hk k' (List.mem_cons_of_mem _ h')
      cases q k with
      | true =>
        rw [if_pos rfl, ih _ hk' (by rw [List.length_append, List.length_singleton]; omega), if_pos rfl]
        simp
      | false =>
        rw [if_neg Bool.false_ne_true, ih _ hk' (by omega), if_neg Bool.false_ne_true]
  have := go (rangeI 0 n) [] (fun k hk => by
    have := mem_rangeI.mp hk
    omega) (by rw [rangeI_len]; simp; omega)
  rw [List.nil_append] at this
  exact this
/-- a search for a pair, the first not behind the second -/
theorem pair_le {n : Nat} {q : Nat → Nat → Prop} {F : Unit → Int → M (Res Unit (Option (Int × Int)))} {σ : Type} {G : Int → σ → Int → M (Res σ (Option (Int × Int)))} {s0 : σ} (J : Nat → Nat → σ → Prop)
    (hF : ∀ i : Nat, i < n → F () (i : Int) = (forR (G i) (rangeI i (n - i)) s0 >>= elimP (fun _ => pure (.nx ()))))
    (hJ : ∀ i : Nat, i < n → J i 0 s0)
    (hG : ∀ i k s, i + k < n → J i k s → ∃ r, G (i : Int) s ((i + k : Nat) : Int) = pure r ∧ match r with | .nx s' => ¬ q i (i + k) ∧ J i (k + 1) s' | .bk _ => False | .rt r => q i (i + k) ∧ r = some ((i : Int), ((i + k : Nat) : Int))) :
    ∃ r, (forR F (rangeI 0 n) () >>= elimF (fun _ => pure none)) = pure r ∧ match r with | none => ∀ i j, i ≤ j → j < n → ¬ q i j | some p => ∃ i j : Nat, p = ((i : Int), (j : Int)) ∧ i ≤ j ∧ j < n ∧ q i j := by
  obtain ⟨e, h1, h2⟩ := forR_inv (f := F) (fun k _ => ∀ i j, i < k → i ≤ j → j < n → ¬ q i j) (fun _ => False) (fun r => ∃ i j : Nat, r = some ((i : Int), (j : Int)) ∧ i ≤ j ∧ j < n ∧ q i j) (l := rangeI 0 n) (n := 0) (s := ()) (fun i j h => by omega) fun i s z hz hI => by
    have hi := lt_of_get hz
    rw [rangeI_len] at hi
    rw [rangeI_get _ _ _ hi] at hz
    obtain rfl : (0 : Int) + (i : Nat) = z := Option.some.inj hz
    rw [Int.zero_add, hF i hi]
    obtain ⟨e, h1, h2⟩ := forR_inv (f := G i) (fun k s => J i k s ∧ ∀ j, i ≤ j → j < i + k → ¬ q i j) (fun _ => False) (fun r => ∃ j : Nat, r = some ((i : Int), (j : Int)) ∧ i ≤ j ∧ j < n ∧ q i j) (l := rangeI i (n - i)) (n := 0) (s := s0) ⟨hJ i hi, fun j h1 h2 => by omega⟩ fun k s z hz hs => by
      have hk := lt_of_get hz
      rw [rangeI_len] at hk
      rw [rangeI_get _ _ _ hk] at hz
      obtain rfl : (i : Int) + (k : Nat) = z := Option.some.inj hz
      rw [Nat.zero_add] at hs ⊢
      obtain ⟨r, g1, g2⟩ := hG i k s (by omega) hs.1
      rw [show ((i + k : Nat) : Int) = (i : Int) + (k : Nat) from by omega] at g1 g2
      refine ⟨r, g1, ?_⟩
      cases r with
      | nx s' => exact ⟨g2.2, fun j h3 h4 => by
          by_cases c : j = i + k
          · rw [c]; exact g2.1
          · exact hs.2 j h3 (by omega)⟩
      | bk s' => exact g2
      | rt r => exact ⟨i + k, by rw [g2.2]; congr 1, by omega, by omega, g2.1⟩
    rw [h1, pb]
    cases e with
    | inl s' =>
      rw [elimP_l]
      refine ⟨_, rfl, fun a b h3 h4 h5 => ?_⟩
      rcases h2 with h2 | h2
      · by_cases c : a = i
        · subst c
          refine h2.2 b h4 ?_
          rw [rangeI_len]
          omega
        · exact hI a b (by omega) h4 h5
      · exact h2.elim
    | inr r =>
      rw [elimP_r]
      obtain ⟨j, h3, h4, h5, h6⟩ := h2
      exact ⟨_, rfl, i, j, h3, h4, h5, h6⟩
  rw [h1, pb]
  cases e with
  | inl s =>
    rw [elimF_l]
    refine ⟨none, rfl, fun i j h3 h4 => ?_⟩
    rcases h2 with h2 | h2
    · exact h2 i j (by rw [rangeI_len]; omega) h3 h4
    · exact h2.elim
  | inr r =>
    rw [elimF_r]
    obtain ⟨i, j, h3, h4, h5, h6⟩ := h2
    subst h3
    exact ⟨_, rfl, i, j, rfl, h4, h5, h6⟩
/-! ### the span of a loss -/
theorem span_for_eq {made down : List Int} {size : Int} (hl : made.length ≤ 1000) (e : made.length = down.length) : ∃ r, t_span_for made down size = pure r ∧ match r with | none => ∀ i j, i ≤ j → j < made.length → Span size made down i j | some p => ∃ i j : Nat, p = ((i : Int), (j : Int)) ∧ i ≤ j ∧ j < made.length ∧ ¬ Span size made down i j := by
  unfold t_span_for
  simp only [b1, pb, yLen, yRange1_ok (n := ((made.length : Nat) : Int)) (by omega) (by omega), Int.toNat_natCast]
  obtain ⟨r, h1, h2⟩ := pair_le (n := made.length) (q := fun i j => ¬ Span size made down i j) (F := t_span_for_L1 made down size) (G := fun i => t_span_for_L2 made down size i) (s0 := 0) (fun i k s => s = pre made (i + k) - pre made i - (pre down (i + k) - pre down i))
    (fun i hi => by
      unfold t_span_for_L1
      simp only [b1, b2, pb, yLen, yRange2_ok (i := (i : Int)) (n := ((made.length : Nat) : Int)) (by omega) (by omega) (by omega) (by omega)]
      rw [show (((made.length : Nat) : Int) - (i : Int)).toNat = made.length - i from by omega])
    (fun i hi => by
      rw [Nat.add_zero]
      omega)
    (fun i k s hik hs => by
      unfold t_span_for_L2
      have e1 := yIx_getD 0 (l := made) (i := ((i + k : Nat) : Int)) (by omega) (by omega)
      have e2 := yIx_getD 0 (l := down) (i := ((i + k : Nat) : Int)) (by omega) (by omega)
      rw [Int.toNat_natCast] at e1 e2
      have p1 := pre_succ made (i + k)
      have p2 := pre_succ down (i + k)
      simp only [b1, b2, pb, yAdd, ySub, yGt, e1, e2, ifM]
      by_cases c : size < s + made.getD (i + k) 0
      · rw [decide_eq_true c, if_pos rfl]
        refine ⟨_, rfl, fun h => ?_, rfl⟩
        unfold Span at h
        omega
      · rw [decide_eq_false c, if_neg Bool.false_ne_true]
        refine ⟨_, rfl, fun h => h ?_, ?_⟩
        · unfold Span
          omega
        · rw [show i + (k + 1) = i + k + 1 from rfl, p1, p2]
          omega)
  refine ⟨r, h1, ?_⟩
  cases r with
  | none =>
    intro i j h3 h4
    have := h2 i j h3 h4
    exact Classical.not_not.mp (fun h => this h)
  | some p => exact h2
/-! ### spans that are bare -/
theorem bare_eq {made flags : List Int} {size units : Int} (hl : made.length ≤ 1000) (e : flags.length = made.length) (hu : 0 < units ∧ units < 1000000) : ∃ r, t_bare_span made size units flags = pure r ∧ match r with | none => ∀ i j, i ≤ j → j < made.length → nd made size units i j ≤ pre flags j - pre flags i | some p => ∃ i j : Nat, p = ((i : Int), (j : Int)) ∧ i ≤ j ∧ j < made.length ∧ pre flags j - pre flags i < nd made size units i j := by
  unfold t_bare_span
  simp only [b1, pb, yLen, yRange1_ok (n := ((made.length : Nat) : Int)) (by omega) (by omega), Int.toNat_natCast]
  obtain ⟨r, h1, h2⟩ := pair_le (n := made.length) (q := fun i j => pre flags j - pre flags i < nd made size units i j) (F := t_bare_span_L1 made size units flags) (G := fun i => t_bare_span_L2 made size units flags i) (s0 := ()) (fun i k s => True)
    (fun i hi => by
      unfold t_bare_span_L1
      simp only [b1, b2, pb, yLen, yRange2_ok (i := (i : Int)) (n := ((made.length : Nat) : Int)) (by omega) (by omega) (by omega) (by omega)]
      rw [show (((made.length : Nat) : Int) - (i : Int)).toNat = made.length - i from by omega])
    (fun i hi => trivial)
    (fun i k s hik hs => by
      unfold t_bare_span_L2
      have e1 := calls_needed_eq (made := made) (size := size) (units := units) (a := (i : Int)) (b := ((i + k : Nat) : Int)) hu (by omega) (by omega) (by omega) (by omega)
      have e2 := cut_sum (l := flags) (a := (i : Int)) (b := ((i + k : Nat) : Int)) (by omega) (by omega) (by omega)
      rw [Int.toNat_natCast, Int.toNat_natCast] at e1 e2
      simp only [b1, b2, b3, b4, pb, yCut, ySum, yGt, e1, e2, ifM]
      by_cases c : pre flags (i + k) - pre flags i < nd made size units i (i + k)
      · rw [decide_eq_true c, if_pos rfl]
        exact ⟨_, rfl, c, rfl⟩
      · rw [decide_eq_false c, if_neg Bool.false_ne_true]
        exact ⟨_, rfl, c, trivial⟩)
  refine ⟨r, h1, ?_⟩
  cases r with
  | none =>
    intro i j h3 h4
    have := h2 i j h3 h4
    omega
  | some p => exact h2
/-! ### steps -/
def wt (made flags : List Int) (size units : Int) (u v : Nat) : Int := if u < v then nd made size units u v else if u = v then 0 else -(pre flags u - pre flags v)
theorem worth_eq {made flags : List Int} {size units : Int} (hl : made.length ≤ 1000) (e : flags.length = made.length) (hu : 0 < units ∧ units < 1000000) {u v : Nat} (h1 : u < made.length) (h2 : v < made.length) : t_step_worth made size units flags (u : Int) (v : Int) = pure (wt made flags size units u v) := by
  unfold t_step_worth wt
  have e1 := fun (c : u < v) => calls_needed_eq (made := made) (size := size) (units := units) (a := (u : Int)) (b := (v : Int)) hu (by omega) (by omega) (by omega) (by omega)
  have e2 := fun (c : v ≤ u) => cut_sum (l := flags) (a := (v : Int)) (b := (u : Int)) (by omega) (by omega) (by omega)
  rw [Int.toNat_natCast, Int.toNat_natCast] at e1 e2
  simp only [b1, b2, b3, b4, pb, ifM, yLe, yLt, yNeg, ySum, yCut]
  by_cases c : u < v
  · rw [decide_eq_true (show (u : Int) ≤ (v : Int) by omega), if_pos rfl, decide_eq_true (show (u : Int) < (v : Int) by omega), if_pos rfl, e1 c, if_pos c]
  · by_cases c2 : u = v
    · rw [decide_eq_true (show (u : Int) ≤ (v : Int) by omega), if_pos rfl, decide_eq_false (show ¬ (u : Int) < (v : Int) by omega), if_neg Bool.false_ne_true, if_neg c, if_pos c2]
    · rw [decide_eq_false (show ¬ (u : Int) ≤ (v : Int) by omega), if_neg Bool.false_ne_true, if_neg c, if_neg c2, e2 (by omega)]
end Mm

namespace K85
open PySem PySem.Spec L2 Fc

abbrev F_steps_of := @Mm.F_steps_of
abbrev m_steps_of := @Mm.m_steps_of
abbrev F_kept_levels := @Mm.F_kept_levels
abbrev m_kept_levels := @Mm.m_kept_levels
abbrev F_brought := @Mm.F_brought
abbrev m_brought := @Mm.m_brought
abbrev F_need := @Mm.F_need
abbrev m_need := @Mm.m_need
abbrev F_span_for := @Mm.F_span_for
abbrev m_span_for := @Mm.m_span_for
def F_need_for_ever : F1 :=
    (sSeq (sIf (tB (eBin dGt (eCall dSum (aCons (eVar 0) aNil)) (eCall dSum (aCons (eVar 1) aNil)))) (sRet (eC .non)) sNil)
    (sRet (eDef m_need (aCons (eBin dAdd (eVar 0) (eVar 0)) (aCons (eBin dAdd (eVar 1) (eVar 1)) aNil)))))
def m_need_for_ever : List D → M D := bodyF 2 2 F_need_for_ever
def F_taken_out : F1 :=
    (sFor (.tp [(.nm 2), (.nm 3)]) (itCall dEnum (aCons (eCall dList (aCons (eVar 0) aNil)) aNil)) (sSeq (sAsg (.nm 4) (eCall dMin2 (aCons (eVar 3) (aCons (eVar 1) aNil))))
      (sSeq (sSetIx 0 (eBin dSub (eVar 3) (eVar 4)) (eVar 2))
      (sAsg (.nm 1) (eBin dSub (eVar 1) (eVar 4))))))
def m_taken_out : List D → M (D × List D) := bodyM [true, false] 5 F_taken_out
def F_least_dear : F1 :=
    (sRet (eCall dMax1 (aCons (eLc [1, 2] (.tp [(.nm 1), (.nm 2)]) (itCall dEnum (aCons (eVar 0) aNil)) (tB (eBin dGt (eVar 2) (eC (.int 0)))) (eVar 1)) aNil)))
def m_least_dear : List D → M D := bodyF 1 3 F_least_dear
def F_classes_lost : F1 :=
    (sSeq (sAsg (.nm 3) (eBin dRepL (eLst (aCons (eC (.int 0)) aNil)) (eCall dLen (aCons (eVar 0) aNil))))
    (sSeq (sAsg (.nm 4) (eBin dRepL (eLst (aCons (eC (.int 0)) aNil)) (eCall dLen (aCons (eVar 0) aNil))))
    (sSeq (sFor (.tp [(.nm 5), (.nm 6)]) (itCall dEnum (aCons (eVar 1) aNil)) (sSeq (sFor (.tp [(.nm 7), (.nm 8)]) (itCall dEnum (aCons (eVar 0) aNil)) (sSetIx 3 (eBin dAdd (eBin dIx (eVar 3) (eVar 7)) (eBin dIx (eVar 8) (eVar 5))) (eVar 7)))
      (sSeq (whileL 100000 (tB (eBin dGt (eCall dSum (aCons (eVar 3) aNil)) (eVar 2))) (sSeq (sAsg (.nm 7) (eDef m_least_dear (aCons (eVar 3) aNil)))
        (sSeq (sAsg (.nm 9) (eCall dMin2 (aCons (eBin dIx (eVar 3) (eVar 7)) (aCons (eBin dSub (eCall dSum (aCons (eVar 3) aNil)) (eVar 2)) aNil))))
        (sSeq (sSetIx 3 (eBin dSub (eBin dIx (eVar 3) (eVar 7)) (eVar 9)) (eVar 7))
        (sSetIx 4 (eBin dAdd (eBin dIx (eVar 4) (eVar 7)) (eVar 9)) (eVar 7))))))
      (sDropM (eMut [some 3, none] m_taken_out (aCons (eOwn 3) (aCons (eVar 6) aNil)))))))
    (sRet (eCall dTuple (aCons (eVar 4) aNil))))))
def m_classes_lost : List D → M D := bodyF 3 10 F_classes_lost
def F_joined : F1 :=
    (sSeq (sAsg (.nm 1) (eLst aNil))
    (sSeq (sFor (.nm 2) (itSeq (eVar 0)) (sIf (tAndF (tT (eVar 1)) (tB (eBin dEq (eBin dIx (eBin dIx (eVar 1) (eUn dNeg (eC (.int 1)))) (eC (.int 1))) (eBin dSub (eVar 2) (eC (.int 1)))))) (sSetIx 1 (eTup (aCons (eBin dIx (eBin dIx (eVar 1) (eUn dNeg (eC (.int 1)))) (eC (.int 0))) (aCons (eVar 2) aNil))) (eUn dNeg (eC (.int 1)))) (sApp 1 (eTup (aCons (eVar 2) (aCons (eVar 2) aNil))))))
    (sRet (eFrz 1))))
def m_joined : List D → M D := bodyF 1 3 F_joined
def F_winding : F1 :=
    (sSeq (sAsg (.nm 3) (eLst aNil))
    (sSeq (sAsg (.nm 4) (eLst aNil))
    (sSeq (sAsg (.nm 5) (eC (.int 0)))
    (sSeq (sFor (.tp [(.nm 6), (.nm 7)]) (itCall dZip (aCons (eVar 0) (aCons (eVar 1) aNil))) (sSeq (sExt 3 (eRg D.lst (aCons (eVar 5) (aCons (eBin dAdd (eVar 5) (eVar 6)) aNil))))
      (sSeq (sAsg (.nm 5) (eBin dAdd (eVar 5) (eVar 6)))
      (sSeq (sAsg (.nm 3) (eSlL (eVar 3) (oSome (eCall dMax2 (aCons (eC (.int 0)) (aCons (eBin dSub (eCall dLen (aCons (eVar 3) aNil)) (eVar 2)) aNil)))) oNone))
      (sFor (.nm 8) (itCall dRange1 (aCons (eCall dMin2 (aCons (eVar 7) (aCons (eCall dLen (aCons (eVar 3) aNil)) aNil))) aNil)) (sAppPop 4 3))))))
    (sRet (eDef m_joined (aCons (eCall dSorted (aCons (eVar 4) aNil)) aNil)))))))
def m_winding : List D → M D := bodyF 3 9 F_winding
def F_law : F1 :=
    (sSeq (sAsg (.nm 2) (eBin dAdd (eC (.int 1)) (eDef nextF (aCons (eVar 1) (aCons (eC (.int 10)) aNil)))))
    (sSeq (sAsg (.nm 3) (eCall dTuple (aCons (eLc [16] (.nm 16) (itCall dRange1 (aCons (eBin dAdd (eC (.int 1)) (eDef nextF (aCons (eVar 1) (aCons (eC (.int 3)) aNil)))) aNil)) tYesF (eCall dTuple (aCons (eLc [10] (.nm 10) (itCall dRange1 (aCons (eVar 2) aNil)) tYesF (eDef nextF (aCons (eVar 1) (aCons (eC (.int 5)) aNil)))) aNil))) aNil)))
    (sSeq (sAsg (.tp [(.nm 4), (.nm 5), (.nm 6)]) (eTup (aCons (eCall dTuple (aCons (eLc [10] (.nm 10) (itCall dRange1 (aCons (eVar 2) aNil)) tYesF (eCall dSum (aCons (eLc [16] (.nm 16) (itSeq (eVar 3)) tYesF (eBin dIx (eVar 16) (eVar 10))) aNil))) aNil)) (aCons (eCall dTuple (aCons (eLc [10] (.nm 10) (itCall dRange1 (aCons (eVar 2) aNil)) tYesF (eDef nextF (aCons (eVar 1) (aCons (eC (.int 6)) aNil)))) aNil)) (aCons (eDef nextF (aCons (eVar 1) (aCons (eC (.int 9)) aNil))) aNil)))))
    (sSeq (sAsg (.tp [(.nm 7), (.nm 8)]) (eDef m_kept_levels (aCons (eVar 4) (aCons (eVar 5) (aCons (eVar 6) aNil)))))
    (sSeq (sAsg (.nm 9) (eDef m_brought (aCons (eVar 4) (aCons (eVar 5) (aCons (eVar 6) aNil)))))
    (sSeq (sIf (tOrF (tB (eBin dNe (eCall dSum (aCons (eVar 4) aNil)) (eBin dSub (eBin dAdd (eBin dAdd (eCall dSum (aCons (eVar 8) aNil)) (eCall dSum (aCons (eVar 9) aNil))) (eBin dIx (eVar 7) (eUn dNeg (eC (.int 1))))) (eBin dIx (eVar 9) (eUn dNeg (eC (.int 1))))))) (tT (eCall dAny (aCons (eLc [17] (.nm 17) (itSeq (eVar 7)) tYesF (eNotT (eChain dLe dLe (eC (.int 0)) (eVar 17) (eVar 6)))) aNil)))) (sRet (eC (.bl false))) sNil)
    (sSeq (sIf (tOrF (tB (eBin dNe (eCall dSum (aCons (eDef m_classes_lost (aCons (eVar 3) (aCons (eVar 5) (aCons (eVar 6) aNil)))) aNil)) (eCall dSum (aCons (eVar 8) aNil)))) (tB (eBin dNe (eCall dSum (aCons (eLc [18, 19] (.tp [(.nm 18), (.nm 19)]) (itSeq (eDef m_winding (aCons (eVar 4) (aCons (eVar 5) (aCons (eVar 6) aNil))))) tYesF (eBin dAdd (eBin dSub (eVar 19) (eVar 18)) (eC (.int 1)))) aNil)) (eCall dSum (aCons (eVar 9) aNil))))) (sRet (eC (.bl false))) sNil)
    (sSeq (sFor (.nm 10) (itCall dRange2 (aCons (eC (.int 1)) (aCons (eBin dAdd (eCall dLen (aCons (eVar 3) aNil)) (eC (.int 1))) aNil))) (sSeq (sAsg (.nm 11) (eCall dTuple (aCons (eLc [20] (.nm 20) (itCall dRange1 (aCons (eVar 2) aNil)) tYesF (eCall dSum (aCons (eLc [16] (.nm 16) (itSeq (eSl (eVar 3) oNone (oSome (eVar 10)))) tYesF (eBin dIx (eVar 16) (eVar 20))) aNil))) aNil)))
      (sIf (tB (eBin dNe (eCall dSum (aCons (eSl (eDef m_classes_lost (aCons (eVar 3) (aCons (eVar 5) (aCons (eVar 6) aNil)))) oNone (oSome (eVar 10))) aNil)) (eCall dSum (aCons (eBin dIx (eDef m_kept_levels (aCons (eVar 11) (aCons (eVar 5) (aCons (eVar 6) aNil)))) (eC (.int 1))) aNil)))) (sRet (eC (.bl false))) sNil)))
    (sSeq (sAsg (.nm 12) (eDef m_need (aCons (eVar 4) (aCons (eVar 5) aNil))))
    (sSeq (sIf (tOrF (tB (eBin dNe (eCall dSum (aCons (eBin dIx (eDef m_kept_levels (aCons (eVar 4) (aCons (eVar 5) (aCons (eVar 12) aNil)))) (eC (.int 1))) aNil)) (eC (.int 0)))) (tAndF (tB (eBin dGt (eVar 12) (eC (.int 0)))) (tB (eBin dEq (eCall dSum (aCons (eBin dIx (eDef m_kept_levels (aCons (eVar 4) (aCons (eVar 5) (aCons (eBin dSub (eVar 12) (eC (.int 1))) aNil)))) (eC (.int 1))) aNil)) (eC (.int 0)))))) (sRet (eC (.bl false))) sNil)
    (sSeq (sIf (tOrF (tB (eBin dNe (eBin dIs (eDef m_span_for (aCons (eVar 4) (aCons (eVar 5) (aCons (eVar 6) aNil)))) (eC .non)) (eBin dGe (eVar 6) (eVar 12)))) (tB (eBin dGt (eCall dSum (aCons (eBin dIx (eDef m_kept_levels (aCons (eVar 4) (aCons (eVar 5) (aCons (eBin dAdd (eVar 6) (eC (.int 1))) aNil)))) (eC (.int 1))) aNil)) (eCall dSum (aCons (eVar 8) aNil))))) (sRet (eC (.bl false))) sNil)
    (sSeq (sAsg (.nm 13) (eDef m_span_for (aCons (eVar 4) (aCons (eVar 5) (aCons (eVar 6) aNil)))))
    (sSeq (sIf (tAndF (tB (eBin dIsNot (eVar 13) (eC .non))) (tB (eBin dLe (eBin dSub (eCall dSum (aCons (eSl (eVar 4) (oSome (eBin dIx (eVar 13) (eC (.int 0)))) (oSome (eBin dAdd (eBin dIx (eVar 13) (eC (.int 1))) (eC (.int 1))))) aNil)) (eCall dSum (aCons (eSl (eVar 5) (oSome (eBin dIx (eVar 13) (eC (.int 0)))) (oSome (eBin dIx (eVar 13) (eC (.int 1))))) aNil))) (eVar 6)))) (sRet (eC (.bl false))) sNil)
    (sSeq (sAsg (.nm 14) (eDef m_need (aCons (eBin dMul (eVar 4) (eC (.int 2))) (aCons (eBin dMul (eVar 5) (eC (.int 2))) aNil))))
    (sSeq (sAsg (.nm 15) (eDef m_need_for_ever (aCons (eVar 4) (aCons (eVar 5) aNil))))
    (sSeq (sIf (tOrF (tB (eBin dNe (eBin dIs (eVar 15) (eC .non)) (eBin dGt (eCall dSum (aCons (eVar 4) aNil)) (eCall dSum (aCons (eVar 5) aNil))))) (tB (eBin dLt (eVar 14) (eVar 12)))) (sRet (eC (.bl false))) sNil)
    (sRet (eOrV (eBin dIs (eVar 15) (eC .non)) (eAndV (eBin dGe (eVar 15) (eVar 14)) (eBin dEq (eVar 15) (eDef m_need (aCons (eBin dMul (eVar 4) (eC (.int 3))) (aCons (eBin dMul (eVar 5) (eC (.int 3))) aNil)))))))))))))))))))))))
end K85

namespace K85
open PySem PySem.Spec L2 Fc Sh Mm
def t_need_for_ever (made : (List Int)) (down : (List Int)) : M (Option Int) :=
  (ifM (b2 yGt (b1 ySum (pure made)) (b1 ySum (pure down)))
  ((pure none))
  ((b1 (fun a => pure (some a)) (b2 t_need (b2 yCat (pure made) (pure made)) (b2 yCat (pure down) (pure down))))))
theorem im_need_for_ever (made : (List Int)) (down : (List Int)) : Im (m_need_for_ever [(eL eI) made, (eL eI) down]) (t_need_for_ever made down) fun c d => d = (eO eI) c :=
  im_body (e := (eO eI)) rfl
  (tb_if (tt_b (te_bin ty_gt (te_call1 ty_sumL (te_var (e := (eL eI)) rfl)) (te_call1 ty_sumL (te_var (e := (eL eI)) rfl))))
  (tb_ret te_none)
  (tb_skip (tb_last (tb_ret (te_some (te_def2 im_need (te_bin ty_catL (te_var (e := (eL eI)) rfl) (te_var (e := (eL eI)) rfl)) (te_bin ty_catL (te_var (e := (eL eI)) rfl) (te_var (e := (eL eI)) rfl))))))))
def t_taken_out_L1  (s' : ((List Int) × Int)) (z' : (Int × Int)) : M ((List Int) × Int) :=
  (b2 yMin (pure z'.2) (pure s'.2)) >>= fun less_ =>
    ((b2 ySub (pure z'.2) (pure less_)) >>= fun a => (pure z'.1) >>= fun j => ySet s'.1 j a) >>= fun held_1 =>
    (b2 ySub (pure s'.2) (pure less_)) >>= fun many_1 =>
    (pure (held_1, many_1))
def t_taken_out (held : (List Int)) (many : Int) : M (List Int) :=
  (b1 (fun l => pure (enumI 0 l)) (b1 yId (pure held))) >>= fun l => foldS (t_taken_out_L1 ) l (held, many) >>= fun s_ =>
  (pure s_.1)
theorem im_taken_out (held : (List Int)) (many : Int) : Im (m_taken_out [(eA eI) held, eI many]) (t_taken_out held many) fun c d => d = ((fun _ => D.non) c, [(eA eI) c]) :=
  im_bodyM (e := (fun _ => D.non)) (q := fun c => ([some ((eA eI) c), none, none, none, none] : Pat)) (es := fun c => [(eA eI) c]) rfl
  (tb_last (tb_for (s0 := (held, many)) (fun (s1' : ((List Int) × Int)) => ([some ((eA eI) s1'.1), some (eI s1'.2), none, none, none] : Pat)) (ti_enumA (te_call1 ty_listA (te_var (e := (eA eI)) rfl))) (tg_2 (tg_nm 2) (tg_nm 3)) (PLe.at_ (PLe.at_ (PLe.no (PLe.no (PLe.no PLe.nil)))))
  (fun s1' z1' => (tb_asg (te_call2 ty_min (te_var (e := eI) rfl) (te_var (e := eI) rfl)) (tg_nm 4) fun less_ =>
    (tb_setIx rfl (te_bin ty_sub (te_var (e := eI) rfl) (te_var (e := eI) rfl)) (te_var (e := eI) rfl) fun held_1 =>
    (tb_last (tb_asg (te_bin ty_sub (te_var (e := eI) rfl) (te_var (e := eI) rfl)) (tg_nm 1) fun many_1 =>
    (tb_endL (s := (held_1, many_1)) (PLe.at_ (PLe.at_ (PLe.no (PLe.no (PLe.no PLe.nil)))))))))))
  (fun s_ => (tb_endM (r := s_.1) rfl (PLe.at_ (PLe.no (PLe.no (PLe.no (PLe.no PLe.nil)))))))))
  fun c δ A => (om_t (A.get rfl) rfl (om_f om_nil))
def t_least_dear_C1  (z' : (Int × Int)) : M Int :=
  (pure z'.1)
def t_least_dear_Q1  (z' : (Int × Int)) : M Bool :=
  (b2 yGt (pure z'.2) (pure (0 : Int)))
def t_least_dear (held : (List Int)) : M Int :=
  (b1 yMaxL ((b1 (fun l => pure (enumI 0 l)) (pure held)) >>= fun l => filS t_least_dear_Q1 t_least_dear_C1 l))
theorem im_least_dear (held : (List Int)) : Im (m_least_dear [(eA eI) held]) (t_least_dear held) fun c d => d = eI c :=
  im_body (e := eI) rfl
  (tb_last (tb_ret (te_call1 ty_maxA (te_lcF (ti_enumA (te_var (e := (eA eI)) rfl)) (tg_2 (tg_nm 1) (tg_nm 2)) (fun z' => (tt_b (te_bin ty_gt (te_var (e := eI) rfl) (te_c (e := eI) (a := 0) rfl)))) (fun z' => (te_var (e := eI) rfl))))))
def t_classes_lost_L2 (rows : (List (List Int))) (size : Int) (lost : (List Int)) (time : Int) (most : Int) (s' : (List Int)) (z' : (Int × (List Int))) : M (List Int) :=
  ((b2 yAdd (b2 yIx (pure s') (pure z'.1)) (b2 yIx (pure z'.2) (pure time))) >>= fun a => (pure z'.1) >>= fun j => ySet s' j a) >>= fun held_1 =>
    (pure held_1)
def t_classes_lost_W1 (rows : (List (List Int))) (size : Int) (most : Int) (s' : ((List Int) × (List Int))) : M Bool :=
  (b2 yGt (b1 ySum (pure s'.1)) (pure size))
def t_classes_lost_L3 (rows : (List (List Int))) (size : Int) (most : Int) (s' : ((List Int) × (List Int))) : M ((List Int) × (List Int)) :=
  (b1 t_least_dear (pure s'.1)) >>= fun kind =>
    (b2 yMin (b2 yIx (pure s'.1) (pure kind)) (b2 ySub (b1 ySum (pure s'.1)) (pure size))) >>= fun less_ =>
    ((b2 ySub (b2 yIx (pure s'.1) (pure kind)) (pure less_)) >>= fun a => (pure kind) >>= fun j => ySet s'.1 j a) >>= fun held_1 =>
    ((b2 yAdd (b2 yIx (pure s'.2) (pure kind)) (pure less_)) >>= fun a => (pure kind) >>= fun j => ySet s'.2 j a) >>= fun lost_1 =>
    (pure (held_1, lost_1))
def t_classes_lost_L1 (rows : (List (List Int))) (size : Int) (s' : ((List Int) × (List Int))) (z' : (Int × Int)) : M ((List Int) × (List Int)) :=
  (b1 (fun l => pure (enumI 0 l)) (pure rows)) >>= fun l => foldS (t_classes_lost_L2 rows size s'.2 z'.1 z'.2) l s'.1 >>= fun s_ =>
    whileS 100000 (t_classes_lost_W1 rows size z'.2) (t_classes_lost_L3 rows size z'.2) (s_, s'.2) >>= fun s__1 =>
    ((pure z'.2) >>= fun a1 => t_taken_out s__1.1 a1) >>= fun held_1 =>
    (pure (held_1, s__1.2))
def t_classes_lost (rows : (List (List Int))) (down : (List Int)) (size : Int) : M (List Int) :=
  (b2 yRepA (b1 limM (consM (pure (0 : Int)) (pure []))) (b1 yLen (pure rows))) >>= fun held =>
  (b2 yRepA (b1 limM (consM (pure (0 : Int)) (pure []))) (b1 yLen (pure rows))) >>= fun lost =>
  (b1 (fun l => pure (enumI 0 l)) (pure down)) >>= fun l => foldS (t_classes_lost_L1 rows size) l (held, lost) >>= fun s_ =>
  (b1 yId (pure s_.2))
theorem im_classes_lost (rows : (List (List Int))) (down : (List Int)) (size : Int) : Im (m_classes_lost [(eL (eL eI)) rows, (eL eI) down, eI size]) (t_classes_lost rows down size) fun c d => d = (eL eI) c :=
  im_body (e := (eL eI)) rfl
  (show TB ([some ((eL (eL eI)) rows), some ((eL eI) down), some (eI size), none, none, none, none, none, none, none] : Pat) _ _ _ from (tb_asg (te_bin ty_repA (te_lst (tas_cons (te_c (e := eI) (a := 0) rfl) tas_nil)) (te_call1 ty_lenL (te_var (e := (eL (eL eI))) rfl))) (tg_nm 3) fun held =>
  (show TB ([some ((eL (eL eI)) rows), some ((eL eI) down), some (eI size), some ((eA eI) held), none, none, none, none, none, none] : Pat) _ _ _ from (tb_asg (te_bin ty_repA (te_lst (tas_cons (te_c (e := eI) (a := 0) rfl) tas_nil)) (te_call1 ty_lenL (te_var (e := (eL (eL eI))) rfl))) (tg_nm 4) fun lost =>
  (show TB ([some ((eL (eL eI)) rows), some ((eL eI) down), some (eI size), some ((eA eI) held), some ((eA eI) lost), none, none, none, none, none] : Pat) _ _ _ from (tb_for (s0 := (held, lost)) (fun (s1' : ((List Int) × (List Int))) => ([some ((eL (eL eI)) rows), none, some (eI size), some ((eA eI) s1'.1), some ((eA eI) s1'.2), none, none, none, none, none] : Pat)) (ti_enumL (te_var (e := (eL eI)) rfl)) (tg_2 (tg_nm 5) (tg_nm 6)) (PLe.at_ (PLe.no (PLe.at_ (PLe.at_ (PLe.at_ (PLe.no (PLe.no (PLe.no (PLe.no (PLe.no PLe.nil))))))))))
  (fun s1' z1' => (show TB ([some ((eL (eL eI)) rows), none, some (eI size), some ((eA eI) s1'.1), some ((eA eI) s1'.2), some (eI z1'.1), some (eI z1'.2), none, none, none] : Pat) _ _ _ from (tb_for (s0 := s1'.1) (fun (s2' : (List Int)) => ([some ((eL (eL eI)) rows), none, some (eI size), some ((eA eI) s2'), some ((eA eI) s1'.2), some (eI z1'.1), some (eI z1'.2), none, none, none] : Pat)) (ti_enumL (te_var (e := (eL (eL eI))) rfl)) (tg_2 (tg_nm 7) (tg_nm 8)) (PLe.at_ (PLe.no (PLe.at_ (PLe.at_ (PLe.at_ (PLe.at_ (PLe.at_ (PLe.no (PLe.no (PLe.no PLe.nil))))))))))
    (fun s2' z2' => (show TB ([some ((eL (eL eI)) rows), none, some (eI size), some ((eA eI) s2'), some ((eA eI) s1'.2), some (eI z1'.1), some (eI z1'.2), some (eI z2'.1), some ((eL eI) z2'.2), none] : Pat) _ _ _ from (tb_last (tb_setIx rfl (te_bin ty_add (te_bin ty_ixA (te_var (e := (eA eI)) rfl) (te_var (e := eI) rfl)) (te_bin ty_ixL (te_var (e := (eL eI)) rfl) (te_var (e := eI) rfl))) (te_var (e := eI) rfl) fun held_1 =>
    (show TB ([some ((eL (eL eI)) rows), none, some (eI size), some ((eA eI) held_1), some ((eA eI) s1'.2), some (eI z1'.1), some (eI z1'.2), some (eI z2'.1), some ((eL eI) z2'.2), none] : Pat) _ _ _ from (tb_endL (s := held_1) (PLe.at_ (PLe.no (PLe.at_ (PLe.at_ (PLe.at_ (PLe.at_ (PLe.at_ (PLe.no (PLe.no (PLe.no PLe.nil))))))))))))))))
    (fun s_ => (show TB ([some ((eL (eL eI)) rows), none, some (eI size), some ((eA eI) s_), some ((eA eI) s1'.2), some (eI z1'.1), some (eI z1'.2), none, none, none] : Pat) _ _ _ from (tb_while (s0 := (s_, s1'.2)) (fun (s3' : ((List Int) × (List Int))) => ([some ((eL (eL eI)) rows), none, some (eI size), some ((eA eI) s3'.1), some ((eA eI) s3'.2), none, some (eI z1'.2), none, none, none] : Pat)) (PLe.at_ (PLe.no (PLe.at_ (PLe.at_ (PLe.at_ (PLe.no (PLe.at_ (PLe.no (PLe.no (PLe.no PLe.nil))))))))))
    (fun s3' => (show TT ([some ((eL (eL eI)) rows), none, some (eI size), some ((eA eI) s3'.1), some ((eA eI) s3'.2), none, some (eI z1'.2), none, none, none] : Pat) _ _ from (tt_b (te_bin ty_gt (te_call1 ty_sumA (te_var (e := (eA eI)) rfl)) (te_var (e := eI) rfl)))))
    (fun s3' => (show TB ([some ((eL (eL eI)) rows), none, some (eI size), some ((eA eI) s3'.1), some ((eA eI) s3'.2), none, some (eI z1'.2), none, none, none] : Pat) _ _ _ from (tb_asg (te_def1 im_least_dear (te_var (e := (eA eI)) rfl)) (tg_nm 7) fun kind =>
    (show TB ([some ((eL (eL eI)) rows), none, some (eI size), some ((eA eI) s3'.1), some ((eA eI) s3'.2), none, some (eI z1'.2), some (eI kind), none, none] : Pat) _ _ _ from (tb_asg (te_call2 ty_min (te_bin ty_ixA (te_var (e := (eA eI)) rfl) (te_var (e := eI) rfl)) (te_bin ty_sub (te_call1 ty_sumA (te_var (e := (eA eI)) rfl)) (te_var (e := eI) rfl))) (tg_nm 9) fun less_ =>
    (show TB ([some ((eL (eL eI)) rows), none, some (eI size), some ((eA eI) s3'.1), some ((eA eI) s3'.2), none, some (eI z1'.2), some (eI kind), none, some (eI less_)] : Pat) _ _ _ from (tb_setIx rfl (te_bin ty_sub (te_bin ty_ixA (te_var (e := (eA eI)) rfl) (te_var (e := eI) rfl)) (te_var (e := eI) rfl)) (te_var (e := eI) rfl) fun held_1 =>
    (show TB ([some ((eL (eL eI)) rows), none, some (eI size), some ((eA eI) held_1), some ((eA eI) s3'.2), none, some (eI z1'.2), some (eI kind), none, some (eI less_)] : Pat) _ _ _ from (tb_last (tb_setIx rfl (te_bin ty_add (te_bin ty_ixA (te_var (e := (eA eI)) rfl) (te_var (e := eI) rfl)) (te_var (e := eI) rfl)) (te_var (e := eI) rfl) fun lost_1 =>
    (show TB ([some ((eL (eL eI)) rows), none, some (eI size), some ((eA eI) held_1), some ((eA eI) lost_1), none, some (eI z1'.2), some (eI kind), none, some (eI less_)] : Pat) _ _ _ from (tb_endL (s := (held_1, lost_1)) (PLe.at_ (PLe.no (PLe.at_ (PLe.at_ (PLe.at_ (PLe.no (PLe.at_ (PLe.no (PLe.no (PLe.no PLe.nil))))))))))))))))))))))
    (fun s__1 => (show TB ([some ((eL (eL eI)) rows), none, some (eI size), some ((eA eI) s__1.1), some ((eA eI) s__1.2), none, some (eI z1'.2), none, none, none] : Pat) _ _ _ from (tb_last (tb_dropM (te_mut_ov rfl rfl (te_var (e := eI) rfl) (fun a1 => im_taken_out s__1.1 a1)) fun held_1 =>
    (show TB ([some ((eL (eL eI)) rows), none, some (eI size), some ((eA eI) held_1), some ((eA eI) s__1.2), none, some (eI z1'.2), none, none, none] : Pat) _ _ _ from (tb_endL (s := (held_1, s__1.2)) (PLe.at_ (PLe.no (PLe.at_ (PLe.at_ (PLe.at_ (PLe.no (PLe.no (PLe.no (PLe.no (PLe.no PLe.nil))))))))))))))))))))))
  (fun s_ => (show TB ([some ((eL (eL eI)) rows), none, some (eI size), some ((eA eI) s_.1), some ((eA eI) s_.2), none, none, none, none, none] : Pat) _ _ _ from (tb_last (tb_ret (te_call1 ty_tupleA (te_var (e := (eA eI)) rfl))))))))))))
def t_joined_L1  (s' : (List (Int × Int))) (z' : Int) : M (List (Int × Int)) :=
  (ifM (andB (b1 yTrL (pure s')) (b2 yEq (b1 (fun x => pure x.2) (b2 yIx (pure s') (b1 yNeg (pure (1 : Int))))) (b2 ySub (pure z') (pure (1 : Int)))))
    (((b2 (fun x0 x1 => pure (x0, x1)) (b1 (fun x => pure x.1) (b2 yIx (pure s') (b1 yNeg (pure (1 : Int))))) (pure z')) >>= fun a => (b1 yNeg (pure (1 : Int))) >>= fun j => ySet s' j a) >>= fun found_1 =>
      (pure found_1))
    (((b2 (fun x0 x1 => pure (x0, x1)) (pure z') (pure z')) >>= fun a => yApp s' a) >>= fun found_2 =>
      (pure found_2)))
def t_joined (numbers : (List Int)) : M (List (Int × Int)) :=
  (b1 limM (pure [])) >>= fun found =>
  (pure numbers) >>= fun l => foldS (t_joined_L1 ) l found >>= fun s_ =>
  (pure s_)
theorem im_joined (numbers : (List Int)) : Im (m_joined [(eA eI) numbers]) (t_joined numbers) fun c d => d = (eA (eT2 eI eI)) c :=
  im_body (e := (eA (eT2 eI eI))) rfl
  (tb_asg (te_lst (tas_nil (e := (eT2 eI eI)))) (tg_nm 1) fun found =>
  (tb_for (s0 := found) (fun (s1' : (List (Int × Int))) => ([none, some ((eA (eT2 eI eI)) s1'), none] : Pat)) (ti_A (te_var (e := (eA eI)) rfl)) (tg_nm 2) (PLe.no (PLe.at_ (PLe.no PLe.nil)))
  (fun s1' z1' => (tb_last (tb_if (tt_and (tt_t tr_A (te_var (e := (eA (eT2 eI eI))) rfl)) (tt_b (te_bin (ty_eq cm_I (by decide)) (te_ixT (g := fun x => x.2) (fun _ => rfl) (te_bin ty_ixA (te_var (e := (eA (eT2 eI eI))) rfl) (te_un ty_neg (te_c (e := eI) (a := 1) rfl)))) (te_bin ty_sub (te_var (e := eI) rfl) (te_c (e := eI) (a := 1) rfl)))))
    (tb_setIx rfl (te_tup2 (te_ixT (g := fun x => x.1) (fun _ => rfl) (te_bin ty_ixA (te_var (e := (eA (eT2 eI eI))) rfl) (te_un ty_neg (te_c (e := eI) (a := 1) rfl)))) (te_var (e := eI) rfl)) (te_un ty_neg (te_c (e := eI) (a := 1) rfl)) fun found_1 =>
      (tb_endL (s := found_1) (PLe.no (PLe.at_ (PLe.no PLe.nil)))))
    (tb_app rfl (te_tup2 (te_var (e := eI) rfl) (te_var (e := eI) rfl)) fun found_2 =>
      (tb_endL (s := found_2) (PLe.no (PLe.at_ (PLe.no PLe.nil))))))))
  (fun s_ => (tb_last (tb_ret (te_frz (e := (eA (eT2 eI eI))) rfl))))))
def t_winding_L2 (size : Int) (come : Int) (s' : ((List Int) × (List Int))) (z' : Int) : M ((List Int) × (List Int)) :=
  yPop s'.1 >>= fun q_ => yApp s'.2 q_.1 >>= fun kept_1 =>
    (pure (q_.2, kept_1))
def t_winding_L1 (size : Int) (s' : ((List Int) × (List Int) × Int)) (z' : (Int × Int)) : M ((List Int) × (List Int) × Int) :=
  ((b2 yRg2 (pure s'.2.2) (b2 yAdd (pure s'.2.2) (pure z'.1))) >>= fun a => yExt s'.1 a) >>= fun held_1 =>
    (b2 yAdd (pure s'.2.2) (pure z'.1)) >>= fun come_1 =>
    (b3 yCut (pure held_1) (b1 (fun i => pure (some i)) (b2 yMax (pure (0 : Int)) (b2 ySub (b1 yLen (pure held_1)) (pure size)))) (pure none)) >>= fun held_2 =>
    (b1 yRange1 (b2 yMin (pure z'.2) (b1 yLen (pure held_2)))) >>= fun l => foldS (t_winding_L2 size come_1) l (held_2, s'.2.1) >>= fun s_ =>
    (pure (s_.1, s_.2, come_1))
def t_winding (made : (List Int)) (down : (List Int)) (size : Int) : M (List (Int × Int)) :=
  (b1 limM (pure [])) >>= fun held =>
  (b1 limM (pure [])) >>= fun kept =>
  (pure (0 : Int)) >>= fun come =>
  (b2 yZip (pure made) (pure down)) >>= fun l => foldS (t_winding_L1 size) l (held, kept, come) >>= fun s_ =>
  (b1 t_joined (b1 ySortI (pure s_.2.1)))
theorem im_winding (made : (List Int)) (down : (List Int)) (size : Int) : Im (m_winding [(eL eI) made, (eL eI) down, eI size]) (t_winding made down size) fun c d => d = (eA (eT2 eI eI)) c :=
  im_body (e := (eA (eT2 eI eI))) rfl
  (show TB ([some ((eL eI) made), some ((eL eI) down), some (eI size), none, none, none, none, none, none] : Pat) _ _ _ from (tb_asg (te_lst (tas_nil (e := eI))) (tg_nm 3) fun held =>
  (show TB ([some ((eL eI) made), some ((eL eI) down), some (eI size), some ((eA eI) held), none, none, none, none, none] : Pat) _ _ _ from (tb_asg (te_lst (tas_nil (e := eI))) (tg_nm 4) fun kept =>
  (show TB ([some ((eL eI) made), some ((eL eI) down), some (eI size), some ((eA eI) held), some ((eA eI) kept), none, none, none, none] : Pat) _ _ _ from (tb_asg (te_c (e := eI) (a := 0) rfl) (tg_nm 5) fun come =>
  (show TB ([some ((eL eI) made), some ((eL eI) down), some (eI size), some ((eA eI) held), some ((eA eI) kept), some (eI come), none, none, none] : Pat) _ _ _ from (tb_for (s0 := (held, kept, come)) (fun (s1' : ((List Int) × (List Int) × Int)) => ([none, none, some (eI size), some ((eA eI) s1'.1), some ((eA eI) s1'.2.1), some (eI s1'.2.2), none, none, none] : Pat)) (ti_zipLL (te_var (e := (eL eI)) rfl) (te_var (e := (eL eI)) rfl)) (tg_2 (tg_nm 6) (tg_nm 7)) (PLe.no (PLe.no (PLe.at_ (PLe.at_ (PLe.at_ (PLe.at_ (PLe.no (PLe.no (PLe.no PLe.nil)))))))))
  (fun s1' z1' => (show TB ([none, none, some (eI size), some ((eA eI) s1'.1), some ((eA eI) s1'.2.1), some (eI s1'.2.2), some (eI z1'.1), some (eI z1'.2), none] : Pat) _ _ _ from (tb_ext rfl (te_rg2L (te_var (e := eI) rfl) (te_bin ty_add (te_var (e := eI) rfl) (te_var (e := eI) rfl))) fun held_1 =>
    (show TB ([none, none, some (eI size), some ((eA eI) held_1), some ((eA eI) s1'.2.1), some (eI s1'.2.2), some (eI z1'.1), some (eI z1'.2), none] : Pat) _ _ _ from (tb_asg (te_bin ty_add (te_var (e := eI) rfl) (te_var (e := eI) rfl)) (tg_nm 5) fun come_1 =>
    (show TB ([none, none, some (eI size), some ((eA eI) held_1), some ((eA eI) s1'.2.1), some (eI come_1), some (eI z1'.1), some (eI z1'.2), none] : Pat) _ _ _ from (tb_asg (te_slLA (te_var (e := (eA eI)) rfl) (to_some (te_call2 ty_max (te_c (e := eI) (a := 0) rfl) (te_bin ty_sub (te_call1 ty_lenA (te_var (e := (eA eI)) rfl)) (te_var (e := eI) rfl)))) to_none) (tg_nm 3) fun held_2 =>
    (show TB ([none, none, some (eI size), some ((eA eI) held_2), some ((eA eI) s1'.2.1), some (eI come_1), some (eI z1'.1), some (eI z1'.2), none] : Pat) _ _ _ from (tb_last (tb_for (s0 := (held_2, s1'.2.1)) (fun (s2' : ((List Int) × (List Int))) => ([none, none, some (eI size), some ((eA eI) s2'.1), some ((eA eI) s2'.2), some (eI come_1), none, none, none] : Pat)) (ti_range1 (te_call2 ty_min (te_var (e := eI) rfl) (te_call1 ty_lenA (te_var (e := (eA eI)) rfl)))) (tg_nm 8) (PLe.no (PLe.no (PLe.at_ (PLe.at_ (PLe.at_ (PLe.at_ (PLe.no (PLe.no (PLe.no PLe.nil)))))))))
    (fun s2' z2' => (show TB ([none, none, some (eI size), some ((eA eI) s2'.1), some ((eA eI) s2'.2), some (eI come_1), none, none, some (eI z2')] : Pat) _ _ _ from (tb_last (tb_appPop (i := 4) (j := 3) (e := eI) rfl rfl (by decide) fun q_ kept_1 =>
    (show TB ([none, none, some (eI size), some ((eA eI) q_.2), some ((eA eI) kept_1), some (eI come_1), none, none, some (eI z2')] : Pat) _ _ _ from (tb_endL (s := (q_.2, kept_1)) (PLe.no (PLe.no (PLe.at_ (PLe.at_ (PLe.at_ (PLe.at_ (PLe.no (PLe.no (PLe.no PLe.nil)))))))))))))))
    (fun s_ => (show TB ([none, none, some (eI size), some ((eA eI) s_.1), some ((eA eI) s_.2), some (eI come_1), none, none, none] : Pat) _ _ _ from (tb_endL (s := (s_.1, s_.2, come_1)) (PLe.no (PLe.no (PLe.at_ (PLe.at_ (PLe.at_ (PLe.at_ (PLe.no (PLe.no (PLe.no PLe.nil))))))))))))))))))))))
  (fun s_ => (show TB ([none, none, some (eI size), some ((eA eI) s_.1), some ((eA eI) s_.2.1), some (eI s_.2.2), none, none, none] : Pat) _ _ _ from (tb_last (tb_ret (te_def1 im_joined (te_call1 ty_sortI (te_var (e := (eA eI)) rfl)))))))))))))))
def t_law_C2  (z' : Int) : M Int :=
  (b2 yNext (pure ()) (pure (5 : Int)))
def t_law_C1 (many : Int) (z' : Int) : M (List Int) :=
  (b1 yId ((b1 yRange1 (pure many)) >>= fun l => mapS t_law_C2 l))
def t_law_C4 (k_ : Int) (z' : (List Int)) : M Int :=
  (b2 yIx (pure z') (pure k_))
def t_law_C3 (rows : (List (List Int))) (z' : Int) : M Int :=
  (b1 ySum ((pure rows) >>= fun l => mapS (t_law_C4 z') l))
def t_law_C5  (z' : Int) : M Int :=
  (b2 yNext (pure ()) (pure (6 : Int)))
def t_law_C6 (size : Int) (z' : Int) : M Bool :=
  (notB (b1 yId (chM yLe yLe (pure (0 : Int)) (pure z') (pure size))))
def t_law_C7  (z' : (Int × Int)) : M Int :=
  (b2 yAdd (b2 ySub (pure z'.2) (pure z'.1)) (pure (1 : Int)))
def t_law_C9 (j_ : Int) (z' : (List Int)) : M Int :=
  (b2 yIx (pure z') (pure j_))
def t_law_C8 (rows : (List (List Int))) (k_ : Int) (z' : Int) : M Int :=
  (b1 ySum ((b3 yCut (pure rows) (pure none) (b1 (fun i => pure (some i)) (pure k_))) >>= fun l => mapS (t_law_C9 z') l))
def t_law_L1 (many : Int) (rows : (List (List Int))) (made : (List Int)) (down : (List Int)) (size : Int) (lost : (List Int)) (s' : Unit) (z' : Int) : M (Res Unit Bool) :=
  (b1 yId ((b1 yRange1 (pure many)) >>= fun l => mapS (t_law_C8 rows z') l)) >>= fun dear =>
    (ifM (b2 yNe (b1 ySum (b3 yCut (b3 t_classes_lost (pure rows) (pure down) (pure size)) (pure none) (b1 (fun i => pure (some i)) (pure z')))) (b1 ySum (b1 (fun x => pure x.2) (b3 t_kept_levels (pure dear) (pure down) (pure size)))))
    (((pure false) >>= fun r => pure (Res.rt r)))
    ((pure (Res.nx ()))))
def t_law  : M Bool :=
  (b2 yAdd (pure (1 : Int)) (b2 yNext (pure ()) (pure (10 : Int)))) >>= fun many =>
  (b1 yId ((b1 yRange1 (b2 yAdd (pure (1 : Int)) (b2 yNext (pure ()) (pure (3 : Int))))) >>= fun l => mapS (t_law_C1 many) l)) >>= fun rows =>
  (b3 (fun x0 x1 x2 => pure (x0, x1, x2)) (b1 yId ((b1 yRange1 (pure many)) >>= fun l => mapS (t_law_C3 rows) l)) (b1 yId ((b1 yRange1 (pure many)) >>= fun l => mapS t_law_C5 l)) (b2 yNext (pure ()) (pure (9 : Int)))) >>= fun p_ =>
  (b3 t_kept_levels (pure p_.1) (pure p_.2.1) (pure p_.2.2)) >>= fun p__1 =>
  (b3 t_brought (pure p_.1) (pure p_.2.1) (pure p_.2.2)) >>= fun home =>
  (ifM (orB (b2 yNe (b1 ySum (pure p_.1)) (b2 ySub (b2 yAdd (b2 yAdd (b1 ySum (pure p__1.2)) (b1 ySum (pure home))) (b2 yIx (pure p__1.1) (b1 yNeg (pure (1 : Int))))) (b2 yIx (pure home) (b1 yNeg (pure (1 : Int)))))) (b1 yId (b1 yAny ((pure p__1.1) >>= fun l => mapS (t_law_C6 p_.2.2) l))))
  ((pure false))
  ((ifM (orB (b2 yNe (b1 ySum (b3 t_classes_lost (pure rows) (pure p_.2.1) (pure p_.2.2))) (b1 ySum (pure p__1.2))) (b2 yNe (b1 ySum ((b3 t_winding (pure p_.1) (pure p_.2.1) (pure p_.2.2)) >>= fun l => mapS t_law_C7 l)) (b1 ySum (pure home))))
    ((pure false))
    ((b2 yRange2 (pure (1 : Int)) (b2 yAdd (b1 yLen (pure rows)) (pure (1 : Int)))) >>= fun l => forR (t_law_L1 many rows p_.1 p_.2.1 p_.2.2 p__1.2) l () >>= elimF (fun s_ =>
      (b2 t_need (pure p_.1) (pure p_.2.1)) >>= fun least =>
      (ifM (orB (b2 yNe (b1 ySum (b1 (fun x => pure x.2) (b3 t_kept_levels (pure p_.1) (pure p_.2.1) (pure least)))) (pure (0 : Int))) (andB (b2 yGt (pure least) (pure (0 : Int))) (b2 yEq (b1 ySum (b1 (fun x => pure x.2) (b3 t_kept_levels (pure p_.1) (pure p_.2.1) (b2 ySub (pure least) (pure (1 : Int)))))) (pure (0 : Int)))))
      ((pure false))
      ((ifM (orB (b2 yNe (b2 yIsN (b3 t_span_for (pure p_.1) (pure p_.2.1) (pure p_.2.2)) (pure ())) (b2 yGe (pure p_.2.2) (pure least))) (b2 yGt (b1 ySum (b1 (fun x => pure x.2) (b3 t_kept_levels (pure p_.1) (pure p_.2.1) (b2 yAdd (pure p_.2.2) (pure (1 : Int)))))) (b1 ySum (pure p__1.2))))
        ((pure false))
        ((b3 t_span_for (pure p_.1) (pure p_.2.1) (pure p_.2.2)) >>= fun told =>
          (ifM (andB (b2 yNotN (pure told) (pure ())) (b2 yLe (b2 ySub (b1 ySum (b3 yCut (pure p_.1) (b1 (fun i => pure (some i)) (b1 (fun x => pure x.1) (b1 getO (pure told)))) (b1 (fun i => pure (some i)) (b2 yAdd (b1 (fun x => pure x.2) (b1 getO (pure told))) (pure (1 : Int)))))) (b1 ySum (b3 yCut (pure p_.2.1) (b1 (fun i => pure (some i)) (b1 (fun x => pure x.1) (b1 getO (pure told)))) (b1 (fun i => pure (some i)) (b1 (fun x => pure x.2) (b1 getO (pure told))))))) (pure p_.2.2)))
          ((pure false))
          ((b2 t_need (b2 yRep (pure p_.1) (pure (2 : Int))) (b2 yRep (pure p_.2.1) (pure (2 : Int)))) >>= fun twice =>
            (b2 t_need_for_ever (pure p_.1) (pure p_.2.1)) >>= fun ever =>
            (ifM (orB (b2 yNe (b2 yIsN (pure ever) (pure ())) (b2 yGt (b1 ySum (pure p_.1)) (b1 ySum (pure p_.2.1)))) (b2 yLt (pure twice) (pure least)))
            ((pure false))
            ((orB (b2 yIsN (pure ever) (pure ())) (andB (b2 yGe (b1 getO (pure ever)) (pure twice)) (b2 yEq (pure ever) (b1 (fun a => pure (some a)) (b2 t_need (b2 yRep (pure p_.1) (pure (3 : Int))) (b2 yRep (pure p_.2.1) (pure (3 : Int)))))))))))))))))))))
set_option maxHeartbeats 0 in
theorem tb_law : TB (none :: some D.drw :: List.replicate 19 none) F_law t_law (Fn eB) :=
  (show TB ([none, some (eX ()), none, none, none, none, none, none, none, none, none, none, none, none, none, none, none, none, none, none, none] : Pat) _ _ _ from (tb_asg (te_bin ty_add (te_c (e := eI) (a := 1) rfl) (te_def2 im_next (te_var (e := eX) (a := ()) rfl) (te_c (e := eI) (a := 10) rfl))) (tg_nm 2) fun many =>
  (show TB ([none, some (eX ()), some (eI many), none, none, none, none, none, none, none, none, none, none, none, none, none, none, none, none, none, none] : Pat) _ _ _ from (tb_asg (te_call1 ty_tupleA (te_lc (ti_range1 (te_bin ty_add (te_c (e := eI) (a := 1) rfl) (te_def2 im_next (te_var (e := eX) (a := ()) rfl) (te_c (e := eI) (a := 3) rfl)))) (tg_nm 16) (fun z' => (show TE ([none, some (eX ()), some (eI many), none, none, none, none, none, none, none, none, none, none, none, none, none, some (eI z'), none, none, none, none] : Pat) _ _ _ from (te_call1 ty_tupleA (te_lc (ti_range1 (te_var (e := eI) rfl)) (tg_nm 10) (fun y1' => (show TE ([none, some (eX ()), some (eI many), none, none, none, none, none, none, none, some (eI y1'), none, none, none, none, none, some (eI z'), none, none, none, none] : Pat) _ _ _ from (te_def2 im_next (te_var (e := eX) (a := ()) rfl) (te_c (e := eI) (a := 5) rfl)))))))))) (tg_nm 3) fun rows =>
  (show TB ([none, some (eX ()), some (eI many), some ((eL (eL eI)) rows), none, none, none, none, none, none, none, none, none, none, none, none, none, none, none, none, none] : Pat) _ _ _ from (tb_asg (te_tup3 (te_call1 ty_tupleA (te_lc (ti_range1 (te_var (e := eI) rfl)) (tg_nm 10) (fun z' => (show TE ([none, some (eX ()), some (eI many), some ((eL (eL eI)) rows), none, none, none, none, none, none, some (eI z'), none, none, none, none, none, none, none, none, none, none] : Pat) _ _ _ from (te_call1 ty_sumA (te_lc (ti_L (te_var (e := (eL (eL eI))) rfl)) (tg_nm 16) (fun y1' => (show TE ([none, some (eX ()), some (eI many), some ((eL (eL eI)) rows), none, none, none, none, none, none, some (eI z'), none, none, none, none, none, some ((eL eI) y1'), none, none, none, none] : Pat) _ _ _ from (te_bin ty_ixL (te_var (e := (eL eI)) rfl) (te_var (e := eI) rfl)))))))))) (te_call1 ty_tupleA (te_lc (ti_range1 (te_var (e := eI) rfl)) (tg_nm 10) (fun z' => (show TE ([none, some (eX ()), some (eI many), some ((eL (eL eI)) rows), none, none, none, none, none, none, some (eI z'), none, none, none, none, none, none, none, none, none, none] : Pat) _ _ _ from (te_def2 im_next (te_var (e := eX) (a := ()) rfl) (te_c (e := eI) (a := 6) rfl)))))) (te_def2 im_next (te_var (e := eX) (a := ()) rfl) (te_c (e := eI) (a := 9) rfl))) (tg_3 (tg_nm 4) (tg_nm 5) (tg_nm 6)) fun p_ =>
  (show TB ([none, some (eX ()), some (eI many), some ((eL (eL eI)) rows), some ((eL eI) p_.1), some ((eL eI) p_.2.1), some (eI p_.2.2), none, none, none, none, none, none, none, none, none, none, none, none, none, none] : Pat) _ _ _ from (tb_asg (te_def3 im_kept_levels (te_var (e := (eL eI)) rfl) (te_var (e := (eL eI)) rfl) (te_var (e := eI) rfl)) (tg_2 (tg_nm 7) (tg_nm 8)) fun p__1 =>
  (show TB ([none, some (eX ()), some (eI many), some ((eL (eL eI)) rows), some ((eL eI) p_.1), some ((eL eI) p_.2.1), some (eI p_.2.2), some ((eL eI) p__1.1), some ((eL eI) p__1.2), none, none, none, none, none, none, none, none, none, none, none, none] : Pat) _ _ _ from (tb_asg (te_def3 im_brought (te_var (e := (eL eI)) rfl) (te_var (e := (eL eI)) rfl) (te_var (e := eI) rfl)) (tg_nm 9) fun home =>
  (show TB ([none, some (eX ()), some (eI many), some ((eL (eL eI)) rows), some ((eL eI) p_.1), some ((eL eI) p_.2.1), some (eI p_.2.2), some ((eL eI) p__1.1), some ((eL eI) p__1.2), some ((eL eI) home), none, none, none, none, none, none, none, none, none, none, none] : Pat) _ _ _ from (tb_if (tt_or (tt_b (te_bin (ty_ne cm_I (by decide)) (te_call1 ty_sumL (te_var (e := (eL eI)) rfl)) (te_bin ty_sub (te_bin ty_add (te_bin ty_add (te_call1 ty_sumL (te_var (e := (eL eI)) rfl)) (te_call1 ty_sumL (te_var (e := (eL eI)) rfl))) (te_bin ty_ixL (te_var (e := (eL eI)) rfl) (te_un ty_neg (te_c (e := eI) (a := 1) rfl)))) (te_bin ty_ixL (te_var (e := (eL eI)) rfl) (te_un ty_neg (te_c (e := eI) (a := 1) rfl)))))) (tt_t tr_B (te_call1 ty_any (te_lc (ti_L (te_var (e := (eL eI)) rfl)) (tg_nm 17) (fun z' => (show TE ([none, some (eX ()), some (eI many), some ((eL (eL eI)) rows), some ((eL eI) p_.1), some ((eL eI) p_.2.1), some (eI p_.2.2), some ((eL eI) p__1.1), some ((eL eI) p__1.2), some ((eL eI) home), none, none, none, none, none, none, none, some (eI z'), none, none, none] : Pat) _ _ _ from (te_not tr_B (te_ch ty_le ty_le (te_c (e := eI) (a := 0) rfl) (te_var (e := eI) rfl) (te_var (e := eI) rfl)))))))))
  (tb_ret (te_c (e := eB) (a := false) rfl))
  (tb_skip (tb_if (tt_or (tt_b (te_bin (ty_ne cm_I (by decide)) (te_call1 ty_sumL (te_def3 im_classes_lost (te_var (e := (eL (eL eI))) rfl) (te_var (e := (eL eI)) rfl) (te_var (e := eI) rfl))) (te_call1 ty_sumL (te_var (e := (eL eI)) rfl)))) (tt_b (te_bin (ty_ne cm_I (by decide)) (te_call1 ty_sumA (te_lc (ti_A (te_def3 im_winding (te_var (e := (eL eI)) rfl) (te_var (e := (eL eI)) rfl) (te_var (e := eI) rfl))) (tg_2 (tg_nm 18) (tg_nm 19)) (fun z' => (show TE ([none, some (eX ()), some (eI many), some ((eL (eL eI)) rows), some ((eL eI) p_.1), some ((eL eI) p_.2.1), some (eI p_.2.2), some ((eL eI) p__1.1), some ((eL eI) p__1.2), some ((eL eI) home), none, none, none, none, none, none, none, none, some (eI z'.1), some (eI z'.2), none] : Pat) _ _ _ from (te_bin ty_add (te_bin ty_sub (te_var (e := eI) rfl) (te_var (e := eI) rfl)) (te_c (e := eI) (a := 1) rfl)))))) (te_call1 ty_sumL (te_var (e := (eL eI)) rfl)))))
    (tb_ret (te_c (e := eB) (a := false) rfl))
    (tb_skip (tb_forF (s0 := ()) (er := eB) (fun (s1' : Unit) => ([none, none, some (eI many), some ((eL (eL eI)) rows), some ((eL eI) p_.1), some ((eL eI) p_.2.1), some (eI p_.2.2), none, some ((eL eI) p__1.2), none, none, none, none, none, none, none, none, none, none, none, none] : Pat)) (ti_range2 (te_c (e := eI) (a := 1) rfl) (te_bin ty_add (te_call1 ty_lenL (te_var (e := (eL (eL eI))) rfl)) (te_c (e := eI) (a := 1) rfl))) (tg_nm 10) (PLe.no (PLe.no (PLe.at_ (PLe.at_ (PLe.at_ (PLe.at_ (PLe.at_ (PLe.no (PLe.at_ (PLe.no (PLe.no (PLe.no (PLe.no (PLe.no (PLe.no (PLe.no (PLe.no (PLe.no (PLe.no (PLe.no (PLe.no PLe.nil)))))))))))))))))))))
      (fun s1' z1' => (show TB ([none, none, some (eI many), some ((eL (eL eI)) rows), some ((eL eI) p_.1), some ((eL eI) p_.2.1), some (eI p_.2.2), none, some ((eL eI) p__1.2), none, some (eI z1'), none, none, none, none, none, none, none, none, none, none] : Pat) _ _ _ from (tb_asg (te_call1 ty_tupleA (te_lc (ti_range1 (te_var (e := eI) rfl)) (tg_nm 20) (fun z' => (show TE ([none, none, some (eI many), some ((eL (eL eI)) rows), some ((eL eI) p_.1), some ((eL eI) p_.2.1), some (eI p_.2.2), none, some ((eL eI) p__1.2), none, some (eI z1'), none, none, none, none, none, none, none, none, none, some (eI z')] : Pat) _ _ _ from (te_call1 ty_sumA (te_lc (ti_L (te_slL (te_var (e := (eL (eL eI))) rfl) to_none (to_some (te_var (e := eI) rfl)))) (tg_nm 16) (fun y1' => (show TE ([none, none, some (eI many), some ((eL (eL eI)) rows), some ((eL eI) p_.1), some ((eL eI) p_.2.1), some (eI p_.2.2), none, some ((eL eI) p__1.2), none, some (eI z1'), none, none, none, none, none, some ((eL eI) y1'), none, none, none, some (eI z')] : Pat) _ _ _ from (te_bin ty_ixL (te_var (e := (eL eI)) rfl) (te_var (e := eI) rfl)))))))))) (tg_nm 11) fun dear =>
    (show TB ([none, none, some (eI many), some ((eL (eL eI)) rows), some ((eL eI) p_.1), some ((eL eI) p_.2.1), some (eI p_.2.2), none, some ((eL eI) p__1.2), none, some (eI z1'), some ((eL eI) dear), none, none, none, none, none, none, none, none, none] : Pat) _ _ _ from (tb_last (tb_if (tt_b (te_bin (ty_ne cm_I (by decide)) (te_call1 ty_sumL (te_slL (te_def3 im_classes_lost (te_var (e := (eL (eL eI))) rfl) (te_var (e := (eL eI)) rfl) (te_var (e := eI) rfl)) to_none (to_some (te_var (e := eI) rfl)))) (te_call1 ty_sumL (te_ixT (g := fun x => x.2) (fun _ => rfl) (te_def3 im_kept_levels (te_var (e := (eL eI)) rfl) (te_var (e := (eL eI)) rfl) (te_var (e := eI) rfl))))))
    (tb_retP (te_c (e := eB) (a := false) rfl))
    (tb_skip (tb_endP (s := ()) (PLe.no (PLe.no (PLe.at_ (PLe.at_ (PLe.at_ (PLe.at_ (PLe.at_ (PLe.no (PLe.at_ (PLe.no (PLe.no (PLe.no (PLe.no (PLe.no (PLe.no (PLe.no (PLe.no (PLe.no (PLe.no (PLe.no (PLe.no PLe.nil)))))))))))))))))))))))))))))
      (fun s_ => (show TB ([none, none, some (eI many), some ((eL (eL eI)) rows), some ((eL eI) p_.1), some ((eL eI) p_.2.1), some (eI p_.2.2), none, some ((eL eI) p__1.2), none, none, none, none, none, none, none, none, none, none, none, none] : Pat) _ _ _ from (tb_asg (te_def2 im_need (te_var (e := (eL eI)) rfl) (te_var (e := (eL eI)) rfl)) (tg_nm 12) fun least =>
      (show TB ([none, none, some (eI many), some ((eL (eL eI)) rows), some ((eL eI) p_.1), some ((eL eI) p_.2.1), some (eI p_.2.2), none, some ((eL eI) p__1.2), none, none, none, some (eI least), none, none, none, none, none, none, none, none] : Pat) _ _ _ from (tb_if (tt_or (tt_b (te_bin (ty_ne cm_I (by decide)) (te_call1 ty_sumL (te_ixT (g := fun x => x.2) (fun _ => rfl) (te_def3 im_kept_levels (te_var (e := (eL eI)) rfl) (te_var (e := (eL eI)) rfl) (te_var (e := eI) rfl)))) (te_c (e := eI) (a := 0) rfl))) (tt_and (tt_b (te_bin ty_gt (te_var (e := eI) rfl) (te_c (e := eI) (a := 0) rfl))) (tt_b (te_bin (ty_eq cm_I (by decide)) (te_call1 ty_sumL (te_ixT (g := fun x => x.2) (fun _ => rfl) (te_def3 im_kept_levels (te_var (e := (eL eI)) rfl) (te_var (e := (eL eI)) rfl) (te_bin ty_sub (te_var (e := eI) rfl) (te_c (e := eI) (a := 1) rfl))))) (te_c (e := eI) (a := 0) rfl)))))
      (tb_ret (te_c (e := eB) (a := false) rfl))
      (tb_skip (tb_if (tt_or (tt_b (te_bin (ty_ne cm_B (by decide)) (te_bin (ty_isN (fun _ => rfl)) (te_def3 im_span_for (te_var (e := (eL eI)) rfl) (te_var (e := (eL eI)) rfl) (te_var (e := eI) rfl)) (te_c (e := eN) (a := ()) rfl)) (te_bin ty_ge (te_var (e := eI) rfl) (te_var (e := eI) rfl)))) (tt_b (te_bin ty_gt (te_call1 ty_sumL (te_ixT (g := fun x => x.2) (fun _ => rfl) (te_def3 im_kept_levels (te_var (e := (eL eI)) rfl) (te_var (e := (eL eI)) rfl) (te_bin ty_add (te_var (e := eI) rfl) (te_c (e := eI) (a := 1) rfl))))) (te_call1 ty_sumL (te_var (e := (eL eI)) rfl)))))
        (tb_ret (te_c (e := eB) (a := false) rfl))
        (tb_skip (tb_asg (te_def3 im_span_for (te_var (e := (eL eI)) rfl) (te_var (e := (eL eI)) rfl) (te_var (e := eI) rfl)) (tg_nm 13) fun told =>
          (show TB ([none, none, some (eI many), some ((eL (eL eI)) rows), some ((eL eI) p_.1), some ((eL eI) p_.2.1), some (eI p_.2.2), none, some ((eL eI) p__1.2), none, none, none, some (eI least), some ((eO (eT2 eI eI)) told), none, none, none, none, none, none, none] : Pat) _ _ _ from (tb_if (tt_and (tt_b (te_bin (ty_notN (fun _ => rfl)) (te_var (e := (eO (eT2 eI eI))) rfl) (te_c (e := eN) (a := ()) rfl))) (tt_b (te_bin ty_le (te_bin ty_sub (te_call1 ty_sumL (te_slL (te_var (e := (eL eI)) rfl) (to_some (te_ixT (g := fun x => x.1) (fun _ => rfl) (te_get (te_var (e := (eO (eT2 eI eI))) rfl)))) (to_some (te_bin ty_add (te_ixT (g := fun x => x.2) (fun _ => rfl) (te_get (te_var (e := (eO (eT2 eI eI))) rfl))) (te_c (e := eI) (a := 1) rfl))))) (te_call1 ty_sumL (te_slL (te_var (e := (eL eI)) rfl) (to_some (te_ixT (g := fun x => x.1) (fun _ => rfl) (te_get (te_var (e := (eO (eT2 eI eI))) rfl)))) (to_some (te_ixT (g := fun x => x.2) (fun _ => rfl) (te_get (te_var (e := (eO (eT2 eI eI))) rfl))))))) (te_var (e := eI) rfl))))
          (tb_ret (te_c (e := eB) (a := false) rfl))
          (tb_skip (tb_asg (te_def2 im_need (te_bin ty_rep (te_var (e := (eL eI)) rfl) (te_c (e := eI) (a := 2) rfl)) (te_bin ty_rep (te_var (e := (eL eI)) rfl) (te_c (e := eI) (a := 2) rfl))) (tg_nm 14) fun twice =>
            (show TB ([none, none, some (eI many), some ((eL (eL eI)) rows), some ((eL eI) p_.1), some ((eL eI) p_.2.1), some (eI p_.2.2), none, some ((eL eI) p__1.2), none, none, none, some (eI least), some ((eO (eT2 eI eI)) told), some (eI twice), none, none, none, none, none, none] : Pat) _ _ _ from (tb_asg (te_def2 im_need_for_ever (te_var (e := (eL eI)) rfl) (te_var (e := (eL eI)) rfl)) (tg_nm 15) fun ever =>
            (show TB ([none, none, some (eI many), some ((eL (eL eI)) rows), some ((eL eI) p_.1), some ((eL eI) p_.2.1), some (eI p_.2.2), none, some ((eL eI) p__1.2), none, none, none, some (eI least), some ((eO (eT2 eI eI)) told), some (eI twice), some ((eO eI) ever), none, none, none, none, none] : Pat) _ _ _ from (tb_if (tt_or (tt_b (te_bin (ty_ne cm_B (by decide)) (te_bin (ty_isN (fun _ => rfl)) (te_var (e := (eO eI)) rfl) (te_c (e := eN) (a := ()) rfl)) (te_bin ty_gt (te_call1 ty_sumL (te_var (e := (eL eI)) rfl)) (te_call1 ty_sumL (te_var (e := (eL eI)) rfl))))) (tt_b (te_bin ty_lt (te_var (e := eI) rfl) (te_var (e := eI) rfl))))
            (tb_ret (te_c (e := eB) (a := false) rfl))
            (tb_skip (tb_last (tb_ret (te_or (te_bin (ty_isN (fun _ => rfl)) (te_var (e := (eO eI)) rfl) (te_c (e := eN) (a := ()) rfl)) (te_and (te_bin ty_ge (te_get (te_var (e := (eO eI)) rfl)) (te_var (e := eI) rfl)) (te_bin (ty_eq (cm_O cm_I (fun _ => ⟨rfl, rfl⟩)) (by decide)) (te_var (e := (eO eI)) rfl) (te_some (te_def2 im_need (te_bin ty_rep (te_var (e := (eL eI)) rfl) (te_c (e := eI) (a := 3) rfl)) (te_bin ty_rep (te_var (e := (eL eI)) rfl) (te_c (e := eI) (a := 3) rfl)))))))))))))))))))))))))))))))))))))))))))
end K85

/-! The memory's course: sums, levels, a size more. -/
namespace K85
open PySem L2 Fc Sh Mm
/-- what is held behind one time -/
abbrev nxt (size h m d : Int) : Int := h + m - max 0 (h + m - size) - min (h + m - max 0 (h + m - size)) d
def endH (size : Int) : Int → List (Int × Int) → Int
  | h, [] => h
  | h, (m, d) :: r => endH size (nxt size h m d) r
theorem mem_sums (size : Int) : ∀ (l : List (Int × Int)) (h : Int), h + (l.map (·.1)).sum = ((mem size h l).map fun z => z.2.1).sum + ((mem size h l).map fun z => z.2.2).sum + endH size h l
  | [], h => by simp [mem, endH]
  | (m, d) :: r, h => by
    have ih := mem_sums size r (nxt size h m d)
    rw [mem, List.map_cons, List.map_cons, List.map_cons, List.sum_cons, List.sum_cons, List.sum_cons, endH]
    dsimp only
    dsimp only [nxt] at ih ⊢
    omega
theorem mem_last (size : Int) : ∀ (l : List (Int × Int)) (h : Int), l ≠ [] → ∃ z, (mem size h l).getLast? = some z ∧ z.1 - z.2.2 = endH size h l
  | [], _, n => absurd rfl n
  | [(m, d)], h, _ => ⟨_, rfl, rfl⟩
  | (m, d) :: z :: r, h, _ => by
    obtain ⟨x, h1, h2⟩ := mem_last size (z :: r) (nxt size h m d) (by simp)
    refine ⟨x, ?_, h2⟩
    obtain ⟨m', d'⟩ := z
    rw [mem, mem, List.getLast?_cons_cons]
    rw [mem] at h1
    exact h1
theorem mem_level {size : Int} (hs : 0 ≤ size) : ∀ (l : List (Int × Int)) (h : Int), 0 ≤ h → (∀ z ∈ l, 0 ≤ z.1 ∧ 0 ≤ z.2) → ∀ x ∈ mem size h l, 0 ≤ x.1 ∧ x.1 ≤ size ∧ 0 ≤ x.2.2
  | [], _, _, _, x, hx => by simp [mem] at hx
  | (m, d) :: r, h, h0, hz, x, hx => by
    have hz1 := hz (m, d) List.mem_cons_self
    rw [mem] at hx
    dsimp only at hz1
    rcases List.mem_cons.mp hx with rfl | hx
    · dsimp only
      omega
    · exact mem_level hs r _ (by omega) (fun z h => hz z (List.mem_cons_of_mem _ h)) x hx
theorem mono_go {size : Int} : ∀ (l : List (Int × Int)) (h h' : Int), h ≤ h' → h' ≤ h + 1 → ((mem (size + 1) h' l).map fun z => z.2.1).sum ≤ ((mem size h l).map fun z => z.2.1).sum + (h' - h)
  | [], h, h', h1, h2 => by
    simp only [mem, List.map_nil, List.sum_nil]
    omega
  | (m, d) :: r, h, h', h1, h2 => by
    have ih := mono_go (size := size) r (nxt size h m d) (nxt (size + 1) h' m d) (by dsimp only [nxt]; omega) (by dsimp only [nxt]; omega)
    rw [mem, mem, List.map_cons, List.map_cons, List.sum_cons, List.sum_cons]
    dsimp only [nxt] at ih ⊢
    omega
theorem lost_mono {size : Int} (made down : List Int) : lostS (size + 1) made down ≤ lostS size made down := by
  have := mono_go (size := size) (made.zip down) 0 0 (Int.le_refl _) (by omega)
  unfold lostS
  omega
theorem brought_eq {made down : List Int} {size : Int} (hl : made.length ≤ 1000) : t_brought made down size = pure ((mem size 0 (made.zip down)).map fun z => z.2.2) := by
  unfold t_brought
  have hl2 : (mem size 0 (made.zip down)).length ≤ 100000 := by
    rw [mem_len, List.length_zip]
    omega
  have e1 : mapS t_brought_C1 (mem size 0 (made.zip down)) = pure ((mem size 0 (made.zip down)).map fun z => z.2.2) := mapS_pure hl2 fun _ _ => rfl
  simp only [b1, b2, b3, pb, steps_of_eq hl, e1, yId]
theorem yIx_last {α : Type} {l : List α} {a : α} (h : l.getLast? = some a) : yIx l (-1) = pure a := by
  have hne : l ≠ [] := fun e => by rw [e] at h; cases h
  have hp : 0 < l.length := List.length_pos_iff.mpr hne
  refine yIx_ok ?_
  unfold atI ixN
  rw [if_neg (by decide), if_pos (by omega)]
  show l[(-1 + (l.length : Int)).toNat]? = some a
  rw [show (-1 + (l.length : Int)).toNat = l.length - 1 from by omega, ← List.getLast?_eq_getElem?]
  exact h
/-! ### runs -/
/-- held and lost, one time on -/
def stp (size : Int) (s : Int × Int) (z : Int × Int) : Int × Int := (nxt size s.1 z.1 z.2, s.2 + max 0 (s.1 + z.1 - size))
def run (size : Int) (l : List (Int × Int)) : Int × Int := l.foldl (stp size) (0, 0)
theorem run_mem (size : Int) : ∀ (l : List (Int × Int)) (s : Int × Int), (l.foldl (stp size) s).2 = s.2 + ((mem size s.1 l).map fun z => z.2.1).sum
  | [], s => by simp [mem]
  | (m, d) :: r, s => by
    rw [List.foldl_cons, run_mem size r, mem, List.map_cons, List.sum_cons]
    dsimp only [stp, nxt]
    omega
theorem run_lost (size : Int) (l : List (Int × Int)) : (run size l).2 = ((mem size 0 l).map fun z => z.2.1).sum := by
  unfold run
  rw [run_mem]
  dsimp only
  omega
theorem run_snoc (size : Int) (l : List (Int × Int)) {i : Nat} {z : Int × Int} (h : l[i]? = some z) : run size (l.take (i + 1)) = stp size (run size (l.take i)) z := by
  unfold run
  rw [List.take_succ, h, List.foldl_append]
  rfl
/-! ### prefixes of lists that are changed at a place -/
theorem gset_self {l : List Int} {i : Nat} (h : i < l.length) (x : Int) : (l.set i x).getD i 0 = x := by
  rw [List.getD_eq_getElem?_getD, List.getElem?_set_self h]
  rfl
theorem gset_ne {l : List Int} {i j : Nat} (h : i ≠ j) (x : Int) : (l.set i x).getD j 0 = l.getD j 0 := by
  rw [List.getD_eq_getElem?_getD, List.getElem?_set_ne h, ← List.getD_eq_getElem?_getD]
theorem pre_set (l : List Int) (i : Nat) (x : Int) (h : i < l.length) (k : Nat) : pre (l.set i x) k = pre l k + if i < k then x - l.getD i 0 else 0 := by
  induction k with
  | zero => simp [pre_zero]
  | succ k ih =>
    rw [pre_succ, pre_succ, ih]
    by_cases c : i = k
    · subst c
      rw [gset_self h, if_neg (by omega), if_pos (by omega)]
      omega
    · rw [gset_ne c]
      by_cases c2 : i < k
      · rw [if_pos c2, if_pos (by omega)]
        omega
      · rw [if_neg c2, if_neg (by omega)]
        omega
theorem pre_mono {l : List Int} (h : ∀ x ∈ l, 0 ≤ x) : ∀ d a, pre l a ≤ pre l (a + d)
  | 0, a => Int.le_refl _
  | d + 1, a => by
    have := pre_mono h d a
    rw [show a + (d + 1) = a + d + 1 from rfl, pre_succ]
    have : 0 ≤ l.getD (a + d) 0 := by
      rw [List.getD_eq_getElem?_getD]
      cases q : l[a + d]? with
      | none => simp
      | some x => exact h x (List.mem_of_getElem? q)
    omega
theorem getD_nn {l : List Int} (h : ∀ x ∈ l, 0 ≤ x) (i : Nat) : 0 ≤ l.getD i 0 := by
  rw [List.getD_eq_getElem?_getD]
  cases q : l[i]? with
  | none => simp
  | some x => exact h x (List.mem_of_getElem? q)
theorem nn_set {l : List Int} (h : ∀ x ∈ l, 0 ≤ x) {i : Nat} {v : Int} (hv : 0 ≤ v) : ∀ x ∈ l.set i v, 0 ≤ x := fun x hx => by
  rcases List.mem_or_eq_of_mem_set hx with hx | rfl
  · exact h x hx
  · exact hv
theorem ySet_ok {α : Type} {l : List α} {i : Nat} (h : i < l.length) (x : α) : ySet l (i : Int) x = pure (l.set i x) := by
  unfold ySet ixN
  rw [if_pos (by omega), if_pos (by omega)]
  rfl
theorem enumI_get {α : Type} : ∀ (l : List α) (n i : Nat), (enumI n l)[i]? = l[i]?.map fun a => (((n + i : Nat) : Int), a)
  | [], n, i => by simp [enumI]
  | a :: l, n, 0 => by simp [enumI]
  | a :: l, n, i + 1 => by
    rw [enumI, List.getElem?_cons_succ, enumI_get l (n + 1) i, List.getElem?_cons_succ, show n + 1 + i = n + (i + 1) from by omega]
theorem enumI_len {α : Type} : ∀ (l : List α) (n : Nat), (enumI n l).length = l.length
  | [], n => rfl
  | a :: l, n => by rw [enumI, List.length_cons, enumI_len l, List.length_cons]
theorem getD_of {l : List Int} {i : Nat} {a : Int} (h : l[i]? = some a) : l.getD i 0 = a := by
  rw [List.getD_eq_getElem?_getD, h]
  rfl
end K85

/-! Classes: each row of the dearest ones loses as if there were only these. -/
namespace K85
open PySem L2 Fc Sh Mm
/-! ### what is taken out -/
theorem taken_eq {held : List Int} {many : Int} (hn : ∀ x ∈ held, 0 ≤ x) (hm : 0 ≤ many) : ∃ r, t_taken_out held many = pure r ∧ r.length = held.length ∧ (∀ x ∈ r, 0 ≤ x) ∧ ∀ k, pre r k = pre held k - min (pre held k) many := by
  unfold t_taken_out
  simp only [b1, pb, yId]
  obtain ⟨s, h1, h2, h3, h4, h5, h6⟩ := foldS_inv (f := t_taken_out_L1) (l := enumI 0 held) (n := 0) (s := (held, many))
    (fun i s => s.1.length = held.length ∧ (∀ x ∈ s.1, 0 ≤ x) ∧ s.2 = many - min (pre held i) many ∧ (∀ j, i ≤ j → s.1.getD j 0 = held.getD j 0) ∧ ∀ k, k ≤ i → pre s.1 k = pre held k - min (pre held k) many)
    ⟨rfl, hn, by rw [pre_zero]; omega, fun _ _ => rfl, fun k hk => by
      rw [show k = 0 from by omega, pre_zero]
      omega⟩ fun i s a ha hs => by
    rw [Nat.zero_add] at hs ⊢
    obtain ⟨s1, s2, s3, s4, s5⟩ := hs
    rw [enumI_get, Nat.zero_add] at ha
    cases q : held[i]? with
    | none => rw [q] at ha; cases ha
    | some u =>
      rw [q] at ha
      cases ha
      have hi : i < held.length := (List.getElem?_eq_some_iff.mp q).1
      have hu : 0 ≤ u := hn u (List.mem_of_getElem? q)
      have eu : s.1.getD i 0 = u := (s4 i (Nat.le_refl _)).trans (getD_of q)
      have pp := pre_mono hn i 0
      rw [pre_zero, Nat.zero_add] at pp
      have ps := pre_succ held i
      rw [getD_of q] at ps
      refine ⟨(s.1.set i (u - min u s.2), s.2 - min u s.2), ?_, by rw [List.length_set]; exact s1, nn_set s2 (by omega), by rw [s3, ps]; dsimp only; omega, fun j hj => ?_, fun k hk => ?_⟩
      · unfold t_taken_out_L1
        simp only [b2, pb, yMin, ySub, ySet_ok (show i < s.1.length by omega)]
      · dsimp only
        rw [gset_ne (by omega)]
        exact s4 j (by omega)
      · show pre (s.1.set i (u - min u s.2)) k = _
        rw [pre_set _ _ _ (by omega), eu]
        by_cases c : k ≤ i
        · rw [if_neg (by omega), s5 k c]
          omega
        · have : k = i + 1 := by omega
          subst this
          rw [if_pos (by omega), pre_succ, eu, s5 i (Nat.le_refl _), s3, ps]
          omega
  refine ⟨s.1, by rw [h1, pb], h2, h3, fun k => ?_⟩
  rw [enumI_len, Nat.zero_add] at h6
  by_cases c : k ≤ held.length
  · exact h6 k c
  · rw [pre_all (show s.1.length ≤ k by omega), pre_all (show held.length ≤ k by omega), ← pre_all (l := s.1) (k := held.length) (by omega), ← pre_all (l := held) (k := held.length) (by omega)]
    exact h6 held.length (Nat.le_refl _)
/-! ### the greatest class held -/
theorem least_dear_eq {held : List Int} (hl : held.length ≤ 1000) (hn : ∀ x ∈ held, 0 ≤ x) (hp : 0 < held.sum) : ∃ k : Nat, t_least_dear held = pure (k : Int) ∧ k < held.length ∧ 0 < held.getD k 0 ∧ ∀ j, k < j → held.getD j 0 = 0 := by
  unfold t_least_dear
  have e := filS_pure (l := enumI 0 held) (t := t_least_dear_Q1) (f := t_least_dear_C1) (q := fun z => decide (0 < z.2)) (g := fun z => z.1) (by rw [enumI_len]; omega) (fun z _ => by
    unfold t_least_dear_Q1
    simp only [b2, pb, yGt]) fun z _ _ => rfl
  simp only [b1, pb, e]
  have mem_ : ∀ z : Int × Int, z ∈ enumI 0 held ↔ ∃ i : Nat, i < held.length ∧ z = ((i : Int), held.getD i 0) := fun z => by
    rw [List.mem_iff_getElem?]
    constructor
    · rintro ⟨i, hi⟩
      rw [enumI_get, Nat.zero_add] at hi
      cases q : held[i]? with
      | none => rw [q] at hi; cases hi
      | some u =>
        rw [q] at hi
        cases hi
        exact ⟨i, (List.getElem?_eq_some_iff.mp q).1, by rw [getD_of q]⟩
    · rintro ⟨i, hi, rfl⟩
      refine ⟨i, ?_⟩
      rw [enumI_get, Nat.zero_add, List.getElem?_eq_getElem hi, List.getD_eq_getElem?_getD, List.getElem?_eq_getElem hi]
      rfl
  generalize hL : ((enumI 0 held).filter fun z => decide (0 < z.2)).map (fun z => z.1) = L
  have memL : ∀ x : Int, x ∈ L ↔ ∃ i : Nat, i < held.length ∧ x = (i : Int) ∧ 0 < held.getD i 0 := fun x => by
    rw [← hL, List.mem_map]
    constructor
    · rintro ⟨z, hz, rfl⟩
      obtain ⟨h1, h2⟩ := List.mem_filter.mp hz
      obtain ⟨i, hi, rfl⟩ := (mem_ z).mp h1
      exact ⟨i, hi, rfl, of_decide_eq_true h2⟩
    · rintro ⟨i, hi, rfl, h⟩
      exact ⟨((i : Int), held.getD i 0), List.mem_filter.mpr ⟨(mem_ _).mpr ⟨i, hi, rfl⟩, decide_eq_true h⟩, rfl⟩
  have ne : L ≠ [] := fun e => by
    have z : ∀ k, k ≤ held.length → pre held k = 0 := fun k => by
      induction k with
      | zero => intro _; rfl
      | succ k ih =>
        intro hk
        rw [pre_succ, ih (by omega)]
        have := getD_nn hn k
        by_cases c : 0 < held.getD k 0
        · have : (k : Int) ∈ L := (memL _).mpr ⟨k, by omega, rfl, c⟩
          rw [e] at this
          cases this
        · omega
    have := z held.length (Nat.le_refl _)
    rw [pre_all (Nat.le_refl _)] at this
    omega
  cases q : L.max? with
  | none => exact absurd (List.max?_eq_none_iff.mp q) ne
  | some x =>
    obtain ⟨hx, hmax⟩ := List.max?_eq_some_iff.mp q
    obtain ⟨k, hk, rfl, hpos⟩ := (memL x).mp hx
    refine ⟨k, by unfold yMaxL; rw [q]; rfl, hk, hpos, fun j hj => ?_⟩
    by_cases c : j < held.length
    · have h0 := getD_nn hn j
      by_cases c2 : 0 < held.getD j 0
      · have := hmax _ ((memL _).mpr ⟨j, c, rfl, c2⟩)
        omega
      · omega
    · rw [List.getD_eq_getElem?_getD, List.getElem?_eq_none (by omega)]
      rfl
theorem pre_tail {l : List Int} {k : Nat} (h : ∀ j, k ≤ j → l.getD j 0 = 0) : ∀ d, pre l (k + d) = pre l k
  | 0 => rfl
  | d + 1 => by
    rw [show k + (d + 1) = k + d + 1 from rfl, pre_succ, pre_tail h d, h (k + d) (by omega)]
    omega
/-! ### what is too much is lost, the least dear first -/
theorem shed_eq {rows : List (List Int)} {held lost : List Int} {size most : Int} (hl : held.length ≤ 1000) (e : lost.length = held.length) (hn : ∀ x ∈ held, 0 ≤ x) (hs : 0 ≤ size) (hb : held.sum ≤ 90000) :
    ∃ r, whileS 100000 (t_classes_lost_W1 rows size most) (t_classes_lost_L3 rows size most) (held, lost) = pure r ∧ r.1.length = held.length ∧ r.2.length = held.length ∧ (∀ x ∈ r.1, 0 ≤ x) ∧ ∀ k, pre r.1 k = min (pre held k) size ∧ pre r.2 k = pre lost k + (pre held k - min (pre held k) size) := by
  have c1 : ∀ s, t_classes_lost_W1 rows size most s = pure (decide (size < s.1.sum)) := fun s => by
    unfold t_classes_lost_W1
    simp only [b1, b2, pb, ySum, yGt]
  have sp : ∀ {l : List Int}, (∀ x ∈ l, 0 ≤ x) → ∀ k, pre l k ≤ l.sum := fun {l} h k => by
    have := pre_mono h l.length k
    rw [pre_all (show l.length ≤ k + l.length by omega)] at this
    exact this
  obtain ⟨r, h1, ⟨h2, h3, h4, h5⟩, h6⟩ := whileS_inv (c := t_classes_lost_W1 rows size most) (f := t_classes_lost_L3 rows size most)
    (fun s => s.1.length = held.length ∧ s.2.length = held.length ∧ (∀ x ∈ s.1, 0 ≤ x) ∧ ∀ k, pre s.1 k ≤ pre held k ∧ min (pre held k) size ≤ pre s.1 k ∧ pre s.2 k = pre lost k + (pre held k - pre s.1 k)) (fun s => s.1.sum.toNat)
    (n := 100000) (s := (held, lost)) ⟨rfl, e, hn, fun k => ⟨Int.le_refl _, by dsimp only; omega, by dsimp only; omega⟩⟩ (by dsimp only; omega) fun s hs2 => by
    obtain ⟨s1, s2, s3, s4⟩ := hs2
    rw [c1]
    by_cases c : size < s.1.sum
    · right
      obtain ⟨k, e1, hk, hpos, hz⟩ := least_dear_eq (held := s.1) (by omega) s3 (by omega)
      have g1 := yIx_getD 0 (l := s.1) (i := (k : Int)) (by omega) (by omega)
      have g2 := yIx_getD 0 (l := s.2) (i := (k : Int)) (by omega) (by omega)
      rw [Int.toNat_natCast] at g1 g2
      have tail := pre_tail (l := s.1) (k := k + 1) fun j hj => hz j (by omega)
      have top : pre s.1 (k + 1) = s.1.sum := by
        have := tail s.1.length
        rw [pre_all (show s.1.length ≤ k + 1 + s.1.length by omega)] at this
        exact this.symm
      refine ⟨by rw [decide_eq_true c], (s.1.set k (s.1.getD k 0 - min (s.1.getD k 0) (s.1.sum - size)), s.2.set k (s.2.getD k 0 + min (s.1.getD k 0) (s.1.sum - size))), ?_, ⟨by rw [List.length_set]; exact s1, by rw [List.length_set]; exact s2, nn_set s3 (by omega), fun j => ?_⟩, ?_⟩
      · unfold t_classes_lost_L3
        simp only [b1, b2, pb, e1, g1, ySum, ySub, yMin, ySet_ok hk, g2, yAdd, ySet_ok (show k < s.2.length by omega)]
      · obtain ⟨q1, q2, q3⟩ := s4 j
        dsimp only
        rw [pre_set _ _ _ hk, pre_set _ _ _ (by omega)]
        by_cases c2 : k < j
        · have ej : pre s.1 j = s.1.sum := by
            rw [show j = k + 1 + (j - (k + 1)) from by omega, tail, top]
          rw [if_pos c2, if_pos c2, ej]
          rw [ej] at q1 q2 q3
          omega
        · rw [if_neg c2, if_neg c2]
          omega
      · dsimp only
        have := pre_set s.1 k (s.1.getD k 0 - min (s.1.getD k 0) (s.1.sum - size)) hk (held.length)
        rw [pre_all (show (s.1.set k (s.1.getD k 0 - min (s.1.getD k 0) (s.1.sum - size))).length ≤ held.length by rw [List.length_set]; omega), pre_all (show s.1.length ≤ held.length by omega), if_pos (by omega)] at this
        rw [this]
        omega
    · left
      rw [decide_eq_false c]
  refine ⟨r, h1, h2, h3, h4, fun k => ?_⟩
  rw [c1] at h6
  have le : r.1.sum ≤ size := by
    by_cases c : size < r.1.sum
    · rw [decide_eq_true c] at h6
      have w : (pure true : M Bool) ⟨[], 0, 0, 0⟩ = (pure false : M Bool) ⟨[], 0, 0, 0⟩ := by rw [h6]
      cases w
    · omega
  obtain ⟨q1, q2, q3⟩ := h5 k
  have := sp h4 k
  have e3 : pre r.1 k = min (pre held k) size := by omega
  refine ⟨e3, ?_⟩
  rw [q3, e3]
/-! ### rows come -/
/-- what the first k rows make at the time t -/
def mk (rows : List (List Int)) (k t : Nat) : Int := pre (rows.map fun row => row.getD t 0) k
theorem come_eq {rows : List (List Int)} {held lost : List Int} {size most : Int} {t : Nat} (e : rows.length = held.length) (hr : ∀ row ∈ rows, t < row.length) :
    ∃ r, foldS (t_classes_lost_L2 rows size lost (t : Int) most) (enumI 0 rows) held = pure r ∧ r.length = held.length ∧ ∀ k, pre r k = pre held k + mk rows k t := by
  have main := foldS_inv (f := t_classes_lost_L2 rows size lost (t : Int) most) (l := enumI 0 rows) (n := 0) (s := held)
    (fun i s => s.length = held.length ∧ ∀ j, s.getD j 0 = held.getD j 0 + if j < i then (rows.map fun row => row.getD t 0).getD j 0 else 0)
    ⟨rfl, fun j => by rw [if_neg (by omega)]; omega⟩ fun i s a ha hs => by
    rw [Nat.zero_add] at hs ⊢
    obtain ⟨s1, s2⟩ := hs
    rw [enumI_get, Nat.zero_add] at ha
    cases q : rows[i]? with
    | none => rw [q] at ha; cases ha
    | some row =>
      rw [q] at ha
      cases ha
      have hi : i < rows.length := (List.getElem?_eq_some_iff.mp q).1
      have ht := hr row (List.mem_of_getElem? q)
      have g1 := yIx_getD 0 (l := s) (i := (i : Int)) (by omega) (by omega)
      have g2 := yIx_getD 0 (l := row) (i := (t : Int)) (by omega) (by omega)
      rw [Int.toNat_natCast] at g1 g2
      refine ⟨s.set i (s.getD i 0 + row.getD t 0), ?_, by rw [List.length_set]; exact s1, fun j => ?_⟩
      · unfold t_classes_lost_L2
        simp only [b2, pb, g1, g2, yAdd, ySet_ok (show i < s.length by omega)]
      · have er : (rows.map fun row => row.getD t 0).getD i 0 = row.getD t 0 := by
          rw [List.getD_eq_getElem?_getD, List.getElem?_map, q]
          rfl
        by_cases c : i = j
        · subst c
          rw [gset_self (by omega), if_pos (by omega), er, s2 i, if_neg (by omega)]
          omega
        · rw [gset_ne c, s2 j]
          by_cases c2 : j < i
          · rw [if_pos c2, if_pos (by omega)]
          · rw [if_neg c2, if_neg (by omega)]
  obtain ⟨r, h1, h2, h3⟩ := main
  rw [enumI_len, Nat.zero_add] at h3
  refine ⟨r, h1, h2, fun k => ?_⟩
  unfold mk
  induction k with
  | zero => rw [pre_zero, pre_zero, pre_zero]; rfl
  | succ k ih =>
    rw [pre_succ, pre_succ, pre_succ, ih, h3 k]
    by_cases c : k < rows.length
    · rw [if_pos c]
      omega
    · rw [if_neg c, List.getD_eq_getElem?_getD (l := rows.map _), List.getElem?_eq_none (by rw [List.length_map]; omega)]
      simp only [Option.getD_none]
      omega
/-! ### all times -/
/-- the first k rows as one, with what is brought -/
def zk (rows : List (List Int)) (down : List Int) (k : Nat) : List (Int × Int) := enumI 0 down |>.map fun z => (mk rows k z.1.toNat, z.2)
theorem zk_get {rows : List (List Int)} {down : List Int} {k i : Nat} {d : Int} (h : down[i]? = some d) : (zk rows down k)[i]? = some (mk rows k i, d) := by
  unfold zk
  rw [List.getElem?_map, enumI_get, h, Nat.zero_add]
  rfl
theorem zk_len {rows : List (List Int)} {down : List Int} {k : Nat} : (zk rows down k).length = down.length := by
  unfold zk
  rw [List.length_map, enumI_len]
theorem lost_eq {rows : List (List Int)} {down : List Int} {size : Int} (hR : 1 ≤ rows.length ∧ rows.length ≤ 100) (hrl : ∀ row ∈ rows, row.length = down.length) (hrn : ∀ row ∈ rows, ∀ x ∈ row, 0 ≤ x ∧ x ≤ 100) (hd : ∀ x ∈ down, 0 ≤ x) (hs : 0 ≤ size ∧ size ≤ 1000) :
    ∃ r, t_classes_lost rows down size = pure r ∧ r.length = rows.length ∧ ∀ k, k ≤ rows.length → pre r k = ((mem size 0 (zk rows down k)).map fun z => z.2.1).sum := by
  have e0 : ∀ n : Nat, n ≤ 100 → yRepA [(0 : Int)] (n : Int) = pure (List.replicate n 0) := fun n hn => by
    have e1 : (List.replicate n [(0 : Int)]).flatten = List.replicate n 0 := by
      induction n with
      | zero => rfl
      | succ n ih => rw [List.replicate_succ, List.flatten_cons, ih (by omega), List.replicate_succ]; rfl
    unfold yRepA
    rw [chk_ok ⟨by omega, by omega, by simp; omega⟩, Int.toNat_natCast, e1]
  unfold t_classes_lost
  simp only [b1, b2, pb, consM, limM_ok (show [(0 : Int)].length ≤ 100000 from by simp), yLen, e0 rows.length hR.2]
  have z0 : ∀ k, pre (List.replicate rows.length (0 : Int)) k = 0 := fun k => by
    unfold pre
    rw [List.take_replicate, List.sum_replicate_int]
    omega
  have mkn : ∀ k t, 0 ≤ mk rows k t ∧ mk rows k t ≤ 100 * (k : Int) := fun k t => by
    unfold mk
    induction k with
    | zero => rw [pre_zero]; omega
    | succ k ih =>
      rw [pre_succ]
      have : 0 ≤ (rows.map fun row => row.getD t 0).getD k 0 ∧ (rows.map fun row => row.getD t 0).getD k 0 ≤ 100 := by
        rw [List.getD_eq_getElem?_getD, List.getElem?_map]
        cases q : rows[k]? with
        | none => simp
        | some row =>
          show 0 ≤ row.getD t 0 ∧ row.getD t 0 ≤ 100
          rw [List.getD_eq_getElem?_getD]
          cases q2 : row[t]? with
          | none => simp
          | some x => exact hrn row (List.mem_of_getElem? q) x (List.mem_of_getElem? q2)
      omega
  obtain ⟨r, h1, h2, h3, h4, h5⟩ := foldS_inv (f := t_classes_lost_L1 rows size) (l := enumI 0 down) (n := 0) (s := (List.replicate rows.length (0 : Int), List.replicate rows.length (0 : Int)))
    (fun i s => s.1.length = rows.length ∧ s.2.length = rows.length ∧ (∀ x ∈ s.1, 0 ≤ x) ∧ ∀ k, k ≤ rows.length → pre s.1 k = (run size ((zk rows down k).take i)).1 ∧ pre s.2 k = (run size ((zk rows down k).take i)).2 ∧ pre s.1 k ≤ size)
    ⟨List.length_replicate, List.length_replicate, fun x hx => by rw [(List.mem_replicate.mp hx).2]; exact Int.le_refl _, fun k _ => by
      rw [z0, List.take_zero]
      exact ⟨rfl, rfl, by omega⟩⟩ fun i s a ha hI => by
    rw [Nat.zero_add] at hI ⊢
    obtain ⟨s1, s2, s3, s4⟩ := hI
    rw [enumI_get, Nat.zero_add] at ha
    cases q : down[i]? with
    | none => rw [q] at ha; cases ha
    | some d =>
      rw [q] at ha
      cases ha
      have hi : i < down.length := (List.getElem?_eq_some_iff.mp q).1
      have hd0 : 0 ≤ d := hd d (List.mem_of_getElem? q)
      obtain ⟨a1, p1, p2, p3⟩ := come_eq (rows := rows) (held := s.1) (lost := s.2) (size := size) (most := d) (t := i) s1.symm fun row hr => by rw [hrl row hr]; exact hi
      have an : ∀ x ∈ a1, 0 ≤ x := fun x hx => by
        obtain ⟨j, hj, rfl⟩ := List.getElem_of_mem hx
        have e1 := pre_succ a1 j
        rw [p3, p3] at e1
        have e2 := pre_mono s3 1 j
        have e3 : mk rows j i ≤ mk rows (j + 1) i := by
          unfold mk
          rw [pre_succ]
          have : 0 ≤ (rows.map fun row => row.getD i 0).getD j 0 := getD_nn (fun x hx => by
            obtain ⟨row, hr, rfl⟩ := List.mem_map.mp hx
            exact getD_nn (fun x hx => (hrn row hr x hx).1) i) j
          omega
        rw [List.getD_eq_getElem?_getD, List.getElem?_eq_getElem hj] at e1
        simp only [Option.getD_some] at e1
        omega
      have asum : a1.sum ≤ 90000 := by
        have e1 := p3 rows.length
        have e2 := (mkn rows.length i).2
        have e3 := (s4 rows.length (Nat.le_refl _)).2.2
        rw [pre_all (show a1.length ≤ rows.length by omega)] at e1
        omega
      obtain ⟨b, q1, q2, q3, q4, q5⟩ := shed_eq (rows := rows) (held := a1) (lost := s.2) (size := size) (most := d) (by omega) (by omega) an hs.1 asum
      obtain ⟨c, t1, t2, t3, t4⟩ := taken_eq (held := b.1) (many := d) q4 hd0
      refine ⟨(c, b.2), ?_, by dsimp only; omega, by dsimp only; omega, t3, fun k hk => ?_⟩
      · unfold t_classes_lost_L1
        simp only [b1, pb, p1, q1, t1]
      · obtain ⟨g1, g2, g3⟩ := s4 k hk
        rw [run_snoc size (zk rows down k) (zk_get q)]
        dsimp only [stp]
        rw [t4, (q5 k).1, (q5 k).2, p3, ← g1, ← g2]
        dsimp only [nxt]
        have := (mkn k i).1
        omega
  refine ⟨r.2, ?_, h3, fun k hk => ?_⟩
  · simp only [h1, pb, yId]
  · obtain ⟨_, g2, _⟩ := h5 k hk
    rw [g2, ← run_lost, List.take_of_length_le (by rw [zk_len, enumI_len]; omega)]
end K85

/-! The memory that winds, and rows that come again. -/
namespace K85
open PySem L2 Fc Sh Mm
/-! ### spans of numbers -/
theorem joined_eq {ns : List Int} (hl : ns.length ≤ 10000) : ∃ r, t_joined ns = pure r ∧ (r.map fun z => z.2 - z.1 + 1).sum = (ns.length : Int) ∧ r.length ≤ ns.length := by
  unfold t_joined
  simp only [b1, pb, limM_ok (show ([] : List (Int × Int)).length ≤ 100000 from by simp)]
  obtain ⟨r, h1, h2, h3⟩ := foldS_inv (f := t_joined_L1) (l := ns) (n := 0) (s := []) (fun i s => (s.map fun z => z.2 - z.1 + 1).sum = (i : Int) ∧ s.length ≤ i) ⟨rfl, Nat.le_refl _⟩ fun i s a ha hs => by
    rw [Nat.zero_add] at hs ⊢
    obtain ⟨s1, s2⟩ := hs
    have hi := lt_of_get ha
    have app : (b2 (fun x0 x1 => pure (x0, x1)) (pure a) (pure a) >>= fun x => yApp s x) = (pure (s ++ [(a, a)]) : M (List (Int × Int))) := by
      simp only [b2, pb, yApp_ok (show s.length < 100000 by omega)]
    have fin : ∃ s', (pure (s ++ [(a, a)]) : M (List (Int × Int))) = pure s' ∧ (s'.map fun z => z.2 - z.1 + 1).sum = ((i + 1 : Nat) : Int) ∧ s'.length ≤ i + 1 := by
      refine ⟨_, rfl, ?_, by rw [List.length_append, List.length_singleton]; omega⟩
      rw [List.map_append, List.sum_append, s1]
      simp
    unfold t_joined_L1
    by_cases c : s = []
    · subst c
      simp only [b1, pb, yTrL, List.isEmpty_nil, Bool.not_true, andB, Bool.false_eq_true, if_false, ifM, app]
      exact fin
    · obtain ⟨z, hz⟩ : ∃ z, s.getLast? = some z := by
        cases q : s.getLast? with
        | none => exact absurd (List.getLast?_eq_none_iff.mp q) c
        | some z => exact ⟨z, rfl⟩
      have e1 := yIx_last hz
      have e2 : s.isEmpty = false := by
        cases s with
        | nil => exact absurd rfl c
        | cons _ _ => rfl
      have hne : 0 < s.length := List.length_pos_iff.mpr c
      simp only [b1, b2, pb, yTrL, e2, Bool.not_false, andB, if_true, yNeg, e1, ySub, yEq, ifM]
      by_cases k : z.2 = a - 1
      · rw [decide_eq_true k, if_pos rfl]
        have e3 : ySet s (-1) (z.1, a) = pure (s.set (s.length - 1) (z.1, a)) := by
          unfold ySet ixN
          rw [if_neg (by decide), if_pos (by omega)]
          show getO ((some (-1 + (s.length : Int)).toNat).map fun j => s.set j (z.1, a)) = _
          rw [show (-1 + (s.length : Int)).toNat = s.length - 1 from by omega]
          rfl
        refine ⟨s.set (s.length - 1) (z.1, a), by rw [e3, pb], ?_, by rw [List.length_set]; omega⟩
        obtain ⟨M, rfl⟩ := List.getLast?_eq_some_iff.mp hz
        rw [show (M ++ [z]).length - 1 = M.length from by rw [List.length_append, List.length_singleton]; omega]
        have : (M ++ [z]).set M.length (z.1, a) = M ++ [(z.1, a)] := by
          rw [List.set_append_right _ _ (Nat.le_refl _), Nat.sub_self]
          rfl
        rw [this, List.map_append, List.sum_append]
        rw [List.map_append, List.sum_append] at s1
        simp only [List.map_cons, List.map_nil, List.sum_cons, List.sum_nil] at s1 ⊢
        omega
      · rw [decide_eq_false k, if_neg Bool.false_ne_true]
        simp only [yApp_ok (show s.length < 100000 by omega), pb]
        exact fin
  refine ⟨r, by rw [h1, pb], ?_, by rw [Nat.zero_add] at h3; exact h3⟩
  rw [Nat.zero_add] at h2
  exact h2
/-! ### winding -/
theorem winding_go {size : Int} {made down : List Int} (hl : made.length ≤ 100) (hs : 0 ≤ size ∧ size ≤ 1000) (hm : ∀ x ∈ made, 0 ≤ x ∧ x ≤ 100) (hd : ∀ x ∈ down, 0 ≤ x ∧ x ≤ 1000) : ∃ r, t_winding made down size = pure r ∧ (r.map fun z => z.2 - z.1 + 1).sum = ((mem size 0 (made.zip down)).map fun z => z.2.2).sum ∧ r.length ≤ 100000 := by
  unfold t_winding
  simp only [b1, b2, pb, limM_ok (show ([] : List Int).length ≤ 100000 from by simp), yZip]
  have go : ∀ (l : List (Int × Int)) (held kept : List Int) (come : Int), (∀ z ∈ l, 0 ≤ z.1 ∧ z.1 ≤ 100 ∧ 0 ≤ z.2 ∧ z.2 ≤ 1000) → (held.length : Int) ≤ size → 0 ≤ come → come + 100 * l.length ≤ 90000 → (kept.length : Int) + held.length ≤ come →
      ∃ s, foldS (t_winding_L1 size) l (held, kept, come) = pure s ∧ (s.2.1.length : Int) = kept.length + ((mem size held.length l).map fun z => z.2.2).sum ∧ (s.2.1.length : Int) ≤ 100000 := fun l => by
    induction l with
    | nil =>
      intro held kept come _ _ h0 h1 h2
      refine ⟨_, rfl, by simp [mem], ?_⟩
      simp at h1
      dsimp only
      omega
    | cons z l ih =>
      intro held kept come hz hh h0 h1 h2
      obtain ⟨m, d⟩ := z
      obtain ⟨z1, z2, z3, z4⟩ := hz (m, d) List.mem_cons_self
      dsimp only at z1 z2 z3 z4
      rw [List.length_cons] at h1
      have e1 : yRg2 come (come + m) = pure (rangeI come m.toNat) := by
        have := chk_ok (c := -1000000000 ≤ come ∧ come ≤ 1000000000 ∧ -1000000000 ≤ come + m ∧ come + m ≤ 1000000000 ∧ come + m - come ≤ 100000) (a := rangeI come (come + m - come).toNat) ⟨by omega, by omega, by omega, by omega, by omega⟩
        rw [show come + m - come = m from by omega] at this
        unfold yRg2
        rw [show come + m - come = m from by omega]
        exact this
      have e2 : yExt held (rangeI come m.toNat) = pure (held ++ rangeI come m.toNat) := chk_ok (by rw [rangeI_len]; omega)
      generalize hA : held ++ rangeI come m.toNat = A
      have lA : (A.length : Int) = held.length + m := by
        rw [← hA, List.length_append, rangeI_len]
        omega
      have e3 : (cutD A (some (max 0 ((A.length : Int) - size))) none).length = (held.length + m - max 0 (held.length + m - size)).toNat := by
        unfold cutD
        rw [HT.sIx_none]
        have : HT.sIx A.length 0 (some (max 0 ((A.length : Int) - size))) = (max 0 ((A.length : Int) - size)).toNat := by
          show (if max 0 ((A.length : Int) - size) < 0 then _ else min (max 0 ((A.length : Int) - size)).toNat A.length) = _
          rw [if_neg (by omega)]
          omega
        rw [this, List.length_take, List.length_drop]
        omega
      generalize hC : cutD A (some (max 0 ((A.length : Int) - size))) none = C at e3
      have lC : (C.length : Int) = held.length + m - max 0 (held.length + m - size) := by omega
      have e4 : yRange1 (min d (C.length : Int)) = pure (rangeI 0 (min d (C.length : Int)).toNat) := yRange1_ok (by omega) (by omega)
      -- the inner loop pops
      have pops : ∀ (n : Nat) (js : List Int) (C kept : List Int), js.length = n → n ≤ C.length → kept.length + C.length < 100000 → ∃ s, foldS (t_winding_L2 size (come + m)) js (C, kept) = pure s ∧ s.1.length = C.length - n ∧ s.2.length = kept.length + n := fun n => by
        induction n with
        | zero =>
          intro js C kept hj _ _
          have : js = [] := List.length_eq_zero_iff.mp hj
          subst this
          exact ⟨_, rfl, rfl, rfl⟩
        | succ n ihn =>
          intro js C kept hj hn hk
          cases js with
          | nil => simp at hj
          | cons j js =>
            rw [List.length_cons] at hj
            obtain ⟨x, hx⟩ : ∃ x, C.getLast? = some x := by
              cases q : C.getLast? with
              | none =>
                have := List.getLast?_eq_none_iff.mp q
                subst this
                simp at hn
              | some x => exact ⟨x, rfl⟩
            have e5 : yPop C = pure (x, C.dropLast) := by
              unfold yPop
              rw [hx]
            have e6 : t_winding_L2 size (come + m) (C, kept) j = pure (C.dropLast, kept ++ [x]) := by
              unfold t_winding_L2
              simp only [e5, pb, yApp_ok (show kept.length < 100000 by omega)]
            obtain ⟨s, g1, g2, g3⟩ := ihn js C.dropLast (kept ++ [x]) (by omega) (by rw [List.length_dropLast]; omega) (by rw [List.length_dropLast, List.length_append, List.length_singleton]; omega)
            refine ⟨s, by rw [foldS, e6, pb, g1], ?_, ?_⟩
            · rw [g2, List.length_dropLast]
              omega
            · rw [g3, List.length_append, List.length_singleton]
              omega
      obtain ⟨s, g1, g2, g3⟩ := pops (min d (C.length : Int)).toNat (rangeI 0 (min d (C.length : Int)).toNat) C kept (rangeI_len _ _) (by omega) (by omega)
      have e7 : t_winding_L1 size (held, kept, come) (m, d) = pure (s.1, s.2, come + m) := by
        unfold t_winding_L1
        simp only [b1, b2, b3, pb, yAdd, e1, e2, hA, yLen, ySub, yMax, yCut, hC, yMin, e4, g1]
      have lS : (s.1.length : Int) = nxt size held.length m d := by
        dsimp only [nxt]
        omega
      obtain ⟨s2, k1, k2, k3⟩ := ih s.1 s.2 (come + m) (fun z h => hz z (List.mem_cons_of_mem _ h)) (by rw [lS]; dsimp only [nxt]; omega) (by omega) (by omega) (by omega)
      refine ⟨s2, by rw [foldS, e7, pb, k1], ?_, k3⟩
      rw [k2, lS, mem, List.map_cons, List.sum_cons]
      dsimp only
      dsimp only [nxt]
      omega
  have hz : ∀ z ∈ made.zip down, 0 ≤ z.1 ∧ z.1 ≤ 100 ∧ 0 ≤ z.2 ∧ z.2 ≤ 1000 := fun z hz => by
    obtain ⟨m, d⟩ := z
    have := List.of_mem_zip hz
    exact ⟨(hm m this.1).1, (hm m this.1).2, (hd d this.2).1, (hd d this.2).2⟩
  obtain ⟨s, h1, h2, h3⟩ := go (made.zip down) [] [] 0 hz (by simp; omega) (Int.le_refl _) (by rw [List.length_zip]; omega) (by simp)
  have hk : s.2.1.length ≤ 10000 := by
    have : (made.zip down).length ≤ 100 := by rw [List.length_zip]; omega
    have : ∀ (l : List (Int × Int)) (h : Int), (∀ z ∈ l, 0 ≤ z.1 ∧ z.1 ≤ 100 ∧ 0 ≤ z.2 ∧ z.2 ≤ 1000) → 0 ≤ h → ((mem size h l).map fun z => z.2.2).sum ≤ h + 100 * l.length := fun l => by
      induction l with
      | nil => intro h _ h0; simp [mem]; exact h0
      | cons z l ih =>
        intro h hz h0
        obtain ⟨m, d⟩ := z
        obtain ⟨z1, z2, z3, z4⟩ := hz (m, d) List.mem_cons_self
        dsimp only at z1 z2 z3 z4
        have := ih (nxt size h m d) (fun z h => hz z (List.mem_cons_of_mem _ h)) (by dsimp only [nxt]; omega)
        rw [mem, List.map_cons, List.sum_cons, List.length_cons]
        dsimp only [nxt] at this ⊢
        omega
    have := this (made.zip down) 0 hz (Int.le_refl _)
    rw [show (([] : List Int).length : Int) = 0 from rfl] at h2
    omega
  obtain ⟨r, j1, j2, j3⟩ := joined_eq (ns := sortI s.2.1) (by rw [(sortI_perm s.2.1).length_eq]; exact hk)
  rw [(sortI_perm s.2.1).length_eq] at j2 j3
  refine ⟨r, ?_, ?_, by omega⟩
  · simp only [h1, pb, ySortI, j1]
  · rw [j2, h2]
    simp
/-! ### rows that come again -/
theorem pre_app_l (a b : List Int) (k : Nat) (h : k ≤ a.length) : pre (a ++ b) k = pre a k := by
  unfold pre
  rw [List.take_append_of_le_length h]
theorem pre_app_r (a b : List Int) (k : Nat) : pre (a ++ b) (a.length + k) = a.sum + pre b k := by
  unfold pre
  rw [List.take_length_add_append, List.sum_append]
section
variable {made down : List Int}
theorem span_two {size : Int} (e : made.length = down.length) (h : ∀ a b, a ≤ b → b < (made ++ made).length → Span size (made ++ made) (down ++ down) a b) : ∀ a b, a ≤ b → b < made.length → Span size made down a b := fun a b hab hb => by
  have := h a b hab (by rw [List.length_append]; omega)
  unfold Span at this ⊢
  rw [pre_app_l _ _ _ (by omega), pre_app_l _ _ _ (by omega), pre_app_l _ _ _ (by omega), pre_app_l _ _ _ (by omega)] at this
  exact this
theorem span_three {size : Int} (e : made.length = down.length) (hle : made.sum ≤ down.sum) : (∀ a b, a ≤ b → b < (made ++ made).length → Span size (made ++ made) (down ++ down) a b) ↔ ∀ a b, a ≤ b → b < (made ++ (made ++ made)).length → Span size (made ++ (made ++ made)) (down ++ (down ++ down)) a b := by
  have l2 : ∀ l : List Int, l ++ (l ++ l) = (l ++ l) ++ l := fun l => (List.append_assoc l l l).symm
  constructor
  · intro h a b hab hb
    rw [List.length_append, List.length_append] at hb
    unfold Span
    by_cases c1 : made.length ≤ a
    · have := h (a - made.length) (b - made.length) (by omega) (by rw [List.length_append]; omega)
      unfold Span at this
      have k1 := pre_app_r made (made ++ made) (b + 1 - made.length)
      have k2 := pre_app_r made (made ++ made) (a - made.length)
      have k3 := pre_app_r down (down ++ down) (b - made.length)
      have k4 := pre_app_r down (down ++ down) (a - made.length)
      rw [show made.length + (b + 1 - made.length) = b + 1 from by omega] at k1
      rw [show made.length + (a - made.length) = a from by omega] at k2
      rw [show down.length + (b - made.length) = b from by omega] at k3
      rw [show down.length + (a - made.length) = a from by omega] at k4
      rw [show b - made.length + 1 = b + 1 - made.length from by omega] at this
      omega
    · by_cases c2 : b < 2 * made.length
      · have := h a b hab (by rw [List.length_append]; omega)
        unfold Span at this
        rw [l2, l2, pre_app_l (made ++ made) _ _ (by rw [List.length_append]; omega), pre_app_l (made ++ made) _ _ (by rw [List.length_append]; omega), pre_app_l (down ++ down) _ _ (by rw [List.length_append]; omega), pre_app_l (down ++ down) _ _ (by rw [List.length_append]; omega)]
        exact this
      · have := h a (b - made.length) (by omega) (by rw [List.length_append]; omega)
        unfold Span at this
        have k1 := pre_app_r made (made ++ made) (b + 1 - made.length)
        have k3 := pre_app_r down (down ++ down) (b - made.length)
        rw [show made.length + (b + 1 - made.length) = b + 1 from by omega] at k1
        rw [show down.length + (b - made.length) = b from by omega] at k3
        have k2 : pre (made ++ (made ++ made)) a = pre (made ++ made) a := by rw [l2, pre_app_l (made ++ made) _ _ (by rw [List.length_append]; omega)]
        have k4 : pre (down ++ (down ++ down)) a = pre (down ++ down) a := by rw [l2, pre_app_l (down ++ down) _ _ (by rw [List.length_append]; omega)]
        rw [show b - made.length + 1 = b + 1 - made.length from by omega] at this
        omega
  · intro h a b hab hb
    have := h a b hab (by simp only [List.length_append] at hb ⊢; omega)
    unfold Span at this ⊢
    rw [List.length_append] at hb
    rw [l2, l2, pre_app_l (made ++ made) _ _ (by rw [List.length_append]; omega), pre_app_l (made ++ made) _ _ (by rw [List.length_append]; omega), pre_app_l (down ++ down) _ _ (by rw [List.length_append]; omega), pre_app_l (down ++ down) _ _ (by rw [List.length_append]; omega)] at this
    exact this
end
theorem need_span {made down : List Int} (hl : made.length ≤ 1000) (hm : ∀ x ∈ made, 0 ≤ x) (hd : ∀ x ∈ down, 0 ≤ x) (e : made.length = down.length) : ∃ N, t_need made down = pure N ∧ 0 ≤ N ∧ ∀ size, 0 ≤ size → (N ≤ size ↔ ∀ a b, a ≤ b → b < made.length → Span size made down a b) := by
  obtain ⟨N, h1, h2⟩ := need_eq (down := down) hl
  refine ⟨N, h1, ((h2 N).mp (Int.le_refl _)).1, fun size hs => ?_⟩
  obtain ⟨N', h3, h4⟩ := need_fits (size := size) hl hs hm hd e
  have : N' = N := by
    have w : (some (N', (⟨[], 0, 0, 0⟩ : Dw)) : Option (Int × Dw)) = some (N, ⟨[], 0, 0, 0⟩) := congrFun (h3.symm.trans h1) ⟨[], 0, 0, 0⟩
    cases w
    rfl
  subst this
  rw [h4, fits_iff e]
end K85

namespace K85
open PySem L2 Fc Sh Mm
/-- the first k rows as one -/
def dr (rows : List (List Int)) (n k : Nat) : List Int := (rangeI 0 n).map fun t => mk rows k t.toNat
theorem dr_len {rows : List (List Int)} {n k : Nat} : (dr rows n k).length = n := by
  unfold dr
  rw [List.length_map, rangeI_len]
theorem dr_get {rows : List (List Int)} {n k i : Nat} (h : i < n) : (dr rows n k)[i]? = some (mk rows k i) := by
  unfold dr
  rw [List.getElem?_map, rangeI_get _ _ _ h]
  show some (mk rows k (0 + (i : Int)).toNat) = _
  rw [show (0 + (i : Int)).toNat = i from by omega]
theorem dr_zip {rows : List (List Int)} {down : List Int} {k : Nat} : (dr rows down.length k).zip down = zk rows down k := by
  refine List.ext_getElem? fun i => ?_
  by_cases h : i < down.length
  · rw [zk_get (List.getElem?_eq_getElem h)]
    exact List.getElem?_zip_eq_some.mpr ⟨dr_get h, List.getElem?_eq_getElem h⟩
  · rw [List.getElem?_eq_none (by rw [List.length_zip]; omega), List.getElem?_eq_none (by rw [zk_len]; omega)]
theorem mk_sum (rows : List (List Int)) (k t : Nat) : ((rows.take k).map fun row => row.getD t 0).sum = mk rows k t := by
  unfold mk pre
  rw [List.map_take]
theorem mk_nn {rows : List (List Int)} (h : ∀ row ∈ rows, ∀ x ∈ row, 0 ≤ x ∧ x ≤ 4) (t : Nat) : ∀ k, 0 ≤ mk rows k t ∧ mk rows k t ≤ 4 * (k : Int)
  | 0 => by unfold mk; rw [pre_zero]; omega
  | k + 1 => by
    have ih := mk_nn h t k
    unfold mk at ih ⊢
    rw [pre_succ]
    have : 0 ≤ (rows.map fun row => row.getD t 0).getD k 0 ∧ (rows.map fun row => row.getD t 0).getD k 0 ≤ 4 := by
      rw [List.getD_eq_getElem?_getD, List.getElem?_map]
      cases q : rows[k]? with
      | none => simp
      | some row =>
        show 0 ≤ row.getD t 0 ∧ row.getD t 0 ≤ 4
        rw [List.getD_eq_getElem?_getD]
        cases q2 : row[t]? with
        | none => simp
        | some x => exact h row (List.mem_of_getElem? q) x (List.mem_of_getElem? q2)
    omega
theorem sum_map_nn {α : Type} {f : α → Int} : ∀ {l : List α}, (∀ x ∈ l, 0 ≤ f x) → 0 ≤ (l.map f).sum
  | [], _ => by simp
  | a :: l, h => by
    rw [List.map_cons, List.sum_cons]
    have := h a List.mem_cons_self
    have := sum_map_nn fun x hx => h x (List.mem_cons_of_mem _ hx)
    omega
theorem cut_take {α : Type} {l : List α} {k : Int} (h0 : 0 ≤ k) (h1 : k ≤ (l.length : Int)) : cutD l none (some k) = l.take k.toNat := by
  unfold cutD
  rw [HT.sIx_none]
  have : HT.sIx l.length l.length (some k) = k.toNat := by
    show (if k < 0 then _ else min k.toNat l.length) = _
    rw [if_neg (by omega)]
    omega
  rw [this, List.drop_zero, Nat.sub_zero]
section
variable {rows : List (List Int)} {down : List Int} {size : Int}
/-- what the law computes of a drawn case -/
structure Case (rows : List (List Int)) (down : List Int) (size : Int) : Prop where
  n1 : 1 ≤ down.length ∧ down.length ≤ 10
  r1 : 1 ≤ rows.length ∧ rows.length ≤ 3
  rl : ∀ row ∈ rows, row.length = down.length
  rn : ∀ row ∈ rows, ∀ x ∈ row, 0 ≤ x ∧ x ≤ 4
  d : ∀ x ∈ down, 0 ≤ x ∧ x ≤ 5
  s : 0 ≤ size ∧ size ≤ 8
variable (C : Case rows down size)
include C
theorem Case.made (k : Nat) : ∀ x ∈ dr rows down.length k, 0 ≤ x ∧ x ≤ 4 * (k : Int) := fun x hx => by
  unfold dr at hx
  obtain ⟨t, ht, rfl⟩ := List.mem_map.mp hx
  exact mk_nn C.rn t.toNat k
theorem Case.col (f : Int → List Int → M Int) (hf : ∀ k row, f k row = yIx row k) {t : Nat} (ht : t < down.length) (k : Nat) : mapS (f (t : Int)) (rows.take k) = pure ((rows.take k).map fun row => row.getD t 0) :=
  mapS_pure (by rw [List.length_take]; have := C.r1; omega) fun row hr => by
    have := C.rl row (List.mem_of_mem_take hr)
    rw [hf]
    have g := yIx_getD 0 (l := row) (i := (t : Int)) (by omega) (by omega)
    rwa [Int.toNat_natCast] at g
theorem Case.col1 : mapS (t_law_C3 rows) (rangeI 0 down.length) = pure (dr rows down.length rows.length) := by
  unfold dr
  refine mapS_pure (by rw [rangeI_len]; have := C.n1; omega) fun t ht => ?_
  have h := mem_rangeI.mp ht
  have e := C.col t_law_C4 (fun k row => by unfold t_law_C4; simp only [b2, pb]) (t := t.toNat) (by omega) rows.length
  rw [List.take_length, show ((t.toNat : Nat) : Int) = t from by omega] at e
  unfold t_law_C3
  simp only [b1, pb, e, ySum]
  have := mk_sum rows rows.length t.toNat
  rw [List.take_length] at this
  rw [this]
theorem Case.col2 {k : Nat} (h1 : 1 ≤ k) (h2 : k ≤ rows.length) : mapS (t_law_C8 rows (k : Int)) (rangeI 0 down.length) = pure (dr rows down.length k) := by
  unfold dr
  refine mapS_pure (by rw [rangeI_len]; have := C.n1; omega) fun t ht => ?_
  have h := mem_rangeI.mp ht
  have e := C.col t_law_C9 (fun k row => by unfold t_law_C9; simp only [b2, pb]) (t := t.toNat) (by omega) k
  rw [show ((t.toNat : Nat) : Int) = t from by omega] at e
  have ec := cut_take (l := rows) (k := (k : Int)) (by omega) (by omega)
  rw [Int.toNat_natCast] at ec
  unfold t_law_C8
  simp only [b1, b3, pb, yCut, ec, e, ySum, mk_sum]
theorem Case.rest {s : Unit} : ∃ r, forR (t_law_L1 (down.length : Int) rows (dr rows down.length rows.length) down size ((mem size 0 ((dr rows down.length rows.length).zip down)).map fun z => z.2.1)) (rangeI 1 rows.length) () = pure (.inl r) := by
  obtain ⟨lost, e1, e2, e3⟩ := lost_eq (rows := rows) (down := down) (size := size) ⟨C.r1.1, by have := C.r1; omega⟩ C.rl (fun row hr x hx => by have := C.rn row hr x hx; omega) (fun x hx => (C.d x hx).1) ⟨C.s.1, by have := C.s; omega⟩
  refine ⟨_, forR_none (g := fun s _ => s) (fun _ => True) trivial fun s k _ hk => ⟨?_, trivial⟩⟩
  have h := mem_rangeI.mp hk
  obtain ⟨k, rfl⟩ : ∃ j : Nat, k = (j : Int) := ⟨k.toNat, by omega⟩
  have e4 := C.col2 (k := k) (by omega) (by omega)
  have hn := C.n1
  have e5 := kept_eq (made := dr rows down.length k) (down := down) (size := size) (by rw [dr_len]; omega)
  have ec := cut_take (l := lost) (k := (k : Int)) (by omega) (by omega)
  rw [Int.toNat_natCast] at ec
  have e6 := e3 k (by omega)
  unfold pre at e6
  rw [dr_zip] at e5
  unfold t_law_L1
  simp only [b1, b2, b3, pb, yRange1_ok (n := (down.length : Int)) (by omega) (by omega), Int.toNat_natCast, e4, yId, e1, yCut, ec, ySum, e6, e5, yNe, decide_true, Bool.not_true, ifM, Bool.false_eq_true, if_false]
theorem Case.lost : ∃ lost, t_classes_lost rows down size = pure lost ∧ lost.sum = lostS size (dr rows down.length rows.length) down := by
  obtain ⟨lost, e1, e2, e3⟩ := lost_eq (rows := rows) (down := down) (size := size) ⟨C.r1.1, by have := C.r1; omega⟩ C.rl (fun row hr x hx => by have := C.rn row hr x hx; omega) (fun x hx => (C.d x hx).1) ⟨C.s.1, by have := C.s; omega⟩
  refine ⟨lost, e1, ?_⟩
  have := e3 rows.length (Nat.le_refl _)
  rw [pre_all (by omega)] at this
  rw [this]
  unfold lostS
  rw [dr_zip]
end
theorem flat2 (l : List Int) : (List.replicate 2 l).flatten = l ++ l := by
  rw [List.replicate_succ, List.flatten_cons, List.replicate_succ, List.flatten_cons]
  simp
theorem flat3 (l : List Int) : (List.replicate 3 l).flatten = l ++ (l ++ l) := by
  rw [List.replicate_succ, List.flatten_cons, flat2]
theorem rep2 {l : List Int} (h : l.length ≤ 1000) : yRep l 2 = pure (l ++ l) := by
  unfold yRep
  rw [chk_ok ⟨by omega, by omega, h⟩, show (2 : Int).toNat = 2 from rfl, flat2]
theorem rep3 {l : List Int} (h : l.length ≤ 1000) : yRep l 3 = pure (l ++ (l ++ l)) := by
  unfold yRep
  rw [chk_ok ⟨by omega, by omega, h⟩, show (3 : Int).toNat = 3 from rfl, flat3]
theorem law_wp (w : Dw) : wp t_law (fun b _ => b = true) w := by
  unfold t_law
  simp only [b1, b2, pb, bb, yAdd]
  refine wp_next' (by omega) fun k w1 k0 k1 => ?_
  refine wp_next' (by omega) fun r w2 r0 r1 => ?_
  rw [yRange1_ok (by omega) (by omega), pb, wp_bind]
  refine wp_mapS (fun row : List Int => (row.length : Int) = 1 + k ∧ ∀ x ∈ row, 0 ≤ x ∧ x ≤ 4) (by rw [rangeI_len]; omega) (fun a _ R w hR => ?_) fun rows w3 hRl hRows => ?_
  · unfold t_law_C1
    simp only [b1, pb, bb]
    rw [yRange1_ok (by omega) (by omega), pb, wp_bind]
    refine wp_mapS (fun x => 0 ≤ x ∧ x ≤ 4) (by rw [rangeI_len]; omega) (fun a _ R w hR => ?_) fun row w4 hl hr => ?_
    · unfold t_law_C2
      simp only [b2, pb]
      exact wp_yNext (by omega) fun k w' h1 h2 => hR k w' ⟨h1, by omega⟩
    · rw [rangeI_len] at hl
      simp only [yId, wp_pure]
      exact hR row w4 ⟨by omega, hr⟩
  rw [rangeI_len] at hRl
  simp only [yId, pb, b3, bb]
  rw [yRange1_ok (by omega) (by omega), pb]
  -- what is brought down is drawn behind the sums
  obtain ⟨n, hn⟩ : ∃ n : Nat, (n : Int) = 1 + k := ⟨(1 + k).toNat, by omega⟩
  have hmade : mapS (t_law_C3 rows) (rangeI 0 (1 + k).toNat) = pure (dr rows n rows.length) := by
    have C0 : Case rows (List.replicate n 0) 0 := ⟨by rw [List.length_replicate]; omega, by omega, fun row hr => by rw [List.length_replicate]; have := (hRows row hr).1; omega, fun row hr => (hRows row hr).2, fun x hx => by rw [(List.mem_replicate.mp hx).2]; omega, by omega⟩
    have := C0.col1
    rw [List.length_replicate] at this
    rw [show (1 + k).toNat = n from by omega]
    exact this
  rw [hmade]
  simp only [pb]
  rw [wp_bind]
  refine wp_mapS (fun x => 0 ≤ x ∧ x ≤ 5) (by rw [rangeI_len]; omega) (fun a _ R w hR => ?_) fun down w4 hdl hd => ?_
  · unfold t_law_C5
    simp only [b2, pb]
    exact wp_yNext (by omega) fun k w' h1 h2 => hR k w' ⟨h1, by omega⟩
  rw [rangeI_len] at hdl
  refine wp_next' (by omega) fun size w5 s0 s1 => ?_
  have en : n = down.length := by omega
  subst en
  have C : Case rows down size := ⟨by omega, by omega, fun row hr => by have := (hRows row hr).1; omega, fun row hr => (hRows row hr).2, hd, by omega⟩
  have lm := dr_len (rows := rows) (n := down.length) (k := rows.length)
  have hm4 := C.made rows.length
  have hR3 : (rows.length : Int) ≤ 3 := by omega
  obtain ⟨lost, el1, el2⟩ := C.lost
  obtain ⟨fr, efr⟩ := C.rest (s := ())
  generalize hmd : dr rows down.length rows.length = made at *
  have hmn : ∀ x ∈ made, 0 ≤ x := fun x hx => (hm4 x hx).1
  have hdn : ∀ x ∈ down, 0 ≤ x := fun x hx => (hd x hx).1
  have hl1 : made.length ≤ 1000 := by omega
  have kl := fun sz => kept_eq (made := made) (down := down) (size := sz) hl1
  have bl := brought_eq (made := made) (down := down) (size := size) hl1
  obtain ⟨wr, ew1, ew2, ew3⟩ := winding_go (size := size) (made := made) (down := down) (by omega) (by omega) (fun x hx => by have := hm4 x hx; omega) fun x hx => by have := hd x hx; omega
  have ew4 : mapS t_law_C7 wr = pure (wr.map fun z => z.2 - z.1 + 1) := mapS_pure ew3 fun z _ => by
    unfold t_law_C7
    simp only [b2, pb, yAdd, ySub]
  -- sums, levels
  have hzz : ∀ z ∈ made.zip down, 0 ≤ z.1 ∧ 0 ≤ z.2 := fun z hz => by
    obtain ⟨m, d⟩ := z
    have := List.of_mem_zip hz
    exact ⟨hmn _ this.1, hdn _ this.2⟩
  have zne : made.zip down ≠ [] := fun e => by
    have := congrArg List.length e
    rw [List.length_zip, List.length_nil] at this
    omega
  have sums := mem_sums size (made.zip down) 0
  rw [List.map_fst_zip (by omega)] at sums
  obtain ⟨zl, hz1, hz2⟩ := mem_last size (made.zip down) 0 zne
  have il : yIx ((mem size 0 (made.zip down)).map fun z => z.1) (-1) = pure zl.1 := yIx_last (by rw [List.getLast?_map, hz1]; rfl)
  have ih : yIx ((mem size 0 (made.zip down)).map fun z => z.2.2) (-1) = pure zl.2.2 := yIx_last (by rw [List.getLast?_map, hz1]; rfl)
  have lev : mapS (t_law_C6 size) ((mem size 0 (made.zip down)).map fun z => z.1) = pure (((mem size 0 (made.zip down)).map fun z => z.1).map fun _ => false) := mapS_pure (by rw [List.length_map, mem_len, List.length_zip]; omega) fun x hx => by
    obtain ⟨z, hz, rfl⟩ := List.mem_map.mp hx
    have := mem_level (by omega) (made.zip down) 0 (Int.le_refl _) hzz z hz
    unfold t_law_C6
    simp only [b1, chM, pb, yLe, decide_eq_true this.1, decide_eq_true this.2.1, if_true, yId, notB, Bool.not_true]
  have anyf : ∀ l : List Int, (l.map fun _ => false).any id = false := fun l => by
    rw [List.any_map]
    simp
  have hls : ((mem size 0 (made.zip down)).map fun z => z.2.1).sum = lostS size made down := rfl
  -- the need
  obtain ⟨N, en1, en2, en3⟩ := need_span (made := made) (down := down) hl1 hmn hdn (by omega)
  have noloss : ∀ sz, 0 ≤ sz → (lostS sz made down = 0 ↔ N ≤ sz) := fun sz h => by
    unfold lostS
    rw [(fits_mem _ _).2, fits_iff (by omega), en3 sz h]
  have l0 : lostS N made down = 0 := (noloss N en2).mpr (Int.le_refl _)
  have l1 : 0 < N → lostS (N - 1) made down ≠ 0 := fun h e => by
    have := (noloss (N - 1) (by omega)).mp e
    omega
  have hlN : ((mem N 0 (made.zip down)).map fun z => z.2.1).sum = lostS N made down := rfl
  have hlN1 : ((mem (N - 1) 0 (made.zip down)).map fun z => z.2.1).sum = lostS (N - 1) made down := rfl
  have hls1 : ((mem (size + 1) 0 (made.zip down)).map fun z => z.2.1).sum = lostS (size + 1) made down := rfl
  have mono := lost_mono (size := size) made down
  obtain ⟨sp, es1, es2⟩ := span_for_eq (made := made) (down := down) (size := size) hl1 (by omega)
  -- rows that come again
  obtain ⟨N2, ea1, ea2, ea3⟩ := need_span (made := made ++ made) (down := down ++ down) (by rw [List.length_append]; omega) (fun x hx => by rcases List.mem_append.mp hx with h | h <;> exact hmn x h) (fun x hx => by rcases List.mem_append.mp hx with h | h <;> exact hdn x h) (by rw [List.length_append, List.length_append]; omega)
  obtain ⟨N3, eb1, eb2, eb3⟩ := need_span (made := made ++ (made ++ made)) (down := down ++ (down ++ down)) (by rw [List.length_append, List.length_append]; omega) (fun x hx => by
      rcases List.mem_append.mp hx with h | h
      · exact hmn x h
      · rcases List.mem_append.mp h with h | h <;> exact hmn x h) (fun x hx => by
      rcases List.mem_append.mp hx with h | h
      · exact hdn x h
      · rcases List.mem_append.mp h with h | h <;> exact hdn x h) (by simp only [List.length_append]; omega)
  have t12 : N ≤ N2 := (en3 N2 ea2).mpr (span_two (by omega) ((ea3 N2 ea2).mp (Int.le_refl _)))
  have t23 : made.sum ≤ down.sum → N3 = N2 := fun hle => by
    have h1 : N3 ≤ N2 := (eb3 N2 ea2).mpr ((span_three (by omega) hle).mp ((ea3 N2 ea2).mp (Int.le_refl _)))
    have h2 : N2 ≤ N3 := (ea3 N3 eb2).mpr ((span_three (by omega) hle).mpr ((eb3 N3 eb2).mp (Int.le_refl _)))
    omega
  have r2m := rep2 (l := made) hl1
  have r2d := rep2 (l := down) (by omega)
  have r3m := rep3 (l := made) hl1
  have r3d := rep3 (l := down) (by omega)
  have ever : t_need_for_ever made down = pure (if made.sum > down.sum then none else some N2) := by
    unfold t_need_for_ever
    simp only [b1, b2, pb, ySum, yGt, ifM, yCat_ok (show made.length + made.length ≤ 100000 by omega), yCat_ok (show down.length + down.length ≤ 100000 by omega), ea1]
    by_cases c : down.sum < made.sum
    · rw [decide_eq_true c, if_pos rfl, if_pos c]
    · rw [decide_eq_false c, if_neg Bool.false_ne_true, if_neg (show ¬ made.sum > down.sum from c)]
  have c1 : made.sum = (((mem size 0 (made.zip down)).map fun z => z.2.1).sum + ((mem size 0 (made.zip down)).map fun z => z.2.2).sum + zl.1) - zl.2.2 := by omega
  have c2 : decide (N > 0) = true → decide (lostS (N - 1) made down = 0) = false := fun h => decide_eq_false (l1 (of_decide_eq_true h))
  have c3 : (decide (N > 0) && decide (lostS (N - 1) made down = 0)) = false := by
    cases q : decide (N > 0) with
    | false => rfl
    | true => rw [c2 q]; rfl
  rw [hls] at c1
  have d1 : decide (made.sum = lostS size made down + ((mem size 0 (made.zip down)).map fun z => z.2.2).sum + zl.1 - zl.2.2) = true := decide_eq_true c1
  have hr2 : yRange2 1 (((rows.length : Nat) : Int) + 1) = pure (rangeI 1 rows.length) := by
    rw [yRange2_ok (by omega) (by omega) (by omega) (by omega), show (((rows.length : Nat) : Int) + 1 - 1).toNat = rows.length from by omega]
  rw [show (1 + k : Int) = ((down.length : Nat) : Int) from by omega]
  simp only [kl, pb, bl, ySum, yNeg, il, ih, lev, yAny, anyf, hls, el1, el2, ew1, ew4, ew2, yNe, ySub, yId, orB, notB, d1, decide_true, Bool.not_true, Bool.false_eq_true, if_false, ifM, yLen, hr2, efr, elimF_l, en1, hlN, l0, yGt, andB, hlN1]
  have q0 : (if decide (0 < N) = true then yEq (lostS (N - 1) made down) 0 else pure false : M Bool) = pure false := by
    by_cases c : 0 < N
    · rw [decide_eq_true c, if_pos rfl]
      show pure (decide (lostS (N - 1) made down = 0)) = _
      rw [decide_eq_false (l1 c)]
    · rw [decide_eq_false c, if_neg Bool.false_ne_true]
  have q1 : decide (lostS size made down < lostS (size + 1) made down) = false := decide_eq_false (by omega)
  cases sp with
  | none =>
    have hN : N ≤ size := (en3 size (by omega)).mpr es2
    simp only [q0, pb, Bool.false_eq_true, if_false, es1, yIsN, yNotN, Option.isNone_none, yGe, decide_eq_true hN, decide_true, Bool.not_true, hls1, q1]
    simp only [r2m, r2d, pb, ea1, ever, yLt]
    by_cases c : made.sum > down.sum
    · have c' : down.sum < made.sum := c
      rw [if_pos c]
      simp only [yIsN, pb, Option.isNone_none, decide_eq_true c', decide_true, Bool.not_true, Bool.false_eq_true, if_false, decide_eq_false (show ¬ N2 < N by omega), if_true, wp_pure]
    · have c' : ¬ down.sum < made.sum := c
      have e3 := t23 (by omega)
      rw [e3] at eb1
      rw [if_neg c]
      simp only [yIsN, pb, Option.isNone_some, decide_eq_false c', decide_true, Bool.not_true, Bool.false_eq_true, if_false, decide_eq_false (show ¬ N2 < N by omega), getO_some, yGe, decide_eq_true (Int.le_refl N2), if_true, r3m, r3d, eb1, yEq, wp_pure]
  | some p =>
    obtain ⟨i, j, rfl, hij, hj, hsp⟩ := es2
    have hN : ¬ N ≤ size := fun h => hsp ((en3 size (by omega)).mp h i j hij hj)
    have k1 := cut_sum (l := made) (a := (i : Int)) (b := (j : Int) + 1) (by omega) (by omega) (by omega)
    have k2 := cut_sum (l := down) (a := (i : Int)) (b := (j : Int)) (by omega) (by omega) (by omega)
    rw [show ((j : Int) + 1).toNat = j + 1 from by omega, Int.toNat_natCast] at k1
    rw [Int.toNat_natCast, Int.toNat_natCast] at k2
    have k3 : ¬ (cutD made (some (i : Int)) (some ((j : Int) + 1))).sum - (cutD down (some (i : Int)) (some (j : Int))).sum ≤ size := by
      rw [k1, k2]
      exact hsp
    simp only [q0, pb, Bool.false_eq_true, if_false, es1, yIsN, yNotN, Option.isNone_some, yGe, decide_eq_false hN, decide_true, Bool.not_true, Bool.not_false, hls1, q1, getO_some, yCut, yLe, decide_eq_false k3, if_true]
    simp only [r2m, r2d, pb, ea1, ever, yLt]
    by_cases c : made.sum > down.sum
    · have c' : down.sum < made.sum := c
      rw [if_pos c]
      simp only [yIsN, pb, Option.isNone_none, decide_eq_true c', decide_true, Bool.not_true, Bool.false_eq_true, if_false, decide_eq_false (show ¬ N2 < N by omega), if_true, wp_pure]
    · have c' : ¬ down.sum < made.sum := c
      have e3 := t23 (by omega)
      rw [e3] at eb1
      rw [if_neg c]
      simp only [yIsN, pb, Option.isNone_some, decide_eq_false c', decide_true, Bool.not_true, Bool.false_eq_true, if_false, decide_eq_false (show ¬ N2 < N by omega), getO_some, yGe, decide_eq_true (Int.le_refl N2), if_true, r3m, r3d, eb1, yEq, wp_pure]
theorem law_true : ∀ ns : List Int, ns.length ≤ 63 → ∃ δ' w', F_law (none :: some .drw :: List.replicate 19 none) ⟨ns, 0, 0, 17⟩ = some ((.rt (.bl true), δ'), w') := law_of tb_law law_wp
end K85

namespace K85
open PySem PySem.Spec PyProof.Rows L2 Fc

def top (i : Nat) : Stmt := PySem.Challenge.pw_farcall_k85_memories_count_up.main.body.getD i (.Pass ⟨0, 0, 0, 0⟩)
abbrev s__law_draw : Stmt := top 13
abbrev s__law_next : Stmt := top 14
abbrev s_steps_of : Stmt := top 1
abbrev s_kept_levels : Stmt := top 2
abbrev s_brought : Stmt := top 3
abbrev s_need : Stmt := top 4
abbrev s_span_for : Stmt := top 5
abbrev s_need_for_ever : Stmt := top 6
abbrev s_taken_out : Stmt := top 8
abbrev s_least_dear : Stmt := top 7
abbrev s_classes_lost : Stmt := top 9
abbrev s_joined : Stmt := top 11
abbrev s_winding : Stmt := top 10
abbrev s_law : Stmt := top 16
structure Tx (K : PySem.W.Frag) (mg : Str → Option Value) : Prop where
  g_abs : mg "abs" = none
  g_any : mg "any" = none
  g_enumerate : mg "enumerate" = none
  g_int : mg "int" = none
  g_len : mg "len" = none
  g_list : mg "list" = none
  g_max : mg "max" = none
  g_min : mg "min" = none
  g_range : mg "range" = none
  g_sorted : mg "sorted" = none
  g_sum : mg "sum" = none
  g_tuple : mg "tuple" = none
  g_zip : mg "zip" = none
section
variable {P : Program} {w : World} {K : PySem.W.Frag} {mg : Str → Option Value} {base : Heap}
theorem sc__law_draw : FnScope ["script"] ["script"] (defScope s__law_draw) := ⟨rfl, rfl, rfl, by decide +kernel, rfl, by decide +kernel, by decide +kernel⟩
theorem sc__law_next : FnScope ["draw", "many", "found", "cell"] ["draw", "many"] (defScope s__law_next) := ⟨rfl, rfl, rfl, by decide +kernel, rfl, by decide +kernel, by decide +kernel⟩
theorem ok__law_draw (T : Tx K mg) {f : Addr} {fd : FuncData} (Fu : Fun K "_law_draw" "_law_draw" s__law_draw f fd) : FnOk P w K mg base CX0 1 f fd ["script"] (spDraw K) :=
  draw_ok Fu sc__law_draw fun cdv A outer s H E => pss_one (ps_ret (pe_lst (pa_cons (pe_callTy call_list_of rfl T.g_list (by decide +kernel) (pa_cons (pv 0) pa_nil)) (pa_cons pe_int (pa_cons pe_int (pa_cons pe_int pa_nil))))))
theorem ok__law_next (T : Tx K mg) {f : Addr} {fd : FuncData} (Fu : Fun K "_law_next" "_law_next" s__law_next f fd) (hm : mg "_law_next" = some (.ref f)) : Has P w K mg base 1 "_law_next" ["draw", "many"] nextF :=
  ⟨f, fd, next_ok Fu sc__law_next fun cdv A outer s H E =>
    pss_cons (ps_if (pt_cmpR op_gt (pe_ix ix_list (pv 0) pe_int (fun _ _ => rfl)) pe_int (nomark _)) (pss_cons (ps_set (i := 2) sc__law_next.nd rfl (.inl rfl) (pe_op op_modN (pe_callTy call_int1 rfl T.g_int (by decide +kernel) (pa_cons (pe_ix ix_list (pv 0) pe_int (fun _ _ => rfl)) pa_nil)) (pv 1))) (pss_cons (ps_asg (pe_op op_fdivN (pe_ix ix_list (pv 0) pe_int (fun _ _ => rfl)) (pv 1)) (pg_sub (pv 0) pe_int set_list)) (pss_one (ps_ret (pv 2))))) pss_nil)
    (pss_cons (ps_if (pt_cmpR op_lt (pe_ix ix_list (pv 0) pe_int (fun _ _ => rfl)) (pe_callB call_len rfl T.g_len PySem.boot_len (pa_cons (pe_ix ix_list (pv 0) pe_int (fun _ _ => rfl)) pa_nil)) (nomark _))
      (pss_cons (ps_set (i := 3) sc__law_next.nd rfl (.inl rfl) (pe_callB call_abs rfl T.g_abs (by decide +kernel) (pa_cons (pe_ix ix_list (pe_ix ix_list (pv 0) pe_int (fun _ _ => rfl)) (pe_ix ix_list (pv 0) pe_int (fun _ _ => rfl)) (fun _ _ => rfl)) pa_nil)))
      (pss_cons (ps_asg (pe_op op_add (pe_ix ix_list (pv 0) pe_int (fun _ _ => rfl)) pe_int) (pg_sub (pv 0) pe_int set_list))
      (pss_cons (ps_if (pt_cmpR op_ge (pv 3) (pe_op op_pow pe_int pe_int) (nomark _)) (pss_cons (ps_asg (pe_op op_fdivN (pv 3) (pv 1)) (pg_sub (pv 0) pe_int set_list)) (pss_one (ps_ret (pe_op op_modN (pe_callTy call_int1 rfl T.g_int (by decide +kernel) (pa_cons (pv 3) pa_nil)) (pv 1))))) pss_nil)
      (pss_one (ps_asg (pe_op op_modN (pe_callTy call_int1 rfl T.g_int (by decide +kernel) (pa_cons (pe_op op_add (pe_op op_add (pe_op op_mul (pe_ix ix_list (pv 0) pe_int (fun _ _ => rfl)) pe_int) (pv 3)) pe_int) pa_nil)) pe_int) (pg_sub (pv 0) pe_int set_list))))))
      (pss_one (ps_asg (pe_op op_modN (pe_callTy call_int1 rfl T.g_int (by decide +kernel) (pa_cons (pe_op op_add (pe_op op_mul (pe_ix ix_list (pv 0) pe_int (fun _ _ => rfl)) pe_int) pe_int) pa_nil)) pe_int) (pg_sub (pv 0) pe_int set_list))))
    (pss_one (ps_ret (pe_op op_modN (pe_op op_fdivN (pe_callTy call_int1 rfl T.g_int (by decide +kernel) (pa_cons (pe_op op_modN (pe_op op_mul (pe_ix ix_list (pv 0) pe_int (fun _ _ => rfl)) pe_int) pe_int) pa_nil)) pe_int) (pv 1))))),
    hm, Fu.kp, Fu.binds fun _ _ _ _ _ _ us hl => match us, hl with | [_, _], _ => rfl⟩
theorem sc_steps_of : FnScope ["made", "down", "size", "found", "held", "one", "most", "lost", "level", "brought"] ["made", "down", "size"] (defScope s_steps_of) := ⟨rfl, rfl, rfl, by decide +kernel, rfl, by decide +kernel, by decide +kernel⟩
theorem ok_steps_of (T : Tx K mg)  {f : Addr} {fd : FuncData} (Fu : Fun K "steps_of" "steps_of" s_steps_of f fd) (hm : mg "steps_of" = some (.ref f)) : Has P w K mg base 1 "steps_of" ["made", "down", "size"] m_steps_of :=
  ⟨f, fd, fn_ok (k := 0) (O := [3]) Fu sc_steps_of (by decide) (by decide) (by decide) (fun cdv A outer s H E hr => (ss_cons (ss_setO 3 sc_steps_of.nd (sf_lst sa_nil))
    (ss_cons (ss_set 4 sc_steps_of.nd se_int)
    (ss_cons (ss_for PassesOwn.never rfl (si_zip T.g_zip rfl (sa_cons (se_var 0) (sa_cons (se_var 1) sa_nil))) (sg_tup rfl (sgs_cons (sg_name 5 sc_steps_of.nd) (sgs_cons (sg_name 6 sc_steps_of.nd) sgs_nil))) (ss_cons (ss_set 7 sc_steps_of.nd (se_max2 rfl T.g_max rfl (sa_consA se_int (sa_consA (se_sub (se_add (se_var 4) (se_var 5)) (se_var 2)) sa_nil))))
      (ss_cons (ss_set 8 sc_steps_of.nd (se_sub (se_add (se_var 4) (se_var 5)) (se_var 7)))
      (ss_cons (ss_set 9 sc_steps_of.nd (se_min2 rfl T.g_min rfl (sa_consA (se_var 8) (sa_consA (se_var 6) sa_nil))))
      (ss_cons (ss_app 3 (se_tup (sa_cons (se_var 8) (sa_cons (se_var 7) (sa_cons (se_var 9) sa_nil)))))
      (ss_one (ss_set 4 sc_steps_of.nd (se_sub (se_var 8) (se_var 9)))))))))
    (ss_one (ss_retZ 3)))))), hm, Fu.kp, Fu.binds fun _ _ _ _ _ _ us hl => match us, hl with | [_, _, _], _ => rfl⟩
theorem sc_kept_levels : FnScope ["made", "down", "size", "steps", "level", "_", "lost"] ["made", "down", "size"] (defScope s_kept_levels) := ⟨rfl, rfl, rfl, by decide +kernel, rfl, by decide +kernel, by decide +kernel⟩
theorem ok_kept_levels (T : Tx K mg) (h_steps_of : Has P w K mg base 1 "steps_of" ["made", "down", "size"] m_steps_of) {f : Addr} {fd : FuncData} (Fu : Fun K "kept_levels" "kept_levels" s_kept_levels f fd) (hm : mg "kept_levels" = some (.ref f)) : Has P w K mg base 2 "kept_levels" ["made", "down", "size"] m_kept_levels :=
  ⟨f, fd, fn_ok (k := 1) (O := []) Fu sc_kept_levels (by decide) (by decide) (by decide) (fun cdv A outer s H E hr => (ss_cons (ss_set 3 sc_kept_levels.nd (se_has h_steps_of (hr.mono (by first | decide | omega)) rfl (sa_cons (se_var 0) (sa_cons (se_var 1) (sa_cons (se_var 2) sa_nil)))))
    (ss_one (ss_ret (se_tup (sa_cons (se_tuple T.g_tuple rfl (sa_consA (se_lc rfl sc_kept_levels.nd (si_seq (se_var 3)) (blkOk_by (own := [("level", 4), ("_", 5), ("_", 5)]) (N := ["made", "down", "size", "steps", "level", "_", "lost"]) (sc := (defScope s_kept_levels)) (by decide +kernel)) (by decide) (fun _ _ _ _ _ => (sg_tup rfl (sgs_cons (sg_name 4 sc_kept_levels.nd) (sgs_cons (sg_name 5 sc_kept_levels.nd) (sgs_cons (sg_name 5 sc_kept_levels.nd) sgs_nil))))) (fun _ _ _ _ _ => sts_nil) (fun _ _ _ _ _ => (se_var 4))) sa_nil)) (sa_cons (se_tuple T.g_tuple rfl (sa_consA (se_lc rfl sc_kept_levels.nd (si_seq (se_var 3)) (blkOk_by (own := [("_", 5), ("lost", 6), ("_", 5)]) (N := ["made", "down", "size", "steps", "level", "_", "lost"]) (sc := (defScope s_kept_levels)) (by decide +kernel)) (by decide) (fun _ _ _ _ _ => (sg_tup rfl (sgs_cons (sg_name 5 sc_kept_levels.nd) (sgs_cons (sg_name 6 sc_kept_levels.nd) (sgs_cons (sg_name 5 sc_kept_levels.nd) sgs_nil))))) (fun _ _ _ _ _ => sts_nil) (fun _ _ _ _ _ => (se_var 6))) sa_nil)) sa_nil))))))), hm, Fu.kp, Fu.binds fun _ _ _ _ _ _ us hl => match us, hl with | [_, _, _], _ => rfl⟩
theorem sc_brought : FnScope ["made", "down", "size", "_", "units"] ["made", "down", "size"] (defScope s_brought) := ⟨rfl, rfl, rfl, by decide +kernel, rfl, by decide +kernel, by decide +kernel⟩
theorem ok_brought (T : Tx K mg) (h_steps_of : Has P w K mg base 1 "steps_of" ["made", "down", "size"] m_steps_of) {f : Addr} {fd : FuncData} (Fu : Fun K "brought" "brought" s_brought f fd) (hm : mg "brought" = some (.ref f)) : Has P w K mg base 2 "brought" ["made", "down", "size"] m_brought :=
  ⟨f, fd, fn_ok (k := 1) (O := []) Fu sc_brought (by decide) (by decide) (by decide) (fun cdv A outer s H E hr => (ss_one (ss_ret (se_tuple T.g_tuple rfl (sa_consA (se_lc rfl sc_brought.nd (si_seq (se_has h_steps_of (hr.mono (by first | decide | omega)) rfl (sa_cons (se_var 0) (sa_cons (se_var 1) (sa_cons (se_var 2) sa_nil))))) (blkOk_by (own := [("_", 3), ("_", 3), ("units", 4)]) (N := ["made", "down", "size", "_", "units"]) (sc := (defScope s_brought)) (by decide +kernel)) (by decide) (fun _ _ _ _ _ => (sg_tup rfl (sgs_cons (sg_name 3 sc_brought.nd) (sgs_cons (sg_name 3 sc_brought.nd) (sgs_cons (sg_name 4 sc_brought.nd) sgs_nil))))) (fun _ _ _ _ _ => sts_nil) (fun _ _ _ _ _ => (se_var 4))) sa_nil))))), hm, Fu.kp, Fu.binds fun _ _ _ _ _ _ us hl => match us, hl with | [_, _, _], _ => rfl⟩
theorem sc_need : FnScope ["made", "down", "level", "_"] ["made", "down"] (defScope s_need) := ⟨rfl, rfl, rfl, by decide +kernel, rfl, by decide +kernel, by decide +kernel⟩
theorem ok_need (T : Tx K mg) (h_steps_of : Has P w K mg base 1 "steps_of" ["made", "down", "size"] m_steps_of) {f : Addr} {fd : FuncData} (Fu : Fun K "need" "need" s_need f fd) (hm : mg "need" = some (.ref f)) : Has P w K mg base 2 "need" ["made", "down"] m_need :=
  ⟨f, fd, fn_ok (k := 1) (O := []) Fu sc_need (by decide) (by decide) (by decide) (fun cdv A outer s H E hr => (ss_one (ss_ret (se_max1 rfl T.g_max rfl (sa_consA (se_cat (se_lst (sa_cons se_int sa_nil)) (se_lc rfl sc_need.nd (si_seq (se_has h_steps_of (hr.mono (by first | decide | omega)) rfl (sa_cons (se_var 0) (sa_cons (se_var 1) (sa_cons (se_sum rfl T.g_sum rfl (sa_consA (se_var 0) sa_nil)) sa_nil))))) (blkOk_by (own := [("level", 2), ("_", 3), ("_", 3)]) (N := ["made", "down", "level", "_"]) (sc := (defScope s_need)) (by decide +kernel)) (by decide) (fun _ _ _ _ _ => (sg_tup rfl (sgs_cons (sg_name 2 sc_need.nd) (sgs_cons (sg_name 3 sc_need.nd) (sgs_cons (sg_name 3 sc_need.nd) sgs_nil))))) (fun _ _ _ _ _ => sts_nil) (fun _ _ _ _ _ => (se_var 2)))) sa_nil))))), hm, Fu.kp, Fu.binds fun _ _ _ _ _ _ us hl => match us, hl with | [_, _], _ => rfl⟩
theorem sc_span_for : FnScope ["made", "down", "size", "first", "held", "last"] ["made", "down", "size"] (defScope s_span_for) := ⟨rfl, rfl, rfl, by decide +kernel, rfl, by decide +kernel, by decide +kernel⟩
theorem ok_span_for (T : Tx K mg)  {f : Addr} {fd : FuncData} (Fu : Fun K "span_for" "span_for" s_span_for f fd) (hm : mg "span_for" = some (.ref f)) : Has P w K mg base 1 "span_for" ["made", "down", "size"] m_span_for :=
  ⟨f, fd, fn_ok (k := 0) (O := []) Fu sc_span_for (by decide) (by decide) (by decide) (fun cdv A outer s H E hr => (ss_cons (ss_for PassesOwn.never rfl (si_range1 T.g_range rfl (sa_consA (se_len T.g_len rfl (sa_consA (se_var 0) sa_nil)) sa_nil)) (sg_name 3 sc_span_for.nd) (ss_cons (ss_set 4 sc_span_for.nd se_int)
      (ss_one (ss_for PassesOwn.never rfl (si_range2 T.g_range rfl (sa_consA (se_var 3) (sa_consA (se_len T.g_len rfl (sa_consA (se_var 0) sa_nil)) sa_nil))) (sg_name 5 sc_span_for.nd) (ss_cons (ss_set 4 sc_span_for.nd (se_add (se_var 4) (se_ix (se_var 0) (se_var 5))))
        (ss_cons (ss_if (st_gt (se_var 4) (se_var 2)) (ss_one (ss_ret (se_tup (sa_cons (se_var 3) (sa_cons (se_var 5) sa_nil))))) ss_nil)
        (ss_one (ss_set 4 sc_span_for.nd (se_sub (se_var 4) (se_ix (se_var 1) (se_var 5)))))))))))
    (ss_one (ss_ret se_non)))), hm, Fu.kp, Fu.binds fun _ _ _ _ _ _ us hl => match us, hl with | [_, _, _], _ => rfl⟩
theorem sc_need_for_ever : FnScope ["made", "down"] ["made", "down"] (defScope s_need_for_ever) := ⟨rfl, rfl, rfl, by decide +kernel, rfl, by decide +kernel, by decide +kernel⟩
theorem ok_need_for_ever (T : Tx K mg) (h_need : Has P w K mg base 2 "need" ["made", "down"] m_need) {f : Addr} {fd : FuncData} (Fu : Fun K "need_for_ever" "need_for_ever" s_need_for_ever f fd) (hm : mg "need_for_ever" = some (.ref f)) : Has P w K mg base 3 "need_for_ever" ["made", "down"] m_need_for_ever :=
  ⟨f, fd, fn_ok (k := 2) (O := []) Fu sc_need_for_ever (by decide) (by decide) (by decide) (fun cdv A outer s H E hr => (ss_cons (ss_if (st_gt (se_sum rfl T.g_sum rfl (sa_consA (se_var 0) sa_nil)) (se_sum rfl T.g_sum rfl (sa_consA (se_var 1) sa_nil))) (ss_one (ss_ret se_non)) ss_nil)
    (ss_one (ss_ret (se_has h_need (hr.mono (by first | decide | omega)) rfl (sa_cons (se_add (se_var 0) (se_var 0)) (sa_cons (se_add (se_var 1) (se_var 1)) sa_nil))))))), hm, Fu.kp, Fu.binds fun _ _ _ _ _ _ us hl => match us, hl with | [_, _], _ => rfl⟩
theorem sc_taken_out : FnScope ["held", "many", "kind", "units", "less"] ["held", "many"] (defScope s_taken_out) := ⟨rfl, rfl, rfl, by decide +kernel, rfl, by decide +kernel, by decide +kernel⟩
theorem ok_taken_out (T : Tx K mg)  {f : Addr} {fd : FuncData} (Fu : Fun K "taken_out" "taken_out" s_taken_out f fd) (hm : mg "taken_out" = some (.ref f)) : HasM P w K mg base 1 "taken_out" ["held", "many"] [true, false] m_taken_out :=
  ⟨f, fd, fn_okM (cf := [true, false]) (k := 0) (O := [0, 2000]) Fu sc_taken_out rfl (by decide) (by decide) (by decide) (by decide) (by decide) (fun cdv A outer s H E hr => (ss_one (ss_for PassesOwn.never rfl (si_enum T.g_enumerate rfl (sa_cons (se_list T.g_list rfl (sa_consA (se_own 0) sa_nil)) sa_nil)) (sg_tup rfl (sgs_cons (sg_name 2 sc_taken_out.nd) (sgs_cons (sg_name 3 sc_taken_out.nd) sgs_nil))) (ss_cons (ss_set 4 sc_taken_out.nd (se_min2 rfl T.g_min rfl (sa_consA (se_var 3) (sa_consA (se_var 1) sa_nil))))
      (ss_cons (ss_setIx 0 (se_sub (se_var 3) (se_var 4)) (se_var 2))
      (ss_one (ss_set 1 sc_taken_out.nd (se_sub (se_var 1) (se_var 4))))))))), hm, Fu.kp, Fu.binds fun _ _ _ _ _ _ us hl => match us, hl with | [_, _], _ => rfl⟩
theorem sc_least_dear : FnScope ["held", "kind", "units"] ["held"] (defScope s_least_dear) := ⟨rfl, rfl, rfl, by decide +kernel, rfl, by decide +kernel, by decide +kernel⟩
theorem ok_least_dear (T : Tx K mg)  {f : Addr} {fd : FuncData} (Fu : Fun K "least_dear" "least_dear" s_least_dear f fd) (hm : mg "least_dear" = some (.ref f)) : HasR P w K mg base 1 "least_dear" ["held"] [true] m_least_dear :=
  ⟨f, fd, fn_okR (fl := [true]) (k := 0) (O := [1000]) Fu sc_least_dear (by decide) (by decide) (by decide) (by decide) (fun cdv A outer s H E hr => (ss_one (ss_ret (se_max1 rfl T.g_max rfl (sa_consA (se_lc rfl sc_least_dear.nd (si_enumA T.g_enumerate rfl (sa_consA (se_own 0) sa_nil)) (blkOk_by (own := [("kind", 1), ("units", 2)]) (N := ["held", "kind", "units"]) (sc := (defScope s_least_dear)) (by decide +kernel)) (by decide) (fun _ _ _ _ _ => (sg_tup rfl (sgs_cons (sg_name 1 sc_least_dear.nd) (sgs_cons (sg_name 2 sc_least_dear.nd) sgs_nil)))) (fun _ _ _ _ _ => (sts_one (st_gt (se_var 2) se_int))) (fun _ _ _ _ _ => (se_var 1))) sa_nil))))), hm, Fu.kp, Fu.binds fun _ _ _ _ _ _ us hl => match us, hl with | [_], _ => rfl⟩
theorem sc_classes_lost : FnScope ["rows", "down", "size", "held", "lost", "time", "most", "kind", "row", "less"] ["rows", "down", "size"] (defScope s_classes_lost) := ⟨rfl, rfl, rfl, by decide +kernel, rfl, by decide +kernel, by decide +kernel⟩
theorem ok_classes_lost (T : Tx K mg) (h_taken_out : HasM P w K mg base 1 "taken_out" ["held", "many"] [true, false] m_taken_out) (h_least_dear : HasR P w K mg base 1 "least_dear" ["held"] [true] m_least_dear) {f : Addr} {fd : FuncData} (Fu : Fun K "classes_lost" "classes_lost" s_classes_lost f fd) (hm : mg "classes_lost" = some (.ref f)) : Has P w K mg base 2 "classes_lost" ["rows", "down", "size"] m_classes_lost :=
  ⟨f, fd, fn_ok (k := 1) (O := [3, 4]) Fu sc_classes_lost (by decide) (by decide) (by decide) (fun cdv A outer s H E hr => (ss_cons (ss_setO 3 sc_classes_lost.nd (sf_repL (se_lst (sa_cons se_int sa_nil)) (se_len T.g_len rfl (sa_consA (se_var 0) sa_nil))))
    (ss_cons (ss_setO 4 sc_classes_lost.nd (sf_repL (se_lst (sa_cons se_int sa_nil)) (se_len T.g_len rfl (sa_consA (se_var 0) sa_nil))))
    (ss_cons (ss_for PassesOwn.never rfl (si_enum T.g_enumerate rfl (sa_cons (se_var 1) sa_nil)) (sg_tup rfl (sgs_cons (sg_name 5 sc_classes_lost.nd) (sgs_cons (sg_name 6 sc_classes_lost.nd) sgs_nil))) (ss_cons (ss_for PassesOwn.never rfl (si_enum T.g_enumerate rfl (sa_cons (se_var 0) sa_nil)) (sg_tup rfl (sgs_cons (sg_name 7 sc_classes_lost.nd) (sgs_cons (sg_name 8 sc_classes_lost.nd) sgs_nil))) (ss_one (ss_setIx 3 (se_add (se_ix (se_own 3) (se_var 7)) (se_ix (se_var 8) (se_var 5))) (se_var 7))))
      (ss_cons (ss_while 100000 PassesOwn.never (st_gt (se_sum rfl T.g_sum rfl (sa_consA (se_own 3) sa_nil)) (se_var 2)) (ss_cons (ss_set 7 sc_classes_lost.nd (se_hasR h_least_dear (hr.mono (by first | decide | omega)) rfl (saf_cons (se_own 3) saf_nil)))
        (ss_cons (ss_set 9 sc_classes_lost.nd (se_min2 rfl T.g_min rfl (sa_consA (se_ix (se_own 3) (se_var 7)) (sa_consA (se_sub (se_sum rfl T.g_sum rfl (sa_consA (se_own 3) sa_nil)) (se_var 2)) sa_nil))))
        (ss_cons (ss_setIx 3 (se_sub (se_ix (se_own 3) (se_var 7)) (se_var 9)) (se_var 7))
        (ss_one (ss_setIx 4 (se_add (se_ix (se_own 4) (se_var 7)) (se_var 9)) (se_var 7)))))))
      (ss_one (ss_exprM (se_hasM h_taken_out (hr.mono (by first | decide | omega)) rfl (sam_own 3 (sam_val (se_var 6) sam_nil))))))))
    (ss_one (ss_ret (se_tuple T.g_tuple rfl (sa_consA (se_own 4) sa_nil)))))))), hm, Fu.kp, Fu.binds fun _ _ _ _ _ _ us hl => match us, hl with | [_, _, _], _ => rfl⟩
theorem sc_joined : FnScope ["numbers", "found", "number"] ["numbers"] (defScope s_joined) := ⟨rfl, rfl, rfl, by decide +kernel, rfl, by decide +kernel, by decide +kernel⟩
theorem ok_joined (T : Tx K mg)  {f : Addr} {fd : FuncData} (Fu : Fun K "joined" "joined" s_joined f fd) (hm : mg "joined" = some (.ref f)) : Has P w K mg base 1 "joined" ["numbers"] m_joined :=
  ⟨f, fd, fn_ok (k := 0) (O := [1]) Fu sc_joined (by decide) (by decide) (by decide) (fun cdv A outer s H E hr => (ss_cons (ss_setO 1 sc_joined.nd (sf_lst sa_nil))
    (ss_cons (ss_for PassesOwn.never rfl (si_seq (se_var 0)) (sg_name 2 sc_joined.nd) (ss_one (ss_if (st_w (sw_and (st_truth (se_own 1)) (sw_and1 (st_eq hr.units (se_ix (se_ix (se_own 1) (se_neg se_int)) se_int) (se_sub (se_var 2) se_int))))) (ss_one (ss_setIx 1 (se_tup (sa_cons (se_ix (se_ix (se_own 1) (se_neg se_int)) se_int) (sa_cons (se_var 2) sa_nil))) (se_neg se_int))) (ss_one (ss_app 1 (se_tup (sa_cons (se_var 2) (sa_cons (se_var 2) sa_nil))))))))
    (ss_one (ss_retZ 1))))), hm, Fu.kp, Fu.binds fun _ _ _ _ _ _ us hl => match us, hl with | [_], _ => rfl⟩
theorem sc_winding : FnScope ["made", "down", "size", "held", "kept", "come", "one", "most", "_"] ["made", "down", "size"] (defScope s_winding) := ⟨rfl, rfl, rfl, by decide +kernel, rfl, by decide +kernel, by decide +kernel⟩
theorem ok_winding (T : Tx K mg) (h_joined : Has P w K mg base 1 "joined" ["numbers"] m_joined) {f : Addr} {fd : FuncData} (Fu : Fun K "winding" "winding" s_winding f fd) (hm : mg "winding" = some (.ref f)) : Has P w K mg base 2 "winding" ["made", "down", "size"] m_winding :=
  ⟨f, fd, fn_ok (k := 1) (O := [3, 4]) Fu sc_winding (by decide) (by decide) (by decide) (fun cdv A outer s H E hr => (ss_cons (ss_setO 3 sc_winding.nd (sf_lst sa_nil))
    (ss_cons (ss_setO 4 sc_winding.nd (sf_lst sa_nil))
    (ss_cons (ss_set 5 sc_winding.nd se_int)
    (ss_cons (ss_for PassesOwn.never rfl (si_zip T.g_zip rfl (sa_cons (se_var 0) (sa_cons (se_var 1) sa_nil))) (sg_tup rfl (sgs_cons (sg_name 6 sc_winding.nd) (sgs_cons (sg_name 7 sc_winding.nd) sgs_nil))) (ss_cons (ss_ext 3 (se_new (sf_listRg rfl T.g_list rfl (sr_2 T.g_range rfl (se_var 5) (se_add (se_var 5) (se_var 6))))))
      (ss_cons (ss_set 5 sc_winding.nd (se_add (se_var 5) (se_var 6)))
      (ss_cons (ss_setO 3 sc_winding.nd (sf_slice (se_own 3) (so_some (se_max2 rfl T.g_max rfl (sa_consA se_int (sa_consA (se_sub (se_len T.g_len rfl (sa_consA (se_own 3) sa_nil)) (se_var 2)) sa_nil)))) so_none))
      (ss_one (ss_for PassesOwn.never rfl (si_range1 T.g_range rfl (sa_consA (se_min2 rfl T.g_min rfl (sa_consA (se_var 7) (sa_consA (se_len T.g_len rfl (sa_consA (se_own 3) sa_nil)) sa_nil))) sa_nil)) (sg_name 8 sc_winding.nd) (ss_one (ss_appPop 4 3))))))))
    (ss_one (ss_ret (se_has h_joined (hr.mono (by first | decide | omega)) rfl (sa_cons (se_sorted rfl T.g_sorted rfl (sa_consA (se_own 4) sa_nil)) sa_nil))))))))), hm, Fu.kp, Fu.binds fun _ _ _ _ _ _ us hl => match us, hl with | [_, _, _], _ => rfl⟩
theorem sc_law : FnScope ["script", "draw", "many", "rows", "made", "down", "size", "levels", "lost", "home", "k", "dear", "least", "told", "twice", "ever", "row", "level", "first", "last", "j"] ["script"] (defScope s_law) := ⟨rfl, rfl, rfl, by decide +kernel, rfl, by decide +kernel, by decide +kernel⟩
theorem ok_law (T : Tx K mg) {fD : Addr} {fdD : FuncData} (FD : FnOk P w K mg base CX0 1 fD fdD ["script"] (spDraw K)) (gD : mg "_law_draw" = some (.ref fD)) (kD : PySem.W.keepIn K (.ref fD) = true) (bD : Binds K fdD ["script"] []) (h_kept_levels : Has P w K mg base 2 "kept_levels" ["made", "down", "size"] m_kept_levels) (h_brought : Has P w K mg base 2 "brought" ["made", "down", "size"] m_brought) (h_need : Has P w K mg base 2 "need" ["made", "down"] m_need) (h_span_for : Has P w K mg base 1 "span_for" ["made", "down", "size"] m_span_for) (h_need_for_ever : Has P w K mg base 3 "need_for_ever" ["made", "down"] m_need_for_ever) (h__law_next : Has P w K mg base 1 "_law_next" ["draw", "many"] nextF) (h_classes_lost : Has P w K mg base 2 "classes_lost" ["rows", "down", "size"] m_classes_lost) (h_winding : Has P w K mg base 2 "winding" ["made", "down", "size"] m_winding)
    (hF : ∀ ns : List Int, ns.length ≤ 63 → ∃ δ' w', F_law (none :: some .drw :: List.replicate 19 none) ⟨ns, 0, 0, 17⟩ = some ((.rt (.bl true), δ'), w')) {f : Addr} {fd : FuncData} (Fu : Fun K "law" "law" s_law f fd) : FnOk P w K mg base CX0 4 f fd ["script"] (spLaw K) :=
  law_ok (O := []) Fu sc_law rfl (by decide) (by decide) (by decide) (fun cdv A outer s H E hr => ps_set (i := 1) sc_law.nd rfl (by first | exact Or.inl rfl | exact Or.inr rfl) (pe_call FD (hr.mono (by decide)) rfl gD kD bD .nil pass0 (pa_cons (pv 0) pa_nil)))
    (fun cdv A outer s H E hr => (ss_cons (ss_set 2 sc_law.nd (se_add se_int (se_has h__law_next (hr.mono (by first | decide | omega)) rfl (sa_cons (se_var 1) (sa_cons se_int sa_nil)))))
    (ss_cons (ss_set 3 sc_law.nd (se_tuple T.g_tuple rfl (sa_consA (se_lc rfl sc_law.nd (si_range1 T.g_range rfl (sa_consA (se_add se_int (se_has h__law_next (hr.mono (by first | decide | omega)) rfl (sa_cons (se_var 1) (sa_cons se_int sa_nil)))) sa_nil)) (blkOk_by (own := [("row", 16)]) (N := ["script", "draw", "many", "rows", "made", "down", "size", "levels", "lost", "home", "k", "dear", "least", "told", "twice", "ever", "row", "level", "first", "last", "j"]) (sc := (defScope s_law)) (by decide +kernel)) (by decide) (fun _ _ _ _ _ => (sg_name 16 sc_law.nd)) (fun _ _ _ _ _ => sts_nil) (fun _ _ _ _ _ => (se_tuple T.g_tuple rfl (sa_consA (se_lc rfl sc_law.nd (si_range1 T.g_range rfl (sa_consA (se_var 2) sa_nil)) (blkOk_by (own := [("k", 10)]) (N := ["script", "draw", "many", "rows", "made", "down", "size", "levels", "lost", "home", "k", "dear", "least", "told", "twice", "ever", "row", "level", "first", "last", "j"]) (sc := (relS _ (defScope s_law))) (by decide +kernel)) (by decide) (fun _ _ _ _ _ => (sg_name 10 sc_law.nd)) (fun _ _ _ _ _ => sts_nil) (fun _ _ _ _ _ => (se_has h__law_next (hr.mono (by first | decide | omega)) rfl (sa_cons (se_var 1) (sa_cons se_int sa_nil))))) sa_nil)))) sa_nil)))
    (ss_cons (ss_asg (se_tup (sa_cons (se_tuple T.g_tuple rfl (sa_consA (se_lc rfl sc_law.nd (si_range1 T.g_range rfl (sa_consA (se_var 2) sa_nil)) (blkOk_by (own := [("k", 10)]) (N := ["script", "draw", "many", "rows", "made", "down", "size", "levels", "lost", "home", "k", "dear", "least", "told", "twice", "ever", "row", "level", "first", "last", "j"]) (sc := (defScope s_law)) (by decide +kernel)) (by decide) (fun _ _ _ _ _ => (sg_name 10 sc_law.nd)) (fun _ _ _ _ _ => sts_nil) (fun _ _ _ _ _ => (se_sum rfl T.g_sum rfl (sa_consA (se_lc rfl sc_law.nd (si_seq (se_var 3)) (blkOk_by (own := [("row", 16)]) (N := ["script", "draw", "many", "rows", "made", "down", "size", "levels", "lost", "home", "k", "dear", "least", "told", "twice", "ever", "row", "level", "first", "last", "j"]) (sc := (relS _ (defScope s_law))) (by decide +kernel)) (by decide) (fun _ _ _ _ _ => (sg_name 16 sc_law.nd)) (fun _ _ _ _ _ => sts_nil) (fun _ _ _ _ _ => (se_ix (se_var 16) (se_var 10)))) sa_nil)))) sa_nil)) (sa_cons (se_tuple T.g_tuple rfl (sa_consA (se_lc rfl sc_law.nd (si_range1 T.g_range rfl (sa_consA (se_var 2) sa_nil)) (blkOk_by (own := [("k", 10)]) (N := ["script", "draw", "many", "rows", "made", "down", "size", "levels", "lost", "home", "k", "dear", "least", "told", "twice", "ever", "row", "level", "first", "last", "j"]) (sc := (defScope s_law)) (by decide +kernel)) (by decide) (fun _ _ _ _ _ => (sg_name 10 sc_law.nd)) (fun _ _ _ _ _ => sts_nil) (fun _ _ _ _ _ => (se_has h__law_next (hr.mono (by first | decide | omega)) rfl (sa_cons (se_var 1) (sa_cons se_int sa_nil))))) sa_nil)) (sa_cons (se_has h__law_next (hr.mono (by first | decide | omega)) rfl (sa_cons (se_var 1) (sa_cons se_int sa_nil))) sa_nil)))) (sg_tup rfl (sgs_cons (sg_name 4 sc_law.nd) (sgs_cons (sg_name 5 sc_law.nd) (sgs_cons (sg_name 6 sc_law.nd) sgs_nil)))))
    (ss_cons (ss_asg (se_has h_kept_levels (hr.mono (by first | decide | omega)) rfl (sa_cons (se_var 4) (sa_cons (se_var 5) (sa_cons (se_var 6) sa_nil)))) (sg_tup rfl (sgs_cons (sg_name 7 sc_law.nd) (sgs_cons (sg_name 8 sc_law.nd) sgs_nil))))
    (ss_cons (ss_set 9 sc_law.nd (se_has h_brought (hr.mono (by first | decide | omega)) rfl (sa_cons (se_var 4) (sa_cons (se_var 5) (sa_cons (se_var 6) sa_nil)))))
    (ss_cons (ss_if (st_w (sw_or (st_ne hr.units (se_sum rfl T.g_sum rfl (sa_consA (se_var 4) sa_nil)) (se_sub (se_add (se_add (se_sum rfl T.g_sum rfl (sa_consA (se_var 8) sa_nil)) (se_sum rfl T.g_sum rfl (sa_consA (se_var 9) sa_nil))) (se_ix (se_var 7) (se_neg se_int))) (se_ix (se_var 9) (se_neg se_int)))) (sw_or1 (st_truth (se_any rfl T.g_any rfl (sa_consA (se_lc rfl sc_law.nd (si_seq (se_var 7)) (blkOk_by (own := [("level", 17)]) (N := ["script", "draw", "many", "rows", "made", "down", "size", "levels", "lost", "home", "k", "dear", "least", "told", "twice", "ever", "row", "level", "first", "last", "j"]) (sc := (defScope s_law)) (by decide +kernel)) (by decide) (fun _ _ _ _ _ => (sg_name 17 sc_law.nd)) (fun _ _ _ _ _ => sts_nil) (fun _ _ _ _ _ => (se_notT (se_chain op_le op_le os_le os_le se_int (se_var 17) (se_var 6))))) sa_nil)))))) (ss_one (ss_ret se_bl)) ss_nil)
    (ss_cons (ss_if (st_w (sw_or (st_ne hr.units (se_sum rfl T.g_sum rfl (sa_consA (se_has h_classes_lost (hr.mono (by first | decide | omega)) rfl (sa_cons (se_var 3) (sa_cons (se_var 5) (sa_cons (se_var 6) sa_nil)))) sa_nil)) (se_sum rfl T.g_sum rfl (sa_consA (se_var 8) sa_nil))) (sw_or1 (st_ne hr.units (se_sum rfl T.g_sum rfl (sa_consA (se_lc rfl sc_law.nd (si_seq (se_has h_winding (hr.mono (by first | decide | omega)) rfl (sa_cons (se_var 4) (sa_cons (se_var 5) (sa_cons (se_var 6) sa_nil))))) (blkOk_by (own := [("first", 18), ("last", 19)]) (N := ["script", "draw", "many", "rows", "made", "down", "size", "levels", "lost", "home", "k", "dear", "least", "told", "twice", "ever", "row", "level", "first", "last", "j"]) (sc := (defScope s_law)) (by decide +kernel)) (by decide) (fun _ _ _ _ _ => (sg_tup rfl (sgs_cons (sg_name 18 sc_law.nd) (sgs_cons (sg_name 19 sc_law.nd) sgs_nil)))) (fun _ _ _ _ _ => sts_nil) (fun _ _ _ _ _ => (se_add (se_sub (se_var 19) (se_var 18)) se_int))) sa_nil)) (se_sum rfl T.g_sum rfl (sa_consA (se_var 9) sa_nil)))))) (ss_one (ss_ret se_bl)) ss_nil)
    (ss_cons (ss_for PassesOwn.never rfl (si_range2 T.g_range rfl (sa_consA se_int (sa_consA (se_add (se_len T.g_len rfl (sa_consA (se_var 3) sa_nil)) se_int) sa_nil))) (sg_name 10 sc_law.nd) (ss_cons (ss_set 11 sc_law.nd (se_tuple T.g_tuple rfl (sa_consA (se_lc rfl sc_law.nd (si_range1 T.g_range rfl (sa_consA (se_var 2) sa_nil)) (blkOk_by (own := [("j", 20)]) (N := ["script", "draw", "many", "rows", "made", "down", "size", "levels", "lost", "home", "k", "dear", "least", "told", "twice", "ever", "row", "level", "first", "last", "j"]) (sc := (defScope s_law)) (by decide +kernel)) (by decide) (fun _ _ _ _ _ => (sg_name 20 sc_law.nd)) (fun _ _ _ _ _ => sts_nil) (fun _ _ _ _ _ => (se_sum rfl T.g_sum rfl (sa_consA (se_lc rfl sc_law.nd (si_seq (se_slice (se_var 3) so_none (so_some (se_var 10)))) (blkOk_by (own := [("row", 16)]) (N := ["script", "draw", "many", "rows", "made", "down", "size", "levels", "lost", "home", "k", "dear", "least", "told", "twice", "ever", "row", "level", "first", "last", "j"]) (sc := (relS _ (defScope s_law))) (by decide +kernel)) (by decide) (fun _ _ _ _ _ => (sg_name 16 sc_law.nd)) (fun _ _ _ _ _ => sts_nil) (fun _ _ _ _ _ => (se_ix (se_var 16) (se_var 20)))) sa_nil)))) sa_nil)))
      (ss_one (ss_if (st_ne hr.units (se_sum rfl T.g_sum rfl (sa_consA (se_slice (se_has h_classes_lost (hr.mono (by first | decide | omega)) rfl (sa_cons (se_var 3) (sa_cons (se_var 5) (sa_cons (se_var 6) sa_nil)))) so_none (so_some (se_var 10))) sa_nil)) (se_sum rfl T.g_sum rfl (sa_consA (se_ix (se_has h_kept_levels (hr.mono (by first | decide | omega)) rfl (sa_cons (se_var 11) (sa_cons (se_var 5) (sa_cons (se_var 6) sa_nil)))) se_int) sa_nil))) (ss_one (ss_ret se_bl)) ss_nil))))
    (ss_cons (ss_set 12 sc_law.nd (se_has h_need (hr.mono (by first | decide | omega)) rfl (sa_cons (se_var 4) (sa_cons (se_var 5) sa_nil))))
    (ss_cons (ss_if (st_w (sw_or (st_ne hr.units (se_sum rfl T.g_sum rfl (sa_consA (se_ix (se_has h_kept_levels (hr.mono (by first | decide | omega)) rfl (sa_cons (se_var 4) (sa_cons (se_var 5) (sa_cons (se_var 12) sa_nil)))) se_int) sa_nil)) se_int) (sw_or1 (st_w (sw_and (st_gt (se_var 12) se_int) (sw_and1 (st_eq hr.units (se_sum rfl T.g_sum rfl (sa_consA (se_ix (se_has h_kept_levels (hr.mono (by first | decide | omega)) rfl (sa_cons (se_var 4) (sa_cons (se_var 5) (sa_cons (se_sub (se_var 12) se_int) sa_nil)))) se_int) sa_nil)) se_int))))))) (ss_one (ss_ret se_bl)) ss_nil)
    (ss_cons (ss_if (st_w (sw_or (st_ne hr.units (se_is (se_has h_span_for (hr.mono (by first | decide | omega)) rfl (sa_cons (se_var 4) (sa_cons (se_var 5) (sa_cons (se_var 6) sa_nil)))) se_non) (se_ge (se_var 6) (se_var 12))) (sw_or1 (st_gt (se_sum rfl T.g_sum rfl (sa_consA (se_ix (se_has h_kept_levels (hr.mono (by first | decide | omega)) rfl (sa_cons (se_var 4) (sa_cons (se_var 5) (sa_cons (se_add (se_var 6) se_int) sa_nil)))) se_int) sa_nil)) (se_sum rfl T.g_sum rfl (sa_consA (se_var 8) sa_nil)))))) (ss_one (ss_ret se_bl)) ss_nil)
    (ss_cons (ss_set 13 sc_law.nd (se_has h_span_for (hr.mono (by first | decide | omega)) rfl (sa_cons (se_var 4) (sa_cons (se_var 5) (sa_cons (se_var 6) sa_nil)))))
    (ss_cons (ss_if (st_w (sw_and (st_isNot (se_var 13) se_non) (sw_and1 (st_le (se_sub (se_sum rfl T.g_sum rfl (sa_consA (se_slice (se_var 4) (so_some (se_ix (se_var 13) se_int)) (so_some (se_add (se_ix (se_var 13) se_int) se_int))) sa_nil)) (se_sum rfl T.g_sum rfl (sa_consA (se_slice (se_var 5) (so_some (se_ix (se_var 13) se_int)) (so_some (se_ix (se_var 13) se_int))) sa_nil))) (se_var 6))))) (ss_one (ss_ret se_bl)) ss_nil)
    (ss_cons (ss_set 14 sc_law.nd (se_has h_need (hr.mono (by first | decide | omega)) rfl (sa_cons (se_mul (se_var 4) se_int) (sa_cons (se_mul (se_var 5) se_int) sa_nil))))
    (ss_cons (ss_set 15 sc_law.nd (se_has h_need_for_ever (hr.mono (by first | decide | omega)) rfl (sa_cons (se_var 4) (sa_cons (se_var 5) sa_nil))))
    (ss_cons (ss_if (st_w (sw_or (st_ne hr.units (se_is (se_var 15) se_non) (se_gt (se_sum rfl T.g_sum rfl (sa_consA (se_var 4) sa_nil)) (se_sum rfl T.g_sum rfl (sa_consA (se_var 5) sa_nil)))) (sw_or1 (st_lt (se_var 14) (se_var 12))))) (ss_one (ss_ret se_bl)) ss_nil)
    (ss_one (ss_ret (se_or (se_is (se_var 15) se_non) (se_one (se_and (se_ge (se_var 15) (se_var 14)) (se_one (se_eq hr.units (se_var 15) (se_has h_need (hr.mono (by first | decide | omega)) rfl (sa_cons (se_mul (se_var 4) se_int) (sa_cons (se_mul (se_var 5) se_int) sa_nil))))))))))))))))))))))))))) hF
end
end K85

namespace K85
open PySem PySem.Spec PyProof.Rows L2 Fc
theorem all_mk {l : PySem.W.OpenLaw} {w : World} {K : PySem.W.Frag} {h : Heap} {mg : Str → Option Value} {fa f0 f1 f2 f3 f4 f5 f6 f7 f8 f9 f10 f11 f12 f13 : Addr} (X : K.In h) (G : h.Ns mainGlobals mg) (hfa : mg "law" = some (.ref fa))
    {od0 an0 od1 an1 od2 an2 od3 an3 od4 an4 od5 an5 od6 an6 od7 an7 od8 an8 od9 an9 od10 an10 od11 an11 od12 an12 od13 an13 : Option Addr} {sl0 sl1 sl2 sl3 sl4 sl5 sl6 sl7 sl8 sl9 sl10 sl11 sl12 sl13 : Array (Option Value)} {oc0 kV0 dc0 pm0 cd0 ct0 oc1 kV1 dc1 pm1 cd1 ct1 oc2 kV2 dc2 pm2 cd2 ct2 oc3 kV3 dc3 pm3 cd3 ct3 oc4 kV4 dc4 pm4 cd4 ct4 oc5 kV5 dc5 pm5 cd5 ct5 oc6 kV6 dc6 pm6 cd6 ct6 oc7 kV7 dc7 pm7 cd7 ct7 oc8 kV8 dc8 pm8 cd8 ct8 oc9 kV9 dc9 pm9 cd9 ct9 oc10 kV10 dc10 pm10 cd10 ct10 oc11 kV11 dc11 pm11 cd11 ct11 oc12 kV12 dc12 pm12 cd12 ct12 oc13 kV13 dc13 pm13 cd13 ct13 : Value}
    (a0 : PySem.W.nsIn K mainGlobals "_law_draw" = some (some (.ref f0))) (l0 : K.lookup f0 = some ⟨oc0, od0, .func (PySem.W.fnOf "_law_draw" "_law_draw" (defArgs s__law_draw) (defBody s__law_draw) (defScope s__law_draw) .none kV0 dc0 pm0 an0 cd0 ct0), sl0⟩) (c0 : PySem.W.codeIn K cd0 "_law_draw" = true) (k0 : PySem.W.keepIn K (.ref f0) = true)
    (a1 : PySem.W.nsIn K mainGlobals "_law_next" = some (some (.ref f1))) (l1 : K.lookup f1 = some ⟨oc1, od1, .func (PySem.W.fnOf "_law_next" "_law_next" (defArgs s__law_next) (defBody s__law_next) (defScope s__law_next) .none kV1 dc1 pm1 an1 cd1 ct1), sl1⟩) (c1 : PySem.W.codeIn K cd1 "_law_next" = true) (k1 : PySem.W.keepIn K (.ref f1) = true)
    (a2 : PySem.W.nsIn K mainGlobals "steps_of" = some (some (.ref f2))) (l2 : K.lookup f2 = some ⟨oc2, od2, .func (PySem.W.fnOf "steps_of" "steps_of" (defArgs s_steps_of) (defBody s_steps_of) (defScope s_steps_of) .none kV2 dc2 pm2 an2 cd2 ct2), sl2⟩) (c2 : PySem.W.codeIn K cd2 "steps_of" = true) (k2 : PySem.W.keepIn K (.ref f2) = true)
    (a3 : PySem.W.nsIn K mainGlobals "kept_levels" = some (some (.ref f3))) (l3 : K.lookup f3 = some ⟨oc3, od3, .func (PySem.W.fnOf "kept_levels" "kept_levels" (defArgs s_kept_levels) (defBody s_kept_levels) (defScope s_kept_levels) .none kV3 dc3 pm3 an3 cd3 ct3), sl3⟩) (c3 : PySem.W.codeIn K cd3 "kept_levels" = true) (k3 : PySem.W.keepIn K (.ref f3) = true)
    (a4 : PySem.W.nsIn K mainGlobals "brought" = some (some (.ref f4))) (l4 : K.lookup f4 = some ⟨oc4, od4, .func (PySem.W.fnOf "brought" "brought" (defArgs s_brought) (defBody s_brought) (defScope s_brought) .none kV4 dc4 pm4 an4 cd4 ct4), sl4⟩) (c4 : PySem.W.codeIn K cd4 "brought" = true) (k4 : PySem.W.keepIn K (.ref f4) = true)
    (a5 : PySem.W.nsIn K mainGlobals "need" = some (some (.ref f5))) (l5 : K.lookup f5 = some ⟨oc5, od5, .func (PySem.W.fnOf "need" "need" (defArgs s_need) (defBody s_need) (defScope s_need) .none kV5 dc5 pm5 an5 cd5 ct5), sl5⟩) (c5 : PySem.W.codeIn K cd5 "need" = true) (k5 : PySem.W.keepIn K (.ref f5) = true)
    (a6 : PySem.W.nsIn K mainGlobals "span_for" = some (some (.ref f6))) (l6 : K.lookup f6 = some ⟨oc6, od6, .func (PySem.W.fnOf "span_for" "span_for" (defArgs s_span_for) (defBody s_span_for) (defScope s_span_for) .none kV6 dc6 pm6 an6 cd6 ct6), sl6⟩) (c6 : PySem.W.codeIn K cd6 "span_for" = true) (k6 : PySem.W.keepIn K (.ref f6) = true)
    (a7 : PySem.W.nsIn K mainGlobals "need_for_ever" = some (some (.ref f7))) (l7 : K.lookup f7 = some ⟨oc7, od7, .func (PySem.W.fnOf "need_for_ever" "need_for_ever" (defArgs s_need_for_ever) (defBody s_need_for_ever) (defScope s_need_for_ever) .none kV7 dc7 pm7 an7 cd7 ct7), sl7⟩) (c7 : PySem.W.codeIn K cd7 "need_for_ever" = true) (k7 : PySem.W.keepIn K (.ref f7) = true)
    (a8 : PySem.W.nsIn K mainGlobals "taken_out" = some (some (.ref f8))) (l8 : K.lookup f8 = some ⟨oc8, od8, .func (PySem.W.fnOf "taken_out" "taken_out" (defArgs s_taken_out) (defBody s_taken_out) (defScope s_taken_out) .none kV8 dc8 pm8 an8 cd8 ct8), sl8⟩) (c8 : PySem.W.codeIn K cd8 "taken_out" = true) (k8 : PySem.W.keepIn K (.ref f8) = true)
    (a9 : PySem.W.nsIn K mainGlobals "least_dear" = some (some (.ref f9))) (l9 : K.lookup f9 = some ⟨oc9, od9, .func (PySem.W.fnOf "least_dear" "least_dear" (defArgs s_least_dear) (defBody s_least_dear) (defScope s_least_dear) .none kV9 dc9 pm9 an9 cd9 ct9), sl9⟩) (c9 : PySem.W.codeIn K cd9 "least_dear" = true) (k9 : PySem.W.keepIn K (.ref f9) = true)
    (a10 : PySem.W.nsIn K mainGlobals "classes_lost" = some (some (.ref f10))) (l10 : K.lookup f10 = some ⟨oc10, od10, .func (PySem.W.fnOf "classes_lost" "classes_lost" (defArgs s_classes_lost) (defBody s_classes_lost) (defScope s_classes_lost) .none kV10 dc10 pm10 an10 cd10 ct10), sl10⟩) (c10 : PySem.W.codeIn K cd10 "classes_lost" = true) (k10 : PySem.W.keepIn K (.ref f10) = true)
    (a11 : PySem.W.nsIn K mainGlobals "joined" = some (some (.ref f11))) (l11 : K.lookup f11 = some ⟨oc11, od11, .func (PySem.W.fnOf "joined" "joined" (defArgs s_joined) (defBody s_joined) (defScope s_joined) .none kV11 dc11 pm11 an11 cd11 ct11), sl11⟩) (c11 : PySem.W.codeIn K cd11 "joined" = true) (k11 : PySem.W.keepIn K (.ref f11) = true)
    (a12 : PySem.W.nsIn K mainGlobals "winding" = some (some (.ref f12))) (l12 : K.lookup f12 = some ⟨oc12, od12, .func (PySem.W.fnOf "winding" "winding" (defArgs s_winding) (defBody s_winding) (defScope s_winding) .none kV12 dc12 pm12 an12 cd12 ct12), sl12⟩) (c12 : PySem.W.codeIn K cd12 "winding" = true) (k12 : PySem.W.keepIn K (.ref f12) = true)
    (a13 : PySem.W.nsIn K mainGlobals "law" = some (some (.ref f13))) (l13 : K.lookup f13 = some ⟨oc13, od13, .func (PySem.W.fnOf "law" "law" (defArgs s_law) (defBody s_law) (defScope s_law) .none kV13 dc13 pm13 an13 cd13 ct13), sl13⟩) (c13 : PySem.W.codeIn K cd13 "law" = true) (k13 : PySem.W.keepIn K (.ref f13) = true)
    (z_abs : PySem.W.nsIn K mainGlobals "abs" = some none)
    (z_any : PySem.W.nsIn K mainGlobals "any" = some none)
    (z_enumerate : PySem.W.nsIn K mainGlobals "enumerate" = some none)
    (z_int : PySem.W.nsIn K mainGlobals "int" = some none)
    (z_len : PySem.W.nsIn K mainGlobals "len" = some none)
    (z_list : PySem.W.nsIn K mainGlobals "list" = some none)
    (z_max : PySem.W.nsIn K mainGlobals "max" = some none)
    (z_min : PySem.W.nsIn K mainGlobals "min" = some none)
    (z_range : PySem.W.nsIn K mainGlobals "range" = some none)
    (z_sorted : PySem.W.nsIn K mainGlobals "sorted" = some none)
    (z_sum : PySem.W.nsIn K mainGlobals "sum" = some none)
    (z_tuple : PySem.W.nsIn K mainGlobals "tuple" = some none)
    (z_zip : PySem.W.nsIn K mainGlobals "zip" = some none)
    (hF : ∀ ns : List Int, ns.length ≤ 63 → ∃ δ' w', F_law (none :: some .drw :: List.replicate 19 none) ⟨ns, 0, 0, 17⟩ = some ((.rt (.bl true), δ'), w')) :
    ∃ fd : FuncData, (∀ (s : Shared) (v : Value), BindsTo s fd ⟨[v], []⟩ [("script", v)]) ∧ ∀ base : Heap, K.In base → base.Ns mainGlobals mg → FnOk l.prog w K mg base CX0 4 fa fd ["script"] (spLaw K) := by
  have e := hfa.symm.trans (PySem.W.mg_of X G a13)
  cases e
  have T : Tx K mg := ⟨PySem.W.mg_none_of X G z_abs, PySem.W.mg_none_of X G z_any, PySem.W.mg_none_of X G z_enumerate, PySem.W.mg_none_of X G z_int, PySem.W.mg_none_of X G z_len, PySem.W.mg_none_of X G z_list, PySem.W.mg_none_of X G z_max, PySem.W.mg_none_of X G z_min, PySem.W.mg_none_of X G z_range, PySem.W.mg_none_of X G z_sorted, PySem.W.mg_none_of X G z_sum, PySem.W.mg_none_of X G z_tuple, PySem.W.mg_none_of X G z_zip⟩
  have F0 := fun_mk (st := s__law_draw) l0 c0 k0
  have F1 := fun_mk (st := s__law_next) l1 c1 k1
  have F2 := fun_mk (st := s_steps_of) l2 c2 k2
  have F3 := fun_mk (st := s_kept_levels) l3 c3 k3
  have F4 := fun_mk (st := s_brought) l4 c4 k4
  have F5 := fun_mk (st := s_need) l5 c5 k5
  have F6 := fun_mk (st := s_span_for) l6 c6 k6
  have F7 := fun_mk (st := s_need_for_ever) l7 c7 k7
  have F8 := fun_mk (st := s_taken_out) l8 c8 k8
  have F9 := fun_mk (st := s_least_dear) l9 c9 k9
  have F10 := fun_mk (st := s_classes_lost) l10 c10 k10
  have F11 := fun_mk (st := s_joined) l11 c11 k11
  have F12 := fun_mk (st := s_winding) l12 c12 k12
  have F13 := fun_mk (st := s_law) l13 c13 k13
  refine ⟨PySem.W.fnOf "law" "law" (defArgs s_law) (defBody s_law) (defScope s_law) .none kV13 dc13 pm13 an13 cd13 ct13, fun s v => .of_eq rfl, fun base _ _ => ?_⟩
  have FD := ok__law_draw (P := l.prog) (w := w) (base := base) T F0
  have h__law_next := ok__law_next (P := l.prog) (w := w) (base := base) T F1 (PySem.W.mg_of X G a1)
  have h_steps_of := ok_steps_of (P := l.prog) (w := w) (base := base) T  F2 (PySem.W.mg_of X G a2)
  have h_kept_levels := ok_kept_levels (P := l.prog) (w := w) (base := base) T h_steps_of F3 (PySem.W.mg_of X G a3)
  have h_brought := ok_brought (P := l.prog) (w := w) (base := base) T h_steps_of F4 (PySem.W.mg_of X G a4)
  have h_need := ok_need (P := l.prog) (w := w) (base := base) T h_steps_of F5 (PySem.W.mg_of X G a5)
  have h_span_for := ok_span_for (P := l.prog) (w := w) (base := base) T  F6 (PySem.W.mg_of X G a6)
  have h_need_for_ever := ok_need_for_ever (P := l.prog) (w := w) (base := base) T h_need F7 (PySem.W.mg_of X G a7)
  have h_taken_out := ok_taken_out (P := l.prog) (w := w) (base := base) T  F8 (PySem.W.mg_of X G a8)
  have h_least_dear := ok_least_dear (P := l.prog) (w := w) (base := base) T  F9 (PySem.W.mg_of X G a9)
  have h_classes_lost := ok_classes_lost (P := l.prog) (w := w) (base := base) T h_taken_out h_least_dear F10 (PySem.W.mg_of X G a10)
  have h_joined := ok_joined (P := l.prog) (w := w) (base := base) T  F11 (PySem.W.mg_of X G a11)
  have h_winding := ok_winding (P := l.prog) (w := w) (base := base) T h_joined F12 (PySem.W.mg_of X G a12)
  exact ok_law T FD (PySem.W.mg_of X G a0) F0.kp (F0.binds fun _ _ _ _ _ _ us hl => match us, hl with | [_], _ => rfl) h_kept_levels h_brought h_need h_span_for h_need_for_ever h__law_next h_classes_lost h_winding hF F13
end K85

open PySem PySem.W PyProof.Rows
set_option maxRecDepth 100000 in
set_option maxHeartbeats 0 in
theorem PySem.Challenge.cw_farcall_k85_memories_count_up_holds : PySem.Challenge.rw_farcall_k85_memories_count_up.Holds := by
  w_on; o_law; k_head; (case hw => w_witness2)
  k_fill
  refine L2.walk_of (l := PySem.Challenge.rw_farcall_k85_memories_count_up) (n := 63) (k := 4) (x := "script") (CX := fun _ => L2.CX0) (sp := fun w => Fc.spLaw _) rfl (by decide) rfl ⟨rfl, by decide, by decide⟩ (fun w h Y => PySem.W.kIn_of Y) ?F (fun _ _ a ns hl _ hS => ⟨a, ns, rfl, hS, hl, fun _ => rfl⟩) (fun _ _ _ _ _ h => h)
  case F =>
    intro w mg fa h KX G hmg
    refine' K85.all_mk KX G hmg ?a0 ?l0 ?c0 ?k0 ?a1 ?l1 ?c1 ?k1 ?a2 ?l2 ?c2 ?k2 ?a3 ?l3 ?c3 ?k3 ?a4 ?l4 ?c4 ?k4 ?a5 ?l5 ?c5 ?k5 ?a6 ?l6 ?c6 ?k6 ?a7 ?l7 ?c7 ?k7 ?a8 ?l8 ?c8 ?k8 ?a9 ?l9 ?c9 ?k9 ?a10 ?l10 ?c10 ?k10 ?a11 ?l11 ?c11 ?k11 ?a12 ?l12 ?c12 ?k12 ?a13 ?l13 ?c13 ?k13 ?z_abs ?z_any ?z_enumerate ?z_int ?z_len ?z_list ?z_max ?z_min ?z_range ?z_sorted ?z_sum ?z_tuple ?z_zip K85.law_true
    (case a0 => k_is)
    (case l0 => k_is)
    (case c0 => k_is)
    (case k0 => k_is)
    (case a1 => k_is)
    (case l1 => k_is)
    (case c1 => k_is)
    (case k1 => k_is)
    (case a2 => k_is)
    (case l2 => k_is)
    (case c2 => k_is)
    (case k2 => k_is)
    (case a3 => k_is)
    (case l3 => k_is)
    (case c3 => k_is)
    (case k3 => k_is)
    (case a4 => k_is)
    (case l4 => k_is)
    (case c4 => k_is)
    (case k4 => k_is)
    (case a5 => k_is)
    (case l5 => k_is)
    (case c5 => k_is)
    (case k5 => k_is)
    (case a6 => k_is)
    (case l6 => k_is)
    (case c6 => k_is)
    (case k6 => k_is)
    (case a7 => k_is)
    (case l7 => k_is)
    (case c7 => k_is)
    (case k7 => k_is)
    (case a8 => k_is)
    (case l8 => k_is)
    (case c8 => k_is)
    (case k8 => k_is)
    (case a9 => k_is)
    (case l9 => k_is)
    (case c9 => k_is)
    (case k9 => k_is)
    (case a10 => k_is)
    (case l10 => k_is)
    (case c10 => k_is)
    (case k10 => k_is)
    (case a11 => k_is)
    (case l11 => k_is)
    (case c11 => k_is)
    (case k11 => k_is)
    (case a12 => k_is)
    (case l12 => k_is)
    (case c12 => k_is)
    (case k12 => k_is)
    (case a13 => k_is)
    (case l13 => k_is)
    (case c13 => k_is)
    (case k13 => k_is)
    (case z_abs => k_is)
    (case z_any => k_is)
    (case z_enumerate => k_is)
    (case z_int => k_is)
    (case z_len => k_is)
    (case z_list => k_is)
    (case z_max => k_is)
    (case z_min => k_is)
    (case z_range => k_is)
    (case z_sorted => k_is)
    (case z_sum => k_is)
    (case z_tuple => k_is)
    (case z_zip => k_is)
