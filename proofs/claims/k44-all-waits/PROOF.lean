import PyProof.Rows.All
import HandS.ForMost
import HandS.DictComp
import HandS.Deep
import HandS.IsInst
import PyProof.SumAny
import HandS.ListItems
import HandS.Zip
import HandS.Style
import HandS.Wide
import PySem.Challenge.RW_cutsheld_k44_main_all_waits_of_three_han
set_option Elab.async false
set_option linter.all false
set_option maxRecDepth 100000
/-! QA: data of any depth over the hand layer: what a value stands for, the world of frozen things, readings. -/
namespace Q
open PySem PySem.Spec PyProof.Rows L2

/-- what a value stands for, whatever its addresses: names (atoms) by their place in a table, all else as it is -/
inductive D where
  | non | bl (b : Bool) | int (i : Int) | str (x : Str) | atm (n : Nat)
  | lst (xs : List D) | tup (xs : List D) | dct (kvs : List (Nat × D)) | strm

/-- a spring of draws: cells, what is left of a great one, how many were drawn, the mix -/
structure Spr where
  cells : List Int
  left : Int
  cnt : Int
  mix : Int

/-- the spring as it stands, where it is known -/
abbrev Om := Option Spr

abbrev Nu := List Str

mutual
inductive Rep (ν : Nu) (p0 : Addr) (G : Hp) : V → D → Prop
  | non : Rep ν p0 G .non .non
  | bl (b : Bool) : Rep ν p0 G (.bl b) (.bl b)
  | int (i : Int) : Rep ν p0 G (.int i) (.int i)
  | str (x : Str) : Rep ν p0 G (.str x) (.str x)
  | atm {n : Nat} {x : Str} : ν[n]? = some x → Rep ν p0 G (.str x) (.atm n)
  | lst {a : Addr} {vs : List V} {ds : List D} : G a = some (.lst vs) → Reps ν p0 G vs ds → Rep ν p0 G (.ref a) (.lst ds)
  | tup {a : Addr} {vs : List V} {ds : List D} : G a = some (.tup vs) → Reps ν p0 G vs ds → Rep ν p0 G (.ref a) (.tup ds)
  | dct {a : Addr} {o : Obj} {kvs : List (Key × V)} {kds : List (Nat × D)} : G a = some (.frz o (.dK kvs)) → RepK ν p0 G kvs kds → Rep ν p0 G (.ref a) (.dct kds)
  | strm : Rep ν p0 G (.ref p0) .strm
inductive Reps (ν : Nu) (p0 : Addr) (G : Hp) : List V → List D → Prop
  | nil : Reps ν p0 G [] []
  | cons {v : V} {vs : List V} {d : D} {ds : List D} : Rep ν p0 G v d → Reps ν p0 G vs ds → Reps ν p0 G (v :: vs) (d :: ds)
inductive RepK (ν : Nu) (p0 : Addr) (G : Hp) : List (Key × V) → List (Nat × D) → Prop
  | nil : RepK ν p0 G [] []
  | cons {n : Nat} {x : Str} {v : V} {d : D} {r : List (Key × V)} {s : List (Nat × D)} : ν[n]? = some x → Rep ν p0 G v d → RepK ν p0 G r s → RepK ν p0 G ((.inr x, v) :: r) ((n, d) :: s)
end

/-- the frozen part grows -/
def Le (G G' : Hp) : Prop := ∀ a u, G a = some u → G' a = some u
theorem Le.refl (G : Hp) : Le G G := fun _ _ h => h
theorem Le.trans {G G1 G2 : Hp} (a : Le G G1) (b : Le G1 G2) : Le G G2 := fun c u h => b c u (a c u h)
theorem Le.upd {G : Hp} {p : Addr} {o : HO} (h : G p = none) : Le G (upd G p o) := fun a u e => by rw [upd_ne (ne_of_none e h)]; exact e

section
variable {ν : Nu} {p0 : Addr} {G G' : Hp}
mutual
theorem Rep.mono (l : Le G G') : ∀ (d : D) (v : V), Rep ν p0 G v d → Rep ν p0 G' v d
  | .non, _, h => by cases h; exact .non
  | .bl b, _, h => by cases h; exact .bl b
  | .int i, _, h => by cases h; exact .int i
  | .str x, _, h => by cases h; exact .str x
  | .atm n, _, h => by cases h with | atm e => exact .atm e
  | .lst ds, _, h => by cases h with | lst e r => exact .lst (l _ _ e) (Reps.mono l ds _ r)
  | .tup ds, _, h => by cases h with | tup e r => exact .tup (l _ _ e) (Reps.mono l ds _ r)
  | .dct kds, _, h => by cases h with | dct e r => exact .dct (l _ _ e) (RepK.mono l kds _ r)
  | .strm, _, h => by cases h; exact .strm
theorem Reps.mono (l : Le G G') : ∀ (ds : List D) (vs : List V), Reps ν p0 G vs ds → Reps ν p0 G' vs ds
  | [], _, h => by cases h; exact .nil
  | d :: ds, _, h => by cases h with | cons a b => exact .cons (Rep.mono l d _ a) (Reps.mono l ds _ b)
theorem RepK.mono (l : Le G G') : ∀ (kds : List (Nat × D)) (kvs : List (Key × V)), RepK ν p0 G kvs kds → RepK ν p0 G' kvs kds
  | [], _, h => by cases h; exact .nil
  | (n, d) :: r, _, h => by cases h with | cons e a b => exact .cons e (Rep.mono l d _ a) (RepK.mono l r _ b)
end
theorem Rep.up {d : D} {v : V} (l : Le G G') (h : Rep ν p0 G v d) : Rep ν p0 G' v d := Rep.mono l d v h
theorem Reps.up {d : List D} {v : List V} (l : Le G G') (h : Reps ν p0 G v d) : Reps ν p0 G' v d := Reps.mono l d v h
theorem RepK.up {d : List (Nat × D)} {v : List (Key × V)} (l : Le G G') (h : RepK ν p0 G v d) : RepK ν p0 G' v d := RepK.mono l d v h
theorem Reps.length : ∀ {vs : List V} {ds : List D}, Reps ν p0 G vs ds → vs.length = ds.length
  | _, _, .nil => rfl
  | _, _, .cons _ r => by simp [Reps.length r]
theorem RepK.length : ∀ {vs : List (Key × V)} {ds : List (Nat × D)}, RepK ν p0 G vs ds → vs.length = ds.length
  | _, _, .nil => rfl
  | _, _, .cons _ _ r => by simp [RepK.length r]
theorem Reps.app : ∀ {vs ws : List V} {ds es : List D}, Reps ν p0 G vs ds → Reps ν p0 G ws es → Reps ν p0 G (vs ++ ws) (ds ++ es)
  | _, _, _, _, .nil, s => s
  | _, _, _, _, .cons a r, s => .cons a (Reps.app r s)
theorem Reps.one {v : V} {d : D} (h : Rep ν p0 G v d) : Reps ν p0 G [v] [d] := .cons h .nil
theorem Reps.get : ∀ {vs : List V} {ds : List D} {i : Nat} {d : D}, Reps ν p0 G vs ds → ds[i]? = some d → ∃ v, vs[i]? = some v ∧ Rep ν p0 G v d
  | _, _, _, _, .nil, e => by simp at e
  | _, _, 0, _, .cons r _, e => by simp at e; subst e; exact ⟨_, rfl, r⟩
  | _, _, i + 1, d, .cons r t, e => by
    obtain ⟨u, h1, h2⟩ := Reps.get (i := i) (d := d) t (by simpa using e)
    exact ⟨u, by simpa using h1, h2⟩
theorem Reps.drop : ∀ {vs : List V} {ds : List D} (n : Nat), Reps ν p0 G vs ds → Reps ν p0 G (vs.drop n) (ds.drop n)
  | _, _, 0, r => r
  | _, _, _ + 1, .nil => .nil
  | _, _, n + 1, .cons _ t => Reps.drop n t
theorem Reps.take : ∀ {vs : List V} {ds : List D} (n : Nat), Reps ν p0 G vs ds → Reps ν p0 G (vs.take n) (ds.take n)
  | _, _, 0, _ => .nil
  | _, _, _ + 1, .nil => .nil
  | _, _, n + 1, .cons r t => .cons r (Reps.take n t)
end

/-- how a frozen thing stands (dicts are locked) -/
abbrev Hold (H : Hp) (a : Addr) (u : HO) : Prop := H a = some u

/-- what stands by itself, not frozen -/
abbrev Fr := Addr → HO → Prop
/-- the world: frozen things stand, the frame Φ stands and is not frozen, the spring stands apart -/
structure Wd (p0 : Addr) (Φ : Fr) (G H : Hp) (ω : Om) : Prop where
  gh : ∀ a u, G a = some u → Hold H a u
  fr : ∀ a u, Φ a u → H a = some u ∧ G a = none
  st : ∀ z, ω = some z → ∃ q, H p0 = some (.lst [.ref q, .int z.left, .int z.cnt, .int z.mix]) ∧ H q = some (.lst (z.cells.map .int)) ∧ q ≠ p0 ∧ G p0 = none ∧ G q = none ∧ ∀ u, ¬ Φ p0 u ∧ ¬ Φ q u

section
variable {p0 : Addr} {Φ Ψ : Fr} {G H : Hp} {ω : Om}
theorem Wd.free (W : Wd p0 Φ G H ω) {p : Addr} (h : H p = none) : G p = none := by
  cases e : G p with
  | none => rfl
  | some u =>
    have q : H p = some u := W.gh p u e
    rw [h] at q; cases q
theorem Hold.new {H : Hp} {a p : Addr} {u o : HO} (h : Hold H a u) (hp : H p = none) : Hold (upd H p o) a u := (upd_ne (ne_of_none h hp)).trans h
/-- a new thing, not frozen -/
theorem Wd.raw (W : Wd p0 Φ G H ω) {p : Addr} {o : HO} (h : H p = none) : Wd p0 Φ G (upd H p o) ω := by
  refine ⟨fun a u e => (W.gh a u e).new h, fun a u e => ?_, ?_⟩
  · obtain ⟨h1, h2⟩ := W.fr a u e
    exact ⟨(upd_ne (ne_of_none h1 h)).trans h1, h2⟩
  · intro zz hz
    obtain ⟨q, e1, e2, ne, g1, g2, nf⟩ := W.st zz hz
    exact ⟨q, (upd_ne (ne_of_none e1 h)).trans e1, (upd_ne (ne_of_none e2 h)).trans e2, ne, g1, g2, nf⟩
/-- .. that belongs to the frame -/
theorem Wd.framed (W : Wd p0 Φ G H ω) {p : Addr} {o : HO} (h : H p = none) : Wd p0 (fun a u => Φ a u ∨ (a = p ∧ u = o)) G (upd H p o) ω := by
  have W' := W.raw (o := o) h
  refine ⟨W'.gh, fun a u e => ?_, ?_⟩
  · rcases e with e | ⟨rfl, rfl⟩
    · exact W'.fr a u e
    · exact ⟨upd_same, W.free h⟩
  · intro zz hz
    obtain ⟨q, e1, e2, ne, g1, g2, nf⟩ := W.st zz hz
    obtain ⟨q', e1', e2', ne', g1', g2', nf'⟩ := W'.st zz hz
    refine ⟨q', e1', e2', ne', g1', g2', fun u => ⟨fun z => ?_, fun z => ?_⟩⟩
    · rcases z with z | ⟨z, _⟩
      · exact (nf' u).1 z
      · subst z; rw [h] at e1; cases e1
    · rcases z with z | ⟨z, _⟩
      · exact (nf' u).2 z
      · subst z
        rw [upd_same] at e2'
        have e1'' := e1'
        rw [upd_ne (ne_of_none e1 h)] at e1''
        rw [e1] at e1''
        cases e1''
        rw [h] at e2; cases e2
/-- a thing that stands by itself is frozen -/
theorem Wd.freeze (W : Wd p0 (fun a u => Φ a u ∨ Ψ a u) G H ω) {p : Addr} {o : HO} (hp : Ψ p o) (sep : ∀ u, ¬ Φ p u) (ho : Hold H p o) : Wd p0 Φ (upd G p o) H ω := by
  obtain ⟨hH, hG⟩ := W.fr p o (.inr hp)
  refine ⟨fun a u e => ?_, fun a u e => ?_, ?_⟩
  · by_cases h : a = p
    · subst h; rw [upd_same] at e; cases e; exact ho
    · rw [upd_ne h] at e; exact W.gh a u e
  · obtain ⟨h1, h2⟩ := W.fr a u (.inl e)
    have ne : a ≠ p := fun z => by subst z; exact sep u e
    exact ⟨h1, (upd_ne ne).trans h2⟩
  · intro zz hz
    obtain ⟨q, e1, e2, ne, g1, g2, nf⟩ := W.st zz hz
    have n1 : p0 ≠ p := fun z => by subst z; exact (nf o).1 (.inr hp)
    have n2 : q ≠ p := fun z => by subst z; exact (nf o).2 (.inr hp)
    exact ⟨q, e1, e2, ne, (upd_ne n1).trans g1, (upd_ne n2).trans g2, fun u => ⟨fun z => (nf u).1 (.inl z), fun z => (nf u).2 (.inl z)⟩⟩
/-- a new list, a new tuple, frozen at once -/
theorem Wd.new (W : Wd p0 Φ G H ω) {p : Addr} {o : HO} (h : H p = none) (ho : Hold (upd H p o) p o) : Wd p0 Φ (upd G p o) (upd H p o) ω := by
  have W' := W.framed (o := o) h
  exact Wd.freeze (Ψ := fun a u => a = p ∧ u = o) W' ⟨rfl, rfl⟩ (fun u z => by have := (W.fr p u z).1; rw [h] at this; cases this) ho
theorem Wd.newL (W : Wd p0 Φ G H ω) {p : Addr} {xs : List V} (h : H p = none) : Wd p0 Φ (upd G p (.lst xs)) (upd H p (.lst xs)) ω := W.new h upd_same
theorem Wd.newT (W : Wd p0 Φ G H ω) {p : Addr} {xs : List V} (h : H p = none) : Wd p0 Φ (upd G p (.tup xs)) (upd H p (.tup xs)) ω := W.new h upd_same
theorem Wd.newG (W : Wd p0 Φ G H ω) {p : Addr} {o : HO} (h : H p = none) : Le G (upd G p o) := Le.upd (W.free h)
theorem Wd.weak (W : Wd p0 Φ G H ω) (l : ∀ a u, Ψ a u → Φ a u) : Wd p0 Ψ G H ω :=
  ⟨W.gh, fun a u e => W.fr a u (l a u e), fun z hz => let ⟨q, e1, e2, ne, g1, g2, nf⟩ := W.st z hz; ⟨q, e1, e2, ne, g1, g2, fun u => ⟨fun z => (nf u).1 (l _ _ z), fun z => (nf u).2 (l _ _ z)⟩⟩⟩
theorem Wd.lst (W : Wd p0 Φ G H ω) {a : Addr} {vs : List V} (e : G a = some (.lst vs)) : H a = some (.lst vs) := W.gh a _ e
theorem Wd.tup (W : Wd p0 Φ G H ω) {a : Addr} {vs : List V} (e : G a = some (.tup vs)) : H a = some (.tup vs) := W.gh a _ e
theorem Wd.dct (W : Wd p0 Φ G H ω) {a : Addr} {o : Obj} {kvs : List (Key × V)} (e : G a = some (.frz o (.dK kvs))) : H a = some (.frz o (.dK kvs)) := W.gh a _ e
end

/-! ### slots -/
inductive Slot where
  | un | val (d : D) | own (xs : List D)
abbrev Env := List Slot
def SlotOk (ν : Nu) (p0 : Addr) (Φ : Fr) (G : Hp) (o : Option (Option V)) : Slot → Prop
  | .un => True
  | .val d => ∃ v, o = some (some v) ∧ Rep ν p0 G v d
  | .own ds => ∃ a vs, o = some (some (.ref a)) ∧ Φ a (.lst vs) ∧ Reps ν p0 G vs ds
structure EnvX (ν : Nu) (p0 : Addr) (Φ : Fr) (G : Hp) (σ : L2.St) (ρ : Env) : Prop where
  len : σ.length = ρ.length
  ok : ∀ (i : Nat) (s : Slot), (ρ : List Slot)[i]? = some s → SlotOk ν p0 Φ G (σ : List (Option V))[i]? s
  inj : ∀ (i j : Nat) (a : Addr) (xs ys : List D), (ρ : List Slot)[i]? = some (.own xs) → (ρ : List Slot)[j]? = some (.own ys) → (σ : List (Option V))[i]? = some (some (.ref a)) → (σ : List (Option V))[j]? = some (some (.ref a)) → i = j
theorem SlotOk.mono {ν : Nu} {p0 : Addr} {Φ Φ' : Fr} {G G' : Hp} {o : Option (Option V)} {s : Slot} (h : SlotOk ν p0 Φ G o s) (l : Le G G') (f : ∀ a u, Φ a u → Φ' a u) : SlotOk ν p0 Φ' G' o s := by
  cases s with
  | un => trivial
  | val d => obtain ⟨v, e, r⟩ := h; exact ⟨v, e, r.up l⟩
  | own ds => obtain ⟨a, vs, e, p, r⟩ := h; exact ⟨a, vs, e, f _ _ p, r.up l⟩
theorem EnvX.mono {ν : Nu} {p0 : Addr} {Φ Φ' : Fr} {G G' : Hp} {σ : L2.St} {ρ : Env} (h : EnvX ν p0 Φ G σ ρ) (l : Le G G') (f : ∀ a u, Φ a u → Φ' a u) : EnvX ν p0 Φ' G' σ ρ := ⟨h.len, fun i s e => (h.ok i s e).mono l f, h.inj⟩
theorem EnvX.up {ν : Nu} {p0 : Addr} {Φ : Fr} {G G' : Hp} {σ : L2.St} {ρ : Env} (h : EnvX ν p0 Φ G σ ρ) (l : Le G G') : EnvX ν p0 Φ G' σ ρ := h.mono l fun _ _ z => z
theorem set_own {ρ : Env} {i j : Nat} {d : D} {xs : List D} (e : (ρ.set i (.val d))[j]? = some (.own xs)) : i ≠ j ∧ (ρ : List Slot)[j]? = some (.own xs) := by
  by_cases hi : i = j
  · subst hi
    by_cases hl : i < ρ.length
    · rw [List.getElem?_set_self hl] at e; cases e
    · rw [List.getElem?_eq_none (by simpa using hl)] at e; cases e
  · rw [List.getElem?_set_ne hi] at e; exact ⟨hi, e⟩
theorem EnvX.set {ν : Nu} {p0 : Addr} {Φ : Fr} {G : Hp} {σ : L2.St} {ρ : Env} {i : Nat} {v : V} {d : D} (h : EnvX ν p0 Φ G σ ρ) (r : Rep ν p0 G v d) : EnvX ν p0 Φ G (σ.set i (some v)) (ρ.set i (.val d)) := ⟨by simpa using h.len, fun j s e => by
  by_cases hj : i = j
  · subst hj
    by_cases hl : i < ρ.length
    · rw [List.getElem?_set_self (by rw [h.len]; exact hl)]
      rw [List.getElem?_set_self hl] at e; cases e; exact ⟨v, rfl, r⟩
    · rw [List.getElem?_eq_none (by simpa using hl)] at e; cases e
  · rw [List.getElem?_set_ne hj] at e ⊢
    exact h.ok j s e, fun j k a xs ys e1 e2 e3 e4 => by
  obtain ⟨n1, e1⟩ := set_own e1
  obtain ⟨n2, e2⟩ := set_own e2
  rw [List.getElem?_set_ne n1] at e3
  rw [List.getElem?_set_ne n2] at e4
  exact h.inj j k a xs ys e1 e2 e3 e4⟩

/-! ### readings -/
/-- an expression worth d -/
def rd (ν : Nu) (p0 : Addr) (ρ : Env) (ω : Om) (d : D) (ω' : Om) : TE := fun σ H Q => ∃ Φ G, Wd p0 Φ G H ω ∧ EnvX ν p0 Φ G σ ρ ∧ ∀ v H' G', Le G G' → Wd p0 Φ G' H' ω' → Rep ν p0 G' v d → Q v H'
def rdT (ν : Nu) (p0 : Addr) (ρ : Env) (ω : Om) (b : Bool) (ω' : Om) : TT := fun σ H Q => ∃ Φ G, Wd p0 Φ G H ω ∧ EnvX ν p0 Φ G σ ρ ∧ ∀ H' G', Le G G' → Wd p0 Φ G' H' ω' → Q b H'
def rdA (ν : Nu) (p0 : Addr) (ρ : Env) (ω : Om) (ds : List D) (ω' : Om) : TA := fun σ H Q => ∃ Φ G, Wd p0 Φ G H ω ∧ EnvX ν p0 Φ G σ ρ ∧ ∀ vs H' G', Le G G' → Wd p0 Φ G' H' ω' → Reps ν p0 G' vs ds → Q vs H'
/-- an expression worth a new list that is nobody's yet -/
def rdL (ν : Nu) (p0 : Addr) (ρ : Env) (ω : Om) (ds : List D) (ω' : Om) : TE := fun σ H Q => ∃ Φ G, Wd p0 Φ G H ω ∧ EnvX ν p0 Φ G σ ρ ∧ ∀ a vs H' G', Le G G' → Wd p0 (fun b u => Φ b u ∨ (b = a ∧ u = .lst vs)) G' H' ω' → (∀ u, ¬ Φ a u) → Reps ν p0 G' vs ds → Q (.ref a) H'

/-- what is known of a def's text: names, scope -/
structure Ct where
  P : Program
  w : World
  K : PySem.W.Frag
  mg : Str → Option Value
  base : Heap
  ν : Nu
  p0 : Addr
  k : Nat
  N : List Str
  sc : Scope
  fn : Str → Bool
structure Fits (c : Ct) (X : Cx) : Prop where
  P : X.prog = c.P
  w : X.w = c.w
  K : X.K = c.K
  mg : X.mg = c.mg
  base : X.base = c.base
  N : X.N = c.N
  sc : X.env.scope = c.sc
  fn : X.fn = c.fn
  calm : X.calm = true
  room : Room c.k X.A
  nd : c.N.Nodup
abbrev Ex := Env → Om → Option (D × Om)
abbrev Exs := Env → Om → Option (List D × Om)
def Snd (c : Ct) (e : Expr) (x : Ex) : Prop := ∀ X, Fits c X → ∀ ρ ω d ω', x ρ ω = some (d, ω') → PE X e (rd c.ν c.p0 ρ ω d ω')
def SndT (c : Ct) (e : Expr) (x : Ex) : Prop := ∀ X, Fits c X → ∀ ρ ω b ω', x ρ ω = some (.bl b, ω') → PT X e (rdT c.ν c.p0 ρ ω b ω')
def SndA (c : Ct) (es : List Expr) (x : Exs) : Prop := ∀ X, Fits c X → ∀ ρ ω ds ω', x ρ ω = some (ds, ω') → PA X es (rdA c.ν c.p0 ρ ω ds ω')
def SndL (c : Ct) (e : Expr) (x : Exs) : Prop := ∀ X, Fits c X → ∀ ρ ω ds ω', x ρ ω = some (ds, ω') → PE X e (rdL c.ν c.p0 ρ ω ds ω')

theorem pe_mono {X : Cx} {e : Expr} {t t' : TE} (h : PE X e t) (m : ∀ σ H Q, t' σ H Q → t σ H Q) : PE X e t' := ⟨fun pins s σ H Q I q => h.run pins s σ H Q I (m σ H Q q)⟩
theorem pt_mono {X : Cx} {e : Expr} {t t' : TT} (h : PT X e t) (m : ∀ σ H Q, t' σ H Q → t σ H Q) : PT X e t' := ⟨fun pins s σ H Q I q => h.run pins s σ H Q I (m σ H Q q)⟩
theorem pw_mono {X : Cx} {e : Expr} {t t' : TT} (h : PW X e t) (m : ∀ σ H Q, t' σ H Q → t σ H Q) : PW X e t' := ⟨fun wh pins s σ H Q I q => h.run wh pins s σ H Q I (m σ H Q q)⟩
theorem pa_mono {X : Cx} {e : List Expr} {t t' : TA} (h : PA X e t) (m : ∀ σ H Q, t' σ H Q → t σ H Q) : PA X e t' := ⟨fun p pins s σ H Q I q => h.run p pins s σ H Q I (m σ H Q q)⟩
theorem ps_mono {X : Cx} {e : Stmt} {t t' : TS} (h : PS X e t) (m : ∀ D σ H, t' D σ H → t D σ H) : PS X e t' := ⟨fun pins s σ H D I q => h.run pins s σ H D I (m D σ H q)⟩
theorem pss_mono {X : Cx} {e : List Stmt} {t t' : TS} (h : PSs X e t) (m : ∀ D σ H, t' D σ H → t D σ H) : PSs X e t' := ⟨fun pins s σ H D I q => h.run pins s σ H D I (m D σ H q)⟩

/-! ### expressions -/
def xVar (i : Nat) : Ex := fun ρ ω => match ρ[i]? with | some (.val d) => some (d, ω) | _ => none
def xLit (d : D) : Ex := fun _ ω => some (d, ω)
section
variable {c : Ct} {e : Expr} {pos : Pos}
def visB (sc : Scope) (x : Str) : Bool := match sc.names.lookup x with | some .local => true | some .cell => true | some .free => true | _ => false
theorem visB_ok {sc : Scope} {x : Str} (h : visB sc x = true) : Vis sc x := by
  unfold visB at h
  unfold Vis
  split at h <;> simp_all
theorem s_var {i : Nat} {x : Str} (hN : c.N[i]? = some x) (hv : visB c.sc x = true) (hd : (x == ("__debug__" : Str)) = false := by decide) (hcd : (x == ("__classdict__" : Str)) = false := by decide) : Snd c (.Name x pos) (xVar i) := fun X F ρ ω d ω' h => by
  refine pe_mono (pe_var (i := i) (by rw [F.N]; exact hN) (by rw [F.sc]; exact visB_ok hv) hd hcd) fun σ H Q q => ?_
  obtain ⟨Φ, G, W, E, k⟩ := q
  unfold xVar at h
  split at h
  · rename_i d' hd
    cases h
    obtain ⟨v, e, r⟩ := E.ok i _ hd
    exact ⟨v, e, k v H G (Le.refl G) W r⟩
  · cases h
theorem s_int {j : Int} {u} : Snd c (.Constant (.int j) u pos) (xLit (.int j)) := fun X F ρ ω d ω' h => by
  cases h
  exact pe_mono pe_int fun σ H Q ⟨Φ, G, W, E, k⟩ => k _ H G (Le.refl G) W (.int j)
theorem s_bl {j : Bool} {u} : Snd c (.Constant (.bool j) u pos) (xLit (.bl j)) := fun X F ρ ω d ω' h => by
  cases h
  exact pe_mono pe_bl fun σ H Q ⟨Φ, G, W, E, k⟩ => k _ H G (Le.refl G) W (.bl j)
theorem s_non {u} : Snd c (.Constant .none u pos) (xLit .non) := fun X F ρ ω d ω' h => by
  cases h
  exact pe_mono pe_non fun σ H Q ⟨Φ, G, W, E, k⟩ => k _ H G (Le.refl G) W .non
theorem s_str {x : Str} {u} : Snd c (.Constant (.str x) u pos) (xLit (.str x)) := fun X F ρ ω d ω' h => by
  cases h
  exact pe_mono pe_str fun σ H Q ⟨Φ, G, W, E, k⟩ => k _ H G (Le.refl G) W (.str x)
end
end Q

set_option Elab.async false
set_option linter.all false
set_option maxRecDepth 100000
/-! QB: operators, comparisons, tests, displays, arguments, subscripts, slices. -/
namespace Q
open PySem PySem.Spec PyProof.Rows L2
open PySem.PyData (strOk)

/-! ### equality of data -/
def eqN : List Nat → List Nat → Bool
  | [], [] => true
  | x :: xs, y :: ys => match Nat.beq x y with | true => eqN xs ys | false => false
  | _, _ => false
theorem eqN_ok : ∀ (xs ys : List Nat), eqN xs ys = decide (xs = ys)
  | [], [] => rfl
  | [], _ :: _ => by simp [eqN]
  | _ :: _, [] => by simp [eqN]
  | x :: xs, y :: ys => by
    unfold eqN
    have ih := eqN_ok xs ys
    cases h : Nat.beq x y with
    | true =>
      have e : x = y := Nat.eq_of_beq_eq_true h
      subst e
      simp [ih]
    | false =>
      have e : x ≠ y := Nat.ne_of_beq_eq_false h
      simp [e]
def strEq (x y : Str) : Bool := eqN x.cps.toList y.cps.toList
theorem strEq_ok (x y : Str) : strEq x y = decide (x = y) := by
  unfold strEq
  rw [eqN_ok]
  obtain ⟨⟨a⟩⟩ := x
  obtain ⟨⟨b⟩⟩ := y
  simp
def shp : Nat → D → Bool
  | 0, _ => false
  | n + 1, d => match d with
    | .non => true | .bl _ => true | .int _ => true | .str x => strOk x | .atm _ => true
    | .lst xs => xs.all (shp n) | .tup xs => xs.all (shp n)
    | .dct _ => false | .strm => false
def eqL (f : D → D → Option Bool) : List D → List D → Option Bool
  | [], [] => some true
  | x :: xs, y :: ys => match f x y with
    | some true => eqL f xs ys
    | some false => some false
    | none => none
  | [], _ :: _ => some false
  | _ :: _, [] => some false
def dEqF : Nat → D → D → Option Bool
  | 0, _, _ => none
  | n + 1, a, b => match a, b with
    | .non, .non => some true
    | .bl a, .bl b => some (a == b)
    | .int i, .int j => some (decide (i = j))
    | .str x, .str y => some (strEq x y)
    | .atm x, .atm y => some (Nat.beq x y)
    | .lst xs, .lst ys => eqL (dEqF n) xs ys
    | .tup xs, .tup ys => eqL (dEqF n) xs ys
    | .non, .bl _ => some false | .non, .int _ => some false | .non, .str _ => some false | .non, .atm _ => some false | .non, .lst _ => some false | .non, .tup _ => some false
    | .bl _, .non => some false | .bl _, .str _ => some false | .bl _, .atm _ => some false | .bl _, .lst _ => some false | .bl _, .tup _ => some false
    | .int _, .non => some false | .int _, .str _ => some false | .int _, .atm _ => some false | .int _, .lst _ => some false | .int _, .tup _ => some false
    | .str _, .non => some false | .str _, .bl _ => some false | .str _, .int _ => some false | .str _, .lst _ => some false | .str _, .tup _ => some false
    | .atm _, .non => some false | .atm _, .bl _ => some false | .atm _, .int _ => some false | .atm _, .lst _ => some false | .atm _, .tup _ => some false
    | .lst _, .non => some false | .lst _, .bl _ => some false | .lst _, .int _ => some false | .lst _, .str _ => some false | .lst _, .atm _ => some false | .lst _, .tup _ => some false
    | .tup _, .non => some false | .tup _, .bl _ => some false | .tup _, .int _ => some false | .tup _, .str _ => some false | .tup _, .atm _ => some false | .tup _, .lst _ => some false
    | _, _ => none
def dEq (a b : D) : Option Bool := match shp 9 a with
  | true => match shp 9 b with
    | true => dEqF 9 a b
    | false => none
  | false => none

/-- the names that hands bear -/
def poolN : List Str := ["a", "b", "c", "c1", "d", "e1", "zoe", "k", "w3", "ann", "m", "b7", "twelvesigns0", "bo", "y7", "h1", "m9", "j0", "mm", "hand", "next"]
/-- the table of names: ascending, unlike, right names -/
structure NuOk (ν : Nu) : Prop where
  good : ∀ x ∈ ν, x ∈ poolN
  asc : ν.Pairwise fun a b => a.cps.toList < b.cps.toList
  ok : ∀ x ∈ ν, strOk x = true
theorem NuOk.inj {ν : Nu} (h : NuOk ν) {n m : Nat} {x : Str} (a : ν[n]? = some x) (b : ν[m]? = some x) : n = m := by
  obtain ⟨h1, e1⟩ := List.getElem?_eq_some_iff.mp a
  obtain ⟨h2, e2⟩ := List.getElem?_eq_some_iff.mp b
  rcases Nat.lt_trichotomy n m with l | l | l
  · have := List.pairwise_iff_getElem.mp h.asc n m h1 h2 l
    rw [e1, e2] at this
    exact absurd this (List.lt_irrefl _)
  · exact l
  · have := List.pairwise_iff_getElem.mp h.asc m n h2 h1 l
    rw [e1, e2] at this
    exact absurd this (List.lt_irrefl _)
theorem NuOk.lt {ν : Nu} (h : NuOk ν) {n m : Nat} {x y : Str} (a : ν[n]? = some x) (b : ν[m]? = some y) : decide (x.cps.toList < y.cps.toList) = decide (n < m) := by
  obtain ⟨h1, e1⟩ := List.getElem?_eq_some_iff.mp a
  obtain ⟨h2, e2⟩ := List.getElem?_eq_some_iff.mp b
  by_cases l : n < m
  · have := List.pairwise_iff_getElem.mp h.asc n m h1 h2 l
    rw [e1, e2] at this
    rw [decide_eq_true l, decide_eq_true this]
  · rw [decide_eq_false l]
    refine decide_eq_false fun z => ?_
    rcases Nat.lt_or_eq_of_le (Nat.le_of_not_lt l) with q | q
    · have := List.pairwise_iff_getElem.mp h.asc m n h2 h1 q
      rw [e1, e2] at this
      exact List.lt_irrefl _ (List.lt_trans this z)
    · subst q
      rw [a] at b; cases b
      exact List.lt_irrefl _ z
theorem NuOk.sok {ν : Nu} (h : NuOk ν) {n : Nat} {x : Str} (a : ν[n]? = some x) : strOk x = true := h.ok x (List.mem_of_getElem? a)

/-- a value's data, with the names as texts -/
def toPy (ν : Nu) : Nat → D → PyData
  | 0, _ => .none
  | n + 1, d => match d with
    | .non => .none | .bl b => .bool b | .int i => .int i | .str x => .str x | .atm k => .str (ν[k]?.getD ⟨#[]⟩)
    | .lst xs => .list (xs.map (toPy ν n)) | .tup xs => .tuple (xs.map (toPy ν n))
    | .dct _ => .none | .strm => .none

section
variable {ν : Nu} {p0 : Addr} {Φ : Fr} {G H : Hp} {ω : Om} {K : PySem.W.Frag}
theorem dpAll_of (n : Nat) (ih : ∀ (d : D) (v : V), Rep ν p0 G v d → shp n d = true → Dp K H v (toPy ν n d) ∧ (toPy ν n d).canLay0 = true ∧ (toPy ν n d).depth ≤ n) :
    ∀ (ds : List D) (vs : List V), Reps ν p0 G vs ds → ds.all (shp n) = true → DpAll K H vs (ds.map (toPy ν n)) ∧ PyData.canLayAll0 (ds.map (toPy ν n)) = true ∧ PyData.depthAll (ds.map (toPy ν n)) ≤ n
  | [], _, h, _ => by cases h; exact ⟨.nil, by simp [PyData.canLayAll0], by simp [PyData.depthAll]⟩
  | d :: ds, _, h, s => by
    cases h with
    | cons a b =>
      rw [List.all_cons, Bool.and_eq_true] at s
      obtain ⟨h1, h2, h3⟩ := ih d _ a s.1
      obtain ⟨g1, g2, g3⟩ := dpAll_of n ih ds _ b s.2
      refine ⟨.cons h1 g1, by simp only [List.map_cons, PyData.canLayAll0, h2, g2, Bool.and_self], ?_⟩
      simp only [List.map_cons, PyData.depthAll]
      omega
theorem dp_of (W : Wd p0 Φ G H ω) (hν : NuOk ν) : ∀ (n : Nat) (d : D) (v : V), Rep ν p0 G v d → shp n d = true → Dp K H v (toPy ν n d) ∧ (toPy ν n d).canLay0 = true ∧ (toPy ν n d).depth ≤ n
  | 0, _, _, _, s => by simp [shp] at s
  | n + 1, d, v, r, s => by
    have ih := dp_of W hν n
    cases r with
    | non => exact ⟨.non, by simp [toPy, PyData.canLay0], by simp [toPy, PyData.depth]⟩
    | bl b => exact ⟨.bl b, by simp [toPy, PyData.canLay0], by simp [toPy, PyData.depth]⟩
    | int b => exact ⟨.int b, by simp [toPy, PyData.canLay0], by simp [toPy, PyData.depth]⟩
    | str x => exact ⟨.str x, by simpa [toPy, PyData.canLay0, shp] using s, by simp [toPy, PyData.depth]⟩
    | @atm k x e =>
      have e2 : toPy ν (n + 1) (.atm k) = .str x := by simp only [toPy, e, Option.getD_some]
      rw [e2]
      exact ⟨.str _, by simpa [PyData.canLay0] using hν.sok e, by simp [PyData.depth]⟩
    | lst e rr =>
      obtain ⟨h1, h2, h3⟩ := dpAll_of n ih _ _ rr (by simpa [shp] using s)
      refine ⟨.lst (.inl (.inl (W.lst e))) h1, by simpa [toPy, PyData.canLay0] using h2, ?_⟩
      simp only [toPy, PyData.depth]
      omega
    | tup e rr =>
      obtain ⟨h1, h2, h3⟩ := dpAll_of n ih _ _ rr (by simpa [shp] using s)
      refine ⟨.tup (.inl (.inl (W.tup e))) h1, by simpa [toPy, PyData.canLay0] using h2, ?_⟩
      simp only [toPy, PyData.depth]
      omega
    | dct e rr => simp [shp] at s
    | strm => simp [shp] at s
theorem shaped_of (W : Wd p0 Φ G H ω) (hν : NuOk ν) {d : D} {v : V} (r : Rep ν p0 G v d) (s : shp 9 d = true) : Dp K H v (toPy ν 9 d) ∧ SeqAt.shaped (toPy ν 9 d) = true := by
  obtain ⟨h1, h2, h3⟩ := dp_of (K := K) W hν 9 d v r s
  refine ⟨h1, ?_⟩
  unfold SeqAt.shaped
  rw [h2, decide_eq_true (by omega)]; rfl
theorem eqL_ok {f : D → D → Option Bool} {g : D → PyData} (hf : ∀ a b c va vb, Rep ν p0 G va a → Rep ν p0 G vb b → f a b = some c → PyData.eqv (g a) (g b) = c) :
    ∀ (xs ys : List D) (c : Bool) (vs ws : List V), Reps ν p0 G vs xs → Reps ν p0 G ws ys → eqL f xs ys = some c → PyData.eqvAll (xs.map g) (ys.map g) = c
  | [], [], c, _, _, _, _, h => by simp [eqL] at h; subst h; simp [PyData.eqvAll]
  | [], _ :: _, c, _, _, _, _, h => by simp [eqL] at h; subst h; simp [PyData.eqvAll]
  | _ :: _, [], c, _, _, _, _, h => by simp [eqL] at h; subst h; simp [PyData.eqvAll]
  | x :: xs, y :: ys, c, _, _, r1, r2, h => by
    cases r1 with
    | cons a1 b1 =>
      cases r2 with
      | cons a2 b2 =>
        unfold eqL at h
        split at h
        · rename_i e
          have := hf _ _ _ _ _ a1 a2 e
          simp only [List.map_cons, PyData.eqvAll, this, Bool.true_and]
          exact eqL_ok hf xs ys c _ _ b1 b2 h
        · rename_i e
          have := hf _ _ _ _ _ a1 a2 e
          simp only [List.map_cons, PyData.eqvAll, this, Bool.false_and]
          exact Option.some.inj h
        · cases h
theorem dEqF_ok (hν : NuOk ν) : ∀ (n : Nat) (a b : D) (c : Bool) (va vb : V), Rep ν p0 G va a → Rep ν p0 G vb b → dEqF n a b = some c → PyData.eqv (toPy ν n a) (toPy ν n b) = c
  | 0, _, _, _, _, _, _, _, h => by simp [dEqF] at h
  | n + 1, a, b, c, va, vb, ra, rb, h => by
    have lists : ∀ (xs ys : List D) (vs ws : List V), Reps ν p0 G vs xs → Reps ν p0 G ws ys → eqL (dEqF n) xs ys = some c → PyData.eqvAll (xs.map (toPy ν n)) (ys.map (toPy ν n)) = c := fun xs ys vs ws h1 h2 h3 =>
      eqL_ok (fun a b c va vb ra rb e => dEqF_ok hν n a b c va vb ra rb e) xs ys c vs ws h1 h2 h3
    cases a <;> cases b <;> simp only [dEqF, Option.some.injEq, reduceCtorEq] at h <;> first
      | (subst h; simp only [toPy, PyData.eqv]; done)
      | (simp only [toPy, PyData.eqv]; cases ra with | lst e r => cases rb with | lst e' r' => exact lists _ _ _ _ r r' h)
      | (simp only [toPy, PyData.eqv]; cases ra with | tup e r => cases rb with | tup e' r' => exact lists _ _ _ _ r r' h)
      | skip
    · subst h; simp only [toPy, PyData.eqv]; rw [Bool.eq_iff_iff]; simp
    · subst h; simp only [toPy, PyData.eqv, strEq_ok]; rw [Bool.eq_iff_iff]; simp
    · subst h
      cases ra with
      | atm e =>
        cases rb with
        | atm e' =>
          simp only [toPy, PyData.eqv, e, e', Option.getD_some]
          rw [Bool.eq_iff_iff]
          constructor
          · intro q
            have q' := beq_iff_eq.mp q
            rw [q'] at e
            rw [hν.inj e e']
            exact Nat.beq_refl _
          · intro q
            have q' := Nat.eq_of_beq_eq_true q
            rw [q', e'] at e
            cases e; simp
theorem dEq_ok (W : Wd p0 Φ G H ω) (hν : NuOk ν) {a b : D} {c : Bool} {va vb : V} (ra : Rep ν p0 G va a) (rb : Rep ν p0 G vb b) (h : dEq a b = some c) :
    Dp K H va (toPy ν 9 a) ∧ Dp K H vb (toPy ν 9 b) ∧ SeqAt.shaped (toPy ν 9 a) = true ∧ SeqAt.shaped (toPy ν 9 b) = true ∧ PyData.eqv (toPy ν 9 a) (toPy ν 9 b) = c := by
  unfold dEq at h
  split at h
  · rename_i h1
    split at h
    · rename_i h2
      obtain ⟨a1, a2⟩ := shaped_of (K := K) W hν ra h1
      obtain ⟨b1, b2⟩ := shaped_of (K := K) W hν rb h2
      exact ⟨a1, b1, a2, b2, dEqF_ok hν 9 a b c va vb ra rb h⟩
    · cases h
  · cases h
end
end Q

set_option Elab.async false
set_option linter.all false
set_option maxRecDepth 100000
/-! QC: operators by data, tests, displays, arguments, subscripts, slices. -/
namespace Q
open PySem PySem.Spec PyProof.Rows L2
open PySem.PyData (strOk)

abbrev OK1 (c : Ct) (Φ : Fr) (G H : Hp) (ω : Om) (d : D) (Q : VK) : Prop := ∀ v H' G', Le G G' → Wd c.p0 Φ G' H' ω → Rep c.ν c.p0 G' v d → Q v H'
/-- a two-place operation on data: f tells what it is worth -/
def Op2 (c : Ct) (g : Value → Value → Sem Value) (f : D → D → Option D) : Prop := ∀ X, Fits c X → ∃ r : R2, OpR X g r ∧
  ∀ Φ v1 v2 H G ω a b d Q, Wd c.p0 Φ G H ω → Rep c.ν c.p0 G v1 a → Rep c.ν c.p0 G v2 b → f a b = some d → OK1 c Φ G H ω d Q → r v1 v2 H Q
def xBin (f : D → D → Option D) (x y : Ex) : Ex := fun ρ ω => match x ρ ω with
  | some (a, ω1) => match y ρ ω1 with
    | some (b, ω2) => match f a b with
      | some d => some (d, ω2)
      | none => none
    | none => none
  | none => none
theorem xBin_some {f : D → D → Option D} {x y : Ex} {ρ : Env} {ω ω' : Om} {d : D} (h : xBin f x y ρ ω = some (d, ω')) : ∃ a ω1 b, x ρ ω = some (a, ω1) ∧ y ρ ω1 = some (b, ω') ∧ f a b = some d := by
  unfold xBin at h
  split at h
  · rename_i a ω1 e1
    split at h
    · rename_i b ω2 e2
      split at h
      · rename_i d' e3
        cases h
        exact ⟨a, ω1, b, e1, e2, e3⟩
      · cases h
    · cases h
  · cases h
section
variable {c : Ct} {e1 e2 e3 : Expr} {x1 x2 x3 : Ex} {pos : Pos} {f g : D → D → Option D} {op op' : Operator} {co co' : CmpOp}

theorem op2_read {X : Cx} {r : R2} {a b d : D} {ρ : Env} {ω ω1 ω' : Om}
    (hr : ∀ Φ v1 v2 H G ω a b d Q, Wd c.p0 Φ G H ω → Rep c.ν c.p0 G v1 a → Rep c.ν c.p0 G v2 b → f a b = some d → OK1 c Φ G H ω d Q → r v1 v2 H Q) (e : f a b = some d) (σ : L2.St) (H : Hp) (Q : VK)
    (q : rd c.ν c.p0 ρ ω d ω' σ H Q) : tOp r (rd c.ν c.p0 ρ ω a ω1) (rd c.ν c.p0 ρ ω1 b ω') σ H Q := by
  obtain ⟨Φ, G, W, E, k⟩ := q
  refine ⟨Φ, G, W, E, fun v1 H1 G1 l1 W1 r1 => ⟨Φ, G1, W1, E.up l1, fun v2 H2 G2 l2 W2 r2 => ?_⟩⟩
  exact hr Φ v1 v2 H2 G2 ω' a b d Q W2 (r1.up l2) r2 e fun v H' G' l' W' r' => k v H' G' (l1.trans (l2.trans l')) W' r'
theorem s_bin (o : Op2 c (binaryOp op) f) (h1 : Snd c e1 x1) (h2 : Snd c e2 x2) : Snd c (.BinOp e1 op e2 pos) (xBin f x1 x2) := fun X F ρ ω d ω' h => by
  obtain ⟨a, ω1, b, h3, h4, h5⟩ := xBin_some h
  obtain ⟨r, hr, hq⟩ := o X F
  exact pe_mono (pe_op hr (h1 X F _ _ _ _ h3) (h2 X F _ _ _ _ h4)) fun σ H Q q => op2_read (X := X) hq h5 σ H Q q
theorem s_cmp (o : Op2 c (compareOp co) f) (h1 : Snd c e1 x1) (h2 : Snd c e2 x2) (hm : behindInMarks co e2 = false := by first | exact nomark _ | rfl) : Snd c (.Compare e1 [co] [e2] pos) (xBin f x1 x2) := fun X F ρ ω d ω' h => by
  obtain ⟨a, ω1, b, h3, h4, h5⟩ := xBin_some h
  obtain ⟨r, hr, hq⟩ := o X F
  exact pe_mono (pe_cmpR hr (h1 X F _ _ _ _ h3) (h2 X F _ _ _ _ h4) hm) fun σ H Q q => op2_read (X := X) hq h5 σ H Q q
theorem t_cmp (o : Op2 c (compareOp co) f) (h1 : Snd c e1 x1) (h2 : Snd c e2 x2) (hm : behindInMarks co e2 = false := by first | exact nomark _ | rfl) : SndT c (.Compare e1 [co] [e2] pos) (xBin f x1 x2) := fun X F ρ ω d ω' h => by
  obtain ⟨a, ω1, b, h3, h4, h5⟩ := xBin_some h
  obtain ⟨r, hr, hq⟩ := o X F
  refine pt_mono (pt_cmpR hr (h1 X F _ _ _ _ h3) (h2 X F _ _ _ _ h4) hm) fun σ H Q q => ?_
  obtain ⟨Φ, G, W, E, k⟩ := q
  refine op2_read (X := X) hq h5 σ H _ ⟨Φ, G, W, E, fun v H' G' l' W' r' => ?_⟩
  cases r'
  exact ⟨_, rfl, k H' G' l' W'⟩
theorem pe_no {X : Cx} {e : Expr} : PE X e (fun _ _ _ => False) := ⟨fun _ _ _ _ _ _ h => h.elim⟩
theorem pw_no {X : Cx} {e : Expr} : PW X e (fun _ _ _ => False) := ⟨fun _ _ _ _ _ _ _ h => h.elim⟩
/-- a op b op' c -/
def xChain (f g : D → D → Option D) (x y z : Ex) : Ex := fun ρ ω => match x ρ ω with
  | some (a, ω1) => match y ρ ω1 with
    | some (b, ω2) => match f a b with
      | some (.bl true) => match z ρ ω2 with
        | some (d, ω3) => match g b d with
          | some r => some (r, ω3)
          | none => none
        | none => none
      | some (.bl false) => some (.bl false, ω2)
      | _ => none
    | none => none
  | none => none
theorem chain_read {X : Cx} {r r' : R2} {ρ : Env} {ω ω1 ω2 ω' : Om} {a b d : D} {k : Bool} {tc : TE}
    (hr : ∀ Φ v1 v2 H G ω a b d Q, Wd c.p0 Φ G H ω → Rep c.ν c.p0 G v1 a → Rep c.ν c.p0 G v2 b → f a b = some d → OK1 c Φ G H ω d Q → r v1 v2 H Q)
    (hr' : ∀ Φ v1 v2 H G ω a b d Q, Wd c.p0 Φ G H ω → Rep c.ν c.p0 G v1 a → Rep c.ν c.p0 G v2 b → g a b = some d → OK1 c Φ G H ω d Q → r' v1 v2 H Q)
    (e : f a b = some (.bl k)) (ez : (k = true → ∃ z, tc = rd c.ν c.p0 ρ ω2 z ω' ∧ g b z = some d) ∧ (k = false → ω2 = ω' ∧ d = .bl false)) (σ : L2.St) (H : Hp) (Q : VK)
    (q : rd c.ν c.p0 ρ ω d ω' σ H Q) : tChain r r' (rd c.ν c.p0 ρ ω a ω1) (rd c.ν c.p0 ρ ω1 b ω2) tc σ H Q := by
  obtain ⟨Φ, G, W, E, kk⟩ := q
  refine ⟨Φ, G, W, E, fun v1 H1 G1 l1 W1 r1 => ⟨Φ, G1, W1, E.up l1, fun v2 H2 G2 l2 W2 r2 => ?_⟩⟩
  refine hr Φ v1 v2 H2 G2 ω2 a b _ _ W2 (r1.up l2) r2 e fun v H' G' l' W' r' => ?_
  cases r'
  refine ⟨k, rfl, ?_⟩
  cases k with
  | false =>
    obtain ⟨e1, e2⟩ := ez.2 rfl
    subst e1 e2
    exact iteF (kk _ _ G' (l1.trans (l2.trans l')) W' (.bl false))
  | true =>
    obtain ⟨z, e1, e2⟩ := ez.1 rfl
    subst e1
    refine iteT ⟨Φ, G', W', E.up (l1.trans (l2.trans l')), fun v3 H3 G3 l3 W3 r3 => ?_⟩
    exact hr' Φ v2 v3 H3 G3 ω' b z d Q W3 (r2.up (l'.trans l3)) r3 e2 fun v H4 G4 l4 W4 r4 => kk v H4 G4 (l1.trans (l2.trans (l'.trans (l3.trans l4)))) W4 r4
theorem xChain_some {x y z : Ex} {ρ : Env} {ω ω' : Om} {d : D} (h : xChain f g x y z ρ ω = some (d, ω')) : ∃ a ω1 b ω2 k, x ρ ω = some (a, ω1) ∧ y ρ ω1 = some (b, ω2) ∧ f a b = some (.bl k) ∧
    (k = true → ∃ t, z ρ ω2 = some (t, ω') ∧ g b t = some d) ∧ (k = false → ω2 = ω' ∧ d = .bl false) := by
  unfold xChain at h
  split at h
  · rename_i a ω1 e1
    split at h
    · rename_i b ω2 e2
      split at h
      · rename_i e3
        split at h
        · rename_i t ω3 e4
          split at h
          · rename_i r e5
            cases h
            exact ⟨a, ω1, b, ω2, true, e1, e2, e3, fun _ => ⟨t, e4, e5⟩, fun z => by cases z⟩
          · cases h
        · cases h
      · rename_i e3
        cases h
        exact ⟨a, ω1, b, _, false, e1, e2, e3, (fun z => by cases z), fun _ => ⟨rfl, rfl⟩⟩
      · cases h
    · cases h
  · cases h
theorem s_chain (o : Op2 c (compareOp co) f) (o' : Op2 c (compareOp co') g) (h1 : Snd c e1 x1) (h2 : Snd c e2 x2) (h3 : Snd c e3 x3) (hm : lastMarks [co, co'] [e2, e3] = false := by with_unfolding_all rfl) :
    Snd c (.Compare e1 [co, co'] [e2, e3] pos) (xChain f g x1 x2 x3) := fun X F ρ ω d ω' h => by
  obtain ⟨a, ω1, b, ω2, k, q1, q2, q3, q4, q5⟩ := xChain_some h
  obtain ⟨r, hr, hq⟩ := o X F
  obtain ⟨r', hr', hq'⟩ := o' X F
  cases k with
  | true =>
    obtain ⟨t, q6, q7⟩ := q4 rfl
    exact pe_mono (pe_chain hr hr' (h1 X F _ _ _ _ q1) (h2 X F _ _ _ _ q2) (h3 X F _ _ _ _ q6) hm) fun σ H Q q => chain_read (X := X) hq hq' q3 ⟨fun _ => ⟨t, rfl, q7⟩, fun z => by cases z⟩ σ H Q q
  | false =>
    exact pe_mono (pe_chain (tc := fun _ _ _ => False) hr hr' (h1 X F _ _ _ _ q1) (h2 X F _ _ _ _ q2) pe_no hm) fun σ H Q q => chain_read (X := X) (ρ := ρ) hq hq' q3 ⟨(fun z => by cases z), fun _ => q5 rfl⟩ σ H Q q
theorem t_chain (o : Op2 c (compareOp co) f) (o' : Op2 c (compareOp co') g) (h1 : Snd c e1 x1) (h2 : Snd c e2 x2) (h3 : Snd c e3 x3) (hm : lastMarks [co, co'] [e2, e3] = false := by with_unfolding_all rfl) :
    SndT c (.Compare e1 [co, co'] [e2, e3] pos) (xChain f g x1 x2 x3) := fun X F ρ ω d ω' h => by
  obtain ⟨a, ω1, b, ω2, k, q1, q2, q3, q4, q5⟩ := xChain_some h
  obtain ⟨r, hr, hq⟩ := o X F
  obtain ⟨r', hr', hq'⟩ := o' X F
  have fin : ∀ (σ : L2.St) (H : Hp) (Q : Bool → Hp → Prop), rdT c.ν c.p0 ρ ω d ω' σ H Q → rd c.ν c.p0 ρ ω (.bl d) ω' σ H fun x H' => ∃ k, x = .bl k ∧ Q k H' := fun σ H Q q => by
    obtain ⟨Φ, G, W, E, k⟩ := q
    refine ⟨Φ, G, W, E, fun v H' G' l W' r => ?_⟩
    cases r
    exact ⟨_, rfl, k _ _ l W'⟩
  cases k with
  | true =>
    obtain ⟨t, q6, q7⟩ := q4 rfl
    exact pt_mono (pt_chain hr hr' (h1 X F _ _ _ _ q1) (h2 X F _ _ _ _ q2) (h3 X F _ _ _ _ q6) hm) fun σ H Q q => chain_read (X := X) hq hq' q3 ⟨fun _ => ⟨t, rfl, q7⟩, fun z => by cases z⟩ σ H _ (fin σ H Q q)
  | false =>
    exact pt_mono (pt_chain (tc := fun _ _ _ => False) hr hr' (h1 X F _ _ _ _ q1) (h2 X F _ _ _ _ q2) pe_no hm) fun σ H Q q => chain_read (X := X) (ρ := ρ) hq hq' q3 ⟨(fun z => by cases z), fun _ => q5 rfl⟩ σ H _ (fin σ H Q q)
end

/-! ### and, or, not, a if t else b -/
def xAnd (x y : Ex) : Ex := fun ρ ω => match x ρ ω with
  | some (.bl true, ω1) => y ρ ω1
  | some (.bl false, ω1) => some (.bl false, ω1)
  | _ => none
def xOr (x y : Ex) : Ex := fun ρ ω => match x ρ ω with
  | some (.bl false, ω1) => y ρ ω1
  | some (.bl true, ω1) => some (.bl true, ω1)
  | _ => none
def xNot (x : Ex) : Ex := fun ρ ω => match x ρ ω with
  | some (.bl b, ω1) => some (.bl (!b), ω1)
  | _ => none
def xIf (t x y : Ex) : Ex := fun ρ ω => match t ρ ω with
  | some (.bl true, ω1) => x ρ ω1
  | some (.bl false, ω1) => y ρ ω1
  | _ => none
theorem xAnd_some {x y : Ex} {ρ : Env} {ω ω' : Om} {d : D} (h : xAnd x y ρ ω = some (d, ω')) : ∃ ω1 b, x ρ ω = some (.bl b, ω1) ∧ (b = true → y ρ ω1 = some (d, ω')) ∧ (b = false → d = .bl false ∧ ω1 = ω') := by
  unfold xAnd at h
  split at h
  · rename_i ω1 e; exact ⟨ω1, true, e, fun _ => h, fun z => by cases z⟩
  · rename_i ω1 e; cases h; exact ⟨_, false, e, (fun z => by cases z), fun _ => ⟨rfl, rfl⟩⟩
  · cases h
theorem xOr_some {x y : Ex} {ρ : Env} {ω ω' : Om} {d : D} (h : xOr x y ρ ω = some (d, ω')) : ∃ ω1 b, x ρ ω = some (.bl b, ω1) ∧ (b = false → y ρ ω1 = some (d, ω')) ∧ (b = true → d = .bl true ∧ ω1 = ω') := by
  unfold xOr at h
  split at h
  · rename_i ω1 e; exact ⟨ω1, false, e, (fun _ => h), fun z => by cases z⟩
  · rename_i ω1 e; cases h; exact ⟨_, true, e, (fun z => by cases z), fun _ => ⟨rfl, rfl⟩⟩
  · cases h
theorem xNot_some {x : Ex} {ρ : Env} {ω ω' : Om} {d : D} (h : xNot x ρ ω = some (d, ω')) : ∃ b, x ρ ω = some (.bl b, ω') ∧ d = .bl (!b) := by
  unfold xNot at h
  split at h
  · rename_i b ω1 e; cases h; exact ⟨b, e, rfl⟩
  · cases h
theorem xIf_some {t x y : Ex} {ρ : Env} {ω ω' : Om} {d : D} (h : xIf t x y ρ ω = some (d, ω')) : ∃ ω1 b, t ρ ω = some (.bl b, ω1) ∧ (b = true → x ρ ω1 = some (d, ω')) ∧ (b = false → y ρ ω1 = some (d, ω')) := by
  unfold xIf at h
  split at h
  · rename_i ω1 e; exact ⟨ω1, true, e, (fun _ => h), fun z => by cases z⟩
  · rename_i ω1 e; exact ⟨ω1, false, e, (fun z => by cases z), fun _ => h⟩
  · cases h
/-- a chain of and, or, as a test: the rest -/
def SndW (c : Ct) (e : Expr) (x : Ex) : Prop := ∀ X, Fits c X → ∀ ρ ω b ω', x ρ ω = some (.bl b, ω') → PW X e (rdT c.ν c.p0 ρ ω b ω')
section
variable {c : Ct} {e1 e2 e3 : Expr} {x1 x2 x3 : Ex} {pos : Pos} {es : List Expr}
theorem s_one {op} (h : Snd c e1 x1) : Snd c (.BoolOp op [e1] pos) x1 := fun X F ρ ω d ω' q => pe_one (h X F ρ ω d ω' q)
theorem s_and (h1 : Snd c e1 x1) (h2 : Snd c (.BoolOp .And (e2 :: es) pos) x2) : Snd c (.BoolOp .And (e1 :: e2 :: es) pos) (xAnd x1 x2) := fun X F ρ ω d ω' h => by
  obtain ⟨ω1, b, q1, q2, q3⟩ := xAnd_some h
  cases b with
  | true =>
    refine pe_mono (pe_and (h1 X F _ _ _ _ q1) (h2 X F _ _ _ _ (q2 rfl))) fun σ H Q q => ?_
    obtain ⟨Φ, G, W, E, k⟩ := q
    refine ⟨Φ, G, W, E, fun v H' G' l W' r => ?_⟩
    cases r
    exact ⟨true, rfl, iteT ⟨Φ, G', W', E.up l, fun v H2 G2 l2 W2 r2 => k v H2 G2 (l.trans l2) W2 r2⟩⟩
  | false =>
    obtain ⟨e, e'⟩ := q3 rfl
    subst e e'
    refine pe_mono (pe_and (tb := fun _ _ _ => False) (h1 X F _ _ _ _ q1) pe_no) fun σ H Q q => ?_
    obtain ⟨Φ, G, W, E, k⟩ := q
    refine ⟨Φ, G, W, E, fun v H' G' l W' r => ?_⟩
    cases r
    exact ⟨false, rfl, iteF (k _ _ G' l W' (.bl false))⟩
theorem s_or (h1 : Snd c e1 x1) (h2 : Snd c (.BoolOp .Or (e2 :: es) pos) x2) : Snd c (.BoolOp .Or (e1 :: e2 :: es) pos) (xOr x1 x2) := fun X F ρ ω d ω' h => by
  obtain ⟨ω1, b, q1, q2, q3⟩ := xOr_some h
  cases b with
  | false =>
    refine pe_mono (pe_or (h1 X F _ _ _ _ q1) (h2 X F _ _ _ _ (q2 rfl))) fun σ H Q q => ?_
    obtain ⟨Φ, G, W, E, k⟩ := q
    refine ⟨Φ, G, W, E, fun v H' G' l W' r => ?_⟩
    cases r
    exact ⟨false, rfl, iteF ⟨Φ, G', W', E.up l, fun v H2 G2 l2 W2 r2 => k v H2 G2 (l.trans l2) W2 r2⟩⟩
  | true =>
    obtain ⟨e, e'⟩ := q3 rfl
    subst e e'
    refine pe_mono (pe_or (tb := fun _ _ _ => False) (h1 X F _ _ _ _ q1) pe_no) fun σ H Q q => ?_
    obtain ⟨Φ, G, W, E, k⟩ := q
    refine ⟨Φ, G, W, E, fun v H' G' l W' r => ?_⟩
    cases r
    exact ⟨true, rfl, iteT (k _ _ G' l W' (.bl true))⟩
theorem s_not (h1 : Snd c e1 x1) : Snd c (.UnaryOp .Not e1 pos) (xNot x1) := fun X F ρ ω d ω' h => by
  obtain ⟨b, q1, e⟩ := xNot_some h
  subst e
  refine pe_mono (pe_not (h1 X F _ _ _ _ q1)) fun σ H Q q => ?_
  obtain ⟨Φ, G, W, E, k⟩ := q
  refine ⟨Φ, G, W, E, fun v H' G' l W' r => ?_⟩
  cases r
  exact ⟨b, rfl, k _ _ G' l W' (.bl _)⟩
theorem s_if (h0 : SndT c e1 x1) (h1 : Snd c e2 x2) (h2 : Snd c e3 x3) : Snd c (.IfExp e1 e2 e3 pos) (xIf x1 x2 x3) := fun X F ρ ω d ω' h => by
  obtain ⟨ω1, b, q1, q2, q3⟩ := xIf_some h
  cases b with
  | true =>
    refine pe_mono (pe_ifExp (tb := fun _ _ _ => False) (h0 X F _ _ _ _ q1) (h1 X F _ _ _ _ (q2 rfl)) pe_no) fun σ H Q q => ?_
    obtain ⟨Φ, G, W, E, k⟩ := q
    exact ⟨Φ, G, W, E, fun H' G' l W' => iteT ⟨Φ, G', W', E.up l, fun v H2 G2 l2 W2 r2 => k v H2 G2 (l.trans l2) W2 r2⟩⟩
  | false =>
    refine pe_mono (pe_ifExp (ta := fun _ _ _ => False) (h0 X F _ _ _ _ q1) pe_no (h2 X F _ _ _ _ (q3 rfl))) fun σ H Q q => ?_
    obtain ⟨Φ, G, W, E, k⟩ := q
    exact ⟨Φ, G, W, E, fun H' G' l W' => iteF ⟨Φ, G', W', E.up l, fun v H2 G2 l2 W2 r2 => k v H2 G2 (l.trans l2) W2 r2⟩⟩
/-- a test by its value -/
theorem t_val (h : Snd c e1 x1) (he : ∀ env whole, isTrue e1 env whole = (do let v ← whole; standAt e1.pos; holding [v] (truthy v)) := by intro _ _; rfl) : SndT c e1 x1 := fun X F ρ ω b ω' q => by
  refine pt_mono (pt_val (h X F ρ ω _ ω' q) (he _)) fun σ H Q q => ?_
  obtain ⟨Φ, G, W, E, k⟩ := q
  refine ⟨Φ, G, W, E, fun v H' G' l W' r => ?_⟩
  cases r
  exact ⟨b, rfl, k _ _ l W'⟩
theorem t_not (h1 : SndT c e1 x1) : SndT c (.UnaryOp .Not e1 pos) (xNot x1) := fun X F ρ ω b ω' h => by
  obtain ⟨b', q1, e⟩ := xNot_some h
  cases e
  refine pt_mono (pt_not (h1 X F _ _ _ _ q1)) fun σ H Q q => ?_
  obtain ⟨Φ, G, W, E, k⟩ := q
  exact ⟨Φ, G, W, E, fun H' G' l W' => k _ G' l W'⟩
theorem t_w (h : SndW c e1 x1) : SndT c e1 x1 := fun X F ρ ω b ω' q => (h X F ρ ω b ω' q).pt
theorem w_and1 (h : SndT c e1 x1) : SndW c (.BoolOp .And [e1] pos) x1 := fun X F ρ ω b ω' q => pw_and1 (h X F ρ ω b ω' q)
theorem w_or1 (h : SndT c e1 x1) : SndW c (.BoolOp .Or [e1] pos) x1 := fun X F ρ ω b ω' q => pw_or1 (h X F ρ ω b ω' q)
theorem w_and (h1 : SndT c e1 x1) (h2 : SndW c (.BoolOp .And (e2 :: es) pos) x2) : SndW c (.BoolOp .And (e1 :: e2 :: es) pos) (xAnd x1 x2) := fun X F ρ ω d ω' h => by
  obtain ⟨ω1, b, q1, q2, q3⟩ := xAnd_some h
  cases b with
  | true =>
    refine pw_mono (pw_and (h1 X F _ _ _ _ q1) (h2 X F _ _ _ _ (q2 rfl))) fun σ H Q q => ?_
    obtain ⟨Φ, G, W, E, k⟩ := q
    exact ⟨Φ, G, W, E, fun H' G' l W' => iteT ⟨Φ, G', W', E.up l, fun H2 G2 l2 W2 => k H2 G2 (l.trans l2) W2⟩⟩
  | false =>
    obtain ⟨e, e'⟩ := q3 rfl
    cases e; subst e'
    refine pw_mono (pw_and (tB' := fun _ _ _ => False) (h1 X F _ _ _ _ q1) pw_no) fun σ H Q q => ?_
    obtain ⟨Φ, G, W, E, k⟩ := q
    exact ⟨Φ, G, W, E, fun H' G' l W' => iteF (k _ G' l W')⟩
theorem w_or (h1 : SndT c e1 x1) (h2 : SndW c (.BoolOp .Or (e2 :: es) pos) x2) : SndW c (.BoolOp .Or (e1 :: e2 :: es) pos) (xOr x1 x2) := fun X F ρ ω d ω' h => by
  obtain ⟨ω1, b, q1, q2, q3⟩ := xOr_some h
  cases b with
  | false =>
    refine pw_mono (pw_or (h1 X F _ _ _ _ q1) (h2 X F _ _ _ _ (q2 rfl))) fun σ H Q q => ?_
    obtain ⟨Φ, G, W, E, k⟩ := q
    exact ⟨Φ, G, W, E, fun H' G' l W' => iteF ⟨Φ, G', W', E.up l, fun H2 G2 l2 W2 => k H2 G2 (l.trans l2) W2⟩⟩
  | true =>
    obtain ⟨e, e'⟩ := q3 rfl
    cases e; subst e'
    refine pw_mono (pw_or (tB' := fun _ _ _ => False) (h1 X F _ _ _ _ q1) pw_no) fun σ H Q q => ?_
    obtain ⟨Φ, G, W, E, k⟩ := q
    exact ⟨Φ, G, W, E, fun H' G' l W' => iteT (k _ G' l W')⟩
end

/-! ### arguments, displays -/
def aNil : Exs := fun _ ω => some ([], ω)
def aCons (x : Ex) (y : Exs) : Exs := fun ρ ω => match x ρ ω with
  | some (d, ω1) => match y ρ ω1 with
    | some (ds, ω2) => some (d :: ds, ω2)
    | none => none
  | none => none
theorem aCons_some {x : Ex} {y : Exs} {ρ : Env} {ω ω' : Om} {ds : List D} (h : aCons x y ρ ω = some (ds, ω')) : ∃ d ω1 r, x ρ ω = some (d, ω1) ∧ y ρ ω1 = some (r, ω') ∧ ds = d :: r := by
  unfold aCons at h
  split at h
  · rename_i d ω1 e1
    split at h
    · rename_i r ω2 e2
      cases h
      exact ⟨d, ω1, r, e1, e2, rfl⟩
    · cases h
  · cases h
def lim : Nat := 1000000
theorem lim_ok : lim < sizeLine := by rw [sizeLine_eq]; decide
def xTup (y : Exs) : Ex := fun ρ ω => match y ρ ω with
  | some (ds, ω1) => match Nat.ble ds.length lim with
    | true => some (.tup ds, ω1)
    | false => none
  | none => none
def yLst (y : Exs) : Exs := fun ρ ω => match y ρ ω with
  | some (ds, ω1) => match Nat.ble ds.length lim with
    | true => some (ds, ω1)
    | false => none
  | none => none
/-- a new list, frozen at once -/
def xL (y : Exs) : Ex := fun ρ ω => match y ρ ω with
  | some (ds, ω1) => some (.lst ds, ω1)
  | none => none
section
variable {c : Ct} {e : Expr} {es : List Expr} {x : Ex} {y : Exs} {pos : Pos}
theorem a_nil : SndA c [] aNil := fun X F ρ ω ds ω' h => by
  cases h
  exact pa_mono pa_nil fun σ H Q ⟨Φ, G, W, E, k⟩ => k _ H G (Le.refl G) W .nil
theorem a_cons (h1 : Snd c e x) (h2 : SndA c es y) (hs : ∀ env, starEach (e :: es) env = (false, eval e env) :: starEach es env := by intro _; rfl) : SndA c (e :: es) (aCons x y) := fun X F ρ ω ds ω' h => by
  obtain ⟨d, ω1, r, q1, q2, e⟩ := aCons_some h
  subst e
  refine pa_mono (pa_cons (h1 X F _ _ _ _ q1) (h2 X F _ _ _ _ q2) (hs _)) fun σ H Q q => ?_
  obtain ⟨Φ, G, W, E, k⟩ := q
  exact ⟨Φ, G, W, E, fun v H1 G1 l1 W1 r1 => ⟨Φ, G1, W1, E.up l1, fun vs H2 G2 l2 W2 r2 => k _ H2 G2 (l1.trans l2) W2 (.cons (r1.up l2) r2)⟩⟩
theorem s_tup {k : Nat} (h : SndA c es y) : Snd c (.Tuple es k pos) (xTup y) := fun X F ρ ω d ω' q => by
  unfold xTup at q
  split at q
  · rename_i ds ω1 e1
    split at q
    · rename_i hl
      cases q
      refine pe_mono (pe_tup (h X F _ _ _ _ e1)) fun σ H Q q => ?_
      obtain ⟨Φ, G, W, E, k⟩ := q
      refine ⟨Φ, G, W, E, fun vs H1 G1 l1 W1 r1 => ⟨?_, fun p hp => ?_⟩⟩
      · have := Nat.le_of_ble_eq_true hl; have := lim_ok; rw [r1.length]; omega
      · exact k _ _ _ (l1.trans (W1.newG hp)) (W1.newT hp) (.tup upd_same (r1.up (W1.newG hp)))
    · cases q
  · cases q
theorem l_lst (h : SndA c es y) : SndL c (.List es pos) (yLst y) := fun X F ρ ω d ω' q => by
  unfold yLst at q
  split at q
  · rename_i ds ω1 e1
    split at q
    · rename_i hl
      cases q
      refine pe_mono (pe_lst (h X F _ _ _ _ e1)) fun σ H Q q => ?_
      obtain ⟨Φ, G, W, E, k⟩ := q
      refine ⟨Φ, G, W, E, fun vs H1 G1 l1 W1 r1 => ⟨?_, fun p hp => ?_⟩⟩
      · have := Nat.le_of_ble_eq_true hl; have := lim_ok; rw [r1.length]; omega
      · exact k p vs _ _ l1 (W1.framed hp) (fun u z => by have := (W1.fr p u z).1; rw [hp] at this; cases this) r1
    · cases q
  · cases q
/-- a new list, frozen -/
theorem rdL_rd {ν : Nu} {p0 : Addr} {ρ : Env} {ω ω' : Om} {ds : List D} {σ : L2.St} {H : Hp} {Q : VK} (q : rd ν p0 ρ ω (.lst ds) ω' σ H Q) : rdL ν p0 ρ ω ds ω' σ H Q := by
  obtain ⟨Φ, G, W, E, k⟩ := q
  refine ⟨Φ, G, W, E, fun a vs H' G' l W' nf r => ?_⟩
  obtain ⟨h1, h2⟩ := W'.fr a _ (.inr ⟨rfl, rfl⟩)
  have l2 : Le G' (upd G' a (.lst vs)) := Le.upd h2
  exact k _ H' _ (l.trans l2) (Wd.freeze (Ψ := fun b u => b = a ∧ u = .lst vs) W' ⟨rfl, rfl⟩ nf h1) (.lst upd_same (r.up l2))
theorem s_l (h : SndL c e y) : Snd c e (xL y) := fun X F ρ ω d ω' q => by
  unfold xL at q
  split at q
  · rename_i ds ω1 e1
    cases q
    exact pe_mono (h X F _ _ _ _ e1) fun σ H Q q => rdL_rd q
  · cases q
end
end Q

set_option Elab.async false
set_option linter.all false
set_option maxRecDepth 100000
/-! QD: the operators one uses, subscripts, slices, built-ins. -/
namespace Q
open PySem PySem.Spec PyProof.Rows L2
open PySem.PyData (strOk)

/-! ### numbers, lists -/
def fAdd : D → D → Option D
  | .int i, .int j => some (.int (i + j))
  | .lst xs, .lst ys => match Nat.ble (xs.length + ys.length) lim with
    | true => some (.lst (xs ++ ys))
    | false => none
  | .str x, .str y => match Nat.ble (x.length + y.length) lim with
    | true => some (.str (x ++ y))
    | false => none
  | _, _ => none
def fSub : D → D → Option D
  | .int i, .int j => some (.int (i - j))
  | _, _ => none
section
variable {c : Ct}
theorem o_add : Op2 c (binaryOp .Add) fAdd := fun X F => ⟨_, op_add.or (op_cat.or op_add_str), fun Φ v1 v2 H G ω a b d Q W r1 r2 e k => by
  unfold fAdd at e
  split at e
  · cases e; cases r1; cases r2
    exact .inl ⟨_, _, rfl, rfl, k _ H G (Le.refl G) W (.int _)⟩
  · rename_i xs ys
    split at e
    · rename_i hl
      cases e
      cases r1 with
      | lst e1 s1 =>
        cases r2 with
        | lst e2 s2 =>
          have hl := Nat.le_of_ble_eq_true hl
          have := lim_ok
          refine .inr (.inl ⟨_, _, _, _, rfl, rfl, W.lst e1, W.lst e2, by rw [s1.length, s2.length]; omega, fun p hp => ?_⟩)
          exact k _ _ _ (W.newG hp) (W.newL hp) (.lst upd_same ((s1.app s2).up (W.newG hp)))
    · cases e
  · rename_i x y
    split at e
    · rename_i hl
      cases e
      cases r1; cases r2
      have hl := Nat.le_of_ble_eq_true hl
      have := lim_ok
      exact .inr (.inr ⟨_, _, rfl, rfl, by omega, k _ H G (Le.refl G) W (.str _)⟩)
    · cases e
  · cases e⟩
theorem o_sub : Op2 c (binaryOp .Sub) fSub := fun X F => ⟨_, op_sub, fun Φ v1 v2 H G ω a b d Q W r1 r2 e k => by
  unfold fSub at e
  split at e
  · cases e; cases r1; cases r2
    exact ⟨_, _, rfl, rfl, k _ H G (Le.refl G) W (.int _)⟩
  · cases e⟩
end

/-! ### comparisons -/
def ob (o : Option Bool) : Option D := match o with | some b => some (.bl b) | none => none
def obn (o : Option Bool) : Option D := match o with | some b => some (.bl (!b)) | none => none
/-- flat texts and numbers first, any depth else -/
def fEqB (a b : D) : Option Bool := match a, b with
  | .str x, .str y => some (strEq x y)
  | .int i, .int j => some (decide (i = j))
  | .bl i, .bl j => some (i == j)
  | .atm i, .atm j => some (Nat.beq i j)
  | a, b => dEq a b
def fEq (a b : D) : Option D := ob (fEqB a b)
def fNe (a b : D) : Option D := obn (fEqB a b)
section
variable {c : Ct}
theorem eqB_cases {ν : Nu} {p0 : Addr} {Φ : Fr} {G H : Hp} {ω : Om} {K : PySem.W.Frag} (W : Wd p0 Φ G H ω) (hν : NuOk ν) {a b : D} {r : Bool} {va vb : V} (ra : Rep ν p0 G va a) (rb : Rep ν p0 G vb b) (h : fEqB a b = some r) :
    (scal va vb = true ∧ decide (va = vb) = r) ∨ ∃ d e, Dp K H va d ∧ Dp K H vb e ∧ SeqAt.shaped d = true ∧ SeqAt.shaped e = true ∧ PyData.eqv d e = r := by
  unfold fEqB at h
  split at h
  · cases h; cases ra; cases rb
    left
    refine ⟨rfl, ?_⟩
    rw [strEq_ok, Bool.eq_iff_iff]; simp
  · cases h; cases ra; cases rb
    left
    refine ⟨rfl, ?_⟩
    rw [Bool.eq_iff_iff]; simp
  · cases h; cases ra; cases rb
    left
    refine ⟨rfl, ?_⟩
    rw [Bool.eq_iff_iff]; simp
  · cases h
    cases ra with
    | atm e =>
      cases rb with
      | atm e' =>
        left
        refine ⟨rfl, ?_⟩
        rw [Bool.eq_iff_iff, decide_eq_true_iff]
        constructor
        · intro q
          cases q
          rw [hν.inj e e']
          exact Nat.beq_refl _
        · intro q
          have q' := Nat.eq_of_beq_eq_true q
          rw [q', e'] at e
          cases e; rfl
  · right
    obtain ⟨h1, h2, h3, h4, h5⟩ := dEq_ok (K := K) W hν ra rb h
    exact ⟨_, _, h1, h2, h3, h4, h5⟩
theorem o_eq (hν : NuOk c.ν) : Op2 c (compareOp .Eq) fEq := fun X F => ⟨_, op_eq.or (op_eqD (F.room.units)), fun Φ v1 v2 H G ω a b d Q W r1 r2 e k => by
  unfold fEq ob at e
  split at e
  · rename_i r h
    cases e
    rcases eqB_cases (K := X.K) W hν r1 r2 h with ⟨h1, h2⟩ | ⟨d, e, h1, h2, h3, h4, h5⟩
    · exact .inl ⟨h1, by rw [h2]; exact k _ H G (Le.refl G) W (.bl _)⟩
    · exact .inr ⟨d, e, h1, h2, h3, h4, by rw [h5]; exact k _ H G (Le.refl G) W (.bl _)⟩
  · cases e⟩
theorem o_ne (hν : NuOk c.ν) : Op2 c (compareOp .NotEq) fNe := fun X F => ⟨_, op_ne.or (op_neD (F.room.units)), fun Φ v1 v2 H G ω a b d Q W r1 r2 e k => by
  unfold fNe obn at e
  split at e
  · rename_i r h
    cases e
    rcases eqB_cases (K := X.K) W hν r1 r2 h with ⟨h1, h2⟩ | ⟨d, e, h1, h2, h3, h4, h5⟩
    · exact .inl ⟨h1, by rw [h2]; exact k _ H G (Le.refl G) W (.bl _)⟩
    · exact .inr ⟨d, e, h1, h2, h3, h4, by rw [h5]; exact k _ H G (Le.refl G) W (.bl _)⟩
  · cases e⟩
end
def fLt : D → D → Option D
  | .int i, .int j => some (.bl (decide (i < j)))
  | .atm i, .atm j => some (.bl (Nat.blt i j))
  | _, _ => none
def fGt : D → D → Option D
  | .int i, .int j => some (.bl (decide (j < i)))
  | .atm i, .atm j => some (.bl (Nat.blt j i))
  | _, _ => none
def fLe : D → D → Option D
  | .int i, .int j => some (.bl (decide (i ≤ j)))
  | _, _ => none
def fGe : D → D → Option D
  | .int i, .int j => some (.bl (decide (j ≤ i)))
  | _, _ => none
def isNon : D → Bool
  | .non => true
  | _ => false
def fIsN : D → D → Option D
  | a, .non => some (.bl (isNon a))
  | _, _ => none
def fNotN : D → D → Option D
  | a, .non => some (.bl (!isNon a))
  | _, _ => none
theorem Nat.blt_dec (i j : Nat) : Nat.blt i j = decide (i < j) := by
  rw [Bool.eq_iff_iff]
  simp [Nat.blt, Nat.ble_eq, Nat.succ_le_iff]
section
variable {c : Ct}
theorem op_gt_strQ {X : Cx} : OpR X (compareOp .Gt) (fun x y H Q => ∃ i j, x = .str i ∧ y = .str j ∧ Q (.bl (decide (j.cps.toList < i.cps.toList))) H) := by
  intro pins s σ H x y v u Q I rx ry h
  obtain ⟨i, j, rfl, rfl, q⟩ := h
  obtain ⟨t, rfl⟩ := rx
  obtain ⟨t', rfl⟩ := ry
  exact PySem.P.gt_str (fin_bl I q rfl)
theorem o_lt (hν : NuOk c.ν) : Op2 c (compareOp .Lt) fLt := fun X F => ⟨_, op_lt.or op_lt_str, fun Φ v1 v2 H G ω a b d Q W r1 r2 e k => by
  unfold fLt at e
  split at e
  · cases e; cases r1; cases r2
    exact .inl ⟨_, _, rfl, rfl, k _ H G (Le.refl G) W (.bl _)⟩
  · cases e
    cases r1 with
    | atm e1 =>
      cases r2 with
      | atm e2 =>
        refine .inr ⟨_, _, rfl, rfl, ?_⟩
        rw [hν.lt e1 e2, ← Nat.blt_dec]
        exact k _ H G (Le.refl G) W (.bl _)
  · cases e⟩
theorem o_gt (hν : NuOk c.ν) : Op2 c (compareOp .Gt) fGt := fun X F => ⟨_, op_gt.or op_gt_strQ, fun Φ v1 v2 H G ω a b d Q W r1 r2 e k => by
  unfold fGt at e
  split at e
  · cases e; cases r1; cases r2
    exact .inl ⟨_, _, rfl, rfl, k _ H G (Le.refl G) W (.bl _)⟩
  · cases e
    cases r1 with
    | atm e1 =>
      cases r2 with
      | atm e2 =>
        refine .inr ⟨_, _, rfl, rfl, ?_⟩
        rw [hν.lt e2 e1, ← Nat.blt_dec]
        exact k _ H G (Le.refl G) W (.bl _)
  · cases e⟩
theorem o_le : Op2 c (compareOp .LtE) fLe := fun X F => ⟨_, op_le, fun Φ v1 v2 H G ω a b d Q W r1 r2 e k => by
  unfold fLe at e
  split at e
  · cases e; cases r1; cases r2
    exact ⟨_, _, rfl, rfl, k _ H G (Le.refl G) W (.bl _)⟩
  · cases e⟩
theorem o_ge : Op2 c (compareOp .GtE) fGe := fun X F => ⟨_, op_ge, fun Φ v1 v2 H G ω a b d Q W r1 r2 e k => by
  unfold fGe at e
  split at e
  · cases e; cases r1; cases r2
    exact ⟨_, _, rfl, rfl, k _ H G (Le.refl G) W (.bl _)⟩
  · cases e⟩
theorem isNon_ok {ν : Nu} {p0 : Addr} {G : Hp} {v : V} {d : D} (r : Rep ν p0 G v d) : decide (v = .non) = isNon d := by
  cases r <;> simp [isNon]
theorem o_isN : Op2 c (compareOp .Is) fIsN := fun X F => ⟨_, op_isN, fun Φ v1 v2 H G ω a b d Q W r1 r2 e k => by
  unfold fIsN at e
  split at e
  · cases e; cases r2
    exact ⟨rfl, by rw [isNon_ok r1]; exact k _ H G (Le.refl G) W (.bl _)⟩
  · cases e⟩
theorem o_notN : Op2 c (compareOp .IsNot) fNotN := fun X F => ⟨_, op_notN, fun Φ v1 v2 H G ω a b d Q W r1 r2 e k => by
  unfold fNotN at e
  split at e
  · cases e; cases r2
    exact ⟨rfl, by rw [isNon_ok r1]; exact k _ H G (Le.refl G) W (.bl _)⟩
  · cases e⟩
end

/-! ### in, not in -/
def dget : List (Nat × D) → Nat → Option D
  | [], _ => none
  | (n, d) :: r, k => match Nat.beq n k with
    | true => some d
    | false => dget r k
def anyE (f : D → D → Option Bool) : List D → D → Option Bool
  | [], _ => some false
  | y :: ys, a => match f y a with
    | some true => some true
    | some false => anyE f ys a
    | none => none
def fInB (a b : D) : Option Bool := match b with
  | .lst xs => match shp 9 b with
    | true => match shp 8 a with
      | true => anyE (dEqF 8) xs a
      | false => none
    | false => none
  | .dct kvs => match a with
    | .atm n => some (dget kvs n).isSome
    | _ => none
  | _ => none
def fIn (a b : D) : Option D := match b with
  | .str z => match a with
    | .str s => match s.cps.toList with
      | [c] => some (.bl (decide (c ∈ z.cps.toList)))
      | _ => none
    | _ => none
  | _ => ob (fInB a b)
def fNin (a b : D) : Option D := obn (fInB a b)
theorem RepK.find {ν : Nu} {p0 : Addr} {G : Hp} (hν : NuOk ν) {n : Nat} {x : Str} (hx : ν[n]? = some x) : ∀ {kvs : List (Key × V)} {kds : List (Nat × D)}, RepK ν p0 G kvs kds →
    (∀ d, dget kds n = some d → ∃ v, valV kvs (.inr x) = some v ∧ Rep ν p0 G v d) ∧ (dget kds n = none → valV kvs (.inr x) = none)
  | _, _, .nil => ⟨fun d h => (nomatch h), fun _ => rfl⟩
  | _, _, .cons (n := m) (x := y) (v := v) (d := d) e r t => by
    obtain ⟨i1, i2⟩ := RepK.find hν hx t
    unfold dget
    cases hb : Nat.beq m n with
    | true =>
      have em := Nat.eq_of_beq_eq_true hb
      subst em
      rw [hx] at e; cases e
      refine ⟨fun d' h => ?_, fun h => (nomatch h)⟩
      cases h
      exact ⟨v, valV_pos rfl, r⟩
    | false =>
      have ne : ¬ ((Sum.inr y : Key) = Sum.inr x) := fun z => by
        cases z
        exact Nat.ne_of_beq_eq_false hb (hν.inj e hx)
      exact ⟨fun d' h => by rw [valV_neg ne]; exact i1 d' h, fun h => by rw [valV_neg ne]; exact i2 h⟩
theorem anyE_ok {ν : Nu} {p0 : Addr} {G : Hp} {f : D → D → Option Bool} {g : D → PyData} (hf : ∀ a b c va vb, Rep ν p0 G va a → Rep ν p0 G vb b → f a b = some c → PyData.eqv (g a) (g b) = c) {a : D} {va : V} (ra : Rep ν p0 G va a) :
    ∀ (xs : List D) (vs : List V) (c : Bool), Reps ν p0 G vs xs → anyE f xs a = some c → ((xs.map g).any fun z => PyData.eqv z (g a)) = c
  | [], _, c, _, h => by simp [anyE] at h; subst h; rfl
  | x :: xs, _, c, r, h => by
    cases r with
    | cons r1 r2 =>
      unfold anyE at h
      split at h
      · rename_i e
        cases h
        simp [hf _ _ _ _ _ r1 ra e]
      · rename_i e
        have ih := anyE_ok hf ra xs _ c r2 h
        rw [List.map_cons, List.any_cons, hf _ _ _ _ _ r1 ra e, Bool.false_or]
        exact ih
      · cases h
section
variable {c : Ct}
theorem shaped_n {ν : Nu} {p0 : Addr} {Φ : Fr} {G H : Hp} {ω : Om} {K : PySem.W.Frag} (W : Wd p0 Φ G H ω) (hν : NuOk ν) {n : Nat} (hn : n ≤ 60) {d : D} {v : V} (r : Rep ν p0 G v d) (s : shp n d = true) : Dp K H v (toPy ν n d) ∧ SeqAt.shaped (toPy ν n d) = true := by
  obtain ⟨h1, h2, h3⟩ := dp_of (K := K) W hν n d v r s
  refine ⟨h1, ?_⟩
  unfold SeqAt.shaped
  rw [h2, decide_eq_true (by omega)]; rfl
theorem inB_cases {ν : Nu} {p0 : Addr} {Φ : Fr} {G H : Hp} {ω : Om} {K : PySem.W.Frag} (W : Wd p0 Φ G H ω) (hν : NuOk ν) {a b : D} {r : Bool} {va vb : V} (ra : Rep ν p0 G va a) (rb : Rep ν p0 G vb b) (h : fInB a b = some r) :
    (∃ d ds, Dp K H va d ∧ Dp K H vb (.list ds) ∧ SeqAt.shaped d = true ∧ SeqAt.shaped (.list ds) = true ∧ (ds.any fun z => PyData.eqv z d) = r) ∨ (∃ p o, vb = .ref p ∧ DGet H p va o ∧ o.isSome = r) := by
  unfold fInB at h
  split at h
  · rename_i xs
    split at h
    · rename_i h1
      split at h
      · rename_i h2
        left
        obtain ⟨a1, a2⟩ := shaped_n (K := K) W hν (by decide) ra h2
        obtain ⟨b1, b2⟩ := shaped_n (K := K) W hν (by decide) rb h1
        cases rb with
        | lst e s =>
          exact ⟨_, _, a1, b1, a2, b2, anyE_ok (dEqF_ok hν 8) ra xs _ r s h⟩
      · cases h
    · cases h
  · rename_i kvs
    split at h
    · rename_i n
      cases h
      right
      cases ra with
      | atm e1 =>
        cases rb with
        | dct e2 s =>
          have ho := W.dct e2
          obtain ⟨f1, f2⟩ := RepK.find hν e1 s
          refine ⟨_, _, rfl, .inl ⟨_, .inr _, .inr ⟨_, ho⟩, rfl, rfl⟩, ?_⟩
          cases hg : dget kvs n with
          | none => rw [f2 hg]; rfl
          | some d => obtain ⟨v, e, _⟩ := f1 d hg; rw [e]; rfl
    · cases h
  · cases h
theorem op_inDct {X : Cx} (hu : X.A.units + 1 < cLine) : OpR X (compareOp .In) (fun x y H Q => ∃ p o, y = .ref p ∧ DGet H p x o ∧ Q (.bl o.isSome) H) := by
  intro pins s σ H x y v u Q I rx ry h
  obtain ⟨p, o, rfl, g, q⟩ := h
  cases ry
  exact d_in hu I g rx fun s' I' => ⟨.bl _, H, I', rfl, q⟩
theorem op_ninDct {X : Cx} (hu : X.A.units + 1 < cLine) : OpR X (compareOp .NotIn) (fun x y H Q => ∃ p o, y = .ref p ∧ DGet H p x o ∧ Q (.bl (!o.isSome)) H) := by
  intro pins s σ H x y v u Q I rx ry h
  obtain ⟨p, o, rfl, g, q⟩ := h
  cases ry
  exact d_notIn hu I g rx fun s' I' => ⟨.bl _, H, I', rfl, q⟩
theorem room65 {k : Nat} {A : Around} (r : Room k A) : A.units + 65 < cLine := by have := r.un; omega
theorem o_in (hν : NuOk c.ν) : Op2 c (compareOp .In) fIn := fun X F => ⟨_, (op_inD (room65 F.room)).or ((op_inDct (hu_of F.room)).or op_in_sign), fun Φ v1 v2 H G ω a b d Q W r1 r2 e k => by
  unfold fIn at e
  split at e
  · rename_i z
    split at e
    · rename_i s
      split at e
      · rename_i cc hs
        cases e
        cases r1; cases r2
        have es : s = ⟨#[cc]⟩ := by
          cases s with
          | mk arr => exact congrArg _ (Array.toList_inj.mp hs)
        exact .inr (.inr ⟨cc, z, by rw [es], rfl, k _ H G (Le.refl G) W (.bl _)⟩)
      · cases e
    · cases e
  · unfold ob at e
    split at e
    · rename_i r h
      cases e
      rcases inB_cases (K := X.K) W hν r1 r2 h with ⟨d, ds, h1, h2, h3, h4, h5⟩ | ⟨p, o, h1, h2, h3⟩
      · exact .inl ⟨d, ds, h1, h2, h3, h4, by rw [h5]; exact k _ H G (Le.refl G) W (.bl _)⟩
      · exact .inr (.inl ⟨p, o, h1, h2, by rw [h3]; exact k _ H G (Le.refl G) W (.bl _)⟩)
    · cases e⟩
theorem o_nin (hν : NuOk c.ν) : Op2 c (compareOp .NotIn) fNin := fun X F => ⟨_, (op_notInD (room65 F.room)).or (op_ninDct (hu_of F.room)), fun Φ v1 v2 H G ω a b d Q W r1 r2 e k => by
  unfold fNin obn at e
  split at e
  · rename_i r h
    cases e
    rcases inB_cases (K := X.K) W hν r1 r2 h with ⟨d, ds, h1, h2, h3, h4, h5⟩ | ⟨p, o, h1, h2, h3⟩
    · exact .inl ⟨d, ds, h1, h2, h3, h4, by rw [h5]; exact k _ H G (Le.refl G) W (.bl _)⟩
    · exact .inr ⟨p, o, h1, h2, by rw [h3]; exact k _ H G (Le.refl G) W (.bl _)⟩
  · cases e⟩
end

/-! ### subscripts, slices -/
def seqAt (xs : List D) (i : Int) : Option D := match i with
  | .ofNat n => xs[n]?
  | .negSucc n => match Nat.blt n xs.length with
    | true => xs[xs.length - (n + 1)]?
    | false => none
def fIx (a i : D) : Option D := match a, i with
  | .lst xs, .int j => seqAt xs j
  | .tup xs, .int j => seqAt xs j
  | .dct kvs, .atm n => dget kvs n
  | .str z, .int (.ofNat n) => match Nat.ble z.length lim with
    | true => match z.cps.toList[n]? with
      | some c => some (.str ⟨#[c]⟩)
      | none => none
    | false => none
  | _, _ => none
theorem seqAt_ok {ν : Nu} {p0 : Addr} {G : Hp} {xs : List D} {vs : List V} {i : Int} {d : D} (r : Reps ν p0 G vs xs) (h : seqAt xs i = some d) : ∃ v, atI vs i = some v ∧ Rep ν p0 G v d := by
  unfold seqAt at h
  split at h
  · rename_i n
    obtain ⟨v, e, rv⟩ := r.get h
    exact ⟨v, atI_nat e, rv⟩
  · rename_i n
    split at h
    · rename_i hb
      rw [Nat.blt_dec] at hb
      have hb := of_decide_eq_true hb
      obtain ⟨v, e, rv⟩ := r.get h
      refine ⟨v, ?_, rv⟩
      have hl := r.length
      have e1 : ixN vs.length (Int.negSucc n) = some (vs.length - (n + 1)) := by
        unfold ixN
        rw [if_neg (by omega), if_pos (by omega)]
        congr 1
        omega
      unfold atI
      rw [e1, hl]
      exact e
    · cases h
section
variable {c : Ct} {e1 e2 e3 : Expr} {x1 x2 x3 : Ex} {pos p2 : Pos}
theorem s_sub (hν : NuOk c.ν) (h1 : Snd c e1 x1) (h2 : Snd c e2 x2) (hs : PlainIx e2 := by intro _ _; rfl) : Snd c (.Subscript e1 e2 pos) (xBin fIx x1 x2) := fun X F ρ ω d ω' h => by
  obtain ⟨a, ω1, b, q1, q2, q3⟩ := xBin_some h
  have go : ∀ {t : TE}, PE X (.Subscript e1 e2 pos) t → (∀ σ H Q, rd c.ν c.p0 ρ ω d ω' σ H Q → t σ H Q) → PE X (.Subscript e1 e2 pos) (rd c.ν c.p0 ρ ω d ω') := fun h m => pe_mono h m
  unfold fIx at q3
  split at q3
  · rename_i xs j
    refine pe_mono (pe_ix ix_list (h1 X F _ _ _ _ q1) (h2 X F _ _ _ _ q2) hs) fun σ H Q q => ?_
    obtain ⟨Φ, G, W, E, k⟩ := q
    refine ⟨Φ, G, W, E, fun v1 H1 G1 l1 W1 r1 => ⟨Φ, G1, W1, E.up l1, fun v2 H2 G2 l2 W2 r2 => ?_⟩⟩
    cases r2
    cases r1 with
    | lst e s =>
      obtain ⟨v, ev, rv⟩ := seqAt_ok (s.up l2) q3
      exact ⟨_, _, _, v, rfl, rfl, .inl (.inl (W2.lst (l2 _ _ e))), ev, k _ _ G2 (l1.trans l2) W2 rv⟩
  · rename_i xs j
    refine pe_mono (pe_ix ix_tup (h1 X F _ _ _ _ q1) (h2 X F _ _ _ _ q2) hs) fun σ H Q q => ?_
    obtain ⟨Φ, G, W, E, k⟩ := q
    refine ⟨Φ, G, W, E, fun v1 H1 G1 l1 W1 r1 => ⟨Φ, G1, W1, E.up l1, fun v2 H2 G2 l2 W2 r2 => ?_⟩⟩
    cases r2
    cases r1 with
    | tup e s =>
      obtain ⟨v, ev, rv⟩ := seqAt_ok (s.up l2) q3
      exact ⟨_, _, _, v, rfl, rfl, .inl (.inl (W2.tup (l2 _ _ e))), ev, k _ _ G2 (l1.trans l2) W2 rv⟩
  · rename_i kvs n
    refine pe_mono (pe_dget (hu_of F.room) (h1 X F _ _ _ _ q1) (h2 X F _ _ _ _ q2) hs) fun σ H Q q => ?_
    obtain ⟨Φ, G, W, E, k⟩ := q
    refine ⟨Φ, G, W, E, fun v1 H1 G1 l1 W1 r1 => ⟨Φ, G1, W1, E.up l1, fun v2 H2 G2 l2 W2 r2 => ?_⟩⟩
    cases r2 with
    | atm e2 =>
      cases r1 with
      | dct e s =>
        have ho := W2.dct (l2 _ _ e)
        obtain ⟨f1, f2⟩ := RepK.find hν e2 (s.up l2)
        obtain ⟨v, ev, rv⟩ := f1 d q3
        exact ⟨_, v, rfl, .inl ⟨_, .inr _, .inr ⟨_, ho⟩, rfl, ev.symm⟩, k _ _ G2 (l1.trans l2) W2 rv⟩
  · rename_i z n
    split at q3
    · rename_i hz
      split at q3
      · rename_i cc hc
        cases q3
        refine pe_mono (pe_ix ix_str (h1 X F _ _ _ _ q1) (h2 X F _ _ _ _ q2) hs) fun σ H Q q => ?_
        obtain ⟨Φ, G, W, E, k⟩ := q
        refine ⟨Φ, G, W, E, fun v1 H1 G1 l1 W1 r1 => ⟨Φ, G1, W1, E.up l1, fun v2 H2 G2 l2 W2 r2 => ?_⟩⟩
        cases r2
        cases r1
        have hl := Nat.le_of_ble_eq_true hz
        have := lim_ok
        exact ⟨z, _, cc, rfl, rfl, by omega, atI_nat hc, k _ _ G2 (l1.trans l2) W2 (.str _)⟩
      · cases q3
    · cases q3
  · cases q3
/-- the ends of a slice -/
def cutD (xs : List D) (lo hi : Option Int) : List D := (xs.drop (HT.sIx xs.length 0 lo)).take (HT.sIx xs.length xs.length hi - HT.sIx xs.length 0 lo)
def yCut (x : Ex) (lo hi : Env → Om → Option (Option Int × Om)) : Exs := fun ρ ω => match x ρ ω with
  | some (.lst xs, ω1) => match lo ρ ω1 with
    | some (l, ω2) => match hi ρ ω2 with
      | some (u, ω3) => some (cutD xs l u, ω3)
      | none => none
    | none => none
  | _ => none
def pNo : Env → Om → Option (Option Int × Om) := fun _ ω => some (none, ω)
def pSome (x : Ex) : Env → Om → Option (Option Int × Om) := fun ρ ω => match x ρ ω with
  | some (.int i, ω1) => some (some i, ω1)
  | _ => none
def rdO (ν : Nu) (p0 : Addr) (ρ : Env) (ω : Om) (i : Option Int) (ω' : Om) : TO := fun σ H Q => ∃ Φ G, Wd p0 Φ G H ω ∧ EnvX ν p0 Φ G σ ρ ∧ ∀ H' G', Le G G' → Wd p0 Φ G' H' ω' → Q i H'
def SndO (c : Ct) (e : Option Expr) (x : Env → Om → Option (Option Int × Om)) : Prop := ∀ X, Fits c X → ∀ ρ ω d ω', x ρ ω = some (d, ω') → PO X e (rdO c.ν c.p0 ρ ω d ω')
theorem po_mono {X : Cx} {e : Option Expr} {t t' : TO} (h : PO X e t) (m : ∀ σ H Q, t' σ H Q → t σ H Q) : PO X e t' := ⟨fun pins s σ H Q I q => h.run pins s σ H Q I (m σ H Q q)⟩
theorem p_no : SndO c none pNo := fun X F ρ ω d ω' h => by
  cases h
  exact po_mono po_none fun σ H Q ⟨Φ, G, W, E, k⟩ => k H G (Le.refl G) W
theorem p_some (h : Snd c e1 x1) : SndO c (some e1) (pSome x1) := fun X F ρ ω d ω' q => by
  unfold pSome at q
  split at q
  · rename_i i ω1 e
    cases q
    refine po_mono (po_some (h X F _ _ _ _ e)) fun σ H Q q => ?_
    obtain ⟨Φ, G, W, E, k⟩ := q
    refine ⟨Φ, G, W, E, fun v H' G' l W' r => ?_⟩
    cases r
    exact ⟨_, rfl, k H' G' l W'⟩
  · cases q
theorem cutV_rep {ν : Nu} {p0 : Addr} {G : Hp} {xs : List D} {vs : List V} (r : Reps ν p0 G vs xs) (lo hi : Option Int) : Reps ν p0 G (cutV vs lo hi) (cutD xs lo hi) := by
  unfold cutV cutD
  rw [r.length]
  exact (r.drop _).take _
theorem l_cut {lo hi : Option Expr} {y z : Env → Om → Option (Option Int × Om)} (h1 : Snd c e1 x1) (h2 : SndO c lo y) (h3 : SndO c hi z) : SndL c (.Subscript e1 (.Slice lo hi none p2) pos) (yCut x1 y z) := fun X F ρ ω d ω' q => by
  unfold yCut at q
  split at q
  · rename_i xs ω1 q1
    split at q
    · rename_i l ω2 q2
      split at q
      · rename_i u ω3 q3
        cases q
        refine pe_mono (pe_slice sl_list (h1 X F _ _ _ _ q1) (h2 X F _ _ _ _ q2) (h3 X F _ _ _ _ q3)) fun σ H Q q => ?_
        obtain ⟨Φ, G, W, E, k⟩ := q
        refine ⟨Φ, G, W, E, fun v1 H1 G1 l1 W1 r1 => ⟨Φ, G1, W1, E.up l1, fun H2 G2 l2 W2 => ⟨Φ, G2, W2, E.up (l1.trans l2), fun H3 G3 l3 W3 => ?_⟩⟩⟩
        cases r1 with
        | lst e s =>
          refine ⟨_, _, rfl, .inl (.inl (W3.lst (l3 _ _ (l2 _ _ e)))), fun p hp => ?_⟩
          exact k p _ _ G3 (l1.trans (l2.trans l3)) (W3.framed hp) (fun u z => by have := (W3.fr p u z).1; rw [hp] at this; cases this) ((cutV_rep s _ _).up (l2.trans l3))
      · cases q
    · cases q
  · cases q
end

/-! ### built-ins -/
/-- a built-in called: what it is worth by data -/
def Call1 (c : Ct) (g : Value) (f : List D → Option D) : Prop := ∀ X, Fits c X → ∃ r : List V → Hp → VK → Prop, CallR X g r ∧
  ∀ Φ vs H G ω ds d Q, Wd c.p0 Φ G H ω → Reps c.ν c.p0 G vs ds → f ds = some d → OK1 c Φ G H ω d Q → r vs H Q
/-- .. that makes a new list -/
def CallL (c : Ct) (g : Value) (f : List D → Option (List D)) : Prop := ∀ X, Fits c X → ∃ r : List V → Hp → VK → Prop, CallR X g r ∧
  ∀ Φ vs H G ω ds es Q, Wd c.p0 Φ G H ω → Reps c.ν c.p0 G vs ds → f ds = some es → (∀ p ws, H p = none → Reps c.ν c.p0 G ws es → Q (.ref p) (upd H p (.lst ws))) → r vs H Q
def xB (f : List D → Option D) (y : Exs) : Ex := fun ρ ω => match y ρ ω with
  | some (ds, ω1) => match f ds with
    | some d => some (d, ω1)
    | none => none
  | none => none
def yB (f : List D → Option (List D)) (y : Exs) : Exs := fun ρ ω => match y ρ ω with
  | some (ds, ω1) => match f ds with
    | some d => some (d, ω1)
    | none => none
  | none => none
section
variable {c : Ct} {e : Expr} {es : List Expr} {y : Exs} {x : Str} {p pos : Pos} {T : String}
def glB (sc : Scope) (x : Str) : Bool := match sc.names.lookup x with | some .globalImplicit => true | _ => false
theorem glB_ok {X : Cx} (F : Fits c X) (h : glB c.sc x = true) : Gl X x := by
  unfold glB at h
  unfold Gl Env.kindOf
  rw [F.sc]
  split at h
  · assumption
  · cases h
theorem s_blt {f : List D → Option D} (hc : Call1 c (.builtin T) f) (hg : glB c.sc x = true) (hm : c.mg x = none) (hv : bootBuiltins x = some (.builtin T)) (ha : SndA c (e :: es) y) (hn : x ≠ "__name__" := by decide) (hdb : (x == ("__debug__" : Str)) = false := by decide)
    (he : ∀ env, starEach (e :: es) env = (false, eval e env) :: starEach es env := by intro _; rfl) (hpl : ∀ env, (backTo pos (starEach es env)).any (·.1) = false := by intro _; rfl) : Snd c (.Call (.Name x p) (e :: es) [] pos) (xB f y) := fun X F ρ ω d ω' q => by
  unfold xB at q
  split at q
  · rename_i ds ω1 q1
    split at q
    · rename_i d' q2
      cases q
      obtain ⟨r, hr, hq⟩ := hc X F
      refine pe_mono (pe_callB hr (glB_ok F hg) (by rw [F.mg]; exact hm) hv (ha X F _ _ _ _ q1) hn hdb (he _) (hpl _)) fun σ H Q q => ?_
      obtain ⟨Φ, G, W, E, k⟩ := q
      exact ⟨Φ, G, W, E, fun vs H1 G1 l1 W1 r1 => hq Φ vs H1 G1 _ ds _ Q W1 r1 q2 fun v H' G' l' W' r' => k v H' G' (l1.trans l') W' r'⟩
    · cases q
  · cases q
theorem s_bty {f : List D → Option D} (hc : Call1 c (.type T) f) (hg : glB c.sc x = true) (hm : c.mg x = none) (hv : bootBuiltins x = some (.type T)) (ha : SndA c (e :: es) y) (hn : x ≠ "__name__" := by decide) (hdb : (x == ("__debug__" : Str)) = false := by decide)
    (he : ∀ env, starEach (e :: es) env = (false, eval e env) :: starEach es env := by intro _; rfl) (hpl : ∀ env, (backTo pos (starEach es env)).any (·.1) = false := by intro _; rfl) : Snd c (.Call (.Name x p) (e :: es) [] pos) (xB f y) := fun X F ρ ω d ω' q => by
  unfold xB at q
  split at q
  · rename_i ds ω1 q1
    split at q
    · rename_i d' q2
      cases q
      obtain ⟨r, hr, hq⟩ := hc X F
      refine pe_mono (pe_callTy hr (glB_ok F hg) (by rw [F.mg]; exact hm) hv (ha X F _ _ _ _ q1) hn hdb (he _) (hpl _)) fun σ H Q q => ?_
      obtain ⟨Φ, G, W, E, k⟩ := q
      exact ⟨Φ, G, W, E, fun vs H1 G1 l1 W1 r1 => hq Φ vs H1 G1 _ ds _ Q W1 r1 q2 fun v H' G' l' W' r' => k v H' G' (l1.trans l') W' r'⟩
    · cases q
  · cases q
theorem l_blt {f : List D → Option (List D)} (hc : CallL c (.builtin T) f) (hg : glB c.sc x = true) (hm : c.mg x = none) (hv : bootBuiltins x = some (.builtin T)) (ha : SndA c (e :: es) y) (hn : x ≠ "__name__" := by decide) (hdb : (x == ("__debug__" : Str)) = false := by decide)
    (he : ∀ env, starEach (e :: es) env = (false, eval e env) :: starEach es env := by intro _; rfl) (hpl : ∀ env, (backTo pos (starEach es env)).any (·.1) = false := by intro _; rfl) : SndL c (.Call (.Name x p) (e :: es) [] pos) (yB f y) := fun X F ρ ω d ω' q => by
  unfold yB at q
  split at q
  · rename_i ds ω1 q1
    split at q
    · rename_i d' q2
      cases q
      obtain ⟨r, hr, hq⟩ := hc X F
      refine pe_mono (pe_callB hr (glB_ok F hg) (by rw [F.mg]; exact hm) hv (ha X F _ _ _ _ q1) hn hdb (he _) (hpl _)) fun σ H Q q => ?_
      obtain ⟨Φ, G, W, E, k⟩ := q
      refine ⟨Φ, G, W, E, fun vs H1 G1 l1 W1 r1 => hq Φ vs H1 G1 _ ds _ Q W1 r1 q2 fun p ws hp rw' => ?_⟩
      exact k p ws _ G1 l1 (W1.framed hp) (fun u z => by have := (W1.fr p u z).1; rw [hp] at this; cases this) rw'
    · cases q
  · cases q
theorem l_bty {f : List D → Option (List D)} (hc : CallL c (.type T) f) (hg : glB c.sc x = true) (hm : c.mg x = none) (hv : bootBuiltins x = some (.type T)) (ha : SndA c (e :: es) y) (hn : x ≠ "__name__" := by decide) (hdb : (x == ("__debug__" : Str)) = false := by decide)
    (he : ∀ env, starEach (e :: es) env = (false, eval e env) :: starEach es env := by intro _; rfl) (hpl : ∀ env, (backTo pos (starEach es env)).any (·.1) = false := by intro _; rfl) : SndL c (.Call (.Name x p) (e :: es) [] pos) (yB f y) := fun X F ρ ω d ω' q => by
  unfold yB at q
  split at q
  · rename_i ds ω1 q1
    split at q
    · rename_i d' q2
      cases q
      obtain ⟨r, hr, hq⟩ := hc X F
      refine pe_mono (pe_callTy hr (glB_ok F hg) (by rw [F.mg]; exact hm) hv (ha X F _ _ _ _ q1) hn hdb (he _) (hpl _)) fun σ H Q q => ?_
      obtain ⟨Φ, G, W, E, k⟩ := q
      refine ⟨Φ, G, W, E, fun vs H1 G1 l1 W1 r1 => hq Φ vs H1 G1 _ ds _ Q W1 r1 q2 fun p ws hp rw' => ?_⟩
      exact k p ws _ G1 l1 (W1.framed hp) (fun u z => by have := (W1.fr p u z).1; rw [hp] at this; cases this) rw'
    · cases q
  · cases q
end
/-- len -/
def bLen : List D → Option D
  | [.lst xs] => some (.int xs.length)
  | [.tup xs] => some (.int xs.length)
  | [.dct xs] => some (.int xs.length)
  | [.str x] => match Nat.ble x.length lim with
    | true => some (.int x.length)
    | false => none
  | _ => none
/-- all, any of truths -/
def allB : List D → Option Bool
  | [] => some true
  | .bl true :: r => allB r
  | .bl false :: r => match allB r with
    | some _ => some false
    | none => none
  | _ => none
def anyB : List D → Option Bool
  | [] => some false
  | .bl false :: r => anyB r
  | .bl true :: r => match anyB r with
    | some _ => some true
    | none => none
  | _ => none
def bAll : List D → Option D
  | [.lst xs] => ob (allB xs)
  | _ => none
def bAny : List D → Option D
  | [.lst xs] => ob (anyB xs)
  | _ => none
/-- list(x) -/
def bList : List D → Option (List D)
  | [.lst xs] => some xs
  | [.tup xs] => some xs
  | _ => none
section
variable {c : Ct}
theorem reps1 {ν : Nu} {p0 : Addr} {G : Hp} {vs : List V} {d : D} (r : Reps ν p0 G vs [d]) : ∃ v, vs = [v] ∧ Rep ν p0 G v d := by
  cases r with
  | cons a b => cases b; exact ⟨_, rfl, a⟩
theorem call_lenDct {X : Cx} : CallR X (.builtin "len") (fun xs H Q => ∃ a kvs, xs = [.ref a] ∧ Rd H a (.dK kvs) ∧ Q (.int kvs.length) H) := by
  intro pins s σ H xs us Q I r h
  obtain ⟨a, kvs, rfl, e, q⟩ := h
  obtain ⟨u, rfl, rx⟩ := vals1 r
  cases rx
  exact d_len I e fun t s' I' => ⟨.int kvs.length, H, I', ⟨t, rfl⟩, q⟩
theorem b_len : Call1 c (.builtin "len") bLen := fun X F => ⟨_, call_len_seq.or (call_lenDct.or call_len_str), fun Φ vs H G ω ds d Q W r e k => by
  unfold bLen at e
  split at e
  · obtain ⟨v, rfl, rv⟩ := reps1 r
    cases e
    cases rv with
    | lst e1 s1 => exact .inl ⟨_, _, rfl, .inl (.inl (.inl (W.lst e1))), by rw [s1.length]; exact k _ H G (Le.refl G) W (.int _)⟩
  · obtain ⟨v, rfl, rv⟩ := reps1 r
    cases e
    cases rv with
    | tup e1 s1 => exact .inl ⟨_, _, rfl, .inr (.inl (.inl (W.tup e1))), by rw [s1.length]; exact k _ H G (Le.refl G) W (.int _)⟩
  · obtain ⟨v, rfl, rv⟩ := reps1 r
    cases e
    cases rv with
    | dct e1 s1 =>
      have ho := W.dct e1
      exact .inr (.inl ⟨_, _, rfl, .inr ⟨_, ho⟩, by rw [s1.length]; exact k _ H G (Le.refl G) W (.int _)⟩)
  · obtain ⟨v, rfl, rv⟩ := reps1 r
    split at e
    · rename_i hz
      cases e
      cases rv
      have hl := Nat.le_of_ble_eq_true hz
      have := lim_ok
      exact .inr (.inr ⟨_, rfl, by omega, k _ H G (Le.refl G) W (.int _)⟩)
    · cases e
  · cases e⟩
theorem bls_of {ν : Nu} {p0 : Addr} {G : Hp} : ∀ {xs : List D} {vs : List V}, Reps ν p0 G vs xs → (∀ r, allB xs = some r → ∃ bs : List Bool, vs = bs.map V.bl ∧ bs.all id = r) ∧ (∀ r, anyB xs = some r → ∃ bs : List Bool, vs = bs.map V.bl ∧ bs.any id = r)
  | [], _, .nil => ⟨fun r h => ⟨[], rfl, Option.some.inj h⟩, fun r h => ⟨[], rfl, Option.some.inj h⟩⟩
  | d :: ds, _, .cons (v := v) (vs := vs) a b => by
    obtain ⟨i1, i2⟩ := bls_of b
    constructor
    · intro r h
      unfold allB at h
      split at h
      · rename_i z; cases z
      · rename_i z; cases z; cases a
        obtain ⟨bs, e1, e2⟩ := i1 r h
        exact ⟨true :: bs, by rw [e1]; rfl, by simpa using e2⟩
      · rename_i z; cases z; cases a
        split at h
        · rename_i q
          cases h
          obtain ⟨bs, e1, e2⟩ := i1 _ q
          exact ⟨false :: bs, by rw [e1]; rfl, rfl⟩
        · cases h
      · cases h
    · intro r h
      unfold anyB at h
      split at h
      · rename_i z; cases z
      · rename_i z; cases z; cases a
        obtain ⟨bs, e1, e2⟩ := i2 r h
        exact ⟨false :: bs, by rw [e1]; rfl, by simpa using e2⟩
      · rename_i z; cases z; cases a
        split at h
        · rename_i q
          cases h
          obtain ⟨bs, e1, e2⟩ := i2 _ q
          exact ⟨true :: bs, by rw [e1]; rfl, rfl⟩
        · cases h
      · cases h
theorem b_all : Call1 c (.builtin "all") bAll := fun X F => ⟨_, cr_all F.calm, fun Φ vs H G ω ds d Q W r e k => by
  unfold bAll ob at e
  split at e
  · obtain ⟨v, rfl, rv⟩ := reps1 r
    split at e
    · rename_i b hb
      cases e
      cases rv with
      | lst e1 s1 =>
        obtain ⟨bs, e2, e3⟩ := (bls_of s1).1 b hb
        subst e2
        exact ⟨_, bs, rfl, .inl (.inl (W.lst e1)), by rw [e3]; exact k _ H G (Le.refl G) W (.bl _)⟩
    · cases e
  · cases e⟩
theorem b_any : Call1 c (.builtin "any") bAny := fun X F => ⟨_, cr_any F.calm, fun Φ vs H G ω ds d Q W r e k => by
  unfold bAny ob at e
  split at e
  · obtain ⟨v, rfl, rv⟩ := reps1 r
    split at e
    · rename_i b hb
      cases e
      cases rv with
      | lst e1 s1 =>
        obtain ⟨bs, e2, e3⟩ := (bls_of s1).2 b hb
        subst e2
        exact ⟨_, bs, rfl, .inl (.inl (W.lst e1)), by rw [e3]; exact k _ H G (Le.refl G) W (.bl _)⟩
    · cases e
  · cases e⟩
theorem b_list : CallL c (.type "list") bList := fun X F => ⟨_, call_list_of, fun Φ vs H G ω ds es Q W r e k => by
  unfold bList at e
  split at e
  · obtain ⟨v, rfl, rv⟩ := reps1 r
    cases e
    cases rv with
    | lst e1 s1 => exact ⟨_, _, rfl, .inl (.inl (.inl (W.lst e1))), fun l hl => k l _ hl s1⟩
  · obtain ⟨v, rfl, rv⟩ := reps1 r
    cases e
    cases rv with
    | tup e1 s1 => exact ⟨_, _, rfl, .inr (.inl (.inl (W.tup e1))), fun l hl => k l _ hl s1⟩
  · cases e⟩
end
end Q

set_option Elab.async false
set_option linter.all false
set_option maxRecDepth 100000
/-! QS: sum(lists, start) where start is a list. -/
namespace Q
open PySem PySem.Spec PyProof.Rows L2

theorem args_sum2 (a b : Value) : argsOk "sum" ⟨[a, b], []⟩ := by unfold argsOk; kernel_rfl
theorem sub_l_str : isSubtype (.type "list") (.type "str") = pure false := by rw [isSubtype_type]; kernel_rfl
theorem sub_l_bytes : isSubtype (.type "list") (.type "bytes") = pure false := by rw [isSubtype_type]; kernel_rfl
theorem sub_l_ba : isSubtype (.type "list") (.type "bytearray") = pure false := by rw [isSubtype_type]; kernel_rfl

section
variable {prog : Program} {w : World} {A : Around} {R : Result → Shared → Prop}
abbrev LObj (vs : List Value) (n : Nat) : Obj := { cls := .type "list", data := .seq vs.toArray n }
theorem sumL_loop {I ax S : Addr} (hh : A.in1.handled = none) (hne : ax ≠ I) (hSI : S ≠ I) (hSax : S ≠ ax) (ps : List Addr) (rows : List (List Value)) (h₀ : Heap) (hI0 : h₀.objs.size ≤ I) (hI : h₀.get? I = none) (hS₀ : h₀.get? S = none)
    (hrows : Paired (fun (p : Addr) (r : List Value) => ∃ n, h₀.get? p = some (LObj r n)) ps rows) (hax : ∃ n, h₀.get? ax = some (LObj (ps.map Value.ref) n)) :
    ∀ (k i : Nat) (s : Shared) (t : Addr) (acc : List Value) (m c : Nat), ps.length - i = k → i ≤ ps.length → s.heap.IsListIter I ax i → (∀ b o, h₀.get? b = some o → s.heap.get? b = some o) →
    s.heap.get? S = some { cls := .type "list", dict := none, data := .seq #[.ref t] c, slots := #[] } → s.heap.get? t = some (LObj acc m) → t ≠ S → t ≠ I → (acc ++ (rows.drop i).flatten).length ≤ sizeLine →
    (∀ s' t' m', s'.gens = s.gens → s'.drawn = s.drawn → s'.os = s.os → (∀ b o, h₀.get? b = some o → s'.heap.get? b = some o) → s'.heap.get? t' = some (LObj (acc ++ (rows.drop i).flatten) m') → (t' = t ∨ h₀.objs.size ≤ t') → R (.ok (.ret (.ref t'))) s') →
    codeAny (model prog w) A (.builtin "sum.loop" ⟨[.ref I, .ref S, rawInt 2, rawInt 0], []⟩) R s := by
  obtain ⟨nax, eax⟩ := hax
  have hpl : ∀ s : Shared, (∀ b o, h₀.get? b = some o → s.heap.get? b = some o) → s.heap.IsList ax (ps.map Value.ref).toArray := fun s hk => ⟨_, hk _ _ eax, rfl, nax, rfl⟩
  have hlen : rows.length = ps.length := (Paired.length hrows).symm
  intro k
  induction k with
  | zero =>
    intro i s t acc m c hk hi hst hkp hS ht hts hti hsz hR
    have hin : i = ps.length := by omega
    refine codeAny_builtin F.entry_sum_loop ?_
    rw [Around.under_plainId F.plain_sum_loop _]
    show wpAny _ A.in1 (seqItems? (.ref S) >>= _) _ _ s
    refine wpAny_bind (wpAny_seqItems hS rfl ?_)
    show wpAny _ A.in1 (tryCatch (pyNext (.ref I)) _ >>= _) _ _ s
    refine wpAny_bind (wpAny_tryCatch (wpAny_pyNext_list_end hh hst (hpl s hkp) (by simp; omega) fun h' he' => ?_))
    have ne : ∀ b o, h₀.get? b = some o → b ≠ I := fun b o e z => by rw [z, hI] at e; cases e
    exact wpAny_pure (hR { s with heap := h' } t m rfl rfl rfl (fun b o e => he' b o (ne b o e) (hkp b o e)) (by rw [List.drop_eq_nil_of_le (by omega)]; simpa using he' t _ hti ht) (.inl rfl))
  | succ k ih =>
    intro i s t acc m c hk hi hst hkp hS ht hts hti hsz hR
    have hlt : i < ps.length := by omega
    have hlt2 : i < rows.length := by omega
    obtain ⟨r, er, n2, ev⟩ := paired_get hrows (i := i) (a := ps[i]) (by simp [hlt])
    have hd : rows.drop i = r :: rows.drop (i + 1) := by
      have e1 := List.drop_eq_getElem_cons hlt2
      obtain ⟨_, e2⟩ := List.getElem?_eq_some_iff.mp er
      rw [e1, e2]
    refine codeAny_builtin F.entry_sum_loop ?_
    rw [Around.under_plainId F.plain_sum_loop _]
    show wpAny _ A.in1 (seqItems? (.ref S) >>= _) _ _ s
    refine wpAny_bind (wpAny_seqItems hS rfl ?_)
    show wpAny _ A.in1 (tryCatch (pyNext (.ref I)) _ >>= _) _ _ s
    refine wpAny_bind (wpAny_tryCatch (wpAny_pyNext_list_item hst (hpl s hkp) (x := Value.ref ps[i]) (by simp [hlt]) fun h' hit' sb => ?_))
    have keep1 : ∀ b o, b ≠ I → s.heap.get? b = some o → h'.get? b = some o := fun b o hb e => (sb.2 b hb).trans e
    have neI : ∀ b o, h₀.get? b = some o → b ≠ I := fun b o e z => by rw [z, hI] at e; cases e
    have neS : ∀ b o, h₀.get? b = some o → b ≠ S := fun b o e z => by rw [z, hS₀] at e; cases e
    have hS1 := keep1 S _ hSI hS
    have ht1 := keep1 t _ hti ht
    have hv1 : h'.get? ps[i] = some (LObj r n2) := keep1 _ _ (neI _ _ ev) (hkp _ _ ev)
    have hcat : acc ++ (rows.drop i).flatten = (acc ++ r) ++ (rows.drop (i + 1)).flatten := by rw [hd, List.flatten_cons, List.append_assoc]
    have hsz2 : acc.length + r.length ≤ sizeLine := by
      rw [hcat] at hsz
      simp only [List.length_append] at hsz
      omega
    show wpAny _ A.in1 ((holding [Value.ref ps[i]] (binaryOp .Add (.ref t) (.ref ps[i]))).attempt >>= _) _ _ _
    refine wpAny_bind (wpAny_attempt (wpAny_holding (PySem.P.add_list (s := { s with heap := h' }) ht1 hv1 ?_ (by rw [List.size_toArray, List.size_toArray]; omega))))
    have ea : acc.toArray ++ r.toArray = (acc ++ r).toArray := by simp
    rw [ea]
    generalize hh2 : h'.push { cls := .type "list", data := .seq (acc ++ r).toArray } = h2
    have keep2 : ∀ b o, h'.get? b = some o → h2.get? b = some o := fun b o e => by rw [← hh2]; exact Heap.get?_push_of_some _ e
    have et : h2.get? h'.objs.size = some (LObj (acc ++ r) 0) := by rw [← hh2]; exact Heap.get?_push_size _ rfl
    have ntS : h'.objs.size ≠ S := fun z => Nat.lt_irrefl _ (Nat.lt_of_lt_of_eq (Heap.lt_size hS1) z)
    have ntI : h'.objs.size ≠ I := fun z => by
      obtain ⟨oi, ei, _⟩ := hit'
      exact Nat.lt_irrefl _ (Nat.lt_of_lt_of_eq (Heap.lt_size ei) z)
    have hS2 := keep2 S _ hS1
    show wpAny _ A.in1 (updateSeq S (fun _ => #[.ref h'.objs.size]) >>= _) _ _ _
    refine wpAny_bind (wpAny_updateSeq hS2 rfl ?_)
    have hS3 := Heap.get?_update_self (Obj.mapSeq fun _ => #[Value.ref h'.objs.size]) hS2 rfl
    refine wpAny_bind (wpAny_letGo ?_)
    refine wpAny_bind (wpAny_updateSeq hS3 rfl (wpAny_pure ⟨plainId_quiet F.plain_sum_loop _, ?_⟩))
    have keep4 : ∀ b o, b ≠ S → h2.get? b = some o → ((h2.update S (Obj.mapSeq fun _ => #[Value.ref h'.objs.size])).update S (Obj.mapSeq fun _ => #[Value.ref h'.objs.size])).get? b = some o := fun b o hb e =>
      (Heap.get?_update_other _ _ (Ne.symm hb)).trans ((Heap.get?_update_other _ _ (Ne.symm hb)).trans e)
    refine ih (i + 1) _ h'.objs.size (acc ++ r) 0 _ (by omega) hlt ?_ (fun b o e => ?_) (Heap.get?_update_self _ hS3 rfl) (keep4 _ _ ntS et) ntS ntI (by rw [← hcat]; exact hsz) fun s' t' m' g1 g2 g3 g4 g5 g6 => ?_
    · exact hit'.at fun o e => keep4 _ _ (Ne.symm hSI) (keep2 _ _ e)
    · exact keep4 _ _ (neS _ _ e) (keep2 _ _ (keep1 _ _ (neI _ _ e) (hkp _ _ e)))
    · refine hR s' t' m' g1 g2 g3 g4 (by rw [hcat]; exact g5) (.inr ?_)
      rcases g6 with z | z
      · rw [z]
        obtain ⟨oi, ei, _⟩ := hit'
        exact Nat.le_of_lt (Nat.lt_of_le_of_lt hI0 (Heap.lt_size ei))
      · exact z
end

theorem refs_of : ∀ {ps : List Addr} {us : List Value}, Vals (ps.map V.ref) us → us = ps.map Value.ref := refs_at
theorem sum_lists_call {prog : Program} {w : World} {A : Around} {E : Value → Shared → Prop} {s : Shared} {ax b : Addr} {ps : List Addr} {rows : List (List Value)} {zs : List Value} {nb : Nat} {Q : Value → Shared → Prop} (hh : A.handled = none)
    (hrows : Paired (fun (p : Addr) (r : List Value) => ∃ n, s.heap.get? p = some (LObj r n)) ps rows) (hax : ∃ n, s.heap.get? ax = some (LObj (ps.map Value.ref) n)) (hb : s.heap.get? b = some (LObj zs nb))
    (hsz : (zs ++ rows.flatten).length ≤ sizeLine)
    (hQ : ∀ (s' : Shared) (t' : Addr) (m' : Nat), s'.gens = s.gens → s'.drawn = s.drawn → s'.os = s.os → (∀ b o, s.heap.get? b = some o → s'.heap.get? b = some o) → s'.heap.get? t' = some (LObj (zs ++ rows.flatten) m') → (t' = b ∨ s.heap.objs.size ≤ t') → Q (.ref t') s') :
    wpAny (model prog w) A (call (.builtin "sum") [.ref ax, .ref b]) Q E s := by
  refine call_function_tree F.kind_sum F.plain_sum F.entry_sum (args_sum2 _ _) ?_
  unfold Builtin.«sum»
  simp only [List.length_cons, List.length_nil]
  rw [if_neg (by decide)]
  refine wpAny_bind (wpAny_of_eq (show Builtin.Builtins.bindParams "sum" ["start"] 0 ⟨[.ref b], []⟩ = pure [some (.ref b)] from rfl) ?_)
  obtain ⟨nax, eax⟩ := hax
  have hl : s.heap.IsList ax (ps.map Value.ref).toArray := ⟨_, eax, rfl, nax, rfl⟩
  refine wpAny_bind (wpAny_pyIter_list hl ?_)
  refine wpAny_bind (wpAny_pure ?_)
  simp only [List.forIn_cons, List.forIn_nil]
  have hty : ∀ (h : Heap), h.get? b = some (LObj zs nb) → ∀ s' : Shared, s'.heap = h → s'.TypeIs (.ref b) "list" := fun h e s' e' => ⟨_, by rw [e']; exact e, rfl⟩
  generalize hs2 : ({ s with heap := s.heap.push { cls := .type "list_iterator", data := .fields #[.ref ax, .int 0 0] } } : Shared) = s2
  have h2 : s2.heap = s.heap.push { cls := .type "list_iterator", data := .fields #[.ref ax, .int 0 0] } := by rw [← hs2]
  have kp : ∀ c o, s.heap.get? c = some o → s2.heap.get? c = some o := fun c o e => by rw [h2]; exact Heap.get?_push_of_some _ e
  have tb := hty s2.heap (kp _ _ hb) s2 rfl
  refine wpAny_bind (wpAny_bind (wpAny_bind (wpAny_isInstance (T := "list") (b := false) tb sub_l_str ?_)))
  simp only [Bool.false_eq_true, if_false]
  refine wpAny_pure (wpAny_bind (wpAny_bind (wpAny_isInstance (T := "list") (b := false) tb sub_l_bytes ?_)))
  simp only [Bool.false_eq_true, if_false]
  refine wpAny_pure (wpAny_bind (wpAny_bind (wpAny_isInstance (T := "list") (b := false) tb sub_l_ba ?_)))
  simp only [Bool.false_eq_true, if_false]
  refine wpAny_pure (wpAny_pure ?_)
  refine wpAny_bind (wpAny_newObj_type ?_)
  have sz2 : s2.heap.objs.size = s.heap.objs.size + 1 := by rw [h2]; exact Heap.size_push ..
  have axlt := Heap.lt_size eax
  have blt := Heap.lt_size hb
  refine wpAny_pure ⟨plainId_quiet F.plain_sum_loop _, sumL_loop (I := s.heap.objs.size) (ax := ax) (S := s2.heap.objs.size) hh (Nat.ne_of_lt axlt) (by rw [sz2]; exact Nat.succ_ne_self _) (Nat.ne_of_gt (Nat.lt_trans axlt (by rw [sz2]; exact Nat.lt_succ_self _))) ps rows s.heap (Nat.le_refl _) (Heap.get?_none_of_le (Nat.le_refl _)) (Heap.get?_none_of_le (by rw [sz2]; exact Nat.le_succ _)) hrows ⟨nax, eax⟩
    ps.length 0 _ b zs nb 0 rfl (Nat.zero_le _) ?_ (fun c o e => Heap.get?_push_of_some _ (kp _ _ e)) (Heap.get?_push_size _ rfl) (Heap.get?_push_of_some _ (kp _ _ hb)) (Nat.ne_of_lt (Nat.lt_trans blt (by rw [sz2]; exact Nat.lt_succ_self _))) (Nat.ne_of_lt blt) (by simpa using hsz) fun s' t' m' g1 g2 g3 g4 g5 g6 => ?_⟩
  · have : s2.heap.IsListIter s.heap.objs.size ax 0 := by rw [h2]; exact ⟨_, Heap.get?_push_size _ rfl, rfl, rfl⟩
    exact this.at fun o e => Heap.get?_push_of_some _ e
  · refine hQ s' t' m' (by rw [g1, ← hs2]) (by rw [g2, ← hs2]) (by rw [g3, ← hs2]) g4 (by simpa using g5) g6
def rSumL : List V → Hp → VK → Prop := fun vs H Q => ∃ (l b : Addr) (ps : List Addr) (rows : List (List V)) (zs : List V), vs = [.ref l, .ref b] ∧ H l = some (.lst (ps.map V.ref)) ∧ Paired (fun p r => H p = some (.lst r)) ps rows ∧ H b = some (.lst zs) ∧
  (zs ++ rows.flatten).length ≤ sizeLine ∧ (rows.flatten = [] → Q (.ref b) H) ∧ ∀ p, H p = none → Q (.ref p) (upd H p (.lst (zs ++ rows.flatten)))
theorem rows_of {X : Cx} {pins : List (Addr × Obj)} {σ : L2.St} {H : Hp} {s : Shared} (I : Inv X pins σ H s) : ∀ {ps : List Addr} {rows : List (List V)}, Paired (fun p r => H p = some (.lst r)) ps rows →
    ∃ us : List (List Value), Paired (fun (p : Addr) (r : List Value) => ∃ n, s.heap.get? p = some (LObj r n)) ps us ∧ Vals rows.flatten us.flatten
  | _, _, .nil => ⟨[], .nil, .nil⟩
  | _, _, .cons h t => by
    obtain ⟨us, h1, h2⟩ := rows_of I t
    obtain ⟨z, its, n, r, hl, e⟩ := I.lstM h
    exact ⟨its :: us, .cons ⟨n, e⟩ h1, by simpa using r.append h2⟩
theorem cr_sumL {X : Cx} (hc : X.calm = true) : CallR X (.builtin "sum") rSumL := by
  intro pins s σ H vs us Q I r h
  obtain ⟨l, b, ps, rows, zs, rfl, hl, hrows, hb, hsz, q1, q2⟩ := h
  obtain ⟨u, u2, rfl, r1, r2⟩ := vals2 r
  cases r1
  cases r2
  obtain ⟨z1, its, n1, rv1, hl1, e1⟩ := I.lstM hl
  have ei := refs_of rv1
  subst ei
  obtain ⟨z2, its2, n2, rv2, hl2, e2⟩ := I.lstM hb
  obtain ⟨us, hus, hv⟩ := rows_of I hrows
  have hlen : us.flatten.length = rows.flatten.length := hv.length.symm
  refine sum_lists_call (I.ok.hd hc) hus ⟨n1, e1⟩ e2 (by rw [List.length_append] at hsz ⊢; omega) fun s' t' m' g1 g2 g3 g4 g5 g6 => ?_
  obtain ⟨hh, g, d, t, os⟩ := s'
  simp only at g1 g2 g3 g4 g5
  subst g1 g2 g3
  rcases g6 with z | z
  · subst z
    have := g4 _ _ e2
    rw [g5] at this
    have e3 : (its2 ++ us.flatten).length = its2.length := by
      have e4 := Option.some.inj this
      injection e4 with _ _ e5
      injection e5 with e6
      have e7 := congrArg Array.size e6
      simpa using e7
    have e4 : rows.flatten = [] := List.eq_nil_of_length_eq_zero (by rw [List.length_append] at e3; omega)
    exact ⟨.ref t', H, I.kept (t' := t) g4, rfl, q1 e4⟩
  · have hp : s.heap.objs.size ≤ t' := z
    have hn := I.hok.fresh hp
    exact ⟨.ref t', upd H t' (.lst (zs ++ rows.flatten)), I.laid (t' := t) g4 hp ⟨hsz, _, m', rv2.append hv, g5⟩, rfl, q2 t' hn⟩
/-- sum: lists behind a list -/
def flatD : List D → Option (List D)
  | [] => some []
  | .lst xs :: r => match flatD r with
    | some ys => some (xs ++ ys)
    | none => none
  | _ => none
def bSum : List D → Option D
  | [.lst rows, .lst zs] => match flatD rows with
    | some ys => match Nat.ble (zs.length + ys.length) lim with
      | true => some (.lst (zs ++ ys))
      | false => none
    | none => none
  | _ => none
theorem flatD_ok {ν : Nu} {p0 : Addr} {Φ : Fr} {G H : Hp} {ω : Om} (W : Wd p0 Φ G H ω) : ∀ {rows : List D} {vs : List V} {ys : List D}, Reps ν p0 G vs rows → flatD rows = some ys →
    ∃ (ps : List Addr) (rs : List (List V)), vs = ps.map V.ref ∧ Paired (fun p r => H p = some (.lst r)) ps rs ∧ Reps ν p0 G rs.flatten ys
  | [], _, ys, .nil, h => by cases h; exact ⟨[], [], rfl, .nil, .nil⟩
  | d :: r, _, ys, .cons a b, h => by
    unfold flatD at h
    split at h
    · rename_i z; cases z
    · rename_i z; cases z
      split at h
      · rename_i zs e
        cases h
        obtain ⟨ps, rs, h1, h2, h3⟩ := flatD_ok W b e
        cases a with
        | lst e1 s1 => exact ⟨_ :: ps, _ :: rs, by rw [h1]; rfl, .cons (W.lst e1) h2, by simpa using s1.app h3⟩
      · cases h
    · cases h
theorem b_sum {c : Ct} : Call1 c (.builtin "sum") bSum := fun X F => ⟨_, cr_sumL F.calm, fun Φ vs H G ω ds d Q W r e k => by
  unfold bSum at e
  split at e
  · rename_i rows zs
    split at e
    · rename_i ys h1
      split at e
      · rename_i h2
        cases e
        cases r with
        | cons a b =>
          cases b with
          | cons a2 b2 =>
            cases b2
            cases a with
            | lst e1 s1 =>
              cases a2 with
              | lst e2 s2 =>
                obtain ⟨ps, rs, g1, g2, g3⟩ := flatD_ok W s1 h1
                subst g1
                have hl := Nat.le_of_ble_eq_true h2
                have := lim_ok
                have l1 := s2.length
                have l2 := g3.length
                refine ⟨_, _, ps, rs, _, rfl, W.lst e1, g2, W.lst e2, by rw [List.length_append]; omega, fun z => ?_, fun p hp => ?_⟩
                · have : ys = [] := List.eq_nil_of_length_eq_zero (by rw [← l2, z]; rfl)
                  subst this
                  rw [List.append_nil] at k
                  exact k _ H G (Le.refl G) W (.lst e2 s2)
                · exact k _ _ _ (W.newG hp) (W.newL hp) (.lst upd_same ((s2.app g3).up (W.newG hp)))
      · cases e
    · cases e
  · cases e⟩
end Q

set_option Elab.async false
set_option linter.all false
set_option maxRecDepth 100000
/-! QE: sorted, min, index, dicts made, items, isinstance, calls of defs. -/
namespace Q
open PySem PySem.Spec PyProof.Rows L2
open PySem.PyData (strOk)

/-! ### sorted -/
def insN (n : Nat) : List Nat → List Nat
  | [] => [n]
  | m :: r => match Nat.ble n m with
    | true => n :: m :: r
    | false => m :: insN n r
def sortN : List Nat → List Nat
  | [] => []
  | n :: r => insN n (sortN r)
theorem insN_perm (n : Nat) : ∀ ms, (insN n ms).Perm (n :: ms)
  | [] => .refl _
  | m :: r => by
    unfold insN
    cases Nat.ble n m with
    | true => exact .refl _
    | false => exact (List.Perm.cons m (insN_perm n r)).trans (.swap n m r)
theorem sortN_perm : ∀ ns, (sortN ns).Perm ns
  | [] => .refl _
  | n :: r => (insN_perm n (sortN r)).trans (.cons n (sortN_perm r))
theorem insN_pw (n : Nat) : ∀ ms, ms.Pairwise (· ≤ ·) → (insN n ms).Pairwise (· ≤ ·)
  | [], _ => by simp [insN]
  | m :: r, h => by
    unfold insN
    cases hb : Nat.ble n m with
    | true =>
      have hb := Nat.le_of_ble_eq_true hb
      refine List.pairwise_cons.mpr ⟨fun x hx => ?_, h⟩
      rcases List.mem_cons.mp hx with rfl | hx
      · exact hb
      · exact Nat.le_trans hb ((List.pairwise_cons.mp h).1 x hx)
    | false =>
      have hb : m ≤ n := by
        rcases Nat.le_total m n with q | q
        · exact q
        · rw [Nat.ble_eq_true_of_le q] at hb; cases hb
      have hp := List.pairwise_cons.mp h
      refine List.pairwise_cons.mpr ⟨fun x hx => ?_, insN_pw n r hp.2⟩
      rcases List.mem_cons.mp ((insN_perm n r).mem_iff.mp hx) with rfl | hx
      · exact hb
      · exact hp.1 x hx
theorem sortN_pw : ∀ ns, (sortN ns).Pairwise (· ≤ ·)
  | [] => .nil
  | n :: r => insN_pw n _ (sortN_pw r)
theorem ltCps_eq : ∀ (a b : List Nat), ltCps a b = decide (a < b)
  | [], [] => by simp [ltCps]
  | [], b :: t => by simp [ltCps]
  | a :: r, [] => by simp [ltCps]
  | a :: r, b :: t => by
    unfold ltCps
    rw [ltCps_eq r t, Bool.eq_iff_iff]
    simp [List.cons_lt_cons_iff]
abbrev leS (a b : Str) : Prop := a.cps.toList ≤ b.cps.toList
theorem risingS_pw : ∀ (r : List Str) (p : Str), risingS p r = true → (p :: r).Pairwise leS
  | [], p, _ => by simp
  | x :: r, p, h => by
    unfold risingS at h
    rw [Bool.and_eq_true, ltCps_eq] at h
    have ih := risingS_pw r x h.2
    have h1 : leS p x := by simpa [List.not_lt] using h.1
    refine List.pairwise_cons.mpr ⟨fun y hy => ?_, ih⟩
    rcases List.mem_cons.mp hy with rfl | hy
    · exact h1
    · exact List.le_trans h1 ((List.pairwise_cons.mp ih).1 y hy)
theorem sortedS_pw : ∀ (r : List Str), sortedS r = true → r.Pairwise leS
  | [], _ => .nil
  | x :: r, h => risingS_pw r x h
theorem str_ext {a b : Str} (h : a.cps.toList = b.cps.toList) : a = b := by
  obtain ⟨⟨a⟩⟩ := a
  obtain ⟨⟨b⟩⟩ := b
  simp at h
  rw [h]
/-- the names at places -/
def nm (ν : Nu) (n : Nat) : Str := ν[n]?.getD ⟨#[]⟩
theorem nm_of {ν : Nu} {n : Nat} {x : Str} (h : ν[n]? = some x) : nm ν n = x := by unfold nm; rw [h]; rfl
theorem nm_mono {ν : Nu} (hν : NuOk ν) {n m : Nat} {x y : Str} (a : ν[n]? = some x) (b : ν[m]? = some y) (l : n ≤ m) : leS x y := by
  have h := hν.lt b a
  have : decide (m < n) = false := decide_eq_false (by omega)
  rw [this] at h
  have h2 := of_decide_eq_false h
  exact List.not_lt.mp h2
theorem names_sorted {ν : Nu} (hν : NuOk ν) {ns : List Nat} (hn : ∀ n ∈ ns, ∃ x, ν[n]? = some x) {ys : List Str} (hp : ys.Perm (ns.map (nm ν))) (hs : sortedS ys = true) : ys = (sortN ns).map (nm ν) := by
  have pm : ((sortN ns).map (nm ν)).Perm (ns.map (nm ν)) := (sortN_perm ns).map _
  refine List.Perm.eq_of_pairwise (le := leS) (fun a b _ _ h1 h2 => str_ext (List.le_antisymm h1 h2)) (sortedS_pw _ hs) ?_ (hp.trans pm.symm)
  refine List.pairwise_map.mpr (List.Pairwise.imp_of_mem (fun {a b} ha hb l => ?_) (sortN_pw ns))
  obtain ⟨x, hx⟩ := hn a ((sortN_perm ns).mem_iff.mp ha)
  obtain ⟨y, hy⟩ := hn b ((sortN_perm ns).mem_iff.mp hb)
  rw [nm_of hx, nm_of hy]
  exact nm_mono hν hx hy l
def atoms : List D → Option (List Nat)
  | [] => some []
  | .atm n :: r => match atoms r with
    | some ns => some (n :: ns)
    | none => none
  | _ => none
def keysOf : List (Nat × D) → List Nat
  | [] => []
  | (n, _) :: r => n :: keysOf r
def bSorted : List D → Option (List D)
  | [.lst xs] => match atoms xs with
    | some ns => match Nat.blt ns.length 64 with
      | true => some ((sortN ns).map .atm)
      | false => none
    | none => none
  | [.dct kvs] => match Nat.blt kvs.length 64 with
    | true => some ((sortN (keysOf kvs)).map .atm)
    | false => none
  | _ => none
theorem atoms_ok {ν : Nu} {p0 : Addr} {G : Hp} : ∀ {xs : List D} {vs : List V} {ns : List Nat}, Reps ν p0 G vs xs → atoms xs = some ns → vs = (ns.map (nm ν)).map V.str ∧ (∀ n ∈ ns, ∃ x, ν[n]? = some x) ∧ ns.length = xs.length
  | [], _, ns, .nil, h => by cases h; exact ⟨rfl, by simp, rfl⟩
  | d :: r, _, ns, .cons a b, h => by
    unfold atoms at h
    split at h
    · rename_i z; cases z
    · rename_i z; cases z
      split at h
      · rename_i ms e
        cases h
        obtain ⟨h1, h2, h3⟩ := atoms_ok b e
        cases a with
        | atm ea =>
          refine ⟨by rw [h1]; simp [nm_of ea], fun n hn => ?_, by simp [h3]⟩
          rcases List.mem_cons.mp hn with rfl | hn
          · exact ⟨_, ea⟩
          · exact h2 n hn
      · cases h
    · cases h
theorem atms_rep {ν : Nu} {p0 : Addr} {G : Hp} : ∀ (ns : List Nat), (∀ n ∈ ns, ∃ x, ν[n]? = some x) → Reps ν p0 G ((ns.map (nm ν)).map V.str) (ns.map .atm)
  | [], _ => .nil
  | n :: r, h => by
    obtain ⟨x, e⟩ := h n List.mem_cons_self
    refine .cons ?_ (atms_rep r fun m hm => h m (List.mem_cons_of_mem _ hm))
    rw [nm_of e]
    exact .atm e
theorem keys_ok {ν : Nu} {p0 : Addr} {G : Hp} : ∀ {kvs : List (Key × V)} {kds : List (Nat × D)}, RepK ν p0 G kvs kds → kvs.map (·.1) = ((keysOf kds).map (nm ν)).map Sum.inr ∧ (∀ n ∈ keysOf kds, ∃ x, ν[n]? = some x) ∧ (keysOf kds).length = kds.length
  | _, _, .nil => ⟨rfl, by simp [keysOf], rfl⟩
  | _, _, .cons e a b => by
    obtain ⟨h1, h2, h3⟩ := keys_ok b
    refine ⟨by simp [keysOf, h1, nm_of e], fun n hn => ?_, by simp [keysOf, h3]⟩
    unfold keysOf at hn
    rcases List.mem_cons.mp hn with rfl | hn
    · exact ⟨_, e⟩
    · exact h2 n hn
theorem b_sorted {c : Ct} (hν : NuOk c.ν) : CallL c (.builtin "sorted") bSorted := fun X F => ⟨_, cr_sortedS.or (call_sortedD F.calm), fun Φ vs H G ω ds es Q W r e k => by
  unfold bSorted at e
  split at e
  · rename_i xs
    obtain ⟨v, rfl, rv⟩ := reps1 r
    split at e
    · rename_i ns h1
      split at e
      · rename_i h2
        cases e
        rw [Nat.blt_dec] at h2
        have h2 := of_decide_eq_true h2
        cases rv with
        | lst e1 s1 =>
          obtain ⟨g1, g2, g3⟩ := atoms_ok s1 h1
          subst g1
          refine .inl ⟨_, _, rfl, .inl (.inl (W.lst e1)), by simpa using h2, fun ys p hp hs hn => ?_⟩
          rw [names_sorted hν g2 hp hs]
          exact k p _ hn (atms_rep _ fun n hn => g2 n ((sortN_perm ns).mem_iff.mp hn))
      · cases e
    · cases e
  · rename_i kvs
    obtain ⟨v, rfl, rv⟩ := reps1 r
    split at e
    · rename_i h2
      cases e
      rw [Nat.blt_dec] at h2
      have h2 := of_decide_eq_true h2
      cases rv with
      | dct e1 s1 =>
        have ho := W.dct e1
        obtain ⟨g1, g2, g3⟩ := keys_ok s1
        refine .inr ⟨_, _, _, rfl, .inr ⟨_, ho⟩, g1, by simp [g3]; exact h2, fun ys p hp hs hn => ?_⟩
        rw [names_sorted hν g2 hp hs]
        exact k p _ hn (atms_rep _ fun n hn => g2 n ((sortN_perm _).mem_iff.mp hn))
    · cases e
  · cases e⟩

/-! ### min, max of numbers -/
def intsD : List D → Option (List Int)
  | [] => some []
  | .int n :: r => match intsD r with
    | some ns => some (n :: ns)
    | none => none
  | _ => none
def minI (a : Int) : List Int → Int
  | [] => a
  | b :: r => minI (if b < a then b else a) r
def maxI (a : Int) : List Int → Int
  | [] => a
  | b :: r => maxI (if a < b then b else a) r
def bMin : List D → Option D
  | [.lst xs] => match intsD xs with
    | some (a :: r) => some (.int (minI a r))
    | _ => none
  | _ => none
def bMax : List D → Option D
  | [.lst xs] => match intsD xs with
    | some (a :: r) => some (.int (maxI a r))
    | _ => none
  | _ => none
theorem intsD_ok {ν : Nu} {p0 : Addr} {G : Hp} : ∀ {xs : List D} {vs : List V} {ns : List Int}, Reps ν p0 G vs xs → intsD xs = some ns → vs = ns.map V.int
  | [], _, ns, .nil, h => by cases h; rfl
  | d :: r, _, ns, .cons a b, h => by
    unfold intsD at h
    split at h
    · rename_i z; cases z
    · rename_i z; cases z
      split at h
      · rename_i ms e
        cases h
        cases a
        rw [intsD_ok b e]; rfl
      · cases h
    · cases h
theorem minI_ok : ∀ (r : List Int) (a : Int), minI a r ∈ a :: r ∧ ∀ y ∈ a :: r, minI a r ≤ y
  | [], a => by simp [minI]
  | b :: r, a => by
    unfold minI
    obtain ⟨h1, h2⟩ := minI_ok r (if b < a then b else a)
    have h3 := h2 _ List.mem_cons_self
    refine ⟨?_, fun y hy => ?_⟩
    · rcases List.mem_cons.mp h1 with e | e
      · rw [e]; split <;> simp
      · exact List.mem_cons_of_mem _ (List.mem_cons_of_mem _ e)
    · have hm : (if b < a then b else a) ≤ a ∧ (if b < a then b else a) ≤ b := by split <;> omega
      rcases List.mem_cons.mp hy with rfl | hy
      · exact Int.le_trans h3 hm.1
      · rcases List.mem_cons.mp hy with rfl | hy
        · exact Int.le_trans h3 hm.2
        · exact h2 y (List.mem_cons_of_mem _ hy)
theorem maxI_ok : ∀ (r : List Int) (a : Int), maxI a r ∈ a :: r ∧ ∀ y ∈ a :: r, y ≤ maxI a r
  | [], a => by simp [maxI]
  | b :: r, a => by
    unfold maxI
    obtain ⟨h1, h2⟩ := maxI_ok r (if a < b then b else a)
    have h3 := h2 _ List.mem_cons_self
    refine ⟨?_, fun y hy => ?_⟩
    · rcases List.mem_cons.mp h1 with e | e
      · rw [e]; split <;> simp
      · exact List.mem_cons_of_mem _ (List.mem_cons_of_mem _ e)
    · have hm : a ≤ (if a < b then b else a) ∧ b ≤ (if a < b then b else a) := by split <;> omega
      rcases List.mem_cons.mp hy with rfl | hy
      · exact Int.le_trans hm.1 h3
      · rcases List.mem_cons.mp hy with rfl | hy
        · exact Int.le_trans hm.2 h3
        · exact h2 y (List.mem_cons_of_mem _ hy)
theorem b_min {c : Ct} : Call1 c (.builtin "min") bMin := fun X F => ⟨_, cr_min F.calm, fun Φ vs H G ω ds d Q W r e k => by
  unfold bMin at e
  split at e
  · rename_i xs
    obtain ⟨v, rfl, rv⟩ := reps1 r
    split at e
    · rename_i a rr h1
      cases e
      cases rv with
      | lst e1 s1 =>
        have g1 := intsD_ok s1 h1
        subst g1
        refine ⟨_, a :: rr, rfl, .inl (.inl (W.lst e1)), by simp, fun m hm hle => ?_⟩
        obtain ⟨q1, q2⟩ := minI_ok rr a
        have : m = minI a rr := Int.le_antisymm (hle _ q1) (q2 _ hm)
        subst this
        exact k _ H G (Le.refl G) W (.int _)
    · cases e
  · cases e⟩
theorem b_max {c : Ct} : Call1 c (.builtin "max") bMax := fun X F => ⟨_, cr_max F.calm, fun Φ vs H G ω ds d Q W r e k => by
  unfold bMax at e
  split at e
  · rename_i xs
    obtain ⟨v, rfl, rv⟩ := reps1 r
    split at e
    · rename_i a rr h1
      cases e
      cases rv with
      | lst e1 s1 =>
        have g1 := intsD_ok s1 h1
        subst g1
        refine ⟨_, a :: rr, rfl, .inl (.inl (W.lst e1)), by simp, fun m hm hle => ?_⟩
        obtain ⟨q1, q2⟩ := maxI_ok rr a
        have : m = maxI a rr := Int.le_antisymm (q2 _ hm) (hle _ q1)
        subst this
        exact k _ H G (Le.refl G) W (.int _)
    · cases e
  · cases e⟩

/-! ### xs.index(x) -/
def idxE (f : D → D → Option Bool) : List D → D → Nat → Option Nat
  | [], _, _ => none
  | y :: ys, a, n => match f y a with
    | some true => some n
    | some false => idxE f ys a (n + 1)
    | none => none
def fIndex (a b : D) : Option D := match a with
  | .lst xs => match shp 9 a with
    | true => match shp 8 b with
      | true => match idxE (dEqF 8) xs b 0 with
        | some n => some (.int n)
        | none => none
      | false => none
    | false => none
  | _ => none
theorem idxE_ok {ν : Nu} {p0 : Addr} {G : Hp} {f : D → D → Option Bool} {g : D → PyData} (hf : ∀ a b c va vb, Rep ν p0 G va a → Rep ν p0 G vb b → f a b = some c → PyData.eqv (g a) (g b) = c) {a : D} {va : V} (ra : Rep ν p0 G va a) :
    ∀ (xs : List D) (vs : List V) (n k : Nat), Reps ν p0 G vs xs → idxE f xs a n = some k → ∃ j z, k = n + j ∧ (xs.map g)[j]? = some z ∧ PyData.eqv z (g a) = true ∧ ∀ m z', m < j → (xs.map g)[m]? = some z' → PyData.eqv z' (g a) = false
  | [], _, _, _, _, h => by simp [idxE] at h
  | x :: xs, _, n, k, r, h => by
    cases r with
    | cons r1 r2 =>
      unfold idxE at h
      split at h
      · rename_i e
        cases h
        exact ⟨0, g x, rfl, rfl, hf _ _ _ _ _ r1 ra e, fun m z' hm => absurd hm (Nat.not_lt_zero _)⟩
      · rename_i e
        obtain ⟨j, z, h1, h2, h3, h4⟩ := idxE_ok hf ra xs _ (n + 1) k r2 h
        refine ⟨j + 1, z, by omega, by simpa using h2, h3, fun m z' hm hz => ?_⟩
        cases m with
        | zero =>
          simp only [List.map_cons, List.getElem?_cons_zero, Option.some.injEq] at hz
          subst hz
          exact hf _ _ _ _ _ r1 ra e
        | succ m => exact h4 m z' (by omega) (by simpa using hz)
      · cases h
section
variable {c : Ct} {e1 e2 : Expr} {x1 x2 : Ex} {pos apos : Pos} {es : List Expr}
theorem s_index (hν : NuOk c.ν) (h1 : Snd c e1 x1) (h2 : Snd c e2 x2) (hs : ∀ env, starEach [e2] env = (false, eval e2 env) :: starEach [] env := by intro _; rfl)
    (hbm : ∀ {X : Cx} {ta : TE} {t : TA} {r : V → List V → Hp → VK → Prop}, MtR X "list.index" r → PE X e1 ta → PA X [e2] t → PE X (.Call (.Attribute e1 "index" apos) [e2] [] pos) (tBM X.K "list" r ta t) := by
      intro X ta t r hm ho ha; exact pe_bm PySem.F.plainAttrs_list PySem.F.slot_list_index PySem.F.type_list_index hm ho ha) :
    Snd c (.Call (.Attribute e1 "index" apos) [e2] [] pos) (xBin fIndex x1 x2) := fun X F ρ ω d ω' h => by
  obtain ⟨a, ω1, b, q1, q2, q3⟩ := xBin_some h
  refine pe_mono (hbm (mt_indexD (room65 F.room)) (h1 X F _ _ _ _ q1) (pa_cons (h2 X F _ _ _ _ q2) pa_nil (hs _))) fun σ H Q q => ?_
  obtain ⟨Φ, G, W, E, k⟩ := q
  unfold fIndex at q3
  split at q3
  · rename_i xs
    split at q3
    · rename_i g1
      split at q3
      · rename_i g2
        split at q3
        · rename_i n g3
          cases q3
          refine ⟨Φ, G, W, E, fun v1 H1 G1 l1 W1 r1 => ⟨?_, Φ, G1, W1, E.up l1, fun v2 H2 G2 l2 W2 r2 => ?_⟩⟩
          · cases r1 with
            | lst e s => exact .inl ⟨rfl, _, .inl (.inl (W1.lst e))⟩
          · have r1' := r1.up l2
            obtain ⟨a1, a2⟩ := shaped_n (K := X.K) W2 hν (by decide) r1' g1
            obtain ⟨b1, b2⟩ := shaped_n (K := X.K) W2 hν (by decide) r2 g2
            cases r1' with
            | lst e s =>
              obtain ⟨j, z, f1, f2, f3, f4⟩ := idxE_ok (dEqF_ok hν 8) r2 xs _ 0 n s g3
              refine ⟨_, _, _, _, j, z, rfl, rfl, a1, b1, a2, b2, f2, f3, f4, ?_⟩
              have : n = j := by omega
              subst this
              exact k _ H2 G2 (l1.trans l2) W2 (.int _)
        · cases q3
      · cases q3
    · cases q3
  · cases q3
end
end Q

set_option Elab.async false
set_option linter.all false
set_option maxRecDepth 100000
/-! QF: dicts made and locked, their items, isinstance, defs called. -/
namespace Q
open PySem PySem.Spec PyProof.Rows L2
open PySem.PyData (strOk)

theorem Wd.newX {p0 : Addr} {Φ : Fr} {G H : Hp} {ω : Om} (W : Wd p0 Φ G H ω) {p : Addr} {o o' : HO} (h : H p = none) (ho : Hold (upd H p o') p o) : Wd p0 Φ (upd G p o) (upd H p o') ω := by
  have W' := W.raw (o := o') h
  refine ⟨fun a u e => ?_, fun a u e => ?_, ?_⟩
  · by_cases hp : a = p
    · subst hp; rw [upd_same] at e; cases e; exact ho
    · rw [upd_ne hp] at e; exact W'.gh a u e
  · obtain ⟨h1, h2⟩ := W'.fr a u e
    have ne : a ≠ p := fun z => by subst z; have := (W.fr a u e).1; rw [h] at this; cases this
    exact ⟨h1, (upd_ne ne).trans h2⟩
  · intro zz hz
    obtain ⟨q, e1, e2, ne, g1, g2, nf⟩ := W.st zz hz
    obtain ⟨q', e1', e2', ne', g1', g2', nf'⟩ := W'.st zz hz
    have n1 : p0 ≠ p := ne_of_none e1 h
    have hq : q' = q := by
      rw [upd_ne n1, e1] at e1'
      cases e1'; rfl
    subst hq
    have n2 : q' ≠ p := ne_of_none e2 h
    exact ⟨q', (upd_ne n1).trans e1, e2', ne', (upd_ne n1).trans g1, (upd_ne n2).trans g2, nf⟩
theorem Wd.newD {p0 : Addr} {Φ : Fr} {G H : Hp} {ω : Om} (W : Wd p0 Φ G H ω) {p : Addr} {kvs : List (Key × V)} {od : Obj} (h : H p = none) : Wd p0 Φ (upd G p (.frz od (.dK kvs))) (upd H p (.frz od (.dK kvs))) ω := W.newX h upd_same
/-- a dict that is handed on is locked -/
theorem pe_lockd {X : Cx} {e : Expr} {t : TE} (h : PE X e t) : PE X e (fun σ H Q => t σ H fun v H1 => ∃ p kvs, v = .ref p ∧ H1 p = some (.dK kvs) ∧ ∀ od, Q v (upd H1 p (.frz od (.dK kvs)))) := by
  refine ⟨fun pins s σ H Q I q => ?_⟩
  refine thn (h.run pins s σ H _ I q) fun u s1 ⟨v, H1, I1, r, p, kvs, e, hp, k⟩ => ?_
  subst e
  obtain ⟨od, I2⟩ := I1.lock hp True.intro
  exact ⟨_, _, I2, r, k od⟩

/-! ### dict(pairs) -/
def hasK (kds : List (Nat × D)) (k : Nat) : Bool := kds.any fun p => Nat.beq p.1 k
def dput (kds : List (Nat × D)) (k : Nat) (d : D) : List (Nat × D) := match hasK kds k with
  | true => kds.map fun p => match Nat.beq p.1 k with
    | true => (p.1, d)
    | false => p
  | false => kds ++ [(k, d)]
def dmerge (kds more : List (Nat × D)) : List (Nat × D) := more.foldl (fun acc p => dput acc p.1 p.2) kds
def pairsD : List D → Option (List (Nat × D))
  | [] => some []
  | .tup [.atm n, d] :: r => match pairsD r with
    | some s => some ((n, d) :: s)
    | none => none
  | _ => none
theorem key_dec {ν : Nu} (hν : NuOk ν) {n m : Nat} {x y : Str} (a : ν[n]? = some x) (b : ν[m]? = some y) : decide ((Sum.inr x : Key) = Sum.inr y) = Nat.beq n m := by
  cases hb : Nat.beq n m with
  | true =>
    have := Nat.eq_of_beq_eq_true hb
    subst this
    rw [a] at b; cases b
    exact decide_eq_true rfl
  | false =>
    refine decide_eq_false fun z => ?_
    cases z
    exact Nat.ne_of_beq_eq_false hb (hν.inj a b)
section
variable {ν : Nu} {p0 : Addr} {G : Hp}
theorem RepK.any (hν : NuOk ν) {k : Nat} {y : Str} (hy : ν[k]? = some y) : ∀ {kvs : List (Key × V)} {kds : List (Nat × D)}, RepK ν p0 G kvs kds → (kvs.any fun kv => decide (kv.1 = Sum.inr y)) = hasK kds k
  | _, _, .nil => rfl
  | _, _, .cons e a b => by
    have ih := RepK.any hν hy b
    unfold hasK at ih ⊢
    rw [List.any_cons, List.any_cons, ih, key_dec hν e hy]
theorem RepK.repl (hν : NuOk ν) {k : Nat} {y : Str} {v : V} {d : D} (hy : ν[k]? = some y) (r : Rep ν p0 G v d) : ∀ {kvs : List (Key × V)} {kds : List (Nat × D)}, RepK ν p0 G kvs kds →
    RepK ν p0 G (kvs.map fun kv => if kv.1 = Sum.inr y then (kv.1, v) else kv) (kds.map fun p => match Nat.beq p.1 k with | true => (p.1, d) | false => p)
  | _, _, .nil => .nil
  | _, _, .cons (n := n) (x := x) e a b => by
    have ih := RepK.repl hν hy r b
    have kd := key_dec hν e hy
    rw [List.map_cons, List.map_cons]
    cases hb : Nat.beq n k with
    | true =>
      rw [hb] at kd
      rw [if_pos (of_decide_eq_true kd)]
      exact .cons e r ih
    | false =>
      rw [hb] at kd
      rw [if_neg (of_decide_eq_false kd)]
      exact .cons e a ih
theorem RepK.app : ∀ {kvs kws : List (Key × V)} {kds kes : List (Nat × D)}, RepK ν p0 G kvs kds → RepK ν p0 G kws kes → RepK ν p0 G (kvs ++ kws) (kds ++ kes)
  | _, _, _, _, .nil, s => s
  | _, _, _, _, .cons e a r, s => .cons e a (RepK.app r s)
theorem RepK.put (hν : NuOk ν) {k : Nat} {y : Str} {v : V} {d : D} (hy : ν[k]? = some y) (r : Rep ν p0 G v d) {kvs : List (Key × V)} {kds : List (Nat × D)} (h : RepK ν p0 G kvs kds) : RepK ν p0 G (putK kvs (.inr y) v) (dput kds k d) := by
  have ha := h.any hν hy
  unfold putK dput
  rw [ha]
  cases hasK kds k with
  | true => rw [if_pos rfl]; exact h.repl hν hy r
  | false => rw [if_neg Bool.false_ne_true]; exact h.app (.cons hy r .nil)
theorem RepK.merge (hν : NuOk ν) : ∀ {more : List (Key × V)} {moreD : List (Nat × D)} {kvs : List (Key × V)} {kds : List (Nat × D)}, RepK ν p0 G more moreD → RepK ν p0 G kvs kds → RepK ν p0 G (mergeK kvs more) (dmerge kds moreD)
  | _, _, _, _, .nil, h => h
  | _, _, _, _, .cons (n := n) (x := x) (v := v) (d := d) (r := r) (s := s) e a b, h => show RepK ν p0 G (mergeK (putK _ (.inr x) v) r) (dmerge (dput _ n d) s) from RepK.merge hν b (h.put hν e a)
theorem pairsD_ok {Φ : Fr} {H : Hp} {ω : Om} {K : PySem.W.Frag} (W : Wd p0 Φ G H ω) : ∀ {xs : List D} {vs : List V} {kds : List (Nat × D)}, Reps ν p0 G vs xs → pairsD xs = some kds →
    ∃ (ps : List Addr) (kvs : List (Key × V)), vs = ps.map V.ref ∧ Paired (fun p kv => SqT K H p [kV kv.1, kv.2]) ps kvs ∧ RepK ν p0 G kvs kds
  | [], _, kds, .nil, h => by cases h; exact ⟨[], [], rfl, .nil, .nil⟩
  | d :: r, _, kds, .cons a b, h => by
    unfold pairsD at h
    split at h
    · rename_i z; cases z
    · rename_i n d' r' z
      cases z
      split at h
      · rename_i s e
        cases h
        obtain ⟨ps, kvs, h1, h2, h3⟩ := pairsD_ok W b e
        cases a with
        | tup e1 s1 =>
          cases s1 with
          | cons a1 b1 =>
            cases a1 with
            | atm en =>
              cases b1 with
              | cons a2 b2 =>
                cases b2
                exact ⟨_ :: ps, (.inr _, _) :: kvs, by rw [h1]; rfl, .cons (.inl (.inl (W.tup e1))) h2, .cons en a2 h3⟩
      · cases h
    · cases h
end
def bDict : List D → Option D
  | [.lst xs] => match pairsD xs with
    | some kds => some (.dct (dmerge [] kds))
    | none => none
  | _ => none
section
variable {c : Ct} {e : Expr} {x : Ex} {y : Exs} {p pos apos cpos : Pos}
theorem s_dict (hν : NuOk c.ν) (hg : glB c.sc "dict" = true) (hm : c.mg "dict" = none) (ha : SndA c [e] y)
    (he : ∀ env, starEach [e] env = (false, eval e env) :: starEach [] env := by intro _; rfl) (hpl : ∀ env, (backTo pos (starEach [] env)).any (·.1) = false := by intro _; rfl) : Snd c (.Call (.Name "dict" p) [e] [] pos) (xB bDict y) := fun X F ρ ω d ω' q => by
  unfold xB at q
  split at q
  · rename_i ds ω1 q1
    split at q
    · rename_i d' q2
      cases q
      refine pe_mono (pe_lockd (pe_callTy (call_dictP F.calm) (glB_ok F hg) (by rw [F.mg]; exact hm) (by decide +kernel) (ha X F _ _ _ _ q1) (by decide) (by decide) (he _) (hpl _))) fun σ H Q q => ?_
      obtain ⟨Φ, G, W, E, k⟩ := q
      refine ⟨Φ, G, W, E, fun vs H1 G1 l1 W1 r1 => ?_⟩
      unfold bDict at q2
      split at q2
      · rename_i xs
        obtain ⟨v, rfl, rv⟩ := reps1 r1
        split at q2
        · rename_i kds g1
          cases q2
          cases rv with
          | lst e1 s1 =>
            obtain ⟨ps, kvs, h1, h2, h3⟩ := pairsD_ok (K := X.K) W1 s1 g1
            subst h1
            refine ⟨_, ps, kvs, rfl, .inl (.inl (W1.lst e1)), h2, fun p hp => ⟨p, _, rfl, upd_same, fun od => ?_⟩⟩
            rw [upd_upd]
            exact k _ _ _ (l1.trans (W1.newG hp)) (W1.newD hp) (.dct upd_same ((RepK.merge hν h3 .nil).up (W1.newG hp)))
        · cases q2
      · cases q2
    · cases q
  · cases q
/-- {} -/
theorem s_dct0 : Snd c (.Dict [] [] pos) (xLit (.dct [])) := fun X F ρ ω d ω' q => by
  cases q
  refine pe_mono (pe_lockd pe_dnewK) fun σ H Q q => ?_
  obtain ⟨Φ, G, W, E, k⟩ := q
  refine fun p hp => ⟨p, _, rfl, upd_same, fun od => ?_⟩
  rw [upd_upd]
  exact k _ _ _ (W.newG hp) (W.newD hp) (.dct upd_same .nil)

/-! ### list(d.items()), d locked -/
end
/-- what is new and whole is frozen -/
def grow (G H H' : Hp) : Hp := fun b => match G b with
  | some u => some u
  | none => match H b with
    | some _ => none
    | none => match H' b with
      | some (.lst xs) => some (.lst xs)
      | some (.tup xs) => some (.tup xs)
      | _ => none
theorem grow_le (G H H' : Hp) : Le G (grow G H H') := fun a u e => by unfold grow; rw [e]
theorem Wd.ext {p0 : Addr} {Φ : Fr} {G G' H H' : Hp} {ω : Om} (W : Wd p0 Φ G H ω) (kp : ∀ b o, H b = some o → H' b = some o) (new : ∀ a u, G' a = some u → G a = some u ∨ (H a = none ∧ Hold H' a u)) : Wd p0 Φ G' H' ω := by
  have hold : ∀ a u, Hold H a u → Hold H' a u := fun a u h => kp _ _ h
  have off : ∀ a o, H a = some o → G a = none → G' a = none := fun a o e g => by
    cases q : G' a with
    | none => rfl
    | some u =>
      rcases new a u q with z | ⟨z, _⟩
      · rw [g] at z; cases z
      · rw [e] at z; cases z
  refine ⟨fun a u e => ?_, fun a u e => ?_, ?_⟩
  · rcases new a u e with z | ⟨_, z⟩
    · exact hold a u (W.gh a u z)
    · exact z
  · obtain ⟨h1, h2⟩ := W.fr a u e
    exact ⟨kp _ _ h1, off a u h1 h2⟩
  · intro zz hz
    obtain ⟨q, e1, e2, ne, g1, g2, nf⟩ := W.st zz hz
    exact ⟨q, kp _ _ e1, kp _ _ e2, ne, off _ _ e1 g1, off _ _ e2 g2, nf⟩
theorem Wd.grow {p0 : Addr} {Φ : Fr} {G H H' : Hp} {ω : Om} (W : Wd p0 Φ G H ω) (kp : ∀ b o, H b = some o → H' b = some o) : Wd p0 Φ (grow G H H') H' ω := W.ext kp fun a u e => by
  unfold Q.grow at e
  split at e
  · rename_i g; cases e; exact .inl g
  · split at e
    · cases e
    · rename_i hn
      split at e
      · rename_i h1; cases e; exact .inr ⟨hn, h1⟩
      · rename_i h1; cases e; exact .inr ⟨hn, h1⟩
      · cases e
theorem grow_lst {G H H' : Hp} {p : Addr} {xs : List V} (g : G p = none) (h : H p = none) (e : H' p = some (.lst xs)) : grow G H H' p = some (.lst xs) := by unfold grow; rw [g, h]; simp only [e]
theorem grow_tup {G H H' : Hp} {p : Addr} {xs : List V} (g : G p = none) (h : H p = none) (e : H' p = some (.tup xs)) : grow G H H' p = some (.tup xs) := by unfold grow; rw [g, h]; simp only [e]
section
variable {c : Ct} {e : Expr} {x : Ex} {y : Exs} {p pos apos cpos : Pos}
def tItems (te : TE) : TE := fun σ H Q => te σ H fun x H1 => ∃ (d : Addr) (kvs : List (Key × V)), x = .ref d ∧ Rd H1 d (.dK kvs) ∧
  ∀ (H' : Hp) (p : Addr) (ts : List Addr), (∀ b o, H1 b = some o → H' b = some o) → H1 p = none → (∀ t ∈ ts, H1 t = none) → H' p = some (.lst (ts.map V.ref)) →
    Paired (fun (t : Addr) (q : Key × V) => H' t = some (.tup [kV q.1, q.2])) ts kvs → Q (.ref p) H'
theorem pe_items {X : Cx} {te : TE} (hc : X.calm = true) (he : PE X e te) (hg : Gl X "list") (hm : X.mg "list" = none) (hv : bootBuiltins "list" = some (.type "list"))
    (hbase : attributeBase e "items" X.env (eval e X.env) = eval e X.env) (hline : (apos.endLine == cpos.line) = true)
    (hs : starEach [.Call (.Attribute e "items" apos) [] [] cpos] X.env = (false, eval (.Call (.Attribute e "items" apos) [] [] cpos) X.env) :: starEach [] X.env) :
    PE X (.Call (.Name "list" p) [.Call (.Attribute e "items" apos) [] [] cpos] [] pos) (tItems te) := by
  constructor
  intro pins s σ H Q I hq
  refine wpAny_Call_Name_kw (ld_blt I hg hm hv (PyProof.Rows.callWith_type1 ?_ hs rfl))
  rw [hs]
  refine Calls.spliced_cons (wpAny_Call_method (T := "dict") (id := "dict.items") hbase rfl hline F.plainAttrs_dict F.slot_dict_items F.type_dict_items ?_)
  refine thn (he.run pins s σ H _ I hq) fun u s1 ⟨x, H1, I1, rx, d, kvs, ex, hd, q⟩ => ?_
  subst ex
  cases (show u = Value.ref d from rx)
  obtain ⟨hz, hs0, vs, kv, hdo⟩ := dk_rd I1.hok hd
  obtain ⟨ep, hat⟩ := hdo.dictAt
  have lk : kvs.length = vs.length := Paired.length kv
  have I2 := I1.kept (t' := s1.toks) (h' := s1.heap.push { cls := .type "dict_items", data := .fields #[.ref d] }) fun b ob q => Heap.get?_push_of_some _ q
  refine ⟨hdo.typeIs, hdo.mapOf.noDict, ?_⟩
  refine method_meetsIn F.slot_dict_items F.entry_dict_items rfl (PySem.evalArgs_none ⟨rfl, hdo.typeIs, F.args_dict_items_1 _, _, meets_dict_items (mixKind X.prog X.w) d hs0, ⟨vs, hdo⟩, Calls.spliced_nil ?_⟩)
  refine PySem.W.kdx_call (knd := mixKind X.prog X.w) (kvs := vs) (ep := ep) (I1.ok.hd hc) ⟨_, Heap.get?_push_size _ rfl, rfl, rfl⟩ (hat.push _) (by omega) ?_
  intro h' tk acc cc as hk hS hl hG hacc
  obtain ⟨H', k1, k2, k3, k4, k5, k6, J⟩ := LiI.items_laid (tk := tk) I2 hz kv hk hS hl hG hacc
  exact ⟨.ref _, H', J, rfl, q H' _ as k1 k2 k3 k5 k6⟩
def itemsD : List (Nat × D) → List D
  | [] => []
  | (n, d) :: r => .tup [.atm n, d] :: itemsD r
def xItems (x : Ex) : Ex := fun ρ ω => match x ρ ω with
  | some (.dct kds, ω1) => some (.lst (itemsD kds), ω1)
  | _ => none
theorem items_rep {ν : Nu} {p0 : Addr} {G G' : Hp} (l : Le G G') : ∀ {ts : List Addr} {kvs : List (Key × V)} {kds : List (Nat × D)}, RepK ν p0 G kvs kds → Paired (fun (t : Addr) (q : Key × V) => G' t = some (.tup [kV q.1, q.2])) ts kvs → Reps ν p0 G' (ts.map V.ref) (itemsD kds)
  | _, _, _, .nil, .nil => .nil
  | _, _, _, .cons e a b, .cons h t => .cons (.tup h (.cons (.atm e) (.cons (a.up l) .nil))) (items_rep l b t)
theorem paired_imp {α β : Type} {F F' : α → β → Prop} {xs : List α} {ys : List β} (h : Paired F xs ys) (m : ∀ a ∈ xs, ∀ b, F a b → F' a b) : Paired F' xs ys := by
  induction h with
  | nil => exact .nil
  | cons a b ih => exact .cons (m _ List.mem_cons_self _ a) (ih fun a ha b hb => m a (List.mem_cons_of_mem _ ha) b hb)
theorem s_items (hg : glB c.sc "list" = true) (hm : c.mg "list" = none) (h : Snd c e x) (hbase : ∀ env, attributeBase e "items" env (eval e env) = eval e env := by intro _; rfl) (hline : (apos.endLine == cpos.line) = true := by rfl)
    (hs : ∀ env, starEach [.Call (.Attribute e "items" apos) [] [] cpos] env = (false, eval (.Call (.Attribute e "items" apos) [] [] cpos) env) :: starEach [] env := by intro _; rfl) :
    Snd c (.Call (.Name "list" p) [.Call (.Attribute e "items" apos) [] [] cpos] [] pos) (xItems x) := fun X F ρ ω d ω' q => by
  unfold xItems at q
  split at q
  · rename_i kds ω1 q1
    cases q
    refine pe_mono (pe_items F.calm (h X F _ _ _ _ q1) (glB_ok F hg) (by rw [F.mg]; exact hm) (by decide +kernel) (hbase _) hline (hs _)) fun σ H Q q => ?_
    obtain ⟨Φ, G, W, E, k⟩ := q
    refine ⟨Φ, G, W, E, fun v H1 G1 l1 W1 r1 => ?_⟩
    cases r1 with
    | dct e1 s1 =>
      have ho := W1.dct e1
      refine ⟨_, _, rfl, .inr ⟨_, ho⟩, fun H' p ts k1 k2 k3 k4 k5 => ?_⟩
      have l2 := grow_le G1 H1 H'
      refine k _ _ _ (l1.trans l2) (W1.grow k1) (.lst (grow_lst (W1.free k2) k2 k4) (items_rep l2 s1 (paired_imp k5 fun t ht q hq => grow_tup (W1.free (k3 t ht)) (k3 t ht) hq)))
  · cases q
end

/-! ### isinstance -/
inductive Ty where
  | list | tuple | dict | str | int | bool
def Ty.nm : Ty → String
  | .list => "list" | .tuple => "tuple" | .dict => "dict" | .str => "str" | .int => "int" | .bool => "bool"
def isT : Ty → D → Bool
  | .list, .lst _ => true
  | .list, .strm => true
  | .tuple, .tup _ => true
  | .dict, .dct _ => true
  | .str, .str _ => true
  | .str, .atm _ => true
  | .int, .int _ => true
  | .int, .bl _ => true
  | .bool, .bl _ => true
  | _, _ => false
def tyName : D → String
  | .non => "NoneType" | .bl _ => "bool" | .int _ => "int" | .str _ => "str" | .atm _ => "str" | .lst _ => "list" | .tup _ => "tuple" | .dct _ => "dict" | .strm => "list"
theorem isT_ok (T : Ty) (d : D) : kitB (tyName d) T.nm = some (isT T d) := by
  cases T <;> cases d <;> simp only [tyName, Ty.nm, isT] <;> decide +kernel
def noStrm : D → Bool
  | .strm => false
  | _ => true
theorem tyx_of {ν : Nu} {p0 : Addr} {Φ : Fr} {G H : Hp} {ω : Om} {K : PySem.W.Frag} (W : Wd p0 Φ G H ω) {v : V} {d : D} (r : Rep ν p0 G v d) (hs : noStrm d = true) : TyX K H v (.type (tyName d)) := by
  cases r with
  | non => exact .base .non
  | bl b => exact .base (.bl b)
  | int b => exact .base (.int b)
  | str b => exact .base (.str b)
  | atm e => exact .base (.str _)
  | lst e s => exact .base (.lst (W.lst e))
  | tup e s => exact .base (.tup (W.tup e))
  | dct e s => exact .fDict (W.dct e)
  | strm => cases hs
def xIsi (T : Ty) (x : Ex) : Ex := fun ρ ω => match x ρ ω with
  | some (d, ω1) => match noStrm d with
    | true => some (.bl (isT T d), ω1)
    | false => none
  | none => none
def anyT : List Ty → D → Bool
  | [], _ => false
  | T :: r, d => match isT T d with
    | true => true
    | false => anyT r d
def xIsiT (Ts : List Ty) (x : Ex) : Ex := fun ρ ω => match x ρ ω with
  | some (d, ω1) => match noStrm d with
    | true => some (.bl (anyT Ts d), ω1)
    | false => none
  | none => none
/-- the names of classes in a row -/
inductive TyEs : List Ty → List Expr → Prop
  | nil : TyEs [] []
  | cons {T : Ty} {r : List Ty} {n : Str} {p : Pos} {es : List Expr} : n = Str.ofString T.nm → TyEs r es → TyEs (T :: r) (.Name n p :: es)
section
variable {c : Ct} {e : Expr} {x : Ex} {p pos tp : Pos}
theorem boot_ty (T : Ty) : bootBuiltins (Str.ofString T.nm) = some (.type T.nm) := by cases T <;> decide +kernel
theorem nm_ne (T : Ty) : Str.ofString T.nm ≠ Str.ofString "__name__" := by cases T <;> decide
theorem nm_db (T : Ty) : (Str.ofString T.nm == ("__debug__" : Str)) = false := by cases T <;> decide
theorem pe_ty {X : Cx} (F : Fits c X) (T : Ty) {n : Str} (hn : n = Str.ofString T.nm) (hg : glB c.sc n = true) (hm : c.mg n = none) : PE X (.Name n tp) (tC (.ty T.nm)) := by
  subst hn
  exact pe_bltn (glB_ok F hg) (by rw [F.mg]; exact hm) (boot_ty T) (show Value.type T.nm = Value.type T.nm from rfl) (nm_ne T) (nm_db T)
theorem s_isi (T : Ty) {n : Str} (hn : n = Str.ofString T.nm) (hg : glB c.sc n = true) (hm : c.mg n = none) (hgi : glB c.sc "isinstance" = true) (hmi : c.mg "isinstance" = none) (h : Snd c e x)
    (he : ∀ env, starEach [e, .Name n tp] env = (false, eval e env) :: starEach [.Name n tp] env := by intro _; rfl) (hpl : ∀ env, (backTo pos (starEach [.Name n tp] env)).any (·.1) = false := by intro _; rfl) :
    Snd c (.Call (.Name "isinstance" p) [e, .Name n tp] [] pos) (xIsi T x) := fun X F ρ ω d ω' q => by
  unfold xIsi at q
  split at q
  · rename_i d' ω1 q1
    split at q
    rotate_left
    · cases q
    rename_i hns
    cases q
    refine pe_mono (pe_callB call_isi (glB_ok F hgi) (by rw [F.mg]; exact hmi) (by decide +kernel) (pa_cons (h X F _ _ _ _ q1) (pa_cons (pe_ty F T hn hg hm) pa_nil) (he _)) (by decide) (by decide) (he _) (hpl _)) fun σ H Q q => ?_
    obtain ⟨Φ, G, W, E, k⟩ := q
    refine ⟨Φ, G, W, E, fun v H1 G1 l1 W1 r1 => ?_⟩
    exact ⟨v, _, _, _, _, rfl, .ty _, tyx_of W1 r1 hns, kit_ty (isT_ok T d'), k _ _ G1 l1 W1 (.bl _)⟩
  · cases q
theorem kitAny_ok {K : PySem.W.Frag} (d : D) : ∀ Ts : List Ty, PySem.W.kitAny K (.type (tyName d)) (Ts.map fun T => Value.type T.nm) = some (anyT Ts d)
  | [] => kitAny_nil
  | T :: r => by
    have h := isT_ok T d
    unfold anyT
    cases hb : isT T d with
    | true =>
      rw [hb] at h
      exact kitAny_cons (kit_ty h) (fun z => by cases z) fun _ => rfl
    | false =>
      rw [hb] at h
      exact kitAny_cons (kit_ty h) (fun _ => kitAny_ok d r) fun z => by cases z
theorem clsv_row : ∀ Ts : List Ty, Paired ClsV (Ts.map fun T => V.ty T.nm) (Ts.map fun T => Value.type T.nm)
  | [] => .nil
  | T :: r => .cons (.ty _) (clsv_row r)
def tTys (Ts : List Ty) : TA := fun _ H Q => Q (Ts.map fun T => V.ty T.nm) H
theorem pa_tys {X : Cx} (F : Fits c X) : ∀ {Ts : List Ty} {es : List Expr}, TyEs Ts es → (∀ T ∈ Ts, glB c.sc (Str.ofString T.nm) = true ∧ c.mg (Str.ofString T.nm) = none) → PA X es (tTys Ts)
  | _, _, .nil, _ => pa_nil
  | _, _, .cons (T := T) e t, h => by
    have h1 := h T List.mem_cons_self
    refine pa_mono (pa_cons (pe_ty F T e (by rw [e]; exact h1.1) (by rw [e]; exact h1.2)) (pa_tys F t fun T' hT => h T' (List.mem_cons_of_mem _ hT)) rfl) fun σ H Q q => ?_
    exact q
theorem s_isiT (Ts : List Ty) {es : List Expr} {k : Nat} (hes : TyEs Ts es) (hT : ∀ T ∈ Ts, glB c.sc (Str.ofString T.nm) = true ∧ c.mg (Str.ofString T.nm) = none) (hsz : Ts.length ≤ 100) (hgi : glB c.sc "isinstance" = true) (hmi : c.mg "isinstance" = none) (h : Snd c e x)
    (he : ∀ env, starEach [e, .Tuple es k tp] env = (false, eval e env) :: starEach [.Tuple es k tp] env := by intro _; rfl) (he2 : ∀ env, starEach [.Tuple es k tp] env = (false, eval (.Tuple es k tp) env) :: starEach [] env := by intro _; rfl)
    (hpl : ∀ env, (backTo pos (starEach [.Tuple es k tp] env)).any (·.1) = false := by intro _; rfl) :
    Snd c (.Call (.Name "isinstance" p) [e, .Tuple es k tp] [] pos) (xIsiT Ts x) := fun X F ρ ω d ω' q => by
  unfold xIsiT at q
  split at q
  · rename_i d' ω1 q1
    split at q
    rotate_left
    · cases q
    rename_i hns
    cases q
    refine pe_mono (pe_callB call_isiT (glB_ok F hgi) (by rw [F.mg]; exact hmi) (by decide +kernel) (pa_cons (h X F _ _ _ _ q1) (pa_cons (pe_tup (pa_tys F hes hT)) pa_nil (he2 _)) (he _)) (by decide) (by decide) (he _) (hpl _)) fun σ H Q q => ?_
    obtain ⟨Φ, G, W, E, k⟩ := q
    refine ⟨Φ, G, W, E, fun v H1 G1 l1 W1 r1 => ⟨?_, fun tp hp => ?_⟩⟩
    · rw [List.length_map]; have := lim_ok; unfold lim at this; omega
    · have W2 := W1.newT (xs := Ts.map fun T => V.ty T.nm) hp
      exact ⟨v, tp, _, _, _, _, rfl, upd_same, clsv_row Ts, tyx_of W2 (r1.up (W1.newG hp)) hns, kitAny_ok d' Ts, k _ _ _ (l1.trans (W1.newG hp)) W2 (.bl _)⟩
  · cases q
end

/-! ### a def called -/
abbrev Fn := List D → Om → Option (D × Om)
def spf (f : Fn) (n : Nat) : Sp := fun vs H Q _ => vs.length = n ∧ ∃ ν p0 Φ G ω ds d ω', NuOk ν ∧ Wd p0 Φ G H ω ∧ Reps ν p0 G vs ds ∧ f ds ω = some (d, ω') ∧ ∀ v H' G', Le G G' → Wd p0 Φ G' H' ω' → Rep ν p0 G' v d → Q v H'
def xCall (n : Nat) (f : Fn) (y : Exs) : Ex := fun ρ ω => match y ρ ω with
  | some (ds, ω1) => match Nat.beq ds.length n with
    | true => f ds ω1
    | false => none
  | none => none
section
variable {c : Ct} {e : Expr} {es : List Expr} {y : Exs} {x : Str} {p pos : Pos}
theorem s_call {fn : Fn} {k : Nat} {f : Addr} {fd : FuncData} {ps : List Str} (hF : FnOk c.P c.w c.K c.mg c.base CX0 k f fd ps (spf fn ps.length)) (hk : k ≤ c.k) (hν : NuOk c.ν) (hg : glB c.sc x = true) (hm : c.mg x = some (.ref f)) (kp : PySem.W.keepIn c.K (.ref f) = true)
    (b : Binds c.K fd ps []) (ha : SndA c (e :: es) y) (hdb : (x == ("__debug__" : Str)) = false := by decide)
    (he : ∀ env, starEach (e :: es) env = (false, eval e env) :: starEach es env := by intro _; rfl) (hpl : ∀ env, (backTo pos (starEach es env)).any (·.1) = false := by intro _; rfl) : Snd c (.Call (.Name x p) (e :: es) [] pos) (xCall ps.length fn y) := fun X F ρ ω d ω' q => by
  unfold xCall at q
  split at q
  · rename_i ds ω1 q1
    split at q
    · rename_i hl
      have hF' : FnOk X.prog X.w X.K X.mg X.base CX0 k f fd ps (spf fn ps.length) := by rw [F.P, F.w, F.K, F.mg, F.base]; exact hF
      refine pe_mono (pe_call hF' (F.room.mono hk) (glB_ok F hg) (by rw [F.mg]; exact hm) (by rw [F.K]; exact kp) (by rw [F.K]; exact b) .nil pass0 (ha X F _ _ _ _ q1) hdb (he _) (hpl _)) fun σ H Q q => ?_
      obtain ⟨Φ, G, W, E, kk⟩ := q
      refine ⟨Φ, G, W, E, fun vs H1 G1 l1 W1 r1 => ?_⟩
      show spf fn ps.length (vs ++ []) H1 Q E0
      rw [List.append_nil]
      exact ⟨by rw [r1.length]; exact Nat.eq_of_beq_eq_true hl, c.ν, c.p0, Φ, G1, ω1, ds, d, ω', hν, W1, r1, q, fun v H' G' l W' r => kk v H' G' (l1.trans l) W' r⟩
    · cases q
  · cases q
end
end Q

set_option Elab.async false
set_option linter.all false
set_option maxRecDepth 100000
set_option maxHeartbeats 1000000
/-! QG: what is walked, targets, list comprehensions. -/
namespace Q
open PySem PySem.Spec PyProof.Rows L2

/-! ### what is walked -/
def Gives (ν : Nu) (p0 : Addr) (J : It) (G1 : Hp) (ds : List D) : Prop := ∀ G H ω Φ, Le G1 G → Wd p0 Φ G H ω →
  (∀ i d, ds[i]? = some d → J.go i H ∧ ∀ x H', J.yld i H x H' → ∃ G', Le G G' ∧ Wd p0 Φ G' H' ω ∧ Rep ν p0 G' x d) ∧ (∀ i, ds.length ≤ i → J.stop i H)
def rdI (ν : Nu) (p0 : Addr) (ρ : Env) (ω : Om) (ds : List D) (ω' : Om) : TI := fun σ H R => ∃ Φ G, Wd p0 Φ G H ω ∧ EnvX ν p0 Φ G σ ρ ∧ ∀ J H1 G1, Le G G1 → Wd p0 Φ G1 H1 ω' → Gives ν p0 J G1 ds → R J H1
def SndI (c : Ct) (tg e : Expr) (x : Exs) : Prop := ∀ X, Fits c X → ∀ ρ ω ds ω', x ρ ω = some (ds, ω') → PI X tg e (rdI c.ν c.p0 ρ ω ds ω')
theorem pi_mono {X : Cx} {tg e : Expr} {t t' : TI} (h : PI X tg e t) (m : ∀ σ H R, t' σ H R → t σ H R) : PI X tg e t' := ⟨fun pins s σ H Q I q => h.run pins s σ H Q I (m σ H Q q)⟩
def iterD : D → Option (List D)
  | .lst xs => some xs
  | .tup xs => some xs
  | .dct kds => some ((keysOf kds).map .atm)
  | .str x => some (x.cps.toList.map fun c => .str ⟨#[c]⟩)
  | _ => none
def yIter (x : Ex) : Exs := fun ρ ω => match x ρ ω with
  | some (d, ω1) => match iterD d with
    | some ds => some (ds, ω1)
    | none => none
  | none => none
def rangeD (lo : Int) : Nat → List D
  | 0 => []
  | n + 1 => .int lo :: rangeD (lo + 1) n
theorem rangeD_len : ∀ (n : Nat) (lo : Int), (rangeD lo n).length = n
  | 0, _ => rfl
  | n + 1, lo => by simp [rangeD, rangeD_len n]
theorem rangeD_get : ∀ (n : Nat) (lo : Int) (i : Nat) (d : D), (rangeD lo n)[i]? = some d → i < n ∧ d = .int (lo + i)
  | 0, _, _, _, h => by simp [rangeD] at h
  | n + 1, lo, 0, d, h => by simp [rangeD] at h; subst h; simp
  | n + 1, lo, i + 1, d, h => by
    obtain ⟨h1, h2⟩ := rangeD_get n (lo + 1) i d (by simpa [rangeD] using h)
    refine ⟨by omega, ?_⟩
    rw [h2]; congr 1; push_cast; omega
def okR : Int → Bool
  | .ofNat n => Nat.ble n 1000000
  | .negSucc n => Nat.ble n 1000000
theorem okR_ok {j : Int} (h : okR j = true) : -(2 ^ 62) ≤ j ∧ j < 2 ^ 62 := by
  cases j with
  | ofNat n =>
    have := Nat.le_of_ble_eq_true (show Nat.ble n 1000000 = true from h)
    rw [Int.ofNat_eq_natCast]
    constructor <;> omega
  | negSucc n =>
    have := Nat.le_of_ble_eq_true (show Nat.ble n 1000000 = true from h)
    constructor <;> omega
theorem okR_n {n : Nat} (h : n ≤ 1000000) : okR n = true := Nat.ble_eq_true_of_le h
def yRange1 (y : Exs) : Exs := fun ρ ω => match y ρ ω with
  | some ([.int j], ω1) => match okR j with
    | true => some (rangeD 0 j.toNat, ω1)
    | false => none
  | _ => none
def yRange2 (y : Exs) : Exs := fun ρ ω => match y ρ ω with
  | some ([.int i, .int j], ω1) => match okR i && okR j with
    | true => some (rangeD i (j - i).toNat, ω1)
    | false => none
  | _ => none
def enumD : Nat → List D → List D
  | _, [] => []
  | n, d :: r => .tup [.int n, d] :: enumD (n + 1) r
theorem enumD_get : ∀ (xs : List D) (n i : Nat) (d : D), (enumD n xs)[i]? = some d → ∃ x, xs[i]? = some x ∧ d = .tup [.int ((n + i : Nat) : Int), x]
  | [], _, _, _, h => by simp [enumD] at h
  | x :: r, n, 0, d, h => by simp [enumD] at h; exact ⟨x, rfl, h.symm⟩
  | x :: r, n, i + 1, d, h => by
    obtain ⟨y, h1, h2⟩ := enumD_get r (n + 1) i d (by simpa [enumD] using h)
    refine ⟨y, by simpa using h1, ?_⟩
    rw [h2]; congr 4; omega
theorem enumD_len : ∀ (xs : List D) (n : Nat), (enumD n xs).length = xs.length
  | [], _ => rfl
  | _ :: r, n => by simp [enumD, enumD_len r]
def zipD : List D → List D → List D
  | x :: xs, y :: ys => .tup [x, y] :: zipD xs ys
  | _, _ => []
theorem zipD_get : ∀ (xs ys : List D) (i : Nat) (d : D), (zipD xs ys)[i]? = some d → ∃ x y, xs[i]? = some x ∧ ys[i]? = some y ∧ d = .tup [x, y]
  | [], _, _, _, h => by simp [zipD] at h
  | _ :: _, [], _, _, h => by simp [zipD] at h
  | x :: xs, y :: ys, 0, d, h => by simp [zipD] at h; exact ⟨x, y, rfl, rfl, h.symm⟩
  | x :: xs, y :: ys, i + 1, d, h => by
    obtain ⟨a, b, h1, h2, h3⟩ := zipD_get xs ys i d (by simpa [zipD] using h)
    exact ⟨a, b, by simpa using h1, by simpa using h2, h3⟩
theorem zipD_len : ∀ (xs ys : List D), (zipD xs ys).length = min xs.length ys.length
  | [], _ => by simp [zipD]
  | _ :: _, [] => by simp [zipD]
  | x :: xs, y :: ys => by simp [zipD, zipD_len xs ys]
def yEnum (y : Exs) : Exs := fun ρ ω => match y ρ ω with
  | some ([.lst xs], ω1) => some (enumD 0 xs, ω1)
  | _ => none
def yZip (y : Exs) : Exs := fun ρ ω => match y ρ ω with
  | some ([.lst xs, .lst ys], ω1) => some (zipD xs ys, ω1)
  | some ([.tup xs, .tup ys], ω1) => some (zipD xs ys, ω1)
  | _ => none
section
variable {c : Ct} {tg e e2 : Expr} {x : Ex} {y : Exs} {p pos : Pos}
theorem gives_list {ν : Nu} {p0 : Addr} {K : PySem.W.Frag} {G1 : Hp} {a : Addr} {vs : List V} {ds : List D} (e : G1 a = some (.lst vs)) (r : Reps ν p0 G1 vs ds) : Gives ν p0 (Itl K a) G1 ds := fun G H ω Φ l W => by
  have hs : SqL K H a vs := .inl (.inl (W.lst (l _ _ e)))
  refine ⟨fun i d hd => ?_, fun i hi => ⟨vs, hs, by rw [r.length]; exact hi⟩⟩
  obtain ⟨v, ev, rv⟩ := r.get hd
  refine ⟨⟨vs, v, hs, ev⟩, fun x H' ⟨e1, e2⟩ => ?_⟩
  subst e1
  have := e2 vs hs
  rw [ev] at this; cases this
  exact ⟨G, Le.refl G, W, rv.up l⟩
theorem gives_tup {ν : Nu} {p0 : Addr} {K : PySem.W.Frag} {G1 : Hp} {a : Addr} {vs : List V} {ds : List D} (e : G1 a = some (.tup vs)) (r : Reps ν p0 G1 vs ds) : Gives ν p0 (Itt K a) G1 ds := fun G H ω Φ l W => by
  have hs : SqT K H a vs := .inl (.inl (W.tup (l _ _ e)))
  refine ⟨fun i d hd => ?_, fun i hi => ⟨vs, hs, by rw [r.length]; exact hi⟩⟩
  obtain ⟨v, ev, rv⟩ := r.get hd
  refine ⟨⟨vs, v, hs, ev⟩, fun x H' ⟨e1, e2⟩ => ?_⟩
  subst e1
  have := e2 vs hs
  rw [ev] at this; cases this
  exact ⟨G, Le.refl G, W, rv.up l⟩
theorem keys_get {ν : Nu} {p0 : Addr} {G : Hp} : ∀ {kvs : List (Key × V)} {kds : List (Nat × D)} (i : Nat) (d : D), RepK ν p0 G kvs kds → ((keysOf kds).map .atm)[i]? = some d → ∃ k v, kvs[i]? = some (k, v) ∧ Rep ν p0 G (kV k) d
  | _, _, _, _, .nil, h => by simp [keysOf] at h
  | _, _, 0, d, .cons e a b, h => by simp [keysOf] at h; subst h; exact ⟨_, _, rfl, .atm e⟩
  | _, _, i + 1, d, .cons e a b, h => by
    obtain ⟨k, v, h1, h2⟩ := keys_get i d b (by simpa [keysOf] using h)
    exact ⟨k, v, by simpa using h1, h2⟩
theorem gives_keys {ν : Nu} {p0 : Addr} {G1 : Hp} {a : Addr} {o : Obj} {kvs : List (Key × V)} {kds : List (Nat × D)} (e : G1 a = some (.frz o (.dK kvs))) (r : RepK ν p0 G1 kvs kds) : Gives ν p0 (Itk a o kvs) G1 ((keysOf kds).map .atm) := fun G H ω Φ l W => by
  have hs := W.dct (l _ _ e)
  have hl := r.length
  have hk := (keys_ok r).2.2
  refine ⟨fun i d hd => ?_, fun i hi => ⟨hs, by rw [List.length_map] at hi; omega⟩⟩
  obtain ⟨k, v, e1, e2⟩ := keys_get i d r hd
  refine ⟨⟨hs, (List.getElem?_eq_some_iff.mp e1).1⟩, fun x H' ⟨h1, k', v', h2, h3⟩ => ?_⟩
  subst h1 h3
  rw [e1] at h2; cases h2
  exact ⟨G, Le.refl G, W, e2.up l⟩
theorem gives_str {ν : Nu} {p0 : Addr} {G1 : Hp} (x : Str) : Gives ν p0 (Its x) G1 (x.cps.toList.map fun c => .str ⟨#[c]⟩) := fun G H ω Φ l W => by
  refine ⟨fun i d hd => ?_, fun i hi => by rw [List.length_map, Array.length_toList] at hi; exact hi⟩
  rw [List.getElem?_map, Array.getElem?_toList] at hd
  cases hc : x.cps[i]? with
  | none => rw [hc] at hd; cases hd
  | some cc =>
    rw [hc] at hd; cases hd
    refine ⟨(Array.getElem?_eq_some_iff.mp hc).1, fun v H' ⟨e1, c', e2, e3⟩ => ?_⟩
    rw [hc] at e2; cases e2
    subst e1 e3
    exact ⟨G, Le.refl G, W, .str _⟩
theorem gives_range {ν : Nu} {p0 : Addr} {G1 : Hp} (lo : Int) (n : Nat) : Gives ν p0 (Itr lo n) G1 (rangeD lo n) := fun G H ω Φ l W => by
  refine ⟨fun i d hd => ?_, fun i hi => by rw [rangeD_len] at hi; exact hi⟩
  obtain ⟨h1, h2⟩ := rangeD_get n lo i d hd
  refine ⟨h1, fun x H' ⟨e1, e2⟩ => ?_⟩
  subst e1 e2 h2
  exact ⟨G, Le.refl G, W, .int _⟩
theorem gives_enum {ν : Nu} {p0 : Addr} {K : PySem.W.Frag} {G1 : Hp} {a : Addr} {vs : List V} {ds : List D} (e : G1 a = some (.lst vs)) (r : Reps ν p0 G1 vs ds) : Gives ν p0 (Ite K a) G1 (enumD 0 ds) := fun G H ω Φ l W => by
  have hs : SqL K H a vs := .inl (.inl (W.lst (l _ _ e)))
  refine ⟨fun i d hd => ?_, fun i hi => ⟨vs, hs, by rw [enumD_len] at hi; rw [r.length]; exact hi⟩⟩
  obtain ⟨x, h1, h2⟩ := enumD_get ds 0 i d hd
  obtain ⟨v, ev, rv⟩ := r.get h1
  refine ⟨⟨vs, v, hs, ev⟩, fun z H' ⟨T, z', e1, e2, e3, e4⟩ => ?_⟩
  subst e1 e3 h2
  have := e4 vs hs
  rw [ev] at this; cases this
  have l2 := W.newG (o := .tup [.int (i : Nat), v]) e2
  refine ⟨_, l2, W.newT e2, .tup upd_same (.cons ?_ (.cons (rv.up (l.trans l2)) .nil))⟩
  rw [Nat.zero_add]
  exact .int _
theorem gives_zip {ν : Nu} {p0 : Addr} {K : PySem.W.Frag} {G1 : Hp} {a b : Addr} {vs ws : List V} {ds es : List D} (e : G1 a = some (.lst vs)) (r : Reps ν p0 G1 vs ds) (e' : G1 b = some (.lst ws)) (r' : Reps ν p0 G1 ws es) : Gives ν p0 (Itz K a b) G1 (zipD ds es) := fun G H ω Φ l W => by
  have hs : SqL K H a vs := .inl (.inl (W.lst (l _ _ e)))
  have hs' : SqL K H b ws := .inl (.inl (W.lst (l _ _ e')))
  refine ⟨fun i d hd => ?_, fun i hi => ⟨vs, ws, hs, hs', by rw [zipD_len] at hi; rw [r.length, r'.length]; omega⟩⟩
  obtain ⟨x, y, h1, h2, h3⟩ := zipD_get ds es i d hd
  obtain ⟨v, ev, rv⟩ := r.get h1
  obtain ⟨w, ew, rw'⟩ := r'.get h2
  refine ⟨⟨vs, ws, v, w, hs, hs', ev, ew⟩, fun z H' ⟨T, z1, z2, e1, e2, e3, e4, e5⟩ => ?_⟩
  subst e1 e3 h3
  have q1 := e4 vs hs
  have q2 := e5 ws hs'
  rw [ev] at q1; cases q1
  rw [ew] at q2; cases q2
  have l2 := W.newG (o := .tup [v, w]) e2
  exact ⟨_, l2, W.newT e2, .tup upd_same (.cons (rv.up (l.trans l2)) (.cons (rw'.up (l.trans l2)) .nil))⟩
theorem gives_zipT {ν : Nu} {p0 : Addr} {K : PySem.W.Frag} {G1 : Hp} {a b : Addr} {vs ws : List V} {ds es : List D} (e : G1 a = some (.tup vs)) (r : Reps ν p0 G1 vs ds) (e' : G1 b = some (.tup ws)) (r' : Reps ν p0 G1 ws es) : Gives ν p0 (RZ.ItzT K a b) G1 (zipD ds es) := fun G H ω Φ l W => by
  have hs : SqT K H a vs := .inl (.inl (W.tup (l _ _ e)))
  have hs' : SqT K H b ws := .inl (.inl (W.tup (l _ _ e')))
  refine ⟨fun i d hd => ?_, fun i hi => ⟨vs, ws, hs, hs', by rw [zipD_len] at hi; rw [r.length, r'.length]; omega⟩⟩
  obtain ⟨x, y, h1, h2, h3⟩ := zipD_get ds es i d hd
  obtain ⟨v, ev, rv⟩ := r.get h1
  obtain ⟨w, ew, rw'⟩ := r'.get h2
  refine ⟨⟨vs, ws, v, w, hs, hs', ev, ew⟩, fun z H' ⟨T, z1, z2, e1, e2, e3, e4, e5⟩ => ?_⟩
  subst e1 e3 h3
  have q1 := e4 vs hs
  have q2 := e5 ws hs'
  rw [ev] at q1; cases q1
  rw [ew] at q2; cases q2
  have l2 := W.newG (o := .tup [v, w]) e2
  exact ⟨_, l2, W.newT e2, .tup upd_same (.cons (rv.up (l.trans l2)) (.cons (rw'.up (l.trans l2)) .nil))⟩
theorem i_iter (h : Snd c e x) : SndI c tg e (yIter x) := fun X F ρ ω ds ω' q => by
  unfold yIter at q
  split at q
  · rename_i d ω1 q1
    split at q
    · rename_i ds' q2
      cases q
      unfold iterD at q2
      split at q2
      · cases q2
        refine pi_mono (pi_list (h X F _ _ _ _ q1)) fun σ H R q => ?_
        obtain ⟨Φ, G, W, E, k⟩ := q
        refine ⟨Φ, G, W, E, fun v H1 G1 l1 W1 r1 => ?_⟩
        cases r1 with
        | lst e s => exact ⟨_, rfl, ⟨_, .inl (.inl (W1.lst e))⟩, k _ _ G1 l1 W1 (gives_list e s)⟩
      · cases q2
        refine pi_mono (pi_tup (h X F _ _ _ _ q1)) fun σ H R q => ?_
        obtain ⟨Φ, G, W, E, k⟩ := q
        refine ⟨Φ, G, W, E, fun v H1 G1 l1 W1 r1 => ?_⟩
        cases r1 with
        | tup e s => exact ⟨_, rfl, ⟨_, .inl (.inl (W1.tup e))⟩, k _ _ G1 l1 W1 (gives_tup e s)⟩
      · cases q2
        refine pi_mono (pi_keys (h X F _ _ _ _ q1)) fun σ H R q => ?_
        obtain ⟨Φ, G, W, E, k⟩ := q
        refine ⟨Φ, G, W, E, fun v H1 G1 l1 W1 r1 => ?_⟩
        cases r1 with
        | dct e s => exact ⟨_, _, rfl, .inl ⟨_, W1.dct e, k _ _ G1 l1 W1 (gives_keys e s)⟩⟩
      · cases q2
        refine pi_mono (pi_str (h X F _ _ _ _ q1)) fun σ H R q => ?_
        obtain ⟨Φ, G, W, E, k⟩ := q
        refine ⟨Φ, G, W, E, fun v H1 G1 l1 W1 r1 => ?_⟩
        cases r1
        exact ⟨_, rfl, k _ _ G1 l1 W1 (gives_str _)⟩
      · cases q2
    · cases q
  · cases q
theorem i_range1 (hg : glB c.sc "range" = true) (hm : c.mg "range" = none) (ha : SndA c [e] y) (hs : ∀ env, starEach [e] env = [(false, eval e env)] := by intro _; rfl) : SndI c tg (.Call (.Name "range" p) [e] [] pos) (yRange1 y) := fun X F ρ ω ds ω' q => by
  unfold yRange1 at q
  split at q
  · rename_i j ω1 q1
    split at q
    · rename_i hj
      cases q
      have hj := okR_ok hj
      refine pi_mono (pi_range1 (glB_ok F hg) (by rw [F.mg]; exact hm) (ha X F _ _ _ _ q1) (hs _)) fun σ H R q => ?_
      obtain ⟨Φ, G, W, E, k⟩ := q
      refine ⟨Φ, G, W, E, fun vs H1 G1 l1 W1 r1 => ?_⟩
      obtain ⟨v, rfl, rv⟩ := reps1 r1
      cases rv
      exact ⟨j, rfl, hj.1, hj.2, k _ _ G1 l1 W1 (gives_range 0 _)⟩
    · cases q
  · cases q
theorem i_range2 (hg : glB c.sc "range" = true) (hm : c.mg "range" = none) (ha : SndA c [e, e2] y) (hs : ∀ env, starEach [e, e2] env = [(false, eval e env), (false, eval e2 env)] := by intro _; rfl) (hs2 : ∀ env, starEach [e2] env = [(false, eval e2 env)] := by intro _; rfl) :
    SndI c tg (.Call (.Name "range" p) [e, e2] [] pos) (yRange2 y) := fun X F ρ ω ds ω' q => by
  unfold yRange2 at q
  split at q
  · rename_i i j ω1 q1
    split at q
    · rename_i hj
      cases q
      rw [Bool.and_eq_true] at hj
      have hi := okR_ok hj.1
      have hj := okR_ok hj.2
      refine pi_mono (pi_range2 (glB_ok F hg) (by rw [F.mg]; exact hm) (ha X F _ _ _ _ q1) (hs _) (hs2 _)) fun σ H R q => ?_
      obtain ⟨Φ, G, W, E, k⟩ := q
      refine ⟨Φ, G, W, E, fun vs H1 G1 l1 W1 r1 => ?_⟩
      cases r1 with
      | cons a b =>
        cases b with
        | cons a2 b2 =>
          cases b2; cases a; cases a2
          exact ⟨i, j, rfl, ⟨hi.1, hi.2, hj⟩, k _ _ G1 l1 W1 (gives_range i _)⟩
    · cases q
  · cases q
theorem i_enum {elts : List Expr} {kk : Nat} {tpos : Pos} (hg : glB c.sc "enumerate" = true) (hm : c.mg "enumerate" = none) (ha : SndA c [e] y) (hs : ∀ env, starEach [e] env = [(false, eval e env)] := by intro _; rfl) :
    SndI c (.Tuple elts kk tpos) (.Call (.Name "enumerate" p) [e] [] pos) (yEnum y) := fun X F ρ ω ds ω' q => by
  unfold yEnum at q
  split at q
  · rename_i xs ω1 q1
    cases q
    refine pi_mono (pi_enum (glB_ok F hg) (by rw [F.mg]; exact hm) (ha X F _ _ _ _ q1) (hs _)) fun σ H R q => ?_
    obtain ⟨Φ, G, W, E, k⟩ := q
    refine ⟨Φ, G, W, E, fun vs H1 G1 l1 W1 r1 => ?_⟩
    obtain ⟨v, rfl, rv⟩ := reps1 r1
    cases rv with
    | lst e s => exact ⟨_, _, rfl, .inl (.inl (W1.lst e)), k _ _ G1 l1 W1 (gives_enum e s)⟩
  · cases q
theorem i_zip {elts : List Expr} {kk : Nat} {tpos : Pos} (hg : glB c.sc "zip" = true) (hm : c.mg "zip" = none) (ha : SndA c [e, e2] y)
    (hp : ∀ {X : Cx} {ta : TA}, Gl X "zip" → X.mg "zip" = none → PA X [e, e2] ta → PI X (.Tuple elts kk tpos) (.Call (.Name "zip" p) [e, e2] [] pos) (RZ.iZipA X.K ta) := by intro X ta h1 h2 h3; exact RZ.pi_zipA h1 h2 h3) :
    SndI c (.Tuple elts kk tpos) (.Call (.Name "zip" p) [e, e2] [] pos) (yZip y) := fun X F ρ ω ds ω' q => by
  unfold yZip at q
  split at q
  · rename_i xs ys ω1 q1
    cases q
    refine pi_mono (hp (glB_ok F hg) (by rw [F.mg]; exact hm) (ha X F _ _ _ _ q1)) fun σ H R q => ?_
    obtain ⟨Φ, G, W, E, k⟩ := q
    refine ⟨Φ, G, W, E, fun vs H1 G1 l1 W1 r1 => ?_⟩
    cases r1 with
    | cons a b =>
      cases b with
      | cons a2 b2 =>
        cases b2
        cases a with
        | lst e s =>
          cases a2 with
          | lst e' s' => exact ⟨_, _, _, _, rfl, .inl ⟨.inl (.inl (W1.lst e)), .inl (.inl (W1.lst e')), k _ _ G1 l1 W1 (gives_zip e s e' s')⟩⟩
  · rename_i xs ys ω1 q1
    cases q
    refine pi_mono (hp (glB_ok F hg) (by rw [F.mg]; exact hm) (ha X F _ _ _ _ q1)) fun σ H R q => ?_
    obtain ⟨Φ, G, W, E, k⟩ := q
    refine ⟨Φ, G, W, E, fun vs H1 G1 l1 W1 r1 => ?_⟩
    cases r1 with
    | cons a b =>
      cases b with
      | cons a2 b2 =>
        cases b2
        cases a with
        | tup e s =>
          cases a2 with
          | tup e' s' => exact ⟨_, _, _, _, rfl, .inr ⟨.inl (.inl (W1.tup e)), .inl (.inl (W1.tup e')), k _ _ G1 l1 W1 (gives_zipT e s e' s')⟩⟩
  · cases q
end

/-! ### targets -/
abbrev Tg := D → Env → Option Env
def rdG (ν : Nu) (p0 : Addr) (t : Tg) (sl : List Nat) : TG := fun v σ H Q => ∃ ρ d ρ' Φ G ω, t d ρ = some ρ' ∧ Wd p0 Φ G H ω ∧ EnvX ν p0 Φ G σ ρ ∧ Rep ν p0 G v d ∧
  ∀ σ', EnvX ν p0 Φ G σ' ρ' → (∀ vs, (∀ i ∈ sl, i ∈ vs) → wipe σ' vs = wipe σ vs) → (∀ j, j ∉ sl → (σ' : List (Option V))[j]? = (σ : List (Option V))[j]? ∧ (ρ' : List Slot)[j]? = (ρ : List Slot)[j]?) → (∀ j ∈ sl, ∀ xs, (ρ' : List Slot)[j]? ≠ some (.own xs)) → Q σ' H
def SndG (c : Ct) (tg : Expr) (t : Tg) (sl : List Nat) : Prop := ∀ X, Fits c X → PG X tg (rdG c.ν c.p0 t sl)
def tName (i : Nat) : Tg := fun d ρ => some (ρ.set i (.val d))
/-- names in a row -/
def setAll : List Nat → List D → Env → Option Env
  | [], [], ρ => some ρ
  | i :: r, d :: ds, ρ => setAll r ds (ρ.set i (.val d))
  | _, _, _ => none
def tTup (is : List Nat) : Tg := fun d ρ => match d with
  | .tup ds => setAll is ds ρ
  | _ => none
theorem pg_mono {X : Cx} {tg : Expr} {t t' : TG} (h : PG X tg t) (m : ∀ v σ H Q, t' v σ H Q → t v σ H Q) : PG X tg t' := ⟨fun pins s σ H v u Q I r q => h.run pins s σ H v u Q I r (m v σ H Q q)⟩
theorem wipe_set {σ : L2.St} {i : Nat} {x : Option V} {vs : List Nat} (h : i ∈ vs) : wipe (σ.set i x) vs = wipe σ vs := by
  refine List.ext_getElem? fun j => ?_
  by_cases hj : j ∈ vs
  · have off : ∀ (σ : L2.St), (wipe σ vs)[j]? = if j < σ.length then some none else none := fun σ => by
      by_cases hl : j < σ.length
      · rw [if_pos hl]
        cases q : (wipe σ vs)[j]? with
        | none => rw [List.getElem?_eq_none_iff, wipe_length] at q; omega
        | some o =>
          cases o with
          | none => rfl
          | some v => exact absurd hj (wipe_some q).2
      · rw [if_neg hl, List.getElem?_eq_none (by rw [wipe_length]; omega)]
    rw [off, off, List.length_set]
  · rw [wipe_out hj, wipe_out hj, List.getElem?_set_ne (fun z => hj (by rw [← z]; exact h))]
def locB (sc : Scope) (x : Str) : Bool := match sc.names.lookup x with | some .local => true | some .cell => true | _ => false
theorem locB_ok {sc : Scope} {x : Str} (h : locB sc x = true) : L2.Loc sc x := by
  unfold locB at h
  unfold L2.Loc
  split at h <;> simp_all
def fnB (c : Ct) (x : Str) : Bool := c.fn x || match c.sc.names.lookup x with | some .local => true | _ => false
theorem fnB_ok {c : Ct} {X : Cx} (F : Fits c X) {x : Str} (h : fnB c x = true) : X.fn x = true ∨ X.env.scope.names.lookup x = some .local := by
  unfold fnB at h
  rw [Bool.or_eq_true] at h
  rcases h with h | h
  · exact .inl (by rw [F.fn]; exact h)
  · right
    rw [F.sc]
    split at h
    · assumption
    · cases h
section
variable {c : Ct} {x : Str} {p : Pos}
theorem g_name {i : Nat} (hN : c.N[i]? = some x) (hl : locB c.sc x = true) (hf : fnB c x = true) : SndG c (.Name x p) (tName i) [i] := fun X F => by
  refine pg_mono (pg_name (i := i) (by rw [F.N]; exact F.nd) (by rw [F.N]; exact hN) (by rw [F.sc]; exact locB_ok hl) (fnB_ok F hf)) fun v σ H Q q => ?_
  obtain ⟨ρ, d, ρ', Φ, G, ω, e, W, E, r, k⟩ := q
  cases e
  refine k _ (E.set r) (fun vs h => wipe_set (h i List.mem_cons_self)) (fun j hj => ?_) fun j hj xs e => ?_
  · have ne : i ≠ j := fun z => hj (by rw [z]; exact List.mem_cons_self)
    exact ⟨List.getElem?_set_ne ne, List.getElem?_set_ne ne⟩
  · have e1 : j = i := by simpa using hj
    subst e1
    by_cases hl : j < ρ.length
    · rw [List.getElem?_set_self hl] at e; cases e
    · rw [List.getElem?_eq_none (by simpa using hl)] at e; cases e
/-- names in a row, as places -/
inductive NmEs (c : Ct) : List Nat → List Expr → Prop
  | nil : NmEs c [] []
  | cons {i : Nat} {r : List Nat} {x : Str} {p : Pos} {es : List Expr} : c.N[i]? = some x → locB c.sc x = true → fnB c x = true → NmEs c r es → NmEs c (i :: r) (.Name x p :: es)
theorem NmEs.length {is : List Nat} {es : List Expr} (h : NmEs c is es) : is.length = es.length := by
  induction h with
  | nil => rfl
  | cons _ _ _ _ ih => simp [ih]
def gAll : List Nat → TGs
  | [] => gNil
  | i :: r => gCons (gName i) (gAll r)
theorem pgs_names {X : Cx} (F : Fits c X) : ∀ {is : List Nat} {es : List Expr}, NmEs c is es → PGs X es (gAll is)
  | _, _, .nil => pgs_nil
  | _, _, .cons hN hl hf t => pgs_cons (pg_name (by rw [F.N]; exact F.nd) (by rw [F.N]; exact hN) (by rw [F.sc]; exact locB_ok hl) (fnB_ok F hf)) (pgs_names F t) rfl
theorem setAll_len : ∀ (is : List Nat) (ds : List D) (ρ ρ' : Env), setAll is ds ρ = some ρ' → ds.length = is.length
  | [], [], _, _, _ => rfl
  | [], _ :: _, _, _, e => by cases e
  | _ :: _, [], _, _, e => by cases e
  | i :: r, d :: ds, ρ, ρ', e => by simp [setAll_len r ds _ ρ' e]
theorem setAll_read {ν : Nu} {p0 : Addr} {Φ : Fr} {G H : Hp} {Q : L2.St → Hp → Prop} : ∀ (is : List Nat) (ds : List D) (vs : List V) (σ : L2.St) (ρ ρ' : Env), setAll is ds ρ = some ρ' → EnvX ν p0 Φ G σ ρ → Reps ν p0 G vs ds →
    (∀ σ', EnvX ν p0 Φ G σ' ρ' → (∀ ws, (∀ i ∈ is, i ∈ ws) → wipe σ' ws = wipe σ ws) → (∀ j, j ∉ is → (σ' : List (Option V))[j]? = (σ : List (Option V))[j]? ∧ (ρ' : List Slot)[j]? = (ρ : List Slot)[j]?) → (∀ j, (j ∈ is ∨ ∀ xs, (ρ : List Slot)[j]? ≠ some (.own xs)) → ∀ xs, (ρ' : List Slot)[j]? ≠ some (.own xs)) → Q σ' H) → gAll is vs σ H Q
  | [], [], _, σ, ρ, ρ', e, E, .nil, k => by
    cases e
    exact ⟨rfl, k σ E (fun _ _ => rfl) (fun _ _ => ⟨rfl, rfl⟩) fun j h => h.elim (fun z => by cases z) id⟩
  | i :: r, d :: ds, _, σ, ρ, ρ', e, E, .cons (v := v) (vs := vs) a b, k => by
    refine ⟨v, vs, rfl, ?_⟩
    refine setAll_read r ds vs _ _ ρ' e (E.set a) b fun σ' E' h1 h2 h3 => k σ' E' (fun ws hw => ?_) (fun j hj => ?_) fun j hj => ?_
    · rw [h1 ws fun i hi => hw i (List.mem_cons_of_mem _ hi), wipe_set (hw i List.mem_cons_self)]
    · have n1 : i ≠ j := fun z => hj (by rw [z]; exact List.mem_cons_self)
      obtain ⟨q1, q2⟩ := h2 j fun z => hj (List.mem_cons_of_mem _ z)
      exact ⟨q1.trans (List.getElem?_set_ne n1), q2.trans (List.getElem?_set_ne n1)⟩
    · have set_own : ∀ xs, (ρ.set i (.val d))[j]? = some (.own xs) → i ≠ j ∧ ρ[j]? = some (.own xs) := fun xs e => by
        by_cases hi : i = j
        · subst hi
          by_cases hl : i < ρ.length
          · rw [List.getElem?_set_self hl] at e; cases e
          · rw [List.getElem?_eq_none (by simpa using hl)] at e; cases e
        · rw [List.getElem?_set_ne hi] at e; exact ⟨hi, e⟩
      by_cases hr : j ∈ r
      · exact h3 j (.inl hr)
      · refine h3 j (.inr fun xs e => ?_)
        obtain ⟨n1, e2⟩ := set_own xs e
        rcases hj with hj | hj
        · rcases List.mem_cons.mp hj with z | z
          · exact n1 z.symm
          · exact hr z
        · exact hj xs e2
theorem g_tup {is : List Nat} {es : List Expr} {k : Nat} (h : NmEs c is es) (hn : ∀ env, (assignEach es env).length = is.length := by intro _; rfl) (hst : ∀ env, (assignEach es env).findIdx? (·.1) = none := by intro _; rfl) : SndG c (.Tuple es k p) (tTup is) is := fun X F => by
  refine pg_mono (pg_tup F.calm (pgs_names F h) (hn _) (hst _)) fun v σ H Q q => ?_
  obtain ⟨ρ, d, ρ', Φ, G, ω, e, W, E, r, k⟩ := q
  unfold tTup at e
  split at e
  · rename_i ds
    cases r with
    | tup e1 s1 =>
      have hl := setAll_len _ _ _ _ e
      refine ⟨_, _, rfl, .inl (.inl (W.tup e1)), by rw [s1.length, hl], setAll_read is ds _ σ ρ ρ' e E s1 fun σ' E' h1 h2 h3 => k σ' E' h1 h2 fun j hj => h3 j (.inl hj)⟩
  · cases e
end
end Q

set_option Elab.async false
set_option linter.all false
set_option maxRecDepth 100000
set_option maxHeartbeats 1000000
/-! QH: comprehensions. -/
namespace Q
open PySem PySem.Spec PyProof.Rows L2

/-! ### readings that choose their own worth -/
def rdE (ν : Nu) (p0 : Addr) (x : Ex) : TE := fun σ H Q => ∃ ρ ω d ω', x ρ ω = some (d, ω') ∧ rd ν p0 ρ ω d ω' σ H Q
def rdTX (ν : Nu) (p0 : Addr) (x : Env → Om → Option (Bool × Om)) : TT := fun σ H Q => ∃ ρ ω b ω', x ρ ω = some (b, ω') ∧ rdT ν p0 ρ ω b ω' σ H Q
def rdIX (ν : Nu) (p0 : Addr) (x : Exs) : TI := fun σ H R => ∃ ρ ω ds ω', x ρ ω = some (ds, ω') ∧ rdI ν p0 ρ ω ds ω' σ H R
abbrev Cd := Env → Om → Option (Bool × Om)
def SndC (c : Ct) (ifs : List Expr) (x : Cd) : Prop := ∀ X, Fits c X → PTs X ifs (rdTX c.ν c.p0 x)
theorem Snd.e {c : Ct} {e : Expr} {x : Ex} (h : Snd c e x) {X : Cx} (F : Fits c X) : PE X e (rdE c.ν c.p0 x) := ⟨fun pins s σ H Q I ⟨ρ, ω, d, ω', e, q⟩ => (h X F ρ ω d ω' e).run pins s σ H Q I q⟩
theorem SndI.e {c : Ct} {tg e : Expr} {x : Exs} (h : SndI c tg e x) {X : Cx} (F : Fits c X) : PI X tg e (rdIX c.ν c.p0 x) := ⟨fun pins s σ H Q I ⟨ρ, ω, d, ω', e, q⟩ => (h X F ρ ω d ω' e).run pins s σ H Q I q⟩
def cYes : Cd := fun _ ω => some (true, ω)
def cOne (x : Ex) : Cd := fun ρ ω => match x ρ ω with
  | some (.bl b, ω1) => some (b, ω1)
  | _ => none
theorem c_nil {c : Ct} : SndC c [] cYes := fun X F => ⟨fun pins s σ H Q I ⟨ρ, ω, b, ω', e, Φ, G, W, E, k⟩ => by
  cases e
  exact pts_nil.run pins s σ H Q I (k H G (Le.refl G) W)⟩
theorem c_one {c : Ct} {e : Expr} {x : Ex} (h : SndT c e x) : SndC c [e] (cOne x) := fun X F => ⟨fun pins s σ H Q I ⟨ρ, ω, b, ω', e, q⟩ => by
  unfold cOne at e
  split at e
  · rename_i b' ω1 e1
    cases e
    exact (pts_one (h X F ρ ω _ _ e1)).run pins s σ H Q I q
  · cases e⟩

/-- a comprehension's block -/
def Ct.blk (c : Ct) (scope : Scope) : Ct := { c with sc := relS scope c.sc, fn := fun x => scope.names.lookup x == some .cell }
theorem Fits.blk {c : Ct} {X : Cx} (F : Fits c X) (s : Shared) (H : Hp) (scope : Scope) (cl : List (Str × Addr)) (C : Addr) (fp : List Addr) : Fits (c.blk scope) (X.blk s H scope (compEnvC scope cl C X.env) fp) :=
  ⟨F.P, F.w, F.K, F.mg, F.base, F.N, by show relS scope X.env.scope = relS scope c.sc; rw [F.sc], rfl, F.calm, F.room, F.nd⟩
def wipeE (ρ : Env) : List Nat → Env
  | [] => ρ
  | v :: vs => (wipeE ρ vs).set v .un
theorem EnvX.wipe {ν : Nu} {p0 : Addr} {Φ : Fr} {G : Hp} {σ : L2.St} {ρ : Env} (h : EnvX ν p0 Φ G σ ρ) : ∀ vs, EnvX ν p0 Φ G (wipe σ vs) (wipeE ρ vs)
  | [] => h
  | v :: vs => by
    have ih := EnvX.wipe h vs
    refine ⟨by unfold L2.wipe wipeE; rw [List.length_set, List.length_set]; exact ih.len, fun i s e => ?_, fun i j a xs ys e1 e2 e3 e4 => ?_⟩
    · unfold wipeE at e
      unfold L2.wipe
      by_cases hv : v = i
      · subst hv
        by_cases hl : v < (wipeE ρ vs).length
        · rw [List.getElem?_set_self hl] at e; cases e; exact True.intro
        · rw [List.getElem?_eq_none (by simpa using hl)] at e; cases e
      · rw [List.getElem?_set_ne hv] at e ⊢
        exact ih.ok i s e
    · unfold wipeE at e1 e2
      unfold L2.wipe at e3 e4
      have un : ∀ {k : Nat} {zs : List D}, ((wipeE ρ vs).set v .un)[k]? = some (.own zs) → v ≠ k ∧ (wipeE ρ vs)[k]? = some (.own zs) := fun {k zs} e => by
        by_cases hi : v = k
        · subst hi
          by_cases hl : v < (wipeE ρ vs).length
          · rw [List.getElem?_set_self hl] at e; cases e
          · rw [List.getElem?_eq_none (by simpa using hl)] at e; cases e
        · rw [List.getElem?_set_ne hi] at e; exact ⟨hi, e⟩
      obtain ⟨n1, e1⟩ := un e1
      obtain ⟨n2, e2⟩ := un e2
      rw [List.getElem?_set_ne n1] at e3
      rw [List.getElem?_set_ne n2] at e4
      exact ih.inj i j a xs ys e1 e2 e3 e4

/-! ### what a comprehension is worth -/
def compG (f : D → Om → Option (List D × Om)) : List D → Om → Option (List D × Om)
  | [], ω => some ([], ω)
  | d :: ds, ω => match f d ω with
    | some (vs, ω1) => match compG f ds ω1 with
      | some (ws, ω2) => some (vs ++ ws, ω2)
      | none => none
    | none => none
def step1 (t : Tg) (cond : Cd) (x : Ex) (ρ : Env) (d : D) (ω : Om) : Option (List D × Om) := match t d ρ with
  | some ρ1 => match cond ρ1 ω with
    | some (true, ω1) => match x ρ1 ω1 with
      | some (v, ω2) => some ([v], ω2)
      | none => none
    | some (false, ω1) => some ([], ω1)
    | none => none
  | none => none
def step2 (t : Tg) (cond : Cd) (it1 : Exs) (vs1 : List Nat) (t1 : Tg) (cond1 : Cd) (x : Ex) (ρ : Env) (d : D) (ω : Om) : Option (List D × Om) := match t d ρ with
  | some ρ1 => match cond ρ1 ω with
    | some (true, ω1) => match it1 ρ1 ω1 with
      | some (es, ω2) => compG (step1 t1 cond1 x (wipeE ρ1 vs1)) es ω2
      | none => none
    | some (false, ω1) => some ([], ω1)
    | none => none
  | none => none
def small (o : Option (List D × Om)) : Option (List D × Om) := match o with
  | some (ds, ω) => match Nat.ble ds.length lim with
    | true => some (ds, ω)
    | false => none
  | none => none
def yComp (vs : List Nat) (it : Exs) (t : Tg) (cond : Cd) (x : Ex) : Exs := fun ρ ω => match it ρ ω with
  | some (ds, ω1) => small (compG (step1 t cond x (wipeE ρ vs)) ds ω1)
  | none => none
def yComp2 (vs vs1 : List Nat) (it : Exs) (t : Tg) (cond : Cd) (it1 : Exs) (t1 : Tg) (cond1 : Cd) (x : Ex) : Exs := fun ρ ω => match it ρ ω with
  | some (ds, ω1) => small (compG (step2 t cond it1 vs1 t1 cond1 x (wipeE ρ vs)) ds ω1)
  | none => none
theorem compG_cons {f : D → Om → Option (List D × Om)} {d : D} {ds : List D} {ω ω' : Om} {r : List D} (h : compG f (d :: ds) ω = some (r, ω')) : ∃ vs ω1 ws, f d ω = some (vs, ω1) ∧ compG f ds ω1 = some (ws, ω') ∧ r = vs ++ ws := by
  unfold compG at h
  split at h
  · rename_i vs ω1 e1
    split at h
    · rename_i ws ω2 e2
      cases h
      exact ⟨vs, ω1, ws, e1, e2, rfl⟩
    · cases h
  · cases h
theorem small_some {o : Option (List D × Om)} {ds : List D} {ω : Om} (h : small o = some (ds, ω)) : o = some (ds, ω) ∧ ds.length ≤ lim := by
  unfold small at h
  split at h
  · split at h
    · rename_i hb; cases h; exact ⟨rfl, Nat.le_of_ble_eq_true hb⟩
    · cases h
  · cases h
theorem step1_some {t : Tg} {cond : Cd} {x : Ex} {ρ : Env} {d : D} {ω ω' : Om} {vs : List D} (h : step1 t cond x ρ d ω = some (vs, ω')) : ∃ ρ1 b ω1, t d ρ = some ρ1 ∧ cond ρ1 ω = some (b, ω1) ∧ (b = true → ∃ v, x ρ1 ω1 = some (v, ω') ∧ vs = [v]) ∧ (b = false → vs = [] ∧ ω1 = ω') := by
  unfold step1 at h
  split at h
  · rename_i ρ1 e1
    split at h
    · rename_i ω1 e2
      split at h
      · rename_i v ω2 e3
        cases h
        exact ⟨ρ1, true, ω1, e1, e2, (fun _ => ⟨v, e3, rfl⟩), fun z => by cases z⟩
      · cases h
    · rename_i ω1 e2
      cases h
      exact ⟨ρ1, false, _, e1, e2, (fun z => by cases z), fun _ => ⟨rfl, rfl⟩⟩
    · cases h
  · cases h
theorem step2_some {t : Tg} {cond : Cd} {it1 : Exs} {vs1 : List Nat} {t1 : Tg} {cond1 : Cd} {x : Ex} {ρ : Env} {d : D} {ω ω' : Om} {vs : List D} (h : step2 t cond it1 vs1 t1 cond1 x ρ d ω = some (vs, ω')) :
    ∃ ρ1 b ω1, t d ρ = some ρ1 ∧ cond ρ1 ω = some (b, ω1) ∧ (b = true → ∃ es ω2, it1 ρ1 ω1 = some (es, ω2) ∧ compG (step1 t1 cond1 x (wipeE ρ1 vs1)) es ω2 = some (vs, ω')) ∧ (b = false → vs = [] ∧ ω1 = ω') := by
  unfold step2 at h
  split at h
  · rename_i ρ1 e1
    split at h
    · rename_i ω1 e2
      split at h
      · rename_i es ω2 e3
        exact ⟨ρ1, true, ω1, e1, e2, (fun _ => ⟨es, ω2, e3, h⟩), fun z => by cases z⟩
      · cases h
    · rename_i ω1 e2
      cases h
      exact ⟨ρ1, false, _, e1, e2, (fun z => by cases z), fun _ => ⟨rfl, rfl⟩⟩
    · cases h
  · cases h

/-- what stands by itself is changed -/
abbrev FrD (Φ : Fr) (p : Addr) (o : HO) : Fr := fun a u => Φ a u ∨ (a = p ∧ u = o)
theorem Wd.put {p0 : Addr} {Φ : Fr} {G H : Hp} {ω : Om} {p : Addr} {o o' : HO} (W : Wd p0 (FrD Φ p o) G H ω) (nf : ∀ u, ¬ Φ p u) : Wd p0 (FrD Φ p o') G (upd H p o') ω := by
  obtain ⟨hp, hg⟩ := W.fr p o (.inr ⟨rfl, rfl⟩)
  refine ⟨fun a u e => ?_, fun a u e => ?_, ?_⟩
  · have ne : a ≠ p := fun z => by subst z; rw [hg] at e; cases e
    exact (upd_ne ne).trans (W.gh a u e)
  · rcases e with e | ⟨rfl, rfl⟩
    · have ne : a ≠ p := fun z => by subst z; exact nf u e
      obtain ⟨h1, h2⟩ := W.fr a u (.inl e)
      exact ⟨(upd_ne ne).trans h1, h2⟩
    · exact ⟨upd_same, hg⟩
  · intro zz hz
    obtain ⟨q, e1, e2, ne, g1, g2, f⟩ := W.st zz hz
    have n1 : p0 ≠ p := fun z => (f o).1 (.inr ⟨z, rfl⟩)
    have n2 : q ≠ p := fun z => (f o).2 (.inr ⟨z, rfl⟩)
    exact ⟨q, (upd_ne n1).trans e1, (upd_ne n2).trans e2, ne, g1, g2, fun u => ⟨fun z => z.elim (fun z => (f u).1 (.inl z)) fun z => n1 z.1, fun z => z.elim (fun z => (f u).2 (.inl z)) fun z => n2 z.1⟩⟩
theorem Wd.nofr {p0 : Addr} {Φ : Fr} {G H : Hp} {ω : Om} (W : Wd p0 Φ G H ω) {p : Addr} (h : H p = none) : ∀ u, ¬ Φ p u := fun u z => by have := (W.fr p u z).1; rw [h] at this; cases this

section
variable {ν : Nu} {p0 : Addr}
/-- one turn of the innermost loop: target, test, element, append -/
theorem turn1 {Φ : Fr} {G H : Hp} {ω ω1 : Om} {σ : L2.St} {ρ : Env} {t : Tg} {sl vs : List Nat} {cond : Cd} {x : Ex} {d : D} {v : V} {res : List D} {Dp : Addr} {acc : List V} {accD : List D} {Nx : Hp → Prop}
    (hsl : ∀ i ∈ sl, i ∈ vs) (hs : step1 t cond x ρ d ω = some (res, ω1)) (W : Wd p0 (FrD Φ Dp (.lst acc)) G H ω) (nf : ∀ u, ¬ Φ Dp u) (E : EnvX ν p0 (FrD Φ Dp (.lst acc)) G σ ρ) (r : Rep ν p0 G v d) (ra : Reps ν p0 G acc accD) (hl : accD.length + res.length ≤ lim)
    (k : ∀ G' H' acc', Le G G' → Wd p0 (FrD Φ Dp (.lst acc')) G' H' ω1 → Reps ν p0 G' acc' (accD ++ res) → Nx H') :
    rdG ν p0 t sl v σ H fun σ2 H2 => wipe σ2 vs = wipe σ vs ∧ rdTX ν p0 cond σ2 H2 fun b H3 =>
      if b = true then rdE ν p0 x σ2 H3 fun y H4 => ∃ acc, H4 Dp = some (.lst acc) ∧ acc.length < sizeLine ∧ Nx (upd H4 Dp (.lst (acc ++ [y]))) else Nx H3 := by
  obtain ⟨ρ1, b, ω2, e1, e2, e3, e4⟩ := step1_some hs
  refine ⟨ρ, d, ρ1, _, G, ω, e1, W, E, r, fun σ2 E2 hw _ _ => ⟨hw vs hsl, ρ1, ω, b, ω2, e2, _, G, W, E2, fun H3 G3 l3 W3 => ?_⟩⟩
  cases b with
  | true =>
    obtain ⟨y, e5, e6⟩ := e3 rfl
    subst e6
    refine iteT ⟨ρ1, ω2, y, ω1, e5, _, G3, W3, E2.up l3, fun yv H4 G4 l4 W4 r4 => ?_⟩
    refine ⟨acc, (W4.fr Dp _ (.inr ⟨rfl, rfl⟩)).1, ?_, k G4 _ (acc ++ [yv]) (l3.trans l4) (W4.put nf) ((ra.up (l3.trans l4)).app (.one r4))⟩
    have := lim_ok
    rw [ra.length]
    simp only [List.length_cons, List.length_nil] at hl
    omega
  | false =>
    obtain ⟨e5, e6⟩ := e4 rfl
    subst e5 e6
    exact iteF (k G3 H3 acc l3 W3 (by rw [List.append_nil]; exact ra.up l3))
/-- the reading of [x for t in it if ..] -/
theorem lc_read {ρ : Env} {ω ω' : Om} {ds : List D} {vs sl : List Nat} {it : Exs} {t : Tg} {cond : Cd} {x : Ex} {σ : L2.St} {H : Hp} {Q : VK} (hsl : ∀ i ∈ sl, i ∈ vs) (hy : yComp vs it t cond x ρ ω = some (ds, ω'))
    (q : rdL ν p0 ρ ω ds ω' σ H Q) : tLc (rdIX ν p0 it) (rdG ν p0 t sl) (rdTX ν p0 cond) (rdE ν p0 x) vs σ H Q := by
  obtain ⟨Φ, G, W, E, k⟩ := q
  unfold yComp at hy
  split at hy
  · rename_i its ω1 e1
    obtain ⟨e2, hlim⟩ := small_some hy
    refine ⟨ρ, ω, its, ω1, e1, Φ, G, W, E, fun J H1 G1 l1 W1 gv Dp hD => ?_⟩
    have nf := W1.nofr hD
    refine ⟨fun i m H => ∃ G2 ωi acc accD rest, Le G1 G2 ∧ Wd p0 (FrD Φ Dp (.lst acc)) G2 H ωi ∧ Reps ν p0 G2 acc accD ∧ compG (step1 t cond x (wipeE ρ vs)) (its.drop i) ωi = some (rest, ω') ∧ accD ++ rest = ds ∧ i ≤ its.length ∧ m = its.length - i,
      ⟨its.length, G1, ω1, [], [], ds, Le.refl _, W1.framed hD, .nil, e2, rfl, Nat.zero_le _, rfl⟩, ?_⟩
    rintro i m H ⟨G2, ωi, acc, accD, rest, l2, W2, ra, hc, hcat, hi, rfl⟩
    obtain ⟨g1, g2⟩ := gv G2 H ωi _ l2 W2
    rcases Nat.lt_or_ge i its.length with hlt | hge
    · right
      have hd : its.drop i = its[i] :: its.drop (i + 1) := List.drop_eq_getElem_cons hlt
      rw [hd] at hc
      obtain ⟨res, ω2, ws, f1, f2, f3⟩ := compG_cons hc
      subst f3
      obtain ⟨go, yld⟩ := g1 i its[i] (by simp [hlt])
      refine ⟨go, fun H => ∃ G2 ωi acc accD rest, Le G1 G2 ∧ Wd p0 (FrD Φ Dp (.lst acc)) G2 H ωi ∧ Reps ν p0 G2 acc accD ∧ compG (step1 t cond x (wipeE ρ vs)) (its.drop (i + 1)) ωi = some (rest, ω') ∧ accD ++ rest = ds, fun H' ⟨G2, ωi, acc, accD, rest, a1, a2, a3, a4, a5⟩ => ⟨its.length - (i + 1), by omega, G2, ωi, acc, accD, rest, a1, a2, a3, a4, a5, hlt, rfl⟩, fun v H' hyv => ?_⟩
      obtain ⟨G3, l3, W3, rv⟩ := yld v H' hyv
      have hlen : (accD ++ (res ++ ws)).length ≤ lim := by rw [hcat]; exact hlim
      simp only [List.length_append] at hlen
      have E3 : EnvX ν p0 (FrD Φ Dp (.lst acc)) G3 (wipe σ vs) (wipeE ρ vs) := (E.wipe vs).mono (l1.trans (l2.trans l3)) fun _ _ z => .inl z
      have tn := turn1 (Nx := fun H => ∃ G2 ωi acc accD rest, Le G1 G2 ∧ Wd p0 (FrD Φ Dp (.lst acc)) G2 H ωi ∧ Reps ν p0 G2 acc accD ∧ compG (step1 t cond x (wipeE ρ vs)) (its.drop (i + 1)) ωi = some (rest, ω') ∧ accD ++ rest = ds) hsl f1 W3 nf E3 rv (ra.up l3) (by omega) fun G' H'' acc' l' W' r' =>
        ⟨G', ω2, acc', accD ++ res, ws, l2.trans (l3.trans l'), W', r', f2, by rw [List.append_assoc]; exact hcat⟩
      have ww : wipe (wipe σ vs) vs = wipe σ vs := by
        refine List.ext_getElem? fun j => ?_
        by_cases hj : j ∈ vs
        · cases q1 : (wipe (wipe σ vs) vs)[j]? with
          | none =>
            rw [List.getElem?_eq_none_iff, wipe_length] at q1
            rw [List.getElem?_eq_none q1]
          | some o =>
            cases o with
            | some v => exact absurd hj (wipe_some q1).2
            | none =>
              have hl := (List.getElem?_eq_some_iff.mp q1).1
              rw [wipe_length] at hl
              cases q2 : (wipe σ vs)[j]? with
              | none => rw [List.getElem?_eq_none_iff] at q2; omega
              | some o =>
                cases o with
                | some v => exact absurd hj (wipe_some q2).2
                | none => rfl
        · rw [wipe_out hj]
      rw [ww] at tn
      exact tn
    · left
      have hi' : i = its.length := by omega
      subst hi'
      rw [List.drop_length] at hc
      cases hc
      rw [List.append_nil] at hcat
      subst hcat
      exact ⟨g2 _ (Nat.le_refl _), k Dp acc H G2 (l1.trans l2) W2 nf ra⟩
  · cases hy
end
theorem wipe_wipe (σ : L2.St) (vs : List Nat) : wipe (wipe σ vs) vs = wipe σ vs := by
  refine List.ext_getElem? fun j => ?_
  by_cases hj : j ∈ vs
  · cases q1 : (wipe (wipe σ vs) vs)[j]? with
    | none =>
      rw [List.getElem?_eq_none_iff, wipe_length] at q1
      rw [List.getElem?_eq_none q1]
    | some o =>
      cases o with
      | some v => exact absurd hj (wipe_some q1).2
      | none =>
        have hl := (List.getElem?_eq_some_iff.mp q1).1
        rw [wipe_length] at hl
        cases q2 : (wipe σ vs)[j]? with
        | none => rw [List.getElem?_eq_none_iff] at q2; omega
        | some o =>
          cases o with
          | some v => exact absurd hj (wipe_some q2).2
          | none => rfl
  · rw [wipe_out hj]
section
variable {ν : Nu} {p0 : Addr}
/-- the reading of [x for t in it if .. for t1 in it1 if ..] -/
theorem lc2_read {ρ : Env} {ω ω' : Om} {ds : List D} {vs vs1 sl sl1 : List Nat} {it it1 : Exs} {t t1 : Tg} {cond cond1 : Cd} {x : Ex} {σ : L2.St} {H : Hp} {Q : VK} (hsl : ∀ i ∈ sl, i ∈ vs) (hsl1 : ∀ i ∈ sl1, i ∈ vs1) (hy : yComp2 vs vs1 it t cond it1 t1 cond1 x ρ ω = some (ds, ω'))
    (q : rdL ν p0 ρ ω ds ω' σ H Q) : tLc2 (rdIX ν p0 it) (rdG ν p0 t sl) (rdTX ν p0 cond) (rdIX ν p0 it1) (rdG ν p0 t1 sl1) (rdTX ν p0 cond1) (rdE ν p0 x) vs vs1 σ H Q := by
  obtain ⟨Φ, G, W, E, k⟩ := q
  unfold yComp2 at hy
  split at hy
  · rename_i its ω1 e1
    obtain ⟨e2, hlim⟩ := small_some hy
    refine ⟨ρ, ω, its, ω1, e1, Φ, G, W, E, fun J H1 G1 l1 W1 gv Dp hD => ?_⟩
    have nf := W1.nofr hD
    refine ⟨fun i m H => ∃ G2 ωi acc accD rest, Le G1 G2 ∧ Wd p0 (FrD Φ Dp (.lst acc)) G2 H ωi ∧ Reps ν p0 G2 acc accD ∧ compG (step2 t cond it1 vs1 t1 cond1 x (wipeE ρ vs)) (its.drop i) ωi = some (rest, ω') ∧ accD ++ rest = ds ∧ i ≤ its.length ∧ m = its.length - i,
      ⟨its.length, G1, ω1, [], [], ds, Le.refl _, W1.framed hD, .nil, e2, rfl, Nat.zero_le _, rfl⟩, ?_⟩
    rintro i m H ⟨G2, ωi, acc, accD, rest, l2, W2, ra, hc, hcat, hi, rfl⟩
    obtain ⟨g1, g2⟩ := gv G2 H ωi _ l2 W2
    rcases Nat.lt_or_ge i its.length with hlt | hge
    · right
      have hd : its.drop i = its[i] :: its.drop (i + 1) := List.drop_eq_getElem_cons hlt
      rw [hd] at hc
      obtain ⟨res, ω2, ws, f1, f2, f3⟩ := compG_cons hc
      subst f3
      obtain ⟨go, yld⟩ := g1 i its[i] (by simp [hlt])
      have hlen : (accD ++ (res ++ ws)).length ≤ lim := by rw [hcat]; exact hlim
      simp only [List.length_append] at hlen
      refine ⟨go, fun H => ∃ G2 acc, Le G1 G2 ∧ Wd p0 (FrD Φ Dp (.lst acc)) G2 H ω2 ∧ Reps ν p0 G2 acc (accD ++ res), fun H' ⟨G2, acc, a1, a2, a3⟩ => ⟨its.length - (i + 1), by omega, G2, ω2, acc, accD ++ res, ws, a1, a2, a3, f2, by rw [List.append_assoc]; exact hcat, hlt, rfl⟩, fun v H' hyv => ?_⟩
      obtain ⟨G3, l3, W3, rv⟩ := yld v H' hyv
      have E3 : EnvX ν p0 Φ G3 (wipe σ vs) (wipeE ρ vs) := (E.wipe vs).up (l1.trans (l2.trans l3))
      obtain ⟨ρ1, b, ω3, h1, h2, h3, h4⟩ := step2_some f1
      refine ⟨wipeE ρ vs, its[i], ρ1, Φ, G3, ωi, h1, W3.weak fun _ _ z => .inl z, E3, rv, fun σ2 E2 hw _ _ => ⟨by rw [hw vs hsl, wipe_wipe], ρ1, ωi, b, ω3, h2, _, G3, W3, E2.mono (Le.refl _) fun _ _ z => .inl z, fun H4 G4 l4 W4 => ?_⟩⟩
      cases b with
      | false =>
        obtain ⟨e5, e6⟩ := h4 rfl
        subst e5 e6
        exact iteF ⟨G4, acc, l2.trans (l3.trans l4), W4, by rw [List.append_nil]; exact ra.up (l3.trans l4)⟩
      | true =>
        obtain ⟨es, ω4, e5, e6⟩ := h3 rfl
        refine iteT ⟨ρ1, ω3, es, ω4, e5, _, G4, W4, E2.mono l4 fun _ _ z => .inl z, fun J1 H5 G5 l5 W5 gv1 => ?_⟩
        refine ⟨fun j m H => ∃ G6 ωj acc2 accD2 rest2, Le G5 G6 ∧ Wd p0 (FrD Φ Dp (.lst acc2)) G6 H ωj ∧ Reps ν p0 G6 acc2 accD2 ∧ compG (step1 t1 cond1 x (wipeE ρ1 vs1)) (es.drop j) ωj = some (rest2, ω2) ∧ accD2 ++ rest2 = accD ++ res ∧ j ≤ es.length ∧ m = es.length - j,
          ⟨es.length, G5, ω4, acc, accD, res, Le.refl _, W5, ra.up (l3.trans (l4.trans l5)), e6, rfl, Nat.zero_le _, rfl⟩, ?_⟩
        rintro j m H ⟨G6, ωj, acc2, accD2, rest2, l6, W6, ra2, hc2, hcat2, hj, rfl⟩
        obtain ⟨g3, g4⟩ := gv1 G6 H ωj _ l6 W6
        rcases Nat.lt_or_ge j es.length with hlt2 | hge2
        · right
          have hd2 : es.drop j = es[j] :: es.drop (j + 1) := List.drop_eq_getElem_cons hlt2
          rw [hd2] at hc2
          obtain ⟨res2, ω5, ws2, f4, f5, f6⟩ := compG_cons hc2
          subst f6
          obtain ⟨go2, yld2⟩ := g3 j es[j] (by simp [hlt2])
          refine ⟨go2, fun H => ∃ G6 acc2, Le G5 G6 ∧ Wd p0 (FrD Φ Dp (.lst acc2)) G6 H ω5 ∧ Reps ν p0 G6 acc2 (accD2 ++ res2), fun H' ⟨G6, acc2, a1, a2, a3⟩ => ⟨es.length - (j + 1), by omega, G6, ω5, acc2, accD2 ++ res2, ws2, a1, a2, a3, f5, by rw [List.append_assoc]; exact hcat2, hlt2, rfl⟩, fun v2 H7 hyv2 => ?_⟩
          obtain ⟨G7, l7, W7, rv2⟩ := yld2 v2 H7 hyv2
          have hl2 : (accD2 ++ (res2 ++ ws2)).length = (accD ++ res).length := by rw [hcat2]
          simp only [List.length_append] at hl2
          have E7 : EnvX ν p0 (FrD Φ Dp (.lst acc2)) G7 (wipe σ2 vs1) (wipeE ρ1 vs1) := (E2.wipe vs1).mono (l4.trans (l5.trans (l6.trans l7))) fun _ _ z => .inl z
          have tn := turn1 (Nx := fun H => ∃ G6 acc2, Le G5 G6 ∧ Wd p0 (FrD Φ Dp (.lst acc2)) G6 H ω5 ∧ Reps ν p0 G6 acc2 (accD2 ++ res2)) hsl1 f4 W7 nf E7 rv2 (ra2.up l7) (by omega) fun G' H'' acc' l' W' r' =>
            ⟨G', acc', l6.trans (l7.trans l'), W', r'⟩
          rw [wipe_wipe] at tn
          exact tn
        · left
          have hj' : j = es.length := by omega
          subst hj'
          rw [List.drop_length] at hc2
          cases hc2
          rw [List.append_nil] at hcat2
          subst hcat2
          exact ⟨g4 _ (Nat.le_refl _), G6, acc2, l2.trans (l3.trans (l4.trans (l5.trans l6))), W6, ra2⟩
    · left
      have hi' : i = its.length := by omega
      subst hi'
      rw [List.drop_length] at hc
      cases hc
      rw [List.append_nil] at hcat
      subst hcat
      exact ⟨g2 _ (Nat.le_refl _), k Dp acc H G2 (l1.trans l2) W2 nf ra⟩
  · cases hy
end
section
variable {c : Ct} {elt tg iter : Expr} {ifs : List Expr} {scope : Scope} {own : List (Str × Nat)} {pos : Pos} {it : Exs} {t : Tg} {sl : List Nat} {cond : Cd} {x : Ex}
theorem l_comp (ok : BlkOk c.N c.sc scope own) (hi : SndI c tg iter it) (hg : SndG (c.blk scope) tg t sl) (hsl : ∀ i ∈ sl, i ∈ own.map (·.2)) (hc : SndC (c.blk scope) ifs cond) (he : Snd (c.blk scope) elt x)
    (hs : ∀ env v, foldedSetIterable iter env v = pure v := by intro _ _; rfl) : SndL c (.ListComp elt [⟨tg, iter, ifs, 0⟩] scope pos) (yComp (own.map (·.2)) it t cond x) := fun X F ρ ω ds ω' h =>
  pe_mono (pe_lc F.calm (by rw [F.N]; exact F.nd) (hi.e F) (by rw [F.N, F.sc]; exact ok) (fun s H C cl fp => hg _ (F.blk s H scope cl C fp)) (fun s H C cl fp => hc _ (F.blk s H scope cl C fp)) (fun s H C cl fp => he.e (F.blk s H scope cl C fp)) (hs _))
    fun σ H Q q => lc_read hsl h q
theorem l_comp2 {tg1 iter1 : Expr} {ifs1 : List Expr} {it1 : Exs} {t1 : Tg} {sl1 vs1 : List Nat} {cond1 : Cd} (ok : BlkOk c.N c.sc scope own) (hv : ∀ i ∈ vs1, i ∈ own.map (·.2)) (hi : SndI c tg iter it) (hg : SndG (c.blk scope) tg t sl) (hsl : ∀ i ∈ sl, i ∈ own.map (·.2)) (hc : SndC (c.blk scope) ifs cond)
    (hi1 : SndI (c.blk scope) tg1 iter1 it1) (hg1 : SndG (c.blk scope) tg1 t1 sl1) (hsl1 : ∀ i ∈ sl1, i ∈ vs1) (hc1 : SndC (c.blk scope) ifs1 cond1) (he : Snd (c.blk scope) elt x)
    (hs : ∀ env v, foldedSetIterable iter env v = pure v := by intro _ _; rfl) (hs1 : ∀ env v, foldedSetIterable iter1 env v = pure v := by intro _ _; rfl) :
    SndL c (.ListComp elt [⟨tg, iter, ifs, 0⟩, ⟨tg1, iter1, ifs1, 0⟩] scope pos) (yComp2 (own.map (·.2)) vs1 it t cond it1 t1 cond1 x) := fun X F ρ ω ds ω' h =>
  pe_mono (pe_lc2 (vs1 := vs1) F.calm (by rw [F.N]; exact F.nd) (hi.e F) (by rw [F.N, F.sc]; exact ok) hv (fun s H C cl fp => hg _ (F.blk s H scope cl C fp)) (fun s H C cl fp => hc _ (F.blk s H scope cl C fp)) (fun s H C cl fp => hi1.e (F.blk s H scope cl C fp)) (fun s H C cl fp => hg1 _ (F.blk s H scope cl C fp))
      (fun s H C cl fp => hc1 _ (F.blk s H scope cl C fp)) (fun s H C cl fp => he.e (F.blk s H scope cl C fp)) (hs _) hs1)
    fun σ H Q q => lc2_read hsl hsl1 h q
end

/-! ### {k: v for t in it if ..} -/
def stepD (t : Tg) (cond : Cd) (xk xv : Ex) (ρ : Env) (d : D) (ω : Om) : Option (List (Nat × D) × Om) := match t d ρ with
  | some ρ1 => match cond ρ1 ω with
    | some (true, ω1) => match xk ρ1 ω1 with
      | some (.atm n, ω2) => match xv ρ1 ω2 with
        | some (v, ω3) => some ([(n, v)], ω3)
        | none => none
      | _ => none
    | some (false, ω1) => some ([], ω1)
    | none => none
  | none => none
def compK (f : D → Om → Option (List (Nat × D) × Om)) : List D → Om → List (Nat × D) → Option (List (Nat × D) × Om)
  | [], ω, acc => some (acc, ω)
  | d :: ds, ω, acc => match f d ω with
    | some (vs, ω1) => compK f ds ω1 (dmerge acc vs)
    | none => none
def xDComp (vs : List Nat) (it : Exs) (t : Tg) (cond : Cd) (xk xv : Ex) : Ex := fun ρ ω => match it ρ ω with
  | some (ds, ω1) => match Nat.ble ds.length lim with
    | true => match compK (stepD t cond xk xv (wipeE ρ vs)) ds ω1 [] with
      | some (kds, ω2) => some (.dct kds, ω2)
      | none => none
    | false => none
  | none => none
theorem stepD_some {t : Tg} {cond : Cd} {xk xv : Ex} {ρ : Env} {d : D} {ω ω' : Om} {vs : List (Nat × D)} (h : stepD t cond xk xv ρ d ω = some (vs, ω')) :
    ∃ ρ1 b ω1, t d ρ = some ρ1 ∧ cond ρ1 ω = some (b, ω1) ∧ (b = true → ∃ n ω2 v, xk ρ1 ω1 = some (.atm n, ω2) ∧ xv ρ1 ω2 = some (v, ω') ∧ vs = [(n, v)]) ∧ (b = false → vs = [] ∧ ω1 = ω') := by
  unfold stepD at h
  split at h
  · rename_i ρ1 e1
    split at h
    · rename_i ω1 e2
      split at h
      · rename_i n ω2 e3
        split at h
        · rename_i v ω3 e4
          cases h
          exact ⟨ρ1, true, ω1, e1, e2, (fun _ => ⟨n, ω2, v, e3, e4, rfl⟩), fun z => by cases z⟩
        · cases h
      · cases h
    · rename_i ω1 e2
      cases h
      exact ⟨ρ1, false, _, e1, e2, (fun z => by cases z), fun _ => ⟨rfl, rfl⟩⟩
    · cases h
  · cases h
theorem dput_len (kds : List (Nat × D)) (k : Nat) (d : D) : (dput kds k d).length ≤ kds.length + 1 := by
  unfold dput
  split <;> simp
theorem dc_read {ν : Nu} {p0 : Addr} (hν : NuOk ν) {ρ : Env} {ω ω' : Om} {d : D} {vs sl : List Nat} {it : Exs} {t : Tg} {cond : Cd} {xk xv : Ex} {σ : L2.St} {H : Hp} {Q : VK} (hsl : ∀ i ∈ sl, i ∈ vs) (hy : xDComp vs it t cond xk xv ρ ω = some (d, ω'))
    (q : rd ν p0 ρ ω d ω' σ H Q) : tDc (rdIX ν p0 it) (rdG ν p0 t sl) (rdTX ν p0 cond) (rdE ν p0 xk) (rdE ν p0 xv) vs σ H fun v H1 => ∃ p kvs, v = .ref p ∧ H1 p = some (.dK kvs) ∧ ∀ od, Q v (upd H1 p (.frz od (.dK kvs))) := by
  obtain ⟨Φ, G, W, E, k⟩ := q
  unfold xDComp at hy
  split at hy
  · rename_i its ω1 e1
    split at hy
    · rename_i hlim
      split at hy
      · rename_i kds ω2 e2
        cases hy
        have hlim := Nat.le_of_ble_eq_true hlim
        refine ⟨ρ, ω, its, ω1, e1, Φ, G, W, E, fun J H1 G1 l1 W1 gv Dp hD => ?_⟩
        have nf := W1.nofr hD
        refine ⟨fun i m H => ∃ G2 ωi acc accD, Le G1 G2 ∧ Wd p0 (FrD Φ Dp (.dK acc)) G2 H ωi ∧ RepK ν p0 G2 acc accD ∧ compK (stepD t cond xk xv (wipeE ρ vs)) (its.drop i) ωi accD = some (kds, ω') ∧ accD.length ≤ i ∧ i ≤ its.length ∧ m = its.length - i,
          ⟨its.length, G1, ω1, [], [], Le.refl _, W1.framed hD, .nil, e2, Nat.le_refl _, Nat.zero_le _, rfl⟩, ?_⟩
        rintro i m H ⟨G2, ωi, acc, accD, l2, W2, ra, hc, hal, hi, rfl⟩
        obtain ⟨g1, g2⟩ := gv G2 H ωi _ l2 W2
        rcases Nat.lt_or_ge i its.length with hlt | hge
        · right
          have hd : its.drop i = its[i] :: its.drop (i + 1) := List.drop_eq_getElem_cons hlt
          rw [hd] at hc
          unfold compK at hc
          split at hc
          · rename_i res ω3 f1
            obtain ⟨go, yld⟩ := g1 i its[i] (by simp [hlt])
            refine ⟨go, fun H => ∃ G2 acc, Le G1 G2 ∧ Wd p0 (FrD Φ Dp (.dK acc)) G2 H ω3 ∧ RepK ν p0 G2 acc (dmerge accD res) ∧ (dmerge accD res).length ≤ i + 1, fun H' ⟨G2, acc, a1, a2, a3, a4⟩ => ⟨its.length - (i + 1), by omega, G2, ω3, acc, dmerge accD res, a1, a2, a3, hc, a4, hlt, rfl⟩, fun v H' hyv => ?_⟩
            obtain ⟨G3, l3, W3, rv⟩ := yld v H' hyv
            have E3 : EnvX ν p0 Φ G3 (wipe σ vs) (wipeE ρ vs) := (E.wipe vs).up (l1.trans (l2.trans l3))
            obtain ⟨ρ1, b, ω4, h1, h2, h3, h4⟩ := stepD_some f1
            refine ⟨wipeE ρ vs, its[i], ρ1, Φ, G3, ωi, h1, W3.weak fun _ _ z => .inl z, E3, rv, fun σ2 E2 hw _ _ => ⟨by rw [hw vs hsl, wipe_wipe], ρ1, ωi, b, ω4, h2, _, G3, W3, E2.mono (Le.refl _) fun _ _ z => .inl z, fun H4 G4 l4 W4 => ?_⟩⟩
            cases b with
            | false =>
              obtain ⟨e5, e6⟩ := h4 rfl
              subst e5 e6
              exact iteF ⟨G4, acc, l2.trans (l3.trans l4), W4, ra.up (l3.trans l4), by show accD.length ≤ _; omega⟩
            | true =>
              obtain ⟨n, ω5, dv, e5, e6, e7⟩ := h3 rfl
              subst e7
              refine iteT ⟨ρ1, ω4, _, ω5, e5, _, G4, W4, E2.mono l4 fun _ _ z => .inl z, fun kv H5 G5 l5 W5 r5 => ⟨ρ1, ω5, _, ω3, e6, _, G5, W5, E2.mono (l4.trans l5) fun _ _ z => .inl z, fun vv H6 G6 l6 W6 r6 => ?_⟩⟩
              cases r5 with
              | @atm n x en =>
                have ra6 := ra.up (l3.trans (l4.trans (l5.trans l6)))
                refine ⟨acc, .inr x, rfl, (W6.fr Dp _ (.inr ⟨rfl, rfl⟩)).1, ?_, G6, _, l2.trans (l3.trans (l4.trans (l5.trans l6))), W6.put nf, ra6.put hν en r6, ?_⟩
                · have := lim_ok; rw [ra.length]; omega
                · have := dput_len accD n dv
                  show (dput accD n dv).length ≤ _
                  omega
          · cases hc
        · left
          have hi' : i = its.length := by omega
          subst hi'
          rw [List.drop_length] at hc
          cases hc
          refine ⟨g2 _ (Nat.le_refl _), Dp, acc, rfl, (W2.fr Dp _ (.inr ⟨rfl, rfl⟩)).1, fun od => ?_⟩
          have W3 := W2.put (o' := .frz od (.dK acc)) nf
          have hg := (W3.fr Dp _ (.inr ⟨rfl, rfl⟩)).2
          have l3 := Le.upd (o := .frz od (.dK acc)) hg
          exact k _ _ _ (l1.trans (l2.trans l3)) (Wd.freeze (Ψ := fun a u => a = Dp ∧ u = .frz od (.dK acc)) W3 ⟨rfl, rfl⟩ nf upd_same) (.dct upd_same (ra.up l3))
      · cases hy
    · cases hy
  · cases hy
theorem s_dcomp {c : Ct} (hν : NuOk c.ν) {kx vx tg iter : Expr} {ifs : List Expr} {scope : Scope} {own : List (Str × Nat)} {pos : Pos} {it : Exs} {t : Tg} {sl : List Nat} {cond : Cd} {xk xv : Ex} (ok : BlkOk c.N c.sc scope own) (hi : SndI c tg iter it) (hg : SndG (c.blk scope) tg t sl) (hsl : ∀ i ∈ sl, i ∈ own.map (·.2)) (hc : SndC (c.blk scope) ifs cond)
    (hk : Snd (c.blk scope) kx xk) (he : Snd (c.blk scope) vx xv) (hs : ∀ env v, foldedSetIterable iter env v = pure v := by intro _ _; rfl) : Snd c (.DictComp kx vx [⟨tg, iter, ifs, 0⟩] scope pos) (xDComp (own.map (·.2)) it t cond xk xv) := fun X F ρ ω d ω' h =>
  pe_mono (pe_lockd (pe_dc F.calm (by rw [F.N]; exact F.nd) (hi.e F) (by rw [F.N, F.sc]; exact ok) (fun s H C cl fp => hg _ (F.blk s H scope cl C fp)) (fun s H C cl fp => hc _ (F.blk s H scope cl C fp)) (fun s H C cl fp => hk.e (F.blk s H scope cl C fp)) (fun s H C cl fp => he.e (F.blk s H scope cl C fp)) (hs _)))
    fun σ H Q q => dc_read hν hsl h q
end Q

set_option Elab.async false
set_option linter.all false
set_option maxRecDepth 100000
set_option maxHeartbeats 1000000
/-! QI: lent lists, statements, defs. -/
namespace Q
open PySem PySem.Spec PyProof.Rows L2

/-! ### a list of one's own lent to an expression that gives a plain value -/
def flat : D → Bool
  | .non => true | .bl _ => true | .int _ => true | .str _ => true | .atm _ => true
  | _ => false
theorem flat_rep {ν : Nu} {p0 : Addr} {G G' : Hp} {v : V} {d : D} (h : flat d = true) (r : Rep ν p0 G v d) : Rep ν p0 G' v d := by
  cases r with
  | non => exact .non
  | bl b => exact .bl b
  | int i => exact .int i
  | str x => exact .str x
  | atm e => exact .atm e
  | lst _ _ => cases h
  | tup _ _ => cases h
  | dct _ _ => cases h
  | strm => cases h
def xBor (i : Nat) (x : Ex) : Ex := fun ρ ω => match ρ[i]? with
  | some (.own xs) => match x (ρ.set i (.val (.lst xs))) ω with
    | some (d, ω1) => match flat d with
      | true => some (d, ω1)
      | false => none
    | none => none
  | _ => x ρ ω
section
variable {c : Ct} {e : Expr} {x : Ex}
/-- the slot's list frozen, for a while -/
theorem EnvX.lend {ν : Nu} {p0 : Addr} {Φ : Fr} {G H : Hp} {ω : Om} {σ : L2.St} {ρ : Env} {i : Nat} {xs : List D} (W : Wd p0 Φ G H ω) (E : EnvX ν p0 Φ G σ ρ) (hi : (ρ : List Slot)[i]? = some (.own xs)) :
    ∃ a vs, Φ a (.lst vs) ∧ Wd p0 (fun b u => Φ b u ∧ b ≠ a) (upd G a (.lst vs)) H ω ∧ EnvX ν p0 (fun b u => Φ b u ∧ b ≠ a) (upd G a (.lst vs)) σ (ρ.set i (.val (.lst xs))) ∧ G a = none := by
  obtain ⟨a, vs, e1, e2, e3⟩ := E.ok i _ hi
  obtain ⟨hH, hG⟩ := W.fr a _ e2
  have l : Le G (upd G a (.lst vs)) := Le.upd hG
  refine ⟨a, vs, e2, ⟨fun b u e => ?_, fun b u e => ?_, ?_⟩, ⟨by simpa using E.len, fun j s e => ?_, fun j k b ys zs q1 q2 q3 q4 => ?_⟩, hG⟩
  · by_cases hb : b = a
    · subst hb; rw [upd_same] at e; cases e; exact hH
    · rw [upd_ne hb] at e; exact W.gh b u e
  · obtain ⟨h1, h2⟩ := W.fr b u e.1
    exact ⟨h1, (upd_ne e.2).trans h2⟩
  · intro zz hz
    obtain ⟨q, f1, f2, ne, g1, g2, nf⟩ := W.st zz hz
    have n1 : p0 ≠ a := fun z => by subst z; exact (nf _).1 e2
    have n2 : q ≠ a := fun z => by subst z; exact (nf _).2 e2
    exact ⟨q, f1, f2, ne, (upd_ne n1).trans g1, (upd_ne n2).trans g2, fun u => ⟨fun z => (nf u).1 z.1, fun z => (nf u).2 z.1⟩⟩
  · by_cases hj : i = j
    · subst hj
      rw [List.getElem?_set_self (List.getElem?_eq_some_iff.mp hi).1] at e
      cases e
      exact ⟨_, e1, .lst upd_same (e3.up l)⟩
    · rw [List.getElem?_set_ne hj] at e
      have q := E.ok j s e
      cases s with
      | un => exact True.intro
      | val d => obtain ⟨v, q1, q2⟩ := q; exact ⟨v, q1, q2.up l⟩
      | own ys =>
        obtain ⟨b, ws, q1, q2, q3⟩ := q
        refine ⟨b, ws, q1, ⟨q2, fun z => ?_⟩, q3.up l⟩
        subst z
        exact hj (E.inj i j b xs ys hi e e1 q1)
  · obtain ⟨n1, q1⟩ := set_own q1
    obtain ⟨n2, q2⟩ := set_own q2
    exact E.inj j k b ys zs q1 q2 q3 q4
theorem s_bor (i : Nat) (h : Snd c e x) : Snd c e (xBor i x) := fun X F ρ ω d ω' q => by
  unfold xBor at q
  split at q
  · rename_i xs hi
    split at q
    · rename_i d' ω1 q1
      split at q
      · rename_i hf
        cases q
        refine pe_mono (h X F _ _ _ _ q1) fun σ H Q q => ?_
        obtain ⟨Φ, G, W, E, k⟩ := q
        obtain ⟨a, vs, ha, W1, E1, hG⟩ := EnvX.lend W E hi
        refine ⟨_, _, W1, E1, fun v H' G' l W' r => ?_⟩
        have l0 : Le G G' := (Le.upd hG).trans l
        have ga : G' a = some (.lst vs) := l _ _ upd_same
        have off : ∀ b, G' b = none → G b = none := fun b e => by
          cases z : G b with
          | none => rfl
          | some u => rw [l0 _ _ z] at e; cases e
        refine k v H' G (Le.refl G) ⟨fun b u e => W'.gh b u (l0 _ _ e), fun b u e => ?_, ?_⟩ (flat_rep hf r)
        · by_cases hb : b = a
          · subst hb
            have h1 := (W.fr b _ ha).1
            rw [(W.fr b u e).1] at h1
            cases h1
            exact ⟨W'.gh b _ ga, hG⟩
          · obtain ⟨h1, h2⟩ := W'.fr b u ⟨e, hb⟩
            exact ⟨h1, off b h2⟩
        · intro zz hz
          obtain ⟨q, f1, f2, ne, g1, g2, nf⟩ := W'.st zz hz
          have n1 : c.p0 ≠ a := fun z => by rw [z, ga] at g1; cases g1
          have n2 : q ≠ a := fun z => by rw [z, ga] at g2; cases g2
          exact ⟨q, f1, f2, ne, off _ g1, off _ g2, fun u => ⟨fun z => (nf u).1 ⟨z, n1⟩, fun z => (nf u).2 ⟨z, n2⟩⟩⟩
      · cases q
    · cases q
  · exact h X F ρ ω d ω' q
end
/-- .. as a test -/
theorem t_bor {c : Ct} {e : Expr} {x : Ex} (i : Nat) (h : SndT c e x) : SndT c e (xBor i x) := fun X F ρ ω b ω' q => by
  unfold xBor at q
  split at q
  · rename_i xs hi
    split at q
    · rename_i d' ω1 q1
      split at q
      · rename_i hf
        cases q
        refine pt_mono (h X F _ _ _ _ q1) fun σ H Q q => ?_
        obtain ⟨Φ, G, W, E, k⟩ := q
        obtain ⟨a, vs, ha, W1, E1, hG⟩ := EnvX.lend W E hi
        refine ⟨_, _, W1, E1, fun H' G' l W' => ?_⟩
        have l0 : Le G G' := (Le.upd hG).trans l
        have ga : G' a = some (.lst vs) := l _ _ upd_same
        have off : ∀ b, G' b = none → G b = none := fun b e => by
          cases z : G b with
          | none => rfl
          | some u => rw [l0 _ _ z] at e; cases e
        refine k H' G (Le.refl G) ⟨fun b u e => W'.gh b u (l0 _ _ e), fun b u e => ?_, ?_⟩
        · by_cases hb : b = a
          · subst hb
            have h1 := (W.fr b _ ha).1
            rw [(W.fr b u e).1] at h1
            cases h1
            exact ⟨W'.gh b _ ga, hG⟩
          · obtain ⟨h1, h2⟩ := W'.fr b u ⟨e, hb⟩
            exact ⟨h1, off b h2⟩
        · intro zz hz
          obtain ⟨q, f1, f2, ne, g1, g2, nf⟩ := W'.st zz hz
          have n1 : c.p0 ≠ a := fun z => by rw [z, ga] at g1; cases g1
          have n2 : q ≠ a := fun z => by rw [z, ga] at g2; cases g2
          exact ⟨q, f1, f2, ne, off _ g1, off _ g2, fun u => ⟨fun z => (nf u).1 ⟨z, n1⟩, fun z => (nf u).2 ⟨z, n2⟩⟩⟩
      · cases q
    · cases q
  · exact h X F ρ ω b ω' q

/-! ### statements -/
inductive Out where
  | nx (ρ : Env) (ω : Om) | rt (d : D) (ω : Om) | bk (ρ : Env) (ω : Om) | ct (ρ : Env) (ω : Om)
abbrev Sx := Env → Om → Option Out
abbrev U (Φ Ψ : Fr) : Fr := fun a u => Φ a u ∨ Ψ a u
abbrev Sep (Φ Ψ : Fr) : Prop := ∀ a u u', Φ a u → Ψ a u' → False
def Sts (ν : Nu) (p0 : Addr) (Φ : Fr) (G : Hp) (ρ : Env) (ω : Om) (σ : L2.St) (H : Hp) : Prop := ∃ Ψ, Wd p0 (U Φ Ψ) G H ω ∧ EnvX ν p0 Ψ G σ ρ ∧ Sep Φ Ψ
def Post (ν : Nu) (p0 : Addr) (Φ : Fr) (G : Hp) (o : Out) (D : Ends) : Prop := match o with
  | .nx ρ ω => ∀ σ H G', Le G G' → Sts ν p0 Φ G' ρ ω σ H → D.nx σ H
  | .rt d ω => ∀ v H G', Le G G' → Wd p0 Φ G' H ω → Rep ν p0 G' v d → D.rt v H
  | .bk ρ ω => ∀ σ H G', Le G G' → Sts ν p0 Φ G' ρ ω σ H → D.bk σ H
  | .ct ρ ω => ∀ σ H G', Le G G' → Sts ν p0 Φ G' ρ ω σ H → D.ct σ H
theorem Post.up {ν : Nu} {p0 : Addr} {Φ : Fr} {G G1 : Hp} {o : Out} {D : Ends} (h : Post ν p0 Φ G o D) (l : Le G G1) : Post ν p0 Φ G1 o D := by
  cases o with
  | nx ρ ω => exact fun σ H G' l' s => h σ H G' (l.trans l') s
  | rt d ω => exact fun v H G' l' W r => h v H G' (l.trans l') W r
  | bk ρ ω => exact fun σ H G' l' s => h σ H G' (l.trans l') s
  | ct ρ ω => exact fun σ H G' l' s => h σ H G' (l.trans l') s
def sd (ν : Nu) (p0 : Addr) (x : Sx) : TS := fun D σ H => ∃ ρ ω o Φ G, x ρ ω = some o ∧ Sts ν p0 Φ G ρ ω σ H ∧ Post ν p0 Φ G o D
def SndS (c : Ct) (st : Stmt) (x : Sx) : Prop := ∀ X, Fits c X → PS X st (sd c.ν c.p0 x)
def SndB (c : Ct) (st : List Stmt) (x : Sx) : Prop := ∀ X, Fits c X → PSs X st (sd c.ν c.p0 x)

def sNext : Sx := fun ρ ω => some (.nx ρ ω)
def sSeq (x y : Sx) : Sx := fun ρ ω => match x ρ ω with
  | some (.nx ρ1 ω1) => y ρ1 ω1
  | o => o
def sNo : Sx := fun _ _ => none
def sSet (i : Nat) (x : Ex) : Sx := fun ρ ω => match x ρ ω with
  | some (d, ω1) => some (.nx (ρ.set i (.val d)) ω1)
  | none => none
def sOwn (i : Nat) (y : Exs) : Sx := fun ρ ω => match y ρ ω with
  | some (ds, ω1) => some (.nx (ρ.set i (.own ds)) ω1)
  | none => none
def sRet (x : Ex) : Sx := fun ρ ω => match x ρ ω with
  | some (d, ω1) => some (.rt d ω1)
  | none => none
def sIf (t : Ex) (x y : Sx) : Sx := fun ρ ω => match t ρ ω with
  | some (.bl true, ω1) => x ρ ω1
  | some (.bl false, ω1) => y ρ ω1
  | _ => none
def sApp (i : Nat) (x : Ex) : Sx := fun ρ ω => match x ρ ω with
  | some (d, ω1) => match ρ[i]? with
    | some (.own xs) => match Nat.blt xs.length lim with
      | true => some (.nx (ρ.set i (.own (xs ++ [d]))) ω1)
      | false => none
    | _ => none
  | none => none
def sExt (i : Nat) (x : Ex) : Sx := fun ρ ω => match x ρ ω with
  | some (.lst ds, ω1) => match ρ[i]? with
    | some (.own xs) => match Nat.ble (xs.length + ds.length) lim with
      | true => some (.nx (ρ.set i (.own (xs ++ ds))) ω1)
      | false => none
    | _ => none
  | _ => none
def sFrz (i : Nat) (x : Sx) : Sx := fun ρ ω => match ρ[i]? with
  | some (.own xs) => x (ρ.set i (.val (.lst xs))) ω
  | _ => x ρ ω
def forD (t : Tg) (x : Sx) : List D → Env → Om → Option Out
  | [], ρ, ω => some (.nx ρ ω)
  | d :: ds, ρ, ω => match t d ρ with
    | some ρ1 => match x ρ1 ω with
      | some (.nx ρ2 ω2) => forD t x ds ρ2 ω2
      | some (.ct ρ2 ω2) => forD t x ds ρ2 ω2
      | some (.bk ρ2 ω2) => some (.nx ρ2 ω2)
      | some (.rt d ω2) => some (.rt d ω2)
      | none => none
    | none => none
def sFor (it : Exs) (t : Tg) (x : Sx) : Sx := fun ρ ω => match it ρ ω with
  | some (ds, ω1) => forD t x ds ρ ω1
  | none => none
def whileD (t : Ex) (x : Sx) : Nat → Env → Om → Option Out
  | 0, _, _ => none
  | n + 1, ρ, ω => match t ρ ω with
    | some (.bl true, ω1) => match x ρ ω1 with
      | some (.nx ρ2 ω2) => whileD t x n ρ2 ω2
      | some (.ct ρ2 ω2) => whileD t x n ρ2 ω2
      | some (.bk ρ2 ω2) => some (.nx ρ2 ω2)
      | some (.rt d ω2) => some (.rt d ω2)
      | none => none
    | some (.bl false, ω1) => some (.nx ρ ω1)
    | _ => none
def sWhile (n : Nat) (t : Ex) (x : Sx) : Sx := whileD t x n

section
variable {c : Ct} {st : Stmt} {rest : List Stmt} {x y : Sx} {e e1 e2 : Expr} {pos pos' : Pos} {i : Nat} {v : Str}
theorem b_nil : SndB c [] sNext := fun X F => pss_mono pss_nil fun D σ H ⟨ρ, ω, o, Φ, G, e, S, k⟩ => by
  cases e
  exact k σ H G (Le.refl G) S
theorem b_cons (h1 : SndS c st x) (h2 : SndB c rest y) : SndB c (st :: rest) (sSeq x y) := fun X F => pss_mono (pss_cons (h1 X F) (h2 X F)) fun D σ H ⟨ρ, ω, o, Φ, G, e, S, k⟩ => by
  unfold sSeq at e
  split at e
  · rename_i ρ1 ω1 e1
    exact ⟨ρ, ω, _, Φ, G, e1, S, fun σ' H' G' l S' => ⟨ρ1, ω1, o, Φ, G', e, S', k.up l⟩⟩
  · rename_i hne
    refine ⟨ρ, ω, o, Φ, G, e, S, ?_⟩
    cases o with
    | nx ρ1 ω1 => exact absurd e (hne ρ1 ω1)
    | rt d ω1 => exact k
    | bk ρ1 ω1 => exact k
    | ct ρ1 ω1 => exact k
theorem st_no : SndS c st sNo := fun X F => ⟨fun pins s σ H D I ⟨ρ, ω, o, Φ, G, e, _⟩ => by cases e⟩
theorem b_no : SndB c rest sNo := fun X F => ⟨fun pins s σ H D I ⟨ρ, ω, o, Φ, G, e, _⟩ => by cases e⟩
theorem st_pass : SndS c (.Pass pos) sNext := fun X F => ps_mono ps_pass fun D σ H ⟨ρ, ω, o, Φ, G, e, S, k⟩ => by
  cases e
  exact k σ H G (Le.refl G) S
/-- a value is stored -/
theorem Sts.set {ν : Nu} {p0 : Addr} {Φ Ψ : Fr} {G : Hp} {ρ : Env} {ω : Om} {σ : L2.St} {H : Hp} {d : D} {u : V} (W : Wd p0 (U Φ Ψ) G H ω) (E : EnvX ν p0 Ψ G σ ρ) (sep : Sep Φ Ψ) (r : Rep ν p0 G u d) : Sts ν p0 Φ G (ρ.set i (.val d)) ω (σ.set i (some u)) H := ⟨Ψ, W, E.set r, sep⟩
theorem Sts.own {ν : Nu} {p0 : Addr} {Φ Ψ : Fr} {G : Hp} {ρ : Env} {ω : Om} {σ : L2.St} {H : Hp} {ds : List D} {a : Addr} {vs : List V} (W : Wd p0 (fun b u => U Φ Ψ b u ∨ (b = a ∧ u = .lst vs)) G H ω) (nf : ∀ u, ¬ U Φ Ψ a u) (E : EnvX ν p0 Ψ G σ ρ) (sep : Sep Φ Ψ) (r : Reps ν p0 G vs ds) :
    Sts ν p0 Φ G (ρ.set i (.own ds)) ω (σ.set i (some (.ref a))) H := by
  have so : ∀ {j : Nat} {xs : List D}, (ρ.set i (.own ds))[j]? = some (.own xs) → i = j ∨ (i ≠ j ∧ (ρ : List Slot)[j]? = some (.own xs)) := fun {j xs} e => by
    by_cases hi : i = j
    · exact .inl hi
    · rw [List.getElem?_set_ne hi] at e; exact .inr ⟨hi, e⟩
  have notA : ∀ {j : Nat} {xs : List D}, (ρ : List Slot)[j]? = some (.own xs) → (σ : List (Option V))[j]? = some (some (.ref a)) → False := fun {j xs} e1 e2 => by
    obtain ⟨b, ws, q1, q2, q3⟩ := E.ok j _ e1
    rw [e2] at q1; cases q1
    exact nf _ (.inr q2)
  refine ⟨fun b u => Ψ b u ∨ (b = a ∧ u = .lst vs), W.weak fun b u z => ?_, ⟨by simpa using E.len, fun j s e => ?_, fun j k b xs ys q1 q2 q3 q4 => ?_⟩, fun b u u' h1 h2 => ?_⟩
  · rcases z with z | z | z
    · exact .inl (.inl z)
    · exact .inl (.inr z)
    · exact .inr z
  · by_cases hj : i = j
    · subst hj
      by_cases hl : i < ρ.length
      · rw [List.getElem?_set_self hl] at e; cases e
        rw [List.getElem?_set_self (by rw [E.len]; exact hl)]
        exact ⟨a, vs, rfl, .inr ⟨rfl, rfl⟩, r⟩
      · rw [List.getElem?_eq_none (by simpa using hl)] at e; cases e
    · rw [List.getElem?_set_ne hj] at e ⊢
      exact (E.ok j s e).mono (Le.refl G) fun _ _ z => .inl z
  · have hlen : ∀ {j : Nat} {xs : List D}, (ρ.set i (.own ds))[j]? = some (.own xs) → i = j → (σ.set i (some (V.ref a)))[j]? = some (some (.ref a)) := fun {j xs} e hj => by
      subst hj
      exact List.getElem?_set_self (by rw [E.len]; have := (List.getElem?_eq_some_iff.mp e).1; simpa using this)
    rcases so q1 with h1 | ⟨n1, h1⟩ <;> rcases so q2 with h2 | ⟨n2, h2⟩
    · exact h1.symm.trans h2
    · rw [hlen q1 h1] at q3; cases q3
      rw [List.getElem?_set_ne n2] at q4
      exact (notA h2 q4).elim
    · rw [hlen q2 h2] at q4; cases q4
      rw [List.getElem?_set_ne n1] at q3
      exact (notA h1 q3).elim
    · rw [List.getElem?_set_ne n1] at q3
      rw [List.getElem?_set_ne n2] at q4
      exact E.inj j k b xs ys h1 h2 q3 q4
  · rcases h2 with h2 | ⟨rfl, _⟩
    · exact sep b u u' h1 h2
    · exact nf u (.inl h1)
theorem set_read {xe : Ex} (hx : ∀ X, Fits c X → ∀ ρ ω d ω', xe ρ ω = some (d, ω') → PE X e (rd c.ν c.p0 ρ ω d ω')) {X : Cx} (F : Fits c X) : PE X e (rdE c.ν c.p0 xe) := ⟨fun pins s σ H Q I ⟨ρ, ω, d, ω', e, q⟩ => (hx X F ρ ω d ω' e).run pins s σ H Q I q⟩
theorem sSet_read {xe : Ex} {D : Ends} {σ : L2.St} {H : Hp} (q : sd c.ν c.p0 (sSet i xe) D σ H) : tAsg (rdE c.ν c.p0 xe) (gName i) D σ H := by
  obtain ⟨ρ, ω, o, Φ, G, e, ⟨Ψ, W, E, sep⟩, k⟩ := q
  unfold sSet at e
  split at e
  · rename_i d ω1 e1
    cases e
    refine ⟨ρ, ω, d, ω1, e1, U Φ Ψ, G, W, E.mono (Le.refl G) fun _ _ z => .inr z, fun v H' G' l W' r => ?_⟩
    exact k _ H' G' l (Sts.set W' (E.up l) sep r)
  · cases e
theorem st_set {xe : Ex} (hN : c.N[i]? = some v) (hl : locB c.sc v = true) (hf : fnB c v = true) (he : Snd c e xe) (hs : ∀ env, swapsWith e (some (.Name v pos')) pos.line env = pure false := by intro _; rfl) : SndS c (.Assign [.Name v pos'] e pos) (sSet i xe) := fun X F =>
  ps_mono (ps_set (i := i) (by rw [F.N]; exact F.nd) (by rw [F.N]; exact hN) (by rw [F.sc]; exact locB_ok hl) (he.e F) (hs _) (fnB_ok F hf)) fun D σ H q => sSet_read q
def rdLX (ν : Nu) (p0 : Addr) (y : Exs) : TE := fun σ H Q => ∃ ρ ω ds ω', y ρ ω = some (ds, ω') ∧ rdL ν p0 ρ ω ds ω' σ H Q
theorem rdl_e {ye : Exs} (h : SndL c e ye) {X : Cx} (F : Fits c X) : PE X e (rdLX c.ν c.p0 ye) := ⟨fun pins s σ H Q I ⟨ρ, ω, d, ω', e, q⟩ => (h X F ρ ω d ω' e).run pins s σ H Q I q⟩
theorem sOwn_read {ye : Exs} {D : Ends} {σ : L2.St} {H : Hp} (q : sd c.ν c.p0 (sOwn i ye) D σ H) : tAsg (rdLX c.ν c.p0 ye) (gName i) D σ H := by
  obtain ⟨ρ, ω, o, Φ, G, e, ⟨Ψ, W, E, sep⟩, k⟩ := q
  unfold sOwn at e
  split at e
  · rename_i ds ω1 e1
    cases e
    refine ⟨ρ, ω, ds, ω1, e1, U Φ Ψ, G, W, E.mono (Le.refl G) fun _ _ z => .inr z, fun a vs H' G' l W' nf r => ?_⟩
    exact k _ H' G' l (Sts.own W' nf (E.up l) sep r)
  · cases e
theorem st_own {ye : Exs} (hN : c.N[i]? = some v) (hl : locB c.sc v = true) (hf : fnB c v = true) (he : SndL c e ye) (hs : ∀ env, swapsWith e (some (.Name v pos')) pos.line env = pure false := by intro _; rfl) : SndS c (.Assign [.Name v pos'] e pos) (sOwn i ye) := fun X F =>
  ps_mono (ps_set (i := i) (by rw [F.N]; exact F.nd) (by rw [F.N]; exact hN) (by rw [F.sc]; exact locB_ok hl) (rdl_e he F) (hs _) (fnB_ok F hf)) fun D σ H q => sOwn_read q
theorem st_ret {xe : Ex} (he : Snd c e xe) : SndS c (.Return (some e) pos) (sRet xe) := fun X F => ps_mono (ps_ret (he.e F)) fun D σ H ⟨ρ, ω, o, Φ, G, e, ⟨Ψ, W, E, sep⟩, k⟩ => by
  unfold sRet at e
  split at e
  · rename_i d ω1 e1
    cases e
    exact ⟨ρ, ω, d, ω1, e1, U Φ Ψ, G, W, E.mono (Le.refl G) fun _ _ z => .inr z, fun v H' G' l W' r => k v H' G' l (W'.weak fun _ _ z => .inl z) r⟩
  · cases e
def rdTE (ν : Nu) (p0 : Addr) (x : Ex) : TT := fun σ H Q => ∃ ρ ω b ω', x ρ ω = some (.bl b, ω') ∧ rdT ν p0 ρ ω b ω' σ H Q
theorem rdt_e {xe : Ex} (h : SndT c e xe) {X : Cx} (F : Fits c X) : PT X e (rdTE c.ν c.p0 xe) := ⟨fun pins s σ H Q I ⟨ρ, ω, d, ω', e, q⟩ => (h X F ρ ω d ω' e).run pins s σ H Q I q⟩
theorem st_if {xe : Ex} {a b : List Stmt} (he : SndT c e xe) (ha : SndB c a x) (hb : SndB c b y) : SndS c (.If e a b pos) (sIf xe x y) := fun X F => ps_mono (ps_if (rdt_e he F) (ha X F) (hb X F)) fun D σ H ⟨ρ, ω, o, Φ, G, e, ⟨Ψ, W, E, sep⟩, k⟩ => by
  unfold sIf at e
  split at e
  · rename_i ω1 e1
    exact ⟨ρ, ω, true, ω1, e1, U Φ Ψ, G, W, E.mono (Le.refl G) fun _ _ z => .inr z, fun H' G' l W' => iteT ⟨ρ, ω1, o, Φ, G', e, ⟨Ψ, W', E.up l, sep⟩, k.up l⟩⟩
  · rename_i ω1 e1
    exact ⟨ρ, ω, false, ω1, e1, U Φ Ψ, G, W, E.mono (Le.refl G) fun _ _ z => .inr z, fun H' G' l W' => iteF ⟨ρ, ω1, o, Φ, G', e, ⟨Ψ, W', E.up l, sep⟩, k.up l⟩⟩
  · cases e
/-- a list of one's own grows -/
theorem Sts.grow {ν : Nu} {p0 : Addr} {Φ Ψ : Fr} {G : Hp} {ρ : Env} {ω : Om} {σ : L2.St} {H : Hp} {xs ys : List D} {a : Addr} {vs ws : List V} (W : Wd p0 (U Φ Ψ) G H ω) (E : EnvX ν p0 Ψ G σ ρ) (sep : Sep Φ Ψ) (hi : (ρ : List Slot)[i]? = some (.own xs)) (ha : (σ : List (Option V))[i]? = some (some (.ref a))) (hv : Ψ a (.lst vs)) (r : Reps ν p0 G ws ys) :
    Sts ν p0 Φ G (ρ.set i (.own ys)) ω σ (upd H a (.lst ws)) := by
  have nf : ∀ u, ¬ (fun b u => Φ b u ∨ (Ψ b u ∧ b ≠ a)) a u := fun u z => z.elim (fun z => sep a u _ z hv) fun z => z.2 rfl
  have Ha := (W.fr a _ (.inr hv)).1
  have W1 : Wd p0 (FrD (fun b u => Φ b u ∨ (Ψ b u ∧ b ≠ a)) a (.lst vs)) G H ω := W.weak fun b u z => by
    rcases z with (z | z) | ⟨rfl, rfl⟩
    · exact .inl z
    · exact .inr z.1
    · exact .inr hv
  refine ⟨fun b u => (Ψ b u ∧ b ≠ a) ∨ (b = a ∧ u = .lst ws), (W1.put (o' := .lst ws) nf).weak fun b u z => ?_, ⟨by simpa using E.len, fun j s e => ?_, fun j k b xs' ys' q1 q2 q3 q4 => ?_⟩, fun b u u' h1 h2 => ?_⟩
  · rcases z with z | z | z
    · exact .inl (.inl z)
    · exact .inl (.inr z)
    · exact .inr z
  · by_cases hj : i = j
    · subst hj
      rw [List.getElem?_set_self (List.getElem?_eq_some_iff.mp hi).1] at e
      cases e
      exact ⟨a, ws, ha, .inr ⟨rfl, rfl⟩, r⟩
    · rw [List.getElem?_set_ne hj] at e
      have q := E.ok j s e
      cases s with
      | un => exact True.intro
      | val d => exact q
      | own zs =>
        obtain ⟨b, us, q1, q2, q3⟩ := q
        refine ⟨b, us, q1, .inl ⟨q2, fun z => ?_⟩, q3⟩
        subst z
        exact hj (E.inj i j b xs zs hi e ha q1)
  · have so : ∀ {j : Nat} {zs : List D}, (ρ.set i (.own ys))[j]? = some (.own zs) → ∃ zs', (ρ : List Slot)[j]? = some (.own zs') := fun {j zs} e => by
      by_cases hi' : i = j
      · subst hi'; exact ⟨xs, hi⟩
      · rw [List.getElem?_set_ne hi'] at e; exact ⟨zs, e⟩
    obtain ⟨z1, g1⟩ := so q1
    obtain ⟨z2, g2⟩ := so q2
    exact E.inj j k b z1 z2 g1 g2 q3 q4
  · rcases h2 with h2 | ⟨rfl, _⟩
    · exact sep b u u' h1 h2.1
    · exact sep b u _ h1 hv
theorem st_app {xe : Ex} {p apos cpos : Pos} (hN : c.N[i]? = some v) (hv : visB c.sc v = true) (he : Snd c e xe) (hs : ∀ env, starEach [e] env = (false, eval e env) :: starEach [] env := by intro _; rfl) (hd : (v == ("__debug__" : Str)) = false := by decide) (hcd : (v == ("__classdict__" : Str)) = false := by decide)
    (hbm : ∀ {X : Cx} {ta : TE} {t : TA}, PE X (.Name v p) ta → PA X [e] t → PE X (.Call (.Attribute (.Name v p) "append" apos) [e] [] cpos) (tBM X.K "list" rAppend ta t) := by
      intro X ta t ho ha; exact pe_bm PySem.F.plainAttrs_list PySem.F.slot_list_append PySem.F.type_list_append mt_append ho ha)
    (hsw : ∀ env, swapsWith (.Call (.Attribute (.Name v p) "append" apos) [e] [] cpos) none pos.line env = pure false := by intro _; rfl) :
    SndS c (.Expr (.Call (.Attribute (.Name v p) "append" apos) [e] [] cpos) pos) (sApp i xe) := fun X F =>
  ps_mono (ps_expr (hbm (pe_var (i := i) (by rw [F.N]; exact hN) (by rw [F.sc]; exact visB_ok hv) hd hcd) (pa_cons (he.e F) pa_nil (hs _))) (hsw _)) fun D σ H ⟨ρ, ω, o, Φ, G, e, ⟨Ψ, W, E, sep⟩, k⟩ => by
    unfold sApp at e
    split at e
    · rename_i d ω1 e1
      split at e
      · rename_i xs hi
        split at e
        · rename_i hlt
          cases e
          rw [Nat.blt_dec] at hlt
          have hlt := of_decide_eq_true hlt
          obtain ⟨a, vs, q1, q2, q3⟩ := E.ok i _ hi
          refine ⟨_, q1, .inl ⟨rfl, _, .inl (.inl (W.fr a _ (.inr q2)).1)⟩, ρ, ω, d, ω1, e1, U Φ Ψ, G, W, E.mono (Le.refl G) fun _ _ z => .inr z, fun v H' G' l W' r => ?_⟩
          refine ⟨a, vs, v, rfl, rfl, (W'.fr a _ (.inr q2)).1, ?_, k _ _ G' l (Sts.grow W' (E.up l) sep hi q1 q2 ((q3.up l).app (.one r)))⟩
          have := lim_ok
          rw [q3.length]; omega
        · cases e
      · cases e
    · cases e
theorem st_ext {xe : Ex} {p apos cpos : Pos} (hN : c.N[i]? = some v) (hv : visB c.sc v = true) (he : Snd c e xe) (hs : ∀ env, starEach [e] env = (false, eval e env) :: starEach [] env := by intro _; rfl) (hd : (v == ("__debug__" : Str)) = false := by decide) (hcd : (v == ("__classdict__" : Str)) = false := by decide)
    (hbm : ∀ {X : Cx} {ta : TE} {t : TA}, PE X (.Name v p) ta → PA X [e] t → PE X (.Call (.Attribute (.Name v p) "extend" apos) [e] [] cpos) (tBM X.K "list" rExtend ta t) := by
      intro X ta t ho ha; exact pe_bm PySem.F.plainAttrs_list PySem.F.slot_list_extend PySem.F.type_list_extend mt_extend ho ha)
    (hsw : ∀ env, swapsWith (.Call (.Attribute (.Name v p) "extend" apos) [e] [] cpos) none pos.line env = pure false := by intro _; rfl) :
    SndS c (.Expr (.Call (.Attribute (.Name v p) "extend" apos) [e] [] cpos) pos) (sExt i xe) := fun X F =>
  ps_mono (ps_expr (hbm (pe_var (i := i) (by rw [F.N]; exact hN) (by rw [F.sc]; exact visB_ok hv) hd hcd) (pa_cons (he.e F) pa_nil (hs _))) (hsw _)) fun D σ H ⟨ρ, ω, o, Φ, G, e, ⟨Ψ, W, E, sep⟩, k⟩ => by
    unfold sExt at e
    split at e
    · rename_i ds ω1 e1
      split at e
      · rename_i xs hi
        split at e
        · rename_i hlt
          cases e
          have hlt := Nat.le_of_ble_eq_true hlt
          obtain ⟨a, vs, q1, q2, q3⟩ := E.ok i _ hi
          refine ⟨_, q1, .inl ⟨rfl, _, .inl (.inl (W.fr a _ (.inr q2)).1)⟩, ρ, ω, _, ω1, e1, U Φ Ψ, G, W, E.mono (Le.refl G) fun _ _ z => .inr z, fun v H' G' l W' r => ?_⟩
          cases r with
          | lst e2 s2 =>
            refine ⟨a, _, vs, _, rfl, rfl, (W'.fr a _ (.inr q2)).1, W'.lst e2, ?_, k _ _ G' l (Sts.grow W' (E.up l) sep hi q1 q2 ((q3.up l).app s2))⟩
            have := lim_ok
            rw [q3.length, s2.length]; omega
        · cases e
      · cases e
    · cases e
theorem Sts.frz {ν : Nu} {p0 : Addr} {Φ : Fr} {G : Hp} {ρ : Env} {ω : Om} {σ : L2.St} {H : Hp} {xs : List D} (S : Sts ν p0 Φ G ρ ω σ H) (hi : (ρ : List Slot)[i]? = some (.own xs)) : ∃ G', Le G G' ∧ Sts ν p0 Φ G' (ρ.set i (.val (.lst xs))) ω σ H := by
  obtain ⟨Ψ, W, E, sep⟩ := S
  obtain ⟨a, vs, e1, e2, e3⟩ := E.ok i _ hi
  obtain ⟨a', vs', ha, W1, E1, hG⟩ := EnvX.lend W (E.mono (Le.refl G) fun _ _ z => .inr z) hi
  refine ⟨_, Le.upd hG, fun b u => Ψ b u ∧ b ≠ a', W1.weak fun b u z => ?_, ⟨E1.len, fun j s e => ?_, E1.inj⟩, fun b u u' h1 h2 => sep b u u' h1 h2.1⟩
  · have ne : ∀ u, Φ a' u → False := fun u z => by
      -- a' is the slot's own address
      have q := E1.ok i _ (List.getElem?_set_self (List.getElem?_eq_some_iff.mp hi).1)
      obtain ⟨v, q1, q2⟩ := q
      rw [e1] at q1; cases q1
      cases q2 with
      | lst g s =>
        by_cases hb : a = a'
        · subst hb; exact sep a u _ z e2
        · rw [upd_ne hb] at g
          have := (W.fr a _ (.inr e2)).2
          rw [g] at this; cases this
    rcases z with z | z
    · exact ⟨.inl z, fun q => by subst q; exact ne u z⟩
    · exact ⟨.inr z.1, z.2⟩
  · have q := E1.ok j s e
    cases s with
    | un => exact True.intro
    | val d => exact q
    | own zs =>
      obtain ⟨b, us, q1, q2, q3⟩ := q
      obtain ⟨n1, e'⟩ := set_own e
      obtain ⟨b', us', g1, g2, g3⟩ := E.ok j _ e'
      rw [q1] at g1; cases g1
      refine ⟨b, us, q1, ⟨?_, q2.2⟩, q3⟩
      have h1 := (W.fr b _ (.inr g2)).1
      rw [(W.fr b _ q2.1).1] at h1
      cases h1
      exact g2
theorem st_frz (i : Nat) (h : SndS c st x) : SndS c st (sFrz i x) := fun X F => ps_mono (h X F) fun D σ H ⟨ρ, ω, o, Φ, G, e, S, k⟩ => by
  unfold sFrz at e
  split at e
  · rename_i xs hi
    obtain ⟨G', l, S'⟩ := S.frz hi
    exact ⟨_, ω, o, Φ, G', e, S', k.up l⟩
  · exact ⟨ρ, ω, o, Φ, G, e, S, k⟩
end
end Q

set_option Elab.async false
set_option linter.all false
set_option maxRecDepth 100000
set_option maxHeartbeats 1000000
/-! QJ: tuples of targets, comprehensions stored, loops, defs. -/
namespace Q
open PySem PySem.Spec PyProof.Rows L2

/-! ### several values at once, some of them lists of one's own -/
inductive MOk (ν : Nu) (p0 : Addr) (G : Hp) (Ψ : Fr) : Fr → List V → List Slot → Prop
  | nil {Φ : Fr} : MOk ν p0 G Ψ Φ [] []
  | val {Φ : Fr} {v : V} {d : D} {vs : List V} {ss : List Slot} : Rep ν p0 G v d → MOk ν p0 G Ψ Φ vs ss → MOk ν p0 G Ψ Φ (v :: vs) (.val d :: ss)
  | own {Φ : Fr} {a : Addr} {ws : List V} {ds : List D} {vs : List V} {ss : List Slot} : Ψ a (.lst ws) → (∀ u, ¬ Φ a u) → Reps ν p0 G ws ds → MOk ν p0 G Ψ (fun b u => Φ b u ∨ (b = a ∧ u = .lst ws)) vs ss → MOk ν p0 G Ψ Φ (.ref a :: vs) (.own ds :: ss)
theorem MOk.mono {ν : Nu} {p0 : Addr} {G G' : Hp} {Ψ Ψ' : Fr} (l : Le G G') (m : ∀ a u, Ψ a u → Ψ' a u) {Φ : Fr} {vs : List V} {ss : List Slot} (h : MOk ν p0 G Ψ Φ vs ss) : MOk ν p0 G' Ψ' Φ vs ss := by
  induction h with
  | nil => exact .nil
  | val r _ ih => exact .val (r.up l) ih
  | own h1 h2 h3 _ ih => exact .own (m _ _ h1) h2 (h3.up l) ih
def rdM (ν : Nu) (p0 : Addr) (ρ : Env) (ω : Om) (ss : List Slot) (ω' : Om) : TA := fun σ H Q => ∃ Φ G, Wd p0 Φ G H ω ∧ EnvX ν p0 Φ G σ ρ ∧ ∀ vs H' G' Ψ, Le G G' → Wd p0 (U Φ Ψ) G' H' ω' → Sep Φ Ψ → MOk ν p0 G' Ψ Φ vs ss → Q vs H'
abbrev Ems := Env → Om → Option (List Slot × Om)
def SndM (c : Ct) (es : List Expr) (x : Ems) : Prop := ∀ X, Fits c X → ∀ ρ ω ss ω', x ρ ω = some (ss, ω') → PA X es (rdM c.ν c.p0 ρ ω ss ω')
def mNil : Ems := fun _ ω => some ([], ω)
def mVal (x : Ex) (y : Ems) : Ems := fun ρ ω => match x ρ ω with
  | some (d, ω1) => match y ρ ω1 with
    | some (ss, ω2) => some (.val d :: ss, ω2)
    | none => none
  | none => none
def mOwn (x : Exs) (y : Ems) : Ems := fun ρ ω => match x ρ ω with
  | some (ds, ω1) => match y ρ ω1 with
    | some (ss, ω2) => some (.own ds :: ss, ω2)
    | none => none
  | none => none
section
variable {c : Ct} {e : Expr} {es : List Expr} {x : Ex} {xs : Exs} {y : Ems}
theorem m_nil : SndM c [] mNil := fun X F ρ ω ds ω' h => by
  cases h
  exact pa_mono pa_nil fun σ H Q ⟨Φ, G, W, E, k⟩ => k _ H G (fun _ _ => False) (Le.refl G) (W.weak fun _ _ z => z.elim id False.elim) (fun _ _ _ _ z => z) .nil
theorem m_val (h1 : Snd c e x) (h2 : SndM c es y) (hs : ∀ env, starEach (e :: es) env = (false, eval e env) :: starEach es env := by intro _; rfl) : SndM c (e :: es) (mVal x y) := fun X F ρ ω ds ω' h => by
  unfold mVal at h
  split at h
  · rename_i d ω1 q1
    split at h
    · rename_i ss ω2 q2
      cases h
      refine pa_mono (pa_cons (h1 X F _ _ _ _ q1) (h2 X F _ _ _ _ q2) (hs _)) fun σ H Q q => ?_
      obtain ⟨Φ, G, W, E, k⟩ := q
      exact ⟨Φ, G, W, E, fun v H1 G1 l1 W1 r1 => ⟨Φ, G1, W1, E.up l1, fun vs H2 G2 Ψ l2 W2 sep r2 => k _ H2 G2 Ψ (l1.trans l2) W2 sep (.val (r1.up l2) r2)⟩⟩
    · cases h
  · cases h
theorem m_own (h1 : SndL c e xs) (h2 : SndM c es y) (hs : ∀ env, starEach (e :: es) env = (false, eval e env) :: starEach es env := by intro _; rfl) : SndM c (e :: es) (mOwn xs y) := fun X F ρ ω ds ω' h => by
  unfold mOwn at h
  split at h
  · rename_i d ω1 q1
    split at h
    · rename_i ss ω2 q2
      cases h
      refine pa_mono (pa_cons (h1 X F _ _ _ _ q1) (h2 X F _ _ _ _ q2) (hs _)) fun σ H Q q => ?_
      obtain ⟨Φ, G, W, E, k⟩ := q
      refine ⟨Φ, G, W, E, fun a ws H1 G1 l1 W1 nf r1 => ⟨_, G1, W1, E.mono l1 fun _ _ z => .inl z, fun vs H2 G2 Ψ l2 W2 sep r2 => ?_⟩⟩
      refine k _ H2 G2 (fun b u => (b = a ∧ u = .lst ws) ∨ Ψ b u) (l1.trans l2) (W2.weak fun b u z => ?_) (fun b u u' z1 z2 => ?_) (.own (.inl ⟨rfl, rfl⟩) nf (r1.up l2) (r2.mono (Le.refl _) fun _ _ z => .inr z))
      · rcases z with z | z | z
        · exact .inl (.inl z)
        · exact .inl (.inr z)
        · exact .inr z
      · rcases z2 with ⟨rfl, _⟩ | z2
        · exact nf u z1
        · exact sep b u u' (.inl z1) z2
    · cases h
  · cases h
end
def setAllS : List Nat → List Slot → Env → Option Env
  | [], [], ρ => some ρ
  | i :: r, s :: ss, ρ => setAllS r ss (ρ.set i s)
  | _, _, _ => none
/-- a list of one's own is stored -/
theorem EnvX.setOwn {ν : Nu} {p0 : Addr} {Ψ : Fr} {G : Hp} {ρ : Env} {σ : L2.St} {i : Nat} {ds : List D} {a : Addr} {vs : List V} (E : EnvX ν p0 Ψ G σ ρ) (hp : Ψ a (.lst vs)) (r : Reps ν p0 G vs ds)
    (nf : ∀ (j : Nat) (xs : List D), (ρ : List Slot)[j]? = some (.own xs) → (σ : List (Option V))[j]? = some (some (.ref a)) → False) : EnvX ν p0 Ψ G (σ.set i (some (.ref a))) (ρ.set i (.own ds)) := by
  have so : ∀ {j : Nat} {xs : List D}, (ρ.set i (.own ds))[j]? = some (.own xs) → i = j ∨ (i ≠ j ∧ (ρ : List Slot)[j]? = some (.own xs)) := fun {j xs} e => by
    by_cases hi : i = j
    · exact .inl hi
    · rw [List.getElem?_set_ne hi] at e; exact .inr ⟨hi, e⟩
  refine ⟨by simpa using E.len, fun j s e => ?_, fun j k b xs ys q1 q2 q3 q4 => ?_⟩
  · by_cases hj : i = j
    · subst hj
      by_cases hl : i < ρ.length
      · rw [List.getElem?_set_self hl] at e; cases e
        rw [List.getElem?_set_self (by rw [E.len]; exact hl)]
        exact ⟨a, vs, rfl, hp, r⟩
      · rw [List.getElem?_eq_none (by simpa using hl)] at e; cases e
    · rw [List.getElem?_set_ne hj] at e ⊢
      exact E.ok j s e
  · have hlen : ∀ {j : Nat} {xs : List D}, (ρ.set i (.own ds))[j]? = some (.own xs) → i = j → (σ.set i (some (V.ref a)))[j]? = some (some (.ref a)) := fun {j xs} e hj => by
      subst hj
      exact List.getElem?_set_self (by rw [E.len]; have := (List.getElem?_eq_some_iff.mp e).1; simpa using this)
    rcases so q1 with h1 | ⟨n1, h1⟩ <;> rcases so q2 with h2 | ⟨n2, h2⟩
    · exact h1.symm.trans h2
    · rw [hlen q1 h1] at q3; cases q3
      rw [List.getElem?_set_ne n2] at q4
      exact (nf _ _ h2 q4).elim
    · rw [hlen q2 h2] at q4; cases q4
      rw [List.getElem?_set_ne n1] at q3
      exact (nf _ _ h1 q3).elim
    · rw [List.getElem?_set_ne n1] at q3
      rw [List.getElem?_set_ne n2] at q4
      exact E.inj j k b xs ys h1 h2 q3 q4
theorem setAllS_read {ν : Nu} {p0 : Addr} {Ψ0 Ψ : Fr} {G : Hp} {H : Hp} {Q : L2.St → Hp → Prop} : ∀ (is : List Nat) (ss : List Slot) (vs : List V) (Φ : Fr) (σ : L2.St) (ρ ρ' : Env), setAllS is ss ρ = some ρ' → EnvX ν p0 (U Ψ0 Ψ) G σ ρ → MOk ν p0 G Ψ Φ vs ss →
    (∀ (j : Nat) (xs : List D) (a : Addr), (ρ : List Slot)[j]? = some (.own xs) → (σ : List (Option V))[j]? = some (some (.ref a)) → ∃ u, Φ a u) → (∀ σ', EnvX ν p0 (U Ψ0 Ψ) G σ' ρ' → Q σ' H) → gAll is vs σ H Q
  | [], [], [], Φ, σ, ρ, ρ', e, E, .nil, _, k => by cases e; exact ⟨rfl, k σ E⟩
  | i :: r, .val d :: ss, v :: vs, Φ, σ, ρ, ρ', e, E, .val a b, h, k => by
    refine ⟨v, vs, rfl, setAllS_read r ss vs Φ _ _ ρ' e (E.set a) b (fun j xs b e1 e2 => ?_) k⟩
    obtain ⟨n1, e1⟩ := set_own e1
    rw [List.getElem?_set_ne n1] at e2
    exact h j xs b e1 e2
  | i :: r, .own ds :: ss, .ref a :: vs, Φ, σ, ρ, ρ', e, E, .own (ws := ws) h1 h2 h3 b, h, k => by
    refine ⟨.ref a, vs, rfl, setAllS_read r ss vs _ _ _ ρ' e (E.setOwn (.inr h1) h3 fun j xs e1 e2 => ?_) b (fun j xs b e1 e2 => ?_) k⟩
    · obtain ⟨u, z⟩ := h j xs a e1 e2
      exact h2 u z
    · by_cases hi : i = j
      · subst hi
        have hl := (List.getElem?_eq_some_iff.mp e1).1
        rw [List.length_set] at hl
        rw [List.getElem?_set_self (by rw [E.len]; exact hl)] at e2
        cases e2
        exact ⟨_, .inr ⟨rfl, rfl⟩⟩
      · rw [List.getElem?_set_ne hi] at e1 e2
        obtain ⟨u, z⟩ := h j xs b e1 e2
        exact ⟨u, .inl z⟩
/-- a, b = x, y -/
def sTup (is : List Nat) (y : Ems) : Sx := fun ρ ω => match y ρ ω with
  | some (ss, ω1) => match setAllS is ss ρ with
    | some ρ1 => some (.nx ρ1 ω1)
    | none => none
  | none => none
def rdMX (ν : Nu) (p0 : Addr) (y : Ems) : TA := fun σ H Q => ∃ ρ ω ss ω', y ρ ω = some (ss, ω') ∧ rdM ν p0 ρ ω ss ω' σ H Q
theorem rdm_e {c : Ct} {es : List Expr} {y : Ems} (h : SndM c es y) {X : Cx} (F : Fits c X) : PA X es (rdMX c.ν c.p0 y) := ⟨fun m pins s σ H Q I ⟨ρ, ω, d, ω', e, q⟩ => (h X F ρ ω d ω' e).run m pins s σ H Q I q⟩
theorem sTup_read {c : Ct} {is : List Nat} {y : Ems} {D : Ends} {σ : L2.St} {H : Hp} (q : sd c.ν c.p0 (sTup is y) D σ H) : rdMX c.ν c.p0 y σ H fun vs H1 => vs.length ≤ is.length ∧ ∀ H2, (∀ G Φ ω, Wd c.p0 Φ G H1 ω → Wd c.p0 Φ G H2 ω) → gAll is vs σ H2 D.nx := by
  obtain ⟨ρ, ω, o, Φ, G, e, ⟨Ψ, W, E, sep⟩, k⟩ := q
  unfold sTup at e
  split at e
  · rename_i ss ω1 e1
    split at e
    · rename_i ρ1 e2
      cases e
      refine ⟨ρ, ω, ss, ω1, e1, U Φ Ψ, G, W, E.mono (Le.refl G) fun _ _ z => .inr z, fun vs H1 G1 Ψ1 l1 W1 sep1 r1 => ⟨?_, fun H2 hw => ?_⟩⟩
      · have len : ∀ {is : List Nat} {ss : List Slot} {ρ ρ' : Env}, setAllS is ss ρ = some ρ' → ss.length = is.length := by
          intro is
          induction is with
          | nil => intro ss ρ ρ' e; cases ss with
            | nil => rfl
            | cons _ _ => cases e
          | cons i r ih => intro ss ρ ρ' e; cases ss with
            | nil => cases e
            | cons s t => simp [ih (show setAllS r t (ρ.set i s) = some ρ' from e)]
        have len2 : ∀ {Ψ Φ : Fr} {vs : List V} {ss : List Slot}, MOk c.ν c.p0 G1 Ψ Φ vs ss → vs.length = ss.length := by
          intro Ψ Φ vs ss h
          induction h with
          | nil => rfl
          | val _ _ ih => simp [ih]
          | own _ _ _ _ ih => simp [ih]
        rw [len2 r1, len e2]
        exact Nat.le_refl _
      · refine setAllS_read (Ψ0 := Ψ) is ss vs _ σ ρ ρ1 e2 (E.mono l1 fun _ _ z => .inl z) r1 (fun j xs a q1 q2 => ?_) fun σ' E' => ?_
        · obtain ⟨b, us, g1, g2, g3⟩ := E.ok j _ q1
          rw [q2] at g1; cases g1
          exact ⟨_, .inr g2⟩
        · refine k σ' H2 G1 l1 ⟨U Ψ Ψ1, (hw _ _ _ W1).weak fun b u z => ?_, E', fun b u u' z1 z2 => ?_⟩
          · rcases z with z | z | z
            · exact .inl (.inl z)
            · exact .inl (.inr z)
            · exact .inr z
          · rcases z2 with z2 | z2
            · exact sep b u u' z1 z2
            · exact sep1 b u u' (.inl z1) z2
    · cases e
  · cases e
end Q

set_option Elab.async false
set_option linter.all false
set_option maxRecDepth 100000
set_option maxHeartbeats 1000000
/-! QK: tuples of targets, comprehensions stored, loops, defs. -/
namespace Q
open PySem PySem.Spec PyProof.Rows L2

theorem ps_quiet {X : Cx} {st : Stmt} {t : TS} (h : PS X.nox st t) : PS X st t :=
  ⟨fun pins s σ H D I q => wpAny_mono (h.run pins s σ H D (Inv.wish I _) q) (fun _ _ z => SP.unwish z) (fun _ _ z => z.elim)⟩
theorem Fits.quiet {c : Ct} {X : Cx} (F : Fits c X) : Fits c X.nox := ⟨F.P, F.w, F.K, F.mg, F.base, F.N, F.sc, F.fn, F.calm, F.room, F.nd⟩

section
variable {c : Ct} {i j l : Nat} {x y z : Str} {a b d : Expr} {px py pz pt pos : Pos} {kt k2 : Nat} {pt2 : Pos} {m : Ems}
theorem locL {c : Ct} {x : Str} (h : (c.sc.names.lookup x == some .local) = true) {X : Cx} (F : Fits c X) : X.env.scope.names.lookup x = some .local := by rw [F.sc]; exact eq_of_beq h
theorem st_par (hi : c.N[i]? = some x) (hj : c.N[j]? = some y) (hij : i ≠ j) (hx : (c.sc.names.lookup x == some .local) = true) (hy : (c.sc.names.lookup y == some .local) = true) (ha : SndM c [a, b] m)
    (hw : ∀ env : PySem.Env, env.scope = c.sc → swappedStores [.Tuple [.Name x px, .Name y py] kt pt] (.Tuple [a, b] k2 pt2) env = pure (some [x, y]))
    (hs : ∀ env, swapsWithSole [.Tuple [.Name x px, .Name y py] kt pt] (.Tuple [a, b] k2 pt2) pos.line env = pure false := by intro _; rfl) :
    SndS c (.Assign [.Tuple [.Name x px, .Name y py] kt pt] (.Tuple [a, b] k2 pt2) pos) (sTup [i, j] m) := fun X F =>
  ps_mono (ps_par (i := i) (j := j) F.calm (by rw [F.N]; exact F.nd) (by rw [F.N]; exact hi) (by rw [F.N]; exact hj) hij (locL hx F) (locL hy F) (rdm_e ha F) (hw _ F.sc) (hs _)) fun D σ H q => by
    obtain ⟨ρ, ω, ss, ω', e1, Φ, G, W, E, k⟩ := sTup_read q
    refine ⟨ρ, ω, ss, ω', e1, Φ, G, W, E, fun vs H1 G1 Ψ l1 W1 sep r1 => ?_⟩
    obtain ⟨_, k2⟩ := k vs H1 G1 Ψ l1 W1 sep r1
    obtain ⟨u, us, rfl, w, ws, rfl, rfl, k3⟩ := k2 H1 fun _ _ _ z => z
    exact ⟨u, w, rfl, k3⟩
theorem st_par3 (hi : c.N[i]? = some x) (hj : c.N[j]? = some y) (hl : c.N[l]? = some z) (hij : i ≠ j) (hil : i ≠ l) (hjl : j ≠ l) (hx : (c.sc.names.lookup x == some .local) = true) (hy : (c.sc.names.lookup y == some .local) = true) (hz : (c.sc.names.lookup z == some .local) = true) (ha : SndM c [a, b, d] m)
    (hw : ∀ env : PySem.Env, env.scope = c.sc → swappedStores [.Tuple [.Name x px, .Name y py, .Name z pz] kt pt] (.Tuple [a, b, d] k2 pt2) env = pure (some [x, y, z]))
    (hs : ∀ env, swapsWithSole [.Tuple [.Name x px, .Name y py, .Name z pz] kt pt] (.Tuple [a, b, d] k2 pt2) pos.line env = pure false := by intro _; rfl) :
    SndS c (.Assign [.Tuple [.Name x px, .Name y py, .Name z pz] kt pt] (.Tuple [a, b, d] k2 pt2) pos) (sTup [i, j, l] m) := fun X F =>
  ps_mono (ps_par3 (i := i) (j := j) (l := l) F.calm (by rw [F.N]; exact F.nd) (by rw [F.N]; exact hi) (by rw [F.N]; exact hj) (by rw [F.N]; exact hl) hij hil hjl (locL hx F) (locL hy F) (locL hz F) (rdm_e ha F) (hw _ F.sc) (hs _)) fun D σ H q => by
    obtain ⟨ρ, ω, ss, ω', e1, Φ, G, W, E, k⟩ := sTup_read q
    refine ⟨ρ, ω, ss, ω', e1, Φ, G, W, E, fun vs H1 G1 Ψ l1 W1 sep r1 => ?_⟩
    obtain ⟨_, k2⟩ := k vs H1 G1 Ψ l1 W1 sep r1
    obtain ⟨u, us, rfl, v, ws, rfl, w, zs, rfl, rfl, k3⟩ := k2 H1 fun _ _ _ z => z
    exact ⟨u, v, w, rfl, k3⟩
/-- .. by way of a tuple -/
theorem st_tupc {is : List Nat} {tgs es : List Expr} (hn : NmEs c is tgs) (ha : SndM c es m) (hsz : is.length ≤ 100) (hlen : ∀ env, (assignEach tgs env).length = is.length := by intro _; rfl) (hst : ∀ env, (assignEach tgs env).findIdx? (·.1) = none := by intro _; rfl)
    (hs : ∀ env, swapsWithSole [.Tuple tgs kt pt] (.Tuple es k2 pt2) pos.line env = pure false := by intro _; rfl) (hw : ∀ env : PySem.Env, env.scope = c.sc → swappedStores [.Tuple tgs kt pt] (.Tuple es k2 pt2) env = pure none)
    (h1 : ∀ env, (assignEach [.Tuple tgs kt pt] env).map (·.2) = [assign (.Tuple tgs kt pt) env] := by intro _; rfl) :
    SndS c (.Assign [.Tuple tgs kt pt] (.Tuple es k2 pt2) pos) (sTup is m) := fun X F =>
  ps_mono (ps_asg (pe_tup (rdm_e ha F)) (pg_tup F.calm (pgs_names F hn) (hlen _) (hst _)) (hs _) (hw _ F.sc) (h1 _)) fun D σ H q => by
    obtain ⟨ρ, ω, ss, ω', e1, Φ, G, W, E, k⟩ := sTup_read q
    refine ⟨ρ, ω, ss, ω', e1, Φ, G, W, E, fun vs H1 G1 Ψ l1 W1 sep r1 => ?_⟩
    obtain ⟨hl, k2⟩ := k vs H1 G1 Ψ l1 W1 sep r1
    refine ⟨?_, fun p hp => ?_⟩
    · have := lim_ok; unfold lim at this; omega
    · have kk := k2 (upd H1 p (.tup vs)) fun _ _ _ z => z.raw hp
      have ln : ∀ {is : List Nat} {vs : List V} {σ : L2.St} {H : Hp} {Q : L2.St → Hp → Prop}, gAll is vs σ H Q → vs.length = is.length := by
        intro is
        induction is with
        | nil => intro vs σ H Q z; obtain ⟨rfl, _⟩ := z; rfl
        | cons i r ih => intro vs σ H Q z; obtain ⟨v, ws, rfl, z⟩ := z; simp [ih z]
      exact ⟨p, vs, rfl, .inl (.inl upd_same), ln kk, kk⟩
end

/-! ### a comprehension stored on its own line -/
section
variable {c : Ct} {i : Nat} {v : Str} {py pos spos : Pos} {elt tg iter : Expr} {ifs : List Expr} {scope : Scope} {own : List (Str × Nat)} {it : Exs} {t : Tg} {sl : List Nat} {cond : Cd} {x : Ex}
theorem set_l {ye : Exs} {D : Ends} {σ : L2.St} {H : Hp} (q : sd c.ν c.p0 (sSet i (xL ye)) D σ H) : tAsg (rdLX c.ν c.p0 ye) (gName i) D σ H := by
  obtain ⟨ρ, ω, d, ω', e, q⟩ := sSet_read q
  unfold xL at e
  split at e
  · rename_i ds ω1 e1
    cases e
    exact ⟨ρ, ω, ds, _, e1, rdL_rd q⟩
  · cases e
theorem lcx (hsl : ∀ i ∈ sl, i ∈ own.map (·.2)) {σ : L2.St} {H : Hp} {Q : VK} (q : rdLX c.ν c.p0 (yComp (own.map (·.2)) it t cond x) σ H Q) : tLc (rdIX c.ν c.p0 it) (rdG c.ν c.p0 t sl) (rdTX c.ν c.p0 cond) (rdE c.ν c.p0 x) (own.map (·.2)) σ H Q := by
  obtain ⟨ρ, ω, ds, ω', e, q⟩ := q
  exact lc_read hsl e q
theorem ps_lcx (hN : c.N[i]? = some v) (hl : (c.sc.names.lookup v == some .local) = true) (hsw : ∀ env : PySem.Env, env.scope = c.sc → swapsWith (.ListComp elt [⟨tg, iter, ifs, 0⟩] scope pos) (some (.Name v py)) spos.line env = pure true) (ok : BlkOk c.N c.sc scope own) (hi : SndI c tg iter it) (hg : SndG (c.blk scope) tg t sl) (hsl : ∀ i ∈ sl, i ∈ own.map (·.2)) (hc : SndC (c.blk scope) ifs cond) (he : Snd (c.blk scope) elt x)
    (hs : ∀ env v, foldedSetIterable iter env v = pure v := by intro _ _; rfl) {X : Cx} (F : Fits c X) : PS X (.Assign [.Name v py] (.ListComp elt [⟨tg, iter, ifs, 0⟩] scope pos) spos) (tAsg (rdLX c.ν c.p0 (yComp (own.map (·.2)) it t cond x)) (gName i)) :=
  ps_mono (ps_setLc (i := i) F.calm (by rw [F.N]; exact F.nd) (by rw [F.N]; exact hN) (locL hl F) (hsw _ F.sc) (hi.e F) (by rw [F.N, F.sc]; exact ok) (fun s H C cl fp => hg _ (F.blk s H scope cl C fp)) (fun s H C cl fp => hc _ (F.blk s H scope cl C fp)) (fun s H C cl fp => he.e (F.blk s H scope cl C fp)) (hs _))
    fun D σ H q => lcx hsl q
theorem st_setLc (hN : c.N[i]? = some v) (hl : (c.sc.names.lookup v == some .local) = true) (hsw : ∀ env : PySem.Env, env.scope = c.sc → swapsWith (.ListComp elt [⟨tg, iter, ifs, 0⟩] scope pos) (some (.Name v py)) spos.line env = pure true) (ok : BlkOk c.N c.sc scope own) (hi : SndI c tg iter it) (hg : SndG (c.blk scope) tg t sl) (hsl : ∀ i ∈ sl, i ∈ own.map (·.2)) (hc : SndC (c.blk scope) ifs cond) (he : Snd (c.blk scope) elt x)
    (hs : ∀ env v, foldedSetIterable iter env v = pure v := by intro _ _; rfl) : SndS c (.Assign [.Name v py] (.ListComp elt [⟨tg, iter, ifs, 0⟩] scope pos) spos) (sSet i (xL (yComp (own.map (·.2)) it t cond x))) := fun X F =>
  ps_mono (ps_lcx hN hl hsw ok hi hg hsl hc he hs F) fun D σ H q => set_l q
theorem st_ownLc (hN : c.N[i]? = some v) (hl : (c.sc.names.lookup v == some .local) = true) (hsw : ∀ env : PySem.Env, env.scope = c.sc → swapsWith (.ListComp elt [⟨tg, iter, ifs, 0⟩] scope pos) (some (.Name v py)) spos.line env = pure true) (ok : BlkOk c.N c.sc scope own) (hi : SndI c tg iter it) (hg : SndG (c.blk scope) tg t sl) (hsl : ∀ i ∈ sl, i ∈ own.map (·.2)) (hc : SndC (c.blk scope) ifs cond) (he : Snd (c.blk scope) elt x)
    (hs : ∀ env v, foldedSetIterable iter env v = pure v := by intro _ _; rfl) : SndS c (.Assign [.Name v py] (.ListComp elt [⟨tg, iter, ifs, 0⟩] scope pos) spos) (sOwn i (yComp (own.map (·.2)) it t cond x)) := fun X F =>
  ps_mono (ps_lcx hN hl hsw ok hi hg hsl hc he hs F) fun D σ H q => sOwn_read q
theorem ps_lcx2 {tg1 iter1 : Expr} {ifs1 : List Expr} {it1 : Exs} {t1 : Tg} {sl1 vs1 : List Nat} {cond1 : Cd} (hN : c.N[i]? = some v) (hl : (c.sc.names.lookup v == some .local) = true) (hsw : ∀ env : PySem.Env, env.scope = c.sc → swapsWith (.ListComp elt [⟨tg, iter, ifs, 0⟩, ⟨tg1, iter1, ifs1, 0⟩] scope pos) (some (.Name v py)) spos.line env = pure true) (ok : BlkOk c.N c.sc scope own) (hv : ∀ i ∈ vs1, i ∈ own.map (·.2)) (hi : SndI c tg iter it) (hg : SndG (c.blk scope) tg t sl) (hsl : ∀ i ∈ sl, i ∈ own.map (·.2)) (hc : SndC (c.blk scope) ifs cond)
    (hi1 : SndI (c.blk scope) tg1 iter1 it1) (hg1 : SndG (c.blk scope) tg1 t1 sl1) (hsl1 : ∀ i ∈ sl1, i ∈ vs1) (hc1 : SndC (c.blk scope) ifs1 cond1) (he : Snd (c.blk scope) elt x)
    (hs : ∀ env v, foldedSetIterable iter env v = pure v := by intro _ _; rfl) (hs1 : ∀ env v, foldedSetIterable iter1 env v = pure v := by intro _ _; rfl) {X : Cx} (F : Fits c X) :
    PS X (.Assign [.Name v py] (.ListComp elt [⟨tg, iter, ifs, 0⟩, ⟨tg1, iter1, ifs1, 0⟩] scope pos) spos) (tAsg (rdLX c.ν c.p0 (yComp2 (own.map (·.2)) vs1 it t cond it1 t1 cond1 x)) (gName i)) :=
  ps_mono (ps_setLc2 (i := i) (vs1 := vs1) F.calm (by rw [F.N]; exact F.nd) (by rw [F.N]; exact hN) (locL hl F) (hsw _ F.sc) (hi.e F) (by rw [F.N, F.sc]; exact ok) hv (fun s H C cl fp => hg _ (F.blk s H scope cl C fp)) (fun s H C cl fp => hc _ (F.blk s H scope cl C fp)) (fun s H C cl fp => hi1.e (F.blk s H scope cl C fp)) (fun s H C cl fp => hg1 _ (F.blk s H scope cl C fp))
      (fun s H C cl fp => hc1 _ (F.blk s H scope cl C fp)) (fun s H C cl fp => he.e (F.blk s H scope cl C fp)) (hs _) hs1)
    fun D σ H q => by
      obtain ⟨ρ, ω, ds, ω', e, q⟩ := q
      exact lc2_read hsl hsl1 e q
theorem st_setLc2 {tg1 iter1 : Expr} {ifs1 : List Expr} {it1 : Exs} {t1 : Tg} {sl1 vs1 : List Nat} {cond1 : Cd} (hN : c.N[i]? = some v) (hl : (c.sc.names.lookup v == some .local) = true) (hsw : ∀ env : PySem.Env, env.scope = c.sc → swapsWith (.ListComp elt [⟨tg, iter, ifs, 0⟩, ⟨tg1, iter1, ifs1, 0⟩] scope pos) (some (.Name v py)) spos.line env = pure true) (ok : BlkOk c.N c.sc scope own) (hv : ∀ i ∈ vs1, i ∈ own.map (·.2)) (hi : SndI c tg iter it) (hg : SndG (c.blk scope) tg t sl) (hsl : ∀ i ∈ sl, i ∈ own.map (·.2)) (hc : SndC (c.blk scope) ifs cond)
    (hi1 : SndI (c.blk scope) tg1 iter1 it1) (hg1 : SndG (c.blk scope) tg1 t1 sl1) (hsl1 : ∀ i ∈ sl1, i ∈ vs1) (hc1 : SndC (c.blk scope) ifs1 cond1) (he : Snd (c.blk scope) elt x)
    (hs : ∀ env v, foldedSetIterable iter env v = pure v := by intro _ _; rfl) (hs1 : ∀ env v, foldedSetIterable iter1 env v = pure v := by intro _ _; rfl) :
    SndS c (.Assign [.Name v py] (.ListComp elt [⟨tg, iter, ifs, 0⟩, ⟨tg1, iter1, ifs1, 0⟩] scope pos) spos) (sSet i (xL (yComp2 (own.map (·.2)) vs1 it t cond it1 t1 cond1 x))) := fun X F =>
  ps_mono (ps_lcx2 hN hl hsw ok hv hi hg hsl hc hi1 hg1 hsl1 hc1 he hs hs1 F) fun D σ H q => set_l q
/-- the line is the comprehension's own -/
theorem sw_on {sc : Scope} {env : PySem.Env} {gs : List Comprehension} {sc2 : Scope} {l : Nat} (he : env.scope = sc) (hk : (sc.kind == .function) = true) (hy : (sc.names.lookup v == some .local) = true) (hl : (py.line == pos.line) = true)
    (ha : (sc2.names.any fun (n, k) => n == v && (k == .local || k == .cell)) = false) : swapsWith (.ListComp elt gs sc2 pos) (some (.Name v py)) l env = pure true := by
  subst he
  refine sw_true ?_ (eq_of_beq hy) hl ha
  cases h : env.scope.kind with
  | function => rfl
  | _ => rw [h] at hk; cases hk
end
end Q

set_option Elab.async false
set_option linter.all false
set_option maxRecDepth 100000
set_option maxHeartbeats 1000000
/-! QL: loops, defs. -/
namespace Q
open PySem PySem.Spec PyProof.Rows L2

section
variable {c : Ct} {tg iter : Expr} {body : List Stmt} {it : Exs} {t : Tg} {sl : List Nat} {x : Sx} {pos : Pos} {e : Expr} {tx : Ex}
theorem for_read {ν : Nu} {p0 : Addr} {it : Exs} {t : Tg} {sl : List Nat} {x : Sx} {D : Ends} {σ : L2.St} {H : Hp} (q : sd ν p0 (sFor it t x) D σ H) : tFor (rdIX ν p0 it) (rdG ν p0 t sl) (sd ν p0 x) D σ H := by
  obtain ⟨ρ, ω, o, Φ, G, e, ⟨Ψ, W, E, sep⟩, k⟩ := q
  unfold sFor at e
  split at e
  · rename_i its ω1 e1
    refine ⟨ρ, ω, its, ω1, e1, U Φ Ψ, G, W, E.mono (Le.refl G) fun _ _ z => .inr z, fun J H1 G1 l1 W1 gv => ?_⟩
    refine ⟨fun i m σ H => ∃ G2 ρi ωi, Le G1 G2 ∧ Sts ν p0 Φ G2 ρi ωi σ H ∧ forD t x (its.drop i) ρi ωi = some o ∧ i ≤ its.length ∧ m = its.length - i,
      ⟨its.length, G1, ρ, ω1, Le.refl _, ⟨Ψ, W1, E.up l1, sep⟩, e, Nat.zero_le _, rfl⟩, ?_⟩
    rintro i m σ2 H2 ⟨G2, ρi, ωi, l2, ⟨Ψ2, W2, E2, sep2⟩, hf, hi, rfl⟩
    obtain ⟨g1, g2⟩ := gv G2 H2 ωi _ l2 W2
    rcases Nat.lt_or_ge i its.length with hlt | hge
    · right
      have hd : its.drop i = its[i] :: its.drop (i + 1) := List.drop_eq_getElem_cons hlt
      rw [hd] at hf
      obtain ⟨go, yld⟩ := g1 i its[i] (by simp [hlt])
      unfold forD at hf
      split at hf
      · rename_i ρ1 f1
        refine ⟨go, fun σ' H' => ∃ G3 ρ3 ω3, Le G1 G3 ∧ Sts ν p0 Φ G3 ρ3 ω3 σ' H' ∧ forD t x (its.drop (i + 1)) ρ3 ω3 = some o, fun σ' H' ⟨G3, ρ3, ω3, a1, a2, a3⟩ => ⟨its.length - (i + 1), by omega, G3, ρ3, ω3, a1, a2, a3, hlt, rfl⟩, fun v H3 hy => ?_⟩
        obtain ⟨G3, l3, W3, rv⟩ := yld v H3 hy
        refine ⟨ρi, its[i], ρ1, Ψ2, G3, ωi, f1, W3.weak fun _ _ z => .inr z, E2.up l3, rv, fun σ4 E4 _ _ _ => ?_⟩
        have S4 : Sts ν p0 Φ G3 ρ1 ωi σ4 H3 := ⟨Ψ2, W3, E4, sep2⟩
        split at hf
        · rename_i ρ2 ω2 f2
          exact ⟨ρ1, ωi, _, Φ, G3, f2, S4, fun σ' H' G' l' S' => ⟨G', ρ2, ω2, l2.trans (l3.trans l'), S', hf⟩⟩
        · rename_i ρ2 ω2 f2
          exact ⟨ρ1, ωi, _, Φ, G3, f2, S4, fun σ' H' G' l' S' => ⟨G', ρ2, ω2, l2.trans (l3.trans l'), S', hf⟩⟩
        · rename_i ρ2 ω2 f2
          cases hf
          exact ⟨ρ1, ωi, _, Φ, G3, f2, S4, fun σ' H' G' l' S' => k σ' H' G' (l1.trans (l2.trans (l3.trans l'))) S'⟩
        · rename_i d ω2 f2
          cases hf
          exact ⟨ρ1, ωi, _, Φ, G3, f2, S4, fun v H' G' l' W' r' => k v H' G' (l1.trans (l2.trans (l3.trans l'))) W' r'⟩
        · cases hf
      · cases hf
    · left
      have hi' : i = its.length := by omega
      subst hi'
      rw [List.drop_length] at hf
      cases hf
      exact ⟨g2 _ (Nat.le_refl _), k σ2 H2 G2 (l1.trans l2) ⟨Ψ2, W2, E2, sep2⟩⟩
  · cases e
theorem st_for (hi : SndI c tg iter it) (hg : SndG c tg t sl) (hb : SndB c body x) (hs : ∀ env v, foldedSetIterable iter env v = pure v := by intro _ _; rfl) : SndS c (.For tg iter body [] pos) (sFor it t x) := fun X F =>
  ps_quiet (ps_mono (ps_for (X := X.nox) PassesOwn.never F.calm (hi.e F.quiet) (hg _ F.quiet) (hb _ F.quiet) (hs _)) fun D σ H q => for_read q)
theorem while_read {ν : Nu} {p0 : Addr} {n : Nat} {tx : Ex} {x : Sx} {D : Ends} {σ : L2.St} {H : Hp} (q : sd ν p0 (sWhile n tx x) D σ H) : tWhile (rdTE ν p0 tx) (sd ν p0 x) D σ H := by
  obtain ⟨ρ, ω, o, Φ, G, e, S, k⟩ := q
  refine ⟨fun m σ H => ∃ G2 ρi ωi, Le G G2 ∧ Sts ν p0 Φ G2 ρi ωi σ H ∧ whileD tx x m ρi ωi = some o, ⟨n, G, ρ, ω, Le.refl _, S, e⟩, ?_⟩
  rintro m σ2 H2 ⟨G2, ρi, ωi, l2, ⟨Ψ2, W2, E2, sep2⟩, hf⟩
  cases m with
  | zero => cases hf
  | succ m =>
    unfold whileD at hf
    split at hf
    · rename_i ω1 f1
      refine ⟨ρi, ωi, true, ω1, f1, _, G2, W2, E2.mono (Le.refl _) fun _ _ z => .inr z, fun H3 G3 l3 W3 => iteT ⟨fun σ' H' => ∃ G4 ρ4 ω4, Le G G4 ∧ Sts ν p0 Φ G4 ρ4 ω4 σ' H' ∧ whileD tx x m ρ4 ω4 = some o, fun σ' H' ⟨G4, ρ4, ω4, a1, a2, a3⟩ => ⟨m, Nat.lt_succ_self m, G4, ρ4, ω4, a1, a2, a3⟩, ?_⟩⟩
      have S4 : Sts ν p0 Φ G3 ρi ω1 σ2 H3 := ⟨Ψ2, W3, E2.up l3, sep2⟩
      split at hf
      · rename_i ρ2 ω2 f2
        exact ⟨ρi, ω1, _, Φ, G3, f2, S4, fun σ' H' G' l' S' => ⟨G', ρ2, ω2, l2.trans (l3.trans l'), S', hf⟩⟩
      · rename_i ρ2 ω2 f2
        exact ⟨ρi, ω1, _, Φ, G3, f2, S4, fun σ' H' G' l' S' => ⟨G', ρ2, ω2, l2.trans (l3.trans l'), S', hf⟩⟩
      · rename_i ρ2 ω2 f2
        cases hf
        exact ⟨ρi, ω1, _, Φ, G3, f2, S4, fun σ' H' G' l' S' => k σ' H' G' (l2.trans (l3.trans l')) S'⟩
      · rename_i d ω2 f2
        cases hf
        exact ⟨ρi, ω1, _, Φ, G3, f2, S4, fun v H' G' l' W' r' => k v H' G' (l2.trans (l3.trans l')) W' r'⟩
      · cases hf
    · rename_i ω1 f1
      cases hf
      exact ⟨ρi, ωi, false, ω1, f1, _, G2, W2, E2.mono (Le.refl _) fun _ _ z => .inr z, fun H3 G3 l3 W3 => iteF (k σ2 H3 G3 (l2.trans l3) ⟨Ψ2, W3, E2.up l3, sep2⟩)⟩
    · cases hf
theorem st_while (n : Nat) (hc : SndT c e tx) (hb : SndB c body x) : SndS c (.While e body [] pos) (sWhile n tx x) := fun X F =>
  ps_quiet (ps_mono (ps_while (X := X.nox) PassesOwn.never (rdt_e hc F.quiet) (hb _ F.quiet)) fun D σ H q => while_read q)
end

/-! ### defs -/
def cc (P : Program) (w : World) (K : PySem.W.Frag) (mg : Str → Option Value) (base : Heap) (ν : Nu) (p0 : Addr) (k : Nat) (N : List Str) (st : Stmt) : Ct := ⟨P, w, K, mg, base, ν, p0, k, N, defScope st, fun _ => true⟩
def mkFn (n N : Nat) (m : Sx) : Fn := fun ds ω => match Nat.beq ds.length n with
  | true => match m (ds.map Slot.val ++ List.replicate (N - n) Slot.un) ω with
    | some (.rt d ω') => some (d, ω')
    | some (.nx _ ω') => some (.non, ω')
    | _ => none
  | false => none
/-- a def that may be called by its name -/
structure Cl (P : Program) (w : World) (K : PySem.W.Frag) (mg : Str → Option Value) (base : Heap) (k : Nat) (x : Str) (n : Nat) (fn : Fn) : Prop where
  ex : ∃ (f : Addr) (fd : FuncData) (ps : List Str), FnOk P w K mg base CX0 k f fd ps (spf fn ps.length) ∧ ps.length = n ∧ mg x = some (.ref f) ∧ PySem.W.keepIn K (.ref f) = true ∧ Binds K fd ps []
theorem reps_at {ν : Nu} {p0 : Addr} {G : Hp} {vs : List V} {ds : List D} {n : Nat} (r : Reps ν p0 G vs ds) {i : Nat} {s : Slot} (e : (ds.map Slot.val ++ List.replicate n Slot.un)[i]? = some s) :
    SlotOk ν p0 (fun _ _ => False) G (vs.map some ++ List.replicate n none)[i]? s := by
  have hl := r.length
  by_cases hi : i < ds.length
  · rw [List.getElem?_append_left (by simpa using hi), List.getElem?_map] at e
    rw [List.getElem?_append_left (by simp; omega), List.getElem?_map]
    cases q : ds[i]? with
    | none => rw [q] at e; cases e
    | some d =>
      rw [q] at e; cases e
      obtain ⟨v, ev, rv⟩ := r.get q
      rw [ev]
      exact ⟨v, rfl, rv⟩
  · rw [List.getElem?_append_right (by simp; omega), List.getElem?_replicate] at e
    split at e
    · cases e; exact True.intro
    · cases e
section
variable {P : Program} {w : World} {K : PySem.W.Frag} {mg : Str → Option Value} {base : Heap}
theorem fn_by {x : Str} {st : Stmt} {f : Addr} {fd : FuncData} {N ps : List Str} {k : Nat} {m : Sx} (F : Fun K x x st f fd) (S : FnScope N ps (defScope st)) (h : ∀ ν p0, NuOk ν → SndB (cc P w K mg base ν p0 k N st) (defBody st) m) :
    FnOk P w K mg base CX0 (k + 1) f fd ps (spf (mkFn ps.length N.length m) ps.length) := by
  refine F.ok S (fun vs H Q E h => h.1) fun cdv A outer s H vs Q E hr hsp => ?_
  obtain ⟨hl, ν, p0, Φ, G, ω, ds, d, ω', hν, W, r, e, kk⟩ := hsp
  have FX : Fits (cc P w K mg base ν p0 k N st) (cxOf CX0 P w K mg base N x (defScope st) f cdv A outer s H E).nox := ⟨rfl, rfl, rfl, rfl, rfl, rfl, rfl, rfl, rfl, hr, S.nd⟩
  refine ⟨_, h ν p0 hν _ FX, ?_⟩
  have ld := r.length
  have hp : ps.length ≤ N.length := by have := congrArg List.length S.pre; rw [List.length_take] at this; omega
  have es : L2.start N vs = vs.map some ++ List.replicate (N.length - ps.length) none := by unfold L2.start; rw [hl]
  have E0 : EnvX ν p0 (fun _ _ => False) G (L2.start N vs) (ds.map Slot.val ++ List.replicate (N.length - ps.length) Slot.un) := by
    refine ⟨?_, fun i s q => ?_, fun i j a xs ys q1 => ?_⟩
    · rw [es]; simp; omega
    · rw [es]; exact reps_at r q
    · exfalso
      by_cases hi : i < ds.length
      · rw [List.getElem?_append_left (by simpa using hi), List.getElem?_map] at q1
        cases q : ds[i]? with
        | none => rw [q] at q1; cases q1
        | some d => rw [q] at q1; cases q1
      · rw [List.getElem?_append_right (by simp; omega), List.getElem?_replicate] at q1
        split at q1 <;> cases q1
  have St0 : Sts ν p0 Φ G (ds.map Slot.val ++ List.replicate (N.length - ps.length) Slot.un) ω (L2.start N vs) H := ⟨fun _ _ => False, W.weak fun _ _ z => z.elim id False.elim, E0, fun _ _ _ _ z => z⟩
  unfold mkFn at e
  split at e
  · split at e
    · rename_i d1 ω1 e1
      cases e
      exact ⟨_, ω, _, Φ, G, e1, St0, fun v H' G' l W' r' => kk v H' G' l W' r'⟩
    · rename_i ρ1 ω1 e1
      cases e
      refine ⟨_, ω, _, Φ, G, e1, St0, fun σ' H' G' l S' => ?_⟩
      obtain ⟨Ψ, W', _, _⟩ := S'
      exact kk .non H' G' l (W'.weak fun _ _ z => .inl z) .non
    · cases e
  · cases e
theorem cl_of {x : Str} {st : Stmt} {f : Addr} {fd : FuncData} {N ps : List Str} {k : Nat} {m : Sx} (F : Fun K x x st f fd) (hm : mg x = some (.ref f)) (b : Binds K fd ps []) (S : FnScope N ps (defScope st)) (h : ∀ ν p0, NuOk ν → SndB (cc P w K mg base ν p0 k N st) (defBody st) m) :
    Cl P w K mg base (k + 1) x ps.length (mkFn ps.length N.length m) := ⟨f, fd, ps, fn_by F S h, rfl, hm, F.kp, b⟩
theorem Cl.up {j k : Nat} {x : Str} {n : Nat} {fn : Fn} (C : Cl P w K mg base j x n fn) (h : j ≤ k) : Cl P w K mg base k x n fn := by
  obtain ⟨f, fd, ps, F, e, hm, kp, b⟩ := C.ex
  exact ⟨f, fd, ps, F.mono h, e, hm, kp, b⟩
/-- a def that is never reached so deep -/
def fNo : Fn := fun _ _ => none
theorem cl_no {x : Str} {f : Addr} {fd : FuncData} {ps : List Str} {k : Nat} (kp : PySem.W.keepIn K (.ref f) = true) (hm : mg x = some (.ref f)) (b : Binds K fd ps []) : Cl P w K mg base k x ps.length fNo :=
  ⟨f, fd, ps, ⟨fun vs H Q E h => h.1, fun A outer s H args us vs Q E hr e0 hb r hsp => by
    obtain ⟨hl, ν, p0, Φ, G, ω, ds, d, ω', hν, W, r, e, kk⟩ := hsp
    cases e⟩, rfl, hm, kp, b⟩
end
section
variable {c : Ct} {e : Expr} {es : List Expr} {y : Exs} {x : Str} {p pos : Pos}
theorem s_callC {fn : Fn} {k n : Nat} (C : Cl c.P c.w c.K c.mg c.base k x n fn) (hk : k ≤ c.k) (hν : NuOk c.ν) (hg : glB c.sc x = true) (ha : SndA c (e :: es) y) (hdb : (x == ("__debug__" : Str)) = false := by decide)
    (he : ∀ env, starEach (e :: es) env = (false, eval e env) :: starEach es env := by intro _; rfl) (hpl : ∀ env, (backTo pos (starEach es env)).any (·.1) = false := by intro _; rfl) : Snd c (.Call (.Name x p) (e :: es) [] pos) (xCall n fn y) := by
  obtain ⟨f, fd, ps, F, e1, hm, kp, b⟩ := C.ex
  subst e1
  exact s_call F hk hν hg hm kp b ha hdb he hpl
/-! ### a call that leaves the spring alone -/
theorem Wd.hide {p0 : Addr} {Φ : Fr} {G H : Hp} {ω : Om} (W : Wd p0 Φ G H ω) : ∃ Ξ : Fr, Wd p0 (U Φ Ξ) G H none ∧ ∀ G' H', Wd p0 (U Φ Ξ) G' H' none → Wd p0 Φ G' H' ω := by
  cases ω with
  | none => exact ⟨fun _ _ => False, W.weak fun _ _ z => z.elim id False.elim, fun G' H' W' => W'.weak fun _ _ z => .inl z⟩
  | some z =>
    obtain ⟨q, e1, e2, ne, g1, g2, nf⟩ := W.st z rfl
    refine ⟨fun a u => (a = p0 ∧ u = .lst [.ref q, .int z.left, .int z.cnt, .int z.mix]) ∨ (a = q ∧ u = .lst (z.cells.map .int)), ⟨W.gh, fun a u h => ?_, fun _ h => by cases h⟩, fun G' H' W' => ⟨W'.gh, fun a u h => W'.fr a u (.inl h), fun z' hz => ?_⟩⟩
    · rcases h with h | ⟨rfl, rfl⟩ | ⟨rfl, rfl⟩
      · exact W.fr a u h
      · exact ⟨e1, g1⟩
      · exact ⟨e2, g2⟩
    · cases hz
      obtain ⟨h1, h2⟩ := W'.fr p0 _ (.inr (.inl ⟨rfl, rfl⟩))
      obtain ⟨h3, h4⟩ := W'.fr q _ (.inr (.inr ⟨rfl, rfl⟩))
      exact ⟨q, h1, h3, ne, h2, h4, nf⟩
def quietF (f : Fn) : Fn := fun ds ω => match f ds none with
  | some (d, none) => some (d, ω)
  | _ => none
theorem Cl.quiet {P : Program} {w : World} {K : PySem.W.Frag} {mg : Str → Option Value} {base : Heap} {k n : Nat} {x : Str} {fn : Fn} (C : Cl P w K mg base k x n fn) : Cl P w K mg base k x n (quietF fn) := by
  obtain ⟨f, fd, ps, F, e1, hm, kp, b⟩ := C.ex
  refine ⟨f, fd, ps, F.imp fun vs H Q E h => ?_, e1, hm, kp, b⟩
  obtain ⟨hl, ν, p0, Φ, G, ω, ds, d, ω', hν, W, r, e, kk⟩ := h
  unfold quietF at e
  split at e
  · rename_i d1 e2
    cases e
    obtain ⟨Ξ, W1, back⟩ := W.hide
    exact ⟨hl, ν, p0, _, G, none, ds, _, none, hν, W1, r, e2, fun v H' G' l W' r' => kk v H' G' l (back _ _ W') r'⟩
  · cases e
end
end Q

set_option Elab.async false
set_option linter.all false
set_option maxRecDepth 100000
set_option maxHeartbeats 1000000
/-! QM: small things still wanted; the built-ins by their names. -/
namespace Q
open PySem PySem.Spec PyProof.Rows L2

def bTuple : List D → Option D
  | [.lst xs] => some (.tup xs)
  | [.tup xs] => some (.tup xs)
  | _ => none
def xNeg (x : Ex) : Ex := fun ρ ω => match x ρ ω with
  | some (.int i, ω1) => some (.int (-i), ω1)
  | _ => none
section
variable {c : Ct} {e : Expr} {es : List Expr} {x : Ex} {y : Exs} {p pos : Pos}
theorem b_tuple : Call1 c (.type "tuple") bTuple := fun X F => ⟨_, call_tuple_of, fun Φ vs H G ω ds d Q W r e k => by
  unfold bTuple at e
  split at e
  · obtain ⟨v, rfl, rv⟩ := reps1 r
    cases e
    cases rv with
    | lst e1 s1 => exact ⟨_, _, rfl, .inl ⟨.inl (.inl (W.lst e1)), fun l hl => k _ _ _ (W.newG hl) (W.newT hl) (.tup upd_same (s1.up (W.newG hl)))⟩⟩
  · obtain ⟨v, rfl, rv⟩ := reps1 r
    cases e
    cases rv with
    | tup e1 s1 => exact ⟨_, _, rfl, .inr ⟨.inl (.inl (W.tup e1)), k _ H G (Le.refl G) W (.tup e1 s1)⟩⟩
  · cases e⟩
theorem s_neg (h : Snd c e x) : Snd c (.UnaryOp .USub e pos) (xNeg x) := fun X F ρ ω d ω' q => by
  unfold xNeg at q
  split at q
  · rename_i i ω1 q1
    cases q
    refine pe_mono (pe_un un_neg (h X F _ _ _ _ q1)) fun σ H Q q => ?_
    obtain ⟨Φ, G, W, E, k⟩ := q
    refine ⟨Φ, G, W, E, fun v H1 G1 l1 W1 r1 => ?_⟩
    cases r1
    exact ⟨_, rfl, k _ H1 G1 l1 W1 (.int _)⟩
  · cases q
theorem bt_len : bootBuiltins ("len" : Str) = some (.builtin "len") := by decide +kernel
theorem bt_all : bootBuiltins ("all" : Str) = some (.builtin "all") := by decide +kernel
theorem bt_any : bootBuiltins ("any" : Str) = some (.builtin "any") := by decide +kernel
theorem bt_min : bootBuiltins ("min" : Str) = some (.builtin "min") := by decide +kernel
theorem bt_max : bootBuiltins ("max" : Str) = some (.builtin "max") := by decide +kernel
theorem bt_sum : bootBuiltins ("sum" : Str) = some (.builtin "sum") := by decide +kernel
theorem bt_sorted : bootBuiltins ("sorted" : Str) = some (.builtin "sorted") := by decide +kernel
theorem bt_list : bootBuiltins ("list" : Str) = some (.type "list") := by decide +kernel
theorem bt_tuple : bootBuiltins ("tuple" : Str) = some (.type "tuple") := by decide +kernel
/-- a name that is a cell: the comprehension's value is stored by the plain road -/
theorem sw_off {sc : Scope} {env : PySem.Env} {elt : Expr} {gs : List Comprehension} {sc2 : Scope} {l : Nat} {v : Str} {py : Pos} (he : env.scope = sc) (hy : (sc.names.lookup v == some .local) = false) : swapsWith (.ListComp elt gs sc2 pos) (some (.Name v py)) l env = pure false := by
  subst he
  have h2 : (env.kindOf v == some .local) = false := hy
  show (pure (env.blockKind == .function && env.kindOf v == some .local && _ && _) : Sem Bool) = pure false
  rw [h2, Bool.and_false, Bool.false_and, Bool.false_and]
theorem st_setC {i : Nat} {v : Str} {pos' : Pos} {xe : Ex} (hN : c.N[i]? = some v) (hl : locB c.sc v = true) (hf : fnB c v = true) (he : Snd c e xe) (hs : ∀ env : PySem.Env, env.scope = c.sc → swapsWith e (some (.Name v pos')) pos.line env = pure false) : SndS c (.Assign [.Name v pos'] e pos) (sSet i xe) := fun X F =>
  ps_mono (ps_set (i := i) (by rw [F.N]; exact F.nd) (by rw [F.N]; exact hN) (by rw [F.sc]; exact locB_ok hl) (he.e F) (hs _ F.sc) (fnB_ok F hf)) fun D σ H q => sSet_read q
theorem st_ownC {i : Nat} {v : Str} {pos' : Pos} {ye : Exs} (hN : c.N[i]? = some v) (hl : locB c.sc v = true) (hf : fnB c v = true) (he : SndL c e ye) (hs : ∀ env : PySem.Env, env.scope = c.sc → swapsWith e (some (.Name v pos')) pos.line env = pure false) : SndS c (.Assign [.Name v pos'] e pos) (sOwn i ye) := fun X F =>
  ps_mono (ps_set (i := i) (by rw [F.N]; exact F.nd) (by rw [F.N]; exact hN) (by rw [F.sc]; exact locB_ok hl) (rdl_e he F) (hs _ F.sc) (fnB_ok F hf)) fun D σ H q => sOwn_read q
theorem t_lit {j : Bool} {u : Nat} : SndT c (.Constant (.bool j) u pos) (xLit (.bl j)) := t_val s_bl
end
/-- the module has none of the built-ins' names -/
structure Mg (mg : Str → Option Value) : Prop where
  len : mg "len" = none
  all : mg "all" = none
  any : mg "any" = none
  min : mg "min" = none
  sum : mg "sum" = none
  sorted : mg "sorted" = none
  list : mg "list" = none
  tuple : mg "tuple" = none
  dict : mg "dict" = none
  str : mg "str" = none
  int : mg "int" = none
  bool : mg "bool" = none
  isinstance : mg "isinstance" = none
  range : mg "range" = none
  enumerate : mg "enumerate" = none
  zip : mg "zip" = none
end Q

set_option Elab.async false
set_option linter.all false
set_option maxRecDepth 100000
set_option maxHeartbeats 1000000
/-! QO: more of numbers; the spring of draws. -/
namespace Q
open PySem PySem.Spec PyProof.Rows L2

/-! ### numbers -/
def fMul : D → D → Option D
  | .int i, .int j => match decide ((-(2 ^ 64) < i ∧ i < 2 ^ 64) ∨ (-(2 ^ 64) < j ∧ j < 2 ^ 64)) with
    | true => some (.int (i * j))
    | false => none
  | _, _ => none
def fMod : D → D → Option D
  | .int i, .int j => match decide (0 < j) with
    | true => some (.int (i % j))
    | false => none
  | _, _ => none
def fDiv : D → D → Option D
  | .int i, .int j => match decide (0 < j ∧ j < 2 ^ 64) with
    | true => some (.int (i / j))
    | false => none
  | _, _ => none
def fPow : D → D → Option D
  | .int i, .int j => match decide (0 ≤ j ∧ j ≤ 1000000 ∧ i.natAbs < 2 ^ 64) with
    | true => some (.int (i ^ j.toNat))
    | false => none
  | _, _ => none
def bInt : List D → Option D
  | [.int i] => some (.int i)
  | _ => none
section
variable {c : Ct}
theorem o_mul : Op2 c (binaryOp .Mult) fMul := fun X F => ⟨_, op_mul, fun Φ v1 v2 H G ω a b d Q W r1 r2 e k => by
  unfold fMul at e
  split at e
  · split at e
    · rename_i hc
      cases e; cases r1; cases r2
      exact ⟨_, _, rfl, rfl, by have h := of_decide_eq_true hc; exact h, k _ H G (Le.refl G) W (.int _)⟩
    · cases e
  · cases e⟩
theorem o_mod : Op2 c (binaryOp .Mod) fMod := fun X F => ⟨_, op_mod, fun Φ v1 v2 H G ω a b d Q W r1 r2 e k => by
  unfold fMod at e
  split at e
  · split at e
    · rename_i hc
      cases e; cases r1; cases r2
      exact ⟨_, _, rfl, rfl, of_decide_eq_true hc, k _ H G (Le.refl G) W (.int _)⟩
    · cases e
  · cases e⟩
theorem o_div : Op2 c (binaryOp .FloorDiv) fDiv := fun X F => ⟨_, op_fdivW, fun Φ v1 v2 H G ω a b d Q W r1 r2 e k => by
  unfold fDiv at e
  split at e
  · rename_i i j
    split at e
    · rename_i hc
      cases e; cases r1; cases r2
      obtain ⟨h1, h2⟩ := of_decide_eq_true hc
      have h3 : j.natAbs < 2 ^ 64 := by omega
      exact ⟨_, _, rfl, rfl, wide_div h1 h3 (by decide) (by decide), k _ H G (Le.refl G) W (.int _)⟩
    · cases e
  · cases e⟩
theorem o_pow : Op2 c (binaryOp .Pow) fPow := fun X F => ⟨_, op_pow, fun Φ v1 v2 H G ω a b d Q W r1 r2 e k => by
  unfold fPow at e
  split at e
  · split at e
    · rename_i hc
      cases e; cases r1; cases r2
      exact ⟨_, _, rfl, rfl, by have h := of_decide_eq_true hc; exact h, k _ H G (Le.refl G) W (.int _)⟩
    · cases e
  · cases e⟩
theorem b_int : Call1 c (.type "int") bInt := fun X F => ⟨_, call_int1, fun Φ vs H G ω ds d Q W r e k => by
  unfold bInt at e
  split at e
  · obtain ⟨v, rfl, rv⟩ := reps1 r
    cases e
    cases rv
    exact .inl ⟨_, rfl, k _ H G (Le.refl G) W (.int _)⟩
  · cases e⟩
theorem s_atm {n : Nat} {x : Str} {u : Nat} {pos : Pos} (h : c.ν[n]? = some x) : Snd c (.Constant (.str x) u pos) (xLit (.atm n)) := fun X F ρ ω d ω' q => by
  cases q
  exact pe_mono pe_str fun σ H Q ⟨Φ, G, W, E, k⟩ => k _ H G (Le.refl G) W (.atm h)
theorem bt_int : bootBuiltins ("int" : Str) = some (.type "int") := by decide +kernel
end

/-! ### the spring -/
section
variable {p0 : Addr} {Φ : Fr} {G H : Hp} {z : Spr}
/-- its numbers are written anew -/
theorem Wd.sset (W : Wd p0 Φ G H (some z)) {q : Addr} (e : H p0 = some (.lst [.ref q, .int z.left, .int z.cnt, .int z.mix])) (l c m : Int) : Wd p0 Φ G (upd H p0 (.lst [.ref q, .int l, .int c, .int m])) (some ⟨z.cells, l, c, m⟩) := by
  obtain ⟨q', e1, e2, ne, g1, g2, nf⟩ := W.st z rfl
  rw [e] at e1; cases e1
  refine ⟨fun a u h => ?_, fun a u h => ?_, fun z' hz => ?_⟩
  · have n1 : a ≠ p0 := fun w => by subst w; rw [g1] at h; cases h
    exact (upd_ne n1).trans (W.gh a u h)
  · have n1 : a ≠ p0 := fun w => by subst w; exact (nf u).1 h
    obtain ⟨h1, h2⟩ := W.fr a u h
    exact ⟨(upd_ne n1).trans h1, h2⟩
  · cases hz
    exact ⟨q, upd_same, (upd_ne ne).trans e2, ne, g1, g2, nf⟩
/-- a cell is taken -/
theorem Wd.spop (W : Wd p0 Φ G H (some z)) {q : Addr} (e : H p0 = some (.lst [.ref q, .int z.left, .int z.cnt, .int z.mix])) (cs : List Int) : Wd p0 Φ G (upd H q (.lst (cs.map .int))) (some ⟨cs, z.left, z.cnt, z.mix⟩) := by
  obtain ⟨q', e1, e2, ne, g1, g2, nf⟩ := W.st z rfl
  rw [e] at e1; cases e1
  refine ⟨fun a u h => ?_, fun a u h => ?_, fun z' hz => ?_⟩
  · have n1 : a ≠ q := fun w => by subst w; rw [g2] at h; cases h
    exact (upd_ne n1).trans (W.gh a u h)
  · have n1 : a ≠ q := fun w => by subst w; exact (nf u).2 h
    obtain ⟨h1, h2⟩ := W.fr a u h
    exact ⟨(upd_ne n1).trans h1, h2⟩
  · cases hz
    exact ⟨q, (upd_ne (Ne.symm ne)).trans e, upd_same, ne, g1, g2, nf⟩
end
def xSt (j : Int) (x : Ex) : Ex := fun ρ ω => match x ρ ω with
  | some (.strm, some z) => match j with
    | 1 => some (.int z.left, some z)
    | 2 => some (.int z.cnt, some z)
    | 3 => some (.int z.mix, some z)
    | _ => none
  | _ => none
def hasC : List Int → Bool
  | [] => false
  | _ => true
def xStNe (x : Ex) : Ex := fun ρ ω => match x ρ ω with
  | some (.strm, some z) => some (.bl (hasC z.cells), some z)
  | _ => none
def xStPop (x : Ex) : Ex := fun ρ ω => match x ρ ω with
  | some (.strm, some z) => match z.cells with
    | d :: r => some (.int d, some ⟨r, z.left, z.cnt, z.mix⟩)
    | [] => none
  | _ => none
/-- stream[j] = v -/
def sSt (j : Int) (xs xv : Ex) : Sx := fun ρ ω => match xv ρ ω with
  | some (.int i, ω1) => match xs ρ ω1 with
    | some (.strm, some z) => match j with
      | 1 => some (.nx ρ (some ⟨z.cells, i, z.cnt, z.mix⟩))
      | 2 => some (.nx ρ (some ⟨z.cells, z.left, i, z.mix⟩))
      | 3 => some (.nx ρ (some ⟨z.cells, z.left, z.cnt, i⟩))
      | _ => none
    | _ => none
  | _ => none
section
variable {c : Ct} {e e2 : Expr} {x x2 : Ex} {p p1 p2 p3 pos apos cpos : Pos} {u u2 : Nat}
theorem s_st {j : Int} (h : Snd c e x) (hs : PlainIx (.Constant (.int j) u p1) := by intro _ _; rfl) : Snd c (.Subscript e (.Constant (.int j) u p1) pos) (xSt j x) := fun X F ρ ω d ω' q => by
  unfold xSt at q
  split at q
  · rename_i z q1
    have fin : ∀ i : Int, (∀ q : Addr, atI [V.ref q, .int z.left, .int z.cnt, .int z.mix] j = some (.int i)) → d = .int i → some z = ω' → PE X (.Subscript e (.Constant (.int j) u p1) pos) (rd c.ν c.p0 ρ ω d ω') := fun i hi e1 e2 => by
      subst e1 e2
      refine pe_mono (pe_ix ix_list (h X F _ _ _ _ q1) pe_int hs) fun σ H Q q => ?_
      obtain ⟨Φ, G, W, E, k⟩ := q
      refine ⟨Φ, G, W, E, fun v1 H1 G1 l1 W1 r1 => ?_⟩
      cases r1
      obtain ⟨q, f1, _⟩ := W1.st z rfl
      exact ⟨_, _, _, _, rfl, rfl, .inl (.inl f1), hi q, k _ H1 G1 l1 W1 (.int _)⟩
    split at q
    · cases q; exact fin _ (fun q => rfl) rfl rfl
    · cases q; exact fin _ (fun q => rfl) rfl rfl
    · cases q; exact fin _ (fun q => rfl) rfl rfl
    · cases q
  · cases q
theorem t_stne (h : Snd c e x) (hs : PlainIx (.Constant (.int 0) u p1) := by intro _ _; rfl) (hm : behindInMarks .NotEq (.List [] p2) = false := by first | exact nomark _ | rfl) : SndT c (.Compare (.Subscript e (.Constant (.int 0) u p1) pos) [.NotEq] [.List [] p2] p3) (xStNe x) := fun X F ρ ω b ω' q => by
  unfold xStNe at q
  split at q
  · rename_i z q1
    cases q
    refine pt_mono (pt_cmpR (op_neD F.room.units) (pe_ix ix_list (h X F _ _ _ _ q1) pe_int hs) (pe_lst pa_nil) hm) fun σ H Q q => ?_
    obtain ⟨Φ, G, W, E, k⟩ := q
    refine ⟨Φ, G, W, E, fun v1 H1 G1 l1 W1 r1 => ?_⟩
    cases r1
    obtain ⟨q, f1, f2, _⟩ := W1.st z rfl
    refine ⟨_, _, _, _, rfl, rfl, .inl (.inl f1), rfl, Nat.zero_le _, fun p hp => ?_⟩
    have dal : ∀ (K : PySem.W.Frag) (H : Hp) (cs : List Int), DpAll K H (cs.map V.int) (cs.map PyData.int) := fun K H cs => by
      induction cs with
      | nil => exact .nil
      | cons a r ih => exact .cons (.int a) ih
    have nq : q ≠ p := ne_of_none f2 hp
    refine ⟨.list (z.cells.map .int), .list [], .lst (.inl (.inl ((upd_ne nq).trans f2))) (dal _ _ _), .lst (.inl (.inl upd_same)) .nil, ?_, by rfl, _, rfl, ?_⟩
    · have cl : ∀ cs : List Int, PyData.canLayAll0 (cs.map .int) = true := fun cs => by
        induction cs with
        | nil => rfl
        | cons a r ih => unfold List.map PyData.canLayAll0; rw [ih]; rfl
      have dp : (PyData.list (z.cells.map .int)).depth ≤ 64 := by
        have : ∀ cs : List Int, PyData.depthAll (cs.map .int) ≤ 1 := fun cs => by
          induction cs with
          | nil => decide
          | cons a r ih => unfold List.map PyData.depthAll PyData.depth; omega
        unfold PyData.depth
        have := this z.cells
        omega
      unfold SeqAt.shaped
      rw [decide_eq_true dp]
      unfold PyData.canLay0
      rw [cl]; rfl
    · have ev : (!PyData.eqv (.list (z.cells.map .int)) (.list [])) = hasC z.cells := by
        cases z.cells with
        | nil => rfl
        | cons a r => rfl
      rw [ev]
      exact k _ G1 l1 (W1.raw hp)
  · cases q
theorem s_stpop (h : Snd c e x) (hs : PlainIx (.Constant (.int 0) u p1) := by intro _ _; rfl) (hs2 : ∀ env, starEach [.Constant (.int 0) u2 p2] env = (false, eval (.Constant (.int 0) u2 p2) env) :: starEach [] env := by intro _; rfl)
    (hbm : ∀ {X : Cx} {ta : TE} {t : TA}, PE X (.Subscript e (.Constant (.int 0) u p1) pos) ta → PA X [.Constant (.int 0) u2 p2] t → PE X (.Call (.Attribute (.Subscript e (.Constant (.int 0) u p1) pos) "pop" apos) [.Constant (.int 0) u2 p2] [] cpos) (tBM X.K "list" rPopAt ta t) := by
      intro X ta t ho ha; exact pe_bm PySem.F.plainAttrs_list PySem.F.slot_list_pop PySem.F.type_list_pop mt_popAt ho ha) :
    Snd c (.Call (.Attribute (.Subscript e (.Constant (.int 0) u p1) pos) "pop" apos) [.Constant (.int 0) u2 p2] [] cpos) (xStPop x) := fun X F ρ ω d ω' q => by
  unfold xStPop at q
  split at q
  · rename_i z q1
    split at q
    · rename_i a r hz
      cases q
      refine pe_mono (hbm (pe_ix ix_list (h X F _ _ _ _ q1) pe_int hs) (pa_cons pe_int pa_nil (hs2 _))) fun σ H Q q => ?_
      obtain ⟨Φ, G, W, E, k⟩ := q
      refine ⟨Φ, G, W, E, fun v1 H1 G1 l1 W1 r1 => ?_⟩
      cases r1
      obtain ⟨q, f1, f2, _⟩ := W1.st z rfl
      refine ⟨_, _, _, _, rfl, rfl, .inl (.inl f1), rfl, .inl ⟨rfl, _, .inl (.inl f2)⟩, q, _, 0, 0, .int a, rfl, rfl, f2, by decide, by decide, ?_, ?_, ?_⟩
      · rw [hz]
        show seqIndex? 0 ((a :: r).map V.int).length = some 0
        unfold seqIndex?
        simp
      · rw [hz]; rfl
      · rw [hz]
        exact k _ _ G1 l1 (W1.spop f1 r) (.int a)
    · cases q
  · cases q
theorem st_st {j : Int} (h : Snd c e x) (hv : Snd c e2 x2) (hs : ∀ env, swapsWithSole [.Subscript e (.Constant (.int j) u p1) p] e2 pos.line env = pure false := by intro _; rfl)
    (hw : ∀ env, swappedStores [.Subscript e (.Constant (.int j) u p1) p] e2 env = pure none := by intro _; rfl) (h1 : ∀ env, (assignEach [.Subscript e (.Constant (.int j) u p1) p] env).map (·.2) = [assign (.Subscript e (.Constant (.int j) u p1) p) env] := by intro _; rfl)
    (hpg : ∀ {X : Cx} {to : TE} {t : TSet}, PE X e to → PSet X t → PG X (.Subscript e (.Constant (.int j) u p1) p) (gSub to (tC (.int j)) t) := by intro X to t ho ht; exact pg_sub ho pe_int ht) :
    SndS c (.Assign [.Subscript e (.Constant (.int j) u p1) p] e2 pos) (sSt j x x2) := fun X F =>
  ps_mono (ps_asg (hv.e F) (hpg (h.e F) set_list) (hs _) (hw _) (h1 _)) fun D σ H ⟨ρ, ω, o, Φ, G, e, ⟨Ψ, W, E, sep⟩, k⟩ => by
    unfold sSt at e
    split at e
    · rename_i i ω1 q1
      split at e
      · rename_i z q2
        refine ⟨ρ, ω, _, ω1, q1, U Φ Ψ, G, W, E.mono (Le.refl G) fun _ _ z => .inr z, fun v1 H1 G1 l1 W1 r1 => ?_⟩
        refine ⟨ρ, ω1, _, _, q2, U Φ Ψ, G1, W1, (E.up l1).mono (Le.refl _) fun _ _ z => .inr z, fun v2 H2 G2 l2 W2 r2 => ?_⟩
        cases r1
        cases r2
        obtain ⟨q, f1, _⟩ := W2.st z rfl
        split at e
        · cases e
          exact ⟨_, _, _, 1, rfl, rfl, f1, rfl, k _ _ G2 (l1.trans l2) ⟨Ψ, W2.sset f1 i z.cnt z.mix, E.up (l1.trans l2), sep⟩⟩
        · cases e
          exact ⟨_, _, _, 2, rfl, rfl, f1, rfl, k _ _ G2 (l1.trans l2) ⟨Ψ, W2.sset f1 z.left i z.mix, E.up (l1.trans l2), sep⟩⟩
        · cases e
          exact ⟨_, _, _, 3, rfl, rfl, f1, rfl, k _ _ G2 (l1.trans l2) ⟨Ψ, W2.sset f1 z.left z.cnt i, E.up (l1.trans l2), sep⟩⟩
        · cases e
      · cases e
    · cases e
end
end Q

set_option Elab.async false
set_option linter.all false
set_option maxRecDepth 100000
set_option maxHeartbeats 1000000
/-! QP: return [left.pop(e) for t in it], left a list of one's own. -/
namespace Q
open PySem PySem.Spec PyProof.Rows L2

theorem Reps.erase {ν : Nu} {p0 : Addr} {G : Hp} : ∀ {vs : List V} {ds : List D} (k : Nat), Reps ν p0 G vs ds → Reps ν p0 G (vs.eraseIdx k) (ds.eraseIdx k)
  | _, _, _, .nil => .nil
  | _, _, 0, .cons _ t => t
  | _, _, k + 1, .cons a t => .cons a (Reps.erase k t)
theorem EnvX.reown {ν : Nu} {p0 : Addr} {Ψ : Fr} {G : Hp} {σ : L2.St} {ρ : Env} {i : Nat} {xs ys : List D} {a : Addr} {ws : List V} (E : EnvX ν p0 Ψ G σ ρ) (hi : (ρ : List Slot)[i]? = some (.own xs)) (ha : (σ : List (Option V))[i]? = some (some (.ref a))) (r : Reps ν p0 G ws ys) :
    EnvX ν p0 (fun b u => (Ψ b u ∧ b ≠ a) ∨ (b = a ∧ u = .lst ws)) G σ (ρ.set i (.own ys)) := by
  refine ⟨by simpa using E.len, fun j s e => ?_, fun j k b xs' ys' q1 q2 q3 q4 => ?_⟩
  · by_cases hj : i = j
    · subst hj
      rw [List.getElem?_set_self (List.getElem?_eq_some_iff.mp hi).1] at e
      cases e
      exact ⟨a, ws, ha, .inr ⟨rfl, rfl⟩, r⟩
    · rw [List.getElem?_set_ne hj] at e
      have q := E.ok j s e
      cases s with
      | un => exact True.intro
      | val d => exact q
      | own zs =>
        obtain ⟨b, us, q1, q2, q3⟩ := q
        refine ⟨b, us, q1, .inl ⟨q2, fun z => ?_⟩, q3⟩
        subst z
        exact hj (E.inj i j b xs zs hi e ha q1)
  · have so : ∀ {j : Nat} {zs : List D}, (ρ.set i (.own ys))[j]? = some (.own zs) → ∃ zs', (ρ : List Slot)[j]? = some (.own zs') := fun {j zs} e => by
      by_cases hi' : i = j
      · subst hi'; exact ⟨xs, hi⟩
      · rw [List.getElem?_set_ne hi'] at e; exact ⟨zs, e⟩
    obtain ⟨z1, g1⟩ := so q1
    obtain ⟨z2, g2⟩ := so q2
    exact E.inj j k b z1 z2 g1 g2 q3 q4
theorem wipeE_out {ρ : Env} {i : Nat} : ∀ {vs : List Nat}, i ∉ vs → (wipeE ρ vs)[i]? = (ρ : List Slot)[i]?
  | [], _ => rfl
  | v :: vs, h => by
    unfold wipeE
    rw [List.getElem?_set_ne fun z => h (by rw [z]; exact List.mem_cons_self)]
    exact wipeE_out fun z => h (List.mem_cons_of_mem _ z)
def rdAX (ν : Nu) (p0 : Addr) (y : Exs) : TA := fun σ H Q => ∃ ρ ω ds ω', y ρ ω = some (ds, ω') ∧ rdA ν p0 ρ ω ds ω' σ H Q
theorem rda_e {c : Ct} {es : List Expr} {y : Exs} (h : SndA c es y) {X : Cx} (F : Fits c X) : PA X es (rdAX c.ν c.p0 y) := ⟨fun m pins s σ H Q I ⟨ρ, ω, d, ω', e, q⟩ => (h X F ρ ω d ω' e).run m pins s σ H Q I q⟩
def popsD (i : Nat) (t : Tg) (y : Exs) (ρ : Env) : List D → List D → Om → Option (List D × Om)
  | [], _, ω => some ([], ω)
  | k :: ks, cur, ω => match t k (ρ.set i (.own cur)) with
    | some ρ1 => match y ρ1 ω with
      | some ([.int (.ofNat j)], ω1) => match Nat.blt j lim with
        | true => match cur[j]? with
          | some d => match popsD i t y ρ ks (cur.eraseIdx j) ω1 with
            | some (ds, ω2) => some (d :: ds, ω2)
            | none => none
          | none => none
        | false => none
      | _ => none
    | none => none
def sPops (i : Nat) (vs : List Nat) (it : Exs) (t : Tg) (y : Exs) : Sx := fun ρ ω => match ρ[i]? with
  | some (.own xs) => match it ρ ω with
    | some (ks, ω1) => match Nat.ble ks.length lim with
      | true => match popsD i t y (wipeE ρ vs) ks xs ω1 with
        | some (ds, ω2) => some (.rt (.lst ds) ω2)
        | none => none
      | false => none
    | none => none
  | _ => none
theorem popsD_cons {i : Nat} {t : Tg} {y : Exs} {ρ : Env} {k : D} {ks cur ds : List D} {ω ω2 : Om} (h : popsD i t y ρ (k :: ks) cur ω = some (ds, ω2)) :
    ∃ ρ1 j ω1 d r, t k (ρ.set i (.own cur)) = some ρ1 ∧ y ρ1 ω = some ([.int (.ofNat j)], ω1) ∧ j < lim ∧ cur[j]? = some d ∧ popsD i t y ρ ks (cur.eraseIdx j) ω1 = some (r, ω2) ∧ ds = d :: r := by
  unfold popsD at h
  split at h
  · rename_i ρ1 e1
    split at h
    · rename_i j ω1 e2
      split at h
      · rename_i e3
        split at h
        · rename_i d e4
          split at h
          · rename_i r ω3 e5
            cases h
            rw [Nat.blt_dec] at e3
            exact ⟨ρ1, j, ω1, d, r, e1, e2, of_decide_eq_true e3, e4, e5, rfl⟩
          · cases h
        · cases h
      · cases h
    · cases h
  · cases h
theorem popsD_len {i : Nat} {t : Tg} {y : Exs} {ρ : Env} : ∀ {ks cur ds : List D} {ω ω2 : Om}, popsD i t y ρ ks cur ω = some (ds, ω2) → ds.length = ks.length
  | [], _, _, _, _, h => by cases h; rfl
  | k :: ks, _, _, _, _, h => by
    obtain ⟨_, _, _, _, r, _, _, _, _, e, rfl⟩ := popsD_cons h
    simp [popsD_len e]
section
variable {ν : Nu} {p0 : Addr}
theorem pops_read {K : PySem.W.Frag} {i : Nat} {vs sl : List Nat} {it : Exs} {t : Tg} {y : Exs} {D : Ends} {σ : L2.St} {H : Hp} (hsl : ∀ j ∈ sl, j ∈ vs) (hi : i ∉ vs) (q : sd ν p0 (sPops i vs it t y) D σ H) :
    tLc (rdIX ν p0 it) (rdG ν p0 t sl) (rdTX ν p0 cYes) (tBM K "list" rPopAt (tVar i) (rdAX ν p0 y)) vs σ H D.rt := by
  obtain ⟨ρ, ω, o, Φ, G, e, ⟨Ψ, W, E, sep⟩, k⟩ := q
  unfold sPops at e
  split at e
  · rename_i xs hx
    split at e
    · rename_i its ω1 e1
      split at e
      · rename_i hlim
        split at e
        · rename_i ds ω2 e2
          cases e
          have hlim := Nat.le_of_ble_eq_true hlim
          obtain ⟨a, vs0, q1, q2, q3⟩ := E.ok i _ hx
          refine ⟨ρ, ω, its, ω1, e1, U Φ Ψ, G, W, E.mono (Le.refl G) fun _ _ z => .inr z, fun J H1 G1 l1 W1 gv Dp hD => ?_⟩
          have nfD := W1.nofr hD
          have hDa : Dp ≠ a := fun z => by subst z; exact nfD _ (.inr q2)
          have W1' := W1.framed (o := .lst []) hD
          refine ⟨fun j m H => ∃ G2 ωi acc accD cv cur rest, Le G1 G2 ∧ Wd p0 (fun b u => (Φ b u ∨ (Ψ b u ∧ b ≠ a)) ∨ (b = Dp ∧ u = .lst acc) ∨ (b = a ∧ u = .lst cv)) G2 H ωi ∧ Reps ν p0 G2 acc accD ∧ Reps ν p0 G2 cv cur ∧ popsD i t y (wipeE ρ vs) (its.drop j) cur ωi = some (rest, ω2) ∧ accD ++ rest = ds ∧ j ≤ its.length ∧ m = its.length - j,
            ⟨its.length, G1, ω1, [], [], vs0, xs, ds, Le.refl _, W1'.weak fun b u z => ?_, .nil, q3.up l1, e2, rfl, Nat.zero_le _, rfl⟩, ?_⟩
          · rcases z with (z | z) | z | ⟨rfl, rfl⟩
            · exact .inl (.inl z)
            · exact .inl (.inr z.1)
            · exact .inr z
            · exact .inl (.inr q2)
          rintro j m H ⟨G2, ωi, acc, accD, cv, cur, rest, l2, W2, ra, rc, hc, hcat, hj, rfl⟩
          obtain ⟨g1, g2⟩ := gv G2 H ωi _ l2 W2
          rcases Nat.lt_or_ge j its.length with hlt | hge
          · right
            have hd : its.drop j = its[j] :: its.drop (j + 1) := List.drop_eq_getElem_cons hlt
            rw [hd] at hc
            obtain ⟨ρ1, n, ω3, d, r, f1, f2, f3, f4, f5, f6⟩ := popsD_cons hc
            subst f6
            obtain ⟨go, yld⟩ := g1 j its[j] (by simp [hlt])
            refine ⟨go, fun H => ∃ G2 ωi acc accD cv cur rest, Le G1 G2 ∧ Wd p0 (fun b u => (Φ b u ∨ (Ψ b u ∧ b ≠ a)) ∨ (b = Dp ∧ u = .lst acc) ∨ (b = a ∧ u = .lst cv)) G2 H ωi ∧ Reps ν p0 G2 acc accD ∧ Reps ν p0 G2 cv cur ∧ popsD i t y (wipeE ρ vs) (its.drop (j + 1)) cur ωi = some (rest, ω2) ∧ accD ++ rest = ds,
              fun H' ⟨G2, ωi, acc, accD, cv, cur, rest, a1, a2, a3, a4, a5, a6⟩ => ⟨its.length - (j + 1), by omega, G2, ωi, acc, accD, cv, cur, rest, a1, a2, a3, a4, a5, a6, hlt, rfl⟩, fun v H' hyv => ?_⟩
            obtain ⟨G3, l3, W3, rv⟩ := yld v H' hyv
            have hx2 : (wipeE ρ vs)[i]? = some (.own xs) := (wipeE_out hi).trans hx
            have q1' : (wipe σ vs)[i]? = some (some (.ref a)) := (wipe_out hi).trans q1
            have E3 : EnvX ν p0 (fun b u => (Φ b u ∨ (Ψ b u ∧ b ≠ a)) ∨ (b = Dp ∧ u = .lst acc) ∨ (b = a ∧ u = .lst cv)) G3 (wipe σ vs) ((wipeE ρ vs).set i (.own cur)) := (((E.wipe vs).up (l1.trans (l2.trans l3))).reown hx2 q1' (rc.up l3)).mono (Le.refl _) fun b u z => by
              rcases z with z | z
              · exact .inl (.inr z)
              · exact .inr (.inr z)
            have hil : i ∉ sl := fun z => hi (hsl i z)
            refine ⟨_, its[j], ρ1, _, G3, ωi, f1, W3, E3, rv, fun σ2 E2 hw hk _ => ⟨by rw [hw vs hsl, wipe_wipe], ρ1, ωi, true, ωi, rfl, _, G3, W3, E2, fun H4 G4 l4 W4 => iteT ?_⟩⟩
            have hs2 : (σ2 : List (Option V))[i]? = some (some (.ref a)) := (hk i hil).1.trans q1'
            refine ⟨_, hs2, .inl ⟨rfl, _, .inl (.inl (W4.fr a _ (.inr (.inr ⟨rfl, rfl⟩))).1)⟩, ρ1, ωi, _, ω3, f2, _, G4, W4, E2.up l4, fun us H5 G5 l5 W5 r5 => ?_⟩
            obtain ⟨u, rfl, ru⟩ := reps1 r5
            cases ru
            have l35 := l3.trans (l4.trans l5)
            obtain ⟨vd, ev, rd'⟩ := (rc.up l35).get f4
            have hlt2 : n < cv.length := (List.getElem?_eq_some_iff.mp ev).1
            have hHa := (W5.fr a _ (.inr (.inr ⟨rfl, rfl⟩))).1
            have hHd := (W5.fr Dp _ (.inr (.inl ⟨rfl, rfl⟩))).1
            have hn := lim_ok
            have hlm : lim = 1000000 := rfl
            refine ⟨a, cv, (n : Int), n, vd, rfl, rfl, hHa, by omega, by omega, ?_, ev, acc, (upd_ne hDa).trans hHd, ?_, ?_⟩
            · have h1 : ¬ ((n : Int) < 0) := by omega
              unfold seqIndex?
              simp [h1, hlt2]
            · have hl2 := popsD_len hc
              have hl3 : (accD ++ d :: r).length ≤ ds.length := by rw [hcat]; exact Nat.le_refl _
              have hl4 := popsD_len e2
              rw [List.length_append, List.length_cons] at hl3
              rw [ra.length]; omega
            · refine ⟨G5, ω3, acc ++ [vd], accD ++ [d], cv.eraseIdx n, cur.eraseIdx n, r, l2.trans l35, ?_, (ra.up l35).app (.one rd'), (rc.up l35).erase n, f5, by rw [List.append_assoc]; exact hcat⟩
              have nfa : ∀ u, ¬ (fun b u => (Φ b u ∨ (Ψ b u ∧ b ≠ a)) ∨ (b = Dp ∧ u = .lst acc)) a u := fun u z => by
                rcases z with (z | z) | ⟨z, _⟩
                · exact sep a u _ z q2
                · exact z.2 rfl
                · exact hDa z.symm
              have W6 : Wd p0 (FrD (fun b u => (Φ b u ∨ (Ψ b u ∧ b ≠ a)) ∨ (b = Dp ∧ u = .lst acc)) a (.lst cv)) G5 H5 ω3 := W5.weak fun b u z => by
                rcases z with (z | z) | z
                · exact .inl z
                · exact .inr (.inl z)
                · exact .inr (.inr z)
              have W7 := W6.put (o' := .lst (cv.eraseIdx n)) nfa
              have nfd : ∀ u, ¬ (fun b u => (Φ b u ∨ (Ψ b u ∧ b ≠ a)) ∨ (b = a ∧ u = .lst (cv.eraseIdx n))) Dp u := fun u z => by
                rcases z with (z | z) | ⟨z, _⟩
                · exact nfD u (.inl z)
                · exact nfD u (.inr z.1)
                · exact hDa z
              have W8 : Wd p0 (FrD (fun b u => (Φ b u ∨ (Ψ b u ∧ b ≠ a)) ∨ (b = a ∧ u = .lst (cv.eraseIdx n))) Dp (.lst acc)) G5 (upd H5 a (.lst (cv.eraseIdx n))) ω3 := W7.weak fun b u z => by
                rcases z with (z | z) | z
                · exact .inl (.inl z)
                · exact .inr z
                · exact .inl (.inr z)
              refine (W8.put (o' := .lst (acc ++ [vd])) nfd).weak fun b u z => ?_
              rcases z with z | z | z
              · exact .inl (.inl z)
              · exact .inr z
              · exact .inl (.inr z)
          · left
            have hj' : j = its.length := by omega
            subst hj'
            rw [List.drop_length] at hc
            cases hc
            rw [List.append_nil] at hcat
            subst hcat
            refine ⟨g2 _ (Nat.le_refl _), ?_⟩
            have W9 : Wd p0 (fun b u => Φ b u ∨ (b = Dp ∧ u = .lst acc)) G2 H ω2 := W2.weak fun b u z => by
              rcases z with z | z
              · exact .inl (.inl z)
              · exact .inr (.inl z)
            obtain ⟨h1, h2⟩ := W9.fr Dp _ (.inr ⟨rfl, rfl⟩)
            have l4 : Le G2 (upd G2 Dp (.lst acc)) := Le.upd h2
            exact k _ H _ (l1.trans (l2.trans l4)) (Wd.freeze (Ψ := fun b u => b = Dp ∧ u = .lst acc) W9 ⟨rfl, rfl⟩ (fun u z => nfD u (.inl z)) h1) (.lst upd_same (ra.up l4))
        · cases e
      · cases e
    · cases e
  · cases e
end
section
variable {c : Ct} {i : Nat} {v : Str} {p apos cpos pos rpos : Pos} {e tg iter : Expr} {scope : Scope} {own : List (Str × Nat)} {it : Exs} {t : Tg} {sl : List Nat} {y : Exs}
theorem st_pops (hN : c.N[i]? = some v) (hv : visB (c.blk scope).sc v = true) (hio : i ∉ own.map (·.2)) (ok : BlkOk c.N c.sc scope own) (hi : SndI c tg iter it) (hg : SndG (c.blk scope) tg t sl) (hsl : ∀ i ∈ sl, i ∈ own.map (·.2)) (ha : SndA (c.blk scope) [e] y)
    (hs : ∀ env v, foldedSetIterable iter env v = pure v := by intro _ _; rfl) (hd : (v == ("__debug__" : Str)) = false := by decide) (hcd : (v == ("__classdict__" : Str)) = false := by decide)
    (hbm : ∀ {X : Cx} {ta : TE} {t : TA}, PE X (.Name v p) ta → PA X [e] t → PE X (.Call (.Attribute (.Name v p) "pop" apos) [e] [] cpos) (tBM X.K "list" rPopAt ta t) := by
      intro X ta t ho ha; exact pe_bm PySem.F.plainAttrs_list PySem.F.slot_list_pop PySem.F.type_list_pop mt_popAt ho ha) :
    SndS c (.Return (some (.ListComp (.Call (.Attribute (.Name v p) "pop" apos) [e] [] cpos) [⟨tg, iter, [], 0⟩] scope pos)) rpos) (sPops i (own.map (·.2)) it t y) := fun X F =>
  ps_mono (ps_ret (pe_lc F.calm (by rw [F.N]; exact F.nd) (hi.e F) (by rw [F.N, F.sc]; exact ok) (fun s H C cl fp => hg _ (F.blk s H scope cl C fp)) (fun s H C cl fp => c_nil _ (F.blk s H scope cl C fp))
    (fun s H C cl fp => hbm (pe_var (i := i) (by rw [(F.blk s H scope cl C fp).N]; exact hN) (by rw [(F.blk s H scope cl C fp).sc]; exact visB_ok hv) hd hcd) (rda_e ha (F.blk s H scope cl C fp))) (hs _)))
    fun D σ H q => pops_read hsl hio q
end
end Q

/-! ### statements that leave the spring alone -/
namespace Q
open PySem PySem.Spec PyProof.Rows L2
theorem Wd.hide2 {p0 : Addr} {Φ : Fr} {G H : Hp} {ω : Om} (W : Wd p0 Φ G H ω) : ∃ Ξ : Fr, Wd p0 (U Φ Ξ) G H none ∧ Sep Φ Ξ ∧ ∀ (Φ' : Fr) G' H', Wd p0 (U Φ' Ξ) G' H' none → Sep Φ' Ξ → Wd p0 Φ' G' H' ω := by
  cases ω with
  | none => exact ⟨fun _ _ => False, W.weak fun _ _ z => z.elim id False.elim, fun _ _ _ _ z => z, fun Φ' G' H' W' _ => W'.weak fun _ _ z => .inl z⟩
  | some z =>
    obtain ⟨q, e1, e2, ne, g1, g2, nf⟩ := W.st z rfl
    refine ⟨fun a u => (a = p0 ∧ u = .lst [.ref q, .int z.left, .int z.cnt, .int z.mix]) ∨ (a = q ∧ u = .lst (z.cells.map .int)), ⟨W.gh, fun a u h => ?_, fun _ h => by cases h⟩, fun b u u' z1 z2 => ?_, fun Φ' G' H' W' sx => ⟨W'.gh, fun a u h => W'.fr a u (.inl h), fun z' hz => ?_⟩⟩
    · rcases h with h | ⟨rfl, rfl⟩ | ⟨rfl, rfl⟩
      · exact W.fr a u h
      · exact ⟨e1, g1⟩
      · exact ⟨e2, g2⟩
    · rcases z2 with ⟨rfl, _⟩ | ⟨rfl, _⟩
      · exact (nf u).1 z1
      · exact (nf u).2 z1
    · cases hz
      obtain ⟨h1, h2⟩ := W'.fr p0 _ (.inr (.inl ⟨rfl, rfl⟩))
      obtain ⟨h3, h4⟩ := W'.fr q _ (.inr (.inr ⟨rfl, rfl⟩))
      exact ⟨q, h1, h3, ne, h2, h4, fun u => ⟨fun y => sx _ u _ y (.inl ⟨rfl, rfl⟩), fun y => sx _ u _ y (.inr ⟨rfl, rfl⟩)⟩⟩
def sQuiet (x : Sx) : Sx := fun ρ ω => match x ρ none with
  | some (.nx ρ1 none) => some (.nx ρ1 ω)
  | some (.rt d none) => some (.rt d ω)
  | _ => none
theorem st_quiet {c : Ct} {st : Stmt} {x : Sx} (h : SndS c st x) : SndS c st (sQuiet x) := fun X F => ps_mono (h X F) fun D σ H ⟨ρ, ω, o, Φ, G, e, ⟨Ψ, W, E, sep⟩, k⟩ => by
  obtain ⟨Ξ, W1, sx, back⟩ := W.hide2
  have S1 : Sts c.ν c.p0 (U Φ Ξ) G ρ none σ H := ⟨Ψ, W1.weak fun b u z => by
      rcases z with (z | z) | z
      · exact .inl (.inl z)
      · exact .inr z
      · exact .inl (.inr z), E, fun b u u' z1 z2 => by
      rcases z1 with z1 | z1
      · exact sep b u u' z1 z2
      · exact sx b u' u (.inr z2) z1⟩
  unfold sQuiet at e
  split at e
  · rename_i ρ1 e1
    cases e
    refine ⟨ρ, none, _, U Φ Ξ, G, e1, S1, fun σ' H' G' l' ⟨Ψ', W', E', sep'⟩ => k σ' H' G' l' ⟨Ψ', back _ _ _ (W'.weak fun b u z => ?_) fun b u u' z1 z2 => ?_, E', fun b u u' z1 z2 => sep' b u u' (.inl z1) z2⟩⟩
    · rcases z with (z | z) | z
      · exact .inl (.inl z)
      · exact .inr z
      · exact .inl (.inr z)
    · rcases z1 with z1 | z1
      · exact sx b u u' (.inl z1) z2
      · exact sep' b u' u (.inr z2) z1
  · rename_i d e1
    cases e
    exact ⟨ρ, none, _, U Φ Ξ, G, e1, S1, fun v H' G' l' W' r' => k v H' G' l' (back _ _ _ W' fun b u u' z1 z2 => sx b u u' (.inl z1) z2) r'⟩
  · cases e
/-- a name that a hand bears -/
def fNm : Fn := fun ds ω => match ds with
  | [.atm _] => some (.bl true, ω)
  | _ => none
theorem Cl.name {P : Program} {w : World} {K : PySem.W.Frag} {mg : Str → Option Value} {base : Heap} {k : Nat} {x : Str} {fn : Fn} (h : ∀ y ∈ poolN, fn [.str y] none = some (.bl true, none)) (C : Cl P w K mg base k x 1 fn) : Cl P w K mg base k x 1 fNm := by
  obtain ⟨f, fd, ps, F, e1, hm, kp, b⟩ := C.quiet.ex
  refine ⟨f, fd, ps, F.imp fun vs H Q E h => ?_, e1, hm, kp, b⟩
  obtain ⟨hl, ν, p0, Φ, G, ω, ds, d, ω', hν, W, r, e, kk⟩ := h
  unfold fNm at e
  split at e
  · rename_i n
    cases e
    obtain ⟨v, rfl, rv⟩ := reps1 r
    cases rv with
    | @atm n y ey =>
      have hy := h y (hν.good y (List.mem_of_getElem? ey))
      refine ⟨hl, ν, p0, Φ, G, ω, [.str y], .bl true, ω, hν, W, .cons (.str y) .nil, ?_, kk⟩
      unfold quietF
      rw [hy]
  · cases e
end Q

set_option Elab.async false
set_option linter.all false
set_option maxRecDepth 100000
set_option maxHeartbeats 4000000
namespace Q
open PySem PySem.Spec PyProof.Rows L2
def topS (i : Nat) : Stmt := PySem.Challenge.pw_cutsheld_k44_main_all_waits_of_three_han.main.body.getD i (.Pass ⟨0, 0, 0, 0⟩)
section
variable {P : Program} {w : World} {K : PySem.W.Frag} {mg : Str → Option Value} {base : Heap}
abbrev s_is_list : Stmt := topS 7
abbrev n_is_list : List Str := ["thing"]
theorem sc_is_list : FnScope n_is_list ["thing"] (defScope s_is_list) := ⟨rfl, rfl, rfl, by decide +kernel, rfl, by decide +kernel, by decide +kernel⟩
def m_is_list : Sx := (sSeq (sRet (xIsiT [.list, .tuple] (xVar 0))) sNext)
def f_is_list : Fn := mkFn 1 1 m_is_list
theorem ok_is_list {k : Nat} (M : Mg mg) : ∀ ν p0, NuOk ν → SndB (cc P w K mg base ν p0 k n_is_list s_is_list) (defBody s_is_list) (m_is_list) := fun ν p0 hν =>
  (b_cons (st_ret (s_isiT [.list, .tuple] (.cons rfl (.cons rfl .nil)) (by intro T hT; simp only [List.mem_cons, List.not_mem_nil, or_false] at hT; rcases hT with rfl | rfl; exact ⟨rfl, M.list⟩; exact ⟨rfl, M.tuple⟩) (by decide) rfl M.isinstance (s_var (i := 0) rfl rfl)))
    b_nil)
abbrev s_is_integer : Stmt := topS 8
abbrev n_is_integer : List Str := ["thing"]
theorem sc_is_integer : FnScope n_is_integer ["thing"] (defScope s_is_integer) := ⟨rfl, rfl, rfl, by decide +kernel, rfl, by decide +kernel, by decide +kernel⟩
def m_is_integer : Sx := (sSeq (sRet (xAnd (xIsi .int (xVar 0)) (xNot (xIsi .bool (xVar 0))))) sNext)
def f_is_integer : Fn := mkFn 1 1 m_is_integer
theorem ok_is_integer {k : Nat} (M : Mg mg) : ∀ ν p0, NuOk ν → SndB (cc P w K mg base ν p0 k n_is_integer s_is_integer) (defBody s_is_integer) (m_is_integer) := fun ν p0 hν =>
  (b_cons (st_ret (s_and (s_isi .int rfl rfl M.int rfl M.isinstance (s_var (i := 0) rfl rfl)) (s_one (s_not (s_isi .bool rfl rfl M.bool rfl M.isinstance (s_var (i := 0) rfl rfl))))))
    b_nil)
abbrev s_is_number : Stmt := topS 9
abbrev n_is_number : List Str := ["thing"]
theorem sc_is_number : FnScope n_is_number ["thing"] (defScope s_is_number) := ⟨rfl, rfl, rfl, by decide +kernel, rfl, by decide +kernel, by decide +kernel⟩
def m_is_number : Sx := (sSeq (sRet (xAnd (xCall 1 f_is_integer (aCons (xVar 0) aNil)) (xBin fGe (xVar 0) (xLit (.int 0))))) sNext)
def f_is_number : Fn := mkFn 1 1 m_is_number
theorem ok_is_number {k : Nat} (M : Mg mg) (C_is_integer : Cl P w K mg base k "is_integer" 1 f_is_integer) : ∀ ν p0, NuOk ν → SndB (cc P w K mg base ν p0 k n_is_number s_is_number) (defBody s_is_number) (m_is_number) := fun ν p0 hν =>
  (b_cons (st_ret (s_and (s_callC C_is_integer (Nat.le_refl _) hν rfl (a_cons (s_var (i := 0) rfl rfl) a_nil)) (s_one (s_cmp o_ge (s_var (i := 0) rfl rfl) s_int))))
    b_nil)
abbrev s_is_name : Stmt := topS 10
abbrev n_is_name : List Str := ["thing", "letters", "sign"]
theorem sc_is_name : FnScope n_is_name ["thing"] (defScope s_is_name) := ⟨rfl, rfl, rfl, by decide +kernel, rfl, by decide +kernel, by decide +kernel⟩
def m_is_name : Sx := (sSeq (sIf (xOr (xNot (xIsi .str (xVar 0))) (xNot (xChain fLt fLt (xLit (.int 0)) (xB bLen (aCons (xVar 0) aNil)) (xLit (.int 13))))) (sSeq (sRet (xLit (.bl false))) sNext) sNext) (sSeq (sSet 1 (xLit (.str "abcdefghijklmnopqrstuvwxyz"))) (sSeq (sRet (xAnd (xBin fIn (xBin fIx (xVar 0) (xLit (.int 0))) (xVar 1)) (xB bAll (aCons (xL (yComp [2] (yIter (xVar 0)) (tName 2) cYes (xBin fIn (xVar 2) (xBin fAdd (xVar 1) (xLit (.str "0123456789")))))) aNil)))) sNext)))
def f_is_name : Fn := mkFn 1 3 m_is_name
theorem ok_is_name {k : Nat} (M : Mg mg) : ∀ ν p0, NuOk ν → SndB (cc P w K mg base ν p0 k n_is_name s_is_name) (defBody s_is_name) (m_is_name) := fun ν p0 hν =>
  (b_cons (st_if (t_w (w_or (t_not (t_val (s_isi .str rfl rfl M.str rfl M.isinstance (s_var (i := 0) rfl rfl)))) (w_or1 (t_not (t_chain (o_lt hν) (o_lt hν) s_int (s_blt b_len rfl M.len bt_len (a_cons (s_var (i := 0) rfl rfl) a_nil)) s_int))))) (b_cons (st_ret s_bl)
    b_nil) b_nil)
    (b_cons (st_set (i := 1) rfl rfl rfl s_str)
    (b_cons (st_ret (s_and (s_cmp (o_in hν) (s_sub hν (s_var (i := 0) rfl rfl) s_int) (s_var (i := 1) rfl rfl)) (s_one (s_blt b_all rfl M.all bt_all (a_cons (s_l (l_comp (own := [("sign", 2)]) (blkOk_by (by dsimp only [cc, Ct.blk]; decide +kernel)) (i_iter (s_var (i := 0) rfl rfl)) (g_name (i := 2) rfl rfl rfl) (by decide) c_nil (s_cmp (o_in hν) (s_var (i := 2) rfl rfl) (s_bin o_add (s_var (i := 1) rfl rfl) s_str)))) a_nil)))))
    b_nil)))
abbrev s_is_wait : Stmt := topS 12
abbrev n_is_wait : List Str := ["thing", "hand", "waits", "one"]
theorem sc_is_wait : FnScope n_is_wait ["thing", "hand", "waits"] (defScope s_is_wait) := ⟨rfl, rfl, rfl, by decide +kernel, rfl, by decide +kernel, by decide +kernel⟩
def m_is_wait : Sx := (sSeq (sIf (xBin fIsN (xVar 0) (xLit .non)) (sSeq (sRet (xLit (.bl true))) sNext) sNext) (sSeq (sIf (xOr (xNot (xCall 1 f_is_list (aCons (xVar 0) aNil))) (xOr (xBin fNe (xB bLen (aCons (xVar 0) aNil)) (xLit (.int 2))) (xOr (xNot (xCall 1 f_is_list (aCons (xBin fIx (xVar 0) (xLit (.int 1))) aNil))) (xNot (xCall 1 f_is_number (aCons (xBin fIx (xVar 0) (xLit (.int 0))) aNil)))))) (sSeq (sRet (xLit (.bl false))) sNext) sNext) (sSeq (sIf (xNot (xB bAll (aCons (xL (yComp [3] (yIter (xBin fIx (xVar 0) (xLit (.int 1)))) (tName 3) cYes (xAnd (xIsi .str (xVar 3)) (xAnd (xBin fIn (xVar 3) (xVar 2)) (xBin fNe (xVar 3) (xVar 1)))))) aNil))) (sSeq (sRet (xLit (.bl false))) sNext) sNext) (sSeq (sRet (xAnd (xBin fEq (xB bLen (aCons (xDComp [3] (yIter (xBin fIx (xVar 0) (xLit (.int 1)))) (tName 3) cYes (xVar 3) (xLit (.bl true))) aNil)) (xB bLen (aCons (xBin fIx (xVar 0) (xLit (.int 1))) aNil))) (xChain fLe fLe (xLit (.int 1)) (xBin fIx (xVar 0) (xLit (.int 0))) (xB bLen (aCons (xBin fIx (xVar 0) (xLit (.int 1))) aNil))))) sNext))))
def f_is_wait : Fn := mkFn 3 4 m_is_wait
theorem ok_is_wait {k : Nat} (M : Mg mg) (C_is_list : Cl P w K mg base k "is_list" 1 f_is_list) (C_is_number : Cl P w K mg base k "is_number" 1 f_is_number) : ∀ ν p0, NuOk ν → SndB (cc P w K mg base ν p0 k n_is_wait s_is_wait) (defBody s_is_wait) (m_is_wait) := fun ν p0 hν =>
  (b_cons (st_if (t_cmp o_isN (s_var (i := 0) rfl rfl) s_non) (b_cons (st_ret s_bl)
    b_nil) b_nil)
    (b_cons (st_if (t_w (w_or (t_not (t_val (s_callC C_is_list (Nat.le_refl _) hν rfl (a_cons (s_var (i := 0) rfl rfl) a_nil)))) (w_or (t_cmp (o_ne hν) (s_blt b_len rfl M.len bt_len (a_cons (s_var (i := 0) rfl rfl) a_nil)) s_int) (w_or (t_not (t_val (s_callC C_is_list (Nat.le_refl _) hν rfl (a_cons (s_sub hν (s_var (i := 0) rfl rfl) s_int) a_nil)))) (w_or1 (t_not (t_val (s_callC C_is_number (Nat.le_refl _) hν rfl (a_cons (s_sub hν (s_var (i := 0) rfl rfl) s_int) a_nil))))))))) (b_cons (st_ret s_bl)
    b_nil) b_nil)
    (b_cons (st_if (t_not (t_val (s_blt b_all rfl M.all bt_all (a_cons (s_l (l_comp (own := [("one", 3)]) (blkOk_by (by dsimp only [cc, Ct.blk]; decide +kernel)) (i_iter (s_sub hν (s_var (i := 0) rfl rfl) s_int)) (g_name (i := 3) rfl rfl rfl) (by decide) c_nil (s_and (s_isi .str rfl rfl M.str rfl M.isinstance (s_var (i := 3) rfl rfl)) (s_and (s_cmp (o_in hν) (s_var (i := 3) rfl rfl) (s_var (i := 2) rfl rfl)) (s_one (s_cmp (o_ne hν) (s_var (i := 3) rfl rfl) (s_var (i := 1) rfl rfl))))))) a_nil)))) (b_cons (st_ret s_bl)
    b_nil) b_nil)
    (b_cons (st_ret (s_and (s_cmp (o_eq hν) (s_blt b_len rfl M.len bt_len (a_cons (s_dcomp (own := [("one", 3)]) hν (blkOk_by (by dsimp only [cc, Ct.blk]; decide +kernel)) (i_iter (s_sub hν (s_var (i := 0) rfl rfl) s_int)) (g_name (i := 3) rfl rfl rfl) (by decide) c_nil (s_var (i := 3) rfl rfl) s_bl) a_nil)) (s_blt b_len rfl M.len bt_len (a_cons (s_sub hν (s_var (i := 0) rfl rfl) s_int) a_nil))) (s_one (s_chain o_le o_le s_int (s_sub hν (s_var (i := 0) rfl rfl) s_int) (s_blt b_len rfl M.len bt_len (a_cons (s_sub hν (s_var (i := 0) rfl rfl) s_int) a_nil))))))
    b_nil))))
abbrev s_checked_waits : Stmt := topS 13
abbrev n_checked_waits : List Str := ["waits", "hand"]
theorem sc_checked_waits : FnScope n_checked_waits ["waits"] (defScope s_checked_waits) := ⟨rfl, rfl, rfl, by decide +kernel, rfl, by decide +kernel, by decide +kernel⟩
def m_checked_waits : Sx := (sSeq (sIf (xOr (xNot (xIsi .dict (xVar 0))) (xOr (xBin fEq (xB bLen (aCons (xVar 0) aNil)) (xLit (.int 0))) (xNot (xB bAll (aCons (xL (yComp [1] (yIter (xVar 0)) (tName 1) cYes (xCall 1 fNm (aCons (xVar 1) aNil)))) aNil))))) (sSeq sNo sNext) sNext) (sSeq (sIf (xNot (xB bAll (aCons (xL (yComp [1] (yIter (xVar 0)) (tName 1) cYes (xCall 3 f_is_wait (aCons (xBin fIx (xVar 0) (xVar 1)) (aCons (xVar 1) (aCons (xVar 0) aNil)))))) aNil))) (sSeq sNo sNext) sNext) (sSeq (sRet (xDComp [1] (yIter (xL (yB bSorted (aCons (xVar 0) aNil)))) (tName 1) cYes (xVar 1) (xIf (xBin fIsN (xBin fIx (xVar 0) (xVar 1)) (xLit .non)) (xLit .non) (xTup (aCons (xBin fIx (xBin fIx (xVar 0) (xVar 1)) (xLit (.int 0))) (aCons (xL (yB bList (aCons (xBin fIx (xBin fIx (xVar 0) (xVar 1)) (xLit (.int 1))) aNil))) aNil)))))) sNext)))
def f_checked_waits : Fn := mkFn 1 2 m_checked_waits
theorem ok_checked_waits {k : Nat} (M : Mg mg) (C_is_name : Cl P w K mg base k "is_name" 1 fNm) (C_is_wait : Cl P w K mg base k "is_wait" 3 f_is_wait) : ∀ ν p0, NuOk ν → SndB (cc P w K mg base ν p0 k n_checked_waits s_checked_waits) (defBody s_checked_waits) (m_checked_waits) := fun ν p0 hν =>
  (b_cons (st_if (t_w (w_or (t_not (t_val (s_isi .dict rfl rfl M.dict rfl M.isinstance (s_var (i := 0) rfl rfl)))) (w_or (t_cmp (o_eq hν) (s_blt b_len rfl M.len bt_len (a_cons (s_var (i := 0) rfl rfl) a_nil)) s_int) (w_or1 (t_not (t_val (s_blt b_all rfl M.all bt_all (a_cons (s_l (l_comp (own := [("hand", 1)]) (blkOk_by (by dsimp only [cc, Ct.blk]; decide +kernel)) (i_iter (s_var (i := 0) rfl rfl)) (g_name (i := 1) rfl rfl rfl) (by decide) c_nil (s_callC C_is_name (Nat.le_refl _) hν rfl (a_cons (s_var (i := 1) rfl rfl) a_nil)))) a_nil)))))))) (b_cons st_no
    b_nil) b_nil)
    (b_cons (st_if (t_not (t_val (s_blt b_all rfl M.all bt_all (a_cons (s_l (l_comp (own := [("hand", 1)]) (blkOk_by (by dsimp only [cc, Ct.blk]; decide +kernel)) (i_iter (s_var (i := 0) rfl rfl)) (g_name (i := 1) rfl rfl rfl) (by decide) c_nil (s_callC C_is_wait (Nat.le_refl _) hν rfl (a_cons (s_sub hν (s_var (i := 0) rfl rfl) (s_var (i := 1) rfl rfl)) (a_cons (s_var (i := 1) rfl rfl) (a_cons (s_var (i := 0) rfl rfl) a_nil)))))) a_nil)))) (b_cons st_no
    b_nil) b_nil)
    (b_cons (st_ret (s_dcomp (own := [("hand", 1)]) hν (blkOk_by (by dsimp only [cc, Ct.blk]; decide +kernel)) (i_iter (s_l (l_blt (b_sorted hν) rfl M.sorted bt_sorted (a_cons (s_var (i := 0) rfl rfl) a_nil)))) (g_name (i := 1) rfl rfl rfl) (by decide) c_nil (s_var (i := 1) rfl rfl) (s_if (t_cmp o_isN (s_sub hν (s_var (i := 0) rfl rfl) (s_var (i := 1) rfl rfl)) s_non) s_non (s_tup (a_cons (s_sub hν (s_sub hν (s_var (i := 0) rfl rfl) (s_var (i := 1) rfl rfl)) s_int) (a_cons (s_l (l_bty b_list rfl M.list bt_list (a_cons (s_sub hν (s_sub hν (s_var (i := 0) rfl rfl) (s_var (i := 1) rfl rfl)) s_int) a_nil))) a_nil))))))
    b_nil)))
abbrev s_lets_go : Stmt := topS 14
abbrev n_lets_go : List Str := ["wait", "gone", "one"]
theorem sc_lets_go : FnScope n_lets_go ["wait", "gone"] (defScope s_lets_go) := ⟨rfl, rfl, rfl, by decide +kernel, rfl, by decide +kernel, by decide +kernel⟩
def m_lets_go : Sx := (sSeq (sRet (xOr (xBin fIsN (xVar 0) (xLit .non)) (xBin fGe (xB bLen (aCons (xL (yComp [2] (yIter (xBin fIx (xVar 0) (xLit (.int 1)))) (tName 2) (cOne (xBin fIn (xVar 2) (xVar 1))) (xVar 2))) aNil)) (xBin fIx (xVar 0) (xLit (.int 0)))))) sNext)
def f_lets_go : Fn := mkFn 2 3 m_lets_go
theorem ok_lets_go {k : Nat} (M : Mg mg) : ∀ ν p0, NuOk ν → SndB (cc P w K mg base ν p0 k n_lets_go s_lets_go) (defBody s_lets_go) (m_lets_go) := fun ν p0 hν =>
  (b_cons (st_ret (s_or (s_cmp o_isN (s_var (i := 0) rfl rfl) s_non) (s_one (s_cmp o_ge (s_blt b_len rfl M.len bt_len (a_cons (s_l (l_comp (own := [("one", 2)]) (blkOk_by (by dsimp only [cc, Ct.blk]; decide +kernel)) (i_iter (s_sub hν (s_var (i := 0) rfl rfl) s_int)) (g_name (i := 2) rfl rfl rfl) (by decide) (c_one (t_cmp (o_in hν) (s_var (i := 2) rfl rfl) (s_var (i := 1) rfl rfl))) (s_var (i := 2) rfl rfl))) a_nil)) (s_sub hν (s_var (i := 0) rfl rfl) s_int)))))
    b_nil)
abbrev s_rounds_in : Stmt := topS 15
abbrev n_rounds_in : List Str := ["known", "found", "gone", "fresh", "hand"]
theorem sc_rounds_in : FnScope n_rounds_in ["known"] (defScope s_rounds_in) := ⟨rfl, rfl, rfl, by decide +kernel, rfl, by decide +kernel, by decide +kernel⟩
def m_rounds_in : Sx := (sSeq (sTup [1, 2] (mOwn (yLst aNil) (mOwn (yLst aNil) mNil))) (sSeq (sSet 3 (xL (yComp [4] (yIter (xVar 0)) (tName 4) (cOne (xBin fIsN (xBin fIx (xVar 0) (xVar 4)) (xLit .non))) (xVar 4)))) (sSeq (sWhile 1000 (xBin fNe (xVar 3) (xL (yLst aNil))) (sSeq (sApp 1 (xVar 3)) (sSeq (sExt 2 (xVar 3)) (sSeq (sSet 3 (xL (yComp [4] (yIter (xVar 0)) (tName 4) (cOne (xAnd (xBor 2 (xBin fNin (xVar 4) (xVar 2))) (xBor 2 (xCall 2 f_lets_go (aCons (xBin fIx (xVar 0) (xVar 4)) (aCons (xVar 2) aNil)))))) (xVar 4)))) sNext)))) (sSeq (sFrz 1 (sRet (xVar 1))) sNext))))
def f_rounds_in : Fn := mkFn 1 5 m_rounds_in
theorem ok_rounds_in {k : Nat} (M : Mg mg) (C_lets_go : Cl P w K mg base k "lets_go" 2 f_lets_go) : ∀ ν p0, NuOk ν → SndB (cc P w K mg base ν p0 k n_rounds_in s_rounds_in) (defBody s_rounds_in) (m_rounds_in) := fun ν p0 hν =>
  (b_cons (st_tupc (is := [1, 2]) (.cons rfl rfl rfl (.cons rfl rfl rfl .nil)) (m_own (l_lst a_nil) (m_own (l_lst a_nil) m_nil)) (by decide) (hw := fun env he => by cases env; cases he; rfl))
    (b_cons (st_setLc (own := [("hand", 4)]) (i := 3) rfl rfl (fun _ he => sw_on he rfl rfl rfl rfl) (blkOk_by (by dsimp only [cc, Ct.blk]; decide +kernel)) (i_iter (s_var (i := 0) rfl rfl)) (g_name (i := 4) rfl rfl rfl) (by decide) (c_one (t_cmp o_isN (s_sub hν (s_var (i := 0) rfl rfl) (s_var (i := 4) rfl rfl)) s_non)) (s_var (i := 4) rfl rfl))
    (b_cons (st_while 1000 (t_cmp (o_ne hν) (s_var (i := 3) rfl rfl) (s_l (l_lst a_nil))) (b_cons (st_app (i := 1) rfl rfl (s_var (i := 3) rfl rfl))
    (b_cons (st_ext (i := 2) rfl rfl (s_var (i := 3) rfl rfl))
    (b_cons (st_setLc (own := [("hand", 4)]) (i := 3) rfl rfl (fun _ he => sw_on he rfl rfl rfl rfl) (blkOk_by (by dsimp only [cc, Ct.blk]; decide +kernel)) (i_iter (s_var (i := 0) rfl rfl)) (g_name (i := 4) rfl rfl rfl) (by decide) (c_one (t_w (w_and (t_bor 2 (t_cmp (o_nin hν) (s_var (i := 4) rfl rfl) (s_var (i := 2) rfl rfl))) (w_and1 (t_bor 2 (t_val (s_callC C_lets_go (Nat.le_refl _) hν rfl (a_cons (s_sub hν (s_var (i := 0) rfl rfl) (s_var (i := 4) rfl rfl)) (a_cons (s_var (i := 2) rfl rfl) a_nil))))))))) (s_var (i := 4) rfl rfl))
    b_nil))))
    (b_cons (st_frz 1 (st_ret (s_var (i := 1) rfl rfl)))
    b_nil))))
abbrev s_rounds : Stmt := topS 16
abbrev n_rounds : List Str := ["waits"]
theorem sc_rounds : FnScope n_rounds ["waits"] (defScope s_rounds) := ⟨rfl, rfl, rfl, by decide +kernel, rfl, by decide +kernel, by decide +kernel⟩
def m_rounds : Sx := (sSeq (sRet (xCall 1 f_rounds_in (aCons (xCall 1 f_checked_waits (aCons (xVar 0) aNil)) aNil))) sNext)
def f_rounds : Fn := mkFn 1 1 m_rounds
theorem ok_rounds {k : Nat} (M : Mg mg) (C_checked_waits : Cl P w K mg base k "checked_waits" 1 f_checked_waits) (C_rounds_in : Cl P w K mg base k "rounds_in" 1 f_rounds_in) : ∀ ν p0, NuOk ν → SndB (cc P w K mg base ν p0 k n_rounds s_rounds) (defBody s_rounds) (m_rounds) := fun ν p0 hν =>
  (b_cons (st_ret (s_callC C_rounds_in (Nat.le_refl _) hν rfl (a_cons (s_callC C_checked_waits (Nat.le_refl _) hν rfl (a_cons (s_var (i := 0) rfl rfl) a_nil)) a_nil)))
    b_nil)
abbrev s_gone_in : Stmt := topS 17
abbrev n_gone_in : List Str := ["known", "row", "hand"]
theorem sc_gone_in : FnScope n_gone_in ["known"] (defScope s_gone_in) := ⟨rfl, rfl, rfl, by decide +kernel, rfl, by decide +kernel, by decide +kernel⟩
def m_gone_in : Sx := (sSeq (sRet (xL (yComp2 [1, 2] [2] (yIter (xCall 1 f_rounds_in (aCons (xVar 0) aNil))) (tName 1) cYes (yIter (xVar 1)) (tName 2) cYes (xVar 2)))) sNext)
def f_gone_in : Fn := mkFn 1 3 m_gone_in
theorem ok_gone_in {k : Nat} (M : Mg mg) (C_rounds_in : Cl P w K mg base k "rounds_in" 1 f_rounds_in) : ∀ ν p0, NuOk ν → SndB (cc P w K mg base ν p0 k n_gone_in s_gone_in) (defBody s_gone_in) (m_gone_in) := fun ν p0 hν =>
  (b_cons (st_ret (s_l (l_comp2 (own := [("row", 1), ("hand", 2)]) (vs1 := [2]) (blkOk_by (by dsimp only [cc, Ct.blk]; decide +kernel)) (by decide) (i_iter (s_callC C_rounds_in (Nat.le_refl _) hν rfl (a_cons (s_var (i := 0) rfl rfl) a_nil))) (g_name (i := 1) rfl rfl rfl) (by decide) c_nil (i_iter (s_var (i := 1) rfl rfl)) (g_name (i := 2) rfl rfl rfl) (by decide) c_nil (s_var (i := 2) rfl rfl))))
    b_nil)
abbrev s_going_on : Stmt := topS 18
abbrev n_going_on : List Str := ["waits"]
theorem sc_going_on : FnScope n_going_on ["waits"] (defScope s_going_on) := ⟨rfl, rfl, rfl, by decide +kernel, rfl, by decide +kernel, by decide +kernel⟩
def m_going_on : Sx := (sSeq (sRet (xL (yB bSorted (aCons (xCall 1 f_gone_in (aCons (xCall 1 f_checked_waits (aCons (xVar 0) aNil)) aNil)) aNil)))) sNext)
def f_going_on : Fn := mkFn 1 1 m_going_on
theorem ok_going_on {k : Nat} (M : Mg mg) (C_checked_waits : Cl P w K mg base k "checked_waits" 1 f_checked_waits) (C_gone_in : Cl P w K mg base k "gone_in" 1 f_gone_in) : ∀ ν p0, NuOk ν → SndB (cc P w K mg base ν p0 k n_going_on s_going_on) (defBody s_going_on) (m_going_on) := fun ν p0 hν =>
  (b_cons (st_ret (s_l (l_blt (b_sorted hν) rfl M.sorted bt_sorted (a_cons (s_callC C_gone_in (Nat.le_refl _) hν rfl (a_cons (s_callC C_checked_waits (Nat.le_refl _) hν rfl (a_cons (s_var (i := 0) rfl rfl) a_nil)) a_nil)) a_nil))))
    b_nil)
abbrev s_stuck_in : Stmt := topS 19
abbrev n_stuck_in : List Str := ["known", "gone", "hand"]
theorem sc_stuck_in : FnScope n_stuck_in ["known"] (defScope s_stuck_in) := ⟨rfl, rfl, rfl, by decide +kernel, rfl, by decide +kernel, by decide +kernel⟩
def m_stuck_in : Sx := (sSeq (sSet 1 (xCall 1 f_gone_in (aCons (xVar 0) aNil))) (sSeq (sRet (xL (yComp [2] (yIter (xVar 0)) (tName 2) (cOne (xBin fNin (xVar 2) (xVar 1))) (xVar 2)))) sNext))
def f_stuck_in : Fn := mkFn 1 3 m_stuck_in
theorem ok_stuck_in {k : Nat} (M : Mg mg) (C_gone_in : Cl P w K mg base k "gone_in" 1 f_gone_in) : ∀ ν p0, NuOk ν → SndB (cc P w K mg base ν p0 k n_stuck_in s_stuck_in) (defBody s_stuck_in) (m_stuck_in) := fun ν p0 hν =>
  (b_cons (st_set (i := 1) rfl rfl rfl (s_callC C_gone_in (Nat.le_refl _) hν rfl (a_cons (s_var (i := 0) rfl rfl) a_nil)))
    (b_cons (st_ret (s_l (l_comp (own := [("hand", 2)]) (blkOk_by (by dsimp only [cc, Ct.blk]; decide +kernel)) (i_iter (s_var (i := 0) rfl rfl)) (g_name (i := 2) rfl rfl rfl) (by decide) (c_one (t_cmp (o_nin hν) (s_var (i := 2) rfl rfl) (s_var (i := 1) rfl rfl))) (s_var (i := 2) rfl rfl))))
    b_nil))
abbrev s_stuck : Stmt := topS 20
abbrev n_stuck : List Str := ["waits"]
theorem sc_stuck : FnScope n_stuck ["waits"] (defScope s_stuck) := ⟨rfl, rfl, rfl, by decide +kernel, rfl, by decide +kernel, by decide +kernel⟩
def m_stuck : Sx := (sSeq (sRet (xCall 1 f_stuck_in (aCons (xCall 1 f_checked_waits (aCons (xVar 0) aNil)) aNil))) sNext)
def f_stuck : Fn := mkFn 1 1 m_stuck
theorem ok_stuck {k : Nat} (M : Mg mg) (C_checked_waits : Cl P w K mg base k "checked_waits" 1 f_checked_waits) (C_stuck_in : Cl P w K mg base k "stuck_in" 1 f_stuck_in) : ∀ ν p0, NuOk ν → SndB (cc P w K mg base ν p0 k n_stuck s_stuck) (defBody s_stuck) (m_stuck) := fun ν p0 hν =>
  (b_cons (st_ret (s_callC C_stuck_in (Nat.le_refl _) hν rfl (a_cons (s_callC C_checked_waits (Nat.le_refl _) hν rfl (a_cons (s_var (i := 0) rfl rfl) a_nil)) a_nil)))
    b_nil)
abbrev s_waits_and_hand : Stmt := topS 21
abbrev n_waits_and_hand : List Str := ["waits", "hand", "known"]
theorem sc_waits_and_hand : FnScope n_waits_and_hand ["waits", "hand"] (defScope s_waits_and_hand) := ⟨rfl, rfl, rfl, by decide +kernel, rfl, by decide +kernel, by decide +kernel⟩
def m_waits_and_hand : Sx := (sSeq (sSet 2 (xCall 1 f_checked_waits (aCons (xVar 0) aNil))) (sSeq (sIf (xOr (xNot (xIsi .str (xVar 1))) (xBin fNin (xVar 1) (xVar 2))) (sSeq sNo sNext) sNext) (sSeq (sRet (xVar 2)) sNext)))
def f_waits_and_hand : Fn := mkFn 2 3 m_waits_and_hand
theorem ok_waits_and_hand {k : Nat} (M : Mg mg) (C_checked_waits : Cl P w K mg base k "checked_waits" 1 f_checked_waits) : ∀ ν p0, NuOk ν → SndB (cc P w K mg base ν p0 k n_waits_and_hand s_waits_and_hand) (defBody s_waits_and_hand) (m_waits_and_hand) := fun ν p0 hν =>
  (b_cons (st_set (i := 2) rfl rfl rfl (s_callC C_checked_waits (Nat.le_refl _) hν rfl (a_cons (s_var (i := 0) rfl rfl) a_nil)))
    (b_cons (st_if (t_w (w_or (t_not (t_val (s_isi .str rfl rfl M.str rfl M.isinstance (s_var (i := 1) rfl rfl)))) (w_or1 (t_cmp (o_nin hν) (s_var (i := 1) rfl rfl) (s_var (i := 2) rfl rfl))))) (b_cons st_no
    b_nil) b_nil)
    (b_cons (st_ret (s_var (i := 2) rfl rfl))
    b_nil)))
abbrev s_order_to : Stmt := topS 22
abbrev n_order_to : List Str := ["known", "hand", "row"]
theorem sc_order_to : FnScope n_order_to ["known", "hand"] (defScope s_order_to) := ⟨rfl, rfl, rfl, by decide +kernel, rfl, by decide +kernel, by decide +kernel⟩
def m_order_to : Sx := (sSeq (sSet 2 (xCall 1 f_gone_in (aCons (xVar 0) aNil))) (sSeq (sRet (xL (yCut (xVar 2) pNo (pSome (xBin fAdd (xBin fIndex (xVar 2) (xVar 1)) (xLit (.int 1))))))) sNext))
def f_order_to : Fn := mkFn 2 3 m_order_to
theorem ok_order_to {k : Nat} (M : Mg mg) (C_gone_in : Cl P w K mg base k "gone_in" 1 f_gone_in) : ∀ ν p0, NuOk ν → SndB (cc P w K mg base ν p0 k n_order_to s_order_to) (defBody s_order_to) (m_order_to) := fun ν p0 hν =>
  (b_cons (st_set (i := 2) rfl rfl rfl (s_callC C_gone_in (Nat.le_refl _) hν rfl (a_cons (s_var (i := 0) rfl rfl) a_nil)))
    (b_cons (st_ret (s_l (l_cut (s_var (i := 2) rfl rfl) p_no (p_some (s_bin o_add (s_index hν (s_var (i := 2) rfl rfl) (s_var (i := 1) rfl rfl)) s_int)))))
    b_nil))
abbrev s_order_or_knot : Stmt := topS 23
abbrev n_order_or_knot : List Str := ["waits", "hand", "known", "row"]
theorem sc_order_or_knot : FnScope n_order_or_knot ["waits", "hand"] (defScope s_order_or_knot) := ⟨rfl, rfl, rfl, by decide +kernel, rfl, by decide +kernel, by decide +kernel⟩
def m_order_or_knot : Sx := (sSeq (sSet 2 (xCall 2 f_waits_and_hand (aCons (xVar 0) (aCons (xVar 1) aNil)))) (sSeq (sSet 3 (xCall 1 f_stuck_in (aCons (xVar 2) aNil))) (sSeq (sRet (xIf (xBin fIn (xVar 1) (xVar 3)) (xTup (aCons (xLit (.str "knot")) (aCons (xVar 3) aNil))) (xTup (aCons (xLit (.str "order")) (aCons (xCall 2 f_order_to (aCons (xVar 2) (aCons (xVar 1) aNil))) aNil))))) sNext)))
def f_order_or_knot : Fn := mkFn 2 4 m_order_or_knot
theorem ok_order_or_knot {k : Nat} (M : Mg mg) (C_stuck_in : Cl P w K mg base k "stuck_in" 1 f_stuck_in) (C_waits_and_hand : Cl P w K mg base k "waits_and_hand" 2 f_waits_and_hand) (C_order_to : Cl P w K mg base k "order_to" 2 f_order_to) : ∀ ν p0, NuOk ν → SndB (cc P w K mg base ν p0 k n_order_or_knot s_order_or_knot) (defBody s_order_or_knot) (m_order_or_knot) := fun ν p0 hν =>
  (b_cons (st_set (i := 2) rfl rfl rfl (s_callC C_waits_and_hand (Nat.le_refl _) hν rfl (a_cons (s_var (i := 0) rfl rfl) (a_cons (s_var (i := 1) rfl rfl) a_nil))))
    (b_cons (st_set (i := 3) rfl rfl rfl (s_callC C_stuck_in (Nat.le_refl _) hν rfl (a_cons (s_var (i := 2) rfl rfl) a_nil)))
    (b_cons (st_ret (s_if (t_cmp (o_in hν) (s_var (i := 1) rfl rfl) (s_var (i := 3) rfl rfl)) (s_tup (a_cons s_str (a_cons (s_var (i := 3) rfl rfl) a_nil))) (s_tup (a_cons s_str (a_cons (s_callC C_order_to (Nat.le_refl _) hν rfl (a_cons (s_var (i := 2) rfl rfl) (a_cons (s_var (i := 1) rfl rfl) a_nil))) a_nil)))))
    b_nil)))
abbrev s_are_hands : Stmt := topS 24
abbrev n_are_hands : List Str := ["known", "thing", "one"]
theorem sc_are_hands : FnScope n_are_hands ["known", "thing"] (defScope s_are_hands) := ⟨rfl, rfl, rfl, by decide +kernel, rfl, by decide +kernel, by decide +kernel⟩
def m_are_hands : Sx := (sSeq (sIf (xOr (xNot (xCall 1 f_is_list (aCons (xVar 1) aNil))) (xOr (xBin fEq (xB bLen (aCons (xVar 1) aNil)) (xLit (.int 0))) (xNot (xB bAll (aCons (xL (yComp [2] (yIter (xVar 1)) (tName 2) cYes (xAnd (xIsi .str (xVar 2)) (xBin fIn (xVar 2) (xVar 0))))) aNil))))) (sSeq (sRet (xLit (.bl false))) sNext) sNext) (sSeq (sRet (xBin fEq (xB bLen (aCons (xDComp [2] (yIter (xVar 1)) (tName 2) cYes (xVar 2) (xLit (.bl true))) aNil)) (xB bLen (aCons (xVar 1) aNil)))) sNext))
def f_are_hands : Fn := mkFn 2 3 m_are_hands
theorem ok_are_hands {k : Nat} (M : Mg mg) (C_is_list : Cl P w K mg base k "is_list" 1 f_is_list) : ∀ ν p0, NuOk ν → SndB (cc P w K mg base ν p0 k n_are_hands s_are_hands) (defBody s_are_hands) (m_are_hands) := fun ν p0 hν =>
  (b_cons (st_if (t_w (w_or (t_not (t_val (s_callC C_is_list (Nat.le_refl _) hν rfl (a_cons (s_var (i := 1) rfl rfl) a_nil)))) (w_or (t_cmp (o_eq hν) (s_blt b_len rfl M.len bt_len (a_cons (s_var (i := 1) rfl rfl) a_nil)) s_int) (w_or1 (t_not (t_val (s_blt b_all rfl M.all bt_all (a_cons (s_l (l_comp (own := [("one", 2)]) (blkOk_by (by dsimp only [cc, Ct.blk]; decide +kernel)) (i_iter (s_var (i := 1) rfl rfl)) (g_name (i := 2) rfl rfl rfl) (by decide) c_nil (s_and (s_isi .str rfl rfl M.str rfl M.isinstance (s_var (i := 2) rfl rfl)) (s_one (s_cmp (o_in hν) (s_var (i := 2) rfl rfl) (s_var (i := 0) rfl rfl)))))) a_nil)))))))) (b_cons (st_ret s_bl)
    b_nil) b_nil)
    (b_cons (st_ret (s_cmp (o_eq hν) (s_blt b_len rfl M.len bt_len (a_cons (s_dcomp (own := [("one", 2)]) hν (blkOk_by (by dsimp only [cc, Ct.blk]; decide +kernel)) (i_iter (s_var (i := 1) rfl rfl)) (g_name (i := 2) rfl rfl rfl) (by decide) c_nil (s_var (i := 2) rfl rfl) s_bl) a_nil)) (s_blt b_len rfl M.len bt_len (a_cons (s_var (i := 1) rfl rfl) a_nil))))
    b_nil))
abbrev s_is_order_to : Stmt := topS 25
abbrev n_is_order_to : List Str := ["known", "hand", "thing", "at", "one"]
theorem sc_is_order_to : FnScope n_is_order_to ["known", "hand", "thing"] (defScope s_is_order_to) := ⟨rfl, rfl, rfl, by decide +kernel, rfl, by decide +kernel, by decide +kernel⟩
def m_is_order_to : Sx := (sSeq (sIf (xOr (xNot (xCall 2 f_are_hands (aCons (xVar 0) (aCons (xVar 2) aNil)))) (xBin fNe (xBin fIx (xVar 2) (xNeg (xLit (.int 1)))) (xVar 1))) (sSeq (sRet (xLit (.bl false))) sNext) sNext) (sSeq (sRet (xB bAll (aCons (xL (yComp [3, 4] (yEnum (aCons (xVar 2) aNil)) (tTup [3, 4]) cYes (xCall 2 f_lets_go (aCons (xBin fIx (xVar 0) (xVar 4)) (aCons (xL (yCut (xVar 2) pNo (pSome (xVar 3)))) aNil))))) aNil))) sNext))
def f_is_order_to : Fn := mkFn 3 5 m_is_order_to
theorem ok_is_order_to {k : Nat} (M : Mg mg) (C_lets_go : Cl P w K mg base k "lets_go" 2 f_lets_go) (C_are_hands : Cl P w K mg base k "are_hands" 2 f_are_hands) : ∀ ν p0, NuOk ν → SndB (cc P w K mg base ν p0 k n_is_order_to s_is_order_to) (defBody s_is_order_to) (m_is_order_to) := fun ν p0 hν =>
  (b_cons (st_if (t_w (w_or (t_not (t_val (s_callC C_are_hands (Nat.le_refl _) hν rfl (a_cons (s_var (i := 0) rfl rfl) (a_cons (s_var (i := 2) rfl rfl) a_nil))))) (w_or1 (t_cmp (o_ne hν) (s_sub hν (s_var (i := 2) rfl rfl) (s_neg s_int)) (s_var (i := 1) rfl rfl))))) (b_cons (st_ret s_bl)
    b_nil) b_nil)
    (b_cons (st_ret (s_blt b_all rfl M.all bt_all (a_cons (s_l (l_comp (own := [("at", 3), ("one", 4)]) (blkOk_by (by dsimp only [cc, Ct.blk]; decide +kernel)) (i_enum rfl M.enumerate (a_cons (s_var (i := 2) rfl rfl) a_nil)) (g_tup (is := [3, 4]) (.cons rfl rfl rfl (.cons rfl rfl rfl .nil))) (by decide) c_nil (s_callC C_lets_go (Nat.le_refl _) hν rfl (a_cons (s_sub hν (s_var (i := 0) rfl rfl) (s_var (i := 4) rfl rfl)) (a_cons (s_l (l_cut (s_var (i := 2) rfl rfl) p_no (p_some (s_var (i := 3) rfl rfl)))) a_nil))))) a_nil)))
    b_nil))
abbrev s_is_knot : Stmt := topS 26
abbrev n_is_knot : List Str := ["known", "thing", "one", "far"]
theorem sc_is_knot : FnScope n_is_knot ["known", "thing"] (defScope s_is_knot) := ⟨rfl, rfl, rfl, by decide +kernel, rfl, by decide +kernel, by decide +kernel⟩
def m_is_knot : Sx := (sSeq (sIf (xOr (xNot (xCall 2 f_are_hands (aCons (xVar 0) (aCons (xVar 1) aNil)))) (xB bAny (aCons (xL (yComp [2] (yIter (xVar 1)) (tName 2) cYes (xBin fIsN (xBin fIx (xVar 0) (xVar 2)) (xLit .non)))) aNil))) (sSeq (sRet (xLit (.bl false))) sNext) sNext) (sSeq (sRet (xB bAll (aCons (xL (yComp [2] (yIter (xVar 1)) (tName 2) cYes (xBin fLt (xB bLen (aCons (xL (yComp [3] (yIter (xBin fIx (xBin fIx (xVar 0) (xVar 2)) (xLit (.int 1)))) (tName 3) (cOne (xBin fNin (xVar 3) (xVar 1))) (xVar 3))) aNil)) (xBin fIx (xBin fIx (xVar 0) (xVar 2)) (xLit (.int 0)))))) aNil))) sNext))
def f_is_knot : Fn := mkFn 2 4 m_is_knot
theorem ok_is_knot {k : Nat} (M : Mg mg) (C_are_hands : Cl P w K mg base k "are_hands" 2 f_are_hands) : ∀ ν p0, NuOk ν → SndB (cc P w K mg base ν p0 k n_is_knot s_is_knot) (defBody s_is_knot) (m_is_knot) := fun ν p0 hν =>
  (b_cons (st_if (t_w (w_or (t_not (t_val (s_callC C_are_hands (Nat.le_refl _) hν rfl (a_cons (s_var (i := 0) rfl rfl) (a_cons (s_var (i := 1) rfl rfl) a_nil))))) (w_or1 (t_val (s_blt b_any rfl M.any bt_any (a_cons (s_l (l_comp (own := [("one", 2)]) (blkOk_by (by dsimp only [cc, Ct.blk]; decide +kernel)) (i_iter (s_var (i := 1) rfl rfl)) (g_name (i := 2) rfl rfl rfl) (by decide) c_nil (s_cmp o_isN (s_sub hν (s_var (i := 0) rfl rfl) (s_var (i := 2) rfl rfl)) s_non))) a_nil)))))) (b_cons (st_ret s_bl)
    b_nil) b_nil)
    (b_cons (st_ret (s_blt b_all rfl M.all bt_all (a_cons (s_l (l_comp (own := [("one", 2)]) (blkOk_by (by dsimp only [cc, Ct.blk]; decide +kernel)) (i_iter (s_var (i := 1) rfl rfl)) (g_name (i := 2) rfl rfl rfl) (by decide) c_nil (s_cmp (o_lt hν) (s_blt b_len rfl M.len bt_len (a_cons (s_l (l_comp (own := [("far", 3)]) (blkOk_by (by dsimp only [cc, Ct.blk]; decide +kernel)) (i_iter (s_sub hν (s_sub hν (s_var (i := 0) rfl rfl) (s_var (i := 2) rfl rfl)) s_int)) (g_name (i := 3) rfl rfl rfl) (by decide) (c_one (t_cmp (o_nin hν) (s_var (i := 3) rfl rfl) (s_var (i := 1) rfl rfl))) (s_var (i := 3) rfl rfl))) a_nil)) (s_sub hν (s_sub hν (s_var (i := 0) rfl rfl) (s_var (i := 2) rfl rfl)) s_int)))) a_nil)))
    b_nil))
abbrev s_is_order_or_knot : Stmt := topS 27
abbrev n_is_order_or_knot : List Str := ["waits", "hand", "thing", "known"]
theorem sc_is_order_or_knot : FnScope n_is_order_or_knot ["waits", "hand", "thing"] (defScope s_is_order_or_knot) := ⟨rfl, rfl, rfl, by decide +kernel, rfl, by decide +kernel, by decide +kernel⟩
def m_is_order_or_knot : Sx := (sSeq (sSet 3 (xCall 2 f_waits_and_hand (aCons (xVar 0) (aCons (xVar 1) aNil)))) (sSeq (sIf (xOr (xNot (xCall 1 f_is_list (aCons (xVar 2) aNil))) (xOr (xBin fNe (xB bLen (aCons (xVar 2) aNil)) (xLit (.int 2))) (xNot (xIsi .str (xBin fIx (xVar 2) (xLit (.int 0))))))) (sSeq (sRet (xLit (.bl false))) sNext) sNext) (sSeq (sIf (xBin fEq (xBin fIx (xVar 2) (xLit (.int 0))) (xLit (.str "order"))) (sSeq (sRet (xCall 3 f_is_order_to (aCons (xVar 3) (aCons (xVar 1) (aCons (xBin fIx (xVar 2) (xLit (.int 1))) aNil))))) sNext) sNext) (sSeq (sRet (xAnd (xBin fEq (xBin fIx (xVar 2) (xLit (.int 0))) (xLit (.str "knot"))) (xAnd (xCall 2 f_is_knot (aCons (xVar 3) (aCons (xBin fIx (xVar 2) (xLit (.int 1))) aNil))) (xBin fIn (xVar 1) (xBin fIx (xVar 2) (xLit (.int 1))))))) sNext))))
def f_is_order_or_knot : Fn := mkFn 3 4 m_is_order_or_knot
theorem ok_is_order_or_knot {k : Nat} (M : Mg mg) (C_is_list : Cl P w K mg base k "is_list" 1 f_is_list) (C_waits_and_hand : Cl P w K mg base k "waits_and_hand" 2 f_waits_and_hand) (C_is_order_to : Cl P w K mg base k "is_order_to" 3 f_is_order_to) (C_is_knot : Cl P w K mg base k "is_knot" 2 f_is_knot) : ∀ ν p0, NuOk ν → SndB (cc P w K mg base ν p0 k n_is_order_or_knot s_is_order_or_knot) (defBody s_is_order_or_knot) (m_is_order_or_knot) := fun ν p0 hν =>
  (b_cons (st_set (i := 3) rfl rfl rfl (s_callC C_waits_and_hand (Nat.le_refl _) hν rfl (a_cons (s_var (i := 0) rfl rfl) (a_cons (s_var (i := 1) rfl rfl) a_nil))))
    (b_cons (st_if (t_w (w_or (t_not (t_val (s_callC C_is_list (Nat.le_refl _) hν rfl (a_cons (s_var (i := 2) rfl rfl) a_nil)))) (w_or (t_cmp (o_ne hν) (s_blt b_len rfl M.len bt_len (a_cons (s_var (i := 2) rfl rfl) a_nil)) s_int) (w_or1 (t_not (t_val (s_isi .str rfl rfl M.str rfl M.isinstance (s_sub hν (s_var (i := 2) rfl rfl) s_int)))))))) (b_cons (st_ret s_bl)
    b_nil) b_nil)
    (b_cons (st_if (t_cmp (o_eq hν) (s_sub hν (s_var (i := 2) rfl rfl) s_int) s_str) (b_cons (st_ret (s_callC C_is_order_to (Nat.le_refl _) hν rfl (a_cons (s_var (i := 3) rfl rfl) (a_cons (s_var (i := 1) rfl rfl) (a_cons (s_sub hν (s_var (i := 2) rfl rfl) s_int) a_nil)))))
    b_nil) b_nil)
    (b_cons (st_ret (s_and (s_cmp (o_eq hν) (s_sub hν (s_var (i := 2) rfl rfl) s_int) s_str) (s_and (s_callC C_is_knot (Nat.le_refl _) hν rfl (a_cons (s_var (i := 3) rfl rfl) (a_cons (s_sub hν (s_var (i := 2) rfl rfl) s_int) a_nil))) (s_one (s_cmp (o_in hν) (s_var (i := 1) rfl rfl) (s_sub hν (s_var (i := 2) rfl rfl) s_int))))))
    b_nil))))
abbrev s_waits_for_all : Stmt := topS 28
abbrev n_waits_for_all : List Str := ["waits", "hand", "known", "odd", "one"]
theorem sc_waits_for_all : FnScope n_waits_for_all ["waits", "hand"] (defScope s_waits_for_all) := ⟨rfl, rfl, rfl, by decide +kernel, rfl, by decide +kernel, by decide +kernel⟩
def m_waits_for_all : Sx := (sSeq (sSet 2 (xCall 2 f_waits_and_hand (aCons (xVar 0) (aCons (xVar 1) aNil)))) (sSeq (sSet 3 (xL (yComp [4] (yIter (xVar 2)) (tName 4) (cOne (xAnd (xBin fNotN (xBin fIx (xVar 2) (xVar 4)) (xLit .non)) (xBin fLt (xBin fIx (xBin fIx (xVar 2) (xVar 4)) (xLit (.int 0))) (xB bLen (aCons (xBin fIx (xBin fIx (xVar 2) (xVar 4)) (xLit (.int 1))) aNil))))) (xVar 4)))) (sSeq (sIf (xBin fNe (xVar 3) (xL (yLst aNil))) (sSeq sNo sNext) sNext) (sSeq (sRet (xVar 2)) sNext))))
def f_waits_for_all : Fn := mkFn 2 5 m_waits_for_all
theorem ok_waits_for_all {k : Nat} (M : Mg mg) (C_waits_and_hand : Cl P w K mg base k "waits_and_hand" 2 f_waits_and_hand) : ∀ ν p0, NuOk ν → SndB (cc P w K mg base ν p0 k n_waits_for_all s_waits_for_all) (defBody s_waits_for_all) (m_waits_for_all) := fun ν p0 hν =>
  (b_cons (st_set (i := 2) rfl rfl rfl (s_callC C_waits_and_hand (Nat.le_refl _) hν rfl (a_cons (s_var (i := 0) rfl rfl) (a_cons (s_var (i := 1) rfl rfl) a_nil))))
    (b_cons (st_setLc (own := [("one", 4)]) (i := 3) rfl rfl (fun _ he => sw_on he rfl rfl rfl rfl) (blkOk_by (by dsimp only [cc, Ct.blk]; decide +kernel)) (i_iter (s_var (i := 2) rfl rfl)) (g_name (i := 4) rfl rfl rfl) (by decide) (c_one (t_w (w_and (t_cmp o_notN (s_sub hν (s_var (i := 2) rfl rfl) (s_var (i := 4) rfl rfl)) s_non) (w_and1 (t_cmp (o_lt hν) (s_sub hν (s_sub hν (s_var (i := 2) rfl rfl) (s_var (i := 4) rfl rfl)) s_int) (s_blt b_len rfl M.len bt_len (a_cons (s_sub hν (s_sub hν (s_var (i := 2) rfl rfl) (s_var (i := 4) rfl rfl)) s_int) a_nil))))))) (s_var (i := 4) rfl rfl))
    (b_cons (st_if (t_cmp (o_ne hν) (s_var (i := 3) rfl rfl) (s_l (l_lst a_nil))) (b_cons st_no
    b_nil) b_nil)
    (b_cons (st_ret (s_var (i := 2) rfl rfl))
    b_nil))))
abbrev s_ring_or_order : Stmt := topS 29
abbrev n_ring_or_order : List Str := ["waits", "hand", "known", "gone", "found", "later", "one"]
theorem sc_ring_or_order : FnScope n_ring_or_order ["waits", "hand"] (defScope s_ring_or_order) := ⟨rfl, rfl, rfl, by decide +kernel, rfl, by decide +kernel, by decide +kernel⟩
def m_ring_or_order : Sx := (sSeq (sSet 2 (xCall 2 f_waits_for_all (aCons (xVar 0) (aCons (xVar 1) aNil)))) (sSeq (sSet 3 (xCall 1 f_gone_in (aCons (xVar 2) aNil))) (sSeq (sIf (xBin fIn (xVar 1) (xVar 3)) (sSeq (sRet (xTup (aCons (xLit (.str "order")) (aCons (xCall 2 f_order_to (aCons (xVar 2) (aCons (xVar 1) aNil))) aNil)))) sNext) sNext) (sSeq (sOwn 4 (yLst (aCons (xVar 1) aNil))) (sSeq (sWhile 1000 (xLit (.bl true)) (sSeq (sSet 5 (xBin fIx (xL (yComp [6] (yIter (xBin fIx (xBin fIx (xVar 2) (xBor 4 (xBin fIx (xVar 4) (xNeg (xLit (.int 1)))))) (xLit (.int 1)))) (tName 6) (cOne (xBin fNin (xVar 6) (xVar 3))) (xVar 6))) (xLit (.int 0)))) (sSeq (sIf (xBor 4 (xBin fIn (xVar 5) (xVar 4))) (sSeq (sFrz 4 (sRet (xTup (aCons (xLit (.str "ring")) (aCons (xVar 4) aNil))))) sNext) sNext) (sSeq (sApp 4 (xVar 5)) sNext)))) sNext)))))
def f_ring_or_order : Fn := mkFn 2 7 m_ring_or_order
theorem ok_ring_or_order {k : Nat} (M : Mg mg) (C_gone_in : Cl P w K mg base k "gone_in" 1 f_gone_in) (C_order_to : Cl P w K mg base k "order_to" 2 f_order_to) (C_waits_for_all : Cl P w K mg base k "waits_for_all" 2 f_waits_for_all) : ∀ ν p0, NuOk ν → SndB (cc P w K mg base ν p0 k n_ring_or_order s_ring_or_order) (defBody s_ring_or_order) (m_ring_or_order) := fun ν p0 hν =>
  (b_cons (st_set (i := 2) rfl rfl rfl (s_callC C_waits_for_all (Nat.le_refl _) hν rfl (a_cons (s_var (i := 0) rfl rfl) (a_cons (s_var (i := 1) rfl rfl) a_nil))))
    (b_cons (st_set (i := 3) rfl rfl rfl (s_callC C_gone_in (Nat.le_refl _) hν rfl (a_cons (s_var (i := 2) rfl rfl) a_nil)))
    (b_cons (st_if (t_cmp (o_in hν) (s_var (i := 1) rfl rfl) (s_var (i := 3) rfl rfl)) (b_cons (st_ret (s_tup (a_cons s_str (a_cons (s_callC C_order_to (Nat.le_refl _) hν rfl (a_cons (s_var (i := 2) rfl rfl) (a_cons (s_var (i := 1) rfl rfl) a_nil))) a_nil))))
    b_nil) b_nil)
    (b_cons (st_own (i := 4) rfl rfl rfl (l_lst (a_cons (s_var (i := 1) rfl rfl) a_nil)))
    (b_cons (st_while 1000 t_lit (b_cons (st_set (i := 5) rfl rfl rfl (s_sub hν (s_l (l_comp (own := [("one", 6)]) (blkOk_by (by dsimp only [cc, Ct.blk]; decide +kernel)) (i_iter (s_sub hν (s_sub hν (s_var (i := 2) rfl rfl) (s_bor 4 (s_sub hν (s_var (i := 4) rfl rfl) (s_neg s_int)))) s_int)) (g_name (i := 6) rfl rfl rfl) (by decide) (c_one (t_cmp (o_nin hν) (s_var (i := 6) rfl rfl) (s_var (i := 3) rfl rfl))) (s_var (i := 6) rfl rfl))) s_int))
    (b_cons (st_if (t_bor 4 (t_cmp (o_in hν) (s_var (i := 5) rfl rfl) (s_var (i := 4) rfl rfl))) (b_cons (st_frz 4 (st_ret (s_tup (a_cons s_str (a_cons (s_var (i := 4) rfl rfl) a_nil)))))
    b_nil) b_nil)
    (b_cons (st_app (i := 4) rfl rfl (s_var (i := 5) rfl rfl))
    b_nil))))
    b_nil)))))
abbrev s_let_go : Stmt := topS 31
abbrev n_let_go : List Str := ["known", "lot", "hand"]
theorem sc_let_go : FnScope n_let_go ["known", "lot"] (defScope s_let_go) := ⟨rfl, rfl, rfl, by decide +kernel, rfl, by decide +kernel, by decide +kernel⟩
def m_let_go : Sx := (sSeq (sRet (xDComp [2] (yIter (xVar 0)) (tName 2) cYes (xVar 2) (xIf (xBin fIn (xVar 2) (xVar 1)) (xLit .non) (xBin fIx (xVar 0) (xVar 2))))) sNext)
def f_let_go : Fn := mkFn 2 3 m_let_go
theorem ok_let_go {k : Nat} (M : Mg mg) : ∀ ν p0, NuOk ν → SndB (cc P w K mg base ν p0 k n_let_go s_let_go) (defBody s_let_go) (m_let_go) := fun ν p0 hν =>
  (b_cons (st_ret (s_dcomp (own := [("hand", 2)]) hν (blkOk_by (by dsimp only [cc, Ct.blk]; decide +kernel)) (i_iter (s_var (i := 0) rfl rfl)) (g_name (i := 2) rfl rfl rfl) (by decide) c_nil (s_var (i := 2) rfl rfl) (s_if (t_cmp (o_in hν) (s_var (i := 2) rfl rfl) (s_var (i := 1) rfl rfl)) s_non (s_sub hν (s_var (i := 0) rfl rfl) (s_var (i := 2) rfl rfl)))))
    b_nil)
abbrev s_freed_by : Stmt := topS 32
abbrev n_freed_by : List Str := ["waits", "lot", "known", "index", "hand"]
theorem sc_freed_by : FnScope n_freed_by ["waits", "lot"] (defScope s_freed_by) := ⟨rfl, rfl, rfl, by decide +kernel, rfl, by decide +kernel, by decide +kernel⟩
def m_freed_by : Sx := (sSeq (sSet 2 (xCall 1 f_checked_waits (aCons (xVar 0) aNil))) (sSeq (sIf (xNot (xCall 1 f_is_list (aCons (xVar 1) aNil))) (sSeq sNo sNext) sNext) (sSeq (sFor (yEnum (aCons (xVar 1) aNil)) (tTup [3, 4]) (sSeq (sIf (xOr (xNot (xIsi .str (xVar 4))) (xOr (xBin fNin (xVar 4) (xVar 2)) (xBin fIn (xVar 4) (xL (yCut (xVar 1) pNo (pSome (xVar 3))))))) (sSeq sNo sNext) sNext) sNext)) (sSeq (sRet (xL (yB bSorted (aCons (xCall 1 f_gone_in (aCons (xCall 2 f_let_go (aCons (xVar 2) (aCons (xVar 1) aNil))) aNil)) aNil)))) sNext))))
def f_freed_by : Fn := mkFn 2 5 m_freed_by
theorem ok_freed_by {k : Nat} (M : Mg mg) (C_is_list : Cl P w K mg base k "is_list" 1 f_is_list) (C_checked_waits : Cl P w K mg base k "checked_waits" 1 f_checked_waits) (C_gone_in : Cl P w K mg base k "gone_in" 1 f_gone_in) (C_let_go : Cl P w K mg base k "let_go" 2 f_let_go) : ∀ ν p0, NuOk ν → SndB (cc P w K mg base ν p0 k n_freed_by s_freed_by) (defBody s_freed_by) (m_freed_by) := fun ν p0 hν =>
  (b_cons (st_set (i := 2) rfl rfl rfl (s_callC C_checked_waits (Nat.le_refl _) hν rfl (a_cons (s_var (i := 0) rfl rfl) a_nil)))
    (b_cons (st_if (t_not (t_val (s_callC C_is_list (Nat.le_refl _) hν rfl (a_cons (s_var (i := 1) rfl rfl) a_nil)))) (b_cons st_no
    b_nil) b_nil)
    (b_cons (st_for (i_enum rfl M.enumerate (a_cons (s_var (i := 1) rfl rfl) a_nil)) (g_tup (is := [3, 4]) (.cons rfl rfl rfl (.cons rfl rfl rfl .nil))) (b_cons (st_if (t_w (w_or (t_not (t_val (s_isi .str rfl rfl M.str rfl M.isinstance (s_var (i := 4) rfl rfl)))) (w_or (t_cmp (o_nin hν) (s_var (i := 4) rfl rfl) (s_var (i := 2) rfl rfl)) (w_or1 (t_cmp (o_in hν) (s_var (i := 4) rfl rfl) (s_l (l_cut (s_var (i := 1) rfl rfl) p_no (p_some (s_var (i := 3) rfl rfl))))))))) (b_cons st_no
    b_nil) b_nil)
    b_nil))
    (b_cons (st_ret (s_l (l_blt (b_sorted hν) rfl M.sorted bt_sorted (a_cons (s_callC C_gone_in (Nat.le_refl _) hν rfl (a_cons (s_callC C_let_go (Nat.le_refl _) hν rfl (a_cons (s_var (i := 2) rfl rfl) (a_cons (s_var (i := 1) rfl rfl) a_nil))) a_nil)) a_nil))))
    b_nil))))
abbrev s_least_lot : Stmt := topS 33
abbrev n_least_lot : List Str := ["known", "rows", "some", "row", "hand"]
theorem sc_least_lot : FnScope n_least_lot ["known"] (defScope s_least_lot) := ⟨rfl, rfl, rfl, by decide +kernel, rfl, by decide +kernel, by decide +kernel⟩
def m_least_lot : Sx := (sSeq (sTup [1, 2] (mVal (xL (yLst (aCons (xL (yLst aNil)) aNil))) (mVal (xCall 1 f_stuck_in (aCons (xVar 0) aNil)) mNil))) (sSeq (sWhile 1000 (xLit (.bl true)) (sSeq (sFor (yIter (xVar 1)) (tName 3) (sSeq (sIf (xBin fEq (xCall 1 f_stuck_in (aCons (xCall 2 f_let_go (aCons (xVar 0) (aCons (xVar 3) aNil))) aNil)) (xL (yLst aNil))) (sSeq (sRet (xVar 3)) sNext) sNext) sNext)) (sSeq (sSet 1 (xL (yComp2 [3, 4] [4] (yIter (xVar 1)) (tName 3) cYes (yIter (xVar 2)) (tName 4) (cOne (xOr (xBin fEq (xVar 3) (xL (yLst aNil))) (xBin fGt (xVar 4) (xBin fIx (xVar 3) (xNeg (xLit (.int 1))))))) (xBin fAdd (xVar 3) (xL (yLst (aCons (xVar 4) aNil))))))) sNext))) sNext))
def f_least_lot : Fn := mkFn 1 5 m_least_lot
theorem ok_least_lot {k : Nat} (M : Mg mg) (C_stuck_in : Cl P w K mg base k "stuck_in" 1 f_stuck_in) (C_let_go : Cl P w K mg base k "let_go" 2 f_let_go) : ∀ ν p0, NuOk ν → SndB (cc P w K mg base ν p0 k n_least_lot s_least_lot) (defBody s_least_lot) (m_least_lot) := fun ν p0 hν =>
  (b_cons (st_tupc (is := [1, 2]) (.cons rfl rfl rfl (.cons rfl rfl rfl .nil)) (m_val (s_l (l_lst (a_cons (s_l (l_lst a_nil)) a_nil))) (m_val (s_callC C_stuck_in (Nat.le_refl _) hν rfl (a_cons (s_var (i := 0) rfl rfl) a_nil)) m_nil)) (by decide) (hw := fun env he => by cases env; cases he; rfl))
    (b_cons (st_while 1000 t_lit (b_cons (st_for (i_iter (s_var (i := 1) rfl rfl)) (g_name (i := 3) rfl rfl rfl) (b_cons (st_if (t_cmp (o_eq hν) (s_callC C_stuck_in (Nat.le_refl _) hν rfl (a_cons (s_callC C_let_go (Nat.le_refl _) hν rfl (a_cons (s_var (i := 0) rfl rfl) (a_cons (s_var (i := 3) rfl rfl) a_nil))) a_nil)) (s_l (l_lst a_nil))) (b_cons (st_ret (s_var (i := 3) rfl rfl))
    b_nil) b_nil)
    b_nil))
    (b_cons (st_setLc2 (own := [("row", 3), ("hand", 4)]) (vs1 := [4]) (i := 1) rfl rfl (fun _ he => sw_on he rfl rfl rfl rfl) (blkOk_by (by dsimp only [cc, Ct.blk]; decide +kernel)) (by decide) (i_iter (s_var (i := 1) rfl rfl)) (g_name (i := 3) rfl rfl rfl) (by decide) c_nil (i_iter (s_var (i := 2) rfl rfl)) (g_name (i := 4) rfl rfl rfl) (by decide) (c_one (t_w (w_or (t_cmp (o_eq hν) (s_var (i := 3) rfl rfl) (s_l (l_lst a_nil))) (w_or1 (t_cmp (o_gt hν) (s_var (i := 4) rfl rfl) (s_sub hν (s_var (i := 3) rfl rfl) (s_neg s_int))))))) (s_bin o_add (s_var (i := 3) rfl rfl) (s_l (l_lst (a_cons (s_var (i := 4) rfl rfl) a_nil)))))
    b_nil)))
    b_nil))
abbrev s_fewest_to_free : Stmt := topS 34
abbrev n_fewest_to_free : List Str := ["waits"]
theorem sc_fewest_to_free : FnScope n_fewest_to_free ["waits"] (defScope s_fewest_to_free) := ⟨rfl, rfl, rfl, by decide +kernel, rfl, by decide +kernel, by decide +kernel⟩
def m_fewest_to_free : Sx := (sSeq (sRet (xB bLen (aCons (xCall 1 f_least_lot (aCons (xCall 1 f_checked_waits (aCons (xVar 0) aNil)) aNil)) aNil))) sNext)
def f_fewest_to_free : Fn := mkFn 1 1 m_fewest_to_free
theorem ok_fewest_to_free {k : Nat} (M : Mg mg) (C_checked_waits : Cl P w K mg base k "checked_waits" 1 f_checked_waits) (C_least_lot : Cl P w K mg base k "least_lot" 1 f_least_lot) : ∀ ν p0, NuOk ν → SndB (cc P w K mg base ν p0 k n_fewest_to_free s_fewest_to_free) (defBody s_fewest_to_free) (m_fewest_to_free) := fun ν p0 hν =>
  (b_cons (st_ret (s_blt b_len rfl M.len bt_len (a_cons (s_callC C_least_lot (Nat.le_refl _) hν rfl (a_cons (s_callC C_checked_waits (Nat.le_refl _) hν rfl (a_cons (s_var (i := 0) rfl rfl) a_nil)) a_nil)) a_nil)))
    b_nil)
abbrev s_lot_to_free : Stmt := topS 35
abbrev n_lot_to_free : List Str := ["waits"]
theorem sc_lot_to_free : FnScope n_lot_to_free ["waits"] (defScope s_lot_to_free) := ⟨rfl, rfl, rfl, by decide +kernel, rfl, by decide +kernel, by decide +kernel⟩
def m_lot_to_free : Sx := (sSeq (sRet (xCall 1 f_least_lot (aCons (xCall 1 f_checked_waits (aCons (xVar 0) aNil)) aNil))) sNext)
def f_lot_to_free : Fn := mkFn 1 1 m_lot_to_free
theorem ok_lot_to_free {k : Nat} (M : Mg mg) (C_checked_waits : Cl P w K mg base k "checked_waits" 1 f_checked_waits) (C_least_lot : Cl P w K mg base k "least_lot" 1 f_least_lot) : ∀ ν p0, NuOk ν → SndB (cc P w K mg base ν p0 k n_lot_to_free s_lot_to_free) (defBody s_lot_to_free) (m_lot_to_free) := fun ν p0 hν =>
  (b_cons (st_ret (s_callC C_least_lot (Nat.le_refl _) hν rfl (a_cons (s_callC C_checked_waits (Nat.le_refl _) hν rfl (a_cons (s_var (i := 0) rfl rfl) a_nil)) a_nil)))
    b_nil)
abbrev s_law_draw : Stmt := topS 38
abbrev n_law_draw : List Str := ["stream", "many", "cell", "digit", "mixed"]
theorem sc_law_draw : FnScope n_law_draw ["stream", "many"] (defScope s_law_draw) := ⟨rfl, rfl, rfl, by decide +kernel, rfl, by decide +kernel, by decide +kernel⟩
def wt_draw : Ex := (xAnd (xBin fEq (xSt 1 (xVar 0)) (xLit (.int 0))) (xStNe (xVar 0)))
def wb_draw : Sx := (sSeq (sSet 2 (xStPop (xVar 0))) (sSeq (sSt 3 (xVar 0) (xBin fMod (xB bInt (aCons (xBin fAdd (xBin fAdd (xBin fMul (xSt 3 (xVar 0)) (xLit (.int 70979))) (xVar 2)) (xLit (.int 41))) aNil)) (xLit (.int 2147483647)))) (sSeq (sSt 1 (xVar 0) (xIf (xBin fGe (xVar 2) (xBin fPow (xLit (.int 10)) (xLit (.int 18)))) (xVar 2) (xLit (.int 0)))) sNext)))
def m_law_draw : Sx := (sSeq (sSt 2 (xVar 0) (xBin fAdd (xSt 2 (xVar 0)) (xLit (.int 1)))) (sSeq (sWhile 1000 wt_draw wb_draw) (sSeq (sIf (xBin fGt (xSt 1 (xVar 0)) (xLit (.int 0))) (sSeq (sSet 3 (xBin fMod (xB bInt (aCons (xSt 1 (xVar 0)) aNil)) (xVar 1))) (sSeq (sSt 1 (xVar 0) (xBin fDiv (xSt 1 (xVar 0)) (xVar 1))) (sSeq (sRet (xVar 3)) sNext))) sNext) (sSeq (sSet 4 (xBin fMod (xB bInt (aCons (xBin fPow (xBin fAdd (xBin fAdd (xSt 3 (xVar 0)) (xBin fMul (xLit (.int 9067)) (xSt 2 (xVar 0)))) (xLit (.int 180001))) (xLit (.int 5))) aNil)) (xLit (.int 2147483629)))) (sSeq (sRet (xBin fMod (xBin fMod (xB bInt (aCons (xBin fPow (xBin fAdd (xBin fAdd (xBin fMul (xVar 4) (xLit (.int 62003))) (xBin fMul (xLit (.int 73009)) (xSt 2 (xVar 0)))) (xLit (.int 59))) (xLit (.int 3))) aNil)) (xLit (.int 1000000007))) (xVar 1))) sNext)))))
def f_law_draw : Fn := mkFn 2 5 m_law_draw
theorem ok_law_draw {k : Nat} (M : Mg mg) : ∀ ν p0, NuOk ν → SndB (cc P w K mg base ν p0 k n_law_draw s_law_draw) (defBody s_law_draw) (m_law_draw) := fun ν p0 hν =>
  (b_cons (st_st (s_var (i := 0) rfl rfl) (s_bin o_add (s_st (s_var (i := 0) rfl rfl)) s_int))
    (b_cons (st_while 1000 (t_w (w_and (t_cmp (o_eq hν) (s_st (s_var (i := 0) rfl rfl)) s_int) (w_and1 (t_stne (s_var (i := 0) rfl rfl))))) (b_cons (st_set (i := 2) rfl rfl rfl (s_stpop (s_var (i := 0) rfl rfl)))
    (b_cons (st_st (s_var (i := 0) rfl rfl) (s_bin o_mod (s_bty b_int rfl M.int bt_int (a_cons (s_bin o_add (s_bin o_add (s_bin o_mul (s_st (s_var (i := 0) rfl rfl)) s_int) (s_var (i := 2) rfl rfl)) s_int) a_nil)) s_int))
    (b_cons (st_st (s_var (i := 0) rfl rfl) (s_if (t_cmp o_ge (s_var (i := 2) rfl rfl) (s_bin o_pow s_int s_int)) (s_var (i := 2) rfl rfl) s_int))
    b_nil))))
    (b_cons (st_if (t_cmp (o_gt hν) (s_st (s_var (i := 0) rfl rfl)) s_int) (b_cons (st_set (i := 3) rfl rfl rfl (s_bin o_mod (s_bty b_int rfl M.int bt_int (a_cons (s_st (s_var (i := 0) rfl rfl)) a_nil)) (s_var (i := 1) rfl rfl)))
    (b_cons (st_st (s_var (i := 0) rfl rfl) (s_bin o_div (s_st (s_var (i := 0) rfl rfl)) (s_var (i := 1) rfl rfl)))
    (b_cons (st_ret (s_var (i := 3) rfl rfl))
    b_nil))) b_nil)
    (b_cons (st_set (i := 4) rfl rfl rfl (s_bin o_mod (s_bty b_int rfl M.int bt_int (a_cons (s_bin o_pow (s_bin o_add (s_bin o_add (s_st (s_var (i := 0) rfl rfl)) (s_bin o_mul s_int (s_st (s_var (i := 0) rfl rfl)))) s_int) s_int) a_nil)) s_int))
    (b_cons (st_ret (s_bin o_mod (s_bin o_mod (s_bty b_int rfl M.int bt_int (a_cons (s_bin o_pow (s_bin o_add (s_bin o_add (s_bin o_mul (s_var (i := 4) rfl rfl) s_int) (s_bin o_mul s_int (s_st (s_var (i := 0) rfl rfl)))) s_int) s_int) a_nil)) s_int) (s_var (i := 1) rfl rfl)))
    b_nil)))))
abbrev s_law_mixed : Stmt := topS 39
abbrev n_law_mixed : List Str := ["stream", "some", "left", "k"]
theorem sc_law_mixed : FnScope n_law_mixed ["stream", "some"] (defScope s_law_mixed) := ⟨rfl, rfl, rfl, by decide +kernel, rfl, by decide +kernel, by decide +kernel⟩
def m_law_mixed : Sx := (sSeq (sOwn 2 (yB bList (aCons (xVar 1) aNil))) (sSeq (sPops 2 [3] (yRange1 (aCons (xBor 2 (xB bLen (aCons (xVar 2) aNil))) aNil)) (tName 3) (aCons (xCall 2 f_law_draw (aCons (xVar 0) (aCons (xBor 2 (xB bLen (aCons (xVar 2) aNil))) aNil))) aNil)) sNext))
def f_law_mixed : Fn := mkFn 2 4 m_law_mixed
theorem ok_law_mixed {k : Nat} (M : Mg mg) (C_law_draw : Cl P w K mg base k "_law_draw" 2 f_law_draw) : ∀ ν p0, NuOk ν → SndB (cc P w K mg base ν p0 k n_law_mixed s_law_mixed) (defBody s_law_mixed) (m_law_mixed) := fun ν p0 hν =>
  (b_cons (st_own (i := 2) rfl rfl rfl (l_bty b_list rfl M.list bt_list (a_cons (s_var (i := 1) rfl rfl) a_nil)))
    (b_cons (st_pops (i := 2) (own := [("k", 3)]) rfl rfl (by decide) (blkOk_by (by dsimp only [cc, Ct.blk]; decide +kernel)) (i_range1 rfl M.range (a_cons (s_bor 2 (s_blt b_len rfl M.len bt_len (a_cons (s_var (i := 2) rfl rfl) a_nil))) a_nil)) (g_name (i := 3) rfl rfl rfl) (by decide) (a_cons (s_callC C_law_draw (Nat.le_refl _) hν rfl (a_cons (s_var (i := 0) rfl rfl) (a_cons (s_bor 2 (s_blt b_len rfl M.len bt_len (a_cons (s_var (i := 2) rfl rfl) a_nil))) a_nil))) a_nil))
    b_nil))
abbrev s_law_copied : Stmt := topS 40
abbrev n_law_copied : List Str := ["thing", "found", "part", "key"]
theorem sc_law_copied : FnScope n_law_copied ["thing"] (defScope s_law_copied) := ⟨rfl, rfl, rfl, by decide +kernel, rfl, by decide +kernel, by decide +kernel⟩
def m_law_copied (F : Fn) : Sx := (sSeq (sIf (xIsi .dict (xVar 0)) (sSeq (sRet (xB bDict (aCons (xL (yComp [3] (yIter (xVar 0)) (tName 3) cYes (xTup (aCons (xVar 3) (aCons (xCall 1 F (aCons (xBin fIx (xVar 0) (xVar 3)) aNil)) aNil))))) aNil))) sNext) sNext) (sSeq (sIf (xNot (xIsiT [.list, .tuple] (xVar 0))) (sSeq (sRet (xVar 0)) sNext) sNext) (sSeq (sSet 1 (xL (yComp [2] (yIter (xVar 0)) (tName 2) cYes (xCall 1 F (aCons (xVar 2) aNil))))) (sSeq (sRet (xIf (xIsi .list (xVar 0)) (xVar 1) (xB bTuple (aCons (xVar 1) aNil)))) sNext))))
def f_law_copied : Nat → Fn
  | 0 => fNo
  | n + 1 => mkFn 1 4 (m_law_copied (f_law_copied n))
theorem ok_law_copied (F : Fn) {k : Nat} (M : Mg mg) (C_law_copied : Cl P w K mg base k "_law_copied" 1 F) : ∀ ν p0, NuOk ν → SndB (cc P w K mg base ν p0 k n_law_copied s_law_copied) (defBody s_law_copied) (m_law_copied F) := fun ν p0 hν =>
  (b_cons (st_if (t_val (s_isi .dict rfl rfl M.dict rfl M.isinstance (s_var (i := 0) rfl rfl))) (b_cons (st_ret (s_dict hν rfl M.dict (a_cons (s_l (l_comp (own := [("key", 3)]) (blkOk_by (by dsimp only [cc, Ct.blk]; decide +kernel)) (i_iter (s_var (i := 0) rfl rfl)) (g_name (i := 3) rfl rfl rfl) (by decide) c_nil (s_tup (a_cons (s_var (i := 3) rfl rfl) (a_cons (s_callC C_law_copied (Nat.le_refl _) hν rfl (a_cons (s_sub hν (s_var (i := 0) rfl rfl) (s_var (i := 3) rfl rfl)) a_nil)) a_nil))))) a_nil)))
    b_nil) b_nil)
    (b_cons (st_if (t_not (t_val (s_isiT [.list, .tuple] (.cons rfl (.cons rfl .nil)) (by intro T hT; simp only [List.mem_cons, List.not_mem_nil, or_false] at hT; rcases hT with rfl | rfl; exact ⟨rfl, M.list⟩; exact ⟨rfl, M.tuple⟩) (by decide) rfl M.isinstance (s_var (i := 0) rfl rfl)))) (b_cons (st_ret (s_var (i := 0) rfl rfl))
    b_nil) b_nil)
    (b_cons (st_setLc (own := [("part", 2)]) (i := 1) rfl rfl (fun _ he => sw_on he rfl rfl rfl rfl) (blkOk_by (by dsimp only [cc, Ct.blk]; decide +kernel)) (i_iter (s_var (i := 0) rfl rfl)) (g_name (i := 2) rfl rfl rfl) (by decide) c_nil (s_callC C_law_copied (Nat.le_refl _) hν rfl (a_cons (s_var (i := 2) rfl rfl) a_nil)))
    (b_cons (st_ret (s_if (t_val (s_isi .list rfl rfl M.list rfl M.isinstance (s_var (i := 0) rfl rfl))) (s_var (i := 1) rfl rfl) (s_bty b_tuple rfl M.tuple bt_tuple (a_cons (s_var (i := 1) rfl rfl) a_nil))))
    b_nil))))
abbrev s_law_same : Stmt := topS 41
abbrev n_law_same : List Str := ["found", "due", "x", "y"]
theorem sc_law_same : FnScope n_law_same ["found", "due"] (defScope s_law_same) := ⟨rfl, rfl, rfl, by decide +kernel, rfl, by decide +kernel, by decide +kernel⟩
def m_law_same (F : Fn) : Sx := (sSeq (sIf (xIsiT [.list, .tuple] (xVar 1)) (sSeq (sIf (xOr (xBin fNe (xIsi .list (xVar 0)) (xIsi .list (xVar 1))) (xBin fNe (xIsi .tuple (xVar 0)) (xIsi .tuple (xVar 1)))) (sSeq (sRet (xLit (.bl false))) sNext) sNext) (sSeq (sRet (xAnd (xBin fEq (xB bLen (aCons (xVar 0) aNil)) (xB bLen (aCons (xVar 1) aNil))) (xB bAll (aCons (xL (yComp [2, 3] (yZip (aCons (xVar 0) (aCons (xVar 1) aNil))) (tTup [2, 3]) cYes (xCall 2 F (aCons (xVar 2) (aCons (xVar 3) aNil))))) aNil)))) sNext)) sNext) (sSeq (sIf (xIsi .dict (xVar 1)) (sSeq (sRet (xAnd (xIsi .dict (xVar 0)) (xCall 2 F (aCons (xItems (xVar 0)) (aCons (xItems (xVar 1)) aNil))))) sNext) sNext) (sSeq (sIf (xIsi .int (xVar 1)) (sSeq (sRet (xAnd (xIsi .int (xVar 0)) (xAnd (xBin fEq (xIsi .bool (xVar 0)) (xIsi .bool (xVar 1))) (xBin fEq (xVar 0) (xVar 1))))) sNext) sNext) (sSeq (sIf (xBin fIsN (xVar 1) (xLit .non)) (sSeq (sRet (xBin fIsN (xVar 0) (xLit .non))) sNext) sNext) (sSeq (sIf (xIsi .str (xVar 1)) (sSeq (sRet (xAnd (xIsi .str (xVar 0)) (xBin fEq (xVar 0) (xVar 1)))) sNext) sNext) (sSeq (sRet (xAnd (xNot (xIsiT [.int, .str, .list, .tuple, .dict] (xVar 0))) (xBin fEq (xVar 0) (xVar 1)))) sNext))))))
def f_law_same : Nat → Fn
  | 0 => fNo
  | n + 1 => mkFn 2 4 (m_law_same (f_law_same n))
theorem ok_law_same (F : Fn) {k : Nat} (M : Mg mg) (C_law_same : Cl P w K mg base k "_law_same" 2 F) : ∀ ν p0, NuOk ν → SndB (cc P w K mg base ν p0 k n_law_same s_law_same) (defBody s_law_same) (m_law_same F) := fun ν p0 hν =>
  (b_cons (st_if (t_val (s_isiT [.list, .tuple] (.cons rfl (.cons rfl .nil)) (by intro T hT; simp only [List.mem_cons, List.not_mem_nil, or_false] at hT; rcases hT with rfl | rfl; exact ⟨rfl, M.list⟩; exact ⟨rfl, M.tuple⟩) (by decide) rfl M.isinstance (s_var (i := 1) rfl rfl))) (b_cons (st_if (t_w (w_or (t_cmp (o_ne hν) (s_isi .list rfl rfl M.list rfl M.isinstance (s_var (i := 0) rfl rfl)) (s_isi .list rfl rfl M.list rfl M.isinstance (s_var (i := 1) rfl rfl))) (w_or1 (t_cmp (o_ne hν) (s_isi .tuple rfl rfl M.tuple rfl M.isinstance (s_var (i := 0) rfl rfl)) (s_isi .tuple rfl rfl M.tuple rfl M.isinstance (s_var (i := 1) rfl rfl)))))) (b_cons (st_ret s_bl)
    b_nil) b_nil)
    (b_cons (st_ret (s_and (s_cmp (o_eq hν) (s_blt b_len rfl M.len bt_len (a_cons (s_var (i := 0) rfl rfl) a_nil)) (s_blt b_len rfl M.len bt_len (a_cons (s_var (i := 1) rfl rfl) a_nil))) (s_one (s_blt b_all rfl M.all bt_all (a_cons (s_l (l_comp (own := [("x", 2), ("y", 3)]) (blkOk_by (by dsimp only [cc, Ct.blk]; decide +kernel)) (i_zip rfl M.zip (a_cons (s_var (i := 0) rfl rfl) (a_cons (s_var (i := 1) rfl rfl) a_nil))) (g_tup (is := [2, 3]) (.cons rfl rfl rfl (.cons rfl rfl rfl .nil))) (by decide) c_nil (s_callC C_law_same (Nat.le_refl _) hν rfl (a_cons (s_var (i := 2) rfl rfl) (a_cons (s_var (i := 3) rfl rfl) a_nil))))) a_nil)))))
    b_nil)) b_nil)
    (b_cons (st_if (t_val (s_isi .dict rfl rfl M.dict rfl M.isinstance (s_var (i := 1) rfl rfl))) (b_cons (st_ret (s_and (s_isi .dict rfl rfl M.dict rfl M.isinstance (s_var (i := 0) rfl rfl)) (s_one (s_callC C_law_same (Nat.le_refl _) hν rfl (a_cons (s_items rfl M.list (s_var (i := 0) rfl rfl)) (a_cons (s_items rfl M.list (s_var (i := 1) rfl rfl)) a_nil))))))
    b_nil) b_nil)
    (b_cons (st_if (t_val (s_isi .int rfl rfl M.int rfl M.isinstance (s_var (i := 1) rfl rfl))) (b_cons (st_ret (s_and (s_isi .int rfl rfl M.int rfl M.isinstance (s_var (i := 0) rfl rfl)) (s_and (s_cmp (o_eq hν) (s_isi .bool rfl rfl M.bool rfl M.isinstance (s_var (i := 0) rfl rfl)) (s_isi .bool rfl rfl M.bool rfl M.isinstance (s_var (i := 1) rfl rfl))) (s_one (s_cmp (o_eq hν) (s_var (i := 0) rfl rfl) (s_var (i := 1) rfl rfl))))))
    b_nil) b_nil)
    (b_cons (st_if (t_cmp o_isN (s_var (i := 1) rfl rfl) s_non) (b_cons (st_ret (s_cmp o_isN (s_var (i := 0) rfl rfl) s_non))
    b_nil) b_nil)
    (b_cons (st_if (t_val (s_isi .str rfl rfl M.str rfl M.isinstance (s_var (i := 1) rfl rfl))) (b_cons (st_ret (s_and (s_isi .str rfl rfl M.str rfl M.isinstance (s_var (i := 0) rfl rfl)) (s_one (s_cmp (o_eq hν) (s_var (i := 0) rfl rfl) (s_var (i := 1) rfl rfl)))))
    b_nil) b_nil)
    (b_cons (st_ret (s_and (s_not (s_isiT [.int, .str, .list, .tuple, .dict] (.cons rfl (.cons rfl (.cons rfl (.cons rfl (.cons rfl .nil))))) (by intro T hT; simp only [List.mem_cons, List.not_mem_nil, or_false] at hT; rcases hT with rfl | rfl | rfl | rfl | rfl; exact ⟨rfl, M.int⟩; exact ⟨rfl, M.str⟩; exact ⟨rfl, M.list⟩; exact ⟨rfl, M.tuple⟩; exact ⟨rfl, M.dict⟩) (by decide) rfl M.isinstance (s_var (i := 0) rfl rfl))) (s_one (s_cmp (o_eq hν) (s_var (i := 0) rfl rfl) (s_var (i := 1) rfl rfl)))))
    b_nil))))))
abbrev s_law_each_once : Stmt := topS 42
abbrev n_law_each_once : List Str := ["things", "found", "thing"]
theorem sc_law_each_once : FnScope n_law_each_once ["things"] (defScope s_law_each_once) := ⟨rfl, rfl, rfl, by decide +kernel, rfl, by decide +kernel, by decide +kernel⟩
def m_law_each_once : Sx := (sSeq (sOwn 1 (yLst aNil)) (sSeq (sFor (yIter (xVar 0)) (tName 2) (sSeq (sIf (xBor 1 (xBin fNin (xVar 2) (xVar 1))) (sSeq (sApp 1 (xVar 2)) sNext) sNext) sNext)) (sSeq (sFrz 1 (sRet (xVar 1))) sNext)))
def f_law_each_once : Fn := mkFn 1 3 m_law_each_once
theorem ok_law_each_once {k : Nat} (M : Mg mg) : ∀ ν p0, NuOk ν → SndB (cc P w K mg base ν p0 k n_law_each_once s_law_each_once) (defBody s_law_each_once) (m_law_each_once) := fun ν p0 hν =>
  (b_cons (st_own (i := 1) rfl rfl rfl (l_lst a_nil))
    (b_cons (st_for (i_iter (s_var (i := 0) rfl rfl)) (g_name (i := 2) rfl rfl rfl) (b_cons (st_if (t_bor 1 (t_cmp (o_nin hν) (s_var (i := 2) rfl rfl) (s_var (i := 1) rfl rfl))) (b_cons (st_app (i := 1) rfl rfl (s_var (i := 2) rfl rfl))
    b_nil) b_nil)
    b_nil))
    (b_cons (st_frz 1 (st_ret (s_var (i := 1) rfl rfl)))
    b_nil)))
abbrev s_law_w_rounds : Stmt := topS 43
abbrev n_law_w_rounds : List Str := ["waits", "found", "gone", "turn", "fresh", "hand", "wait", "is_let", "one"]
theorem sc_law_w_rounds : FnScope n_law_w_rounds ["waits"] (defScope s_law_w_rounds) := ⟨rfl, rfl, rfl, by decide +kernel, rfl, by decide +kernel, by decide +kernel⟩
def m_law_w_rounds : Sx := (sSeq (sTup [1, 2] (mOwn (yLst aNil) (mVal (xL (yLst aNil)) mNil))) (sSeq (sFor (yRange1 (aCons (xB bLen (aCons (xVar 0) aNil)) aNil)) (tName 3) (sSeq (sOwn 4 (yLst aNil)) (sSeq (sFor (yIter (xL (yComp [8] (yIter (xL (yB bSorted (aCons (xVar 0) aNil)))) (tName 8) (cOne (xBin fNin (xVar 8) (xVar 2))) (xVar 8)))) (tName 5) (sSeq (sSet 6 (xBin fIx (xVar 0) (xVar 5))) (sSeq (sSet 7 (xOr (xBin fIsN (xVar 6) (xLit .non)) (xBin fGe (xB bLen (aCons (xL (yComp [8] (yIter (xBin fIx (xVar 6) (xLit (.int 1)))) (tName 8) (cOne (xBin fIn (xVar 8) (xVar 2))) (xVar 8))) aNil)) (xBin fIx (xVar 6) (xLit (.int 0)))))) (sSeq (sExt 4 (xIf (xVar 7) (xL (yLst (aCons (xVar 5) aNil))) (xL (yLst aNil)))) sNext)))) (sSeq (sFrz 4 (sExt 1 (xIf (xBor 4 (xBin fNe (xVar 4) (xL (yLst aNil)))) (xL (yLst (aCons (xVar 4) aNil))) (xL (yLst aNil))))) (sSeq (sFrz 4 (sSet 2 (xBin fAdd (xVar 2) (xVar 4)))) sNext))))) (sSeq (sFrz 1 (sRet (xVar 1))) sNext)))
def f_law_w_rounds : Fn := mkFn 1 9 m_law_w_rounds
theorem ok_law_w_rounds {k : Nat} (M : Mg mg) : ∀ ν p0, NuOk ν → SndB (cc P w K mg base ν p0 k n_law_w_rounds s_law_w_rounds) (defBody s_law_w_rounds) (m_law_w_rounds) := fun ν p0 hν =>
  (b_cons (st_tupc (is := [1, 2]) (.cons rfl rfl rfl (.cons rfl rfl rfl .nil)) (m_own (l_lst a_nil) (m_val (s_l (l_lst a_nil)) m_nil)) (by decide) (hw := fun env he => by cases env; cases he; rfl))
    (b_cons (st_for (i_range1 rfl M.range (a_cons (s_blt b_len rfl M.len bt_len (a_cons (s_var (i := 0) rfl rfl) a_nil)) a_nil)) (g_name (i := 3) rfl rfl rfl) (b_cons (st_own (i := 4) rfl rfl rfl (l_lst a_nil))
    (b_cons (st_for (i_iter (s_l (l_comp (own := [("one", 8)]) (blkOk_by (by dsimp only [cc, Ct.blk]; decide +kernel)) (i_iter (s_l (l_blt (b_sorted hν) rfl M.sorted bt_sorted (a_cons (s_var (i := 0) rfl rfl) a_nil)))) (g_name (i := 8) rfl rfl rfl) (by decide) (c_one (t_cmp (o_nin hν) (s_var (i := 8) rfl rfl) (s_var (i := 2) rfl rfl))) (s_var (i := 8) rfl rfl)))) (g_name (i := 5) rfl rfl rfl) (b_cons (st_set (i := 6) rfl rfl rfl (s_sub hν (s_var (i := 0) rfl rfl) (s_var (i := 5) rfl rfl)))
    (b_cons (st_set (i := 7) rfl rfl rfl (s_or (s_cmp o_isN (s_var (i := 6) rfl rfl) s_non) (s_one (s_cmp o_ge (s_blt b_len rfl M.len bt_len (a_cons (s_l (l_comp (own := [("one", 8)]) (blkOk_by (by dsimp only [cc, Ct.blk]; decide +kernel)) (i_iter (s_sub hν (s_var (i := 6) rfl rfl) s_int)) (g_name (i := 8) rfl rfl rfl) (by decide) (c_one (t_cmp (o_in hν) (s_var (i := 8) rfl rfl) (s_var (i := 2) rfl rfl))) (s_var (i := 8) rfl rfl))) a_nil)) (s_sub hν (s_var (i := 6) rfl rfl) s_int)))))
    (b_cons (st_ext (i := 4) rfl rfl (s_if (t_val (s_var (i := 7) rfl rfl)) (s_l (l_lst (a_cons (s_var (i := 5) rfl rfl) a_nil))) (s_l (l_lst a_nil))))
    b_nil))))
    (b_cons (st_frz 4 (st_ext (i := 1) rfl rfl (s_if (t_bor 4 (t_cmp (o_ne hν) (s_var (i := 4) rfl rfl) (s_l (l_lst a_nil)))) (s_l (l_lst (a_cons (s_var (i := 4) rfl rfl) a_nil))) (s_l (l_lst a_nil)))))
    (b_cons (st_frz 4 (st_set (i := 2) rfl rfl rfl (s_bin o_add (s_var (i := 2) rfl rfl) (s_var (i := 4) rfl rfl))))
    b_nil)))))
    (b_cons (st_frz 1 (st_ret (s_var (i := 1) rfl rfl)))
    b_nil)))
abbrev s_law_w_gone : Stmt := topS 44
abbrev n_law_w_gone : List Str := ["waits"]
theorem sc_law_w_gone : FnScope n_law_w_gone ["waits"] (defScope s_law_w_gone) := ⟨rfl, rfl, rfl, by decide +kernel, rfl, by decide +kernel, by decide +kernel⟩
def m_law_w_gone : Sx := (sSeq (sRet (xB bSum (aCons (xCall 1 f_law_w_rounds (aCons (xVar 0) aNil)) (aCons (xL (yLst aNil)) aNil)))) sNext)
def f_law_w_gone : Fn := mkFn 1 1 m_law_w_gone
theorem ok_law_w_gone {k : Nat} (M : Mg mg) (C_law_w_rounds : Cl P w K mg base k "_law_w_rounds" 1 f_law_w_rounds) : ∀ ν p0, NuOk ν → SndB (cc P w K mg base ν p0 k n_law_w_gone s_law_w_gone) (defBody s_law_w_gone) (m_law_w_gone) := fun ν p0 hν =>
  (b_cons (st_ret (s_blt b_sum rfl M.sum bt_sum (a_cons (s_callC C_law_w_rounds (Nat.le_refl _) hν rfl (a_cons (s_var (i := 0) rfl rfl) a_nil)) (a_cons (s_l (l_lst a_nil)) a_nil))))
    b_nil)
abbrev s_law_w_are_hands : Stmt := topS 45
abbrev n_law_w_are_hands : List Str := ["waits", "thing", "hand"]
theorem sc_law_w_are_hands : FnScope n_law_w_are_hands ["waits", "thing"] (defScope s_law_w_are_hands) := ⟨rfl, rfl, rfl, by decide +kernel, rfl, by decide +kernel, by decide +kernel⟩
def m_law_w_are_hands : Sx := (sSeq (sIf (xOr (xNot (xIsiT [.list, .tuple] (xVar 1))) (xBin fEq (xB bLen (aCons (xVar 1) aNil)) (xLit (.int 0)))) (sSeq (sRet (xLit (.bl false))) sNext) sNext) (sSeq (sIf (xNot (xB bAll (aCons (xL (yComp [2] (yIter (xVar 1)) (tName 2) cYes (xAnd (xIsi .str (xVar 2)) (xBin fIn (xVar 2) (xVar 0))))) aNil))) (sSeq (sRet (xLit (.bl false))) sNext) sNext) (sSeq (sRet (xBin fEq (xB bLen (aCons (xCall 1 f_law_each_once (aCons (xL (yB bList (aCons (xVar 1) aNil))) aNil)) aNil)) (xB bLen (aCons (xVar 1) aNil)))) sNext)))
def f_law_w_are_hands : Fn := mkFn 2 3 m_law_w_are_hands
theorem ok_law_w_are_hands {k : Nat} (M : Mg mg) (C_law_each_once : Cl P w K mg base k "_law_each_once" 1 f_law_each_once) : ∀ ν p0, NuOk ν → SndB (cc P w K mg base ν p0 k n_law_w_are_hands s_law_w_are_hands) (defBody s_law_w_are_hands) (m_law_w_are_hands) := fun ν p0 hν =>
  (b_cons (st_if (t_w (w_or (t_not (t_val (s_isiT [.list, .tuple] (.cons rfl (.cons rfl .nil)) (by intro T hT; simp only [List.mem_cons, List.not_mem_nil, or_false] at hT; rcases hT with rfl | rfl; exact ⟨rfl, M.list⟩; exact ⟨rfl, M.tuple⟩) (by decide) rfl M.isinstance (s_var (i := 1) rfl rfl)))) (w_or1 (t_cmp (o_eq hν) (s_blt b_len rfl M.len bt_len (a_cons (s_var (i := 1) rfl rfl) a_nil)) s_int)))) (b_cons (st_ret s_bl)
    b_nil) b_nil)
    (b_cons (st_if (t_not (t_val (s_blt b_all rfl M.all bt_all (a_cons (s_l (l_comp (own := [("hand", 2)]) (blkOk_by (by dsimp only [cc, Ct.blk]; decide +kernel)) (i_iter (s_var (i := 1) rfl rfl)) (g_name (i := 2) rfl rfl rfl) (by decide) c_nil (s_and (s_isi .str rfl rfl M.str rfl M.isinstance (s_var (i := 2) rfl rfl)) (s_one (s_cmp (o_in hν) (s_var (i := 2) rfl rfl) (s_var (i := 0) rfl rfl)))))) a_nil)))) (b_cons (st_ret s_bl)
    b_nil) b_nil)
    (b_cons (st_ret (s_cmp (o_eq hν) (s_blt b_len rfl M.len bt_len (a_cons (s_callC C_law_each_once (Nat.le_refl _) hν rfl (a_cons (s_l (l_bty b_list rfl M.list bt_list (a_cons (s_var (i := 1) rfl rfl) a_nil))) a_nil)) a_nil)) (s_blt b_len rfl M.len bt_len (a_cons (s_var (i := 1) rfl rfl) a_nil))))
    b_nil)))
abbrev s_law_w_is_order : Stmt := topS 46
abbrev n_law_w_is_order : List Str := ["waits", "hand", "thing", "at", "one", "wait", "far"]
theorem sc_law_w_is_order : FnScope n_law_w_is_order ["waits", "hand", "thing"] (defScope s_law_w_is_order) := ⟨rfl, rfl, rfl, by decide +kernel, rfl, by decide +kernel, by decide +kernel⟩
def m_law_w_is_order : Sx := (sSeq (sIf (xOr (xNot (xCall 2 f_law_w_are_hands (aCons (xVar 0) (aCons (xVar 2) aNil)))) (xBin fNe (xBin fIx (xVar 2) (xNeg (xLit (.int 1)))) (xVar 1))) (sSeq (sRet (xLit (.bl false))) sNext) sNext) (sSeq (sFor (yEnum (aCons (xVar 2) aNil)) (tTup [3, 4]) (sSeq (sSet 5 (xBin fIx (xVar 0) (xVar 4))) (sSeq (sIf (xAnd (xBin fNotN (xVar 5) (xLit .non)) (xBin fLt (xB bLen (aCons (xL (yComp [6] (yIter (xBin fIx (xVar 5) (xLit (.int 1)))) (tName 6) (cOne (xBin fIn (xVar 6) (xL (yCut (xVar 2) pNo (pSome (xVar 3)))))) (xVar 6))) aNil)) (xBin fIx (xVar 5) (xLit (.int 0))))) (sSeq (sRet (xLit (.bl false))) sNext) sNext) sNext))) (sSeq (sRet (xLit (.bl true))) sNext)))
def f_law_w_is_order : Fn := mkFn 3 7 m_law_w_is_order
theorem ok_law_w_is_order {k : Nat} (M : Mg mg) (C_law_w_are_hands : Cl P w K mg base k "_law_w_are_hands" 2 f_law_w_are_hands) : ∀ ν p0, NuOk ν → SndB (cc P w K mg base ν p0 k n_law_w_is_order s_law_w_is_order) (defBody s_law_w_is_order) (m_law_w_is_order) := fun ν p0 hν =>
  (b_cons (st_if (t_w (w_or (t_not (t_val (s_callC C_law_w_are_hands (Nat.le_refl _) hν rfl (a_cons (s_var (i := 0) rfl rfl) (a_cons (s_var (i := 2) rfl rfl) a_nil))))) (w_or1 (t_cmp (o_ne hν) (s_sub hν (s_var (i := 2) rfl rfl) (s_neg s_int)) (s_var (i := 1) rfl rfl))))) (b_cons (st_ret s_bl)
    b_nil) b_nil)
    (b_cons (st_for (i_enum rfl M.enumerate (a_cons (s_var (i := 2) rfl rfl) a_nil)) (g_tup (is := [3, 4]) (.cons rfl rfl rfl (.cons rfl rfl rfl .nil))) (b_cons (st_set (i := 5) rfl rfl rfl (s_sub hν (s_var (i := 0) rfl rfl) (s_var (i := 4) rfl rfl)))
    (b_cons (st_if (t_w (w_and (t_cmp o_notN (s_var (i := 5) rfl rfl) s_non) (w_and1 (t_cmp (o_lt hν) (s_blt b_len rfl M.len bt_len (a_cons (s_l (l_comp (own := [("far", 6)]) (blkOk_by (by dsimp only [cc, Ct.blk]; decide +kernel)) (i_iter (s_sub hν (s_var (i := 5) rfl rfl) s_int)) (g_name (i := 6) rfl rfl rfl) (by decide) (c_one (t_cmp (o_in hν) (s_var (i := 6) rfl rfl) (s_l (l_cut (s_var (i := 2) rfl rfl) p_no (p_some (s_var (i := 3) rfl rfl)))))) (s_var (i := 6) rfl rfl))) a_nil)) (s_sub hν (s_var (i := 5) rfl rfl) s_int))))) (b_cons (st_ret s_bl)
    b_nil) b_nil)
    b_nil)))
    (b_cons (st_ret s_bl)
    b_nil)))
abbrev s_law_w_is_knot : Stmt := topS 47
abbrev n_law_w_is_knot : List Str := ["waits", "thing", "one", "hand", "far"]
theorem sc_law_w_is_knot : FnScope n_law_w_is_knot ["waits", "thing"] (defScope s_law_w_is_knot) := ⟨rfl, rfl, rfl, by decide +kernel, rfl, by decide +kernel, by decide +kernel⟩
def m_law_w_is_knot : Sx := (sSeq (sIf (xOr (xNot (xCall 2 f_law_w_are_hands (aCons (xVar 0) (aCons (xVar 1) aNil)))) (xB bAny (aCons (xL (yComp [3] (yIter (xVar 1)) (tName 3) cYes (xBin fIsN (xBin fIx (xVar 0) (xVar 3)) (xLit .non)))) aNil))) (sSeq (sRet (xLit (.bl false))) sNext) sNext) (sSeq (sRet (xB bAll (aCons (xL (yComp [2] (yIter (xVar 1)) (tName 2) cYes (xBin fLt (xB bLen (aCons (xL (yComp [4] (yIter (xBin fIx (xBin fIx (xVar 0) (xVar 2)) (xLit (.int 1)))) (tName 4) (cOne (xBin fNin (xVar 4) (xVar 1))) (xVar 4))) aNil)) (xBin fIx (xBin fIx (xVar 0) (xVar 2)) (xLit (.int 0)))))) aNil))) sNext))
def f_law_w_is_knot : Fn := mkFn 2 5 m_law_w_is_knot
theorem ok_law_w_is_knot {k : Nat} (M : Mg mg) (C_law_w_are_hands : Cl P w K mg base k "_law_w_are_hands" 2 f_law_w_are_hands) : ∀ ν p0, NuOk ν → SndB (cc P w K mg base ν p0 k n_law_w_is_knot s_law_w_is_knot) (defBody s_law_w_is_knot) (m_law_w_is_knot) := fun ν p0 hν =>
  (b_cons (st_if (t_w (w_or (t_not (t_val (s_callC C_law_w_are_hands (Nat.le_refl _) hν rfl (a_cons (s_var (i := 0) rfl rfl) (a_cons (s_var (i := 1) rfl rfl) a_nil))))) (w_or1 (t_val (s_blt b_any rfl M.any bt_any (a_cons (s_l (l_comp (own := [("hand", 3)]) (blkOk_by (by dsimp only [cc, Ct.blk]; decide +kernel)) (i_iter (s_var (i := 1) rfl rfl)) (g_name (i := 3) rfl rfl rfl) (by decide) c_nil (s_cmp o_isN (s_sub hν (s_var (i := 0) rfl rfl) (s_var (i := 3) rfl rfl)) s_non))) a_nil)))))) (b_cons (st_ret s_bl)
    b_nil) b_nil)
    (b_cons (st_ret (s_blt b_all rfl M.all bt_all (a_cons (s_l (l_comp (own := [("one", 2)]) (blkOk_by (by dsimp only [cc, Ct.blk]; decide +kernel)) (i_iter (s_var (i := 1) rfl rfl)) (g_name (i := 2) rfl rfl rfl) (by decide) c_nil (s_cmp (o_lt hν) (s_blt b_len rfl M.len bt_len (a_cons (s_l (l_comp (own := [("far", 4)]) (blkOk_by (by dsimp only [cc, Ct.blk]; decide +kernel)) (i_iter (s_sub hν (s_sub hν (s_var (i := 0) rfl rfl) (s_var (i := 2) rfl rfl)) s_int)) (g_name (i := 4) rfl rfl rfl) (by decide) (c_one (t_cmp (o_nin hν) (s_var (i := 4) rfl rfl) (s_var (i := 1) rfl rfl))) (s_var (i := 4) rfl rfl))) a_nil)) (s_sub hν (s_sub hν (s_var (i := 0) rfl rfl) (s_var (i := 2) rfl rfl)) s_int)))) a_nil)))
    b_nil))
abbrev s_law_options : Stmt := topS 48
abbrev n_law_options : List Str := ["hand", "others", "found", "lot", "number"]
theorem sc_law_options : FnScope n_law_options ["hand", "others"] (defScope s_law_options) := ⟨rfl, rfl, rfl, by decide +kernel, rfl, by decide +kernel, by decide +kernel⟩
def m_law_options : Sx := (sSeq (sOwn 2 (yLst (aCons (xLit .non) aNil))) (sSeq (sFor (yIter (xIf (xBin fEq (xB bLen (aCons (xVar 1) aNil)) (xLit (.int 2))) (xL (yLst (aCons (xL (yCut (xVar 1) pNo (pSome (xLit (.int 1))))) (aCons (xL (yCut (xVar 1) (pSome (xLit (.int 1))) pNo)) (aCons (xVar 1) aNil))))) (xL (yLst (aCons (xVar 1) aNil))))) (tName 3) (sSeq (sExt 2 (xL (yComp [4] (yRange2 (aCons (xLit (.int 1)) (aCons (xBin fAdd (xB bLen (aCons (xVar 3) aNil)) (xLit (.int 1))) aNil))) (tName 4) cYes (xTup (aCons (xVar 4) (aCons (xL (yB bList (aCons (xVar 3) aNil))) aNil)))))) sNext)) (sSeq (sFrz 2 (sRet (xVar 2))) sNext)))
def f_law_options : Fn := mkFn 2 5 m_law_options
theorem ok_law_options {k : Nat} (M : Mg mg) : ∀ ν p0, NuOk ν → SndB (cc P w K mg base ν p0 k n_law_options s_law_options) (defBody s_law_options) (m_law_options) := fun ν p0 hν =>
  (b_cons (st_own (i := 2) rfl rfl rfl (l_lst (a_cons s_non a_nil)))
    (b_cons (st_for (i_iter (s_if (t_cmp (o_eq hν) (s_blt b_len rfl M.len bt_len (a_cons (s_var (i := 1) rfl rfl) a_nil)) s_int) (s_l (l_lst (a_cons (s_l (l_cut (s_var (i := 1) rfl rfl) p_no (p_some s_int))) (a_cons (s_l (l_cut (s_var (i := 1) rfl rfl) (p_some s_int) p_no)) (a_cons (s_var (i := 1) rfl rfl) a_nil))))) (s_l (l_lst (a_cons (s_var (i := 1) rfl rfl) a_nil))))) (g_name (i := 3) rfl rfl rfl) (b_cons (st_ext (i := 2) rfl rfl (s_l (l_comp (own := [("number", 4)]) (blkOk_by (by dsimp only [cc, Ct.blk]; decide +kernel)) (i_range2 rfl M.range (a_cons s_int (a_cons (s_bin o_add (s_blt b_len rfl M.len bt_len (a_cons (s_var (i := 3) rfl rfl) a_nil)) s_int) a_nil))) (g_name (i := 4) rfl rfl rfl) (by decide) c_nil (s_tup (a_cons (s_var (i := 4) rfl rfl) (a_cons (s_l (l_bty b_list rfl M.list bt_list (a_cons (s_var (i := 3) rfl rfl) a_nil))) a_nil))))))
    b_nil))
    (b_cons (st_frz 2 (st_ret (s_var (i := 2) rfl rfl)))
    b_nil)))
abbrev s_law_every : Stmt := topS 49
abbrev n_law_every : List Str := ["hands", "rows", "hand", "others", "able", "one", "row", "wait"]
theorem sc_law_every : FnScope n_law_every ["hands"] (defScope s_law_every) := ⟨rfl, rfl, rfl, by decide +kernel, rfl, by decide +kernel, by decide +kernel⟩
def m_law_every : Sx := (sSeq (sSet 1 (xL (yLst (aCons (xLit (.dct [])) aNil)))) (sSeq (sFor (yIter (xVar 0)) (tName 2) (sSeq (sSet 3 (xL (yComp [5] (yIter (xVar 0)) (tName 5) (cOne (xBin fNe (xVar 5) (xVar 2))) (xVar 5)))) (sSeq (sSet 4 (xCall 2 f_law_options (aCons (xVar 2) (aCons (xVar 3) aNil)))) (sSeq (sSet 1 (xB bSum (aCons (xL (yComp [6] (yIter (xVar 1)) (tName 6) cYes (xL (yComp [7] (yIter (xVar 4)) (tName 7) cYes (xB bDict (aCons (xBin fAdd (xItems (xVar 6)) (xL (yLst (aCons (xTup (aCons (xVar 2) (aCons (xVar 7) aNil))) aNil)))) aNil)))))) (aCons (xL (yLst aNil)) aNil)))) sNext)))) (sSeq (sRet (xVar 1)) sNext)))
def f_law_every : Fn := mkFn 1 8 m_law_every
theorem ok_law_every {k : Nat} (M : Mg mg) (C_law_options : Cl P w K mg base k "_law_options" 2 f_law_options) : ∀ ν p0, NuOk ν → SndB (cc P w K mg base ν p0 k n_law_every s_law_every) (defBody s_law_every) (m_law_every) := fun ν p0 hν =>
  (b_cons (st_set (i := 1) rfl rfl rfl (s_l (l_lst (a_cons s_dct0 a_nil))))
    (b_cons (st_for (i_iter (s_var (i := 0) rfl rfl)) (g_name (i := 2) rfl rfl rfl) (b_cons (st_setLc (own := [("one", 5)]) (i := 3) rfl rfl (fun _ he => sw_on he rfl rfl rfl rfl) (blkOk_by (by dsimp only [cc, Ct.blk]; decide +kernel)) (i_iter (s_var (i := 0) rfl rfl)) (g_name (i := 5) rfl rfl rfl) (by decide) (c_one (t_cmp (o_ne hν) (s_var (i := 5) rfl rfl) (s_var (i := 2) rfl rfl))) (s_var (i := 5) rfl rfl))
    (b_cons (st_set (i := 4) rfl rfl rfl (s_callC C_law_options (Nat.le_refl _) hν rfl (a_cons (s_var (i := 2) rfl rfl) (a_cons (s_var (i := 3) rfl rfl) a_nil))))
    (b_cons (st_set (i := 1) rfl rfl rfl (s_blt b_sum rfl M.sum bt_sum (a_cons (s_l (l_comp (own := [("row", 6)]) (blkOk_by (by dsimp only [cc, Ct.blk]; decide +kernel)) (i_iter (s_var (i := 1) rfl rfl)) (g_name (i := 6) rfl rfl rfl) (by decide) c_nil (s_l (l_comp (own := [("wait", 7)]) (blkOk_by (by dsimp only [cc, Ct.blk]; decide +kernel)) (i_iter (s_var (i := 4) rfl rfl)) (g_name (i := 7) rfl rfl rfl) (by decide) c_nil (s_dict hν rfl M.dict (a_cons (s_bin o_add (s_items rfl M.list (s_var (i := 6) rfl rfl)) (s_l (l_lst (a_cons (s_tup (a_cons (s_var (i := 2) rfl rfl) (a_cons (s_var (i := 7) rfl rfl) a_nil))) a_nil)))) a_nil)))))) (a_cons (s_l (l_lst a_nil)) a_nil))))
    b_nil))))
    (b_cons (st_ret (s_var (i := 1) rfl rfl))
    b_nil)))
abbrev s_law_lots : Stmt := topS 50
abbrev n_law_lots : List Str := ["hands", "rows", "hand", "row"]
theorem sc_law_lots : FnScope n_law_lots ["hands"] (defScope s_law_lots) := ⟨rfl, rfl, rfl, by decide +kernel, rfl, by decide +kernel, by decide +kernel⟩
def m_law_lots : Sx := (sSeq (sSet 1 (xL (yLst (aCons (xL (yLst aNil)) aNil)))) (sSeq (sFor (yIter (xVar 0)) (tName 2) (sSeq (sSet 1 (xBin fAdd (xVar 1) (xL (yComp [3] (yIter (xVar 1)) (tName 3) cYes (xBin fAdd (xVar 3) (xL (yLst (aCons (xVar 2) aNil)))))))) sNext)) (sSeq (sRet (xVar 1)) sNext)))
def f_law_lots : Fn := mkFn 1 4 m_law_lots
theorem ok_law_lots {k : Nat} (M : Mg mg) : ∀ ν p0, NuOk ν → SndB (cc P w K mg base ν p0 k n_law_lots s_law_lots) (defBody s_law_lots) (m_law_lots) := fun ν p0 hν =>
  (b_cons (st_set (i := 1) rfl rfl rfl (s_l (l_lst (a_cons (s_l (l_lst a_nil)) a_nil))))
    (b_cons (st_for (i_iter (s_var (i := 0) rfl rfl)) (g_name (i := 2) rfl rfl rfl) (b_cons (st_set (i := 1) rfl rfl rfl (s_bin o_add (s_var (i := 1) rfl rfl) (s_l (l_comp (own := [("row", 3)]) (blkOk_by (by dsimp only [cc, Ct.blk]; decide +kernel)) (i_iter (s_var (i := 1) rfl rfl)) (g_name (i := 3) rfl rfl rfl) (by decide) c_nil (s_bin o_add (s_var (i := 3) rfl rfl) (s_l (l_lst (a_cons (s_var (i := 2) rfl rfl) a_nil))))))))
    b_nil))
    (b_cons (st_ret (s_var (i := 1) rfl rfl))
    b_nil)))
abbrev s_law_let : Stmt := topS 51
abbrev n_law_let : List Str := ["waits", "lot", "hand"]
theorem sc_law_let : FnScope n_law_let ["waits", "lot"] (defScope s_law_let) := ⟨rfl, rfl, rfl, by decide +kernel, rfl, by decide +kernel, by decide +kernel⟩
def m_law_let : Sx := (sSeq (sRet (xB bDict (aCons (xL (yComp [2] (yIter (xVar 0)) (tName 2) cYes (xTup (aCons (xVar 2) (aCons (xIf (xBin fIn (xVar 2) (xVar 1)) (xLit .non) (xBin fIx (xVar 0) (xVar 2))) aNil))))) aNil))) sNext)
def f_law_let : Fn := mkFn 2 3 m_law_let
theorem ok_law_let {k : Nat} (M : Mg mg) : ∀ ν p0, NuOk ν → SndB (cc P w K mg base ν p0 k n_law_let s_law_let) (defBody s_law_let) (m_law_let) := fun ν p0 hν =>
  (b_cons (st_ret (s_dict hν rfl M.dict (a_cons (s_l (l_comp (own := [("hand", 2)]) (blkOk_by (by dsimp only [cc, Ct.blk]; decide +kernel)) (i_iter (s_var (i := 0) rfl rfl)) (g_name (i := 2) rfl rfl rfl) (by decide) c_nil (s_tup (a_cons (s_var (i := 2) rfl rfl) (a_cons (s_if (t_cmp (o_in hν) (s_var (i := 2) rfl rfl) (s_var (i := 1) rfl rfl)) s_non (s_sub hν (s_var (i := 0) rfl rfl) (s_var (i := 2) rfl rfl))) a_nil))))) a_nil)))
    b_nil)
abbrev s_law_is_ring : Stmt := topS 52
abbrev n_law_is_ring : List Str := ["waits", "hand", "thing", "one", "two"]
theorem sc_law_is_ring : FnScope n_law_is_ring ["waits", "hand", "thing"] (defScope s_law_is_ring) := ⟨rfl, rfl, rfl, by decide +kernel, rfl, by decide +kernel, by decide +kernel⟩
def m_law_is_ring : Sx := (sSeq (sIf (xOr (xBin fEq (xVar 2) (xL (yLst aNil))) (xOr (xBin fNe (xBin fIx (xVar 2) (xLit (.int 0))) (xVar 1)) (xBin fNe (xB bLen (aCons (xCall 1 f_law_each_once (aCons (xVar 2) aNil)) aNil)) (xB bLen (aCons (xVar 2) aNil))))) (sSeq (sRet (xLit (.bl false))) sNext) sNext) (sSeq (sIf (xOr (xB bAny (aCons (xL (yComp [3] (yIter (xVar 2)) (tName 3) cYes (xBin fIsN (xBin fIx (xVar 0) (xVar 3)) (xLit .non)))) aNil)) (xNot (xB bAny (aCons (xL (yComp [3] (yIter (xBin fIx (xBin fIx (xVar 0) (xBin fIx (xVar 2) (xNeg (xLit (.int 1))))) (xLit (.int 1)))) (tName 3) cYes (xBin fIn (xVar 3) (xVar 2)))) aNil)))) (sSeq (sRet (xLit (.bl false))) sNext) sNext) (sSeq (sRet (xB bAll (aCons (xL (yComp [3, 4] (yZip (aCons (xVar 2) (aCons (xL (yCut (xVar 2) (pSome (xLit (.int 1))) pNo)) aNil))) (tTup [3, 4]) cYes (xBin fIn (xVar 4) (xBin fIx (xBin fIx (xVar 0) (xVar 3)) (xLit (.int 1)))))) aNil))) sNext)))
def f_law_is_ring : Fn := mkFn 3 5 m_law_is_ring
theorem ok_law_is_ring {k : Nat} (M : Mg mg) (C_law_each_once : Cl P w K mg base k "_law_each_once" 1 f_law_each_once) : ∀ ν p0, NuOk ν → SndB (cc P w K mg base ν p0 k n_law_is_ring s_law_is_ring) (defBody s_law_is_ring) (m_law_is_ring) := fun ν p0 hν =>
  (b_cons (st_if (t_w (w_or (t_cmp (o_eq hν) (s_var (i := 2) rfl rfl) (s_l (l_lst a_nil))) (w_or (t_cmp (o_ne hν) (s_sub hν (s_var (i := 2) rfl rfl) s_int) (s_var (i := 1) rfl rfl)) (w_or1 (t_cmp (o_ne hν) (s_blt b_len rfl M.len bt_len (a_cons (s_callC C_law_each_once (Nat.le_refl _) hν rfl (a_cons (s_var (i := 2) rfl rfl) a_nil)) a_nil)) (s_blt b_len rfl M.len bt_len (a_cons (s_var (i := 2) rfl rfl) a_nil))))))) (b_cons (st_ret s_bl)
    b_nil) b_nil)
    (b_cons (st_if (t_w (w_or (t_val (s_blt b_any rfl M.any bt_any (a_cons (s_l (l_comp (own := [("one", 3)]) (blkOk_by (by dsimp only [cc, Ct.blk]; decide +kernel)) (i_iter (s_var (i := 2) rfl rfl)) (g_name (i := 3) rfl rfl rfl) (by decide) c_nil (s_cmp o_isN (s_sub hν (s_var (i := 0) rfl rfl) (s_var (i := 3) rfl rfl)) s_non))) a_nil))) (w_or1 (t_not (t_val (s_blt b_any rfl M.any bt_any (a_cons (s_l (l_comp (own := [("one", 3)]) (blkOk_by (by dsimp only [cc, Ct.blk]; decide +kernel)) (i_iter (s_sub hν (s_sub hν (s_var (i := 0) rfl rfl) (s_sub hν (s_var (i := 2) rfl rfl) (s_neg s_int))) s_int)) (g_name (i := 3) rfl rfl rfl) (by decide) c_nil (s_cmp (o_in hν) (s_var (i := 3) rfl rfl) (s_var (i := 2) rfl rfl)))) a_nil))))))) (b_cons (st_ret s_bl)
    b_nil) b_nil)
    (b_cons (st_ret (s_blt b_all rfl M.all bt_all (a_cons (s_l (l_comp (own := [("one", 3), ("two", 4)]) (blkOk_by (by dsimp only [cc, Ct.blk]; decide +kernel)) (i_zip rfl M.zip (a_cons (s_var (i := 2) rfl rfl) (a_cons (s_l (l_cut (s_var (i := 2) rfl rfl) (p_some s_int) p_no)) a_nil))) (g_tup (is := [3, 4]) (.cons rfl rfl rfl (.cons rfl rfl rfl .nil))) (by decide) c_nil (s_cmp (o_in hν) (s_var (i := 4) rfl rfl) (s_sub hν (s_sub hν (s_var (i := 0) rfl rfl) (s_var (i := 3) rfl rfl)) s_int)))) a_nil)))
    b_nil)))
abbrev s_law_hands_right : Stmt := topS 53
abbrev n_law_hands_right : List Str := ["waits", "gone", "own", "hands", "whole", "hand", "told"]
theorem sc_law_hands_right : FnScope n_law_hands_right ["waits", "gone"] (defScope s_law_hands_right) := ⟨rfl, rfl, rfl, by decide +kernel, rfl, by decide +kernel, by decide +kernel⟩
def m_law_hands_right : Sx := (sSeq (sTup [2, 3] (mVal (xCall 1 (f_law_copied 10) (aCons (xVar 0) aNil)) (mVal (xL (yB bSorted (aCons (xVar 0) aNil))) mNil))) (sSeq (sSet 4 (xB bAll (aCons (xL (yComp [5] (yIter (xVar 3)) (tName 5) cYes (xOr (xBin fIsN (xBin fIx (xVar 0) (xVar 5)) (xLit .non)) (xBin fEq (xBin fIx (xBin fIx (xVar 0) (xVar 5)) (xLit (.int 0))) (xB bLen (aCons (xBin fIx (xBin fIx (xVar 0) (xVar 5)) (xLit (.int 1))) aNil)))))) aNil))) (sSeq (sFor (yIter (xVar 3)) (tName 5) (sSeq (sSet 6 (xCall 1 (f_law_copied 10) (aCons (xCall 2 f_order_or_knot (aCons (xVar 2) (aCons (xVar 5) aNil))) aNil))) (sSeq (sIf (xBin fNe (xBin fIx (xVar 6) (xLit (.int 0))) (xIf (xBin fIn (xVar 5) (xVar 1)) (xLit (.str "order")) (xLit (.str "knot")))) (sSeq (sRet (xLit (.bl false))) sNext) sNext) (sSeq (sIf (xAnd (xBin fIn (xVar 5) (xVar 1)) (xNot (xCall 3 f_law_w_is_order (aCons (xVar 0) (aCons (xVar 5) (aCons (xBin fIx (xVar 6) (xLit (.int 1))) aNil)))))) (sSeq (sRet (xLit (.bl false))) sNext) sNext) (sSeq (sIf (xAnd (xBin fNin (xVar 5) (xVar 1)) (xNot (xAnd (xBin fIn (xVar 5) (xBin fIx (xVar 6) (xLit (.int 1)))) (xCall 2 f_law_w_is_knot (aCons (xVar 0) (aCons (xBin fIx (xVar 6) (xLit (.int 1))) aNil)))))) (sSeq (sRet (xLit (.bl false))) sNext) sNext) (sSeq (sIf (xNot (xCall 2 (f_law_same 10) (aCons (xCall 3 f_is_order_or_knot (aCons (xVar 2) (aCons (xVar 5) (aCons (xVar 6) aNil)))) (aCons (xLit (.bl true)) aNil)))) (sSeq (sRet (xLit (.bl false))) sNext) sNext) (sSeq (sIf (xVar 4) (sSeq (sSet 6 (xCall 1 (f_law_copied 10) (aCons (xCall 2 f_ring_or_order (aCons (xVar 2) (aCons (xVar 5) aNil))) aNil))) (sSeq (sIf (xBin fNe (xBin fIx (xVar 6) (xLit (.int 0))) (xIf (xBin fIn (xVar 5) (xVar 1)) (xLit (.str "order")) (xLit (.str "ring")))) (sSeq (sRet (xLit (.bl false))) sNext) sNext) (sSeq (sIf (xAnd (xBin fNin (xVar 5) (xVar 1)) (xNot (xCall 3 f_law_is_ring (aCons (xVar 0) (aCons (xVar 5) (aCons (xL (yB bList (aCons (xBin fIx (xVar 6) (xLit (.int 1))) aNil))) aNil)))))) (sSeq (sRet (xLit (.bl false))) sNext) sNext) (sSeq (sIf (xAnd (xBin fIn (xVar 5) (xVar 1)) (xNot (xCall 3 f_law_w_is_order (aCons (xVar 0) (aCons (xVar 5) (aCons (xBin fIx (xVar 6) (xLit (.int 1))) aNil)))))) (sSeq (sRet (xLit (.bl false))) sNext) sNext) sNext)))) sNext) sNext))))))) (sSeq (sRet (xCall 2 (f_law_same 10) (aCons (xVar 2) (aCons (xVar 0) aNil)))) sNext))))
def f_law_hands_right : Fn := mkFn 2 7 m_law_hands_right
theorem ok_law_hands_right {k : Nat} (M : Mg mg) (C_order_or_knot : Cl P w K mg base k "order_or_knot" 2 f_order_or_knot) (C_is_order_or_knot : Cl P w K mg base k "is_order_or_knot" 3 f_is_order_or_knot) (C_ring_or_order : Cl P w K mg base k "ring_or_order" 2 f_ring_or_order) (C_law_copied : Cl P w K mg base k "_law_copied" 1 (f_law_copied 10)) (C_law_same : Cl P w K mg base k "_law_same" 2 (f_law_same 10)) (C_law_w_is_order : Cl P w K mg base k "_law_w_is_order" 3 f_law_w_is_order) (C_law_w_is_knot : Cl P w K mg base k "_law_w_is_knot" 2 f_law_w_is_knot) (C_law_is_ring : Cl P w K mg base k "_law_is_ring" 3 f_law_is_ring) : ∀ ν p0, NuOk ν → SndB (cc P w K mg base ν p0 k n_law_hands_right s_law_hands_right) (defBody s_law_hands_right) (m_law_hands_right) := fun ν p0 hν =>
  (b_cons (st_par (i := 2) (j := 3) rfl rfl (by decide) rfl rfl (m_val (s_callC C_law_copied (Nat.le_refl _) hν rfl (a_cons (s_var (i := 0) rfl rfl) a_nil)) (m_val (s_l (l_blt (b_sorted hν) rfl M.sorted bt_sorted (a_cons (s_var (i := 0) rfl rfl) a_nil))) m_nil)) (hw := fun env he => by cases env; cases he; rfl))
    (b_cons (st_set (i := 4) rfl rfl rfl (s_blt b_all rfl M.all bt_all (a_cons (s_l (l_comp (own := [("hand", 5)]) (blkOk_by (by dsimp only [cc, Ct.blk]; decide +kernel)) (i_iter (s_var (i := 3) rfl rfl)) (g_name (i := 5) rfl rfl rfl) (by decide) c_nil (s_or (s_cmp o_isN (s_sub hν (s_var (i := 0) rfl rfl) (s_var (i := 5) rfl rfl)) s_non) (s_one (s_cmp (o_eq hν) (s_sub hν (s_sub hν (s_var (i := 0) rfl rfl) (s_var (i := 5) rfl rfl)) s_int) (s_blt b_len rfl M.len bt_len (a_cons (s_sub hν (s_sub hν (s_var (i := 0) rfl rfl) (s_var (i := 5) rfl rfl)) s_int) a_nil))))))) a_nil)))
    (b_cons (st_for (i_iter (s_var (i := 3) rfl rfl)) (g_name (i := 5) rfl rfl rfl) (b_cons (st_set (i := 6) rfl rfl rfl (s_callC C_law_copied (Nat.le_refl _) hν rfl (a_cons (s_callC C_order_or_knot (Nat.le_refl _) hν rfl (a_cons (s_var (i := 2) rfl rfl) (a_cons (s_var (i := 5) rfl rfl) a_nil))) a_nil)))
    (b_cons (st_if (t_cmp (o_ne hν) (s_sub hν (s_var (i := 6) rfl rfl) s_int) (s_if (t_cmp (o_in hν) (s_var (i := 5) rfl rfl) (s_var (i := 1) rfl rfl)) s_str s_str)) (b_cons (st_ret s_bl)
    b_nil) b_nil)
    (b_cons (st_if (t_w (w_and (t_cmp (o_in hν) (s_var (i := 5) rfl rfl) (s_var (i := 1) rfl rfl)) (w_and1 (t_not (t_val (s_callC C_law_w_is_order (Nat.le_refl _) hν rfl (a_cons (s_var (i := 0) rfl rfl) (a_cons (s_var (i := 5) rfl rfl) (a_cons (s_sub hν (s_var (i := 6) rfl rfl) s_int) a_nil))))))))) (b_cons (st_ret s_bl)
    b_nil) b_nil)
    (b_cons (st_if (t_w (w_and (t_cmp (o_nin hν) (s_var (i := 5) rfl rfl) (s_var (i := 1) rfl rfl)) (w_and1 (t_not (t_w (w_and (t_cmp (o_in hν) (s_var (i := 5) rfl rfl) (s_sub hν (s_var (i := 6) rfl rfl) s_int)) (w_and1 (t_val (s_callC C_law_w_is_knot (Nat.le_refl _) hν rfl (a_cons (s_var (i := 0) rfl rfl) (a_cons (s_sub hν (s_var (i := 6) rfl rfl) s_int) a_nil))))))))))) (b_cons (st_ret s_bl)
    b_nil) b_nil)
    (b_cons (st_if (t_not (t_val (s_callC C_law_same (Nat.le_refl _) hν rfl (a_cons (s_callC C_is_order_or_knot (Nat.le_refl _) hν rfl (a_cons (s_var (i := 2) rfl rfl) (a_cons (s_var (i := 5) rfl rfl) (a_cons (s_var (i := 6) rfl rfl) a_nil)))) (a_cons s_bl a_nil))))) (b_cons (st_ret s_bl)
    b_nil) b_nil)
    (b_cons (st_if (t_val (s_var (i := 4) rfl rfl)) (b_cons (st_set (i := 6) rfl rfl rfl (s_callC C_law_copied (Nat.le_refl _) hν rfl (a_cons (s_callC C_ring_or_order (Nat.le_refl _) hν rfl (a_cons (s_var (i := 2) rfl rfl) (a_cons (s_var (i := 5) rfl rfl) a_nil))) a_nil)))
    (b_cons (st_if (t_cmp (o_ne hν) (s_sub hν (s_var (i := 6) rfl rfl) s_int) (s_if (t_cmp (o_in hν) (s_var (i := 5) rfl rfl) (s_var (i := 1) rfl rfl)) s_str s_str)) (b_cons (st_ret s_bl)
    b_nil) b_nil)
    (b_cons (st_if (t_w (w_and (t_cmp (o_nin hν) (s_var (i := 5) rfl rfl) (s_var (i := 1) rfl rfl)) (w_and1 (t_not (t_val (s_callC C_law_is_ring (Nat.le_refl _) hν rfl (a_cons (s_var (i := 0) rfl rfl) (a_cons (s_var (i := 5) rfl rfl) (a_cons (s_l (l_bty b_list rfl M.list bt_list (a_cons (s_sub hν (s_var (i := 6) rfl rfl) s_int) a_nil))) a_nil))))))))) (b_cons (st_ret s_bl)
    b_nil) b_nil)
    (b_cons (st_if (t_w (w_and (t_cmp (o_in hν) (s_var (i := 5) rfl rfl) (s_var (i := 1) rfl rfl)) (w_and1 (t_not (t_val (s_callC C_law_w_is_order (Nat.le_refl _) hν rfl (a_cons (s_var (i := 0) rfl rfl) (a_cons (s_var (i := 5) rfl rfl) (a_cons (s_sub hν (s_var (i := 6) rfl rfl) s_int) a_nil))))))))) (b_cons (st_ret s_bl)
    b_nil) b_nil)
    b_nil)))) b_nil)
    b_nil)))))))
    (b_cons (st_ret (s_callC C_law_same (Nat.le_refl _) hν rfl (a_cons (s_var (i := 2) rfl rfl) (a_cons (s_var (i := 0) rfl rfl) a_nil))))
    b_nil))))
abbrev s_law_lots_right : Stmt := topS 54
abbrev n_law_lots_right : List Str := ["waits", "gone", "lots", "own", "hands", "tied", "stuck_ones", "one", "found", "due", "able", "lot", "mine", "few", "told", "hand", "two"]
theorem sc_law_lots_right : FnScope n_law_lots_right ["waits", "gone", "lots"] (defScope s_law_lots_right) := ⟨rfl, rfl, rfl, by decide +kernel, rfl, by decide +kernel, by decide +kernel⟩
def m_law_lots_right : Sx := (sSeq (sTup [3, 4] (mVal (xCall 1 (f_law_copied 10) (aCons (xVar 0) aNil)) (mVal (xL (yB bSorted (aCons (xVar 0) aNil))) mNil))) (sSeq (sSet 5 (xL (yComp [11] (yIter (xVar 2)) (tName 11) (cOne (xAnd (xBin fNe (xVar 11) (xL (yLst aNil))) (xCall 2 f_law_w_is_knot (aCons (xVar 0) (aCons (xVar 11) aNil))))) (xVar 11)))) (sSeq (sSet 6 (xL (yComp [15] (yIter (xVar 4)) (tName 15) (cOne (xBin fNin (xVar 15) (xVar 1))) (xVar 15)))) (sSeq (sIf (xOr (xB bAny (aCons (xL (yComp [15] (yIter (xB bSum (aCons (xVar 5) (aCons (xL (yLst aNil)) aNil)))) (tName 15) cYes (xBin fNin (xVar 15) (xVar 6)))) aNil)) (xAnd (xBin fNe (xVar 6) (xL (yLst aNil))) (xBin fNin (xVar 6) (xVar 5)))) (sSeq (sRet (xLit (.bl false))) sNext) sNext) (sSeq (sFor (yIter (xVar 5)) (tName 7) (sSeq (sIf (xNot (xB bAll (aCons (xL (yComp [16] (yIter (xVar 5)) (tName 16) cYes (xBin fIn (xL (yB bSorted (aCons (xCall 1 f_law_each_once (aCons (xBin fAdd (xVar 7) (xVar 16)) aNil)) aNil))) (xVar 5)))) aNil))) (sSeq (sRet (xLit (.bl false))) sNext) sNext) sNext)) (sSeq (sTup [8, 9, 10] (mOwn (yLst aNil) (mOwn (yLst aNil) (mOwn (yLst aNil) mNil)))) (sSeq (sFor (yIter (xVar 2)) (tName 11) (sSeq (sSet 12 (xL (yB bSorted (aCons (xCall 1 f_law_w_gone (aCons (xCall 2 f_law_let (aCons (xVar 0) (aCons (xVar 11) aNil))) aNil)) aNil)))) (sSeq (sApp 8 (xCall 2 f_freed_by (aCons (xVar 3) (aCons (xL (yB bList (aCons (xVar 11) aNil))) aNil)))) (sSeq (sApp 9 (xVar 12)) (sSeq (sExt 10 (xIf (xBin fEq (xVar 12) (xVar 4)) (xL (yLst (aCons (xVar 11) aNil))) (xL (yLst aNil)))) sNext))))) (sSeq (sSet 13 (xBor 10 (xB bMin (aCons (xL (yComp [11] (yIter (xVar 10)) (tName 11) cYes (xB bLen (aCons (xVar 11) aNil)))) aNil)))) (sSeq (sSet 14 (xL (yB bList (aCons (xCall 1 f_lot_to_free (aCons (xVar 3) aNil)) aNil)))) (sSeq (sExt 8 (xL (yLst (aCons (xCall 1 f_fewest_to_free (aCons (xVar 3) aNil)) (aCons (xB bLen (aCons (xVar 14) aNil)) (aCons (xBor 10 (xBin fIn (xVar 14) (xVar 10))) (aCons (xB bAll (aCons (xL (yComp [15] (yIter (xVar 14)) (tName 15) cYes (xBin fIn (xVar 15) (xVar 6)))) aNil)) aNil))))))) (sSeq (sFrz 9 (sFrz 8 (sRet (xCall 2 (f_law_same 10) (aCons (xL (yLst (aCons (xVar 8) (aCons (xVar 3) aNil)))) (aCons (xL (yLst (aCons (xBin fAdd (xVar 9) (xL (yLst (aCons (xVar 13) (aCons (xVar 13) (aCons (xLit (.bl true)) (aCons (xLit (.bl true)) aNil))))))) (aCons (xVar 0) aNil)))) aNil)))))) sNext)))))))))))
def f_law_lots_right : Fn := mkFn 3 17 m_law_lots_right
theorem ok_law_lots_right {k : Nat} (M : Mg mg) (C_freed_by : Cl P w K mg base k "freed_by" 2 f_freed_by) (C_fewest_to_free : Cl P w K mg base k "fewest_to_free" 1 f_fewest_to_free) (C_lot_to_free : Cl P w K mg base k "lot_to_free" 1 f_lot_to_free) (C_law_copied : Cl P w K mg base k "_law_copied" 1 (f_law_copied 10)) (C_law_same : Cl P w K mg base k "_law_same" 2 (f_law_same 10)) (C_law_each_once : Cl P w K mg base k "_law_each_once" 1 f_law_each_once) (C_law_w_gone : Cl P w K mg base k "_law_w_gone" 1 f_law_w_gone) (C_law_w_is_knot : Cl P w K mg base k "_law_w_is_knot" 2 f_law_w_is_knot) (C_law_let : Cl P w K mg base k "_law_let" 2 f_law_let) : ∀ ν p0, NuOk ν → SndB (cc P w K mg base ν p0 k n_law_lots_right s_law_lots_right) (defBody s_law_lots_right) (m_law_lots_right) := fun ν p0 hν =>
  (b_cons (st_par (i := 3) (j := 4) rfl rfl (by decide) rfl rfl (m_val (s_callC C_law_copied (Nat.le_refl _) hν rfl (a_cons (s_var (i := 0) rfl rfl) a_nil)) (m_val (s_l (l_blt (b_sorted hν) rfl M.sorted bt_sorted (a_cons (s_var (i := 0) rfl rfl) a_nil))) m_nil)) (hw := fun env he => by cases env; cases he; rfl))
    (b_cons (st_setC (i := 5) rfl rfl rfl (s_l (l_comp (own := [("lot", 11)]) (blkOk_by (by dsimp only [cc, Ct.blk]; decide +kernel)) (i_iter (s_var (i := 2) rfl rfl)) (g_name (i := 11) rfl rfl rfl) (by decide) (c_one (t_w (w_and (t_cmp (o_ne hν) (s_var (i := 11) rfl rfl) (s_l (l_lst a_nil))) (w_and1 (t_val (s_callC C_law_w_is_knot (Nat.le_refl _) hν rfl (a_cons (s_var (i := 0) rfl rfl) (a_cons (s_var (i := 11) rfl rfl) a_nil)))))))) (s_var (i := 11) rfl rfl))) (fun _ he => sw_off he rfl))
    (b_cons (st_setC (i := 6) rfl rfl rfl (s_l (l_comp (own := [("hand", 15)]) (blkOk_by (by dsimp only [cc, Ct.blk]; decide +kernel)) (i_iter (s_var (i := 4) rfl rfl)) (g_name (i := 15) rfl rfl rfl) (by decide) (c_one (t_cmp (o_nin hν) (s_var (i := 15) rfl rfl) (s_var (i := 1) rfl rfl))) (s_var (i := 15) rfl rfl))) (fun _ he => sw_off he rfl))
    (b_cons (st_if (t_w (w_or (t_val (s_blt b_any rfl M.any bt_any (a_cons (s_l (l_comp (own := [("hand", 15)]) (blkOk_by (by dsimp only [cc, Ct.blk]; decide +kernel)) (i_iter (s_blt b_sum rfl M.sum bt_sum (a_cons (s_var (i := 5) rfl rfl) (a_cons (s_l (l_lst a_nil)) a_nil)))) (g_name (i := 15) rfl rfl rfl) (by decide) c_nil (s_cmp (o_nin hν) (s_var (i := 15) rfl rfl) (s_var (i := 6) rfl rfl)))) a_nil))) (w_or1 (t_w (w_and (t_cmp (o_ne hν) (s_var (i := 6) rfl rfl) (s_l (l_lst a_nil))) (w_and1 (t_cmp (o_nin hν) (s_var (i := 6) rfl rfl) (s_var (i := 5) rfl rfl)))))))) (b_cons (st_ret s_bl)
    b_nil) b_nil)
    (b_cons (st_for (i_iter (s_var (i := 5) rfl rfl)) (g_name (i := 7) rfl rfl rfl) (b_cons (st_if (t_not (t_val (s_blt b_all rfl M.all bt_all (a_cons (s_l (l_comp (own := [("two", 16)]) (blkOk_by (by dsimp only [cc, Ct.blk]; decide +kernel)) (i_iter (s_var (i := 5) rfl rfl)) (g_name (i := 16) rfl rfl rfl) (by decide) c_nil (s_cmp (o_in hν) (s_l (l_blt (b_sorted hν) rfl M.sorted bt_sorted (a_cons (s_callC C_law_each_once (Nat.le_refl _) hν rfl (a_cons (s_bin o_add (s_var (i := 7) rfl rfl) (s_var (i := 16) rfl rfl)) a_nil)) a_nil))) (s_var (i := 5) rfl rfl)))) a_nil)))) (b_cons (st_ret s_bl)
    b_nil) b_nil)
    b_nil))
    (b_cons (st_par3 (i := 8) (j := 9) (l := 10) rfl rfl rfl (by decide) (by decide) (by decide) rfl rfl rfl (m_own (l_lst a_nil) (m_own (l_lst a_nil) (m_own (l_lst a_nil) m_nil))) (hw := fun env he => by cases env; cases he; rfl))
    (b_cons (st_for (i_iter (s_var (i := 2) rfl rfl)) (g_name (i := 11) rfl rfl rfl) (b_cons (st_set (i := 12) rfl rfl rfl (s_l (l_blt (b_sorted hν) rfl M.sorted bt_sorted (a_cons (s_callC C_law_w_gone (Nat.le_refl _) hν rfl (a_cons (s_callC C_law_let (Nat.le_refl _) hν rfl (a_cons (s_var (i := 0) rfl rfl) (a_cons (s_var (i := 11) rfl rfl) a_nil))) a_nil)) a_nil))))
    (b_cons (st_app (i := 8) rfl rfl (s_callC C_freed_by (Nat.le_refl _) hν rfl (a_cons (s_var (i := 3) rfl rfl) (a_cons (s_l (l_bty b_list rfl M.list bt_list (a_cons (s_var (i := 11) rfl rfl) a_nil))) a_nil))))
    (b_cons (st_app (i := 9) rfl rfl (s_var (i := 12) rfl rfl))
    (b_cons (st_ext (i := 10) rfl rfl (s_if (t_cmp (o_eq hν) (s_var (i := 12) rfl rfl) (s_var (i := 4) rfl rfl)) (s_l (l_lst (a_cons (s_var (i := 11) rfl rfl) a_nil))) (s_l (l_lst a_nil))))
    b_nil)))))
    (b_cons (st_set (i := 13) rfl rfl rfl (s_bor 10 (s_blt b_min rfl M.min bt_min (a_cons (s_l (l_comp (own := [("lot", 11)]) (blkOk_by (by dsimp only [cc, Ct.blk]; decide +kernel)) (i_iter (s_var (i := 10) rfl rfl)) (g_name (i := 11) rfl rfl rfl) (by decide) c_nil (s_blt b_len rfl M.len bt_len (a_cons (s_var (i := 11) rfl rfl) a_nil)))) a_nil))))
    (b_cons (st_set (i := 14) rfl rfl rfl (s_l (l_bty b_list rfl M.list bt_list (a_cons (s_callC C_lot_to_free (Nat.le_refl _) hν rfl (a_cons (s_var (i := 3) rfl rfl) a_nil)) a_nil))))
    (b_cons (st_ext (i := 8) rfl rfl (s_l (l_lst (a_cons (s_callC C_fewest_to_free (Nat.le_refl _) hν rfl (a_cons (s_var (i := 3) rfl rfl) a_nil)) (a_cons (s_blt b_len rfl M.len bt_len (a_cons (s_var (i := 14) rfl rfl) a_nil)) (a_cons (s_bor 10 (s_cmp (o_in hν) (s_var (i := 14) rfl rfl) (s_var (i := 10) rfl rfl))) (a_cons (s_blt b_all rfl M.all bt_all (a_cons (s_l (l_comp (own := [("hand", 15)]) (blkOk_by (by dsimp only [cc, Ct.blk]; decide +kernel)) (i_iter (s_var (i := 14) rfl rfl)) (g_name (i := 15) rfl rfl rfl) (by decide) c_nil (s_cmp (o_in hν) (s_var (i := 15) rfl rfl) (s_var (i := 6) rfl rfl)))) a_nil)) a_nil)))))))
    (b_cons (st_frz 9 (st_frz 8 (st_ret (s_callC C_law_same (Nat.le_refl _) hν rfl (a_cons (s_l (l_lst (a_cons (s_var (i := 8) rfl rfl) (a_cons (s_var (i := 3) rfl rfl) a_nil)))) (a_cons (s_l (l_lst (a_cons (s_bin o_add (s_var (i := 9) rfl rfl) (s_l (l_lst (a_cons (s_var (i := 13) rfl rfl) (a_cons (s_var (i := 13) rfl rfl) (a_cons s_bl (a_cons s_bl a_nil))))))) (a_cons (s_var (i := 0) rfl rfl) a_nil)))) a_nil))))))
    b_nil)))))))))))
abbrev s_law_waits_right : Stmt := topS 55
abbrev n_law_waits_right : List Str := ["stream", "waits", "rounds_due", "gone", "hands", "own", "found", "due", "hand", "wait", "less", "more", "other", "later", "mine", "row", "one", "lot"]
theorem sc_law_waits_right : FnScope n_law_waits_right ["stream", "waits"] (defScope s_law_waits_right) := ⟨rfl, rfl, rfl, by decide +kernel, rfl, by decide +kernel, by decide +kernel⟩
def m_law_waits_right : Sx := (sSeq (sSet 2 (xL (yComp [15] (yIter (xCall 1 f_law_w_rounds (aCons (xVar 1) aNil))) (tName 15) cYes (xL (yB bSorted (aCons (xVar 15) aNil)))))) (sSeq (sTup [3, 4] (mVal (xL (yB bSorted (aCons (xB bSum (aCons (xVar 2) (aCons (xL (yLst aNil)) aNil))) aNil))) (mVal (xL (yB bSorted (aCons (xVar 1) aNil))) mNil))) (sSeq (sSet 5 (xCall 1 (f_law_copied 10) (aCons (xVar 1) aNil))) (sSeq (sOwn 6 (yLst (aCons (xCall 1 f_rounds (aCons (xVar 5) aNil)) (aCons (xCall 1 f_going_on (aCons (xVar 5) aNil)) (aCons (xCall 1 f_stuck (aCons (xVar 5) aNil)) aNil))))) (sSeq (sOwn 7 (yLst (aCons (xVar 2) (aCons (xVar 3) (aCons (xL (yComp [8] (yIter (xVar 4)) (tName 8) (cOne (xBin fNin (xVar 8) (xVar 3))) (xVar 8))) aNil))))) (sSeq (sFor (yIter (xVar 4)) (tName 8) (sSeq (sSet 9 (xBin fIx (xVar 1) (xVar 8))) (sSeq (sIf (xBin fNotN (xVar 9) (xLit .non)) (sSeq (sSet 10 (xIf (xBin fGt (xBin fIx (xVar 9) (xLit (.int 0))) (xLit (.int 1))) (xTup (aCons (xBin fSub (xBin fIx (xVar 9) (xLit (.int 0))) (xLit (.int 1))) (aCons (xL (yB bList (aCons (xBin fIx (xVar 9) (xLit (.int 1))) aNil))) aNil))) (xLit .non))) (sSeq (sSet 11 (xL (yComp [16] (yIter (xVar 4)) (tName 16) (cOne (xAnd (xBin fNe (xVar 16) (xVar 8)) (xBin fNin (xVar 16) (xBin fIx (xVar 9) (xLit (.int 1)))))) (xTup (aCons (xBin fIx (xVar 9) (xLit (.int 0))) (aCons (xL (yB bSorted (aCons (xBin fAdd (xBin fIx (xVar 9) (xLit (.int 1))) (xL (yLst (aCons (xVar 16) aNil)))) aNil))) aNil)))))) (sSeq (sFor (yIter (xBin fAdd (xL (yLst (aCons (xVar 10) aNil))) (xVar 11))) (tName 12) (sSeq (sSet 13 (xB bDict (aCons (xL (yComp [16] (yIter (xVar 4)) (tName 16) cYes (xTup (aCons (xVar 16) (aCons (xIf (xBin fEq (xVar 16) (xVar 8)) (xVar 12) (xBin fIx (xVar 1) (xVar 16))) aNil))))) aNil))) (sSeq (sSet 14 (xL (yB bSorted (aCons (xCall 1 f_law_w_gone (aCons (xVar 13) aNil)) aNil)))) (sSeq (sIf (xB bAny (aCons (xL (yComp [16] (yIter (xVar 3)) (tName 16) cYes (xBin fNin (xVar 16) (xVar 14)))) aNil)) (sSeq (sRet (xLit (.bl false))) sNext) sNext) (sSeq (sApp 6 (xCall 1 f_going_on (aCons (xCall 1 (f_law_copied 10) (aCons (xVar 13) aNil)) aNil))) (sSeq (sApp 7 (xVar 14)) sNext)))))) sNext))) sNext) sNext))) (sSeq (sIf (xNot (xBor 7 (xBor 6 (xCall 2 (f_law_same 10) (aCons (xL (yLst (aCons (xVar 6) (aCons (xVar 5) aNil)))) (aCons (xL (yLst (aCons (xVar 7) (aCons (xVar 1) aNil)))) aNil)))))) (sSeq (sRet (xLit (.bl false))) sNext) sNext) (sSeq (sRet (xAnd (xCall 2 f_law_hands_right (aCons (xVar 1) (aCons (xVar 3) aNil))) (xCall 3 f_law_lots_right (aCons (xVar 1) (aCons (xVar 3) (aCons (xL (yComp [17] (yIter (xCall 1 f_law_lots (aCons (xVar 4) aNil))) (tName 17) cYes (xL (yB bSorted (aCons (xVar 17) aNil))))) aNil)))))) sNext))))))))
def f_law_waits_right : Fn := mkFn 2 18 m_law_waits_right
theorem ok_law_waits_right {k : Nat} (M : Mg mg) (C_rounds : Cl P w K mg base k "rounds" 1 f_rounds) (C_going_on : Cl P w K mg base k "going_on" 1 f_going_on) (C_stuck : Cl P w K mg base k "stuck" 1 f_stuck) (C_law_copied : Cl P w K mg base k "_law_copied" 1 (f_law_copied 10)) (C_law_same : Cl P w K mg base k "_law_same" 2 (f_law_same 10)) (C_law_w_rounds : Cl P w K mg base k "_law_w_rounds" 1 f_law_w_rounds) (C_law_w_gone : Cl P w K mg base k "_law_w_gone" 1 f_law_w_gone) (C_law_lots : Cl P w K mg base k "_law_lots" 1 f_law_lots) (C_law_hands_right : Cl P w K mg base k "_law_hands_right" 2 f_law_hands_right) (C_law_lots_right : Cl P w K mg base k "_law_lots_right" 3 f_law_lots_right) : ∀ ν p0, NuOk ν → SndB (cc P w K mg base ν p0 k n_law_waits_right s_law_waits_right) (defBody s_law_waits_right) (m_law_waits_right) := fun ν p0 hν =>
  (b_cons (st_setLc (own := [("row", 15)]) (i := 2) rfl rfl (fun _ he => sw_on he rfl rfl rfl rfl) (blkOk_by (by dsimp only [cc, Ct.blk]; decide +kernel)) (i_iter (s_callC C_law_w_rounds (Nat.le_refl _) hν rfl (a_cons (s_var (i := 1) rfl rfl) a_nil))) (g_name (i := 15) rfl rfl rfl) (by decide) c_nil (s_l (l_blt (b_sorted hν) rfl M.sorted bt_sorted (a_cons (s_var (i := 15) rfl rfl) a_nil))))
    (b_cons (st_tupc (is := [3, 4]) (.cons rfl rfl rfl (.cons rfl rfl rfl .nil)) (m_val (s_l (l_blt (b_sorted hν) rfl M.sorted bt_sorted (a_cons (s_blt b_sum rfl M.sum bt_sum (a_cons (s_var (i := 2) rfl rfl) (a_cons (s_l (l_lst a_nil)) a_nil))) a_nil))) (m_val (s_l (l_blt (b_sorted hν) rfl M.sorted bt_sorted (a_cons (s_var (i := 1) rfl rfl) a_nil))) m_nil)) (by decide) (hw := fun env he => by cases env; cases he; rfl))
    (b_cons (st_set (i := 5) rfl rfl rfl (s_callC C_law_copied (Nat.le_refl _) hν rfl (a_cons (s_var (i := 1) rfl rfl) a_nil)))
    (b_cons (st_own (i := 6) rfl rfl rfl (l_lst (a_cons (s_callC C_rounds (Nat.le_refl _) hν rfl (a_cons (s_var (i := 5) rfl rfl) a_nil)) (a_cons (s_callC C_going_on (Nat.le_refl _) hν rfl (a_cons (s_var (i := 5) rfl rfl) a_nil)) (a_cons (s_callC C_stuck (Nat.le_refl _) hν rfl (a_cons (s_var (i := 5) rfl rfl) a_nil)) a_nil)))))
    (b_cons (st_own (i := 7) rfl rfl rfl (l_lst (a_cons (s_var (i := 2) rfl rfl) (a_cons (s_var (i := 3) rfl rfl) (a_cons (s_l (l_comp (own := [("hand", 8)]) (blkOk_by (by dsimp only [cc, Ct.blk]; decide +kernel)) (i_iter (s_var (i := 4) rfl rfl)) (g_name (i := 8) rfl rfl rfl) (by decide) (c_one (t_cmp (o_nin hν) (s_var (i := 8) rfl rfl) (s_var (i := 3) rfl rfl))) (s_var (i := 8) rfl rfl))) a_nil)))))
    (b_cons (st_for (i_iter (s_var (i := 4) rfl rfl)) (g_name (i := 8) rfl rfl rfl) (b_cons (st_set (i := 9) rfl rfl rfl (s_sub hν (s_var (i := 1) rfl rfl) (s_var (i := 8) rfl rfl)))
    (b_cons (st_if (t_cmp o_notN (s_var (i := 9) rfl rfl) s_non) (b_cons (st_set (i := 10) rfl rfl rfl (s_if (t_cmp (o_gt hν) (s_sub hν (s_var (i := 9) rfl rfl) s_int) s_int) (s_tup (a_cons (s_bin o_sub (s_sub hν (s_var (i := 9) rfl rfl) s_int) s_int) (a_cons (s_l (l_bty b_list rfl M.list bt_list (a_cons (s_sub hν (s_var (i := 9) rfl rfl) s_int) a_nil))) a_nil))) s_non))
    (b_cons (st_setLc (own := [("one", 16)]) (i := 11) rfl rfl (fun _ he => sw_on he rfl rfl rfl rfl) (blkOk_by (by dsimp only [cc, Ct.blk]; decide +kernel)) (i_iter (s_var (i := 4) rfl rfl)) (g_name (i := 16) rfl rfl rfl) (by decide) (c_one (t_w (w_and (t_cmp (o_ne hν) (s_var (i := 16) rfl rfl) (s_var (i := 8) rfl rfl)) (w_and1 (t_cmp (o_nin hν) (s_var (i := 16) rfl rfl) (s_sub hν (s_var (i := 9) rfl rfl) s_int)))))) (s_tup (a_cons (s_sub hν (s_var (i := 9) rfl rfl) s_int) (a_cons (s_l (l_blt (b_sorted hν) rfl M.sorted bt_sorted (a_cons (s_bin o_add (s_sub hν (s_var (i := 9) rfl rfl) s_int) (s_l (l_lst (a_cons (s_var (i := 16) rfl rfl) a_nil)))) a_nil))) a_nil))))
    (b_cons (st_for (i_iter (s_bin o_add (s_l (l_lst (a_cons (s_var (i := 10) rfl rfl) a_nil))) (s_var (i := 11) rfl rfl))) (g_name (i := 12) rfl rfl rfl) (b_cons (st_set (i := 13) rfl rfl rfl (s_dict hν rfl M.dict (a_cons (s_l (l_comp (own := [("one", 16)]) (blkOk_by (by dsimp only [cc, Ct.blk]; decide +kernel)) (i_iter (s_var (i := 4) rfl rfl)) (g_name (i := 16) rfl rfl rfl) (by decide) c_nil (s_tup (a_cons (s_var (i := 16) rfl rfl) (a_cons (s_if (t_cmp (o_eq hν) (s_var (i := 16) rfl rfl) (s_var (i := 8) rfl rfl)) (s_var (i := 12) rfl rfl) (s_sub hν (s_var (i := 1) rfl rfl) (s_var (i := 16) rfl rfl))) a_nil))))) a_nil)))
    (b_cons (st_set (i := 14) rfl rfl rfl (s_l (l_blt (b_sorted hν) rfl M.sorted bt_sorted (a_cons (s_callC C_law_w_gone (Nat.le_refl _) hν rfl (a_cons (s_var (i := 13) rfl rfl) a_nil)) a_nil))))
    (b_cons (st_if (t_val (s_blt b_any rfl M.any bt_any (a_cons (s_l (l_comp (own := [("one", 16)]) (blkOk_by (by dsimp only [cc, Ct.blk]; decide +kernel)) (i_iter (s_var (i := 3) rfl rfl)) (g_name (i := 16) rfl rfl rfl) (by decide) c_nil (s_cmp (o_nin hν) (s_var (i := 16) rfl rfl) (s_var (i := 14) rfl rfl)))) a_nil))) (b_cons (st_ret s_bl)
    b_nil) b_nil)
    (b_cons (st_app (i := 6) rfl rfl (s_callC C_going_on (Nat.le_refl _) hν rfl (a_cons (s_callC C_law_copied (Nat.le_refl _) hν rfl (a_cons (s_var (i := 13) rfl rfl) a_nil)) a_nil)))
    (b_cons (st_app (i := 7) rfl rfl (s_var (i := 14) rfl rfl))
    b_nil))))))
    b_nil))) b_nil)
    b_nil)))
    (b_cons (st_if (t_not (t_bor 7 (t_bor 6 (t_val (s_callC C_law_same (Nat.le_refl _) hν rfl (a_cons (s_l (l_lst (a_cons (s_var (i := 6) rfl rfl) (a_cons (s_var (i := 5) rfl rfl) a_nil)))) (a_cons (s_l (l_lst (a_cons (s_var (i := 7) rfl rfl) (a_cons (s_var (i := 1) rfl rfl) a_nil)))) a_nil))))))) (b_cons (st_ret s_bl)
    b_nil) b_nil)
    (b_cons (st_ret (s_and (s_callC C_law_hands_right (Nat.le_refl _) hν rfl (a_cons (s_var (i := 1) rfl rfl) (a_cons (s_var (i := 3) rfl rfl) a_nil))) (s_one (s_callC C_law_lots_right (Nat.le_refl _) hν rfl (a_cons (s_var (i := 1) rfl rfl) (a_cons (s_var (i := 3) rfl rfl) (a_cons (s_l (l_comp (own := [("lot", 17)]) (blkOk_by (by dsimp only [cc, Ct.blk]; decide +kernel)) (i_iter (s_callC C_law_lots (Nat.le_refl _) hν rfl (a_cons (s_var (i := 4) rfl rfl) a_nil))) (g_name (i := 17) rfl rfl rfl) (by decide) c_nil (s_l (l_blt (b_sorted hν) rfl M.sorted bt_sorted (a_cons (s_var (i := 17) rfl rfl) a_nil))))) a_nil)))))))
    b_nil))))))))
def pool5 : Nu := ["a", "b", "c1", "m", "zoe"]
abbrev s_law : Stmt := topS 56
abbrev n_law : List Str := ["script", "stream", "hands", "every", "gone", "counts", "waits", "hand", "one"]
theorem sc_law : FnScope n_law ["script"] (defScope s_law) := ⟨rfl, rfl, rfl, by decide +kernel, rfl, by decide +kernel, by decide +kernel⟩
def q_law_1 : Sx := (sSet 2 (xL (yB bSorted (aCons (xL (yCut (xCall 2 f_law_mixed (aCons (xVar 1) (aCons (xL (yLst (aCons (xLit (.atm 0)) (aCons (xLit (.atm 1)) (aCons (xLit (.atm 2)) (aCons (xLit (.atm 4)) (aCons (xLit (.atm 3)) aNil))))))) aNil))) pNo (pSome (xLit (.int 3))))) aNil))))
theorem st_law_1 {k : Nat} (M : Mg mg) (C_law_mixed : Cl P w K mg base k "_law_mixed" 2 f_law_mixed) (C_law_w_gone : Cl P w K mg base k "_law_w_gone" 1 f_law_w_gone) (C_law_every : Cl P w K mg base k "_law_every" 1 f_law_every) (C_law_waits_right : Cl P w K mg base k "_law_waits_right" 2 f_law_waits_right) : ∀ p0, NuOk pool5 → SndS (cc P w K mg base pool5 p0 k n_law s_law) ((defBody s_law).getD 1 (.Pass ⟨0, 0, 0, 0⟩)) q_law_1 := fun p0 hν =>
  (st_set (i := 2) rfl rfl rfl (s_l (l_blt (b_sorted hν) rfl M.sorted bt_sorted (a_cons (s_l (l_cut (s_callC C_law_mixed (Nat.le_refl _) hν rfl (a_cons (s_var (i := 1) rfl rfl) (a_cons (s_l (l_lst (a_cons (s_atm (n := 0) rfl) (a_cons (s_atm (n := 1) rfl) (a_cons (s_atm (n := 2) rfl) (a_cons (s_atm (n := 4) rfl) (a_cons (s_atm (n := 3) rfl) a_nil))))))) a_nil))) p_no (p_some s_int))) a_nil))))
def q_law_2 : Sx := (sSet 3 (xCall 1 f_law_every (aCons (xVar 2) aNil)))
def q_law_3 : Sx := (sSet 4 (xL (yComp [6] (yIter (xVar 3)) (tName 6) cYes (xL (yB bSorted (aCons (xCall 1 f_law_w_gone (aCons (xVar 6) aNil)) aNil))))))
def q_law_4 : Sx := (sOwn 5 (yLst (aCons (xB bLen (aCons (xVar 3) aNil)) (aCons (xB bLen (aCons (xL (yComp [8] (yIter (xVar 4)) (tName 8) (cOne (xBin fEq (xVar 8) (xVar 2))) (xVar 8))) aNil)) (aCons (xB bLen (aCons (xL (yComp [8] (yIter (xVar 4)) (tName 8) (cOne (xBin fEq (xVar 8) (xL (yLst aNil)))) (xVar 8))) aNil)) aNil)))))
def q_law_5 : Sx := (sExt 5 (xL (yComp [7] (yIter (xVar 2)) (tName 7) cYes (xB bLen (aCons (xL (yComp [8] (yIter (xVar 4)) (tName 8) (cOne (xBin fIn (xVar 7) (xVar 8))) (xVar 8))) aNil)))))
def q_law_6 : Sx := (sIf (xBor 5 (xBin fNe (xVar 5) (xL (yLst (aCons (xLit (.int 125)) (aCons (xLit (.int 49)) (aCons (xLit (.int 64)) (aCons (xLit (.int 53)) (aCons (xLit (.int 53)) (aCons (xLit (.int 53)) aNil)))))))))) (sSeq (sRet (xLit (.bl false))) sNext) sNext)
def q_law_7 : Sx := (sFor (yIter (xBin fAdd (xCall 1 (quietF f_law_every) (aCons (xL (yCut (xVar 2) pNo (pSome (xLit (.int 2))))) aNil)) (xL (yCut (xCall 2 f_law_mixed (aCons (xVar 1) (aCons (xVar 3) aNil))) pNo (pSome (xLit (.int 24))))))) (tName 6) (sSeq (sIf (xNot (xCall 2 (quietF f_law_waits_right) (aCons (xVar 1) (aCons (xVar 6) aNil)))) (sSeq (sRet (xLit (.bl false))) sNext) sNext) sNext))
def q_law_8 : Sx := (sRet (xLit (.bl true)))
def m_law_r : Sx := (sSeq (sQuiet q_law_2) (sSeq (sQuiet q_law_3) (sSeq (sQuiet q_law_4) (sSeq (sQuiet q_law_5) (sSeq (sQuiet q_law_6) (sSeq q_law_7 (sSeq q_law_8 sNext)))))))
theorem ok_law_r {k : Nat} (M : Mg mg) (C_law_mixed : Cl P w K mg base k "_law_mixed" 2 f_law_mixed) (C_law_w_gone : Cl P w K mg base k "_law_w_gone" 1 f_law_w_gone) (C_law_every : Cl P w K mg base k "_law_every" 1 f_law_every) (C_law_waits_right : Cl P w K mg base k "_law_waits_right" 2 f_law_waits_right) : ∀ ν p0, NuOk ν → SndB (cc P w K mg base ν p0 k n_law s_law) ((defBody s_law).drop 2) m_law_r := fun ν p0 hν =>
  (b_cons (st_quiet (st_set (i := 3) rfl rfl rfl (s_callC C_law_every (Nat.le_refl _) hν rfl (a_cons (s_var (i := 2) rfl rfl) a_nil))))
    (b_cons (st_quiet (st_setC (i := 4) rfl rfl rfl (s_l (l_comp (own := [("waits", 6)]) (blkOk_by (by dsimp only [cc, Ct.blk]; decide +kernel)) (i_iter (s_var (i := 3) rfl rfl)) (g_name (i := 6) rfl rfl rfl) (by decide) c_nil (s_l (l_blt (b_sorted hν) rfl M.sorted bt_sorted (a_cons (s_callC C_law_w_gone (Nat.le_refl _) hν rfl (a_cons (s_var (i := 6) rfl rfl) a_nil)) a_nil))))) (fun _ he => sw_off he rfl)))
    (b_cons (st_quiet (st_own (i := 5) rfl rfl rfl (l_lst (a_cons (s_blt b_len rfl M.len bt_len (a_cons (s_var (i := 3) rfl rfl) a_nil)) (a_cons (s_blt b_len rfl M.len bt_len (a_cons (s_l (l_comp (own := [("one", 8)]) (blkOk_by (by dsimp only [cc, Ct.blk]; decide +kernel)) (i_iter (s_var (i := 4) rfl rfl)) (g_name (i := 8) rfl rfl rfl) (by decide) (c_one (t_cmp (o_eq hν) (s_var (i := 8) rfl rfl) (s_var (i := 2) rfl rfl))) (s_var (i := 8) rfl rfl))) a_nil)) (a_cons (s_blt b_len rfl M.len bt_len (a_cons (s_l (l_comp (own := [("one", 8)]) (blkOk_by (by dsimp only [cc, Ct.blk]; decide +kernel)) (i_iter (s_var (i := 4) rfl rfl)) (g_name (i := 8) rfl rfl rfl) (by decide) (c_one (t_cmp (o_eq hν) (s_var (i := 8) rfl rfl) (s_l (l_lst a_nil)))) (s_var (i := 8) rfl rfl))) a_nil)) a_nil))))))
    (b_cons (st_quiet (st_ext (i := 5) rfl rfl (s_l (l_comp (own := [("hand", 7)]) (blkOk_by (by dsimp only [cc, Ct.blk]; decide +kernel)) (i_iter (s_var (i := 2) rfl rfl)) (g_name (i := 7) rfl rfl rfl) (by decide) c_nil (s_blt b_len rfl M.len bt_len (a_cons (s_l (l_comp (own := [("one", 8)]) (blkOk_by (by dsimp only [cc, Ct.blk]; decide +kernel)) (i_iter (s_var (i := 4) rfl rfl)) (g_name (i := 8) rfl rfl rfl) (by decide) (c_one (t_cmp (o_in hν) (s_var (i := 7) rfl rfl) (s_var (i := 8) rfl rfl))) (s_var (i := 8) rfl rfl))) a_nil))))))
    (b_cons (st_quiet (st_if (t_bor 5 (t_cmp (o_ne hν) (s_var (i := 5) rfl rfl) (s_l (l_lst (a_cons s_int (a_cons s_int (a_cons s_int (a_cons s_int (a_cons s_int (a_cons s_int a_nil)))))))))) (b_cons (st_ret s_bl)
    b_nil) b_nil))
    (b_cons (st_for (i_iter (s_bin o_add (s_callC (Cl.quiet C_law_every) (Nat.le_refl _) hν rfl (a_cons (s_l (l_cut (s_var (i := 2) rfl rfl) p_no (p_some s_int))) a_nil)) (s_l (l_cut (s_callC C_law_mixed (Nat.le_refl _) hν rfl (a_cons (s_var (i := 1) rfl rfl) (a_cons (s_var (i := 3) rfl rfl) a_nil))) p_no (p_some s_int))))) (g_name (i := 6) rfl rfl rfl) (b_cons (st_if (t_not (t_val (s_callC (Cl.quiet C_law_waits_right) (Nat.le_refl _) hν rfl (a_cons (s_var (i := 1) rfl rfl) (a_cons (s_var (i := 6) rfl rfl) a_nil))))) (b_cons (st_ret s_bl)
    b_nil) b_nil)
    b_nil))
    (b_cons (st_ret s_bl)
    b_nil)))))))
end
end Q

set_option Elab.async false
set_option linter.all false
set_option maxRecDepth 100000
set_option maxHeartbeats 4000000
/-! QR: what is drawn. -/
namespace Q
open PySem PySem.Spec PyProof.Rows L2

structure Good (z : Spr) : Prop where
  l : 0 ≤ z.left
  c0 : 0 ≤ z.cnt
  c1 : z.cnt ≤ 1000000
  m0 : 0 ≤ z.mix
  m1 : z.mix < 2147483648
  cs : z.cells.length ≤ 900
abbrev eD (many : Int) (s t u : Slot) : Env := [.val .strm, .val (.int many), s, t, u]
theorem mul_c {i j : Int} (h : -(2 ^ 64) < j ∧ j < 2 ^ 64) : fMul (.int i) (.int j) = some (.int (i * j)) := by
  simp only [fMul]
  rw [decide_eq_true (Or.inr h)]
theorem mul_l {i j : Int} (h : -(2 ^ 64) < i ∧ i < 2 ^ 64) : fMul (.int i) (.int j) = some (.int (i * j)) := by
  simp only [fMul]
  rw [decide_eq_true (Or.inl h)]
theorem mod_c {i j : Int} (h : 0 < j) : fMod (.int i) (.int j) = some (.int (i % j)) := by
  simp only [fMod]
  rw [decide_eq_true h]
theorem div_c {i j : Int} (h : 0 < j ∧ j < 2 ^ 64) : fDiv (.int i) (.int j) = some (.int (i / j)) := by
  simp only [fDiv]
  rw [decide_eq_true h]
theorem pow_c {i j : Int} (h : 0 ≤ j ∧ j ≤ 1000000 ∧ i.natAbs < 2 ^ 64) : fPow (.int i) (.int j) = some (.int (i ^ j.toNat)) := by
  simp only [fPow]
  rw [decide_eq_true h]
theorem wt_ok (many : Int) (s t u : Slot) (z : Spr) : wt_draw (eD many s t u) (some z) = some (.bl (decide (z.left = 0) && hasC z.cells), some z) := by
  by_cases h : z.left = 0
  · simp [wt_draw, xAnd, xBin, xSt, xVar, xLit, xStNe, fEq, fEqB, ob, h]
  · simp [wt_draw, xAnd, xBin, xSt, xVar, xLit, xStNe, fEq, fEqB, ob, h]
theorem wb_ok (many : Int) (s t u : Slot) (z : Spr) (a : Int) (r : List Int) (hz : z.cells = a :: r) :
    wb_draw (eD many s t u) (some z) = some (.nx (eD many (.val (.int a)) t u) (some ⟨r, if (1000000000000000000 : Int) ≤ a then a else 0, z.cnt, (z.mix * 70979 + a + 41) % 2147483647⟩)) := by
  have h1 : ∀ i : Int, fMul (.int i) (.int 70979) = some (.int (i * 70979)) := fun i => mul_c (by decide)
  have h2 : ∀ i : Int, fMod (.int i) (.int 2147483647) = some (.int (i % 2147483647)) := fun i => mod_c (by decide)
  have h3 : fPow (.int 10) (.int 18) = some (.int (10 ^ 18)) := pow_c (by decide)
  by_cases h : (1000000000000000000 : Int) ≤ a
  · simp [wb_draw, sSeq, sSet, sSt, xStPop, xVar, xLit, xIf, xBin, xSt, xB, bInt, aCons, aNil, fAdd, fGe, h1, h2, h3, hz, eD, sNext, h]
  · simp [wb_draw, sSeq, sSet, sSt, xStPop, xVar, xLit, xIf, xBin, xSt, xB, bInt, aCons, aNil, fAdd, fGe, h1, h2, h3, hz, eD, sNext, h]
theorem loop_ok (many : Int) (t u : Slot) : ∀ (n : Nat) (s : Slot) (z : Spr), Good z → z.cells.length < n → ∃ s' z', whileD wt_draw wb_draw n (eD many s t u) (some z) = some (.nx (eD many s' t u) (some z')) ∧ Good z' ∧ z'.cnt = z.cnt ∧ z'.cells.length ≤ z.cells.length
  | 0, _, _, _, h => by omega
  | n + 1, s, z, g, h => by
    unfold whileD
    rw [wt_ok]
    by_cases h0 : z.left = 0
    · cases hz : z.cells with
      | nil =>
        refine ⟨s, z, ?_, g, rfl, by rw [hz]; exact Nat.le_refl _⟩
        simp [h0, hasC]
      | cons a r =>
        have hb := wb_ok many s t u z a r hz
        have hl : z.cells.length = r.length + 1 := by rw [hz]; rfl
        have hcs := g.cs
        have g' : Good ⟨r, if (1000000000000000000 : Int) ≤ a then a else 0, z.cnt, (z.mix * 70979 + a + 41) % 2147483647⟩ := by
          refine ⟨?_, g.c0, g.c1, Int.emod_nonneg _ (by decide), ?_, by show r.length ≤ 900; omega⟩
          · show (0 : Int) ≤ if _ then _ else _
            split <;> omega
          · have := Int.emod_lt_of_pos (z.mix * 70979 + a + 41) (show (0 : Int) < 2147483647 by decide)
            show (z.mix * 70979 + a + 41) % 2147483647 < 2147483648
            omega
        obtain ⟨s', z', e, g2, c2, l2⟩ := loop_ok many t u n (.val (.int a)) _ g' (by show r.length < n; omega)
        refine ⟨s', z', ?_, g2, c2, by rw [List.length_cons]; exact Nat.le_succ_of_le l2⟩
        simp only [h0, hasC, decide_true, Bool.and_self, hb]
        exact e
    · refine ⟨s, z, ?_, g, rfl, Nat.le_refl _⟩
      simp [h0]
theorem draw_ok (many : Nat) (hm : 0 < many) (hm2 : many ≤ 1000000) (z : Spr) (g : Good z) (hc : z.cnt < 1000000) : ∃ (i : Nat) (z' : Spr), f_law_draw [.strm, .int many] (some z) = some (.int (.ofNat i), some z') ∧ i < many ∧ Good z' ∧ z'.cnt = z.cnt + 1 := by
  have g1 : Good ⟨z.cells, z.left, z.cnt + 1, z.mix⟩ := ⟨g.l, by have := g.c0; show 0 ≤ z.cnt + 1; omega, by show z.cnt + 1 ≤ 1000000; omega, g.m0, g.m1, g.cs⟩
  obtain ⟨s', z', e, g2, c2, _⟩ := loop_ok many .un .un 1000 .un _ g1 (by have := g.cs; show z.cells.length < 1000; omega)
  have c2 : z'.cnt = z.cnt + 1 := c2
  have hmi : (0 : Int) < (many : Int) := by omega
  have e0 : sSt 2 (xVar 0) (xBin fAdd (xSt 2 (xVar 0)) (xLit (.int 1))) (eD many .un .un .un) (some z) = some (.nx (eD many .un .un .un) (some ⟨z.cells, z.left, z.cnt + 1, z.mix⟩)) := by
    simp [sSt, xBin, xSt, xVar, xLit, fAdd, eD]
  have red : f_law_draw [.strm, .int many] (some z) = match m_law_draw (eD many .un .un .un) (some z) with
    | some (.rt d ω') => some (d, ω')
    | some (.nx _ ω') => some (.non, ω')
    | _ => none := rfl
  have fin : ∀ (a : Int), ∃ i : Nat, i < many ∧ a % (many : Int) = .ofNat i := fun a => by
    have h1 := Int.emod_nonneg a (show (many : Int) ≠ 0 by omega)
    have h2 := Int.emod_lt_of_pos a hmi
    exact ⟨(a % many).toNat, by omega, (Int.toNat_of_nonneg h1).symm⟩
  by_cases hp : 0 < z'.left
  · obtain ⟨i, hi, ei⟩ := fin z'.left
    refine ⟨i, ⟨z'.cells, z'.left / many, z'.cnt, z'.mix⟩, ?_, hi, ⟨Int.ediv_nonneg g2.l (by omega), g2.c0, g2.c1, g2.m0, g2.m1, g2.cs⟩, c2⟩
    have h2 : ∀ i : Int, fMod (.int i) (.int many) = some (.int (i % many)) := fun i => mod_c hmi
    have h3 : ∀ i : Int, fDiv (.int i) (.int many) = some (.int (i / many)) := fun i => div_c ⟨hmi, by omega⟩
    rw [red]
    unfold m_law_draw
    unfold sSeq
    rw [e0]
    simp only
    unfold sWhile
    rw [e]
    simp [sIf, sSet, sRet, sSt, xBin, xSt, xVar, xLit, fGt, xB, bInt, aCons, aNil, hp, h2, h3, ei, sNext, eD]
  · have hc0 := g2.c0
    have hc1 := g2.c1
    have hm0 := g2.m0
    have hm1 := g2.m1
    have p1 : fPow (.int (z'.mix + 9067 * z'.cnt + 180001)) (.int 5) = some (.int ((z'.mix + 9067 * z'.cnt + 180001) ^ 5)) := pow_c ⟨by decide, by decide, by omega⟩
    have q1 := Int.emod_nonneg ((z'.mix + 9067 * z'.cnt + 180001) ^ 5) (show (2147483629 : Int) ≠ 0 by decide)
    have q2 := Int.emod_lt_of_pos ((z'.mix + 9067 * z'.cnt + 180001) ^ 5) (show (0 : Int) < 2147483629 by decide)
    generalize hx : (z'.mix + 9067 * z'.cnt + 180001) ^ 5 % 2147483629 = x at q1 q2
    have p2 : fPow (.int (x * 62003 + 73009 * z'.cnt + 59)) (.int 3) = some (.int ((x * 62003 + 73009 * z'.cnt + 59) ^ 3)) := pow_c ⟨by decide, by decide, by omega⟩
    have m1 : ∀ i : Int, fMod (.int i) (.int 2147483629) = some (.int (i % 2147483629)) := fun i => mod_c (by decide)
    have m2 : ∀ i : Int, fMod (.int i) (.int 1000000007) = some (.int (i % 1000000007)) := fun i => mod_c (by decide)
    have m3 : ∀ i : Int, fMod (.int i) (.int many) = some (.int (i % many)) := fun i => mod_c hmi
    have l1 : ∀ i : Int, fMul (.int 9067) (.int i) = some (.int (9067 * i)) := fun i => mul_l (by decide)
    have l2 : ∀ i : Int, fMul (.int 73009) (.int i) = some (.int (73009 * i)) := fun i => mul_l (by decide)
    have l3 : ∀ i : Int, fMul (.int i) (.int 62003) = some (.int (i * 62003)) := fun i => mul_c (by decide)
    obtain ⟨i, hi, ei⟩ := fin ((x * 62003 + 73009 * z'.cnt + 59) ^ 3 % 1000000007)
    refine ⟨i, z', ?_, hi, g2, c2⟩
    rw [red]
    unfold m_law_draw
    unfold sSeq
    rw [e0]
    simp only
    unfold sWhile
    rw [e]
    simp [sIf, sSet, sRet, xBin, xSt, xVar, xLit, fGt, fAdd, xB, bInt, aCons, aNil, hp, p1, p2, m1, m2, m3, l1, l2, l3, hx, ei, sNext, eD]
end Q

set_option Elab.async false
set_option linter.all false
set_option maxRecDepth 100000
set_option maxHeartbeats 4000000
/-! QT: rows mixed. -/
namespace Q
open PySem PySem.Spec PyProof.Rows L2

def yD : Exs := aCons (xCall 2 f_law_draw (aCons (xVar 0) (aCons (xBor 2 (xB bLen (aCons (xVar 2) aNil))) aNil))) aNil
abbrev eM (x : D) (s t : Slot) : Env := [.val .strm, .val x, s, t]
theorem yD_ok (x : D) (cur : List D) (k : Int) (z z' : Spr) (i : Nat) (h : f_law_draw [.strm, .int cur.length] (some z) = some (.int (.ofNat i), some z')) : yD (eM x (.own cur) (.val (.int k))) (some z) = some ([.int (.ofNat i)], some z') := by
  simp [yD, aCons, aNil, xCall, xVar, xBor, xB, bLen, flat, eM, h]
theorem erase_perm : ∀ (xs : List D) (i : Nat) (h : i < xs.length), (xs[i] :: xs.eraseIdx i).Perm xs
  | x :: r, 0, _ => List.Perm.refl _
  | x :: r, i + 1, h => by
    have ih := erase_perm r i (by simpa using h)
    exact (List.Perm.swap x _ _).trans (List.Perm.cons x ih)
theorem pops_ok (x : D) (xs0 : List D) : ∀ (n : Nat) (lo : Int) (cur : List D) (z : Spr), cur.length = n → n ≤ 1000 → Good z → z.cnt + n ≤ 1000000 →
    ∃ ys z', popsD 2 (tName 3) yD (eM x (.own xs0) .un) (rangeD lo n) cur (some z) = some (ys, some z') ∧ ys.Perm cur ∧ Good z' ∧ z'.cnt = z.cnt + n
  | 0, lo, cur, z, hl, _, g, _ => by
    have : cur = [] := List.length_eq_zero_iff.mp hl
    subst this
    exact ⟨[], z, rfl, List.Perm.refl _, g, by omega⟩
  | n + 1, lo, cur, z, hl, hn, g, hc => by
    obtain ⟨i, z1, e, hi, g1, c1⟩ := draw_ok (n + 1) (by omega) (by omega) z g (by omega)
    have hi' : i < cur.length := by omega
    have hle : (cur.eraseIdx i).length = n := by rw [List.length_eraseIdx_of_lt hi']; omega
    obtain ⟨ys, z2, e2, p2, g2, c2⟩ := pops_ok x xs0 n (lo + 1) (cur.eraseIdx i) z1 hle (by omega) g1 (by rw [c1]; omega)
    refine ⟨cur[i] :: ys, z2, ?_, (List.Perm.cons _ p2).trans (erase_perm cur i hi'), g2, by rw [c2, c1]; push_cast; omega⟩
    have e' : f_law_draw [.strm, .int cur.length] (some z) = some (.int (.ofNat i), some z1) := by rw [hl]; exact e
    have hy := yD_ok x cur lo z z1 i e'
    have hb : Nat.blt i lim = true := by
      rw [Nat.blt_dec]
      exact decide_eq_true (by unfold lim; omega)
    show popsD 2 (tName 3) yD (eM x (.own xs0) .un) (.int lo :: rangeD (lo + 1) n) cur (some z) = _
    unfold popsD
    have ht : tName 3 (.int lo) ((eM x (.own xs0) .un).set 2 (.own cur)) = some (eM x (.own cur) (.val (.int lo))) := rfl
    rw [ht]
    simp only [hy, hb, List.getElem?_eq_getElem hi', e2]
theorem mkFn_rt {n N : Nat} {m : Sx} {ds : List D} {ω ω' : Om} {d : D} (hl : Nat.beq ds.length n = true) (e : m (ds.map Slot.val ++ List.replicate (N - n) Slot.un) ω = some (.rt d ω')) : mkFn n N m ds ω = some (d, ω') := by
  unfold mkFn
  rw [hl, e]
theorem range1_ok {y : Exs} {ρ : Env} {ω ω1 : Om} {n : Nat} (h : y ρ ω = some ([.int n], ω1)) (hn : n ≤ 1000) : yRange1 y ρ ω = some (rangeD 0 n, ω1) := by
  unfold yRange1
  rw [h]
  simp only [okR_n (show n ≤ 1000000 by omega), Int.toNat_natCast]
theorem sPops_ok {i : Nat} {vs : List Nat} {it : Exs} {t : Tg} {y : Exs} {ρ : Env} {ω ω1 ω2 : Om} {xs ks ds : List D} (h1 : (ρ : List Slot)[i]? = some (.own xs)) (h2 : it ρ ω = some (ks, ω1)) (h3 : Nat.ble ks.length lim = true) (h4 : popsD i t y (wipeE ρ vs) ks xs ω1 = some (ds, ω2)) :
    sPops i vs it t y ρ ω = some (.rt (.lst ds) ω2) := by
  unfold sPops
  simp only [h1, h2, h3, h4]
theorem seq_nx {x y : Sx} {ρ ρ1 : Env} {ω ω1 : Om} (h : x ρ ω = some (.nx ρ1 ω1)) : sSeq x y ρ ω = y ρ1 ω1 := by
  unfold sSeq
  rw [h]
theorem seq_rt {x y : Sx} {ρ : Env} {ω ω1 : Om} {d : D} (h : x ρ ω = some (.rt d ω1)) : sSeq x y ρ ω = some (.rt d ω1) := by
  unfold sSeq
  rw [h]
theorem mixed_ok (xs : List D) (hl : xs.length ≤ 1000) (z : Spr) (g : Good z) (hc : z.cnt + xs.length ≤ 1000000) : ∃ ys z', f_law_mixed [.strm, .lst xs] (some z) = some (.lst ys, some z') ∧ ys.Perm xs ∧ Good z' ∧ z'.cnt = z.cnt + xs.length := by
  obtain ⟨ys, z', e, p, g', c'⟩ := pops_ok (.lst xs) xs xs.length 0 xs z rfl hl g hc
  refine ⟨ys, z', mkFn_rt (n := 2) (N := 4) (m := m_law_mixed) (ds := [.strm, .lst xs]) rfl ?_, p, g', c'⟩
  refine (seq_nx (ρ1 := eM (.lst xs) (.own xs) .un) (ω1 := some z) rfl).trans (seq_rt (sPops_ok (i := 2) (vs := [3]) (xs := xs) rfl (range1_ok rfl hl) ?_ e))
  rw [rangeD_len]
  exact Nat.ble_eq_true_of_le (Nat.le_trans hl (by decide))
end Q

set_option Elab.async false
set_option linter.all false
set_option maxRecDepth 100000
set_option maxHeartbeats 4000000
/-! QU: the law's own statements, by what they compute. -/
namespace Q
open PySem PySem.Spec PyProof.Rows L2

/-! ### data alike -/
def all2 {α β : Type} (f : α → β → Bool) : List α → List β → Bool
  | [], [] => true
  | a :: as, b :: bs => match f a b with
    | true => all2 f as bs
    | false => false
  | _, _ => false
theorem all2_eq {α : Type} {f : α → α → Bool} (h : ∀ a b, f a b = true → a = b) : ∀ (as bs : List α), all2 f as bs = true → as = bs
  | [], [], _ => rfl
  | [], _ :: _, e => by cases e
  | _ :: _, [], e => by cases e
  | a :: as, b :: bs, e => by
    unfold all2 at e
    split at e
    · rename_i h1
      rw [h a b h1, all2_eq h as bs e]
    · cases e
def dsm : Nat → D → D → Bool
  | 0, _, _ => false
  | n + 1, a, b => match a, b with
    | .non, .non => true
    | .bl x, .bl y => x == y
    | .int i, .int j => decide (i = j)
    | .atm i, .atm j => Nat.beq i j
    | .lst xs, .lst ys => all2 (dsm n) xs ys
    | .tup xs, .tup ys => all2 (dsm n) xs ys
    | .dct xs, .dct ys => all2 (fun p q => match Nat.beq p.1 q.1 with | true => dsm n p.2 q.2 | false => false) xs ys
    | _, _ => false
theorem dsm_eq : ∀ (n : Nat) (a b : D), dsm n a b = true → a = b
  | 0, _, _, h => by cases h
  | n + 1, a, b, h => by
    have ih := dsm_eq n
    unfold dsm at h
    split at h
    · rfl
    · rw [eq_of_beq h]
    · rw [of_decide_eq_true h]
    · rw [Nat.eq_of_beq_eq_true h]
    · rw [all2_eq ih _ _ h]
    · rw [all2_eq ih _ _ h]
    · refine congrArg D.dct (all2_eq (fun p q e => ?_) _ _ h)
      split at e
      · rename_i h1
        have e1 := Nat.eq_of_beq_eq_true h1
        have e2 := ih _ _ e
        cases p; cases q; cases e1; cases e2; rfl
      · cases e
    · cases h

/-! ### steps -/
theorem xCall_ok {n : Nat} {f : Fn} {y : Exs} {ρ : Env} {ω ω1 ω2 : Om} {ds : List D} {d : D} (h : y ρ ω = some (ds, ω1)) (hn : Nat.beq ds.length n = true) (hf : f ds ω1 = some (d, ω2)) : xCall n f y ρ ω = some (d, ω2) := by
  unfold xCall
  simp only [h, hn, hf]
theorem quietF_ok {f : Fn} {ds : List D} {d : D} {ω : Om} (h : f ds none = some (d, none)) : quietF f ds ω = some (d, ω) := by
  unfold quietF
  simp only [h]
theorem aCons_ok {x : Ex} {y : Exs} {ρ : Env} {ω ω1 ω2 : Om} {d : D} {ds : List D} (h1 : x ρ ω = some (d, ω1)) (h2 : y ρ ω1 = some (ds, ω2)) : aCons x y ρ ω = some (d :: ds, ω2) := by
  unfold aCons
  simp only [h1, h2]
theorem yB_ok {f : List D → Option (List D)} {y : Exs} {ρ : Env} {ω ω1 : Om} {ds es : List D} (h : y ρ ω = some (ds, ω1)) (hf : f ds = some es) : yB f y ρ ω = some (es, ω1) := by
  unfold yB
  simp only [h, hf]
theorem xL_ok {y : Exs} {ρ : Env} {ω ω1 : Om} {ds : List D} (h : y ρ ω = some (ds, ω1)) : xL y ρ ω = some (.lst ds, ω1) := by
  unfold xL
  simp only [h]
theorem xBin_ok {f : D → D → Option D} {x y : Ex} {ρ : Env} {ω ω1 ω2 : Om} {a b d : D} (h1 : x ρ ω = some (a, ω1)) (h2 : y ρ ω1 = some (b, ω2)) (hf : f a b = some d) : xBin f x y ρ ω = some (d, ω2) := by
  unfold xBin
  simp only [h1, h2, hf]
theorem sSet_ok {i : Nat} {x : Ex} {ρ : Env} {ω ω1 : Om} {d : D} (h : x ρ ω = some (d, ω1)) : sSet i x ρ ω = some (.nx (ρ.set i (.val d)) ω1) := by
  unfold sSet
  simp only [h]
theorem cut3 (xs : List D) (n : Nat) : cutD xs none (some (n : Int)) = xs.take n := by
  unfold cutD
  rw [show HT.sIx xs.length 0 none = 0 from rfl, show HT.sIx xs.length xs.length (some (n : Int)) = min n xs.length from HT.sIx_nat xs.length xs.length n]
  rw [List.drop_zero, Nat.sub_zero]
  by_cases h : n ≤ xs.length
  · rw [Nat.min_eq_left h]
  · rw [Nat.min_eq_right (by omega), List.take_of_length_le (Nat.le_refl _), List.take_of_length_le (by omega)]
theorem yCut_ok {x : Ex} {ρ : Env} {ω ω1 : Om} {xs : List D} {n : Nat} (h : x ρ ω = some (.lst xs, ω1)) : yCut x pNo (pSome (xLit (.int n))) ρ ω = some (xs.take n, ω1) := by
  unfold yCut
  simp only [h]
  unfold pNo pSome xLit
  simp only [cut3]
theorem sFor_ok {it : Exs} {t : Tg} {x : Sx} {ρ : Env} {ω ω1 : Om} {ds : List D} (h : it ρ ω = some (ds, ω1)) : sFor it t x ρ ω = forD t x ds ρ ω1 := by
  unfold sFor
  simp only [h]
theorem yIter_ok {x : Ex} {ρ : Env} {ω ω1 : Om} {xs : List D} (h : x ρ ω = some (.lst xs, ω1)) : yIter x ρ ω = some (xs, ω1) := by
  unfold yIter
  simp only [h, iterD]
theorem xVar_ok {i : Nat} {ρ : Env} {ω : Om} {d : D} (h : (ρ : List Slot)[i]? = some (.val d)) : xVar i ρ ω = some (d, ω) := by
  unfold xVar
  simp only [h]
theorem add_ok {xs ys : List D} (h : xs.length + ys.length ≤ lim) : fAdd (.lst xs) (.lst ys) = some (.lst (xs ++ ys)) := by
  unfold fAdd
  simp only [Nat.ble_eq_true_of_le h]

/-! ### the hands -/
def unD : D → Nat
  | .atm n => n
  | _ => 0
def pool : List D := [.atm 0, .atm 1, .atm 2, .atm 4, .atm 3]
abbrev rho1 : Env := [.un, .val .strm, .un, .un, .un, .un, .un, .un, .un]
theorem atoms_map : ∀ ns : List Nat, atoms (ns.map .atm) = some ns
  | [] => rfl
  | n :: r => by
    have ih := atoms_map r
    show (match atoms (r.map .atm) with | some s => some (n :: s) | none => none) = _
    rw [ih]
theorem q1_ok (z : Spr) (g : Good z) (hc : z.cnt = 0) : ∃ (i j k : Nat) (z' : Spr), i < j ∧ j < k ∧ k < 5 ∧ Good z' ∧ z'.cnt = 5 ∧ q_law_1 rho1 (some z) = some (.nx (rho1.set 2 (.val (.lst [.atm i, .atm j, .atm k]))) (some z')) := by
  obtain ⟨ys, z', e, p, g', c'⟩ := mixed_ok pool (by decide) z g (by rw [hc]; decide)
  have hmem : ∀ y ∈ ys, D.atm (unD y) = y := fun y hy => by
    have h := p.mem_iff.mp hy
    simp only [pool, List.mem_cons, List.not_mem_nil, or_false] at h
    rcases h with rfl | rfl | rfl | rfl | rfl <;> rfl
  have hys : ys = (ys.map unD).map .atm := by
    rw [List.map_map]
    conv => lhs; rw [← List.map_id ys]
    exact List.map_congr_left fun y hy => (hmem y hy).symm
  have pn : (ys.map unD).Perm [0, 1, 2, 4, 3] := p.map unD
  generalize hn : ys.map unD = ns at hys pn
  have nd : ns.Nodup := pn.nodup_iff.mpr (by decide)
  have lt5 : ∀ n ∈ ns, n < 5 := fun n h => by
    have h := pn.mem_iff.mp h
    simp only [List.mem_cons, List.not_mem_nil, or_false] at h
    omega
  have ln : ns.length = 5 := by rw [pn.length_eq]; rfl
  have ps := sortN_perm (ns.take 3)
  have pw := sortN_pw (ns.take 3)
  have nd3 : (sortN (ns.take 3)).Nodup := ps.nodup_iff.mpr (nd.sublist (List.take_sublist _ _))
  have l3 : (sortN (ns.take 3)).length = 3 := by rw [ps.length_eq, List.length_take]; omega
  have lt3 : ∀ n ∈ sortN (ns.take 3), n < 5 := fun n h => lt5 n (List.mem_of_mem_take (ps.mem_iff.mp h))
  obtain ⟨i, j, k, hs⟩ : ∃ i j k, sortN (ns.take 3) = [i, j, k] := by
    match h : sortN (ns.take 3), l3 with
    | [i, j, k], _ => exact ⟨i, j, k, rfl⟩
  rw [hs] at pw nd3 lt3
  have hij : i < j := by
    have h1 : i ≤ j := (List.pairwise_cons.mp pw).1 j (by simp)
    have h2 : i ≠ j := fun e => (List.nodup_cons.mp nd3).1 (by rw [e]; simp)
    omega
  have hjk : j < k := by
    have pw2 := (List.pairwise_cons.mp pw).2
    have nd2 := (List.nodup_cons.mp nd3).2
    have h1 : j ≤ k := (List.pairwise_cons.mp pw2).1 k (by simp)
    have h2 : j ≠ k := fun e => (List.nodup_cons.mp nd2).1 (by rw [e]; simp)
    omega
  refine ⟨i, j, k, z', hij, hjk, lt3 k (by simp), g', by rw [c', hc]; rfl, ?_⟩
  have em : xCall 2 f_law_mixed (aCons (xVar 1) (aCons (xL (yLst (aCons (xLit (.atm 0)) (aCons (xLit (.atm 1)) (aCons (xLit (.atm 2)) (aCons (xLit (.atm 4)) (aCons (xLit (.atm 3)) aNil))))))) aNil)) rho1 (some z) = some (.lst ys, some z') :=
    xCall_ok (ds := [.strm, .lst pool]) rfl rfl e
  have es : bSorted [.lst (ys.take 3)] = some [.atm i, .atm j, .atm k] := by
    rw [hys, ← List.map_take]
    have hb : Nat.blt (ns.take 3).length 64 = true := by
      rw [Nat.blt_dec]; exact decide_eq_true (by rw [List.length_take]; omega)
    simp only [bSorted, atoms_map, hb, hs]
    rfl
  unfold q_law_1
  exact sSet_ok (xL_ok (yB_ok (aCons_ok (xL_ok (yCut_ok (n := 3) em)) rfl) es))
end Q

set_option Elab.async false
set_option linter.all false
set_option maxRecDepth 100000
set_option maxHeartbeats 4000000
/-! QX: the law's def. -/
namespace Q
open PySem PySem.Spec PyProof.Rows L2

abbrev h3 : D := .lst [.atm 0, .atm 1, .atm 2]
abbrev rho2 : Env := [.un, .val .strm, .val h3, .un, .un, .un, .un, .un, .un]

/-! ### defs behind the top -/
structure Dn (K : PySem.W.Frag) (mg : Str → Option Value) (x : Str) (st : Stmt) : Prop where
  ex : ∃ (f : Addr) (fd : FuncData), Fun K x x st f fd ∧ mg x = some (.ref f)
structure HasD (K : PySem.W.Frag) (x : Str) (st : Stmt) : Prop where
  ex : ∃ (f : Addr) (oc : Value) (od an : Option Addr) (osl : Array (Option Value)) (kV doc pm cdv ct : Value), PySem.W.nsIn K mainGlobals x = some (some (.ref f)) ∧ K.lookup f = some ⟨oc, od, .func (PySem.W.fnOf x x (defArgs st) (defBody st) (defScope st) .none kV doc pm an cdv ct), osl⟩ ∧
    PySem.W.codeIn K cdv x = true ∧ PySem.W.keepIn K (.ref f) = true
theorem HasD.of {K : PySem.W.Frag} {x : Str} {st : Stmt} {f : Addr} {oc : Value} {od an : Option Addr} {osl : Array (Option Value)} {kV doc pm cdv ct : Value} (a : PySem.W.nsIn K mainGlobals x = some (some (.ref f)))
    (l : K.lookup f = some ⟨oc, od, .func (PySem.W.fnOf x x (defArgs st) (defBody st) (defScope st) .none kV doc pm an cdv ct), osl⟩) (c : PySem.W.codeIn K cdv x = true) (k : PySem.W.keepIn K (.ref f) = true) : HasD K x st := ⟨f, oc, od, an, osl, kV, doc, pm, cdv, ct, a, l, c, k⟩
theorem HasD.dn {K : PySem.W.Frag} {mg : Str → Option Value} {h : Heap} {x : Str} {st : Stmt} (X : K.In h) (G : h.Ns mainGlobals mg) (D : HasD K x st) : Dn K mg x st := by
  obtain ⟨f, oc, od, an, osl, kV, doc, pm, cdv, ct, a, l, c, k⟩ := D.ex
  exact ⟨f, _, fun_mk l c k, PySem.W.mg_of X G a⟩
section
variable {P : Program} {w : World} {K : PySem.W.Frag} {mg : Str → Option Value} {base : Heap}
theorem Dn.cl {x : Str} {st : Stmt} {N ps : List Str} {k : Nat} {m : Sx} (D : Dn K mg x st) (hb : ∀ (kV doc pm : Value) (an : Option Addr) (cdv ct : Value) (us : List Value), us.length = ps.length → bindArgs (PySem.W.fnOf x x (defArgs st) (defBody st) (defScope st) .none kV doc pm an cdv ct) ⟨us, []⟩ = pure (ps.zip us))
    (S : FnScope N ps (defScope st)) (h : ∀ ν p0, NuOk ν → SndB (cc P w K mg base ν p0 k N st) (defBody st) m) : Cl P w K mg base (k + 1) x ps.length (mkFn ps.length N.length m) := by
  obtain ⟨f, fd, F, hm⟩ := D.ex
  exact cl_of F hm (F.binds hb) S h
theorem Dn.no {x : Str} {st : Stmt} {ps : List Str} {k : Nat} (D : Dn K mg x st) (hb : ∀ (kV doc pm : Value) (an : Option Addr) (cdv ct : Value) (us : List Value), us.length = ps.length → bindArgs (PySem.W.fnOf x x (defArgs st) (defBody st) (defScope st) .none kV doc pm an cdv ct) ⟨us, []⟩ = pure (ps.zip us)) : Cl P w K mg base k x ps.length fNo := by
  obtain ⟨f, fd, F, hm⟩ := D.ex
  exact cl_no F.kp hm (F.binds hb)

/-! ### the spring begins -/
abbrev s_start : Stmt := topS 37
theorem sc_start : FnScope ["script"] ["script"] (defScope s_start) := ⟨rfl, rfl, rfl, by decide +kernel, rfl, by decide +kernel, by decide +kernel⟩
def spStart (K : PySem.W.Frag) : Sp := fun vs H Q _ => ∃ (a : Addr) (ns : List Int), vs = [.ref a] ∧ SqL K H a (ns.map V.int) ∧ ∀ q p, H q = none → H p = none → q ≠ p → Q (.ref p) (upd (upd H q (.lst (ns.map V.int))) p (.lst [.ref q, .int 0, .int 0, .int 83]))
theorem start_ok {f : Addr} {fd : FuncData} {k : Nat} (F : Fun K "_law_start" "_law_start" s_start f fd) (M : Mg mg) : FnOk P w K mg base CX0 (k + 1) f fd ["script"] (spStart K) := by
  refine F.ok sc_start (fun vs H Q E h => ?_) (fun cdv A outer s H vs Q E hr h => ?_)
  · obtain ⟨a, ns, rfl, _⟩ := h; rfl
  · obtain ⟨a, ns, rfl, hS, q⟩ := h
    refine ⟨_, pss_one (ps_ret (pe_lst (pa_cons (pe_callTy call_list_of (by rfl) M.list bt_list (pa_cons (pv 0) pa_nil)) (pa_cons pe_int (pa_cons pe_int (pa_cons pe_int pa_nil)))))), ?_⟩
    refine ⟨.ref a, rfl, a, _, rfl, .inl hS, fun l hl => ⟨by show 4 ≤ sizeLine; decide, fun p hp => ?_⟩⟩
    have ne : l ≠ p := fun e => by rw [← e, upd_same] at hp; cases hp
    exact q l p hl (by rwa [upd_ne ne.symm] at hp) ne

/-! ### the names of three hands -/
def nuB (ν : Nu) : Bool := match ν with
  | [a, b, c] => decide (a.cps.toList < b.cps.toList) && decide (b.cps.toList < c.cps.toList) && decide (a.cps.toList < c.cps.toList) && ν.all PyData.strOk && ν.all fun x => decide (x ∈ poolN)
  | _ => false
theorem nuB_ok {ν : Nu} (h : nuB ν = true) : NuOk ν := by
  unfold nuB at h
  split at h
  · simp only [Bool.and_eq_true, decide_eq_true_eq] at h
    obtain ⟨⟨⟨⟨h1, h2⟩, h3⟩, h4⟩, h5⟩ := h
    refine ⟨fun x hx => of_decide_eq_true (List.all_eq_true.mp h5 x hx), ?_, fun x hx => List.all_eq_true.mp h4 x hx⟩
    refine List.pairwise_cons.mpr ⟨fun x hx => ?_, List.pairwise_cons.mpr ⟨fun x hx => ?_, List.pairwise_singleton _ _⟩⟩
    · simp only [List.mem_cons, List.not_mem_nil, or_false] at hx
      rcases hx with rfl | rfl
      · exact h1
      · exact h3
    · simp only [List.mem_cons, List.not_mem_nil, or_false] at hx
      subst hx
      exact h2
  · cases h
theorem pool5_ok : NuOk pool5 := ⟨by decide +kernel, by decide +kernel, by decide +kernel⟩
theorem three_ok : ∀ i < 5, ∀ j < 5, ∀ k < 5, i < j → j < k → nuB [nm pool5 i, nm pool5 j, nm pool5 k] = true := by decide +kernel
theorem pool5_at : ∀ i < 5, pool5[i]? = some (nm pool5 i) := by decide +kernel

/-! ### the law -/
def sdP (ν : Nu) (x : Sx) : TS := fun D σ H => ∃ p0, sd ν p0 x D σ H
def sdV (x : Sx) : TS := fun D σ H => ∃ ν p0, NuOk ν ∧ sd ν p0 x D σ H
def spLaw (K : PySem.W.Frag) : Sp := fun vs H Q _ => ∃ (a : Addr) (ns : List Int), vs = [.ref a] ∧ SqL K H a (ns.map V.int) ∧ ns.length ≤ 63 ∧ ∀ H', Q (.bl true) H'
theorem law_ok {f fS : Addr} {fd fdS : FuncData} {k : Nat} (F : Fun K "law" "law" s_law f fd) (FS : Fun K "_law_start" "_law_start" s_start fS fdS) (mS : mg "_law_start" = some (.ref fS)) (bS : Binds K fdS ["script"] []) (M : Mg mg) (hk : 1 ≤ k)
    (C_law_mixed : Cl P w K mg base k "_law_mixed" 2 f_law_mixed) (C_law_w_gone : Cl P w K mg base k "_law_w_gone" 1 f_law_w_gone) (C_law_every : Cl P w K mg base k "_law_every" 1 f_law_every) (C_law_waits_right : Cl P w K mg base k "_law_waits_right" 2 f_law_waits_right)
    (hrest : ∀ z, Good z → z.cnt = 5 → ∃ z', m_law_r rho2 (some z) = some (.rt (.bl true) (some z'))) : FnOk P w K mg base CX0 (k + 1) f fd ["script"] (spLaw K) := by
  refine F.ok sc_law (fun vs H Q E h => ?_) (fun cdv A outer s H vs Q E hr h => ?_)
  · obtain ⟨a, ns, rfl, _⟩ := h; rfl
  · obtain ⟨a, ns, rfl, hS, hl, q⟩ := h
    have FX : ∀ ν p0, Fits (cc P w K mg base ν p0 k n_law s_law) (cxOf CX0 P w K mg base n_law "law" (defScope s_law) f cdv A outer s H E).nox := fun ν p0 => ⟨rfl, rfl, rfl, rfl, rfl, rfl, rfl, rfl, rfl, hr, sc_law.nd⟩
    have GS : FnOk P w K mg base CX0 1 fS fdS ["script"] (spStart K) := start_ok FS M
    have P1 : PS (cxOf CX0 P w K mg base n_law "law" (defScope s_law) f cdv A outer s H E).nox ((defBody s_law).getD 1 (.Pass ⟨0, 0, 0, 0⟩)) (sdP pool5 q_law_1) := ⟨fun pins s σ H D I ⟨p0, q⟩ => (st_law_1 M C_law_mixed C_law_w_gone C_law_every C_law_waits_right p0 pool5_ok _ (FX pool5 p0)).run pins s σ H D I q⟩
    have P2 : PSs (cxOf CX0 P w K mg base n_law "law" (defScope s_law) f cdv A outer s H E).nox ((defBody s_law).drop 2) (sdV m_law_r) := ⟨fun pins s σ H D I ⟨ν, p0, hν, q⟩ => (ok_law_r M C_law_mixed C_law_w_gone C_law_every C_law_waits_right ν p0 hν _ (FX ν p0)).run pins s σ H D I q⟩
    refine ⟨_, pss_cons (ps_set (i := 1) sc_law.nd rfl (.inl rfl) (pe_call GS (hr.mono hk) (by rfl) mS FS.kp bS .nil pass0 (pa_cons (pv 0) pa_nil))) (pss_cons P1 P2), ?_⟩
    refine ⟨.ref a, rfl, a, ns, rfl, hS, fun c p hc hp ne => ?_⟩
    -- the spring stands
    have W0 : Wd p (fun _ _ => False) (fun _ => none) (upd (upd H c (.lst (ns.map V.int))) p (.lst [.ref c, .int 0, .int 0, .int 83])) (some ⟨ns, 0, 0, 83⟩) := by
      refine ⟨fun a u e => (by cases e), fun a u e => False.elim e, fun z hz => ?_⟩
      cases hz
      exact ⟨c, upd_same, (upd_ne ne).trans upd_same, ne, rfl, rfl, fun u => ⟨id, id⟩⟩
    have g0 : Good ⟨ns, 0, 0, 83⟩ := ⟨Int.le_refl _, Int.le_refl _, by show (0 : Int) ≤ 1000000; decide, by show (0 : Int) ≤ 83; decide, by show (83 : Int) < 2147483648; decide, by show ns.length ≤ 900; omega⟩
    obtain ⟨i, j, l, z1, hij, hjl, hl5, g1, c1, e1⟩ := q1_ok ⟨ns, 0, 0, 83⟩ g0 rfl
    have E0 : EnvX pool5 p (fun _ _ => False) (fun _ => none) ((L2.start n_law [V.ref a]).set 1 (some (.ref p))) rho1 := by
      refine ⟨rfl, fun n s hs => ?_, fun n m b xs ys h1 => ?_⟩
      · match n, hs with
        | 0, hs => cases hs; exact True.intro
        | 1, hs => cases hs; exact ⟨_, rfl, .strm⟩
        | 2, hs => cases hs; exact True.intro
        | 3, hs => cases hs; exact True.intro
        | 4, hs => cases hs; exact True.intro
        | 5, hs => cases hs; exact True.intro
        | 6, hs => cases hs; exact True.intro
        | 7, hs => cases hs; exact True.intro
        | 8, hs => cases hs; exact True.intro
        | n + 9, hs => simp at hs
      · match n, h1 with
        | 0, hs => cases hs
        | 1, hs => cases hs
        | 2, hs => cases hs
        | 3, hs => cases hs
        | 4, hs => cases hs
        | 5, hs => cases hs
        | 6, hs => cases hs
        | 7, hs => cases hs
        | 8, hs => cases hs
        | n + 9, hs => simp at hs
    refine ⟨p, rho1, _, _, _, _, e1, ⟨fun _ _ => False, W0.weak fun _ _ z => z.elim id id, E0, fun _ _ _ z _ => z⟩, fun σ' H' G' l' S' => ?_⟩
    -- the three hands by their own names
    have hν := nuB_ok (three_ok i (by omega) j (by omega) l hl5 hij hjl)
    obtain ⟨z2, e2⟩ := hrest z1 g1 c1
    obtain ⟨Ψ, W1, E1, sep⟩ := S'
    refine ⟨_, p, hν, rho2, some z1, _, fun _ _ => False, G', e2, ⟨Ψ, W1, ?_, sep⟩, fun v H2 G2 l2 W2 r2 => ?_⟩
    · refine ⟨E1.len, fun n s hs => ?_, fun n m b xs ys h1 => ?_⟩
      · match n, hs with
        | 0, hs => cases hs; exact True.intro
        | 1, hs =>
          cases hs
          obtain ⟨v, ev, rv⟩ := E1.ok 1 _ rfl
          cases rv
          exact ⟨_, ev, .strm⟩
        | 2, hs =>
          cases hs
          obtain ⟨v, ev, rv⟩ := E1.ok 2 _ rfl
          cases rv with
          | lst g s3 =>
            cases s3 with
            | cons ra s3 =>
              cases s3 with
              | cons rb s3 =>
                cases s3 with
                | cons rc s3 =>
                  cases s3
                  cases ra with
                  | atm ea =>
                    cases rb with
                    | atm eb =>
                      cases rc with
                      | atm ec =>
                        rw [pool5_at i (by omega)] at ea
                        rw [pool5_at j (by omega)] at eb
                        rw [pool5_at l hl5] at ec
                        cases ea; cases eb; cases ec
                        exact ⟨_, ev, .lst g (.cons (.atm rfl) (.cons (.atm rfl) (.cons (.atm rfl) .nil)))⟩
        | 3, hs => cases hs; exact True.intro
        | 4, hs => cases hs; exact True.intro
        | 5, hs => cases hs; exact True.intro
        | 6, hs => cases hs; exact True.intro
        | 7, hs => cases hs; exact True.intro
        | 8, hs => cases hs; exact True.intro
        | n + 9, hs => simp at hs
      · match n, h1 with
        | 0, hs => cases hs
        | 1, hs => cases hs
        | 2, hs => cases hs
        | 3, hs => cases hs
        | 4, hs => cases hs
        | 5, hs => cases hs
        | 6, hs => cases hs
        | 7, hs => cases hs
        | 8, hs => cases hs
        | n + 9, hs => simp at hs
    · cases r2
      exact q H2
end
end Q

set_option Elab.async false
set_option linter.all false
set_option maxRecDepth 1000000
set_option maxHeartbeats 0
/-! QV: all waits of three hands, looked through. -/
namespace Q
def v0 : List D := [.dct [(0, .non), (1, .non), (2, .non)],
  .dct [(0, .non), (1, .non), (2, .tup [.int 1, .lst [.atm 0]])],
  .dct [(0, .non), (1, .non), (2, .tup [.int 1, .lst [.atm 1]])],
  .dct [(0, .non), (1, .non), (2, .tup [.int 1, .lst [.atm 0, .atm 1]])],
  .dct [(0, .non), (1, .non), (2, .tup [.int 2, .lst [.atm 0, .atm 1]])]]
def v1 : List D := [.dct [(0, .non), (1, .tup [.int 1, .lst [.atm 0]]), (2, .non)],
  .dct [(0, .non), (1, .tup [.int 1, .lst [.atm 0]]), (2, .tup [.int 1, .lst [.atm 0]])],
  .dct [(0, .non), (1, .tup [.int 1, .lst [.atm 0]]), (2, .tup [.int 1, .lst [.atm 1]])],
  .dct [(0, .non), (1, .tup [.int 1, .lst [.atm 0]]), (2, .tup [.int 1, .lst [.atm 0, .atm 1]])],
  .dct [(0, .non), (1, .tup [.int 1, .lst [.atm 0]]), (2, .tup [.int 2, .lst [.atm 0, .atm 1]])]]
def v2 : List D := [.dct [(0, .non), (1, .tup [.int 1, .lst [.atm 2]]), (2, .non)],
  .dct [(0, .non), (1, .tup [.int 1, .lst [.atm 2]]), (2, .tup [.int 1, .lst [.atm 0]])],
  .dct [(0, .non), (1, .tup [.int 1, .lst [.atm 2]]), (2, .tup [.int 1, .lst [.atm 1]])],
  .dct [(0, .non), (1, .tup [.int 1, .lst [.atm 2]]), (2, .tup [.int 1, .lst [.atm 0, .atm 1]])],
  .dct [(0, .non), (1, .tup [.int 1, .lst [.atm 2]]), (2, .tup [.int 2, .lst [.atm 0, .atm 1]])]]
def v3 : List D := [.dct [(0, .non), (1, .tup [.int 1, .lst [.atm 0, .atm 2]]), (2, .non)],
  .dct [(0, .non), (1, .tup [.int 1, .lst [.atm 0, .atm 2]]), (2, .tup [.int 1, .lst [.atm 0]])],
  .dct [(0, .non), (1, .tup [.int 1, .lst [.atm 0, .atm 2]]), (2, .tup [.int 1, .lst [.atm 1]])],
  .dct [(0, .non), (1, .tup [.int 1, .lst [.atm 0, .atm 2]]), (2, .tup [.int 1, .lst [.atm 0, .atm 1]])],
  .dct [(0, .non), (1, .tup [.int 1, .lst [.atm 0, .atm 2]]), (2, .tup [.int 2, .lst [.atm 0, .atm 1]])]]
def v4 : List D := [.dct [(0, .non), (1, .tup [.int 2, .lst [.atm 0, .atm 2]]), (2, .non)],
  .dct [(0, .non), (1, .tup [.int 2, .lst [.atm 0, .atm 2]]), (2, .tup [.int 1, .lst [.atm 0]])],
  .dct [(0, .non), (1, .tup [.int 2, .lst [.atm 0, .atm 2]]), (2, .tup [.int 1, .lst [.atm 1]])],
  .dct [(0, .non), (1, .tup [.int 2, .lst [.atm 0, .atm 2]]), (2, .tup [.int 1, .lst [.atm 0, .atm 1]])],
  .dct [(0, .non), (1, .tup [.int 2, .lst [.atm 0, .atm 2]]), (2, .tup [.int 2, .lst [.atm 0, .atm 1]])]]
def v5 : List D := [.dct [(0, .tup [.int 1, .lst [.atm 1]]), (1, .non), (2, .non)],
  .dct [(0, .tup [.int 1, .lst [.atm 1]]), (1, .non), (2, .tup [.int 1, .lst [.atm 0]])],
  .dct [(0, .tup [.int 1, .lst [.atm 1]]), (1, .non), (2, .tup [.int 1, .lst [.atm 1]])],
  .dct [(0, .tup [.int 1, .lst [.atm 1]]), (1, .non), (2, .tup [.int 1, .lst [.atm 0, .atm 1]])],
  .dct [(0, .tup [.int 1, .lst [.atm 1]]), (1, .non), (2, .tup [.int 2, .lst [.atm 0, .atm 1]])]]
def v6 : List D := [.dct [(0, .tup [.int 1, .lst [.atm 1]]), (1, .tup [.int 1, .lst [.atm 0]]), (2, .non)],
  .dct [(0, .tup [.int 1, .lst [.atm 1]]), (1, .tup [.int 1, .lst [.atm 0]]), (2, .tup [.int 1, .lst [.atm 0]])],
  .dct [(0, .tup [.int 1, .lst [.atm 1]]), (1, .tup [.int 1, .lst [.atm 0]]), (2, .tup [.int 1, .lst [.atm 1]])],
  .dct [(0, .tup [.int 1, .lst [.atm 1]]), (1, .tup [.int 1, .lst [.atm 0]]), (2, .tup [.int 1, .lst [.atm 0, .atm 1]])],
  .dct [(0, .tup [.int 1, .lst [.atm 1]]), (1, .tup [.int 1, .lst [.atm 0]]), (2, .tup [.int 2, .lst [.atm 0, .atm 1]])]]
def v7 : List D := [.dct [(0, .tup [.int 1, .lst [.atm 1]]), (1, .tup [.int 1, .lst [.atm 2]]), (2, .non)],
  .dct [(0, .tup [.int 1, .lst [.atm 1]]), (1, .tup [.int 1, .lst [.atm 2]]), (2, .tup [.int 1, .lst [.atm 0]])],
  .dct [(0, .tup [.int 1, .lst [.atm 1]]), (1, .tup [.int 1, .lst [.atm 2]]), (2, .tup [.int 1, .lst [.atm 1]])],
  .dct [(0, .tup [.int 1, .lst [.atm 1]]), (1, .tup [.int 1, .lst [.atm 2]]), (2, .tup [.int 1, .lst [.atm 0, .atm 1]])],
  .dct [(0, .tup [.int 1, .lst [.atm 1]]), (1, .tup [.int 1, .lst [.atm 2]]), (2, .tup [.int 2, .lst [.atm 0, .atm 1]])]]
def v8 : List D := [.dct [(0, .tup [.int 1, .lst [.atm 1]]), (1, .tup [.int 1, .lst [.atm 0, .atm 2]]), (2, .non)],
  .dct [(0, .tup [.int 1, .lst [.atm 1]]), (1, .tup [.int 1, .lst [.atm 0, .atm 2]]), (2, .tup [.int 1, .lst [.atm 0]])],
  .dct [(0, .tup [.int 1, .lst [.atm 1]]), (1, .tup [.int 1, .lst [.atm 0, .atm 2]]), (2, .tup [.int 1, .lst [.atm 1]])],
  .dct [(0, .tup [.int 1, .lst [.atm 1]]), (1, .tup [.int 1, .lst [.atm 0, .atm 2]]), (2, .tup [.int 1, .lst [.atm 0, .atm 1]])],
  .dct [(0, .tup [.int 1, .lst [.atm 1]]), (1, .tup [.int 1, .lst [.atm 0, .atm 2]]), (2, .tup [.int 2, .lst [.atm 0, .atm 1]])]]
def v9 : List D := [.dct [(0, .tup [.int 1, .lst [.atm 1]]), (1, .tup [.int 2, .lst [.atm 0, .atm 2]]), (2, .non)],
  .dct [(0, .tup [.int 1, .lst [.atm 1]]), (1, .tup [.int 2, .lst [.atm 0, .atm 2]]), (2, .tup [.int 1, .lst [.atm 0]])],
  .dct [(0, .tup [.int 1, .lst [.atm 1]]), (1, .tup [.int 2, .lst [.atm 0, .atm 2]]), (2, .tup [.int 1, .lst [.atm 1]])],
  .dct [(0, .tup [.int 1, .lst [.atm 1]]), (1, .tup [.int 2, .lst [.atm 0, .atm 2]]), (2, .tup [.int 1, .lst [.atm 0, .atm 1]])],
  .dct [(0, .tup [.int 1, .lst [.atm 1]]), (1, .tup [.int 2, .lst [.atm 0, .atm 2]]), (2, .tup [.int 2, .lst [.atm 0, .atm 1]])]]
def v10 : List D := [.dct [(0, .tup [.int 1, .lst [.atm 2]]), (1, .non), (2, .non)],
  .dct [(0, .tup [.int 1, .lst [.atm 2]]), (1, .non), (2, .tup [.int 1, .lst [.atm 0]])],
  .dct [(0, .tup [.int 1, .lst [.atm 2]]), (1, .non), (2, .tup [.int 1, .lst [.atm 1]])],
  .dct [(0, .tup [.int 1, .lst [.atm 2]]), (1, .non), (2, .tup [.int 1, .lst [.atm 0, .atm 1]])],
  .dct [(0, .tup [.int 1, .lst [.atm 2]]), (1, .non), (2, .tup [.int 2, .lst [.atm 0, .atm 1]])]]
def v11 : List D := [.dct [(0, .tup [.int 1, .lst [.atm 2]]), (1, .tup [.int 1, .lst [.atm 0]]), (2, .non)],
  .dct [(0, .tup [.int 1, .lst [.atm 2]]), (1, .tup [.int 1, .lst [.atm 0]]), (2, .tup [.int 1, .lst [.atm 0]])],
  .dct [(0, .tup [.int 1, .lst [.atm 2]]), (1, .tup [.int 1, .lst [.atm 0]]), (2, .tup [.int 1, .lst [.atm 1]])],
  .dct [(0, .tup [.int 1, .lst [.atm 2]]), (1, .tup [.int 1, .lst [.atm 0]]), (2, .tup [.int 1, .lst [.atm 0, .atm 1]])],
  .dct [(0, .tup [.int 1, .lst [.atm 2]]), (1, .tup [.int 1, .lst [.atm 0]]), (2, .tup [.int 2, .lst [.atm 0, .atm 1]])]]
def v12 : List D := [.dct [(0, .tup [.int 1, .lst [.atm 2]]), (1, .tup [.int 1, .lst [.atm 2]]), (2, .non)],
  .dct [(0, .tup [.int 1, .lst [.atm 2]]), (1, .tup [.int 1, .lst [.atm 2]]), (2, .tup [.int 1, .lst [.atm 0]])],
  .dct [(0, .tup [.int 1, .lst [.atm 2]]), (1, .tup [.int 1, .lst [.atm 2]]), (2, .tup [.int 1, .lst [.atm 1]])],
  .dct [(0, .tup [.int 1, .lst [.atm 2]]), (1, .tup [.int 1, .lst [.atm 2]]), (2, .tup [.int 1, .lst [.atm 0, .atm 1]])],
  .dct [(0, .tup [.int 1, .lst [.atm 2]]), (1, .tup [.int 1, .lst [.atm 2]]), (2, .tup [.int 2, .lst [.atm 0, .atm 1]])]]
def v13 : List D := [.dct [(0, .tup [.int 1, .lst [.atm 2]]), (1, .tup [.int 1, .lst [.atm 0, .atm 2]]), (2, .non)],
  .dct [(0, .tup [.int 1, .lst [.atm 2]]), (1, .tup [.int 1, .lst [.atm 0, .atm 2]]), (2, .tup [.int 1, .lst [.atm 0]])],
  .dct [(0, .tup [.int 1, .lst [.atm 2]]), (1, .tup [.int 1, .lst [.atm 0, .atm 2]]), (2, .tup [.int 1, .lst [.atm 1]])],
  .dct [(0, .tup [.int 1, .lst [.atm 2]]), (1, .tup [.int 1, .lst [.atm 0, .atm 2]]), (2, .tup [.int 1, .lst [.atm 0, .atm 1]])],
  .dct [(0, .tup [.int 1, .lst [.atm 2]]), (1, .tup [.int 1, .lst [.atm 0, .atm 2]]), (2, .tup [.int 2, .lst [.atm 0, .atm 1]])]]
def v14 : List D := [.dct [(0, .tup [.int 1, .lst [.atm 2]]), (1, .tup [.int 2, .lst [.atm 0, .atm 2]]), (2, .non)],
  .dct [(0, .tup [.int 1, .lst [.atm 2]]), (1, .tup [.int 2, .lst [.atm 0, .atm 2]]), (2, .tup [.int 1, .lst [.atm 0]])],
  .dct [(0, .tup [.int 1, .lst [.atm 2]]), (1, .tup [.int 2, .lst [.atm 0, .atm 2]]), (2, .tup [.int 1, .lst [.atm 1]])],
  .dct [(0, .tup [.int 1, .lst [.atm 2]]), (1, .tup [.int 2, .lst [.atm 0, .atm 2]]), (2, .tup [.int 1, .lst [.atm 0, .atm 1]])],
  .dct [(0, .tup [.int 1, .lst [.atm 2]]), (1, .tup [.int 2, .lst [.atm 0, .atm 2]]), (2, .tup [.int 2, .lst [.atm 0, .atm 1]])]]
def v15 : List D := [.dct [(0, .tup [.int 1, .lst [.atm 1, .atm 2]]), (1, .non), (2, .non)],
  .dct [(0, .tup [.int 1, .lst [.atm 1, .atm 2]]), (1, .non), (2, .tup [.int 1, .lst [.atm 0]])],
  .dct [(0, .tup [.int 1, .lst [.atm 1, .atm 2]]), (1, .non), (2, .tup [.int 1, .lst [.atm 1]])],
  .dct [(0, .tup [.int 1, .lst [.atm 1, .atm 2]]), (1, .non), (2, .tup [.int 1, .lst [.atm 0, .atm 1]])],
  .dct [(0, .tup [.int 1, .lst [.atm 1, .atm 2]]), (1, .non), (2, .tup [.int 2, .lst [.atm 0, .atm 1]])]]
def v16 : List D := [.dct [(0, .tup [.int 1, .lst [.atm 1, .atm 2]]), (1, .tup [.int 1, .lst [.atm 0]]), (2, .non)],
  .dct [(0, .tup [.int 1, .lst [.atm 1, .atm 2]]), (1, .tup [.int 1, .lst [.atm 0]]), (2, .tup [.int 1, .lst [.atm 0]])],
  .dct [(0, .tup [.int 1, .lst [.atm 1, .atm 2]]), (1, .tup [.int 1, .lst [.atm 0]]), (2, .tup [.int 1, .lst [.atm 1]])],
  .dct [(0, .tup [.int 1, .lst [.atm 1, .atm 2]]), (1, .tup [.int 1, .lst [.atm 0]]), (2, .tup [.int 1, .lst [.atm 0, .atm 1]])],
  .dct [(0, .tup [.int 1, .lst [.atm 1, .atm 2]]), (1, .tup [.int 1, .lst [.atm 0]]), (2, .tup [.int 2, .lst [.atm 0, .atm 1]])]]
def v17 : List D := [.dct [(0, .tup [.int 1, .lst [.atm 1, .atm 2]]), (1, .tup [.int 1, .lst [.atm 2]]), (2, .non)],
  .dct [(0, .tup [.int 1, .lst [.atm 1, .atm 2]]), (1, .tup [.int 1, .lst [.atm 2]]), (2, .tup [.int 1, .lst [.atm 0]])],
  .dct [(0, .tup [.int 1, .lst [.atm 1, .atm 2]]), (1, .tup [.int 1, .lst [.atm 2]]), (2, .tup [.int 1, .lst [.atm 1]])],
  .dct [(0, .tup [.int 1, .lst [.atm 1, .atm 2]]), (1, .tup [.int 1, .lst [.atm 2]]), (2, .tup [.int 1, .lst [.atm 0, .atm 1]])],
  .dct [(0, .tup [.int 1, .lst [.atm 1, .atm 2]]), (1, .tup [.int 1, .lst [.atm 2]]), (2, .tup [.int 2, .lst [.atm 0, .atm 1]])]]
def v18 : List D := [.dct [(0, .tup [.int 1, .lst [.atm 1, .atm 2]]), (1, .tup [.int 1, .lst [.atm 0, .atm 2]]), (2, .non)],
  .dct [(0, .tup [.int 1, .lst [.atm 1, .atm 2]]), (1, .tup [.int 1, .lst [.atm 0, .atm 2]]), (2, .tup [.int 1, .lst [.atm 0]])],
  .dct [(0, .tup [.int 1, .lst [.atm 1, .atm 2]]), (1, .tup [.int 1, .lst [.atm 0, .atm 2]]), (2, .tup [.int 1, .lst [.atm 1]])],
  .dct [(0, .tup [.int 1, .lst [.atm 1, .atm 2]]), (1, .tup [.int 1, .lst [.atm 0, .atm 2]]), (2, .tup [.int 1, .lst [.atm 0, .atm 1]])],
  .dct [(0, .tup [.int 1, .lst [.atm 1, .atm 2]]), (1, .tup [.int 1, .lst [.atm 0, .atm 2]]), (2, .tup [.int 2, .lst [.atm 0, .atm 1]])]]
def v19 : List D := [.dct [(0, .tup [.int 1, .lst [.atm 1, .atm 2]]), (1, .tup [.int 2, .lst [.atm 0, .atm 2]]), (2, .non)],
  .dct [(0, .tup [.int 1, .lst [.atm 1, .atm 2]]), (1, .tup [.int 2, .lst [.atm 0, .atm 2]]), (2, .tup [.int 1, .lst [.atm 0]])],
  .dct [(0, .tup [.int 1, .lst [.atm 1, .atm 2]]), (1, .tup [.int 2, .lst [.atm 0, .atm 2]]), (2, .tup [.int 1, .lst [.atm 1]])],
  .dct [(0, .tup [.int 1, .lst [.atm 1, .atm 2]]), (1, .tup [.int 2, .lst [.atm 0, .atm 2]]), (2, .tup [.int 1, .lst [.atm 0, .atm 1]])],
  .dct [(0, .tup [.int 1, .lst [.atm 1, .atm 2]]), (1, .tup [.int 2, .lst [.atm 0, .atm 2]]), (2, .tup [.int 2, .lst [.atm 0, .atm 1]])]]
def v20 : List D := [.dct [(0, .tup [.int 2, .lst [.atm 1, .atm 2]]), (1, .non), (2, .non)],
  .dct [(0, .tup [.int 2, .lst [.atm 1, .atm 2]]), (1, .non), (2, .tup [.int 1, .lst [.atm 0]])],
  .dct [(0, .tup [.int 2, .lst [.atm 1, .atm 2]]), (1, .non), (2, .tup [.int 1, .lst [.atm 1]])],
  .dct [(0, .tup [.int 2, .lst [.atm 1, .atm 2]]), (1, .non), (2, .tup [.int 1, .lst [.atm 0, .atm 1]])],
  .dct [(0, .tup [.int 2, .lst [.atm 1, .atm 2]]), (1, .non), (2, .tup [.int 2, .lst [.atm 0, .atm 1]])]]
def v21 : List D := [.dct [(0, .tup [.int 2, .lst [.atm 1, .atm 2]]), (1, .tup [.int 1, .lst [.atm 0]]), (2, .non)],
  .dct [(0, .tup [.int 2, .lst [.atm 1, .atm 2]]), (1, .tup [.int 1, .lst [.atm 0]]), (2, .tup [.int 1, .lst [.atm 0]])],
  .dct [(0, .tup [.int 2, .lst [.atm 1, .atm 2]]), (1, .tup [.int 1, .lst [.atm 0]]), (2, .tup [.int 1, .lst [.atm 1]])],
  .dct [(0, .tup [.int 2, .lst [.atm 1, .atm 2]]), (1, .tup [.int 1, .lst [.atm 0]]), (2, .tup [.int 1, .lst [.atm 0, .atm 1]])],
  .dct [(0, .tup [.int 2, .lst [.atm 1, .atm 2]]), (1, .tup [.int 1, .lst [.atm 0]]), (2, .tup [.int 2, .lst [.atm 0, .atm 1]])]]
def v22 : List D := [.dct [(0, .tup [.int 2, .lst [.atm 1, .atm 2]]), (1, .tup [.int 1, .lst [.atm 2]]), (2, .non)],
  .dct [(0, .tup [.int 2, .lst [.atm 1, .atm 2]]), (1, .tup [.int 1, .lst [.atm 2]]), (2, .tup [.int 1, .lst [.atm 0]])],
  .dct [(0, .tup [.int 2, .lst [.atm 1, .atm 2]]), (1, .tup [.int 1, .lst [.atm 2]]), (2, .tup [.int 1, .lst [.atm 1]])],
  .dct [(0, .tup [.int 2, .lst [.atm 1, .atm 2]]), (1, .tup [.int 1, .lst [.atm 2]]), (2, .tup [.int 1, .lst [.atm 0, .atm 1]])],
  .dct [(0, .tup [.int 2, .lst [.atm 1, .atm 2]]), (1, .tup [.int 1, .lst [.atm 2]]), (2, .tup [.int 2, .lst [.atm 0, .atm 1]])]]
def v23 : List D := [.dct [(0, .tup [.int 2, .lst [.atm 1, .atm 2]]), (1, .tup [.int 1, .lst [.atm 0, .atm 2]]), (2, .non)],
  .dct [(0, .tup [.int 2, .lst [.atm 1, .atm 2]]), (1, .tup [.int 1, .lst [.atm 0, .atm 2]]), (2, .tup [.int 1, .lst [.atm 0]])],
  .dct [(0, .tup [.int 2, .lst [.atm 1, .atm 2]]), (1, .tup [.int 1, .lst [.atm 0, .atm 2]]), (2, .tup [.int 1, .lst [.atm 1]])],
  .dct [(0, .tup [.int 2, .lst [.atm 1, .atm 2]]), (1, .tup [.int 1, .lst [.atm 0, .atm 2]]), (2, .tup [.int 1, .lst [.atm 0, .atm 1]])],
  .dct [(0, .tup [.int 2, .lst [.atm 1, .atm 2]]), (1, .tup [.int 1, .lst [.atm 0, .atm 2]]), (2, .tup [.int 2, .lst [.atm 0, .atm 1]])]]
def v24 : List D := [.dct [(0, .tup [.int 2, .lst [.atm 1, .atm 2]]), (1, .tup [.int 2, .lst [.atm 0, .atm 2]]), (2, .non)],
  .dct [(0, .tup [.int 2, .lst [.atm 1, .atm 2]]), (1, .tup [.int 2, .lst [.atm 0, .atm 2]]), (2, .tup [.int 1, .lst [.atm 0]])],
  .dct [(0, .tup [.int 2, .lst [.atm 1, .atm 2]]), (1, .tup [.int 2, .lst [.atm 0, .atm 2]]), (2, .tup [.int 1, .lst [.atm 1]])],
  .dct [(0, .tup [.int 2, .lst [.atm 1, .atm 2]]), (1, .tup [.int 2, .lst [.atm 0, .atm 2]]), (2, .tup [.int 1, .lst [.atm 0, .atm 1]])],
  .dct [(0, .tup [.int 2, .lst [.atm 1, .atm 2]]), (1, .tup [.int 2, .lst [.atm 0, .atm 2]]), (2, .tup [.int 2, .lst [.atm 0, .atm 1]])]]
def ev3 : List D := v0 ++ (v1 ++ (v2 ++ (v3 ++ (v4 ++ (v5 ++ (v6 ++ (v7 ++ (v8 ++ (v9 ++ (v10 ++ (v11 ++ (v12 ++ (v13 ++ (v14 ++ (v15 ++ (v16 ++ (v17 ++ (v18 ++ (v19 ++ (v20 ++ (v21 ++ (v22 ++ (v23 ++ (v24))))))))))))))))))))))))
def ev2 : List D := [.dct [(0, .non), (1, .non)],
  .dct [(0, .non), (1, .tup [.int 1, .lst [.atm 0]])],
  .dct [(0, .tup [.int 1, .lst [.atm 1]]), (1, .non)],
  .dct [(0, .tup [.int 1, .lst [.atm 1]]), (1, .tup [.int 1, .lst [.atm 0]])]]
def okW (w : D) : Bool := match f_law_waits_right [.strm, w] none with
  | some (.bl true, none) => true
  | _ => false
theorem okW_ok {w : D} (h : okW w = true) : f_law_waits_right [.strm, w] none = some (.bl true, none) := by
  unfold okW at h
  split at h
  · assumption
  · cases h
theorem w0 : v0.all okW = true := by decide +kernel
theorem w1 : v1.all okW = true := by decide +kernel
theorem w2 : v2.all okW = true := by decide +kernel
theorem w3 : v3.all okW = true := by decide +kernel
theorem w4 : v4.all okW = true := by decide +kernel
theorem w5 : v5.all okW = true := by decide +kernel
theorem w6 : v6.all okW = true := by decide +kernel
theorem w7 : v7.all okW = true := by decide +kernel
theorem w8 : v8.all okW = true := by decide +kernel
theorem w9 : v9.all okW = true := by decide +kernel
theorem w10 : v10.all okW = true := by decide +kernel
theorem w11 : v11.all okW = true := by decide +kernel
theorem w12 : v12.all okW = true := by decide +kernel
theorem w13 : v13.all okW = true := by decide +kernel
theorem w14 : v14.all okW = true := by decide +kernel
theorem w15 : v15.all okW = true := by decide +kernel
theorem w16 : v16.all okW = true := by decide +kernel
theorem w17 : v17.all okW = true := by decide +kernel
theorem w18 : v18.all okW = true := by decide +kernel
theorem w19 : v19.all okW = true := by decide +kernel
theorem w20 : v20.all okW = true := by decide +kernel
theorem w21 : v21.all okW = true := by decide +kernel
theorem w22 : v22.all okW = true := by decide +kernel
theorem w23 : v23.all okW = true := by decide +kernel
theorem w24 : v24.all okW = true := by decide +kernel
theorem ev2_ok : ev2.all okW = true := by decide +kernel
theorem ev3_ok : ev3.all okW = true := by
  unfold ev3
  rw [List.all_append, List.all_append, List.all_append, List.all_append, List.all_append, List.all_append, List.all_append, List.all_append, List.all_append, List.all_append, List.all_append, List.all_append, List.all_append, List.all_append, List.all_append, List.all_append, List.all_append, List.all_append, List.all_append, List.all_append, List.all_append, List.all_append, List.all_append, List.all_append, w0, w1, w2, w3, w4, w5, w6, w7, w8, w9, w10, w11, w12, w13, w14, w15, w16, w17, w18, w19, w20, w21, w22, w23, w24]
  rfl
end Q

set_option Elab.async false
set_option linter.all false
set_option maxRecDepth 1000000
set_option maxHeartbeats 4000000
/-! QW: the rest of the law answers yes. -/
namespace Q
open PySem PySem.Spec PyProof.Rows L2

def nx1 (q : Sx) (ρ : Env) : Option Env := match q ρ none with
  | some (.nx ρ1 none) => some ρ1
  | _ => none
theorem quiet_nx {q : Sx} {ρ ρ1 : Env} {ω : Om} (h : nx1 q ρ = some ρ1) : sQuiet q ρ ω = some (.nx ρ1 ω) := by
  unfold nx1 at h
  unfold sQuiet
  split at h
  · rename_i e
    cases h
    simp only [e]
  · cases h
def chain5 (f2 f3 f4 f5 f6 : Env → Option Env) (chk : Env → Bool) (r : Env) : Bool := match f2 r with
  | some ra => match f3 ra with
    | some rb => match f4 rb with
      | some rc => match f5 rc with
        | some rd => match f6 rd with
          | some re => chk re
          | none => false
        | none => false
      | none => false
    | none => false
  | none => false
theorem chain5_ok {f2 f3 f4 f5 f6 : Env → Option Env} {chk : Env → Bool} {r : Env} (h : chain5 f2 f3 f4 f5 f6 chk r = true) : ∃ ra rb rc rd re, f2 r = some ra ∧ f3 ra = some rb ∧ f4 rb = some rc ∧ f5 rc = some rd ∧ f6 rd = some re ∧ chk re = true := by
  unfold chain5 at h
  split at h
  · rename_i ra e1
    split at h
    · rename_i rb e2
      split at h
      · rename_i rc e3
        split at h
        · rename_i rd e4
          split at h
          · rename_i re e5
            exact ⟨ra, rb, rc, rd, re, e1, e2, e3, e4, e5, h⟩
          · cases h
        · cases h
      · cases h
    · cases h
  · cases h
def chk7 (ev : List D) (ρ : Env) : Bool := match ρ with
  | [_, .val .strm, .val a, .val (.lst xs), _, _, _, _, _] => match dsm 9 a h3 with
    | true => all2 (dsm 9) xs ev
    | false => false
  | _ => false
theorem chk7_ok {ev : List D} {ρ : Env} (h : chk7 ev ρ = true) : ρ.length = 9 ∧ (ρ : List Slot)[1]? = some (.val .strm) ∧ (ρ : List Slot)[2]? = some (.val h3) ∧ (ρ : List Slot)[3]? = some (.val (.lst ev)) := by
  unfold chk7 at h
  split at h
  · split at h
    · rename_i e
      have e1 := dsm_eq 9 _ _ e
      have e2 := all2_eq (dsm_eq 9) _ _ h
      subst e1 e2
      exact ⟨rfl, rfl, rfl, rfl⟩
    · cases h
  · cases h
theorem seg_ok : chain5 (nx1 q_law_2) (nx1 q_law_3) (nx1 q_law_4) (nx1 q_law_5) (nx1 q_law_6) (chk7 ev3) rho2 = true := by decide +kernel
def evB (o : Option (D × Om)) (xs : List D) : Bool := match o with
  | some (.lst ys, none) => all2 (dsm 9) ys xs
  | _ => false
theorem evB_ok {o : Option (D × Om)} {xs : List D} (h : evB o xs = true) : o = some (.lst xs, none) := by
  unfold evB at h
  split at h
  · rw [all2_eq (dsm_eq 9) _ _ h]
  · cases h
theorem every2 : f_law_every [.lst [.atm 0, .atm 1]] none = some (.lst ev2, none) := evB_ok (by decide +kernel)
theorem len2 : ev2.length = 4 := by decide +kernel
theorem len3 : ev3.length = 125 := by decide +kernel
theorem all_ok {ys : List D} (h : ys.all okW = true) : ∀ w ∈ ys, f_law_waits_right [.strm, w] none = some (.bl true, none) := fun w hw => okW_ok (List.all_eq_true.mp h w hw)
theorem turn7 (ρ : Env) (ω : Om) (w : D) (h1 : (ρ : List Slot)[1]? = some (.val .strm)) (h6 : (ρ : List Slot)[6]? = some (.val w)) (h : f_law_waits_right [.strm, w] none = some (.bl true, none)) :
    sSeq (sIf (xNot (xCall 2 (quietF f_law_waits_right) (aCons (xVar 1) (aCons (xVar 6) aNil)))) (sSeq (sRet (xLit (.bl false))) sNext) sNext) sNext ρ ω = some (.nx ρ ω) := by
  have e : xCall 2 (quietF f_law_waits_right) (aCons (xVar 1) (aCons (xVar 6) aNil)) ρ ω = some (.bl true, ω) := xCall_ok (aCons_ok (xVar_ok h1) (aCons_ok (xVar_ok h6) rfl)) rfl (quietF_ok h)
  have e2 : xNot (xCall 2 (quietF f_law_waits_right) (aCons (xVar 1) (aCons (xVar 6) aNil))) ρ ω = some (.bl false, ω) := by
    unfold xNot
    simp only [e, Bool.not_true]
  refine (seq_nx (ρ1 := ρ) (ω1 := ω) ?_).trans rfl
  unfold sIf
  simp only [e2]
  rfl
theorem loop7 : ∀ (ds : List D) (ρ : Env) (ω : Om), (∀ w ∈ ds, f_law_waits_right [.strm, w] none = some (.bl true, none)) → (ρ : List Slot)[1]? = some (.val .strm) → ρ.length = 9 →
    ∃ ρ', forD (tName 6) (sSeq (sIf (xNot (xCall 2 (quietF f_law_waits_right) (aCons (xVar 1) (aCons (xVar 6) aNil)))) (sSeq (sRet (xLit (.bl false))) sNext) sNext) sNext) ds ρ ω = some (.nx ρ' ω)
  | [], ρ, ω, _, _, _ => ⟨ρ, rfl⟩
  | w :: ws, ρ, ω, h, h1, hl => by
    have h1' : (ρ.set 6 (.val w))[1]? = some (.val .strm) := by rw [List.getElem?_set_ne (by decide)]; exact h1
    have h6 : (ρ.set 6 (.val w))[6]? = some (.val w) := List.getElem?_set_self (by rw [hl]; decide)
    obtain ⟨ρ', e⟩ := loop7 ws (ρ.set 6 (.val w)) ω (fun v hv => h v (List.mem_cons_of_mem _ hv)) h1' (by rw [List.length_set]; exact hl)
    refine ⟨ρ', ?_⟩
    unfold forD
    unfold tName
    simp only [turn7 _ ω w h1' h6 (h w List.mem_cons_self)]
    exact e
theorem q7_ok (re : Env) (z : Spr) (g : Good z) (hc : z.cnt = 5) (hl : re.length = 9) (h1 : (re : List Slot)[1]? = some (.val .strm)) (h2 : (re : List Slot)[2]? = some (.val h3)) (h4 : (re : List Slot)[3]? = some (.val (.lst ev3))) :
    ∃ ρ' z', q_law_7 re (some z) = some (.nx ρ' (some z')) := by
  obtain ⟨ys, z', e, p, g', c'⟩ := mixed_ok ev3 (by rw [len3]; decide) z g (by rw [hc, len3]; decide)
  have hA : xCall 1 (quietF f_law_every) (aCons (xL (yCut (xVar 2) pNo (pSome (xLit (.int 2))))) aNil) re (some z) = some (.lst ev2, some z) := xCall_ok (aCons_ok (xL_ok (yCut_ok (n := 2) (xVar_ok h2))) rfl) rfl (quietF_ok every2)
  have hB : xL (yCut (xCall 2 f_law_mixed (aCons (xVar 1) (aCons (xVar 3) aNil))) pNo (pSome (xLit (.int 24)))) re (some z) = some (.lst (ys.take 24), some z') := xL_ok (yCut_ok (n := 24) (xCall_ok (aCons_ok (xVar_ok h1) (aCons_ok (xVar_ok h4) rfl)) rfl e))
  have hlen : ev2.length + (ys.take 24).length ≤ lim := by
    rw [len2, List.length_take]
    have : lim = 1000000 := rfl
    omega
  have all : ∀ w ∈ ev2 ++ ys.take 24, f_law_waits_right [.strm, w] none = some (.bl true, none) := fun w hw => by
    rcases List.mem_append.mp hw with h | h
    · exact all_ok ev2_ok w h
    · exact all_ok ev3_ok w (p.mem_iff.mp (List.mem_of_mem_take h))
  obtain ⟨ρ', e7⟩ := loop7 (ev2 ++ ys.take 24) re (some z') all h1 hl
  refine ⟨ρ', z', ?_⟩
  unfold q_law_7
  exact (sFor_ok (yIter_ok (xBin_ok hA hB (add_ok hlen)))).trans e7
theorem rest_ok (z : Spr) (g : Good z) (hc : z.cnt = 5) : ∃ z', m_law_r rho2 (some z) = some (.rt (.bl true) (some z')) := by
  obtain ⟨ra, rb, rc, rd, re, e2, e3, e4, e5, e6, ck⟩ := chain5_ok seg_ok
  obtain ⟨hl, h1, h2, h4⟩ := chk7_ok ck
  obtain ⟨ρ', z', e7⟩ := q7_ok re z g hc hl h1 h2 h4
  refine ⟨z', ?_⟩
  unfold m_law_r
  exact (seq_nx (quiet_nx e2)).trans ((seq_nx (quiet_nx e3)).trans ((seq_nx (quiet_nx e4)).trans ((seq_nx (quiet_nx e5)).trans ((seq_nx (quiet_nx e6)).trans ((seq_nx e7).trans (seq_rt rfl))))))
end Q

set_option Elab.async false
set_option linter.all false
set_option maxRecDepth 100000
set_option maxHeartbeats 4000000
/-! QZ: the end. -/
namespace Q
open PySem PySem.Spec PyProof.Rows L2
def isYes (o : Option (D × Om)) : Bool := match o with
  | some (.bl true, none) => true
  | _ => false
theorem isYes_ok {o : Option (D × Om)} (h : isYes o = true) : o = some (.bl true, none) := by
  unfold isYes at h
  split at h
  · rfl
  · cases h
theorem name_ok : ∀ y ∈ poolN, f_is_name [.str y] none = some (.bl true, none) := fun y hy => isYes_ok (List.all_eq_true.mp (show (poolN.all fun y => isYes (f_is_name [.str y] none)) = true by decide +kernel) y hy)
section
variable {P : Program} {w : World} {K : PySem.W.Frag} {mg : Str → Option Value} {base : Heap}
theorem rec_law_copied (M : Mg mg) (E : Dn K mg "_law_copied" s_law_copied) : ∀ n, Cl P w K mg base n "_law_copied" 1 (f_law_copied n)
  | 0 => E.no (ps := ["thing"]) (fun _ _ _ _ _ _ us hl => match us, hl with | [_], _ => rfl)
  | n + 1 => E.cl (ps := ["thing"]) (fun _ _ _ _ _ _ us hl => match us, hl with | [_], _ => rfl) sc_law_copied (ok_law_copied (f_law_copied n) M (rec_law_copied M E n))
theorem rec_law_same (M : Mg mg) (E : Dn K mg "_law_same" s_law_same) : ∀ n, Cl P w K mg base n "_law_same" 2 (f_law_same n)
  | 0 => E.no (ps := ["found", "due"]) (fun _ _ _ _ _ _ us hl => match us, hl with | [_, _], _ => rfl)
  | n + 1 => E.cl (ps := ["found", "due"]) (fun _ _ _ _ _ _ us hl => match us, hl with | [_, _], _ => rfl) sc_law_same (ok_law_same (f_law_same n) M (rec_law_same M E n))
end
theorem all_mk {l : PySem.W.OpenLaw} {w : World} {K : PySem.W.Frag} {h : Heap} {mg : Str → Option Value} {fa : Addr} (X : K.In h) (G : h.Ns mainGlobals mg) (hfa : mg "law" = some (.ref fa)) (d_is_list : HasD K "is_list" s_is_list) (d_is_integer : HasD K "is_integer" s_is_integer) (d_is_number : HasD K "is_number" s_is_number) (d_is_name : HasD K "is_name" s_is_name) (d_is_wait : HasD K "is_wait" s_is_wait) (d_checked_waits : HasD K "checked_waits" s_checked_waits) (d_lets_go : HasD K "lets_go" s_lets_go) (d_rounds_in : HasD K "rounds_in" s_rounds_in) (d_rounds : HasD K "rounds" s_rounds) (d_gone_in : HasD K "gone_in" s_gone_in) (d_going_on : HasD K "going_on" s_going_on) (d_stuck_in : HasD K "stuck_in" s_stuck_in) (d_stuck : HasD K "stuck" s_stuck) (d_waits_and_hand : HasD K "waits_and_hand" s_waits_and_hand) (d_order_to : HasD K "order_to" s_order_to) (d_order_or_knot : HasD K "order_or_knot" s_order_or_knot) (d_are_hands : HasD K "are_hands" s_are_hands) (d_is_order_to : HasD K "is_order_to" s_is_order_to) (d_is_knot : HasD K "is_knot" s_is_knot) (d_is_order_or_knot : HasD K "is_order_or_knot" s_is_order_or_knot) (d_waits_for_all : HasD K "waits_for_all" s_waits_for_all) (d_ring_or_order : HasD K "ring_or_order" s_ring_or_order) (d_let_go : HasD K "let_go" s_let_go) (d_freed_by : HasD K "freed_by" s_freed_by) (d_least_lot : HasD K "least_lot" s_least_lot) (d_fewest_to_free : HasD K "fewest_to_free" s_fewest_to_free) (d_lot_to_free : HasD K "lot_to_free" s_lot_to_free) (d_law_draw : HasD K "_law_draw" s_law_draw) (d_law_mixed : HasD K "_law_mixed" s_law_mixed) (d_law_copied : HasD K "_law_copied" s_law_copied) (d_law_same : HasD K "_law_same" s_law_same) (d_law_each_once : HasD K "_law_each_once" s_law_each_once) (d_law_w_rounds : HasD K "_law_w_rounds" s_law_w_rounds) (d_law_w_gone : HasD K "_law_w_gone" s_law_w_gone) (d_law_w_are_hands : HasD K "_law_w_are_hands" s_law_w_are_hands) (d_law_w_is_order : HasD K "_law_w_is_order" s_law_w_is_order) (d_law_w_is_knot : HasD K "_law_w_is_knot" s_law_w_is_knot) (d_law_options : HasD K "_law_options" s_law_options) (d_law_every : HasD K "_law_every" s_law_every) (d_law_lots : HasD K "_law_lots" s_law_lots) (d_law_let : HasD K "_law_let" s_law_let) (d_law_is_ring : HasD K "_law_is_ring" s_law_is_ring) (d_law_hands_right : HasD K "_law_hands_right" s_law_hands_right) (d_law_lots_right : HasD K "_law_lots_right" s_law_lots_right) (d_law_waits_right : HasD K "_law_waits_right" s_law_waits_right) (d_start : HasD K "_law_start" s_start) (d_law : HasD K "law" s_law) (z_len : PySem.W.nsIn K mainGlobals "len" = some none) (z_all : PySem.W.nsIn K mainGlobals "all" = some none) (z_any : PySem.W.nsIn K mainGlobals "any" = some none) (z_min : PySem.W.nsIn K mainGlobals "min" = some none) (z_sum : PySem.W.nsIn K mainGlobals "sum" = some none) (z_sorted : PySem.W.nsIn K mainGlobals "sorted" = some none) (z_list : PySem.W.nsIn K mainGlobals "list" = some none) (z_tuple : PySem.W.nsIn K mainGlobals "tuple" = some none) (z_dict : PySem.W.nsIn K mainGlobals "dict" = some none) (z_str : PySem.W.nsIn K mainGlobals "str" = some none) (z_int : PySem.W.nsIn K mainGlobals "int" = some none) (z_bool : PySem.W.nsIn K mainGlobals "bool" = some none) (z_isinstance : PySem.W.nsIn K mainGlobals "isinstance" = some none) (z_range : PySem.W.nsIn K mainGlobals "range" = some none) (z_enumerate : PySem.W.nsIn K mainGlobals "enumerate" = some none) (z_zip : PySem.W.nsIn K mainGlobals "zip" = some none) :
    ∃ fd : FuncData, (∀ (s : Shared) (v : Value), BindsTo s fd ⟨[v], []⟩ [("script", v)]) ∧ ∀ base : Heap, K.In base → base.Ns mainGlobals mg → FnOk l.prog w K mg base CX0 13 fa fd ["script"] (spLaw K) := by
  have M : Mg mg := ⟨PySem.W.mg_none_of X G z_len, PySem.W.mg_none_of X G z_all, PySem.W.mg_none_of X G z_any, PySem.W.mg_none_of X G z_min, PySem.W.mg_none_of X G z_sum, PySem.W.mg_none_of X G z_sorted, PySem.W.mg_none_of X G z_list, PySem.W.mg_none_of X G z_tuple, PySem.W.mg_none_of X G z_dict, PySem.W.mg_none_of X G z_str, PySem.W.mg_none_of X G z_int, PySem.W.mg_none_of X G z_bool, PySem.W.mg_none_of X G z_isinstance, PySem.W.mg_none_of X G z_range, PySem.W.mg_none_of X G z_enumerate, PySem.W.mg_none_of X G z_zip⟩
  obtain ⟨f, oc, od, an, osl, kV, doc, pm, cdv, ct, a1, l1, c1, k1⟩ := d_law.ex
  have e := hfa.symm.trans (PySem.W.mg_of X G a1)
  cases e
  refine ⟨PySem.W.fnOf "law" "law" (defArgs s_law) (defBody s_law) (defScope s_law) .none kV doc pm an cdv ct, fun s v => .of_eq rfl, fun base _ _ => ?_⟩
  obtain ⟨fS, fdS, FS, mS⟩ := (d_start.dn X G).ex
  have C_is_list : Cl l.prog w K mg base 1 "is_list" 1 f_is_list := (d_is_list.dn X G).cl (ps := ["thing"]) (fun _ _ _ _ _ _ us hl => match us, hl with | [_], _ => rfl) sc_is_list (ok_is_list (k := 0) M)
  have C_is_integer : Cl l.prog w K mg base 1 "is_integer" 1 f_is_integer := (d_is_integer.dn X G).cl (ps := ["thing"]) (fun _ _ _ _ _ _ us hl => match us, hl with | [_], _ => rfl) sc_is_integer (ok_is_integer (k := 0) M)
  have C_is_number : Cl l.prog w K mg base 2 "is_number" 1 f_is_number := (d_is_number.dn X G).cl (ps := ["thing"]) (fun _ _ _ _ _ _ us hl => match us, hl with | [_], _ => rfl) sc_is_number (ok_is_number (k := 1) M (C_is_integer.up (by decide)))
  have C_is_name : Cl l.prog w K mg base 1 "is_name" 1 fNm := Cl.name name_ok ((d_is_name.dn X G).cl (ps := ["thing"]) (fun _ _ _ _ _ _ us hl => match us, hl with | [_], _ => rfl) sc_is_name (ok_is_name (k := 0) M))
  have C_is_wait : Cl l.prog w K mg base 3 "is_wait" 3 f_is_wait := (d_is_wait.dn X G).cl (ps := ["thing", "hand", "waits"]) (fun _ _ _ _ _ _ us hl => match us, hl with | [_, _, _], _ => rfl) sc_is_wait (ok_is_wait (k := 2) M (C_is_list.up (by decide)) (C_is_number.up (by decide)))
  have C_checked_waits : Cl l.prog w K mg base 4 "checked_waits" 1 f_checked_waits := (d_checked_waits.dn X G).cl (ps := ["waits"]) (fun _ _ _ _ _ _ us hl => match us, hl with | [_], _ => rfl) sc_checked_waits (ok_checked_waits (k := 3) M (C_is_name.up (by decide)) (C_is_wait.up (by decide)))
  have C_lets_go : Cl l.prog w K mg base 1 "lets_go" 2 f_lets_go := (d_lets_go.dn X G).cl (ps := ["wait", "gone"]) (fun _ _ _ _ _ _ us hl => match us, hl with | [_, _], _ => rfl) sc_lets_go (ok_lets_go (k := 0) M)
  have C_rounds_in : Cl l.prog w K mg base 2 "rounds_in" 1 f_rounds_in := (d_rounds_in.dn X G).cl (ps := ["known"]) (fun _ _ _ _ _ _ us hl => match us, hl with | [_], _ => rfl) sc_rounds_in (ok_rounds_in (k := 1) M (C_lets_go.up (by decide)))
  have C_rounds : Cl l.prog w K mg base 5 "rounds" 1 f_rounds := (d_rounds.dn X G).cl (ps := ["waits"]) (fun _ _ _ _ _ _ us hl => match us, hl with | [_], _ => rfl) sc_rounds (ok_rounds (k := 4) M (C_checked_waits.up (by decide)) (C_rounds_in.up (by decide)))
  have C_gone_in : Cl l.prog w K mg base 3 "gone_in" 1 f_gone_in := (d_gone_in.dn X G).cl (ps := ["known"]) (fun _ _ _ _ _ _ us hl => match us, hl with | [_], _ => rfl) sc_gone_in (ok_gone_in (k := 2) M (C_rounds_in.up (by decide)))
  have C_going_on : Cl l.prog w K mg base 5 "going_on" 1 f_going_on := (d_going_on.dn X G).cl (ps := ["waits"]) (fun _ _ _ _ _ _ us hl => match us, hl with | [_], _ => rfl) sc_going_on (ok_going_on (k := 4) M (C_checked_waits.up (by decide)) (C_gone_in.up (by decide)))
  have C_stuck_in : Cl l.prog w K mg base 4 "stuck_in" 1 f_stuck_in := (d_stuck_in.dn X G).cl (ps := ["known"]) (fun _ _ _ _ _ _ us hl => match us, hl with | [_], _ => rfl) sc_stuck_in (ok_stuck_in (k := 3) M (C_gone_in.up (by decide)))
  have C_stuck : Cl l.prog w K mg base 5 "stuck" 1 f_stuck := (d_stuck.dn X G).cl (ps := ["waits"]) (fun _ _ _ _ _ _ us hl => match us, hl with | [_], _ => rfl) sc_stuck (ok_stuck (k := 4) M (C_checked_waits.up (by decide)) (C_stuck_in.up (by decide)))
  have C_waits_and_hand : Cl l.prog w K mg base 5 "waits_and_hand" 2 f_waits_and_hand := (d_waits_and_hand.dn X G).cl (ps := ["waits", "hand"]) (fun _ _ _ _ _ _ us hl => match us, hl with | [_, _], _ => rfl) sc_waits_and_hand (ok_waits_and_hand (k := 4) M (C_checked_waits.up (by decide)))
  have C_order_to : Cl l.prog w K mg base 4 "order_to" 2 f_order_to := (d_order_to.dn X G).cl (ps := ["known", "hand"]) (fun _ _ _ _ _ _ us hl => match us, hl with | [_, _], _ => rfl) sc_order_to (ok_order_to (k := 3) M (C_gone_in.up (by decide)))
  have C_order_or_knot : Cl l.prog w K mg base 6 "order_or_knot" 2 f_order_or_knot := (d_order_or_knot.dn X G).cl (ps := ["waits", "hand"]) (fun _ _ _ _ _ _ us hl => match us, hl with | [_, _], _ => rfl) sc_order_or_knot (ok_order_or_knot (k := 5) M (C_stuck_in.up (by decide)) (C_waits_and_hand.up (by decide)) (C_order_to.up (by decide)))
  have C_are_hands : Cl l.prog w K mg base 2 "are_hands" 2 f_are_hands := (d_are_hands.dn X G).cl (ps := ["known", "thing"]) (fun _ _ _ _ _ _ us hl => match us, hl with | [_, _], _ => rfl) sc_are_hands (ok_are_hands (k := 1) M (C_is_list.up (by decide)))
  have C_is_order_to : Cl l.prog w K mg base 3 "is_order_to" 3 f_is_order_to := (d_is_order_to.dn X G).cl (ps := ["known", "hand", "thing"]) (fun _ _ _ _ _ _ us hl => match us, hl with | [_, _, _], _ => rfl) sc_is_order_to (ok_is_order_to (k := 2) M (C_lets_go.up (by decide)) (C_are_hands.up (by decide)))
  have C_is_knot : Cl l.prog w K mg base 3 "is_knot" 2 f_is_knot := (d_is_knot.dn X G).cl (ps := ["known", "thing"]) (fun _ _ _ _ _ _ us hl => match us, hl with | [_, _], _ => rfl) sc_is_knot (ok_is_knot (k := 2) M (C_are_hands.up (by decide)))
  have C_is_order_or_knot : Cl l.prog w K mg base 6 "is_order_or_knot" 3 f_is_order_or_knot := (d_is_order_or_knot.dn X G).cl (ps := ["waits", "hand", "thing"]) (fun _ _ _ _ _ _ us hl => match us, hl with | [_, _, _], _ => rfl) sc_is_order_or_knot (ok_is_order_or_knot (k := 5) M (C_is_list.up (by decide)) (C_waits_and_hand.up (by decide)) (C_is_order_to.up (by decide)) (C_is_knot.up (by decide)))
  have C_waits_for_all : Cl l.prog w K mg base 6 "waits_for_all" 2 f_waits_for_all := (d_waits_for_all.dn X G).cl (ps := ["waits", "hand"]) (fun _ _ _ _ _ _ us hl => match us, hl with | [_, _], _ => rfl) sc_waits_for_all (ok_waits_for_all (k := 5) M (C_waits_and_hand.up (by decide)))
  have C_ring_or_order : Cl l.prog w K mg base 7 "ring_or_order" 2 f_ring_or_order := (d_ring_or_order.dn X G).cl (ps := ["waits", "hand"]) (fun _ _ _ _ _ _ us hl => match us, hl with | [_, _], _ => rfl) sc_ring_or_order (ok_ring_or_order (k := 6) M (C_gone_in.up (by decide)) (C_order_to.up (by decide)) (C_waits_for_all.up (by decide)))
  have C_let_go : Cl l.prog w K mg base 1 "let_go" 2 f_let_go := (d_let_go.dn X G).cl (ps := ["known", "lot"]) (fun _ _ _ _ _ _ us hl => match us, hl with | [_, _], _ => rfl) sc_let_go (ok_let_go (k := 0) M)
  have C_freed_by : Cl l.prog w K mg base 5 "freed_by" 2 f_freed_by := (d_freed_by.dn X G).cl (ps := ["waits", "lot"]) (fun _ _ _ _ _ _ us hl => match us, hl with | [_, _], _ => rfl) sc_freed_by (ok_freed_by (k := 4) M (C_is_list.up (by decide)) (C_checked_waits.up (by decide)) (C_gone_in.up (by decide)) (C_let_go.up (by decide)))
  have C_least_lot : Cl l.prog w K mg base 5 "least_lot" 1 f_least_lot := (d_least_lot.dn X G).cl (ps := ["known"]) (fun _ _ _ _ _ _ us hl => match us, hl with | [_], _ => rfl) sc_least_lot (ok_least_lot (k := 4) M (C_stuck_in.up (by decide)) (C_let_go.up (by decide)))
  have C_fewest_to_free : Cl l.prog w K mg base 6 "fewest_to_free" 1 f_fewest_to_free := (d_fewest_to_free.dn X G).cl (ps := ["waits"]) (fun _ _ _ _ _ _ us hl => match us, hl with | [_], _ => rfl) sc_fewest_to_free (ok_fewest_to_free (k := 5) M (C_checked_waits.up (by decide)) (C_least_lot.up (by decide)))
  have C_lot_to_free : Cl l.prog w K mg base 6 "lot_to_free" 1 f_lot_to_free := (d_lot_to_free.dn X G).cl (ps := ["waits"]) (fun _ _ _ _ _ _ us hl => match us, hl with | [_], _ => rfl) sc_lot_to_free (ok_lot_to_free (k := 5) M (C_checked_waits.up (by decide)) (C_least_lot.up (by decide)))
  have C_law_draw : Cl l.prog w K mg base 1 "_law_draw" 2 f_law_draw := (d_law_draw.dn X G).cl (ps := ["stream", "many"]) (fun _ _ _ _ _ _ us hl => match us, hl with | [_, _], _ => rfl) sc_law_draw (ok_law_draw (k := 0) M)
  have C_law_mixed : Cl l.prog w K mg base 2 "_law_mixed" 2 f_law_mixed := (d_law_mixed.dn X G).cl (ps := ["stream", "some"]) (fun _ _ _ _ _ _ us hl => match us, hl with | [_, _], _ => rfl) sc_law_mixed (ok_law_mixed (k := 1) M (C_law_draw.up (by decide)))
  have C_law_copied : Cl l.prog w K mg base 10 "_law_copied" 1 (f_law_copied 10) := rec_law_copied M (d_law_copied.dn X G) 10
  have C_law_same : Cl l.prog w K mg base 10 "_law_same" 2 (f_law_same 10) := rec_law_same M (d_law_same.dn X G) 10
  have C_law_each_once : Cl l.prog w K mg base 1 "_law_each_once" 1 f_law_each_once := (d_law_each_once.dn X G).cl (ps := ["things"]) (fun _ _ _ _ _ _ us hl => match us, hl with | [_], _ => rfl) sc_law_each_once (ok_law_each_once (k := 0) M)
  have C_law_w_rounds : Cl l.prog w K mg base 1 "_law_w_rounds" 1 f_law_w_rounds := (d_law_w_rounds.dn X G).cl (ps := ["waits"]) (fun _ _ _ _ _ _ us hl => match us, hl with | [_], _ => rfl) sc_law_w_rounds (ok_law_w_rounds (k := 0) M)
  have C_law_w_gone : Cl l.prog w K mg base 2 "_law_w_gone" 1 f_law_w_gone := (d_law_w_gone.dn X G).cl (ps := ["waits"]) (fun _ _ _ _ _ _ us hl => match us, hl with | [_], _ => rfl) sc_law_w_gone (ok_law_w_gone (k := 1) M (C_law_w_rounds.up (by decide)))
  have C_law_w_are_hands : Cl l.prog w K mg base 2 "_law_w_are_hands" 2 f_law_w_are_hands := (d_law_w_are_hands.dn X G).cl (ps := ["waits", "thing"]) (fun _ _ _ _ _ _ us hl => match us, hl with | [_, _], _ => rfl) sc_law_w_are_hands (ok_law_w_are_hands (k := 1) M (C_law_each_once.up (by decide)))
  have C_law_w_is_order : Cl l.prog w K mg base 3 "_law_w_is_order" 3 f_law_w_is_order := (d_law_w_is_order.dn X G).cl (ps := ["waits", "hand", "thing"]) (fun _ _ _ _ _ _ us hl => match us, hl with | [_, _, _], _ => rfl) sc_law_w_is_order (ok_law_w_is_order (k := 2) M (C_law_w_are_hands.up (by decide)))
  have C_law_w_is_knot : Cl l.prog w K mg base 3 "_law_w_is_knot" 2 f_law_w_is_knot := (d_law_w_is_knot.dn X G).cl (ps := ["waits", "thing"]) (fun _ _ _ _ _ _ us hl => match us, hl with | [_, _], _ => rfl) sc_law_w_is_knot (ok_law_w_is_knot (k := 2) M (C_law_w_are_hands.up (by decide)))
  have C_law_options : Cl l.prog w K mg base 1 "_law_options" 2 f_law_options := (d_law_options.dn X G).cl (ps := ["hand", "others"]) (fun _ _ _ _ _ _ us hl => match us, hl with | [_, _], _ => rfl) sc_law_options (ok_law_options (k := 0) M)
  have C_law_every : Cl l.prog w K mg base 2 "_law_every" 1 f_law_every := (d_law_every.dn X G).cl (ps := ["hands"]) (fun _ _ _ _ _ _ us hl => match us, hl with | [_], _ => rfl) sc_law_every (ok_law_every (k := 1) M (C_law_options.up (by decide)))
  have C_law_lots : Cl l.prog w K mg base 1 "_law_lots" 1 f_law_lots := (d_law_lots.dn X G).cl (ps := ["hands"]) (fun _ _ _ _ _ _ us hl => match us, hl with | [_], _ => rfl) sc_law_lots (ok_law_lots (k := 0) M)
  have C_law_let : Cl l.prog w K mg base 1 "_law_let" 2 f_law_let := (d_law_let.dn X G).cl (ps := ["waits", "lot"]) (fun _ _ _ _ _ _ us hl => match us, hl with | [_, _], _ => rfl) sc_law_let (ok_law_let (k := 0) M)
  have C_law_is_ring : Cl l.prog w K mg base 2 "_law_is_ring" 3 f_law_is_ring := (d_law_is_ring.dn X G).cl (ps := ["waits", "hand", "thing"]) (fun _ _ _ _ _ _ us hl => match us, hl with | [_, _, _], _ => rfl) sc_law_is_ring (ok_law_is_ring (k := 1) M (C_law_each_once.up (by decide)))
  have C_law_hands_right : Cl l.prog w K mg base 11 "_law_hands_right" 2 f_law_hands_right := (d_law_hands_right.dn X G).cl (ps := ["waits", "gone"]) (fun _ _ _ _ _ _ us hl => match us, hl with | [_, _], _ => rfl) sc_law_hands_right (ok_law_hands_right (k := 10) M (C_order_or_knot.up (by decide)) (C_is_order_or_knot.up (by decide)) (C_ring_or_order.up (by decide)) (C_law_copied.up (by decide)) (C_law_same.up (by decide)) (C_law_w_is_order.up (by decide)) (C_law_w_is_knot.up (by decide)) (C_law_is_ring.up (by decide)))
  have C_law_lots_right : Cl l.prog w K mg base 11 "_law_lots_right" 3 f_law_lots_right := (d_law_lots_right.dn X G).cl (ps := ["waits", "gone", "lots"]) (fun _ _ _ _ _ _ us hl => match us, hl with | [_, _, _], _ => rfl) sc_law_lots_right (ok_law_lots_right (k := 10) M (C_freed_by.up (by decide)) (C_fewest_to_free.up (by decide)) (C_lot_to_free.up (by decide)) (C_law_copied.up (by decide)) (C_law_same.up (by decide)) (C_law_each_once.up (by decide)) (C_law_w_gone.up (by decide)) (C_law_w_is_knot.up (by decide)) (C_law_let.up (by decide)))
  have C_law_waits_right : Cl l.prog w K mg base 12 "_law_waits_right" 2 f_law_waits_right := (d_law_waits_right.dn X G).cl (ps := ["stream", "waits"]) (fun _ _ _ _ _ _ us hl => match us, hl with | [_, _], _ => rfl) sc_law_waits_right (ok_law_waits_right (k := 11) M (C_rounds.up (by decide)) (C_going_on.up (by decide)) (C_stuck.up (by decide)) (C_law_copied.up (by decide)) (C_law_same.up (by decide)) (C_law_w_rounds.up (by decide)) (C_law_w_gone.up (by decide)) (C_law_lots.up (by decide)) (C_law_hands_right.up (by decide)) (C_law_lots_right.up (by decide)))
  exact law_ok (fun_mk l1 c1 k1) FS mS (FS.binds (ps := ["script"]) fun _ _ _ _ _ _ us hl => match us, hl with | [_], _ => rfl) M (by decide) (C_law_mixed.up (by decide)) (C_law_w_gone.up (by decide)) (C_law_every.up (by decide)) (C_law_waits_right.up (by decide)) rest_ok
theorem all_mk2 {l : PySem.W.OpenLaw} {w : World} {K : PySem.W.Frag} {h : Heap} {mg : Str → Option Value} {fa : Addr} (X : K.In h) (G : h.Ns mainGlobals mg) (hfa : mg "law" = some (.ref fa)) {f_is_list : Addr} {oc_is_list kV_is_list dc_is_list pm_is_list cd_is_list ct_is_list : Value} {od_is_list an_is_list : Option Addr} {sl_is_list : Array (Option Value)} (a_is_list : PySem.W.nsIn K mainGlobals "is_list" = some (some (.ref f_is_list))) (l_is_list : K.lookup f_is_list = some ⟨oc_is_list, od_is_list, .func (PySem.W.fnOf "is_list" "is_list" (defArgs s_is_list) (defBody s_is_list) (defScope s_is_list) .none kV_is_list dc_is_list pm_is_list an_is_list cd_is_list ct_is_list), sl_is_list⟩) (c_is_list : PySem.W.codeIn K cd_is_list "is_list" = true) (k_is_list : PySem.W.keepIn K (.ref f_is_list) = true) {f_is_integer : Addr} {oc_is_integer kV_is_integer dc_is_integer pm_is_integer cd_is_integer ct_is_integer : Value} {od_is_integer an_is_integer : Option Addr} {sl_is_integer : Array (Option Value)} (a_is_integer : PySem.W.nsIn K mainGlobals "is_integer" = some (some (.ref f_is_integer))) (l_is_integer : K.lookup f_is_integer = some ⟨oc_is_integer, od_is_integer, .func (PySem.W.fnOf "is_integer" "is_integer" (defArgs s_is_integer) (defBody s_is_integer) (defScope s_is_integer) .none kV_is_integer dc_is_integer pm_is_integer an_is_integer cd_is_integer ct_is_integer), sl_is_integer⟩) (c_is_integer : PySem.W.codeIn K cd_is_integer "is_integer" = true) (k_is_integer : PySem.W.keepIn K (.ref f_is_integer) = true) {f_is_number : Addr} {oc_is_number kV_is_number dc_is_number pm_is_number cd_is_number ct_is_number : Value} {od_is_number an_is_number : Option Addr} {sl_is_number : Array (Option Value)} (a_is_number : PySem.W.nsIn K mainGlobals "is_number" = some (some (.ref f_is_number))) (l_is_number : K.lookup f_is_number = some ⟨oc_is_number, od_is_number, .func (PySem.W.fnOf "is_number" "is_number" (defArgs s_is_number) (defBody s_is_number) (defScope s_is_number) .none kV_is_number dc_is_number pm_is_number an_is_number cd_is_number ct_is_number), sl_is_number⟩) (c_is_number : PySem.W.codeIn K cd_is_number "is_number" = true) (k_is_number : PySem.W.keepIn K (.ref f_is_number) = true) {f_is_name : Addr} {oc_is_name kV_is_name dc_is_name pm_is_name cd_is_name ct_is_name : Value} {od_is_name an_is_name : Option Addr} {sl_is_name : Array (Option Value)} (a_is_name : PySem.W.nsIn K mainGlobals "is_name" = some (some (.ref f_is_name))) (l_is_name : K.lookup f_is_name = some ⟨oc_is_name, od_is_name, .func (PySem.W.fnOf "is_name" "is_name" (defArgs s_is_name) (defBody s_is_name) (defScope s_is_name) .none kV_is_name dc_is_name pm_is_name an_is_name cd_is_name ct_is_name), sl_is_name⟩) (c_is_name : PySem.W.codeIn K cd_is_name "is_name" = true) (k_is_name : PySem.W.keepIn K (.ref f_is_name) = true) {f_is_wait : Addr} {oc_is_wait kV_is_wait dc_is_wait pm_is_wait cd_is_wait ct_is_wait : Value} {od_is_wait an_is_wait : Option Addr} {sl_is_wait : Array (Option Value)} (a_is_wait : PySem.W.nsIn K mainGlobals "is_wait" = some (some (.ref f_is_wait))) (l_is_wait : K.lookup f_is_wait = some ⟨oc_is_wait, od_is_wait, .func (PySem.W.fnOf "is_wait" "is_wait" (defArgs s_is_wait) (defBody s_is_wait) (defScope s_is_wait) .none kV_is_wait dc_is_wait pm_is_wait an_is_wait cd_is_wait ct_is_wait), sl_is_wait⟩) (c_is_wait : PySem.W.codeIn K cd_is_wait "is_wait" = true) (k_is_wait : PySem.W.keepIn K (.ref f_is_wait) = true) {f_checked_waits : Addr} {oc_checked_waits kV_checked_waits dc_checked_waits pm_checked_waits cd_checked_waits ct_checked_waits : Value} {od_checked_waits an_checked_waits : Option Addr} {sl_checked_waits : Array (Option Value)} (a_checked_waits : PySem.W.nsIn K mainGlobals "checked_waits" = some (some (.ref f_checked_waits))) (l_checked_waits : K.lookup f_checked_waits = some ⟨oc_checked_waits, od_checked_waits, .func (PySem.W.fnOf "checked_waits" "checked_waits" (defArgs s_checked_waits) (defBody s_checked_waits) (defScope s_checked_waits) .none kV_checked_waits dc_checked_waits pm_checked_waits an_checked_waits cd_checked_waits ct_checked_waits), sl_checked_waits⟩) (c_checked_waits : PySem.W.codeIn K cd_checked_waits "checked_waits" = true) (k_checked_waits : PySem.W.keepIn K (.ref f_checked_waits) = true) {f_lets_go : Addr} {oc_lets_go kV_lets_go dc_lets_go pm_lets_go cd_lets_go ct_lets_go : Value} {od_lets_go an_lets_go : Option Addr} {sl_lets_go : Array (Option Value)} (a_lets_go : PySem.W.nsIn K mainGlobals "lets_go" = some (some (.ref f_lets_go))) (l_lets_go : K.lookup f_lets_go = some ⟨oc_lets_go, od_lets_go, .func (PySem.W.fnOf "lets_go" "lets_go" (defArgs s_lets_go) (defBody s_lets_go) (defScope s_lets_go) .none kV_lets_go dc_lets_go pm_lets_go an_lets_go cd_lets_go ct_lets_go), sl_lets_go⟩) (c_lets_go : PySem.W.codeIn K cd_lets_go "lets_go" = true) (k_lets_go : PySem.W.keepIn K (.ref f_lets_go) = true) {f_rounds_in : Addr} {oc_rounds_in kV_rounds_in dc_rounds_in pm_rounds_in cd_rounds_in ct_rounds_in : Value} {od_rounds_in an_rounds_in : Option Addr} {sl_rounds_in : Array (Option Value)} (a_rounds_in : PySem.W.nsIn K mainGlobals "rounds_in" = some (some (.ref f_rounds_in))) (l_rounds_in : K.lookup f_rounds_in = some ⟨oc_rounds_in, od_rounds_in, .func (PySem.W.fnOf "rounds_in" "rounds_in" (defArgs s_rounds_in) (defBody s_rounds_in) (defScope s_rounds_in) .none kV_rounds_in dc_rounds_in pm_rounds_in an_rounds_in cd_rounds_in ct_rounds_in), sl_rounds_in⟩) (c_rounds_in : PySem.W.codeIn K cd_rounds_in "rounds_in" = true) (k_rounds_in : PySem.W.keepIn K (.ref f_rounds_in) = true) {f_rounds : Addr} {oc_rounds kV_rounds dc_rounds pm_rounds cd_rounds ct_rounds : Value} {od_rounds an_rounds : Option Addr} {sl_rounds : Array (Option Value)} (a_rounds : PySem.W.nsIn K mainGlobals "rounds" = some (some (.ref f_rounds))) (l_rounds : K.lookup f_rounds = some ⟨oc_rounds, od_rounds, .func (PySem.W.fnOf "rounds" "rounds" (defArgs s_rounds) (defBody s_rounds) (defScope s_rounds) .none kV_rounds dc_rounds pm_rounds an_rounds cd_rounds ct_rounds), sl_rounds⟩) (c_rounds : PySem.W.codeIn K cd_rounds "rounds" = true) (k_rounds : PySem.W.keepIn K (.ref f_rounds) = true) {f_gone_in : Addr} {oc_gone_in kV_gone_in dc_gone_in pm_gone_in cd_gone_in ct_gone_in : Value} {od_gone_in an_gone_in : Option Addr} {sl_gone_in : Array (Option Value)} (a_gone_in : PySem.W.nsIn K mainGlobals "gone_in" = some (some (.ref f_gone_in))) (l_gone_in : K.lookup f_gone_in = some ⟨oc_gone_in, od_gone_in, .func (PySem.W.fnOf "gone_in" "gone_in" (defArgs s_gone_in) (defBody s_gone_in) (defScope s_gone_in) .none kV_gone_in dc_gone_in pm_gone_in an_gone_in cd_gone_in ct_gone_in), sl_gone_in⟩) (c_gone_in : PySem.W.codeIn K cd_gone_in "gone_in" = true) (k_gone_in : PySem.W.keepIn K (.ref f_gone_in) = true) {f_going_on : Addr} {oc_going_on kV_going_on dc_going_on pm_going_on cd_going_on ct_going_on : Value} {od_going_on an_going_on : Option Addr} {sl_going_on : Array (Option Value)} (a_going_on : PySem.W.nsIn K mainGlobals "going_on" = some (some (.ref f_going_on))) (l_going_on : K.lookup f_going_on = some ⟨oc_going_on, od_going_on, .func (PySem.W.fnOf "going_on" "going_on" (defArgs s_going_on) (defBody s_going_on) (defScope s_going_on) .none kV_going_on dc_going_on pm_going_on an_going_on cd_going_on ct_going_on), sl_going_on⟩) (c_going_on : PySem.W.codeIn K cd_going_on "going_on" = true) (k_going_on : PySem.W.keepIn K (.ref f_going_on) = true) {f_stuck_in : Addr} {oc_stuck_in kV_stuck_in dc_stuck_in pm_stuck_in cd_stuck_in ct_stuck_in : Value} {od_stuck_in an_stuck_in : Option Addr} {sl_stuck_in : Array (Option Value)} (a_stuck_in : PySem.W.nsIn K mainGlobals "stuck_in" = some (some (.ref f_stuck_in))) (l_stuck_in : K.lookup f_stuck_in = some ⟨oc_stuck_in, od_stuck_in, .func (PySem.W.fnOf "stuck_in" "stuck_in" (defArgs s_stuck_in) (defBody s_stuck_in) (defScope s_stuck_in) .none kV_stuck_in dc_stuck_in pm_stuck_in an_stuck_in cd_stuck_in ct_stuck_in), sl_stuck_in⟩) (c_stuck_in : PySem.W.codeIn K cd_stuck_in "stuck_in" = true) (k_stuck_in : PySem.W.keepIn K (.ref f_stuck_in) = true) {f_stuck : Addr} {oc_stuck kV_stuck dc_stuck pm_stuck cd_stuck ct_stuck : Value} {od_stuck an_stuck : Option Addr} {sl_stuck : Array (Option Value)} (a_stuck : PySem.W.nsIn K mainGlobals "stuck" = some (some (.ref f_stuck))) (l_stuck : K.lookup f_stuck = some ⟨oc_stuck, od_stuck, .func (PySem.W.fnOf "stuck" "stuck" (defArgs s_stuck) (defBody s_stuck) (defScope s_stuck) .none kV_stuck dc_stuck pm_stuck an_stuck cd_stuck ct_stuck), sl_stuck⟩) (c_stuck : PySem.W.codeIn K cd_stuck "stuck" = true) (k_stuck : PySem.W.keepIn K (.ref f_stuck) = true) {f_waits_and_hand : Addr} {oc_waits_and_hand kV_waits_and_hand dc_waits_and_hand pm_waits_and_hand cd_waits_and_hand ct_waits_and_hand : Value} {od_waits_and_hand an_waits_and_hand : Option Addr} {sl_waits_and_hand : Array (Option Value)} (a_waits_and_hand : PySem.W.nsIn K mainGlobals "waits_and_hand" = some (some (.ref f_waits_and_hand))) (l_waits_and_hand : K.lookup f_waits_and_hand = some ⟨oc_waits_and_hand, od_waits_and_hand, .func (PySem.W.fnOf "waits_and_hand" "waits_and_hand" (defArgs s_waits_and_hand) (defBody s_waits_and_hand) (defScope s_waits_and_hand) .none kV_waits_and_hand dc_waits_and_hand pm_waits_and_hand an_waits_and_hand cd_waits_and_hand ct_waits_and_hand), sl_waits_and_hand⟩) (c_waits_and_hand : PySem.W.codeIn K cd_waits_and_hand "waits_and_hand" = true) (k_waits_and_hand : PySem.W.keepIn K (.ref f_waits_and_hand) = true) {f_order_to : Addr} {oc_order_to kV_order_to dc_order_to pm_order_to cd_order_to ct_order_to : Value} {od_order_to an_order_to : Option Addr} {sl_order_to : Array (Option Value)} (a_order_to : PySem.W.nsIn K mainGlobals "order_to" = some (some (.ref f_order_to))) (l_order_to : K.lookup f_order_to = some ⟨oc_order_to, od_order_to, .func (PySem.W.fnOf "order_to" "order_to" (defArgs s_order_to) (defBody s_order_to) (defScope s_order_to) .none kV_order_to dc_order_to pm_order_to an_order_to cd_order_to ct_order_to), sl_order_to⟩) (c_order_to : PySem.W.codeIn K cd_order_to "order_to" = true) (k_order_to : PySem.W.keepIn K (.ref f_order_to) = true) {f_order_or_knot : Addr} {oc_order_or_knot kV_order_or_knot dc_order_or_knot pm_order_or_knot cd_order_or_knot ct_order_or_knot : Value} {od_order_or_knot an_order_or_knot : Option Addr} {sl_order_or_knot : Array (Option Value)} (a_order_or_knot : PySem.W.nsIn K mainGlobals "order_or_knot" = some (some (.ref f_order_or_knot))) (l_order_or_knot : K.lookup f_order_or_knot = some ⟨oc_order_or_knot, od_order_or_knot, .func (PySem.W.fnOf "order_or_knot" "order_or_knot" (defArgs s_order_or_knot) (defBody s_order_or_knot) (defScope s_order_or_knot) .none kV_order_or_knot dc_order_or_knot pm_order_or_knot an_order_or_knot cd_order_or_knot ct_order_or_knot), sl_order_or_knot⟩) (c_order_or_knot : PySem.W.codeIn K cd_order_or_knot "order_or_knot" = true) (k_order_or_knot : PySem.W.keepIn K (.ref f_order_or_knot) = true) {f_are_hands : Addr} {oc_are_hands kV_are_hands dc_are_hands pm_are_hands cd_are_hands ct_are_hands : Value} {od_are_hands an_are_hands : Option Addr} {sl_are_hands : Array (Option Value)} (a_are_hands : PySem.W.nsIn K mainGlobals "are_hands" = some (some (.ref f_are_hands))) (l_are_hands : K.lookup f_are_hands = some ⟨oc_are_hands, od_are_hands, .func (PySem.W.fnOf "are_hands" "are_hands" (defArgs s_are_hands) (defBody s_are_hands) (defScope s_are_hands) .none kV_are_hands dc_are_hands pm_are_hands an_are_hands cd_are_hands ct_are_hands), sl_are_hands⟩) (c_are_hands : PySem.W.codeIn K cd_are_hands "are_hands" = true) (k_are_hands : PySem.W.keepIn K (.ref f_are_hands) = true) {f_is_order_to : Addr} {oc_is_order_to kV_is_order_to dc_is_order_to pm_is_order_to cd_is_order_to ct_is_order_to : Value} {od_is_order_to an_is_order_to : Option Addr} {sl_is_order_to : Array (Option Value)} (a_is_order_to : PySem.W.nsIn K mainGlobals "is_order_to" = some (some (.ref f_is_order_to))) (l_is_order_to : K.lookup f_is_order_to = some ⟨oc_is_order_to, od_is_order_to, .func (PySem.W.fnOf "is_order_to" "is_order_to" (defArgs s_is_order_to) (defBody s_is_order_to) (defScope s_is_order_to) .none kV_is_order_to dc_is_order_to pm_is_order_to an_is_order_to cd_is_order_to ct_is_order_to), sl_is_order_to⟩) (c_is_order_to : PySem.W.codeIn K cd_is_order_to "is_order_to" = true) (k_is_order_to : PySem.W.keepIn K (.ref f_is_order_to) = true) {f_is_knot : Addr} {oc_is_knot kV_is_knot dc_is_knot pm_is_knot cd_is_knot ct_is_knot : Value} {od_is_knot an_is_knot : Option Addr} {sl_is_knot : Array (Option Value)} (a_is_knot : PySem.W.nsIn K mainGlobals "is_knot" = some (some (.ref f_is_knot))) (l_is_knot : K.lookup f_is_knot = some ⟨oc_is_knot, od_is_knot, .func (PySem.W.fnOf "is_knot" "is_knot" (defArgs s_is_knot) (defBody s_is_knot) (defScope s_is_knot) .none kV_is_knot dc_is_knot pm_is_knot an_is_knot cd_is_knot ct_is_knot), sl_is_knot⟩) (c_is_knot : PySem.W.codeIn K cd_is_knot "is_knot" = true) (k_is_knot : PySem.W.keepIn K (.ref f_is_knot) = true) {f_is_order_or_knot : Addr} {oc_is_order_or_knot kV_is_order_or_knot dc_is_order_or_knot pm_is_order_or_knot cd_is_order_or_knot ct_is_order_or_knot : Value} {od_is_order_or_knot an_is_order_or_knot : Option Addr} {sl_is_order_or_knot : Array (Option Value)} (a_is_order_or_knot : PySem.W.nsIn K mainGlobals "is_order_or_knot" = some (some (.ref f_is_order_or_knot))) (l_is_order_or_knot : K.lookup f_is_order_or_knot = some ⟨oc_is_order_or_knot, od_is_order_or_knot, .func (PySem.W.fnOf "is_order_or_knot" "is_order_or_knot" (defArgs s_is_order_or_knot) (defBody s_is_order_or_knot) (defScope s_is_order_or_knot) .none kV_is_order_or_knot dc_is_order_or_knot pm_is_order_or_knot an_is_order_or_knot cd_is_order_or_knot ct_is_order_or_knot), sl_is_order_or_knot⟩) (c_is_order_or_knot : PySem.W.codeIn K cd_is_order_or_knot "is_order_or_knot" = true) (k_is_order_or_knot : PySem.W.keepIn K (.ref f_is_order_or_knot) = true) {f_waits_for_all : Addr} {oc_waits_for_all kV_waits_for_all dc_waits_for_all pm_waits_for_all cd_waits_for_all ct_waits_for_all : Value} {od_waits_for_all an_waits_for_all : Option Addr} {sl_waits_for_all : Array (Option Value)} (a_waits_for_all : PySem.W.nsIn K mainGlobals "waits_for_all" = some (some (.ref f_waits_for_all))) (l_waits_for_all : K.lookup f_waits_for_all = some ⟨oc_waits_for_all, od_waits_for_all, .func (PySem.W.fnOf "waits_for_all" "waits_for_all" (defArgs s_waits_for_all) (defBody s_waits_for_all) (defScope s_waits_for_all) .none kV_waits_for_all dc_waits_for_all pm_waits_for_all an_waits_for_all cd_waits_for_all ct_waits_for_all), sl_waits_for_all⟩) (c_waits_for_all : PySem.W.codeIn K cd_waits_for_all "waits_for_all" = true) (k_waits_for_all : PySem.W.keepIn K (.ref f_waits_for_all) = true) {f_ring_or_order : Addr} {oc_ring_or_order kV_ring_or_order dc_ring_or_order pm_ring_or_order cd_ring_or_order ct_ring_or_order : Value} {od_ring_or_order an_ring_or_order : Option Addr} {sl_ring_or_order : Array (Option Value)} (a_ring_or_order : PySem.W.nsIn K mainGlobals "ring_or_order" = some (some (.ref f_ring_or_order))) (l_ring_or_order : K.lookup f_ring_or_order = some ⟨oc_ring_or_order, od_ring_or_order, .func (PySem.W.fnOf "ring_or_order" "ring_or_order" (defArgs s_ring_or_order) (defBody s_ring_or_order) (defScope s_ring_or_order) .none kV_ring_or_order dc_ring_or_order pm_ring_or_order an_ring_or_order cd_ring_or_order ct_ring_or_order), sl_ring_or_order⟩) (c_ring_or_order : PySem.W.codeIn K cd_ring_or_order "ring_or_order" = true) (k_ring_or_order : PySem.W.keepIn K (.ref f_ring_or_order) = true) {f_let_go : Addr} {oc_let_go kV_let_go dc_let_go pm_let_go cd_let_go ct_let_go : Value} {od_let_go an_let_go : Option Addr} {sl_let_go : Array (Option Value)} (a_let_go : PySem.W.nsIn K mainGlobals "let_go" = some (some (.ref f_let_go))) (l_let_go : K.lookup f_let_go = some ⟨oc_let_go, od_let_go, .func (PySem.W.fnOf "let_go" "let_go" (defArgs s_let_go) (defBody s_let_go) (defScope s_let_go) .none kV_let_go dc_let_go pm_let_go an_let_go cd_let_go ct_let_go), sl_let_go⟩) (c_let_go : PySem.W.codeIn K cd_let_go "let_go" = true) (k_let_go : PySem.W.keepIn K (.ref f_let_go) = true) {f_freed_by : Addr} {oc_freed_by kV_freed_by dc_freed_by pm_freed_by cd_freed_by ct_freed_by : Value} {od_freed_by an_freed_by : Option Addr} {sl_freed_by : Array (Option Value)} (a_freed_by : PySem.W.nsIn K mainGlobals "freed_by" = some (some (.ref f_freed_by))) (l_freed_by : K.lookup f_freed_by = some ⟨oc_freed_by, od_freed_by, .func (PySem.W.fnOf "freed_by" "freed_by" (defArgs s_freed_by) (defBody s_freed_by) (defScope s_freed_by) .none kV_freed_by dc_freed_by pm_freed_by an_freed_by cd_freed_by ct_freed_by), sl_freed_by⟩) (c_freed_by : PySem.W.codeIn K cd_freed_by "freed_by" = true) (k_freed_by : PySem.W.keepIn K (.ref f_freed_by) = true) {f_least_lot : Addr} {oc_least_lot kV_least_lot dc_least_lot pm_least_lot cd_least_lot ct_least_lot : Value} {od_least_lot an_least_lot : Option Addr} {sl_least_lot : Array (Option Value)} (a_least_lot : PySem.W.nsIn K mainGlobals "least_lot" = some (some (.ref f_least_lot))) (l_least_lot : K.lookup f_least_lot = some ⟨oc_least_lot, od_least_lot, .func (PySem.W.fnOf "least_lot" "least_lot" (defArgs s_least_lot) (defBody s_least_lot) (defScope s_least_lot) .none kV_least_lot dc_least_lot pm_least_lot an_least_lot cd_least_lot ct_least_lot), sl_least_lot⟩) (c_least_lot : PySem.W.codeIn K cd_least_lot "least_lot" = true) (k_least_lot : PySem.W.keepIn K (.ref f_least_lot) = true) {f_fewest_to_free : Addr} {oc_fewest_to_free kV_fewest_to_free dc_fewest_to_free pm_fewest_to_free cd_fewest_to_free ct_fewest_to_free : Value} {od_fewest_to_free an_fewest_to_free : Option Addr} {sl_fewest_to_free : Array (Option Value)} (a_fewest_to_free : PySem.W.nsIn K mainGlobals "fewest_to_free" = some (some (.ref f_fewest_to_free))) (l_fewest_to_free : K.lookup f_fewest_to_free = some ⟨oc_fewest_to_free, od_fewest_to_free, .func (PySem.W.fnOf "fewest_to_free" "fewest_to_free" (defArgs s_fewest_to_free) (defBody s_fewest_to_free) (defScope s_fewest_to_free) .none kV_fewest_to_free dc_fewest_to_free pm_fewest_to_free an_fewest_to_free cd_fewest_to_free ct_fewest_to_free), sl_fewest_to_free⟩) (c_fewest_to_free : PySem.W.codeIn K cd_fewest_to_free "fewest_to_free" = true) (k_fewest_to_free : PySem.W.keepIn K (.ref f_fewest_to_free) = true) {f_lot_to_free : Addr} {oc_lot_to_free kV_lot_to_free dc_lot_to_free pm_lot_to_free cd_lot_to_free ct_lot_to_free : Value} {od_lot_to_free an_lot_to_free : Option Addr} {sl_lot_to_free : Array (Option Value)} (a_lot_to_free : PySem.W.nsIn K mainGlobals "lot_to_free" = some (some (.ref f_lot_to_free))) (l_lot_to_free : K.lookup f_lot_to_free = some ⟨oc_lot_to_free, od_lot_to_free, .func (PySem.W.fnOf "lot_to_free" "lot_to_free" (defArgs s_lot_to_free) (defBody s_lot_to_free) (defScope s_lot_to_free) .none kV_lot_to_free dc_lot_to_free pm_lot_to_free an_lot_to_free cd_lot_to_free ct_lot_to_free), sl_lot_to_free⟩) (c_lot_to_free : PySem.W.codeIn K cd_lot_to_free "lot_to_free" = true) (k_lot_to_free : PySem.W.keepIn K (.ref f_lot_to_free) = true) {f_law_draw : Addr} {oc_law_draw kV_law_draw dc_law_draw pm_law_draw cd_law_draw ct_law_draw : Value} {od_law_draw an_law_draw : Option Addr} {sl_law_draw : Array (Option Value)} (a_law_draw : PySem.W.nsIn K mainGlobals "_law_draw" = some (some (.ref f_law_draw))) (l_law_draw : K.lookup f_law_draw = some ⟨oc_law_draw, od_law_draw, .func (PySem.W.fnOf "_law_draw" "_law_draw" (defArgs s_law_draw) (defBody s_law_draw) (defScope s_law_draw) .none kV_law_draw dc_law_draw pm_law_draw an_law_draw cd_law_draw ct_law_draw), sl_law_draw⟩) (c_law_draw : PySem.W.codeIn K cd_law_draw "_law_draw" = true) (k_law_draw : PySem.W.keepIn K (.ref f_law_draw) = true) {f_law_mixed : Addr} {oc_law_mixed kV_law_mixed dc_law_mixed pm_law_mixed cd_law_mixed ct_law_mixed : Value} {od_law_mixed an_law_mixed : Option Addr} {sl_law_mixed : Array (Option Value)} (a_law_mixed : PySem.W.nsIn K mainGlobals "_law_mixed" = some (some (.ref f_law_mixed))) (l_law_mixed : K.lookup f_law_mixed = some ⟨oc_law_mixed, od_law_mixed, .func (PySem.W.fnOf "_law_mixed" "_law_mixed" (defArgs s_law_mixed) (defBody s_law_mixed) (defScope s_law_mixed) .none kV_law_mixed dc_law_mixed pm_law_mixed an_law_mixed cd_law_mixed ct_law_mixed), sl_law_mixed⟩) (c_law_mixed : PySem.W.codeIn K cd_law_mixed "_law_mixed" = true) (k_law_mixed : PySem.W.keepIn K (.ref f_law_mixed) = true) {f_law_copied : Addr} {oc_law_copied kV_law_copied dc_law_copied pm_law_copied cd_law_copied ct_law_copied : Value} {od_law_copied an_law_copied : Option Addr} {sl_law_copied : Array (Option Value)} (a_law_copied : PySem.W.nsIn K mainGlobals "_law_copied" = some (some (.ref f_law_copied))) (l_law_copied : K.lookup f_law_copied = some ⟨oc_law_copied, od_law_copied, .func (PySem.W.fnOf "_law_copied" "_law_copied" (defArgs s_law_copied) (defBody s_law_copied) (defScope s_law_copied) .none kV_law_copied dc_law_copied pm_law_copied an_law_copied cd_law_copied ct_law_copied), sl_law_copied⟩) (c_law_copied : PySem.W.codeIn K cd_law_copied "_law_copied" = true) (k_law_copied : PySem.W.keepIn K (.ref f_law_copied) = true) {f_law_same : Addr} {oc_law_same kV_law_same dc_law_same pm_law_same cd_law_same ct_law_same : Value} {od_law_same an_law_same : Option Addr} {sl_law_same : Array (Option Value)} (a_law_same : PySem.W.nsIn K mainGlobals "_law_same" = some (some (.ref f_law_same))) (l_law_same : K.lookup f_law_same = some ⟨oc_law_same, od_law_same, .func (PySem.W.fnOf "_law_same" "_law_same" (defArgs s_law_same) (defBody s_law_same) (defScope s_law_same) .none kV_law_same dc_law_same pm_law_same an_law_same cd_law_same ct_law_same), sl_law_same⟩) (c_law_same : PySem.W.codeIn K cd_law_same "_law_same" = true) (k_law_same : PySem.W.keepIn K (.ref f_law_same) = true) {f_law_each_once : Addr} {oc_law_each_once kV_law_each_once dc_law_each_once pm_law_each_once cd_law_each_once ct_law_each_once : Value} {od_law_each_once an_law_each_once : Option Addr} {sl_law_each_once : Array (Option Value)} (a_law_each_once : PySem.W.nsIn K mainGlobals "_law_each_once" = some (some (.ref f_law_each_once))) (l_law_each_once : K.lookup f_law_each_once = some ⟨oc_law_each_once, od_law_each_once, .func (PySem.W.fnOf "_law_each_once" "_law_each_once" (defArgs s_law_each_once) (defBody s_law_each_once) (defScope s_law_each_once) .none kV_law_each_once dc_law_each_once pm_law_each_once an_law_each_once cd_law_each_once ct_law_each_once), sl_law_each_once⟩) (c_law_each_once : PySem.W.codeIn K cd_law_each_once "_law_each_once" = true) (k_law_each_once : PySem.W.keepIn K (.ref f_law_each_once) = true) {f_law_w_rounds : Addr} {oc_law_w_rounds kV_law_w_rounds dc_law_w_rounds pm_law_w_rounds cd_law_w_rounds ct_law_w_rounds : Value} {od_law_w_rounds an_law_w_rounds : Option Addr} {sl_law_w_rounds : Array (Option Value)} (a_law_w_rounds : PySem.W.nsIn K mainGlobals "_law_w_rounds" = some (some (.ref f_law_w_rounds))) (l_law_w_rounds : K.lookup f_law_w_rounds = some ⟨oc_law_w_rounds, od_law_w_rounds, .func (PySem.W.fnOf "_law_w_rounds" "_law_w_rounds" (defArgs s_law_w_rounds) (defBody s_law_w_rounds) (defScope s_law_w_rounds) .none kV_law_w_rounds dc_law_w_rounds pm_law_w_rounds an_law_w_rounds cd_law_w_rounds ct_law_w_rounds), sl_law_w_rounds⟩) (c_law_w_rounds : PySem.W.codeIn K cd_law_w_rounds "_law_w_rounds" = true) (k_law_w_rounds : PySem.W.keepIn K (.ref f_law_w_rounds) = true) {f_law_w_gone : Addr} {oc_law_w_gone kV_law_w_gone dc_law_w_gone pm_law_w_gone cd_law_w_gone ct_law_w_gone : Value} {od_law_w_gone an_law_w_gone : Option Addr} {sl_law_w_gone : Array (Option Value)} (a_law_w_gone : PySem.W.nsIn K mainGlobals "_law_w_gone" = some (some (.ref f_law_w_gone))) (l_law_w_gone : K.lookup f_law_w_gone = some ⟨oc_law_w_gone, od_law_w_gone, .func (PySem.W.fnOf "_law_w_gone" "_law_w_gone" (defArgs s_law_w_gone) (defBody s_law_w_gone) (defScope s_law_w_gone) .none kV_law_w_gone dc_law_w_gone pm_law_w_gone an_law_w_gone cd_law_w_gone ct_law_w_gone), sl_law_w_gone⟩) (c_law_w_gone : PySem.W.codeIn K cd_law_w_gone "_law_w_gone" = true) (k_law_w_gone : PySem.W.keepIn K (.ref f_law_w_gone) = true) {f_law_w_are_hands : Addr} {oc_law_w_are_hands kV_law_w_are_hands dc_law_w_are_hands pm_law_w_are_hands cd_law_w_are_hands ct_law_w_are_hands : Value} {od_law_w_are_hands an_law_w_are_hands : Option Addr} {sl_law_w_are_hands : Array (Option Value)} (a_law_w_are_hands : PySem.W.nsIn K mainGlobals "_law_w_are_hands" = some (some (.ref f_law_w_are_hands))) (l_law_w_are_hands : K.lookup f_law_w_are_hands = some ⟨oc_law_w_are_hands, od_law_w_are_hands, .func (PySem.W.fnOf "_law_w_are_hands" "_law_w_are_hands" (defArgs s_law_w_are_hands) (defBody s_law_w_are_hands) (defScope s_law_w_are_hands) .none kV_law_w_are_hands dc_law_w_are_hands pm_law_w_are_hands an_law_w_are_hands cd_law_w_are_hands ct_law_w_are_hands), sl_law_w_are_hands⟩) (c_law_w_are_hands : PySem.W.codeIn K cd_law_w_are_hands "_law_w_are_hands" = true) (k_law_w_are_hands : PySem.W.keepIn K (.ref f_law_w_are_hands) = true) {f_law_w_is_order : Addr} {oc_law_w_is_order kV_law_w_is_order dc_law_w_is_order pm_law_w_is_order cd_law_w_is_order ct_law_w_is_order : Value} {od_law_w_is_order an_law_w_is_order : Option Addr} {sl_law_w_is_order : Array (Option Value)} (a_law_w_is_order : PySem.W.nsIn K mainGlobals "_law_w_is_order" = some (some (.ref f_law_w_is_order))) (l_law_w_is_order : K.lookup f_law_w_is_order = some ⟨oc_law_w_is_order, od_law_w_is_order, .func (PySem.W.fnOf "_law_w_is_order" "_law_w_is_order" (defArgs s_law_w_is_order) (defBody s_law_w_is_order) (defScope s_law_w_is_order) .none kV_law_w_is_order dc_law_w_is_order pm_law_w_is_order an_law_w_is_order cd_law_w_is_order ct_law_w_is_order), sl_law_w_is_order⟩) (c_law_w_is_order : PySem.W.codeIn K cd_law_w_is_order "_law_w_is_order" = true) (k_law_w_is_order : PySem.W.keepIn K (.ref f_law_w_is_order) = true) {f_law_w_is_knot : Addr} {oc_law_w_is_knot kV_law_w_is_knot dc_law_w_is_knot pm_law_w_is_knot cd_law_w_is_knot ct_law_w_is_knot : Value} {od_law_w_is_knot an_law_w_is_knot : Option Addr} {sl_law_w_is_knot : Array (Option Value)} (a_law_w_is_knot : PySem.W.nsIn K mainGlobals "_law_w_is_knot" = some (some (.ref f_law_w_is_knot))) (l_law_w_is_knot : K.lookup f_law_w_is_knot = some ⟨oc_law_w_is_knot, od_law_w_is_knot, .func (PySem.W.fnOf "_law_w_is_knot" "_law_w_is_knot" (defArgs s_law_w_is_knot) (defBody s_law_w_is_knot) (defScope s_law_w_is_knot) .none kV_law_w_is_knot dc_law_w_is_knot pm_law_w_is_knot an_law_w_is_knot cd_law_w_is_knot ct_law_w_is_knot), sl_law_w_is_knot⟩) (c_law_w_is_knot : PySem.W.codeIn K cd_law_w_is_knot "_law_w_is_knot" = true) (k_law_w_is_knot : PySem.W.keepIn K (.ref f_law_w_is_knot) = true) {f_law_options : Addr} {oc_law_options kV_law_options dc_law_options pm_law_options cd_law_options ct_law_options : Value} {od_law_options an_law_options : Option Addr} {sl_law_options : Array (Option Value)} (a_law_options : PySem.W.nsIn K mainGlobals "_law_options" = some (some (.ref f_law_options))) (l_law_options : K.lookup f_law_options = some ⟨oc_law_options, od_law_options, .func (PySem.W.fnOf "_law_options" "_law_options" (defArgs s_law_options) (defBody s_law_options) (defScope s_law_options) .none kV_law_options dc_law_options pm_law_options an_law_options cd_law_options ct_law_options), sl_law_options⟩) (c_law_options : PySem.W.codeIn K cd_law_options "_law_options" = true) (k_law_options : PySem.W.keepIn K (.ref f_law_options) = true) {f_law_every : Addr} {oc_law_every kV_law_every dc_law_every pm_law_every cd_law_every ct_law_every : Value} {od_law_every an_law_every : Option Addr} {sl_law_every : Array (Option Value)} (a_law_every : PySem.W.nsIn K mainGlobals "_law_every" = some (some (.ref f_law_every))) (l_law_every : K.lookup f_law_every = some ⟨oc_law_every, od_law_every, .func (PySem.W.fnOf "_law_every" "_law_every" (defArgs s_law_every) (defBody s_law_every) (defScope s_law_every) .none kV_law_every dc_law_every pm_law_every an_law_every cd_law_every ct_law_every), sl_law_every⟩) (c_law_every : PySem.W.codeIn K cd_law_every "_law_every" = true) (k_law_every : PySem.W.keepIn K (.ref f_law_every) = true) {f_law_lots : Addr} {oc_law_lots kV_law_lots dc_law_lots pm_law_lots cd_law_lots ct_law_lots : Value} {od_law_lots an_law_lots : Option Addr} {sl_law_lots : Array (Option Value)} (a_law_lots : PySem.W.nsIn K mainGlobals "_law_lots" = some (some (.ref f_law_lots))) (l_law_lots : K.lookup f_law_lots = some ⟨oc_law_lots, od_law_lots, .func (PySem.W.fnOf "_law_lots" "_law_lots" (defArgs s_law_lots) (defBody s_law_lots) (defScope s_law_lots) .none kV_law_lots dc_law_lots pm_law_lots an_law_lots cd_law_lots ct_law_lots), sl_law_lots⟩) (c_law_lots : PySem.W.codeIn K cd_law_lots "_law_lots" = true) (k_law_lots : PySem.W.keepIn K (.ref f_law_lots) = true) {f_law_let : Addr} {oc_law_let kV_law_let dc_law_let pm_law_let cd_law_let ct_law_let : Value} {od_law_let an_law_let : Option Addr} {sl_law_let : Array (Option Value)} (a_law_let : PySem.W.nsIn K mainGlobals "_law_let" = some (some (.ref f_law_let))) (l_law_let : K.lookup f_law_let = some ⟨oc_law_let, od_law_let, .func (PySem.W.fnOf "_law_let" "_law_let" (defArgs s_law_let) (defBody s_law_let) (defScope s_law_let) .none kV_law_let dc_law_let pm_law_let an_law_let cd_law_let ct_law_let), sl_law_let⟩) (c_law_let : PySem.W.codeIn K cd_law_let "_law_let" = true) (k_law_let : PySem.W.keepIn K (.ref f_law_let) = true) {f_law_is_ring : Addr} {oc_law_is_ring kV_law_is_ring dc_law_is_ring pm_law_is_ring cd_law_is_ring ct_law_is_ring : Value} {od_law_is_ring an_law_is_ring : Option Addr} {sl_law_is_ring : Array (Option Value)} (a_law_is_ring : PySem.W.nsIn K mainGlobals "_law_is_ring" = some (some (.ref f_law_is_ring))) (l_law_is_ring : K.lookup f_law_is_ring = some ⟨oc_law_is_ring, od_law_is_ring, .func (PySem.W.fnOf "_law_is_ring" "_law_is_ring" (defArgs s_law_is_ring) (defBody s_law_is_ring) (defScope s_law_is_ring) .none kV_law_is_ring dc_law_is_ring pm_law_is_ring an_law_is_ring cd_law_is_ring ct_law_is_ring), sl_law_is_ring⟩) (c_law_is_ring : PySem.W.codeIn K cd_law_is_ring "_law_is_ring" = true) (k_law_is_ring : PySem.W.keepIn K (.ref f_law_is_ring) = true) {f_law_hands_right : Addr} {oc_law_hands_right kV_law_hands_right dc_law_hands_right pm_law_hands_right cd_law_hands_right ct_law_hands_right : Value} {od_law_hands_right an_law_hands_right : Option Addr} {sl_law_hands_right : Array (Option Value)} (a_law_hands_right : PySem.W.nsIn K mainGlobals "_law_hands_right" = some (some (.ref f_law_hands_right))) (l_law_hands_right : K.lookup f_law_hands_right = some ⟨oc_law_hands_right, od_law_hands_right, .func (PySem.W.fnOf "_law_hands_right" "_law_hands_right" (defArgs s_law_hands_right) (defBody s_law_hands_right) (defScope s_law_hands_right) .none kV_law_hands_right dc_law_hands_right pm_law_hands_right an_law_hands_right cd_law_hands_right ct_law_hands_right), sl_law_hands_right⟩) (c_law_hands_right : PySem.W.codeIn K cd_law_hands_right "_law_hands_right" = true) (k_law_hands_right : PySem.W.keepIn K (.ref f_law_hands_right) = true) {f_law_lots_right : Addr} {oc_law_lots_right kV_law_lots_right dc_law_lots_right pm_law_lots_right cd_law_lots_right ct_law_lots_right : Value} {od_law_lots_right an_law_lots_right : Option Addr} {sl_law_lots_right : Array (Option Value)} (a_law_lots_right : PySem.W.nsIn K mainGlobals "_law_lots_right" = some (some (.ref f_law_lots_right))) (l_law_lots_right : K.lookup f_law_lots_right = some ⟨oc_law_lots_right, od_law_lots_right, .func (PySem.W.fnOf "_law_lots_right" "_law_lots_right" (defArgs s_law_lots_right) (defBody s_law_lots_right) (defScope s_law_lots_right) .none kV_law_lots_right dc_law_lots_right pm_law_lots_right an_law_lots_right cd_law_lots_right ct_law_lots_right), sl_law_lots_right⟩) (c_law_lots_right : PySem.W.codeIn K cd_law_lots_right "_law_lots_right" = true) (k_law_lots_right : PySem.W.keepIn K (.ref f_law_lots_right) = true) {f_law_waits_right : Addr} {oc_law_waits_right kV_law_waits_right dc_law_waits_right pm_law_waits_right cd_law_waits_right ct_law_waits_right : Value} {od_law_waits_right an_law_waits_right : Option Addr} {sl_law_waits_right : Array (Option Value)} (a_law_waits_right : PySem.W.nsIn K mainGlobals "_law_waits_right" = some (some (.ref f_law_waits_right))) (l_law_waits_right : K.lookup f_law_waits_right = some ⟨oc_law_waits_right, od_law_waits_right, .func (PySem.W.fnOf "_law_waits_right" "_law_waits_right" (defArgs s_law_waits_right) (defBody s_law_waits_right) (defScope s_law_waits_right) .none kV_law_waits_right dc_law_waits_right pm_law_waits_right an_law_waits_right cd_law_waits_right ct_law_waits_right), sl_law_waits_right⟩) (c_law_waits_right : PySem.W.codeIn K cd_law_waits_right "_law_waits_right" = true) (k_law_waits_right : PySem.W.keepIn K (.ref f_law_waits_right) = true) {f_start : Addr} {oc_start kV_start dc_start pm_start cd_start ct_start : Value} {od_start an_start : Option Addr} {sl_start : Array (Option Value)} (a_start : PySem.W.nsIn K mainGlobals "_law_start" = some (some (.ref f_start))) (l_start : K.lookup f_start = some ⟨oc_start, od_start, .func (PySem.W.fnOf "_law_start" "_law_start" (defArgs s_start) (defBody s_start) (defScope s_start) .none kV_start dc_start pm_start an_start cd_start ct_start), sl_start⟩) (c_start : PySem.W.codeIn K cd_start "_law_start" = true) (k_start : PySem.W.keepIn K (.ref f_start) = true) {f_law : Addr} {oc_law kV_law dc_law pm_law cd_law ct_law : Value} {od_law an_law : Option Addr} {sl_law : Array (Option Value)} (a_law : PySem.W.nsIn K mainGlobals "law" = some (some (.ref f_law))) (l_law : K.lookup f_law = some ⟨oc_law, od_law, .func (PySem.W.fnOf "law" "law" (defArgs s_law) (defBody s_law) (defScope s_law) .none kV_law dc_law pm_law an_law cd_law ct_law), sl_law⟩) (c_law : PySem.W.codeIn K cd_law "law" = true) (k_law : PySem.W.keepIn K (.ref f_law) = true) (z_len : PySem.W.nsIn K mainGlobals "len" = some none) (z_all : PySem.W.nsIn K mainGlobals "all" = some none) (z_any : PySem.W.nsIn K mainGlobals "any" = some none) (z_min : PySem.W.nsIn K mainGlobals "min" = some none) (z_sum : PySem.W.nsIn K mainGlobals "sum" = some none) (z_sorted : PySem.W.nsIn K mainGlobals "sorted" = some none) (z_list : PySem.W.nsIn K mainGlobals "list" = some none) (z_tuple : PySem.W.nsIn K mainGlobals "tuple" = some none) (z_dict : PySem.W.nsIn K mainGlobals "dict" = some none) (z_str : PySem.W.nsIn K mainGlobals "str" = some none) (z_int : PySem.W.nsIn K mainGlobals "int" = some none) (z_bool : PySem.W.nsIn K mainGlobals "bool" = some none) (z_isinstance : PySem.W.nsIn K mainGlobals "isinstance" = some none) (z_range : PySem.W.nsIn K mainGlobals "range" = some none) (z_enumerate : PySem.W.nsIn K mainGlobals "enumerate" = some none) (z_zip : PySem.W.nsIn K mainGlobals "zip" = some none) :
    ∃ fd : FuncData, (∀ (s : Shared) (v : Value), BindsTo s fd ⟨[v], []⟩ [("script", v)]) ∧ ∀ base : Heap, K.In base → base.Ns mainGlobals mg → FnOk l.prog w K mg base CX0 13 fa fd ["script"] (spLaw K) :=
  all_mk X G hfa (.of a_is_list l_is_list c_is_list k_is_list) (.of a_is_integer l_is_integer c_is_integer k_is_integer) (.of a_is_number l_is_number c_is_number k_is_number) (.of a_is_name l_is_name c_is_name k_is_name) (.of a_is_wait l_is_wait c_is_wait k_is_wait) (.of a_checked_waits l_checked_waits c_checked_waits k_checked_waits) (.of a_lets_go l_lets_go c_lets_go k_lets_go) (.of a_rounds_in l_rounds_in c_rounds_in k_rounds_in) (.of a_rounds l_rounds c_rounds k_rounds) (.of a_gone_in l_gone_in c_gone_in k_gone_in) (.of a_going_on l_going_on c_going_on k_going_on) (.of a_stuck_in l_stuck_in c_stuck_in k_stuck_in) (.of a_stuck l_stuck c_stuck k_stuck) (.of a_waits_and_hand l_waits_and_hand c_waits_and_hand k_waits_and_hand) (.of a_order_to l_order_to c_order_to k_order_to) (.of a_order_or_knot l_order_or_knot c_order_or_knot k_order_or_knot) (.of a_are_hands l_are_hands c_are_hands k_are_hands) (.of a_is_order_to l_is_order_to c_is_order_to k_is_order_to) (.of a_is_knot l_is_knot c_is_knot k_is_knot) (.of a_is_order_or_knot l_is_order_or_knot c_is_order_or_knot k_is_order_or_knot) (.of a_waits_for_all l_waits_for_all c_waits_for_all k_waits_for_all) (.of a_ring_or_order l_ring_or_order c_ring_or_order k_ring_or_order) (.of a_let_go l_let_go c_let_go k_let_go) (.of a_freed_by l_freed_by c_freed_by k_freed_by) (.of a_least_lot l_least_lot c_least_lot k_least_lot) (.of a_fewest_to_free l_fewest_to_free c_fewest_to_free k_fewest_to_free) (.of a_lot_to_free l_lot_to_free c_lot_to_free k_lot_to_free) (.of a_law_draw l_law_draw c_law_draw k_law_draw) (.of a_law_mixed l_law_mixed c_law_mixed k_law_mixed) (.of a_law_copied l_law_copied c_law_copied k_law_copied) (.of a_law_same l_law_same c_law_same k_law_same) (.of a_law_each_once l_law_each_once c_law_each_once k_law_each_once) (.of a_law_w_rounds l_law_w_rounds c_law_w_rounds k_law_w_rounds) (.of a_law_w_gone l_law_w_gone c_law_w_gone k_law_w_gone) (.of a_law_w_are_hands l_law_w_are_hands c_law_w_are_hands k_law_w_are_hands) (.of a_law_w_is_order l_law_w_is_order c_law_w_is_order k_law_w_is_order) (.of a_law_w_is_knot l_law_w_is_knot c_law_w_is_knot k_law_w_is_knot) (.of a_law_options l_law_options c_law_options k_law_options) (.of a_law_every l_law_every c_law_every k_law_every) (.of a_law_lots l_law_lots c_law_lots k_law_lots) (.of a_law_let l_law_let c_law_let k_law_let) (.of a_law_is_ring l_law_is_ring c_law_is_ring k_law_is_ring) (.of a_law_hands_right l_law_hands_right c_law_hands_right k_law_hands_right) (.of a_law_lots_right l_law_lots_right c_law_lots_right k_law_lots_right) (.of a_law_waits_right l_law_waits_right c_law_waits_right k_law_waits_right) (.of a_start l_start c_start k_start) (.of a_law l_law c_law k_law) z_len z_all z_any z_min z_sum z_sorted z_list z_tuple z_dict z_str z_int z_bool z_isinstance z_range z_enumerate z_zip
end Q

set_option Elab.async false
set_option linter.all false
set_option maxRecDepth 100000
set_option maxHeartbeats 4000000
open PySem PySem.W PyProof.Rows
set_option maxHeartbeats 0 in
theorem PySem.Challenge.cw_cutsheld_k44_main_all_waits_of_three_han_holds : PySem.Challenge.rw_cutsheld_k44_main_all_waits_of_three_han.Holds := by
  w_on
  o_law
  k_head
  (case hw => w_witness2)
  k_fill
  refine L2.walk_of (l := PySem.Challenge.rw_cutsheld_k44_main_all_waits_of_three_han) (n := 63) (k := 13) (x := "script") (CX := fun _ => L2.CX0) (sp := fun w => Q.spLaw _) rfl (by decide) rfl ⟨rfl, by decide, by decide⟩ (fun w h Y => PySem.W.kIn_of Y) ?F (fun _ _ a ns hl _ hS => ⟨a, ns, rfl, hS, hl, fun _ => rfl⟩) (fun _ _ _ _ _ h => h)
  case F =>
    intro w mg fa h KX G hmg
    refine' Q.all_mk2 KX G hmg ?a_is_list ?l_is_list ?c_is_list ?k_is_list ?a_is_integer ?l_is_integer ?c_is_integer ?k_is_integer ?a_is_number ?l_is_number ?c_is_number ?k_is_number ?a_is_name ?l_is_name ?c_is_name ?k_is_name ?a_is_wait ?l_is_wait ?c_is_wait ?k_is_wait ?a_checked_waits ?l_checked_waits ?c_checked_waits ?k_checked_waits ?a_lets_go ?l_lets_go ?c_lets_go ?k_lets_go ?a_rounds_in ?l_rounds_in ?c_rounds_in ?k_rounds_in ?a_rounds ?l_rounds ?c_rounds ?k_rounds ?a_gone_in ?l_gone_in ?c_gone_in ?k_gone_in ?a_going_on ?l_going_on ?c_going_on ?k_going_on ?a_stuck_in ?l_stuck_in ?c_stuck_in ?k_stuck_in ?a_stuck ?l_stuck ?c_stuck ?k_stuck ?a_waits_and_hand ?l_waits_and_hand ?c_waits_and_hand ?k_waits_and_hand ?a_order_to ?l_order_to ?c_order_to ?k_order_to ?a_order_or_knot ?l_order_or_knot ?c_order_or_knot ?k_order_or_knot ?a_are_hands ?l_are_hands ?c_are_hands ?k_are_hands ?a_is_order_to ?l_is_order_to ?c_is_order_to ?k_is_order_to ?a_is_knot ?l_is_knot ?c_is_knot ?k_is_knot ?a_is_order_or_knot ?l_is_order_or_knot ?c_is_order_or_knot ?k_is_order_or_knot ?a_waits_for_all ?l_waits_for_all ?c_waits_for_all ?k_waits_for_all ?a_ring_or_order ?l_ring_or_order ?c_ring_or_order ?k_ring_or_order ?a_let_go ?l_let_go ?c_let_go ?k_let_go ?a_freed_by ?l_freed_by ?c_freed_by ?k_freed_by ?a_least_lot ?l_least_lot ?c_least_lot ?k_least_lot ?a_fewest_to_free ?l_fewest_to_free ?c_fewest_to_free ?k_fewest_to_free ?a_lot_to_free ?l_lot_to_free ?c_lot_to_free ?k_lot_to_free ?a_law_draw ?l_law_draw ?c_law_draw ?k_law_draw ?a_law_mixed ?l_law_mixed ?c_law_mixed ?k_law_mixed ?a_law_copied ?l_law_copied ?c_law_copied ?k_law_copied ?a_law_same ?l_law_same ?c_law_same ?k_law_same ?a_law_each_once ?l_law_each_once ?c_law_each_once ?k_law_each_once ?a_law_w_rounds ?l_law_w_rounds ?c_law_w_rounds ?k_law_w_rounds ?a_law_w_gone ?l_law_w_gone ?c_law_w_gone ?k_law_w_gone ?a_law_w_are_hands ?l_law_w_are_hands ?c_law_w_are_hands ?k_law_w_are_hands ?a_law_w_is_order ?l_law_w_is_order ?c_law_w_is_order ?k_law_w_is_order ?a_law_w_is_knot ?l_law_w_is_knot ?c_law_w_is_knot ?k_law_w_is_knot ?a_law_options ?l_law_options ?c_law_options ?k_law_options ?a_law_every ?l_law_every ?c_law_every ?k_law_every ?a_law_lots ?l_law_lots ?c_law_lots ?k_law_lots ?a_law_let ?l_law_let ?c_law_let ?k_law_let ?a_law_is_ring ?l_law_is_ring ?c_law_is_ring ?k_law_is_ring ?a_law_hands_right ?l_law_hands_right ?c_law_hands_right ?k_law_hands_right ?a_law_lots_right ?l_law_lots_right ?c_law_lots_right ?k_law_lots_right ?a_law_waits_right ?l_law_waits_right ?c_law_waits_right ?k_law_waits_right ?a_start ?l_start ?c_start ?k_start ?a_law ?l_law ?c_law ?k_law ?z_len ?z_all ?z_any ?z_min ?z_sum ?z_sorted ?z_list ?z_tuple ?z_dict ?z_str ?z_int ?z_bool ?z_isinstance ?z_range ?z_enumerate ?z_zip
    (case a_is_list => k_is); (case l_is_list => k_is); (case c_is_list => k_is); (case k_is_list => k_is)
    (case a_is_integer => k_is); (case l_is_integer => k_is); (case c_is_integer => k_is); (case k_is_integer => k_is)
    (case a_is_number => k_is); (case l_is_number => k_is); (case c_is_number => k_is); (case k_is_number => k_is)
    (case a_is_name => k_is); (case l_is_name => k_is); (case c_is_name => k_is); (case k_is_name => k_is)
    (case a_is_wait => k_is); (case l_is_wait => k_is); (case c_is_wait => k_is); (case k_is_wait => k_is)
    (case a_checked_waits => k_is); (case l_checked_waits => k_is); (case c_checked_waits => k_is); (case k_checked_waits => k_is)
    (case a_lets_go => k_is); (case l_lets_go => k_is); (case c_lets_go => k_is); (case k_lets_go => k_is)
    (case a_rounds_in => k_is); (case l_rounds_in => k_is); (case c_rounds_in => k_is); (case k_rounds_in => k_is)
    (case a_rounds => k_is); (case l_rounds => k_is); (case c_rounds => k_is); (case k_rounds => k_is)
    (case a_gone_in => k_is); (case l_gone_in => k_is); (case c_gone_in => k_is); (case k_gone_in => k_is)
    (case a_going_on => k_is); (case l_going_on => k_is); (case c_going_on => k_is); (case k_going_on => k_is)
    (case a_stuck_in => k_is); (case l_stuck_in => k_is); (case c_stuck_in => k_is); (case k_stuck_in => k_is)
    (case a_stuck => k_is); (case l_stuck => k_is); (case c_stuck => k_is); (case k_stuck => k_is)
    (case a_waits_and_hand => k_is); (case l_waits_and_hand => k_is); (case c_waits_and_hand => k_is); (case k_waits_and_hand => k_is)
    (case a_order_to => k_is); (case l_order_to => k_is); (case c_order_to => k_is); (case k_order_to => k_is)
    (case a_order_or_knot => k_is); (case l_order_or_knot => k_is); (case c_order_or_knot => k_is); (case k_order_or_knot => k_is)
    (case a_are_hands => k_is); (case l_are_hands => k_is); (case c_are_hands => k_is); (case k_are_hands => k_is)
    (case a_is_order_to => k_is); (case l_is_order_to => k_is); (case c_is_order_to => k_is); (case k_is_order_to => k_is)
    (case a_is_knot => k_is); (case l_is_knot => k_is); (case c_is_knot => k_is); (case k_is_knot => k_is)
    (case a_is_order_or_knot => k_is); (case l_is_order_or_knot => k_is); (case c_is_order_or_knot => k_is); (case k_is_order_or_knot => k_is)
    (case a_waits_for_all => k_is); (case l_waits_for_all => k_is); (case c_waits_for_all => k_is); (case k_waits_for_all => k_is)
    (case a_ring_or_order => k_is); (case l_ring_or_order => k_is); (case c_ring_or_order => k_is); (case k_ring_or_order => k_is)
    (case a_let_go => k_is); (case l_let_go => k_is); (case c_let_go => k_is); (case k_let_go => k_is)
    (case a_freed_by => k_is); (case l_freed_by => k_is); (case c_freed_by => k_is); (case k_freed_by => k_is)
    (case a_least_lot => k_is); (case l_least_lot => k_is); (case c_least_lot => k_is); (case k_least_lot => k_is)
    (case a_fewest_to_free => k_is); (case l_fewest_to_free => k_is); (case c_fewest_to_free => k_is); (case k_fewest_to_free => k_is)
    (case a_lot_to_free => k_is); (case l_lot_to_free => k_is); (case c_lot_to_free => k_is); (case k_lot_to_free => k_is)
    (case a_law_draw => k_is); (case l_law_draw => k_is); (case c_law_draw => k_is); (case k_law_draw => k_is)
    (case a_law_mixed => k_is); (case l_law_mixed => k_is); (case c_law_mixed => k_is); (case k_law_mixed => k_is)
    (case a_law_copied => k_is); (case l_law_copied => k_is); (case c_law_copied => k_is); (case k_law_copied => k_is)
    (case a_law_same => k_is); (case l_law_same => k_is); (case c_law_same => k_is); (case k_law_same => k_is)
    (case a_law_each_once => k_is); (case l_law_each_once => k_is); (case c_law_each_once => k_is); (case k_law_each_once => k_is)
    (case a_law_w_rounds => k_is); (case l_law_w_rounds => k_is); (case c_law_w_rounds => k_is); (case k_law_w_rounds => k_is)
    (case a_law_w_gone => k_is); (case l_law_w_gone => k_is); (case c_law_w_gone => k_is); (case k_law_w_gone => k_is)
    (case a_law_w_are_hands => k_is); (case l_law_w_are_hands => k_is); (case c_law_w_are_hands => k_is); (case k_law_w_are_hands => k_is)
    (case a_law_w_is_order => k_is); (case l_law_w_is_order => k_is); (case c_law_w_is_order => k_is); (case k_law_w_is_order => k_is)
    (case a_law_w_is_knot => k_is); (case l_law_w_is_knot => k_is); (case c_law_w_is_knot => k_is); (case k_law_w_is_knot => k_is)
    (case a_law_options => k_is); (case l_law_options => k_is); (case c_law_options => k_is); (case k_law_options => k_is)
    (case a_law_every => k_is); (case l_law_every => k_is); (case c_law_every => k_is); (case k_law_every => k_is)
    (case a_law_lots => k_is); (case l_law_lots => k_is); (case c_law_lots => k_is); (case k_law_lots => k_is)
    (case a_law_let => k_is); (case l_law_let => k_is); (case c_law_let => k_is); (case k_law_let => k_is)
    (case a_law_is_ring => k_is); (case l_law_is_ring => k_is); (case c_law_is_ring => k_is); (case k_law_is_ring => k_is)
    (case a_law_hands_right => k_is); (case l_law_hands_right => k_is); (case c_law_hands_right => k_is); (case k_law_hands_right => k_is)
    (case a_law_lots_right => k_is); (case l_law_lots_right => k_is); (case c_law_lots_right => k_is); (case k_law_lots_right => k_is)
    (case a_law_waits_right => k_is); (case l_law_waits_right => k_is); (case c_law_waits_right => k_is); (case k_law_waits_right => k_is)
    (case a_start => k_is); (case l_start => k_is); (case c_start => k_is); (case k_start => k_is)
    (case a_law => k_is); (case l_law => k_is); (case c_law => k_is); (case k_law => k_is)
    case z_len => k_is
    case z_all => k_is
    case z_any => k_is
    case z_min => k_is
    case z_sum => k_is
    case z_sorted => k_is
    case z_list => k_is
    case z_tuple => k_is
    case z_dict => k_is
    case z_str => k_is
    case z_int => k_is
    case z_bool => k_is
    case z_isinstance => k_is
    case z_range => k_is
    case z_enumerate => k_is
    case z_zip => k_is

