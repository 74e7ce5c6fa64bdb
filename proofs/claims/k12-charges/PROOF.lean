import PyProof.Rows.All
import HandS.ForMost
import HandS.Exc
import HandS.ExcOwn
import HandS.TryOnly
import HandS.WordsExc
import HandS.CallSlots
import HandS.Wide
import HandS.TupAny
import HandS.TupMul
import HandS.Flow
import HandS.IsInst
import HandS.Comp
import HandS.Zip
import HandS.SortRule
import KE.GoesEnum
import KE.KDictZip
import KE.KTupSum
import HandS.SortInts
import HandS.Style
import HandS.WideMore
import HandS.EndBits
import PySem.Challenge.RW_heedwise_k12_charges
set_option Elab.async false
set_option linter.all false
set_option maxRecDepth 100000
set_option maxHeartbeats 4000000
/-! values as data, worlds, what a heap has of them -/
namespace Hw
open PySem PySem.Spec PyProof.Rows L2

/-- a value as data -/
inductive PV where
  | non | bl (b : Bool) | int (i : Int) | str (s : Str)
  | tup (xs : List PV) | lst (xs : List PV) | dic (ks : List Str) (xs : List PV)
  | obj (n : Nat) | exc (c : Nat) (k : Option Int)
  -- in a slot alone: a list, a dict that is the slot's own
  | owl (xs : List PV) | owd (ks : List Str) (xs : List PV)
instance : Inhabited PV := ⟨.non⟩
/-- an exception as data: its class, its number -/
structure Xc where
  c : Nat
  k : Option Int
/-- an instance as data -/
structure Ob where
  cls : Nat
  fs : List (Nat × PV)
abbrev Oms := List Ob
abbrev Loc := List (Option PV)
/-- what is changed at an address, whose it is -/
inductive Ow where
  | slot (i : Nat) | rcd (n : Nat) | fld (n f : Nat)
  deriving DecidableEq
def Ow.isSlot : Ow → Bool
  | .slot _ => true
  | _ => false
structure Wd where
  F : Hp
  M : Nat → Option Addr
  own : Addr → Option Ow
/-- a text's names: classes' addresses, fields' names -/
structure Adr where
  K : PySem.W.Frag
  cad : Nat → Addr
  fnm : Nat → Str

/-- a tuple stands there -/
def TAt (D : Adr) (F : Hp) (a : Addr) (vs : List V) : Prop := F a = some (.tup vs)
mutual
inductive Rep (D : Adr) (F : Hp) (M : Nat → Option Addr) : PV → V → Prop
  | non : Rep D F M .non .non
  | bl (b : Bool) : Rep D F M (.bl b) (.bl b)
  | int (i : Int) : Rep D F M (.int i) (.int i)
  | str (s : Str) : Rep D F M (.str s) (.str s)
  | tup {a : Addr} {xs : List PV} {vs : List V} (h : TAt D F a vs) (z : vs.length ≤ sizeLine) (r : Reps D F M xs vs) : Rep D F M (.tup xs) (.ref a)
  | lst {a : Addr} {xs : List PV} {vs : List V} (h : SqL D.K F a vs) (z : vs.length ≤ sizeLine) (r : Reps D F M xs vs) : Rep D F M (.lst xs) (.ref a)
  | dic {a : Addr} {ks : List Str} {xs : List PV} {kvs : List (Key × V)} (h : F a = some (.dK kvs)) (k : kvs.map (·.1) = ks.map Sum.inr) (r : Reps D F M xs (kvs.map (·.2))) : Rep D F M (.dic ks xs) (.ref a)
  | obj {n : Nat} {a : Addr} (h : M n = some a) : Rep D F M (.obj n) (.ref a)
inductive Reps (D : Adr) (F : Hp) (M : Nat → Option Addr) : List PV → List V → Prop
  | nil : Reps D F M [] []
  | cons {x : PV} {v : V} {xs : List PV} {vs : List V} (r : Rep D F M x v) (t : Reps D F M xs vs) : Reps D F M (x :: xs) (v :: vs)
end
def FLe (F F' : Hp) : Prop := ∀ a o, F a = some o → F' a = some o
def MLe (M M' : Nat → Option Addr) : Prop := ∀ n a, M n = some a → M' n = some a
theorem FLe.refl (F : Hp) : FLe F F := fun _ _ h => h
theorem FLe.trans {F G K : Hp} (a : FLe F G) (b : FLe G K) : FLe F K := fun c o h => b c o (a c o h)
theorem MLe.refl (M : Nat → Option Addr) : MLe M M := fun _ _ h => h
theorem MLe.trans {F G K : Nat → Option Addr} (a : MLe F G) (b : MLe G K) : MLe F K := fun c o h => b c o (a c o h)
theorem TAt.mono {D : Adr} {F F' : Hp} {a : Addr} {vs : List V} (hF : FLe F F') (h : TAt D F a vs) : TAt D F' a vs := hF _ _ h
theorem TAt.sq {D : Adr} {F : Hp} {a : Addr} {vs : List V} (h : TAt D F a vs) : SqT D.K F a vs := .inl (.inl h)
theorem sqL_mono {K : PySem.W.Frag} {F F' : Hp} {a : Addr} {vs : List V} (hF : FLe F F') (h : SqL K F a vs) : SqL K F' a vs := h.elim (fun h => .inl (h.elim (fun h => .inl (hF _ _ h)) fun ⟨o, h⟩ => .inr ⟨o, hF _ _ h⟩)) .inr
theorem sqT_mono {K : PySem.W.Frag} {F F' : Hp} {a : Addr} {vs : List V} (hF : FLe F F') (h : SqT K F a vs) : SqT K F' a vs := h.elim (fun h => .inl (h.elim (fun h => .inl (hF _ _ h)) fun ⟨o, h⟩ => .inr ⟨o, hF _ _ h⟩)) .inr
structure Wd.Le (W W' : Wd) : Prop where
  F : FLe W.F W'.F
  M : MLe W.M W'.M
theorem Wd.Le.refl (W : Wd) : W.Le W := ⟨FLe.refl _, MLe.refl _⟩
theorem Wd.Le.trans {A B C : Wd} (a : A.Le B) (b : B.Le C) : A.Le C := ⟨a.F.trans b.F, a.M.trans b.M⟩
section
variable {D : Adr} {F F' : Hp} {M M' : Nat → Option Addr}
mutual
theorem Rep.mono (hF : FLe F F') (hM : MLe M M') : ∀ {x : PV} {v : V}, Rep D F M x v → Rep D F' M' x v
  | _, _, .non => .non
  | _, _, .bl b => .bl b
  | _, _, .int i => .int i
  | _, _, .str s => .str s
  | _, _, .tup h z r => .tup (h.mono hF) z (Reps.mono hF hM r)
  | _, _, .lst h z r => .lst (sqL_mono hF h) z (Reps.mono hF hM r)
  | _, _, .dic h k r => .dic (hF _ _ h) k (Reps.mono hF hM r)
  | _, _, .obj h => .obj (hM _ _ h)
theorem Reps.mono (hF : FLe F F') (hM : MLe M M') : ∀ {xs : List PV} {vs : List V}, Reps D F M xs vs → Reps D F' M' xs vs
  | _, _, .nil => .nil
  | _, _, .cons r t => .cons (Rep.mono hF hM r) (Reps.mono hF hM t)
end
theorem Reps.length : ∀ {xs : List PV} {vs : List V}, Reps D F M xs vs → xs.length = vs.length
  | _, _, .nil => rfl
  | _, _, .cons _ t => congrArg (· + 1) t.length
theorem Reps.get : ∀ {xs : List PV} {vs : List V} {i : Nat} {x : PV}, Reps D F M xs vs → xs[i]? = some x → ∃ v, vs[i]? = some v ∧ Rep D F M x v
  | _, _, _, _, .nil, e => by simp at e
  | _, _, 0, _, .cons r _, e => by
    simp at e
    subst e
    exact ⟨_, rfl, r⟩
  | _, _, i + 1, x, .cons _ t, e => by
    obtain ⟨u, h1, h2⟩ := Reps.get (i := i) (x := x) t (by simpa using e)
    exact ⟨u, by simpa using h1, h2⟩
theorem Reps.getV : ∀ {xs : List PV} {vs : List V} {i : Nat} {v : V}, Reps D F M xs vs → vs[i]? = some v → ∃ x, xs[i]? = some x ∧ Rep D F M x v
  | _, _, _, _, .nil, e => by simp at e
  | _, _, 0, _, .cons r _, e => by
    simp at e
    subst e
    exact ⟨_, rfl, r⟩
  | _, _, i + 1, x, .cons _ t, e => by
    obtain ⟨u, h1, h2⟩ := Reps.getV (i := i) (v := x) t (by simpa using e)
    exact ⟨u, by simpa using h1, h2⟩
theorem Reps.append : ∀ {xs ys : List PV} {vs ws : List V}, Reps D F M xs vs → Reps D F M ys ws → Reps D F M (xs ++ ys) (vs ++ ws)
  | _, _, _, _, .nil, s => s
  | _, _, _, _, .cons r t, s => .cons r (t.append s)
theorem Reps.take : ∀ {xs : List PV} {vs : List V} (n : Nat), Reps D F M xs vs → Reps D F M (xs.take n) (vs.take n)
  | _, _, 0, _ => .nil
  | _, _, _ + 1, .nil => .nil
  | _, _, n + 1, .cons r t => .cons r (t.take n)
theorem Reps.drop : ∀ {xs : List PV} {vs : List V} (n : Nat), Reps D F M xs vs → Reps D F M (xs.drop n) (vs.drop n)
  | _, _, 0, r => r
  | _, _, _ + 1, .nil => .nil
  | _, _, n + 1, .cons _ t => t.drop n
theorem Reps.set {x : PV} {v : V} (r : Rep D F M x v) : ∀ {xs : List PV} {vs : List V} (i : Nat), Reps D F M xs vs → Reps D F M (xs.set i x) (vs.set i v)
  | _, _, _, .nil => .nil
  | _, _, 0, .cons _ t => .cons r t
  | _, _, i + 1, .cons q t => .cons q (Reps.set r i t)
theorem Reps.snoc {xs : List PV} {vs : List V} {x : PV} {v : V} (t : Reps D F M xs vs) (r : Rep D F M x v) : Reps D F M (xs ++ [x]) (vs ++ [v]) := t.append (.cons r .nil)
theorem Reps.reverse : ∀ {xs : List PV} {vs : List V}, Reps D F M xs vs → Reps D F M xs.reverse vs.reverse
  | _, _, .nil => .nil
  | _, _, .cons r t => by
    rw [List.reverse_cons, List.reverse_cons]
    exact t.reverse.snoc r
theorem Reps.ints : ∀ {ns : List Int} {vs : List V}, Reps D F M (ns.map PV.int) vs → vs = ns.map V.int
  | [], _, .nil => rfl
  | n :: ns, _, .cons r t => by
    cases r
    rw [Reps.ints t]
    rfl
theorem Reps.of_ints : ∀ {ns : List Int}, Reps D F M (ns.map PV.int) (ns.map V.int)
  | [] => .nil
  | n :: ns => .cons (.int n) Reps.of_ints
end

/-! ### flat values: no list, no dict in them -/
mutual
def flat : PV → Bool
  | .lst _ => false
  | .dic _ _ => false
  | .owl _ => false
  | .owd _ _ => false
  | .tup xs => flats xs
  | _ => true
def flats : List PV → Bool
  | [] => true
  | x :: xs => flat x && flats xs
end
section
variable {D : Adr} {F F' : Hp} {M : Nat → Option Addr}
mutual
/-- a flat value leans on the tuples alone -/
theorem Rep.flat (hF : ∀ a vs, F a = some (.tup vs) → F' a = some (.tup vs)) : ∀ {x : PV} {v : V}, flat x = true → Rep D F M x v → Rep D F' M x v
  | _, _, _, .non => .non
  | _, _, _, .bl b => .bl b
  | _, _, _, .int i => .int i
  | _, _, _, .str s => .str s
  | _, _, e, .tup h z r => .tup (hF _ _ h) z (Reps.flat hF (by simpa [Hw.flat] using e) r)
  | _, _, e, .lst h z r => by simp [Hw.flat] at e
  | _, _, e, .dic h k r => by simp [Hw.flat] at e
  | _, _, _, .obj h => .obj h
theorem Reps.flat (hF : ∀ a vs, F a = some (.tup vs) → F' a = some (.tup vs)) : ∀ {xs : List PV} {vs : List V}, flats xs = true → Reps D F M xs vs → Reps D F' M xs vs
  | _, _, _, .nil => .nil
  | _, _, e, .cons r t => by
    simp only [flats, Bool.and_eq_true] at e
    exact .cons (Rep.flat hF e.1 r) (Reps.flat hF e.2 t)
end
end

/-! ### what a heap has of the data -/
inductive FRep (D : Adr) (W : Wd) (H : Hp) (w : Ow) : PV → V → Prop
  | val {x : PV} {v : V} (r : Rep D W.F W.M x v) (hx : flat x = true) : FRep D W H w x v
  | lst {b : Addr} {xs : List PV} {vs : List V} (o : W.own b = some w) (h : H b = some (.lst vs)) (z : vs.length ≤ sizeLine) (r : Reps D W.F W.M xs vs) (hx : flats xs = true) : FRep D W H w (.lst xs) (.ref b)
  | dic {b : Addr} {ks : List Str} {xs : List PV} {kvs : List (Key × V)} (o : W.own b = some w) (h : H b = some (.dK kvs)) (k : kvs.map (·.1) = ks.map Sum.inr) (r : Reps D W.F W.M xs (kvs.map (·.2))) (hx : flats xs = true) : FRep D W H w (.dic ks xs) (.ref b)
def Rec (D : Adr) (W : Wd) (H : Hp) (n : Nat) (ob : Ob) : Prop :=
  ∃ a dx hfs, W.M n = some a ∧ W.own a = some (.rcd n) ∧ H a = some (.ins (D.cad ob.cls) dx hfs) ∧ Paired (fun (p : Nat × PV) (q : Str × V) => q.1 = D.fnm p.1 ∧ FRep D W H (.fld n p.1) p.2 q.2) ob.fs hfs
structure GRel (D : Adr) (W : Wd) (O : Oms) (H : Hp) : Prop where
  sub : FLe W.F H
  ownF : ∀ a w, W.own a = some w → W.F a = none ∧ ∃ o, H a = some o
  objs : ∀ n ob, O[n]? = some ob → Rec D W H n ob
  fresh : ∀ n a, W.M n = some a → n < O.length
/-- from an entry (W0, H0) on -/
structure FRel (D : Adr) (W0 : Wd) (H0 : Hp) (W : Wd) (O : Oms) (H : Hp) : Prop where
  g : GRel D W O H
  le : W0.Le W
  fr : ∀ a o, H0 a = some o → W.F a = W0.F a ∧ W.own a = W0.own a ∧ (W0.own a = none → H a = some o)
/-- a def's run: the text's addresses, the entry, the wish of exceptions -/
structure Ctx where
  D : Adr
  W0 : Wd
  H0 : Hp
  EX : WX
  /-- lists that grow within an expression: their owners' numbers -/
  tm : List (Nat × Addr × List PV)
  tn : Nat
/-- what a slot's own address holds -/
inductive OAt (C : Ctx) (W : Wd) (H : Hp) (i : Nat) (a : Addr) : PV → Prop
  | lst {xs : List PV} {vs : List V} (o : W.own a = some (.slot i)) (n : C.H0 a = none) (h : H a = some (.lst vs)) (z : vs.length ≤ sizeLine) (r : Reps C.D W.F W.M xs vs) : OAt C W H i a (.owl xs)
  | dic {ks : List Str} {xs : List PV} {kvs : List (Key × V)} (o : W.own a = some (.slot i)) (n : C.H0 a = none) (h : H a = some (.dK kvs)) (k : kvs.map (·.1) = ks.map Sum.inr) (r : Reps C.D W.F W.M xs (kvs.map (·.2))) : OAt C W H i a (.owd ks xs)
inductive SRep (C : Ctx) (W : Wd) (H : Hp) (σ : L2.St) (i : Nat) (x : PV) : Prop
  | sh {v : V} (e : σ[i]? = some (some v)) (r : Rep C.D W.F W.M x v) : SRep C W H σ i x
  | ow {a : Addr} (e : σ[i]? = some (some (.ref a))) (r : OAt C W H i a x) : SRep C W H σ i x
structure BRel (C : Ctx) (W : Wd) (ρ : Loc) (O : Oms) (σ : L2.St) (H : Hp) : Prop where
  f : FRel C.D C.W0 C.H0 W O H
  ns : ∀ a i, C.W0.own a ≠ some (.slot i)
  loc : ∀ i x, ρ[i]? = some (some x) → SRep C W H σ i x
  len : σ.length = ρ.length
  tm : ρ.length ≤ C.tn ∧ ∀ t ∈ C.tm, ρ.length ≤ t.1 ∧ t.1 < C.tn ∧ OAt C W H t.1 t.2.1 (.owl t.2.2)
/-- a value, or what a slot of one's own holds -/
inductive LRep (C : Ctx) (W : Wd) (ρ : Loc) (σ : L2.St) : PV → V → Prop
  | rep {x : PV} {v : V} (r : Rep C.D W.F W.M x v) : LRep C W ρ σ x v
  | own {i : Nat} {xs : List PV} {v : V} (e : ρ[i]? = some (some (.owl xs))) (q : σ[i]? = some (some v)) : LRep C W ρ σ (.lst xs) v
  | ownd {i : Nat} {ks : List Str} {xs : List PV} {v : V} (e : ρ[i]? = some (some (.owd ks xs))) (q : σ[i]? = some (some v)) : LRep C W ρ σ (.dic ks xs) v
def XRep (D : Adr) (W : Wd) (x : Xc) (c : Value) (d : Option Addr) : Prop :=
  c = .ref (D.cad x.c) ∧ match x.k with
    | none => d = none
    | some k => ∃ dx, d = some dx ∧ W.F dx = some (.xd [("number", .int k)])

/-- a new list (or dict) that nobody holds yet -/
inductive New (C : Ctx) (W : Wd) (H : Hp) : PV → V → Prop
  | lst {p : Addr} {xs : List PV} {vs : List V} (f : W.F p = none) (o : W.own p = none) (n : C.H0 p = none) (h : H p = some (.lst vs)) (z : vs.length ≤ sizeLine) (r : Reps C.D W.F W.M xs vs) : New C W H (.lst xs) (.ref p)
  | dic {p : Addr} {ks : List Str} {xs : List PV} {kvs : List (Key × V)} (f : W.F p = none) (o : W.own p = none) (n : C.H0 p = none) (h : H p = some (.dK kvs)) (k : kvs.map (·.1) = ks.map Sum.inr) (r : Reps C.D W.F W.M xs (kvs.map (·.2))) : New C W H (.dic ks xs) (.ref p)

/-! ### results -/
inductive Rs (α : Type) where
  | ok (a : α) (O : Oms)
  | ex (x : Xc) (O : Oms)
def bnd {α β : Type} (r : Option (Rs α)) (g : α → Oms → Option (Rs β)) : Option (Rs β) := match r with
  | some (.ok a O) => g a O
  | some (.ex x O) => some (.ex x O)
  | none => none
/-- from a state on: what the wanted end gets -/
def Goes {α β : Type} (C : Ctx) (R : Wd → Hp → α → β → Prop) (W : Wd) (ρ : Loc) (σ : L2.St) (r : Option (Rs α)) (Q : β → Hp → Prop) : Prop := match r with
  | none => False
  | some (.ok a O) => ∀ W' H' v, W.Le W' → BRel C W' ρ O σ H' → R W' H' a v → Q v H'
  | some (.ex x O) => ∀ W' H' c d, W.Le W' → BRel C W' ρ O σ H' → XRep C.D W' x c d → C.EX c d σ H'
section
variable {C : Ctx} {W : Wd} {ρ : Loc} {σ : L2.St} {α β γ δ : Type} {R : Wd → Hp → α → β → Prop} {S : Wd → Hp → γ → δ → Prop} {r : Option (Rs α)} {g : α → Oms → Option (Rs γ)} {Q : δ → Hp → Prop} {Q1 : β → Hp → Prop}
theorem Goes.le {W' : Wd} (le : W.Le W') (h : Goes C R W ρ σ r Q1) : Goes C R W' ρ σ r Q1 := by
  cases r with
  | none => exact h
  | some r =>
    cases r with
    | ok a O => exact fun W2 H2 v2 le2 => h W2 H2 v2 (le.trans le2)
    | ex x O => exact fun W2 H2 c d le2 => h W2 H2 c d (le.trans le2)
theorem goes_bnd (h : Goes C S W ρ σ (bnd r g) Q) (k : ∀ W1 H1 a v O1, W.Le W1 → BRel C W1 ρ O1 σ H1 → R W1 H1 a v → Goes C S W1 ρ σ (g a O1) Q → Q1 v H1) : Goes C R W ρ σ r Q1 := by
  cases r with
  | none => exact h
  | some r =>
    cases r with
    | ok a O => exact fun W' H' v le B Ra => k W' H' a v O le B Ra (Goes.le le h)
    | ex x O => exact h
/-- the same value in another sense -/
theorem Goes.imp {R' : Wd → Hp → α → β → Prop} (h : Goes C R W ρ σ r Q1) (k : ∀ W' O' H' a v, BRel C W' ρ O' σ H' → R' W' H' a v → ∃ W2, W'.Le W2 ∧ BRel C W2 ρ O' σ H' ∧ R W2 H' a v) : Goes C R' W ρ σ r Q1 := by
  cases r with
  | none => exact h
  | some r =>
    cases r with
    | ok a O =>
      intro W' H' v le B Ra
      obtain ⟨W2, le2, B2, R2⟩ := k W' O H' a v B Ra
      exact h W2 H' v (le.trans le2) B2 R2
    | ex x O => exact h
end

/-- an expression's evaluation -/
abbrev Ev := Loc → Oms → Option (Rs PV)
abbrev RS (C : Ctx) : Wd → Hp → PV → V → Prop := fun W _ x v => Rep C.D W.F W.M x v
abbrev RL (C : Ctx) (ρ : Loc) (σ : L2.St) : Wd → Hp → PV → V → Prop := fun W _ x v => LRep C W ρ σ x v
abbrev RN (C : Ctx) : Wd → Hp → PV → V → Prop := fun W H x v => New C W H x v
abbrev RSs (C : Ctx) : Wd → Hp → List PV → List V → Prop := fun W _ x v => Reps C.D W.F W.M x v
def tX (C : Ctx) (f : Ev) : TE := fun σ H Q => ∃ W ρ O, BRel C W ρ O σ H ∧ Goes C (RS C) W ρ σ (f ρ O) Q
def tL (C : Ctx) (f : Ev) : TE := fun σ H Q => ∃ W ρ O, BRel C W ρ O σ H ∧ Goes C (RL C ρ σ) W ρ σ (f ρ O) Q
def tN (C : Ctx) (f : Ev) : TE := fun σ H Q => ∃ W ρ O, BRel C W ρ O σ H ∧ Goes C (RN C) W ρ σ (f ρ O) Q
/-- an argument list's -/
def tXs (C : Ctx) (f : Loc → Oms → Option (Rs (List PV))) : TA := fun σ H Q => ∃ W ρ O, BRel C W ρ O σ H ∧ Goes C (RSs C) W ρ σ (f ρ O) Q
def tTt (C : Ctx) (f : Loc → Oms → Option (Rs Bool)) : TT := fun σ H Q => ∃ W ρ O, BRel C W ρ O σ H ∧ Goes C (fun _ _ (x v : Bool) => x = v) W ρ σ (f ρ O) Q

/-! ### moving the relations -/
section
variable {D : Adr} {W W' : Wd} {O : Oms} {H H' : Hp}
theorem FRep.move {w : Ow} {x : PV} {v : V} (r : FRep D W H w x v) (le : W.Le W') (ow : ∀ a, W.own a = some w → W'.own a = some w) (hk : ∀ a, W.own a = some w → H' a = H a) : FRep D W' H' w x v := by
  cases r with
  | val r hx => exact .val (r.mono le.F le.M) hx
  | lst o h z r hx => exact .lst (ow _ o) ((hk _ o).trans h) z (r.mono le.F le.M) hx
  | dic o h k r hx => exact .dic (ow _ o) ((hk _ o).trans h) k (r.mono le.F le.M) hx
theorem paired_imp {α β : Type} {F G : α → β → Prop} : ∀ {l₁ : List α} {l₂ : List β}, Paired F l₁ l₂ → (∀ a b, F a b → G a b) → Paired G l₁ l₂
  | _, _, .nil, _ => .nil
  | _, _, .cons r t, f => .cons (f _ _ r) (paired_imp t f)
theorem Rec.move {n : Nat} {ob : Ob} (r : Rec D W H n ob) (le : W.Le W') (ow : ∀ a w, w.isSlot = false → W.own a = some w → W'.own a = some w) (hk : ∀ a w, w.isSlot = false → W.own a = some w → H' a = H a) : Rec D W' H' n ob := by
  obtain ⟨a, dx, hfs, h1, h2, h3, h4⟩ := r
  exact ⟨a, dx, hfs, le.M _ _ h1, ow _ _ rfl h2, (hk _ _ rfl h2).trans h3, paired_imp h4 fun p q z => ⟨z.1, z.2.move le (fun a => ow a _ rfl) (fun a => hk a _ rfl)⟩⟩
theorem GRel.move (g : GRel D W O H) (le : W.Le W') (ow : ∀ a w, w.isSlot = false → W.own a = some w → W'.own a = some w) (hk : ∀ a w, w.isSlot = false → W.own a = some w → H' a = H a)
    (sub : FLe W'.F H') (ownF : ∀ a w, W'.own a = some w → W'.F a = none ∧ ∃ o, H' a = some o) (fresh : ∀ n a, W'.M n = some a → n < O.length) : GRel D W' O H' :=
  ⟨sub, ownF, fun n ob e => (g.objs n ob e).move le ow hk, fresh⟩
end
section
variable {C : Ctx} {W W' : Wd} {ρ : Loc} {O : Oms} {σ : L2.St} {H H' : Hp}
theorem OAt.move {i : Nat} {a : Addr} {x : PV} (r : OAt C W H i a x) (le : W.Le W') (ow : W'.own a = W.own a) (hk : H' a = H a) : OAt C W' H' i a x := by
  cases r with
  | lst o n h z r => exact .lst (ow.trans o) n (hk.trans h) z (r.mono le.F le.M)
  | dic o n h k r => exact .dic (ow.trans o) n (hk.trans h) k (r.mono le.F le.M)
theorem OAt.own {i : Nat} {a : Addr} {x : PV} (r : OAt C W H i a x) : W.own a = some (.slot i) := by cases r <;> assumption
theorem OAt.h0 {i : Nat} {a : Addr} {x : PV} (r : OAt C W H i a x) : C.H0 a = none := by cases r <;> assumption
theorem SRep.move {i : Nat} {x : PV} (r : SRep C W H σ i x) (le : W.Le W') (ow : ∀ a, W.own a = some (.slot i) → W'.own a = some (.slot i)) (hk : ∀ a, W.own a = some (.slot i) → H' a = H a) : SRep C W' H' σ i x := by
  cases r with
  | sh e r => exact .sh e (r.mono le.F le.M)
  | ow e r => exact .ow e (r.move le ((ow _ r.own).trans r.own.symm) (hk _ r.own))
theorem BRel.tmMove (B : BRel C W ρ O σ H) (le : W.Le W') (ow : ∀ a i, ρ.length ≤ i → W.own a = some (.slot i) → W'.own a = some (.slot i)) (hk : ∀ a i, ρ.length ≤ i → W.own a = some (.slot i) → H' a = H a) :
    ρ.length ≤ C.tn ∧ ∀ t ∈ C.tm, ρ.length ≤ t.1 ∧ t.1 < C.tn ∧ OAt C W' H' t.1 t.2.1 (.owl t.2.2) :=
  ⟨B.tm.1, fun t ht => by
    obtain ⟨h1, h2, h3⟩ := B.tm.2 t ht
    exact ⟨h1, h2, h3.move le ((ow _ _ h1 h3.own).trans h3.own.symm) (hk _ _ h1 h3.own)⟩⟩
theorem BRel.h0 (B : BRel C W ρ O σ H) {p : Addr} (hp : H p = none) : C.H0 p = none := by
  cases q : C.H0 p with
  | none => rfl
  | some o =>
    obtain ⟨_, h2, h3⟩ := B.f.fr p o q
    cases q2 : C.W0.own p with
    | none => rw [h3 q2] at hp; cases hp
    | some w =>
      obtain ⟨_, o', e⟩ := B.f.g.ownF p w (h2.trans q2)
      rw [e] at hp; cases hp
/-- something new is laid that is nobody's -/
theorem BRel.new (B : BRel C W ρ O σ H) {p : Addr} {o : HO} (hp : H p = none) : BRel C W ρ O σ (upd H p o) := by
  have ne : ∀ {b : Addr} {u : HO}, H b = some u → b ≠ p := fun e => ne_of_none e hp
  have nw : ∀ {b : Addr} {w : Ow}, W.own b = some w → upd H p o b = H b := fun {b w} e => by
    obtain ⟨_, u, q⟩ := B.f.g.ownF b w e
    exact upd_ne (ne q)
  refine ⟨⟨B.f.g.move (Wd.Le.refl _) (fun _ _ _ e => e) (fun a w _ e => nw e) (fun a u e => ?_) (fun a w e => ?_) B.f.g.fresh, B.f.le, fun a u e => ?_⟩, B.ns, fun i x e => (B.loc i x e).move (Wd.Le.refl _) (fun _ e => e) (fun a e => nw e), B.len, B.tmMove (Wd.Le.refl _) (fun _ _ _ e => e) (fun a _ _ e => nw e)⟩
  · have q := B.f.g.sub a u e
    rw [upd_ne (ne q)]; exact q
  · obtain ⟨h1, u, q⟩ := B.f.g.ownF a w e
    exact ⟨h1, u, by rw [upd_ne (ne q)]; exact q⟩
  · obtain ⟨h1, h2, h3⟩ := B.f.fr a u e
    exact ⟨h1, h2, fun z => by rw [upd_ne (ne (h3 z))]; exact h3 z⟩
/-- nobody's object is frozen -/
theorem BRel.frz (B : BRel C W ρ O σ H) {p : Addr} {o : HO} (hp : H p = some o) (hF : W.F p = none) (ho : W.own p = none) (h0 : C.H0 p = none) : BRel C { W with F := upd W.F p o } ρ O σ H := by
  have le : W.Le { W with F := upd W.F p o } := ⟨fun a u e => by
    show upd W.F p o a = some u
    rw [upd_ne (ne_of_none e hF)]; exact e, MLe.refl _⟩
  refine ⟨⟨B.f.g.move le (fun _ _ _ e => e) (fun _ _ _ _ => rfl) (fun a u e => ?_) (fun a w e => ?_) B.f.g.fresh, B.f.le.trans le, fun a u e => ?_⟩, B.ns, fun i x e => (B.loc i x e).move le (fun _ e => e) (fun _ _ => rfl), B.len, B.tmMove le (fun _ _ _ e => e) (fun _ _ _ _ => rfl)⟩
  · have e' : upd W.F p o a = some u := e
    by_cases ha : a = p
    · subst ha
      rw [upd_same] at e'
      cases e'
      exact hp
    · rw [upd_ne ha] at e'
      exact B.f.g.sub a u e'
  · have e' : W.own a = some w := e
    have ha : a ≠ p := fun z => by rw [z, ho] at e'; cases e'
    obtain ⟨h1, h2⟩ := B.f.g.ownF a w e'
    exact ⟨by show upd W.F p o a = none; rw [upd_ne ha]; exact h1, h2⟩
  · have ha : a ≠ p := fun z => by rw [z, h0] at e; cases e
    obtain ⟨h1, h2, h3⟩ := B.f.fr a u e
    exact ⟨by show upd W.F p o a = _; rw [upd_ne ha]; exact h1, h2, h3⟩
theorem BRel.nown (B : BRel C W ρ O σ H) {p : Addr} (hp : H p = none) : W.own p = none := by
  cases q : W.own p with
  | none => rfl
  | some w =>
    obtain ⟨_, o, e⟩ := B.f.g.ownF p w q
    rw [e] at hp; cases hp
theorem BRel.nfrz (B : BRel C W ρ O σ H) {p : Addr} (hp : H p = none) : W.F p = none := by
  cases q : W.F p with
  | none => rfl
  | some o =>
    have e := B.f.g.sub p o q
    rw [e] at hp; cases hp
abbrev Wd.frz (W : Wd) (p : Addr) (o : HO) : Wd := { W with F := upd W.F p o }
theorem Wd.frz_le {W : Wd} {p : Addr} {o : HO} (hF : W.F p = none) : W.Le (W.frz p o) := ⟨fun a u e => by
    show upd W.F p o a = some u
    rw [upd_ne (ne_of_none e hF)]; exact e, MLe.refl _⟩
/-- something new is laid and frozen -/
theorem BRel.newF (B : BRel C W ρ O σ H) {p : Addr} {o : HO} (hp : H p = none) : BRel C (W.frz p o) ρ O σ (upd H p o) ∧ W.Le (W.frz p o) :=
  ⟨(B.new hp).frz upd_same (B.nfrz hp) (B.nown hp) (B.h0 hp), Wd.frz_le (B.nfrz hp)⟩
theorem New.frz {x : PV} {v : V} (B : BRel C W ρ O σ H) (n : New C W H x v) : ∃ W2, W.Le W2 ∧ BRel C W2 ρ O σ H ∧ Rep C.D W2.F W2.M x v := by
  cases n with
  | lst f o n h z r => exact ⟨_, Wd.frz_le f, B.frz h f o n, .lst (.inl (.inl upd_same)) z (r.mono (Wd.frz_le f).F (MLe.refl _))⟩
  | dic f o n h k r => exact ⟨_, Wd.frz_le f, B.frz h f o n, .dic upd_same k (r.mono (Wd.frz_le f).F (MLe.refl _))⟩
end
/-! ### judgements between each other -/
theorem PE.mono {X : Cx} {e : Expr} {t t' : TE} (h : PE X e t) (k : ∀ σ H Q, t' σ H Q → t σ H Q) : PE X e t' := ⟨fun pins s σ H Q I q => h.run pins s σ H Q I (k σ H Q q)⟩
theorem PT.mono {X : Cx} {e : Expr} {t t' : TT} (h : PT X e t) (k : ∀ σ H Q, t' σ H Q → t σ H Q) : PT X e t' := ⟨fun pins s σ H Q I q => h.run pins s σ H Q I (k σ H Q q)⟩
theorem PS.mono {X : Cx} {e : Stmt} {t t' : TS} (h : PS X e t) (k : ∀ D σ H, t' D σ H → t D σ H) : PS X e t' := ⟨fun pins s σ H D I q => h.run pins s σ H D I (k D σ H q)⟩
theorem PSs.mono {X : Cx} {e : List Stmt} {t t' : TS} (h : PSs X e t) (k : ∀ D σ H, t' D σ H → t D σ H) : PSs X e t' := ⟨fun pins s σ H D I q => h.run pins s σ H D I (k D σ H q)⟩
section
variable {X : Cx} {C : Ctx} {e : Expr} {f : Ev}
theorem x_of_n (h : PE X e (tN C f)) : PE X e (tX C f) := PE.mono h fun σ H Q ⟨W, ρ, O, B, G⟩ => ⟨W, ρ, O, B, G.imp fun W' O' H' a v B' n => n.frz B'⟩
theorem l_of_x (h : PE X e (tX C f)) : PE X e (tL C f) := PE.mono h fun σ H Q ⟨W, ρ, O, B, G⟩ => ⟨W, ρ, O, B, G.imp fun W' O' H' a v B' r => ⟨W', Wd.Le.refl _, B', .rep r⟩⟩
end
end Hw

/-! operators on data -/
namespace Hw
open PySem PySem.Spec PyProof.Rows L2

section
variable {C : Ctx} {W W' : Wd} {ρ : Loc} {O : Oms} {σ : L2.St} {H H' : Hp}
theorem LRep.le {x : PV} {v : V} (r : LRep C W ρ σ x v) (le : W.Le W') : LRep C W' ρ σ x v := by
  cases r with
  | rep r => exact .rep (r.mono le.F le.M)
  | own e q => exact .own e q
  | ownd e q => exact .ownd e q
def toOw : PV → PV
  | .lst xs => .owl xs
  | .dic ks xs => .owd ks xs
  | x => x
theorem OAt.noRep {i : Nat} {a : Addr} {x : PV} {D : Adr} {F : Hp} {M : Nat → Option Addr} {v : V} (r : OAt C W H i a x) (q : Rep D F M x v) : False := by
  cases r <;> cases q
theorem BRel.own (B : BRel C W ρ O σ H) {i : Nat} {xs : List PV} {v : V} (e : ρ[i]? = some (some (.owl xs))) (q : σ[i]? = some (some v)) : ∃ a, v = .ref a ∧ OAt C W H i a (.owl xs) := by
  cases B.loc i _ e with
  | sh _ r => cases r
  | ow e' r =>
    rw [e'] at q
    cases q
    exact ⟨_, rfl, r⟩
theorem BRel.ownd (B : BRel C W ρ O σ H) {i : Nat} {ks : List Str} {xs : List PV} {v : V} (e : ρ[i]? = some (some (.owd ks xs))) (q : σ[i]? = some (some v)) : ∃ a, v = .ref a ∧ OAt C W H i a (.owd ks xs) := by
  cases B.loc i _ e with
  | sh _ r => cases r
  | ow e' r =>
    rw [e'] at q
    cases q
    exact ⟨_, rfl, r⟩
theorem LRep.cases (B : BRel C W ρ O σ H) {x : PV} {v : V} (r : LRep C W ρ σ x v) : Rep C.D W.F W.M x v ∨ ∃ i a, v = .ref a ∧ OAt C W H i a (toOw x) := by
  cases r with
  | rep r => exact .inl r
  | own e q =>
    obtain ⟨a, e1, e2⟩ := B.own e q
    exact .inr ⟨_, a, e1, e2⟩
  | ownd e q =>
    obtain ⟨a, e1, e2⟩ := B.ownd e q
    exact .inr ⟨_, a, e1, e2⟩
theorem LRep.int (B : BRel C W ρ O σ H) {i : Int} {v : V} (r : LRep C W ρ σ (.int i) v) : v = .int i := by
  rcases r.cases B with r | ⟨_, _, _, r⟩ <;> cases r; rfl
theorem LRep.bl (B : BRel C W ρ O σ H) {i : Bool} {v : V} (r : LRep C W ρ σ (.bl i) v) : v = .bl i := by
  rcases r.cases B with r | ⟨_, _, _, r⟩ <;> cases r; rfl
theorem LRep.non (B : BRel C W ρ O σ H) {v : V} (r : LRep C W ρ σ .non v) : v = .non := by
  rcases r.cases B with r | ⟨_, _, _, r⟩ <;> cases r; rfl
theorem LRep.str (B : BRel C W ρ O σ H) {i : Str} {v : V} (r : LRep C W ρ σ (.str i) v) : v = .str i := by
  rcases r.cases B with r | ⟨_, _, _, r⟩ <;> cases r; rfl
theorem rd_sub {F : Hp} (h : FLe F H) {a : Addr} {o : HO} (r : Rd F a o) : Rd H a o := r.elim (fun h' => .inl (h _ _ h')) fun ⟨o', h'⟩ => .inr ⟨o', h _ _ h'⟩
theorem LRep.lst (B : BRel C W ρ O σ H) {xs : List PV} {v : V} (r : LRep C W ρ σ (.lst xs) v) : ∃ a vs, v = .ref a ∧ SqL C.D.K H a vs ∧ vs.length ≤ sizeLine ∧ Reps C.D W.F W.M xs vs := by
  rcases r.cases B with r | ⟨_, _, e, r⟩
  · cases r with
    | lst h z q => exact ⟨_, _, rfl, sqL_mono B.f.g.sub h, z, q⟩
  · cases r with
    | lst o n h z q => exact ⟨_, _, e, .inl (.inl h), z, q⟩
theorem LRep.tup (B : BRel C W ρ O σ H) {xs : List PV} {v : V} (r : LRep C W ρ σ (.tup xs) v) : ∃ a vs, v = .ref a ∧ SqT C.D.K H a vs ∧ vs.length ≤ sizeLine ∧ Reps C.D W.F W.M xs vs ∧ TAt C.D W.F a vs := by
  rcases r.cases B with r | ⟨_, _, e, r⟩
  · cases r with
    | tup h z q => exact ⟨_, _, rfl, sqT_mono B.f.g.sub h.sq, z, q, h⟩
  · cases r
theorem LRep.dic (B : BRel C W ρ O σ H) {ks : List Str} {xs : List PV} {v : V} (r : LRep C W ρ σ (.dic ks xs) v) : ∃ a kvs, v = .ref a ∧ H a = some (.dK kvs) ∧ kvs.map (·.1) = ks.map Sum.inr ∧ Reps C.D W.F W.M xs (kvs.map (·.2)) := by
  rcases r.cases B with r | ⟨_, _, e, r⟩
  · cases r with
    | dic h k q => exact ⟨_, _, rfl, B.f.g.sub _ _ h, k, q⟩
  · cases r with
    | dic o n h k q => exact ⟨_, _, e, h, k, q⟩
/-- a new tuple -/
theorem BRel.tup (B : BRel C W ρ O σ H) {xs : List PV} {vs : List V} {p : Addr} (r : Reps C.D W.F W.M xs vs) (z : vs.length ≤ sizeLine) (hp : H p = none) :
    ∃ W', W.Le W' ∧ BRel C W' ρ O σ (upd H p (.tup vs)) ∧ Rep C.D W'.F W'.M (.tup xs) (.ref p) := by
  obtain ⟨B', le⟩ := B.newF (o := .tup vs) hp
  exact ⟨_, le, B', .tup upd_same z (r.mono le.F le.M)⟩
theorem BRel.lst (B : BRel C W ρ O σ H) {xs : List PV} {vs : List V} {p : Addr} (r : Reps C.D W.F W.M xs vs) (z : vs.length ≤ sizeLine) (hp : H p = none) :
    ∃ W', W.Le W' ∧ BRel C W' ρ O σ (upd H p (.lst vs)) ∧ Rep C.D W'.F W'.M (.lst xs) (.ref p) := by
  obtain ⟨B', le⟩ := B.newF (o := .lst vs) hp
  exact ⟨_, le, B', .lst (.inl (.inl upd_same)) z (r.mono le.F le.M)⟩
theorem BRel.lstN (B : BRel C W ρ O σ H) {xs : List PV} {vs : List V} {p : Addr} (r : Reps C.D W.F W.M xs vs) (z : vs.length ≤ sizeLine) (hp : H p = none) :
    BRel C W ρ O σ (upd H p (.lst vs)) ∧ New C W (upd H p (.lst vs)) (.lst xs) (.ref p) :=
  ⟨B.new hp, .lst (B.nfrz hp) (B.nown hp) (B.h0 hp) upd_same z r⟩
end

/-! ### results without a state -/
def ret {α : Type} (o : Option α) (O : Oms) : Option (Rs α) := o.map fun a => .ok a O
theorem goes_ret {α β : Type} {C : Ctx} {R : Wd → Hp → α → β → Prop} {W : Wd} {ρ : Loc} {σ : L2.St} {o : Option α} {O : Oms} {Q : β → Hp → Prop} (h : Goes C R W ρ σ (ret o O) Q) :
    ∃ a, o = some a ∧ ∀ W' H' v, W.Le W' → BRel C W' ρ O σ H' → R W' H' a v → Q v H' := by
  cases o with
  | none => exact False.elim h
  | some a => exact ⟨a, rfl, h⟩
/-- a rule of two values fits a function on data -/
def FitB (C : Ctx) (r : R2) (p : PV → PV → Option PV) : Prop :=
  ∀ W ρ O σ H x y v u z Q, BRel C W ρ O σ H → LRep C W ρ σ x v → LRep C W ρ σ y u → p x y = some z → (∀ W' H' v', W.Le W' → BRel C W' ρ O σ H' → Rep C.D W'.F W'.M z v' → Q v' H') → r v u H Q
def FitN (C : Ctx) (r : R2) (p : PV → PV → Option PV) : Prop :=
  ∀ W ρ O σ H x y v u z Q, BRel C W ρ O σ H → LRep C W ρ σ x v → LRep C W ρ σ y u → p x y = some z → (∀ W' H' v', W.Le W' → BRel C W' ρ O σ H' → New C W' H' z v' → Q v' H') → r v u H Q
def ev2 (p : PV → PV → Option PV) (fa fb : Ev) : Ev := fun ρ O => bnd (fa ρ O) fun x O1 => bnd (fb ρ O1) fun y O2 => ret (p x y) O2
def ev1 (p : PV → Option PV) (fa : Ev) : Ev := fun ρ O => bnd (fa ρ O) fun x O1 => ret (p x) O1
section
variable {X : Cx} {C : Ctx} {a b : Expr} {fa fb : Ev} {pos : Pos} {r : R2} {p : PV → PV → Option PV}
theorem two_run {t : TE} (k : ∀ σ H Q, tOp r (tL C fa) (tL C fb) σ H Q → t σ H Q) {σ : L2.St} {H : Hp} {Q : VK} {R : Wd → Hp → PV → V → Prop}
    (hr : ∀ W ρ O σ H x y v u z Q, BRel C W ρ O σ H → LRep C W ρ σ x v → LRep C W ρ σ y u → p x y = some z → (∀ W' H' v', W.Le W' → BRel C W' ρ O σ H' → R W' H' z v' → Q v' H') → r v u H Q)
    (h : ∃ W ρ O, BRel C W ρ O σ H ∧ Goes C R W ρ σ (ev2 p fa fb ρ O) Q) : t σ H Q := by
  obtain ⟨W, ρ, O, B, G⟩ := h
  refine k σ H Q ⟨W, ρ, O, B, goes_bnd G fun W1 H1 x v O1 le1 B1 Rx G1 => ⟨W1, ρ, O1, B1, goes_bnd G1 fun W2 H2 y u O2 le2 B2 Ry G2 => ?_⟩⟩
  obtain ⟨z, e, q⟩ := goes_ret G2
  exact hr W2 ρ O2 σ H2 x y v u z Q B2 (Rx.le le2) Ry e q
theorem sx_op {op : Operator} (ho : OpR X (binaryOp op) r) (hr : FitB C r p) (ha : PE X a (tL C fa)) (hb : PE X b (tL C fb)) : PE X (.BinOp a op b pos) (tX C (ev2 p fa fb)) :=
  PE.mono (pe_op ho ha hb) fun σ H Q h => two_run (fun _ _ _ q => q) hr h
theorem sn_op {op : Operator} (ho : OpR X (binaryOp op) r) (hr : FitN C r p) (ha : PE X a (tL C fa)) (hb : PE X b (tL C fb)) : PE X (.BinOp a op b pos) (tN C (ev2 p fa fb)) :=
  PE.mono (pe_op ho ha hb) fun σ H Q h => two_run (fun _ _ _ q => q) hr h
theorem sx_cmp {op : CmpOp} (ho : OpR X (compareOp op) r) (hr : FitB C r p) (ha : PE X a (tL C fa)) (hb : PE X b (tL C fb)) (hm : behindInMarks op b = false) : PE X (.Compare a [op] [b] pos) (tX C (ev2 p fa fb)) :=
  PE.mono (pe_cmpR ho ha hb hm) fun σ H Q h => two_run (fun _ _ _ q => q) hr h
theorem sx_ix (ho : IxR X r) (hr : FitB C r p) (ha : PE X a (tL C fa)) (hb : PE X b (tL C fb)) (hs : PlainIx b) : PE X (.Subscript a b pos) (tX C (ev2 p fa fb)) :=
  PE.mono (pe_ix ho ha hb hs) fun σ H Q h => two_run (fun _ _ _ q => q) hr h
end

/-! ### + -/
section
variable {X : Cx}
def rCatL (K : PySem.W.Frag) : R2 := fun x y H Q => ∃ l b xs zs, x = .ref l ∧ y = .ref b ∧ SqL K H l xs ∧ SqL K H b zs ∧ xs.length + zs.length ≤ sizeLine ∧ ∀ p, H p = none → Q (.ref p) (upd H p (.lst (xs ++ zs)))
theorem op_catL : OpR X (binaryOp .Add) (rCatL X.K) := by
  intro pins s σ H x y v u Q I rx ry h
  obtain ⟨l, b, xs, zs, rfl, rfl, hH, hB, hz, q⟩ := h
  cases rx
  cases ry
  obtain ⟨its, r, pl, _⟩ := I.list hH
  obtain ⟨its2, r2, pl2, _⟩ := I.list hB
  have hlen : (its ++ its2).length = (xs ++ zs).length := by rw [List.length_append, List.length_append, ← r.length, ← r2.length]
  obtain ⟨⟨cls, dd, data, sl⟩, ho, hc, n, hd⟩ := pl.isList
  obtain ⟨⟨cls2, dd2, data2, sl2⟩, ho2, hc2, n2, hd2⟩ := pl2.isList
  simp only at hc hd hc2 hd2
  subst hc hd hc2 hd2
  have e : its.toArray ++ its2.toArray = (its ++ its2).toArray := by simp
  refine concat_meets ⟨_, ho, rfl⟩ ⟨_, ho2, rfl⟩ noFill_list_add seq_list_add PySem.F.slot_list_add PySem.F.entry_list_add (PySem.F.args_list_add_2 _ _) (list_addW l b its.toArray its2.toArray n n2 dd dd2 sl sl2 (by rw [List.size_toArray, List.size_toArray, ← r.length, ← r2.length]; exact hz)) ⟨ho, ho2, ?_⟩
  rw [e]
  exact ⟨.ref _, _, I.lnew (t' := s.toks) (r.append r2) (by rw [List.length_append]; exact hz), rfl, q _ I.fresh⟩
def rAddA (K : PySem.W.Frag) : R2 := fun x y H Q => (∃ i j, x = .int i ∧ y = .int j ∧ Q (.int (i + j)) H) ∨ (∃ i j, x = .str i ∧ y = .str j ∧ i.length + j.length ≤ sizeLine ∧ Q (.str (i ++ j)) H) ∨ rCatL K x y H Q ∨ rCatA K x y H Q
theorem op_addA : OpR X (binaryOp .Add) (rAddA X.K) := op_add.or (op_add_str.or (op_catL.or op_catA))
def pAdd : PV → PV → Option PV
  | .int i, .int j => some (.int (i + j))
  | .str i, .str j => if i.length + j.length ≤ sizeLine then some (.str (i ++ j)) else none
  | .lst xs, .lst ys => if xs.length + ys.length ≤ sizeLine then some (.lst (xs ++ ys)) else none
  | .tup xs, .tup ys => if xs.length + ys.length ≤ sizeLine then some (.tup (xs ++ ys)) else none
  | _, _ => none
def pCat : PV → PV → Option PV
  | .lst xs, .lst ys => if xs.length + ys.length ≤ sizeLine then some (.lst (xs ++ ys)) else none
  | _, _ => none
theorem ite_some {α : Type} {c : Prop} [Decidable c] {x : α} {z : α} (h : (if c then some x else none) = some z) : c ∧ x = z := by
  by_cases hc : c
  · rw [if_pos hc] at h
    exact ⟨hc, Option.some.inj h⟩
  · rw [if_neg hc] at h
    cases h
theorem fit_cat {C : Ctx} : FitN C (rCatL C.D.K) pCat := by
  intro W ρ O σ H x y v u z Q B rx ry e k
  unfold pCat at e
  split at e
  · obtain ⟨hz, rfl⟩ := ite_some e
    obtain ⟨a, vs, rfl, h1, z1, r1⟩ := rx.lst B
    obtain ⟨b, us, rfl, h2, z2, r2⟩ := ry.lst B
    have hz' : vs.length + us.length ≤ sizeLine := by rw [← r1.length, ← r2.length]; exact hz
    refine ⟨a, b, vs, us, rfl, rfl, h1, h2, hz', fun p hp => ?_⟩
    obtain ⟨B', N⟩ := B.lstN (r1.append r2) (by rw [List.length_append]; exact hz') hp
    exact k W _ _ (Wd.Le.refl _) B' N
  · cases e
theorem fit_add {C : Ctx} : FitB C (rAddA C.D.K) pAdd := by
  intro W ρ O σ H x y v u z Q B rx ry e k
  unfold pAdd at e
  split at e
  · cases e
    exact .inl ⟨_, _, rx.int B, ry.int B, k W H _ (Wd.Le.refl _) B (.int _)⟩
  · obtain ⟨hz, rfl⟩ := ite_some e
    exact .inr (.inl ⟨_, _, rx.str B, ry.str B, hz, k W H _ (Wd.Le.refl _) B (.str _)⟩)
  · obtain ⟨hz, rfl⟩ := ite_some e
    obtain ⟨a, vs, rfl, h1, z1, r1⟩ := rx.lst B
    obtain ⟨b, us, rfl, h2, z2, r2⟩ := ry.lst B
    have hz' : vs.length + us.length ≤ sizeLine := by rw [← r1.length, ← r2.length]; exact hz
    refine .inr (.inr (.inl ⟨a, b, vs, us, rfl, rfl, h1, h2, hz', fun p hp => ?_⟩))
    obtain ⟨W', le, B', R⟩ := B.lst (r1.append r2) (by rw [List.length_append]; exact hz') hp
    exact k W' _ _ le B' R
  · obtain ⟨hz, rfl⟩ := ite_some e
    obtain ⟨a, vs, rfl, h1, z1, r1, f1⟩ := rx.tup B
    obtain ⟨b, us, rfl, h2, z2, r2, f2⟩ := ry.tup B
    have hz' : vs.length + us.length ≤ sizeLine := by rw [← r1.length, ← r2.length]; exact hz
    refine .inr (.inr (.inr ⟨a, b, vs, us, rfl, rfl, h1, h2, hz', fun e0 => ?_, fun _ e0 => ?_, fun _ _ p hp => ?_⟩))
    · subst e0
      cases r1
      exact k W H _ (Wd.Le.refl _) B (.tup f2 z2 r2)
    · subst e0
      cases r2
      exact k W H _ (Wd.Le.refl _) B (by rw [List.append_nil]; exact .tup f1 z1 r1)
    · obtain ⟨W', le, B', R⟩ := B.tup (r1.append r2) (by rw [List.length_append]; exact hz') hp
      exact k W' _ _ le B' R
  · cases e
end

/-! ### -, *, //, %, ** of ints -/
/-- guards are asked of logic alone: nothing reckons them out -/
noncomputable def yes (p : Prop) : Bool := @decide p (Classical.propDecidable p)
theorem yes_pos {p : Prop} (h : p) : yes p = true := @decide_eq_true p (Classical.propDecidable p) h
theorem yes_of {p : Prop} (h : yes p = true) : p := @of_decide_eq_true p (Classical.propDecidable p) h
noncomputable def mulOk (i j : Int) : Bool := yes (i.natAbs.log2 + j.natAbs.log2 < 100000000)
theorem mulOk_ok {i j : Int} (h : mulOk i j = true) : IntMulOk i j := by
  have b : ∀ x : Int, Builtin.Int.intBits x ≤ x.natAbs.log2 + 1 := fun x => by
    unfold Builtin.Int.intBits
    split <;> omega
  have h1 := b i
  have h2 := b j
  have h3 : i.natAbs.log2 + j.natAbs.log2 < 100000000 := yes_of h
  have e : bitsLine = 134217728 := by decide
  unfold IntMulOk
  intro z
  rw [Bool.and_eq_true] at z
  have z2 := z.2
  unfold Builtin.Int.intTooBig at z2
  have z3 := of_decide_eq_true z2
  rw [e] at z3
  omega
def pInt (f : Int → Int → Option Int) : PV → PV → Option PV
  | .int i, .int j => (f i j).map PV.int
  | _, _ => none
theorem fit_int {C : Ctx} {f : Int → Int → Option Int} {Cd : Int → Int → Prop} {g : Int → Int → Int} (h : ∀ i j z, f i j = some z → Cd i j ∧ g i j = z) : FitB C (rI Cd fun i j => .int (g i j)) (pInt f) := by
  intro W ρ O σ H x y v u z Q B rx ry e k
  unfold pInt at e
  split at e
  · rename_i i j
    cases q : f i j with
    | none => rw [q] at e; cases e
    | some m =>
      rw [q] at e
      cases e
      obtain ⟨h1, h2⟩ := h i j m q
      exact ⟨_, _, rx.int B, ry.int B, h1, by show Q (.int (g i j)) H; rw [h2]; exact k W H _ (Wd.Le.refl _) B (.int _)⟩
  · cases e
theorem fit_int0 {C : Ctx} {g : Int → Int → Int} : FitB C (rI0 fun i j => .int (g i j)) (pInt fun i j => some (g i j)) := by
  intro W ρ O σ H x y v u z Q B rx ry e k
  unfold pInt at e
  split at e
  · cases e
    exact ⟨_, _, rx.int B, ry.int B, k W H _ (Wd.Le.refl _) B (.int _)⟩
  · cases e
def CMulX (i j : Int) : Prop := IntMulOk i j
theorem op_mulX {X : Cx} : OpR X (binaryOp .Mult) (rI CMulX fun i j => .int (i * j)) := opI fun _ _ _ _ _ _ _ hc q => mul_int q hc
theorem iop_mulX {X : Cx} : OpR X (inplaceOp .Mult) (rI CMulX fun i j => .int (i * j)) := opI fun _ _ _ _ _ _ _ hc q => imul_int q hc
noncomputable def fMul (i j : Int) : Option Int := if mulOk i j = true then some (i * j) else none
noncomputable def fDiv (i j : Int) : Option Int := if yes (0 < j ∧ j.natAbs.log2 < 9000) = true then some (i / j) else none
noncomputable def fMod (i j : Int) : Option Int := if yes (0 < j) = true then some (i % j) else none
noncomputable def fPow (i j : Int) : Option Int := if yes (0 ≤ j ∧ j ≤ 1000000 ∧ i.natAbs < 2 ^ 64) = true then some (i ^ j.toNat) else none
end Hw

/-! comparisons, tests, displays, places, slices -/
namespace Hw
open PySem PySem.Spec PyProof.Rows L2

/-! ### == -/
mutual
def toD : PV → Option PyData
  | .non => some .none
  | .bl b => some (.bool b)
  | .int i => some (.int i)
  | .str s => some (.str s)
  | .tup xs => (toDs xs).map .tuple
  | .lst xs => (toDs xs).map .list
  | _ => none
def toDs : List PV → Option (List PyData)
  | [] => some []
  | x :: xs => match toD x, toDs xs with
    | some d, some ds => some (d :: ds)
    | _, _ => none
end
def pEq (x y : PV) : Option Bool := match toD x, toD y with
  | some d, some e => if SeqAt.shaped d = true ∧ SeqAt.shaped e = true then some (PyData.eqv d e) else none
  | _, _ => none
section
variable {D : Adr} {F H : Hp} {M : Nat → Option Addr}
mutual
theorem Rep.dp (hF : FLe F H) : ∀ {x : PV} {v : V} {d : PyData}, Rep D F M x v → toD x = some d → Dp D.K H v d
  | _, _, _, .non, e => by cases e; exact .non
  | _, _, _, .bl b, e => by cases e; exact .bl b
  | _, _, _, .int i, e => by cases e; exact .int i
  | _, _, _, .str s, e => by cases e; exact .str s
  | .tup xs, _, d, .tup h z r, e => by
    rw [toD] at e
    cases q : toDs xs with
    | none => rw [q] at e; cases e
    | some ds =>
      rw [q] at e
      cases e
      exact .tup (sqT_mono hF h.sq) (Reps.dp hF r q)
  | .lst xs, _, d, .lst h z r, e => by
    rw [toD] at e
    cases q : toDs xs with
    | none => rw [q] at e; cases e
    | some ds =>
      rw [q] at e
      cases e
      exact .lst (sqL_mono hF h) (Reps.dp hF r q)
  | _, _, _, .dic h k r, e => by cases e
  | _, _, _, .obj h, e => by cases e
theorem Reps.dp (hF : FLe F H) : ∀ {xs : List PV} {vs : List V} {ds : List PyData}, Reps D F M xs vs → toDs xs = some ds → DpAll D.K H vs ds
  | _, _, _, .nil, e => by cases e; exact .nil
  | x :: xs, _, ds, .cons r t, e => by
    rw [toDs] at e
    cases q1 : toD x with
    | none => rw [q1] at e; cases e
    | some d =>
      cases q2 : toDs xs with
      | none => rw [q1, q2] at e; cases e
      | some es =>
        rw [q1, q2] at e
        cases e
        exact .cons (Rep.dp hF r q1) (Reps.dp hF t q2)
end
end
section
variable {C : Ctx} {W : Wd} {ρ : Loc} {O : Oms} {σ : L2.St} {H : Hp}
theorem LRep.dp (B : BRel C W ρ O σ H) {x : PV} {v : V} {d : PyData} (r : LRep C W ρ σ x v) (e : toD x = some d) : Dp C.D.K H v d := by
  rcases r.cases B with r1 | ⟨i, a, rfl, r1⟩
  · exact Rep.dp B.f.g.sub r1 e
  · cases x <;> cases r1
    case lst.lst xs vs o n h z q =>
      rw [toD] at e
      cases q2 : toDs xs with
      | none => rw [q2] at e; cases e
      | some ds =>
        rw [q2] at e
        cases e
        exact .lst (.inl (.inl h)) (Reps.dp B.f.g.sub q q2)
    all_goals cases e
end
def pB (f : PV → PV → Option Bool) (x y : PV) : Option PV := (f x y).map PV.bl
theorem pEq_some {x y : PV} {b : Bool} (h : pEq x y = some b) : ∃ d e, toD x = some d ∧ toD y = some e ∧ SeqAt.shaped d = true ∧ SeqAt.shaped e = true ∧ PyData.eqv d e = b := by
  unfold pEq at h
  split at h
  · rename_i d e q1 q2
    obtain ⟨⟨h1, h2⟩, h3⟩ := ite_some h
    exact ⟨d, e, q1, q2, h1, h2, h3⟩
  · cases h
theorem fit_eq {C : Ctx} : FitB C (rEqD C.D.K) (pB pEq) := by
  intro W ρ O σ H x y v u z Q B rx ry e k
  unfold pB at e
  cases q : pEq x y with
  | none => rw [q] at e; cases e
  | some b =>
    rw [q] at e
    cases e
    obtain ⟨d, d', e1, e2, s1, s2, rfl⟩ := pEq_some q
    exact ⟨d, d', rx.dp B e1, ry.dp B e2, s1, s2, k W H _ (Wd.Le.refl _) B (.bl _)⟩
def pNe (x y : PV) : Option Bool := (pEq x y).map (!·)
theorem fit_ne {C : Ctx} : FitB C (rNeD C.D.K) (pB pNe) := by
  intro W ρ O σ H x y v u z Q B rx ry e k
  unfold pB pNe at e
  cases q : pEq x y with
  | none => rw [q] at e; cases e
  | some b =>
    rw [q] at e
    cases e
    obtain ⟨d, d', e1, e2, s1, s2, rfl⟩ := pEq_some q
    exact ⟨d, d', rx.dp B e1, ry.dp B e2, s1, s2, k W H _ (Wd.Le.refl _) B (.bl _)⟩
/-! ### < and its like, is, in -/
def pOrd (f : Int → Int → Bool) : PV → PV → Option Bool
  | .int i, .int j => some (f i j)
  | _, _ => none
theorem fit_ord {C : Ctx} {g : Int → Int → Bool} : FitB C (rI0 fun i j => .bl (g i j)) (pB (pOrd g)) := by
  intro W ρ O σ H x y v u z Q B rx ry e k
  unfold pB pOrd at e
  split at e
  · cases e
    exact ⟨_, _, rx.int B, ry.int B, k W H _ (Wd.Le.refl _) B (.bl _)⟩
  · cases e
def isNon : PV → Bool
  | .non => true
  | _ => false
theorem LRep.isNon {C : Ctx} {W : Wd} {ρ : Loc} {O : Oms} {σ : L2.St} {H : Hp} (B : BRel C W ρ O σ H) {x : PV} {v : V} (r : LRep C W ρ σ x v) : decide (v = .non) = Hw.isNon x := by
  rcases r.cases B with r1 | ⟨i, a, rfl, r1⟩
  · cases r1 <;> first | rfl | exact decide_eq_false (fun z => V.noConfusion z)
  · cases x <;> cases r1 <;> exact decide_eq_false (fun z => V.noConfusion z)
def pIs (x y : PV) : Option Bool := match y with
  | .non => some (isNon x)
  | _ => none
def pIsnt (x y : PV) : Option Bool := match y with
  | .non => some (!isNon x)
  | _ => none
theorem fit_is {C : Ctx} : FitB C (fun x y H Q => y = .non ∧ Q (.bl (decide (x = .non))) H) (pB pIs) := by
  intro W ρ O σ H x y v u z Q B rx ry e k
  unfold pB pIs at e
  split at e
  · cases e
    exact ⟨ry.non B, by rw [rx.isNon B]; exact k W H _ (Wd.Le.refl _) B (.bl _)⟩
  · cases e
theorem fit_isnt {C : Ctx} : FitB C (fun x y H Q => y = .non ∧ Q (.bl (!decide (x = .non))) H) (pB pIsnt) := by
  intro W ρ O σ H x y v u z Q B rx ry e k
  unfold pB pIsnt at e
  split at e
  · cases e
    exact ⟨ry.non B, by rw [rx.isNon B]; exact k W H _ (Wd.Le.refl _) B (.bl _)⟩
  · cases e
/-- a scalar as a value -/
def toV : PV → Option V
  | .non => some .non
  | .bl b => some (.bl b)
  | .int i => some (.int i)
  | .str s => some (.str s)
  | _ => none
def toVs : List PV → Option (List V)
  | [] => some []
  | x :: xs => match toV x, toVs xs with
    | some d, some ds => some (d :: ds)
    | _, _ => none
theorem Rep.toV {D : Adr} {F : Hp} {M : Nat → Option Addr} {x : PV} {v w : V} (r : Rep D F M x v) (e : Hw.toV x = some w) : v = w ∧ flatV w = true := by
  cases r <;> cases e <;> exact ⟨rfl, rfl⟩
theorem Reps.toVs {D : Adr} {F : Hp} {M : Nat → Option Addr} : ∀ {xs : List PV} {vs ws : List V}, Reps D F M xs vs → Hw.toVs xs = some ws → vs = ws ∧ ws.all flatV = true
  | _, _, _, .nil, e => by cases e; exact ⟨rfl, rfl⟩
  | x :: xs, _, _, .cons r t, e => by
    rw [Hw.toVs] at e
    cases q1 : Hw.toV x with
    | none => rw [q1] at e; cases e
    | some d =>
      cases q2 : Hw.toVs xs with
      | none => rw [q1, q2] at e; cases e
      | some es =>
        rw [q1, q2] at e
        cases e
        obtain ⟨rfl, h1⟩ := r.toV q1
        obtain ⟨rfl, h2⟩ := t.toVs q2
        exact ⟨rfl, by rw [List.all_cons, h1, h2]; rfl⟩
theorem LRep.toV {C : Ctx} {W : Wd} {ρ : Loc} {O : Oms} {σ : L2.St} {H : Hp} (B : BRel C W ρ O σ H) {x : PV} {v w : V} (r : LRep C W ρ σ x v) (e : Hw.toV x = some w) : v = w ∧ flatV w = true := by
  rcases r.cases B with r1 | ⟨i, a, rfl, r1⟩
  · exact r1.toV e
  · cases x <;> cases r1 <;> cases e
def pInS (x y : PV) : Option Bool := match y with
  | .lst ys => match toV x, toVs ys with
    | some w, some ws => some (inV w ws)
    | _, _ => none
  | .tup ys => match toV x, toVs ys with
    | some w, some ws => some (inV w ws)
    | _, _ => none
  | .str b => match x with
    | .str a => some (!(Builtin.Str.occurrences b a 0 b.length 1).isEmpty)
    | _ => none
  | .dic ks _ => match x with
    | .str a => some (ks.contains a)
    | _ => none
  | _ => none
def rInS (K : PySem.W.Frag) (neg : Bool) : R2 := fun x y H Q => rIn K neg x y H Q ∨ (∃ i j, x = .str i ∧ y = .str j ∧ Q (.bl (if neg then !(!(Builtin.Str.occurrences j i 0 j.length 1).isEmpty) else !(Builtin.Str.occurrences j i 0 j.length 1).isEmpty)) H)
theorem op_inS {X : Cx} : OpR X (compareOp .In) (rInS X.K false) := op_in_seq.or op_in_str
theorem op_notInS {X : Cx} : OpR X (compareOp .NotIn) (rInS X.K true) := op_notIn_seq.or op_notin_str
def pIn (neg : Bool) (x y : PV) : Option Bool := match y with
  | .dic _ _ => none
  | y => (pInS x y).map fun b => if neg then !b else b
theorem fit_in {C : Ctx} {neg : Bool} : FitB C (rInS C.D.K neg) (pB (pIn neg)) := by
  intro W ρ O σ H x y v u z Q B rx ry e k
  have key : ∀ {ys : List PV} {us : List V} {c : Bool}, (match Hw.toV x, Hw.toVs ys with
      | some w, some ws => some (inV w ws)
      | _, _ => none).map (fun b => if neg then !b else b) = some c → Reps C.D W.F W.M ys us → flatV v = true ∧ us.all flatV = true ∧ c = (if neg then !inV v us else inV v us) := by
    intro ys us c h r
    cases q1 : Hw.toV x with
    | none => rw [q1] at h; cases h
    | some w =>
      cases q2 : Hw.toVs ys with
      | none => rw [q1, q2] at h; cases h
      | some ws =>
        rw [q1, q2] at h
        obtain ⟨e1, h1⟩ := rx.toV B q1
        obtain ⟨e2, h2⟩ := r.toVs q2
        rw [e1, e2]
        exact ⟨h1, h2, (Option.some.inj h).symm⟩
  unfold pB pIn pInS at e
  cases y with
  | lst ys =>
    obtain ⟨b, us, rfl, h2, z2, r2⟩ := ry.lst B
    cases q : (Option.map (fun b => if neg = true then !b else b) (match Hw.toV x, Hw.toVs ys with
      | some w, some ws => some (inV w ws)
      | _, _ => none)) with
    | none => simp only [q] at e; cases e
    | some c =>
      simp only [q] at e
      cases e
      obtain ⟨f1, f2, f3⟩ := key q r2
      exact .inl ⟨b, us, rfl, .inl h2, f1, f2, by rw [← f3]; exact k W H _ (Wd.Le.refl _) B (.bl _)⟩
  | tup ys =>
    obtain ⟨b, us, rfl, h2, z2, r2, _⟩ := ry.tup B
    cases q : (Option.map (fun b => if neg = true then !b else b) (match Hw.toV x, Hw.toVs ys with
      | some w, some ws => some (inV w ws)
      | _, _ => none)) with
    | none => simp only [q] at e; cases e
    | some c =>
      simp only [q] at e
      cases e
      obtain ⟨f1, f2, f3⟩ := key q r2
      exact .inl ⟨b, us, rfl, .inr h2, f1, f2, by rw [← f3]; exact k W H _ (Wd.Le.refl _) B (.bl _)⟩
  | str b =>
    cases x with
    | str a =>
      cases e
      refine .inr ⟨a, b, rx.str B, ry.str B, ?_⟩
      have := k W H _ (Wd.Le.refl _) B (.bl _)
      exact this
    | _ => cases e
  | _ => cases e
end Hw

namespace Hw
open PySem PySem.Spec PyProof.Rows L2

/-! ### shapes of expressions -/
def noSwap : Expr → Bool
  | .ListComp .. => false
  | .SetComp .. => false
  | .DictComp .. => false
  | _ => true
def plainTest : Expr → Bool
  | .UnaryOp .Not _ _ => false
  | .BoolOp .. => false
  | .IfExp .. => false
  | .Compare .. => false
  | _ => true
theorem plainTest_ok {e : Expr} {env : Env} (h : plainTest e = true) (whole : Sem Value) : isTrue e env whole = (do let v ← whole; standAt e.pos; holding [v] (truthy v)) := by
  cases e with
  | UnaryOp o x p => cases o <;> first | rfl | cases h
  | BoolOp => cases h
  | IfExp => cases h
  | Compare => cases h
  | _ => rfl
def notSlice : Expr → Bool
  | .Slice .. => false
  | _ => true
theorem notSlice_ok {e : Expr} (h : notSlice e = true) : PlainIx e := by
  intro o i
  cases e with
  | Slice => cases h
  | _ => rfl
def notStar : Expr → Bool
  | .Starred .. => false
  | _ => true
theorem notStar_ok {e : Expr} {es : List Expr} {env : Env} (h : notStar e = true) : starEach (e :: es) env = (false, eval e env) :: starEach es env := by
  cases e with
  | Starred => cases h
  | _ => rfl
def notStars : List Expr → Bool
  | [] => true
  | e :: es => notStar e && notStars es
theorem notStars_any {pos : Pos} {env : Env} : ∀ {es : List Expr}, notStars es = true → (backTo pos (starEach es env)).any (·.1) = false
  | [], _ => by rfl
  | e :: es, h => by
    simp only [notStars, Bool.and_eq_true] at h
    rw [notStar_ok h.1]
    show (false || (backTo pos (starEach es env)).any (·.1)) = false
    rw [notStars_any h.2]
    rfl
def notSet : Expr → Bool
  | .Set .. => false
  | _ => true
theorem notSet_ok {op : CmpOp} {e : Expr} (h : notSet e = true) : behindInMarks op e = false := by
  cases e with
  | Set => cases h
  | _ => rfl

/-! ### truth -/
def truth : PV → Option Bool
  | .non => some false
  | .bl b => some b
  | .int i => some (i != 0)
  | .str s => if s.length ≤ sizeLine then some ((s.length : Int) != 0) else none
  | .tup xs => some (!xs.isEmpty)
  | .lst xs => some (!xs.isEmpty)
  | _ => none
theorem Reps.isEmpty {D : Adr} {F : Hp} {M : Nat → Option Addr} {xs : List PV} {vs : List V} (r : Reps D F M xs vs) : xs.isEmpty = vs.isEmpty := by cases r <;> rfl
section
variable {C : Ctx} {W : Wd} {ρ : Loc} {O : Oms} {σ : L2.St} {H : Hp}
theorem LRep.truth (B : BRel C W ρ O σ H) {x : PV} {v : V} {k : Bool} (r : LRep C W ρ σ x v) (e : truth x = some k) : TruV C.D.K v H k := by
  cases x with
  | non => cases e; rw [r.non B]; rfl
  | bl b => cases e; rw [r.bl B]; rfl
  | int i => cases e; rw [r.int B]; rfl
  | str s =>
    obtain ⟨h, rfl⟩ := ite_some e
    rw [r.str B]
    exact ⟨h, rfl⟩
  | tup xs =>
    cases e
    obtain ⟨a, vs, rfl, h1, _, r1, _⟩ := r.tup B
    exact .inr (.inl ⟨vs, h1, by rw [r1.isEmpty]⟩)
  | lst xs =>
    cases e
    obtain ⟨a, vs, rfl, h1, _, r1⟩ := r.lst B
    exact .inl ⟨vs, h1, by rw [r1.isEmpty]⟩
  | _ => cases e
end
abbrev EvB := Loc → Oms → Option (Rs Bool)
def evTr (f : Ev) : EvB := fun ρ O => bnd (f ρ O) fun x O1 => ret (truth x) O1
def evC (q : PV → PV → Option Bool) (fa fb : Ev) : EvB := fun ρ O => bnd (fa ρ O) fun x O1 => bnd (fb ρ O1) fun y O2 => ret (q x y) O2
def evAnd (f g : EvB) : EvB := fun ρ O => bnd (f ρ O) fun x O1 => match x with
  | true => g ρ O1
  | false => some (.ok false O1)
def evOr (f g : EvB) : EvB := fun ρ O => bnd (f ρ O) fun x O1 => match x with
  | true => some (.ok true O1)
  | false => g ρ O1
def evNot (f : EvB) : EvB := fun ρ O => bnd (f ρ O) fun x O1 => some (.ok (!x) O1)
def evIte (g : EvB) (fa fb : Ev) : Ev := fun ρ O => bnd (g ρ O) fun x O1 => match x with
  | true => fa ρ O1
  | false => fb ρ O1
/-- and, or, not of truths as values -/
def evBl (g : EvB) : Ev := fun ρ O => bnd (g ρ O) fun x O1 => some (.ok (.bl x) O1)
def toB : PV → Option Bool
  | .bl b => some b
  | _ => none
def evOfB (f : Ev) : EvB := fun ρ O => bnd (f ρ O) fun x O1 => ret (toB x) O1
/-- a op b op' c, a op b op' c op'' d -/
def evCh (q q' : PV → PV → Option Bool) (fa fb fc : Ev) : EvB := fun ρ O => bnd (fa ρ O) fun x O1 => bnd (fb ρ O1) fun y O2 => bnd (ret (q x y) O2) fun k O3 => match k with
  | true => bnd (fc ρ O3) fun z O4 => ret (q' y z) O4
  | false => some (.ok false O3)
def evCh3 (q q' q'' : PV → PV → Option Bool) (fa fb fc fd : Ev) : EvB := fun ρ O => bnd (fa ρ O) fun x O1 => bnd (fb ρ O1) fun y O2 => bnd (ret (q x y) O2) fun k O3 => match k with
  | true => bnd (fc ρ O3) fun z O4 => bnd (ret (q' y z) O4) fun k' O5 => match k' with
    | true => bnd (fd ρ O5) fun w O6 => ret (q'' z w) O6
    | false => some (.ok false O5)
  | false => some (.ok false O3)
section
variable {X : Cx} {C : Ctx} {a b c d e : Expr} {fa fb fc fd f : Ev} {ga gb : EvB} {pos : Pos} {r r' r'' : R2} {q q' q'' : PV → PV → Option Bool}
theorem st_val (hK : X.K = C.D.K) (he : PE X e (tL C f)) (h : plainTest e = true) : PT X e (tTt C (evTr f)) := by
  refine PT.mono (pt_truth he (plainTest_ok h)) fun σ H Q ⟨W, ρ, O, B, G⟩ => ⟨W, ρ, O, B, goes_bnd G fun W1 H1 x v O1 le1 B1 Rx G1 => ?_⟩
  obtain ⟨k, e, q⟩ := goes_ret G1
  exact ⟨k, by rw [hK]; exact Rx.truth B1 e, q W1 H1 k (Wd.Le.refl _) B1 rfl⟩
theorem fit_k {W : Wd} {ρ : Loc} {O : Oms} {σ : L2.St} {H : Hp} {x y : PV} {v u : V} {k : Bool} {Q : VK} (hr : FitB C r (pB q)) (B : BRel C W ρ O σ H) (rx : LRep C W ρ σ x v) (ry : LRep C W ρ σ y u) (e : q x y = some k)
    (h : ∀ W' H', W.Le W' → BRel C W' ρ O σ H' → Q (.bl k) H') : r v u H Q :=
  hr W ρ O σ H x y v u (.bl k) Q B rx ry (by unfold pB; rw [e]; rfl) fun W' H' v' le B' R => by
    cases R
    exact h W' H' le B'
theorem st_cmp {op : CmpOp} (ho : OpR X (compareOp op) r) (hr : FitB C r (pB q)) (ha : PE X a (tL C fa)) (hb : PE X b (tL C fb)) (hm : behindInMarks op b = false) : PT X (.Compare a [op] [b] pos) (tTt C (evC q fa fb)) := by
  refine PT.mono (pt_cmpR ho ha hb hm) fun σ H Q ⟨W, ρ, O, B, G⟩ => ?_
  refine ⟨W, ρ, O, B, goes_bnd G fun W1 H1 x v O1 le1 B1 Rx G1 => ⟨W1, ρ, O1, B1, goes_bnd G1 fun W2 H2 y u O2 le2 B2 Ry G2 => ?_⟩⟩
  obtain ⟨k, e, h⟩ := goes_ret G2
  exact fit_k hr B2 (Rx.le le2) Ry e fun W' H' le B' => ⟨k, rfl, h W' H' k le B' rfl⟩
theorem st_and {rest : List Expr} (ha : PT X a (tTt C ga)) (hb : PW X (.BoolOp .And (b :: rest) pos) (tTt C gb)) : PW X (.BoolOp .And (a :: b :: rest) pos) (tTt C (evAnd ga gb)) := by
  have h := pw_and ha hb
  refine ⟨fun wh pins s σ H Q I hw => h.run wh pins s σ H Q I ?_⟩
  obtain ⟨W, ρ, O, B, G⟩ := hw
  refine ⟨W, ρ, O, B, goes_bnd G fun W1 H1 x v O1 le1 B1 Rx G1 => ?_⟩
  subst Rx
  cases x with
  | true => exact ⟨W1, ρ, O1, B1, G1⟩
  | false => exact G1 W1 H1 false (Wd.Le.refl _) B1 rfl
theorem st_and1 (ha : PT X a (tTt C ga)) : PW X (.BoolOp .And [a] pos) (tTt C ga) := pw_and1 ha
theorem st_or1 (ha : PT X a (tTt C ga)) : PW X (.BoolOp .Or [a] pos) (tTt C ga) := pw_or1 ha
theorem st_or {rest : List Expr} (ha : PT X a (tTt C ga)) (hb : PW X (.BoolOp .Or (b :: rest) pos) (tTt C gb)) : PW X (.BoolOp .Or (a :: b :: rest) pos) (tTt C (evOr ga gb)) := by
  have h := pw_or ha hb
  refine ⟨fun wh pins s σ H Q I hw => h.run wh pins s σ H Q I ?_⟩
  obtain ⟨W, ρ, O, B, G⟩ := hw
  refine ⟨W, ρ, O, B, goes_bnd G fun W1 H1 x v O1 le1 B1 Rx G1 => ?_⟩
  subst Rx
  cases x with
  | true => exact G1 W1 H1 true (Wd.Le.refl _) B1 rfl
  | false => exact ⟨W1, ρ, O1, B1, G1⟩
theorem st_not (ha : PT X a (tTt C ga)) : PT X (.UnaryOp .Not a pos) (tTt C (evNot ga)) := by
  refine PT.mono (pt_not ha) fun σ H Q ⟨W, ρ, O, B, G⟩ => ⟨W, ρ, O, B, goes_bnd G fun W1 H1 x v O1 le1 B1 Rx G1 => ?_⟩
  subst Rx
  exact G1 W1 H1 _ (Wd.Le.refl _) B1 rfl
theorem sx_ite (hc : PT X c (tTt C ga)) (ha : PE X a (tX C fa)) (hb : PE X b (tX C fb)) : PE X (.IfExp c a b pos) (tX C (evIte ga fa fb)) := by
  refine PE.mono (pe_ifExp hc ha hb) fun σ H Q ⟨W, ρ, O, B, G⟩ => ⟨W, ρ, O, B, goes_bnd G fun W1 H1 x v O1 le1 B1 Rx G1 => ?_⟩
  subst Rx
  cases x with
  | true =>
    rw [if_pos rfl]
    exact ⟨W1, ρ, O1, B1, G1⟩
  | false =>
    rw [if_neg Bool.false_ne_true]
    exact ⟨W1, ρ, O1, B1, G1⟩
/-! values of truths -/
theorem Goes.bl {W : Wd} {ρ : Loc} {σ : L2.St} {r : Option (Rs Bool)} {Q : VK} (G : Goes C (RS C) W ρ σ (bnd r fun x O1 => some (.ok (.bl x) O1)) Q) (k : ∀ W1 H1 x O1, W.Le W1 → BRel C W1 ρ O1 σ H1 → (∀ W' H', W1.Le W' → BRel C W' ρ O1 σ H' → Q (.bl x) H') → True) : Goes C (fun _ _ x v => x = v) W ρ σ r fun b H => Q (.bl b) H := by
  refine goes_bnd G fun W1 H1 x v O1 le1 B1 Rx G1 => ?_
  subst Rx
  exact G1 W1 H1 (.bl x) (Wd.Le.refl _) B1 (.bl x)
theorem sx_one {op : BoolOp} (ha : PE X a (tX C (evBl ga))) : PE X (.BoolOp op [a] pos) (tX C (evBl ga)) := pe_one ha
theorem sx_and {rest : List Expr} (ha : PE X a (tX C (evBl ga))) (hb : PE X (.BoolOp .And (b :: rest) pos) (tX C (evBl gb))) : PE X (.BoolOp .And (a :: b :: rest) pos) (tX C (evBl (evAnd ga gb))) := by
  refine PE.mono (pe_and ha hb) fun σ H Q ⟨W, ρ, O, B, G⟩ => ⟨W, ρ, O, B, ?_⟩
  have G' : Goes C (RS C) W ρ σ (bnd (evBl ga ρ O) fun x O1 => match x with
    | .bl true => evBl gb ρ O1
    | .bl false => some (.ok (.bl false) O1)
    | _ => none) Q := by
    have e : (bnd (evBl ga ρ O) fun x O1 => match x with
      | .bl true => evBl gb ρ O1
      | .bl false => some (.ok (.bl false) O1)
      | _ => none) = evBl (evAnd ga gb) ρ O := by
      unfold evBl evAnd
      cases ga ρ O with
      | none => rfl
      | some r =>
        cases r with
        | ex x O => rfl
        | ok x O => cases x <;> rfl
    rw [e]
    exact G
  refine goes_bnd G' fun W1 H1 x v O1 le1 B1 Rx G1 => ?_
  cases Rx with
  | bl b =>
    refine ⟨b, rfl, ?_⟩
    cases b with
    | true =>
      rw [if_pos rfl]
      exact ⟨W1, ρ, O1, B1, G1⟩
    | false =>
      rw [if_neg Bool.false_ne_true]
      exact G1 W1 H1 _ (Wd.Le.refl _) B1 (.bl _)
  | _ => exact False.elim G1
theorem sx_or {rest : List Expr} (ha : PE X a (tX C (evBl ga))) (hb : PE X (.BoolOp .Or (b :: rest) pos) (tX C (evBl gb))) : PE X (.BoolOp .Or (a :: b :: rest) pos) (tX C (evBl (evOr ga gb))) := by
  refine PE.mono (pe_or ha hb) fun σ H Q ⟨W, ρ, O, B, G⟩ => ⟨W, ρ, O, B, ?_⟩
  have G' : Goes C (RS C) W ρ σ (bnd (evBl ga ρ O) fun x O1 => match x with
    | .bl false => evBl gb ρ O1
    | .bl true => some (.ok (.bl true) O1)
    | _ => none) Q := by
    have e : (bnd (evBl ga ρ O) fun x O1 => match x with
      | .bl false => evBl gb ρ O1
      | .bl true => some (.ok (.bl true) O1)
      | _ => none) = evBl (evOr ga gb) ρ O := by
      unfold evBl evOr
      cases ga ρ O with
      | none => rfl
      | some r =>
        cases r with
        | ex x O => rfl
        | ok x O => cases x <;> rfl
    rw [e]
    exact G
  refine goes_bnd G' fun W1 H1 x v O1 le1 B1 Rx G1 => ?_
  cases Rx with
  | bl b =>
    refine ⟨b, rfl, ?_⟩
    cases b with
    | false =>
      rw [if_neg Bool.false_ne_true]
      exact ⟨W1, ρ, O1, B1, G1⟩
    | true =>
      rw [if_pos rfl]
      exact G1 W1 H1 _ (Wd.Le.refl _) B1 (.bl _)
  | _ => exact False.elim G1
/-- not x, whatever x is, as a value -/
theorem sx_not (hK : X.K = C.D.K) (ha : PE X a (tL C fa)) : PE X (.UnaryOp .Not a pos) (tX C (evBl (evNot (evTr fa)))) := by
  refine PE.mono (pe_notT ha) fun σ H Q ⟨W, ρ, O, B, G⟩ => ⟨W, ρ, O, B, ?_⟩
  have e : evBl (evNot (evTr fa)) ρ O = bnd (fa ρ O) fun x O1 => bnd (ret (truth x) O1) fun k O2 => some (.ok (.bl (!k)) O2) := by
    unfold evBl evNot evTr
    cases fa ρ O with
    | none => rfl
    | some r =>
      cases r with
      | ex x O => rfl
      | ok x O =>
        show bnd (bnd (ret (truth x) O) _) _ = bnd (ret (truth x) O) _
        cases truth x <;> rfl
  rw [e] at G
  refine goes_bnd G fun W1 H1 x v O1 le1 B1 Rx G1 => ?_
  cases q : truth x with
  | none => rw [q] at G1; exact False.elim G1
  | some k =>
    rw [q] at G1
    exact ⟨k, by rw [hK]; exact Rx.truth B1 q, G1 W1 H1 _ (Wd.Le.refl _) B1 (.bl _)⟩
/-- a value that is a truth -/
theorem sx_cmp' {op : CmpOp} (ho : OpR X (compareOp op) r) (hr : FitB C r (pB q)) (ha : PE X a (tL C fa)) (hb : PE X b (tL C fb)) (hm : behindInMarks op b = false) : PE X (.Compare a [op] [b] pos) (tX C (evBl (evC q fa fb))) := by
  have e : evBl (evC q fa fb) = ev2 (pB q) fa fb := by
    funext ρ O
    unfold evBl evC ev2
    cases fa ρ O with
    | none => rfl
    | some r =>
      cases r with
      | ex x O => rfl
      | ok x O =>
        show bnd (bnd (fb ρ O) _) _ = bnd (fb ρ O) _
        cases fb ρ O with
        | none => rfl
        | some r =>
          cases r with
          | ex y O => rfl
          | ok y O =>
            show bnd (ret (q x y) O) _ = ret (pB q x y) O
            unfold pB
            cases q x y <;> rfl
  rw [e]
  exact sx_cmp ho hr ha hb hm
theorem ch_run (hr : FitB C r (pB q)) (hr' : FitB C r' (pB q')) {σ : L2.St} {H : Hp} {Q : VK} (h : tX C (evBl (evCh q q' fa fb fc)) σ H Q) : tChain r r' (tL C fa) (tL C fb) (tL C fc) σ H Q := by
  obtain ⟨W, ρ, O, B, G⟩ := h
  refine ⟨W, ρ, O, B, ?_⟩
  have e : evBl (evCh q q' fa fb fc) ρ O = bnd (fa ρ O) fun x O1 => bnd (fb ρ O1) fun y O2 => bnd (ret (q x y) O2) fun k O3 => match k with
      | true => bnd (fc ρ O3) fun z O4 => bnd (ret (q' y z) O4) fun k' O5 => some (.ok (.bl k') O5)
      | false => some (.ok (.bl false) O3) := by
    unfold evBl evCh
    cases fa ρ O with
    | none => rfl
    | some r =>
      cases r with
      | ex x O => rfl
      | ok x O =>
        show bnd (bnd (fb ρ O) _) _ = bnd (fb ρ O) _
        cases fb ρ O with
        | none => rfl
        | some r =>
          cases r with
          | ex y O => rfl
          | ok y O =>
            show bnd (bnd (ret (q x y) O) _) _ = bnd (ret (q x y) O) _
            cases q x y with
            | none => rfl
            | some k =>
              cases k with
              | false => rfl
              | true =>
                show bnd (bnd (fc ρ O) _) _ = bnd (fc ρ O) _
                cases fc ρ O with
                | none => rfl
                | some r => cases r <;> rfl
  rw [e] at G
  refine goes_bnd G fun W1 H1 x v O1 le1 B1 Rx G1 => ⟨W1, ρ, O1, B1, goes_bnd G1 fun W2 H2 y u O2 le2 B2 Ry G2 => ?_⟩
  cases eq : q x y with
  | none => rw [eq] at G2; exact False.elim G2
  | some k =>
    rw [eq] at G2
    refine fit_k hr B2 (Rx.le le2) Ry eq fun W3 H3 le3 B3 => ⟨k, rfl, ?_⟩
    have G3 := Goes.le le3 G2
    cases k with
    | false =>
      rw [if_neg Bool.false_ne_true]
      exact G3 W3 H3 _ (Wd.Le.refl _) B3 (.bl _)
    | true =>
      rw [if_pos rfl]
      refine ⟨W3, ρ, O2, B3, goes_bnd G3 fun W4 H4 z w O4 le4 B4 Rz G4 => ?_⟩
      cases eq' : q' y z with
      | none => rw [eq'] at G4; exact False.elim G4
      | some k' =>
        rw [eq'] at G4
        exact fit_k hr' B4 ((Ry.le le3).le le4) Rz eq' fun W5 H5 le5 B5 => G4 W5 H5 _ le5 B5 (.bl _)
theorem sx_ch {op op' : CmpOp} (ho : OpR X (compareOp op) r) (ho' : OpR X (compareOp op') r') (hr : FitB C r (pB q)) (hr' : FitB C r' (pB q')) (ha : PE X a (tL C fa)) (hb : PE X b (tL C fb)) (hc : PE X c (tL C fc)) (hm : lastMarks [op, op'] [b, c] = false) :
    PE X (.Compare a [op, op'] [b, c] pos) (tX C (evBl (evCh q q' fa fb fc))) := PE.mono (pe_chain ho ho' ha hb hc hm) fun σ H Q h => ch_run hr hr' h
theorem bl_run {g : EvB} {σ : L2.St} {H : Hp} {Q : Bool → Hp → Prop} (h : tTt C g σ H Q) : tX C (evBl g) σ H fun x H1 => ∃ k, x = .bl k ∧ Q k H1 := by
  obtain ⟨W, ρ, O, B, G⟩ := h
  refine ⟨W, ρ, O, B, ?_⟩
  unfold evBl
  cases e : g ρ O with
  | none => rw [e] at G; exact G
  | some x =>
    rw [e] at G
    cases x with
    | ex x O1 => exact G
    | ok b O1 =>
      intro W' H' v le B' R
      cases R
      exact ⟨b, rfl, G W' H' b le B' rfl⟩
theorem st_ch {op op' : CmpOp} (ho : OpR X (compareOp op) r) (ho' : OpR X (compareOp op') r') (hr : FitB C r (pB q)) (hr' : FitB C r' (pB q')) (ha : PE X a (tL C fa)) (hb : PE X b (tL C fb)) (hc : PE X c (tL C fc)) (hm : lastMarks [op, op'] [b, c] = false) :
    PT X (.Compare a [op, op'] [b, c] pos) (tTt C (evCh q q' fa fb fc)) := PT.mono (pt_chain ho ho' ha hb hc hm) fun σ H Q h => ch_run hr hr' (bl_run h)
/-- an expression whose value is a truth, as a test -/
theorem st_ofX (hK : X.K = C.D.K) (he : PE X e (tX C (evBl ga))) (h : plainTest e = true) : PT X e (tTt C ga) := by
  refine PT.mono (st_val hK (l_of_x he) h) fun σ H Q ⟨W, ρ, O, B, G⟩ => ⟨W, ρ, O, B, ?_⟩
  have e : evTr (evBl ga) ρ O = ga ρ O := by
    unfold evTr evBl
    cases ga ρ O with
    | none => rfl
    | some r => cases r <;> rfl
  rw [e]
  exact G
end
end Hw

namespace Hw
open PySem PySem.Spec PyProof.Rows L2

/-! ### names, constants, arguments, displays, places, slices -/
def evVar (i : Nat) : Ev := fun ρ O => match ρ[i]? with
  | some (some (.owl _)) => none
  | some (some (.owd _ _)) => none
  | some (some x) => some (.ok x O)
  | _ => none
/-- .. also where it is the slot's own -/
def evOwn (i : Nat) : Ev := fun ρ O => match ρ[i]? with
  | some (some (.owl xs)) => some (.ok (.lst xs) O)
  | some (some (.owd ks xs)) => some (.ok (.dic ks xs) O)
  | some (some x) => some (.ok x O)
  | _ => none
def evC0 (x : PV) : Ev := fun _ O => some (.ok x O)
/-- a constant of the text -/
inductive Sc : PV → V → Prop
  | non : Sc .non .non
  | bl (b : Bool) : Sc (.bl b) (.bl b)
  | int (i : Int) : Sc (.int i) (.int i)
  | str (s : Str) : Sc (.str s) (.str s)
theorem Sc.rep {D : Adr} {F : Hp} {M : Nat → Option Addr} {x : PV} {v : V} (h : Sc x v) : Rep D F M x v := by
  cases h
  · exact .non
  · exact .bl _
  · exact .int _
  · exact .str _
abbrev EvA := Loc → Oms → Option (Rs (List PV))
def evNil : EvA := fun _ O => some (.ok [] O)
def evCons (f : Ev) (g : EvA) : EvA := fun ρ O => bnd (f ρ O) fun x O1 => bnd (g ρ O1) fun xs O2 => some (.ok (x :: xs) O2)
def evTup (g : EvA) : Ev := fun ρ O => bnd (g ρ O) fun xs O1 => some (.ok (.tup xs) O1)
def evLst (g : EvA) : Ev := fun ρ O => bnd (g ρ O) fun xs O1 => some (.ok (.lst xs) O1)
/-- loose arguments: a built-in's, that are read at once -/
inductive LReps (C : Ctx) (W : Wd) (ρ : Loc) (σ : L2.St) : List PV → List V → Prop
  | nil : LReps C W ρ σ [] []
  | cons {x : PV} {v : V} {xs : List PV} {vs : List V} (r : LRep C W ρ σ x v) (t : LReps C W ρ σ xs vs) : LReps C W ρ σ (x :: xs) (v :: vs)
theorem LReps.le {C : Ctx} {W W' : Wd} {ρ : Loc} {σ : L2.St} (le : W.Le W') : ∀ {xs : List PV} {vs : List V}, LReps C W ρ σ xs vs → LReps C W' ρ σ xs vs
  | _, _, .nil => .nil
  | _, _, .cons r t => .cons (r.le le) (t.le le)
abbrev RLs (C : Ctx) (ρ : Loc) (σ : L2.St) : Wd → Hp → List PV → List V → Prop := fun W _ x v => LReps C W ρ σ x v
def tLs (C : Ctx) (f : EvA) : TA := fun σ H Q => ∃ W ρ O, BRel C W ρ O σ H ∧ Goes C (RLs C ρ σ) W ρ σ (f ρ O) Q
section
variable {X : Cx} {C : Ctx} {a b e : Expr} {es : List Expr} {fa fb f : Ev} {g : EvA} {pos : Pos} {r : R2} {p : PV → PV → Option PV}
theorem sx_var {i : Nat} {x : Str} (hN : X.N[i]? = some x) (hv : Vis X.env.scope x) (hd : (x == ("__debug__" : Str)) = false) (hcd : (x == ("__classdict__" : Str)) = false) : PE X (.Name x pos) (tX C (evVar i)) := by
  refine PE.mono (pe_var hN hv hd hcd) fun σ H Q ⟨W, ρ, O, B, G⟩ => ?_
  unfold evVar at G
  cases q : ρ[i]? with
  | none => rw [q] at G; exact False.elim G
  | some o =>
    cases o with
    | none => rw [q] at G; exact False.elim G
    | some x =>
      rw [q] at G
      cases B.loc i x q with
      | sh e r =>
        cases x
        case owl => cases r
        case owd => cases r
        all_goals exact ⟨_, e, G W H _ (Wd.Le.refl _) B r⟩
      | ow e r => cases r <;> exact False.elim G
theorem sl_var {i : Nat} {x : Str} (hN : X.N[i]? = some x) (hv : Vis X.env.scope x) (hd : (x == ("__debug__" : Str)) = false) (hcd : (x == ("__classdict__" : Str)) = false) : PE X (.Name x pos) (tL C (evOwn i)) := by
  refine PE.mono (pe_var hN hv hd hcd) fun σ H Q ⟨W, ρ, O, B, G⟩ => ?_
  unfold evOwn at G
  cases q : ρ[i]? with
  | none => rw [q] at G; exact False.elim G
  | some o =>
    cases o with
    | none => rw [q] at G; exact False.elim G
    | some x =>
      rw [q] at G
      cases B.loc i x q with
      | sh e r =>
        cases x
        case owl => cases r
        case owd => cases r
        all_goals exact ⟨_, e, G W H _ (Wd.Le.refl _) B (.rep r)⟩
      | ow e r =>
        cases r with
        | lst => exact ⟨_, e, G W H _ (Wd.Le.refl _) B (.own q e)⟩
        | dic => exact ⟨_, e, G W H _ (Wd.Le.refl _) B (.ownd q e)⟩
theorem sx_const {x : PV} {v : V} (h : PE X e (tC v)) (s : Sc x v) : PE X e (tX C (evC0 x)) :=
  PE.mono h fun σ H Q ⟨W, ρ, O, B, G⟩ => G W H v (Wd.Le.refl _) B s.rep
theorem sa_nil : PA X [] (tXs C evNil) := ⟨fun pos pins s σ H Q I ⟨W, ρ, O, B, G⟩ => pa_nil.run pos pins s σ H Q I (G W H [] (Wd.Le.refl _) B .nil)⟩
theorem sa_cons (ha : PE X e (tX C f)) (hr : PA X es (tXs C g)) (hs : notStar e = true) : PA X (e :: es) (tXs C (evCons f g)) := by
  refine ⟨fun pos pins s σ H Q I ⟨W, ρ, O, B, G⟩ => (pa_cons ha hr (notStar_ok hs)).run pos pins s σ H Q I ?_⟩
  refine ⟨W, ρ, O, B, goes_bnd G fun W1 H1 x v O1 le1 B1 Rx G1 => ⟨W1, ρ, O1, B1, goes_bnd G1 fun W2 H2 xs vs O2 le2 B2 Rs G2 => ?_⟩⟩
  exact G2 W2 H2 _ (Wd.Le.refl _) B2 (.cons (Rx.mono le2.F le2.M) Rs)
theorem la_nil : PA X [] (tLs C evNil) := ⟨fun pos pins s σ H Q I ⟨W, ρ, O, B, G⟩ => pa_nil.run pos pins s σ H Q I (G W H [] (Wd.Le.refl _) B .nil)⟩
theorem la_cons (ha : PE X e (tL C f)) (hr : PA X es (tLs C g)) (hs : notStar e = true) : PA X (e :: es) (tLs C (evCons f g)) := by
  refine ⟨fun pos pins s σ H Q I ⟨W, ρ, O, B, G⟩ => (pa_cons ha hr (notStar_ok hs)).run pos pins s σ H Q I ?_⟩
  refine ⟨W, ρ, O, B, goes_bnd G fun W1 H1 x v O1 le1 B1 Rx G1 => ⟨W1, ρ, O1, B1, goes_bnd G1 fun W2 H2 xs vs O2 le2 B2 Rs G2 => ?_⟩⟩
  exact G2 W2 H2 _ (Wd.Le.refl _) B2 (.cons (Rx.le le2) Rs)
/-- how many there are at most -/
def Few (g : EvA) : Prop := ∀ ρ O xs O', g ρ O = some (.ok xs O') → xs.length ≤ sizeLine
theorem goes_few {W : Wd} {ρ : Loc} {O : Oms} {σ : L2.St} {k : List PV → PV} {R : Wd → Hp → PV → V → Prop} {Q : VK} (hf : Few g) (G : Goes C R W ρ σ (bnd (g ρ O) fun xs O1 => some (.ok (k xs) O1)) Q) :
    Goes C R W ρ σ (bnd (g ρ O) fun xs O1 => ret (if xs.length ≤ sizeLine then some (k xs) else none) O1) Q := by
  cases q : g ρ O with
  | none => rw [q] at G; exact G
  | some r =>
    rw [q] at G
    cases r with
    | ex x O1 => exact G
    | ok xs O1 =>
      show Goes C R W ρ σ (ret (if xs.length ≤ sizeLine then some (k xs) else none) O1) Q
      rw [if_pos (hf _ _ _ _ q)]
      exact G
theorem sx_tup {x1} (hf : Few g) (h : PA X es (tXs C g)) : PE X (.Tuple es x1 pos) (tX C (evTup g)) := by
  refine PE.mono (pe_tup h) fun σ H Q ⟨W, ρ, O, B, G⟩ => ⟨W, ρ, O, B, goes_bnd (goes_few hf G) fun W1 H1 xs vs O1 le1 B1 Rx G1 => ?_⟩
  obtain ⟨z, e, q⟩ := goes_ret G1
  obtain ⟨hz, rfl⟩ := ite_some e
  have hz' : vs.length ≤ sizeLine := by rw [← Rx.length]; exact hz
  refine ⟨hz', fun p hp => ?_⟩
  obtain ⟨W', le, B', R⟩ := B1.tup Rx hz' hp
  exact q W' _ _ le B' R
theorem sn_lst (hf : Few g) (h : PA X es (tXs C g)) : PE X (.List es pos) (tN C (evLst g)) := by
  refine PE.mono (pe_lst h) fun σ H Q ⟨W, ρ, O, B, G⟩ => ⟨W, ρ, O, B, goes_bnd (goes_few hf G) fun W1 H1 xs vs O1 le1 B1 Rx G1 => ?_⟩
  obtain ⟨z, e, q⟩ := goes_ret G1
  obtain ⟨hz, rfl⟩ := ite_some e
  have hz' : vs.length ≤ sizeLine := by rw [← Rx.length]; exact hz
  refine ⟨hz', fun p hp => ?_⟩
  obtain ⟨B', N⟩ := B1.lstN Rx hz' hp
  exact q W1 _ _ (Wd.Le.refl _) B' N
end
/-! places -/
def pIx : PV → PV → Option PV
  | .lst xs, .int i => atI xs i
  | .tup xs, .int i => atI xs i
  | .str s, .int i => if s.length ≤ sizeLine then (atI s.cps.toList i).map fun c => .str ⟨#[c]⟩ else none
  | _, _ => none
theorem Reps.atI {D : Adr} {F : Hp} {M : Nat → Option Addr} {xs : List PV} {vs : List V} {i : Int} {x : PV} (r : Reps D F M xs vs) (e : L2.atI xs i = some x) : ∃ v, L2.atI vs i = some v ∧ Rep D F M x v := by
  unfold L2.atI at e ⊢
  rw [r.length] at e
  cases q : ixN vs.length i with
  | none => rw [q] at e; cases e
  | some j =>
    rw [q] at e
    exact r.get e
theorem fit_ix {C : Ctx} : FitB C (rIx C.D.K) pIx := by
  intro W ρ O σ H x y v u z Q B rx ry e k
  unfold pIx at e
  split at e
  · obtain ⟨a, vs, rfl, h1, _, r1⟩ := rx.lst B
    obtain ⟨w, e1, R⟩ := r1.atI e
    exact .inl ⟨a, vs, _, w, rfl, ry.int B, h1, e1, k W H _ (Wd.Le.refl _) B R⟩
  · obtain ⟨a, vs, rfl, h1, _, r1, _⟩ := rx.tup B
    obtain ⟨w, e1, R⟩ := r1.atI e
    exact .inr (.inl ⟨a, vs, _, w, rfl, ry.int B, h1, e1, k W H _ (Wd.Le.refl _) B R⟩)
  · rename_i s i
    by_cases hz : s.length ≤ sizeLine
    · rw [if_pos hz] at e
      cases q : L2.atI s.cps.toList i with
      | none => rw [q] at e; cases e
      | some c =>
        rw [q] at e
        cases e
        exact .inr (.inr ⟨s, i, c, rx.str B, ry.int B, hz, q, k W H _ (Wd.Le.refl _) B (.str _)⟩)
    · rw [if_neg hz] at e; cases e
  · cases e
/-! slices -/
def cutG {α : Type} (xs : List α) (lo hi : Option Int) : List α := (xs.drop (HT.sIx xs.length 0 lo)).take (HT.sIx xs.length xs.length hi - HT.sIx xs.length 0 lo)
theorem Reps.cut {D : Adr} {F : Hp} {M : Nat → Option Addr} {xs : List PV} {vs : List V} (r : Reps D F M xs vs) (lo hi : Option Int) : Reps D F M (cutG xs lo hi) (cutV vs lo hi) := by
  unfold cutG cutV
  rw [r.length]
  exact (r.drop _).take _
def pSl (x : PV) (lo hi : Option Int) : Option PV := match x with
  | .lst xs => some (.lst (cutG xs lo hi))
  | .tup xs => some (.tup (cutG xs lo hi))
  | _ => none
def pSlL (x : PV) (lo hi : Option Int) : Option PV := match x with
  | .lst xs => some (.lst (cutG xs lo hi))
  | _ => none
abbrev EvP := Loc → Oms → Option (Rs (Option Int))
def evPn : EvP := fun _ O => some (.ok none O)
def toI : PV → Option (Option Int)
  | .int i => some (some i)
  | _ => none
def evPs (f : Ev) : EvP := fun ρ O => bnd (f ρ O) fun x O1 => ret (toI x) O1
def evSl (p : PV → Option Int → Option Int → Option PV) (f : Ev) (g h : EvP) : Ev := fun ρ O => bnd (f ρ O) fun x O1 => bnd (g ρ O1) fun lo O2 => bnd (h ρ O2) fun hi O3 => ret (p x lo hi) O3
def tPo (C : Ctx) (g : EvP) : TO := fun σ H Q => ∃ W ρ O, BRel C W ρ O σ H ∧ Goes C (fun _ _ (x v : Option Int) => x = v) W ρ σ (g ρ O) Q
section
variable {X : Cx} {C : Ctx} {a b e : Expr} {lo hi : Option Expr} {f fb : Ev} {g h : EvP} {pos p2 : Pos}
theorem PO.mono {t t' : TO} (h : PO X lo t) (k : ∀ σ H Q, t' σ H Q → t σ H Q) : PO X lo t' := ⟨fun pins s σ H Q I q => h.run pins s σ H Q I (k σ H Q q)⟩
theorem so_none : PO X none (tPo C evPn) := PO.mono po_none fun σ H Q ⟨W, ρ, O, B, G⟩ => G W H none (Wd.Le.refl _) B rfl
theorem so_some (he : PE X e (tL C f)) : PO X (some e) (tPo C (evPs f)) := by
  refine PO.mono (po_some he) fun σ H Q ⟨W, ρ, O, B, G⟩ => ⟨W, ρ, O, B, goes_bnd G fun W1 H1 x v O1 le1 B1 Rx G1 => ?_⟩
  obtain ⟨z, e, q⟩ := goes_ret G1
  cases x with
  | int i =>
    cases e
    exact ⟨i, Rx.int B1, q W1 H1 _ (Wd.Le.refl _) B1 rfl⟩
  | _ => cases e
def rSlX (K : PySem.W.Frag) : V → Option Int → Option Int → Hp → VK → Prop := fun x lo hi H Q => rSlL K x lo hi H Q ∨ rSlA K x lo hi H Q
theorem cut_whole {α : Type} {xs : List α} {lo hi : Option Int} (h : HT.sIx xs.length 0 lo = 0 ∧ HT.sIx xs.length xs.length hi = xs.length) : cutG xs lo hi = xs := by
  unfold cutG
  rw [h.1, h.2, List.drop_zero, Nat.sub_zero]
  exact List.take_length
theorem sx_sl (hK : X.K = C.D.K) (he : PE X e (tL C f)) (hl : PO X lo (tPo C g)) (hu : PO X hi (tPo C h)) : PE X (.Subscript e (.Slice lo hi none p2) pos) (tX C (evSl pSl f g h)) := by
  refine PE.mono (pe_slice (r := rSlX X.K) (sl_list.or sl_tupA) he hl hu) fun σ H Q ⟨W, ρ, O, B, G⟩ => ?_
  refine ⟨W, ρ, O, B, goes_bnd G fun W1 H1 x v O1 le1 B1 Rx G1 => ⟨W1, ρ, O1, B1, goes_bnd G1 fun W2 H2 l l' O2 le2 B2 e2 G2 => ⟨W2, ρ, O2, B2, goes_bnd G2 fun W3 H3 u u' O3 le3 B3 e3 G3 => ?_⟩⟩⟩
  subst e2 e3
  obtain ⟨z, ez, q⟩ := goes_ret G3
  have Rx3 := (Rx.le le2).le le3
  unfold pSl at ez
  split at ez
  · cases ez
    obtain ⟨a, vs, rfl, h1, hz, r1⟩ := Rx3.lst B3
    refine .inl ⟨a, vs, rfl, by rw [hK]; exact h1, fun p hp => ?_⟩
    obtain ⟨W', le, B', R⟩ := B3.lst (r1.cut l u) (Nat.le_trans (cutV_length _ _ _) hz) hp
    exact q W' _ _ le B' R
  · cases ez
    obtain ⟨a, vs, rfl, h1, hz, r1, f1⟩ := Rx3.tup B3
    refine .inr ⟨a, vs, rfl, by rw [hK]; exact h1, fun hw => ?_, fun hw p hp => ?_⟩
    · rw [cut_whole (by rw [r1.length]; exact hw)] at q
      exact q W3 H3 _ (Wd.Le.refl _) B3 (.tup f1 hz r1)
    · obtain ⟨W', le, B', R⟩ := B3.tup (r1.cut l u) (Nat.le_trans (cutV_length _ _ _) hz) hp
      exact q W' _ _ le B' R
  · cases ez
theorem sn_sl (hK : X.K = C.D.K) (he : PE X e (tL C f)) (hl : PO X lo (tPo C g)) (hu : PO X hi (tPo C h)) : PE X (.Subscript e (.Slice lo hi none p2) pos) (tN C (evSl pSlL f g h)) := by
  refine PE.mono (pe_slice (r := rSlL X.K) sl_list he hl hu) fun σ H Q ⟨W, ρ, O, B, G⟩ => ?_
  refine ⟨W, ρ, O, B, goes_bnd G fun W1 H1 x v O1 le1 B1 Rx G1 => ⟨W1, ρ, O1, B1, goes_bnd G1 fun W2 H2 l l' O2 le2 B2 e2 G2 => ⟨W2, ρ, O2, B2, goes_bnd G2 fun W3 H3 u u' O3 le3 B3 e3 G3 => ?_⟩⟩⟩
  subst e2 e3
  obtain ⟨z, ez, q⟩ := goes_ret G3
  have Rx3 := (Rx.le le2).le le3
  unfold pSlL at ez
  split at ez
  · cases ez
    obtain ⟨a, vs, rfl, h1, hz, r1⟩ := Rx3.lst B3
    refine ⟨a, vs, rfl, by rw [hK]; exact h1, fun p hp => ?_⟩
    obtain ⟨B', N⟩ := B3.lstN (r1.cut l u) (Nat.le_trans (cutV_length _ _ _) hz) hp
    exact q W3 _ _ (Wd.Le.refl _) B' N
  · cases ez
end
/-! ### built-ins -/
/-- a built-in's rule fits a function on data -/
def FitC (C : Ctx) (r : List V → Hp → VK → Prop) (p : List PV → Option PV) : Prop :=
  ∀ W ρ O σ H xs vs z Q, BRel C W ρ O σ H → LReps C W ρ σ xs vs → p xs = some z → (∀ W' H' v', W.Le W' → BRel C W' ρ O σ H' → Rep C.D W'.F W'.M z v' → Q v' H') → r vs H Q
def FitCN (C : Ctx) (r : List V → Hp → VK → Prop) (p : List PV → Option PV) : Prop :=
  ∀ W ρ O σ H xs vs z Q, BRel C W ρ O σ H → LReps C W ρ σ xs vs → p xs = some z → (∀ W' H' v', W.Le W' → BRel C W' ρ O σ H' → New C W' H' z v' → Q v' H') → r vs H Q
def evBi (p : List PV → Option PV) (g : EvA) : Ev := fun ρ O => bnd (g ρ O) fun xs O1 => ret (p xs) O1
section
variable {X : Cx} {C : Ctx} {x : Str} {p pos : Pos} {e : Expr} {es : List Expr} {g : EvA} {id T : String} {r : List V → Hp → VK → Prop} {q : List PV → Option PV}
theorem sx_bi (hc : CallR X (.builtin id) r) (hf : FitC C r q) (hg : Gl X x) (hm : X.mg x = none) (hv : bootBuiltins x = some (.builtin id)) (ha : PA X (e :: es) (tLs C g)) (hn : x ≠ "__name__") (hdb : (x == ("__debug__" : Str)) = false)
    (hs : notStars (e :: es) = true) : PE X (.Call (.Name x p) (e :: es) [] pos) (tX C (evBi q g)) := by
  simp only [notStars, Bool.and_eq_true] at hs
  refine PE.mono (pe_callB hc hg hm hv ha hn hdb (notStar_ok hs.1) (notStars_any hs.2)) fun σ H Q ⟨W, ρ, O, B, G⟩ => ⟨W, ρ, O, B, goes_bnd G fun W1 H1 xs vs O1 le1 B1 Rx G1 => ?_⟩
  obtain ⟨z, ez, q⟩ := goes_ret G1
  exact hf W1 ρ O1 σ H1 xs vs z Q B1 Rx ez q
theorem sn_bi (hc : CallR X (.builtin id) r) (hf : FitCN C r q) (hg : Gl X x) (hm : X.mg x = none) (hv : bootBuiltins x = some (.builtin id)) (ha : PA X (e :: es) (tLs C g)) (hn : x ≠ "__name__") (hdb : (x == ("__debug__" : Str)) = false)
    (hs : notStars (e :: es) = true) : PE X (.Call (.Name x p) (e :: es) [] pos) (tN C (evBi q g)) := by
  simp only [notStars, Bool.and_eq_true] at hs
  refine PE.mono (pe_callB hc hg hm hv ha hn hdb (notStar_ok hs.1) (notStars_any hs.2)) fun σ H Q ⟨W, ρ, O, B, G⟩ => ⟨W, ρ, O, B, goes_bnd G fun W1 H1 xs vs O1 le1 B1 Rx G1 => ?_⟩
  obtain ⟨z, ez, q⟩ := goes_ret G1
  exact hf W1 ρ O1 σ H1 xs vs z Q B1 Rx ez q
theorem sx_ty (hc : CallR X (.type T) r) (hf : FitC C r q) (hg : Gl X x) (hm : X.mg x = none) (hv : bootBuiltins x = some (.type T)) (ha : PA X (e :: es) (tLs C g)) (hn : x ≠ "__name__") (hdb : (x == ("__debug__" : Str)) = false)
    (hs : notStars (e :: es) = true) : PE X (.Call (.Name x p) (e :: es) [] pos) (tX C (evBi q g)) := by
  simp only [notStars, Bool.and_eq_true] at hs
  refine PE.mono (pe_callTy hc hg hm hv ha hn hdb (notStar_ok hs.1) (notStars_any hs.2)) fun σ H Q ⟨W, ρ, O, B, G⟩ => ⟨W, ρ, O, B, goes_bnd G fun W1 H1 xs vs O1 le1 B1 Rx G1 => ?_⟩
  obtain ⟨z, ez, q⟩ := goes_ret G1
  exact hf W1 ρ O1 σ H1 xs vs z Q B1 Rx ez q
theorem sn_ty (hc : CallR X (.type T) r) (hf : FitCN C r q) (hg : Gl X x) (hm : X.mg x = none) (hv : bootBuiltins x = some (.type T)) (ha : PA X (e :: es) (tLs C g)) (hn : x ≠ "__name__") (hdb : (x == ("__debug__" : Str)) = false)
    (hs : notStars (e :: es) = true) : PE X (.Call (.Name x p) (e :: es) [] pos) (tN C (evBi q g)) := by
  simp only [notStars, Bool.and_eq_true] at hs
  refine PE.mono (pe_callTy hc hg hm hv ha hn hdb (notStar_ok hs.1) (notStars_any hs.2)) fun σ H Q ⟨W, ρ, O, B, G⟩ => ⟨W, ρ, O, B, goes_bnd G fun W1 H1 xs vs O1 le1 B1 Rx G1 => ?_⟩
  obtain ⟨z, ez, q⟩ := goes_ret G1
  exact hf W1 ρ O1 σ H1 xs vs z Q B1 Rx ez q
end
section
variable {C : Ctx} {W : Wd} {ρ : Loc} {O : Oms} {σ : L2.St} {H : Hp}
theorem LReps.one {x : PV} {vs : List V} (r : LReps C W ρ σ [x] vs) : ∃ v, vs = [v] ∧ LRep C W ρ σ x v := by
  cases r with
  | cons r t => cases t; exact ⟨_, rfl, r⟩
theorem LReps.two {x y : PV} {vs : List V} (r : LReps C W ρ σ [x, y] vs) : ∃ v u, vs = [v, u] ∧ LRep C W ρ σ x v ∧ LRep C W ρ σ y u := by
  cases r with
  | cons r t =>
    cases t with
    | cons r2 t => cases t; exact ⟨_, _, rfl, r, r2⟩
def bAbs : List PV → Option PV
  | [.int i] => some (.int (if i < 0 then -i else i))
  | _ => none
theorem fit_abs : FitC C (fun xs H Q => ∃ i, xs = [.int i] ∧ Q (.int (if i < 0 then -i else i)) H) bAbs := by
  intro W ρ O σ H xs vs z Q B r e k
  unfold bAbs at e
  split at e
  · cases e
    obtain ⟨v, rfl, q⟩ := r.one
    exact ⟨_, by rw [q.int B], k W H _ (Wd.Le.refl _) B (.int _)⟩
  · cases e
def bMax2 : List PV → Option PV
  | [.int i, .int j] => some (.int (if j > i then j else i))
  | _ => none
theorem fit_max2 : FitC C (fun xs H Q => ∃ i j, xs = [.int i, .int j] ∧ Q (.int (if j > i then j else i)) H) bMax2 := by
  intro W ρ O σ H xs vs z Q B r e k
  unfold bMax2 at e
  split at e
  · cases e
    obtain ⟨v, u, rfl, r1, r2⟩ := r.two
    exact ⟨_, _, by rw [r1.int B, r2.int B], k W H _ (Wd.Le.refl _) B (.int _)⟩
  · cases e
def bMin2 : List PV → Option PV
  | [.int i, .int j] => some (.int (if j < i then j else i))
  | _ => none
theorem fit_min2 : FitC C (fun xs H Q => ∃ i j, xs = [.int i, .int j] ∧ Q (.int (if j < i then j else i)) H) bMin2 := by
  intro W ρ O σ H xs vs z Q B r e k
  unfold bMin2 at e
  split at e
  · cases e
    obtain ⟨v, u, rfl, r1, r2⟩ := r.two
    exact ⟨_, _, by rw [r1.int B, r2.int B], k W H _ (Wd.Le.refl _) B (.int _)⟩
  · cases e
def bInt : List PV → Option PV
  | [.int i] => some (.int i)
  | [.bl b] => some (.int (if b then 1 else 0))
  | _ => none
theorem fit_int1 : FitC C (fun xs H Q => (∃ i, xs = [.int i] ∧ Q (.int i) H) ∨ ∃ k, xs = [.bl k] ∧ Q (.int (if k then 1 else 0)) H) bInt := by
  intro W ρ O σ H xs vs z Q B r e k
  unfold bInt at e
  split at e
  · cases e
    obtain ⟨v, rfl, q⟩ := r.one
    exact .inl ⟨_, by rw [q.int B], k W H _ (Wd.Le.refl _) B (.int _)⟩
  · cases e
    obtain ⟨v, rfl, q⟩ := r.one
    exact .inr ⟨_, by rw [q.bl B], k W H _ (Wd.Le.refl _) B (.int _)⟩
  · cases e
def bLen : List PV → Option PV
  | [.lst xs] => some (.int xs.length)
  | [.tup xs] => some (.int xs.length)
  | [.str s] => if s.length ≤ sizeLine then some (.int s.length) else none
  | _ => none
def rLenX (K : PySem.W.Frag) : List V → Hp → VK → Prop := fun xs H Q => (∃ p ys, xs = [.ref p] ∧ (SqL K H p ys ∨ SqT K H p ys) ∧ Q (.int ys.length) H) ∨ ∃ z, xs = [.str z] ∧ z.length ≤ sizeLine ∧ Q (.int z.length) H
theorem fit_len : FitC C (rLenX C.D.K) bLen := by
  intro W ρ O σ H xs vs z Q B r e k
  unfold bLen at e
  split at e
  · cases e
    obtain ⟨v, rfl, q⟩ := r.one
    obtain ⟨a, ws, rfl, h1, hz, r1⟩ := q.lst B
    exact .inl ⟨a, ws, rfl, .inl h1, by rw [← r1.length]; exact k W H _ (Wd.Le.refl _) B (.int _)⟩
  · cases e
    obtain ⟨v, rfl, q⟩ := r.one
    obtain ⟨a, ws, rfl, h1, hz, r1, _⟩ := q.tup B
    exact .inl ⟨a, ws, rfl, .inr h1, by rw [← r1.length]; exact k W H _ (Wd.Le.refl _) B (.int _)⟩
  · obtain ⟨hz, rfl⟩ := ite_some e
    obtain ⟨v, rfl, q⟩ := r.one
    exact .inr ⟨_, by rw [q.str B], hz, k W H _ (Wd.Le.refl _) B (.int _)⟩
  · cases e
def bTuple : List PV → Option PV
  | [.lst xs] => some (.tup xs)
  | [.tup xs] => some (.tup xs)
  | _ => none
theorem fit_tuple : FitC C (fun xs H Q => ∃ p ys, xs = [.ref p] ∧ ((SqL C.D.K H p ys ∧ ∀ l, H l = none → Q (.ref l) (upd H l (.tup ys))) ∨ (SqT C.D.K H p ys ∧ Q (.ref p) H))) bTuple := by
  intro W ρ O σ H xs vs z Q B r e k
  unfold bTuple at e
  split at e
  · cases e
    obtain ⟨v, rfl, q⟩ := r.one
    obtain ⟨a, ws, rfl, h1, hz, r1⟩ := q.lst B
    refine ⟨a, ws, rfl, .inl ⟨h1, fun p hp => ?_⟩⟩
    obtain ⟨W', le, B', R⟩ := B.tup r1 hz hp
    exact k W' _ _ le B' R
  · cases e
    obtain ⟨v, rfl, q⟩ := r.one
    obtain ⟨a, ws, rfl, h1, hz, r1, f1⟩ := q.tup B
    exact ⟨a, ws, rfl, .inr ⟨h1, k W H _ (Wd.Le.refl _) B (.tup f1 hz r1)⟩⟩
  · cases e
def bList : List PV → Option PV
  | [.lst xs] => some (.lst xs)
  | [.tup xs] => some (.lst xs)
  | _ => none
theorem fit_list : FitCN C (fun xs H Q => ∃ p ys, xs = [.ref p] ∧ (SqL C.D.K H p ys ∨ SqT C.D.K H p ys) ∧ ∀ l, H l = none → Q (.ref l) (upd H l (.lst ys))) bList := by
  intro W ρ O σ H xs vs z Q B r e k
  unfold bList at e
  split at e
  · cases e
    obtain ⟨v, rfl, q⟩ := r.one
    obtain ⟨a, ws, rfl, h1, hz, r1⟩ := q.lst B
    refine ⟨a, ws, rfl, .inl h1, fun p hp => ?_⟩
    obtain ⟨B', N⟩ := B.lstN r1 hz hp
    exact k W _ _ (Wd.Le.refl _) B' N
  · cases e
    obtain ⟨v, rfl, q⟩ := r.one
    obtain ⟨a, ws, rfl, h1, hz, r1, f1⟩ := q.tup B
    refine ⟨a, ws, rfl, .inr h1, fun p hp => ?_⟩
    obtain ⟨B', N⟩ := B.lstN r1 hz hp
    exact k W _ _ (Wd.Le.refl _) B' N
  · cases e
end
end Hw

namespace Hw
open PySem PySem.Spec PyProof.Rows L2

/-! ### statements -/
inductive So where
  | nx (ρ : Loc) (O : Oms)
  | rt (x : PV) (O : Oms)
  | ex (x : Xc) (ρ : Loc) (O : Oms)
abbrev EvS := Loc → Oms → Option So
def GoesS (C : Ctx) (W : Wd) (r : Option So) (D : Ends) : Prop := match r with
  | none => False
  | some (.nx ρ O) => ∀ W' σ' H', W.Le W' → BRel C W' ρ O σ' H' → D.nx σ' H'
  | some (.rt x O) => ∀ W' H' v, FRel C.D C.W0 C.H0 W' O H' → Rep C.D W'.F W'.M x v → D.rt v H'
  | some (.ex x ρ O) => ∀ W' σ' H' c d, BRel C W' ρ O σ' H' → XRep C.D W' x c d → C.EX c d σ' H'
def tS (C : Ctx) (f : EvS) : TS := fun D σ H => ∃ W ρ O, BRel C W ρ O σ H ∧ GoesS C W (f ρ O) D
def liftS {α : Type} (r : Option (Rs α)) (ρ : Loc) (k : α → Oms → Option So) : Option So := match r with
  | none => none
  | some (.ok a O) => k a O
  | some (.ex x O) => some (.ex x ρ O)
def seqS (r : Option So) (k : EvS) : Option So := match r with
  | some (.nx ρ O) => k ρ O
  | r => r
theorem GoesS.le {C : Ctx} {W W' : Wd} {r : Option So} {D : Ends} (le : W.Le W') (h : GoesS C W r D) : GoesS C W' r D := by
  cases r with
  | none => exact h
  | some r =>
    cases r with
    | nx ρ O => exact fun W2 σ' H' le2 => h W2 σ' H' (le.trans le2)
    | rt x O => exact h
    | ex x ρ O => exact h
theorem goes_lift {α β : Type} {C : Ctx} {R : Wd → Hp → α → β → Prop} {W : Wd} {ρ : Loc} {σ : L2.St} {r : Option (Rs α)} {k : α → Oms → Option So} {D : Ends} {Q : β → Hp → Prop} (h : GoesS C W (liftS r ρ k) D)
    (q : ∀ W1 H1 a v O1, W.Le W1 → BRel C W1 ρ O1 σ H1 → R W1 H1 a v → GoesS C W1 (k a O1) D → Q v H1) : Goes C R W ρ σ r Q := by
  cases r with
  | none => exact h
  | some r =>
    cases r with
    | ok a O => exact fun W' H' v le B Ra => q W' H' a v O le B Ra (GoesS.le le h)
    | ex x O => exact fun W' H' c d le B Ra => h W' σ H' c d B Ra
def evSeq (f g : EvS) : EvS := fun ρ O => seqS (f ρ O) g
def evNx : EvS := fun ρ O => some (.nx ρ O)
def evIf (c : EvB) (f g : EvS) : EvS := fun ρ O => liftS (c ρ O) ρ fun b O1 => match b with
  | true => f ρ O1
  | false => g ρ O1
def evDrop (f : Ev) : EvS := fun ρ O => liftS (f ρ O) ρ fun _ O1 => some (.nx ρ O1)
def evRet (f : Ev) : EvS := fun ρ O => liftS (f ρ O) ρ fun x O1 => some (.rt x O1)
def evRetN : EvS := fun _ O => some (.rt .non O)
def evSetO (i : Nat) (f : Ev) : EvS := fun ρ O => liftS (f ρ O) ρ fun x O1 => some (.nx (ρ.set i (some (toOw x))) O1)
def evSet (i : Nat) (f : Ev) : EvS := fun ρ O => liftS (f ρ O) ρ fun x O1 => some (.nx (ρ.set i (some x)) O1)
section
variable {C : Ctx} {W W' : Wd} {ρ : Loc} {O : Oms} {σ : L2.St} {H H' : Hp}
theorem get_set_eq {α : Type} {l : List α} {i : Nat} {x y : α} (h : (l.set i x)[i]? = some y) : x = y ∧ i < l.length := by
  by_cases hi : i < l.length
  · rw [List.getElem?_set_self hi] at h
    exact ⟨Option.some.inj h, hi⟩
  · rw [List.getElem?_eq_none (by rw [List.length_set]; omega)] at h
    cases h
theorem SRep.set {i j : Nat} {x : PV} {v : V} (h : j ≠ i) (r : SRep C W H σ j x) : SRep C W H (σ.set i (some v)) j x := by
  have e : (σ.set i (some v))[j]? = σ[j]? := List.getElem?_set_ne (Ne.symm h)
  cases r with
  | sh q r => exact .sh (e.trans q) r
  | ow q r => exact .ow (e.trans q) r
theorem BRel.set (B : BRel C W ρ O σ H) {i : Nat} {x : PV} {v : V} (r : Rep C.D W.F W.M x v) : BRel C W (ρ.set i (some x)) O (σ.set i (some v)) H := by
  refine ⟨B.f, B.ns, fun j y e => ?_, by rw [List.length_set, List.length_set]; exact B.len, by rw [List.length_set]; exact B.tm⟩
  by_cases hj : j = i
  · subst hj
    obtain ⟨e1, hi⟩ := get_set_eq e
    cases e1
    exact .sh (List.getElem?_set_self (by rw [B.len]; exact hi)) r
  · rw [List.getElem?_set_ne (Ne.symm hj)] at e
    exact (B.loc j y e).set hj
/-- nobody's list becomes a slot's own -/
theorem BRel.setO (B : BRel C W ρ O σ H) {i : Nat} {x : PV} {v : V} (n : New C W H x v) : ∃ W', W.Le W' ∧ BRel C W' (ρ.set i (some (toOw x))) O (σ.set i (some v)) H := by
  have go : ∀ p o, v = .ref p → W.F p = none → W.own p = none → C.H0 p = none → H p = some o → (∀ W', W'.own p = some (.slot i) → W.Le W' → OAt C W' H i p (toOw x)) → ∃ W', W.Le W' ∧ BRel C W' (ρ.set i (some (toOw x))) O (σ.set i (some v)) H := by
    intro p o ev hF ho h0 hp oat
    subst ev
    have le : W.Le { W with own := fun a => if a = p then some (.slot i) else W.own a } := ⟨FLe.refl _, MLe.refl _⟩
    have ow : ∀ a w, W.own a = some w → (if a = p then some (.slot i) else W.own a) = some w := fun a w e => by
      rw [if_neg (fun z => by rw [z, ho] at e; cases e)]; exact e
    refine ⟨_, le, ⟨B.f.g.move le (fun a w _ e => ow a w e) (fun _ _ _ _ => rfl) B.f.g.sub (fun a w e => ?_) B.f.g.fresh, B.f.le.trans le, fun a u e => ?_⟩, B.ns, fun j y e => ?_, by rw [List.length_set, List.length_set]; exact B.len, by rw [List.length_set]; exact B.tmMove le (fun a i _ e => ow a _ e) (fun _ _ _ _ => rfl)⟩
    · have e' : (if a = p then some (.slot i) else W.own a) = some w := e
      by_cases ha : a = p
      · subst ha
        exact ⟨hF, o, hp⟩
      · rw [if_neg ha] at e'
        exact B.f.g.ownF a w e'
    · obtain ⟨h1, h2, h3⟩ := B.f.fr a u e
      have ha : a ≠ p := fun z => by rw [z, h0] at e; cases e
      refine ⟨h1, ?_, h3⟩
      show (if a = p then some (.slot i) else W.own a) = _
      rw [if_neg ha]; exact h2
    · by_cases hj : j = i
      · subst hj
        obtain ⟨e1, hi⟩ := get_set_eq e
        cases e1
        exact .ow (List.getElem?_set_self (by rw [B.len]; exact hi)) (oat _ (if_pos rfl) le)
      · rw [List.getElem?_set_ne (Ne.symm hj)] at e
        exact ((B.loc j y e).move le (fun a e => ow a _ e) (fun _ _ => rfl)).set hj
  cases n with
  | lst f o n h z r => exact go _ _ rfl f o n h fun W' hw le => .lst hw n h z (r.mono le.F le.M)
  | dic f o n h k r => exact go _ _ rfl f o n h fun W' hw le => .dic hw n h k (r.mono le.F le.M)
end
section
variable {X : Cx} {C : Ctx} {a e c : Expr} {st : Stmt} {sts rest : List Stmt} {f fa : Ev} {g : EvB} {h1 h2 : EvS} {pos pos' : Pos}
theorem ss_nil : PSs X [] (tS C evNx) := PSs.mono pss_nil fun D σ H ⟨W, ρ, O, B, G⟩ => G W σ H (Wd.Le.refl _) B
theorem ss_cons (ha : PS X st (tS C h1)) (hb : PSs X rest (tS C h2)) : PSs X (st :: rest) (tS C (evSeq h1 h2)) := by
  refine PSs.mono (pss_cons ha hb) fun D σ H ⟨W, ρ, O, B, G⟩ => ⟨W, ρ, O, B, ?_⟩
  unfold evSeq seqS at G
  unfold GoesS at G ⊢
  cases q : h1 ρ O with
  | none => rw [q] at G; exact G
  | some r =>
    rw [q] at G
    cases r with
    | nx ρ' O' => exact fun W' σ' H' le B' => ⟨W', ρ', O', B', GoesS.le le G⟩
    | rt x O' => exact G
    | ex x ρ' O' => exact G
theorem ss_pass : PS X (.Pass pos) (tS C evNx) := PS.mono ps_pass fun D σ H ⟨W, ρ, O, B, G⟩ => G W σ H (Wd.Le.refl _) B
theorem ss_if (hc : PT X c (tTt C g)) (ha : PSs X sts (tS C h1)) (hb : PSs X rest (tS C h2)) : PS X (.If c sts rest pos) (tS C (evIf g h1 h2)) := by
  refine PS.mono (ps_if hc ha hb) fun D σ H ⟨W, ρ, O, B, G⟩ => ⟨W, ρ, O, B, goes_lift G fun W1 H1 b v O1 le1 B1 e1 G1 => ?_⟩
  subst e1
  cases b with
  | true => rw [if_pos rfl]; exact ⟨W1, ρ, O1, B1, G1⟩
  | false => rw [if_neg Bool.false_ne_true]; exact ⟨W1, ρ, O1, B1, G1⟩
theorem noSwap_ok {e : Expr} {t : Option Expr} {n : Nat} {env : Env} (h : noSwap e = true) : swapsWith e t n env = pure false := by
  cases e with
  | ListComp => cases h
  | SetComp => cases h
  | DictComp => cases h
  | _ => rfl
theorem ss_expr (he : PE X e (tL C f)) (hs : noSwap e = true) : PS X (.Expr e pos) (tS C (evDrop f)) :=
  PS.mono (ps_expr he (noSwap_ok hs)) fun D σ H ⟨W, ρ, O, B, G⟩ => ⟨W, ρ, O, B, goes_lift G fun W1 H1 x v O1 le1 B1 Rx G1 => G1 W1 σ H1 (Wd.Le.refl _) B1⟩
theorem ss_ret (he : PE X e (tX C f)) : PS X (.Return (some e) pos) (tS C (evRet f)) :=
  PS.mono (ps_ret he) fun D σ H ⟨W, ρ, O, B, G⟩ => ⟨W, ρ, O, B, goes_lift G fun W1 H1 x v O1 le1 B1 Rx G1 => G1 W1 H1 v B1.f Rx⟩
theorem ss_retN : PS X (.Return none pos) (tS C evRetN) := PS.mono ps_retN fun D σ H ⟨W, ρ, O, B, G⟩ => G W H .non B.f .non
theorem ss_set {i : Nat} {x : Str} (hN : X.N.Nodup) (hi : X.N[i]? = some x) (hx : L2.Loc X.env.scope x) (he : PE X e (tX C f)) (hs : noSwap e = true) (hf : X.fn x = true ∨ X.env.scope.names.lookup x = some .local) : PS X (.Assign [.Name x pos'] e pos) (tS C (evSet i f)) :=
  PS.mono (ps_set hN hi hx he (noSwap_ok hs) hf) fun D σ H ⟨W, ρ, O, B, G⟩ => ⟨W, ρ, O, B, goes_lift G fun W1 H1 x v O1 le1 B1 Rx G1 => G1 W1 _ H1 (Wd.Le.refl _) (B1.set Rx)⟩
theorem ss_setO {i : Nat} {x : Str} (hN : X.N.Nodup) (hi : X.N[i]? = some x) (hx : L2.Loc X.env.scope x) (he : PE X e (tN C f)) (hs : noSwap e = true) (hf : X.fn x = true ∨ X.env.scope.names.lookup x = some .local) : PS X (.Assign [.Name x pos'] e pos) (tS C (evSetO i f)) :=
  PS.mono (ps_set hN hi hx he (noSwap_ok hs) hf) fun D σ H ⟨W, ρ, O, B, G⟩ => ⟨W, ρ, O, B, goes_lift G fun W1 H1 x v O1 le1 B1 Rx G1 => by
    obtain ⟨W', le, B'⟩ := B1.setO Rx
    exact G1 W' _ H1 le B'⟩
end

/-! ### what is let go -/
/-- no more the slot's own -/
def unOw : PV → PV
  | .owl xs => .lst xs
  | .owd ks xs => .dic ks xs
  | x => x
def frzP (ρ : Loc) (i : Nat) : Loc := match ρ[i]? with
  | some (some x) => ρ.set i (some (unOw x))
  | _ => ρ
def frzPs : List Nat → Loc → Loc
  | [], ρ => ρ
  | i :: is, ρ => frzPs is (frzP ρ i)
section
variable {C : Ctx} {W : Wd} {ρ : Loc} {O : Oms} {σ : L2.St} {H : Hp}
theorem set_same {α : Type} {l : List α} {i : Nat} {x : α} (h : l[i]? = some x) : l.set i x = l := by
  refine List.ext_getElem? fun j => ?_
  by_cases hj : j = i
  · subst hj
    rw [List.getElem?_set_self (List.getElem?_eq_some_iff.mp h).1, h]
  · rw [List.getElem?_set_ne (Ne.symm hj)]
/-- one slot's own list is frozen -/
theorem BRel.frzS (B : BRel C W ρ O σ H) (i : Nat) : ∃ W', W.Le W' ∧ BRel C W' (frzP ρ i) O σ H := by
  unfold frzP
  cases hx : ρ[i]? with
  | none => exact ⟨W, Wd.Le.refl _, B⟩
  | some o =>
    cases o with
    | none => exact ⟨W, Wd.Le.refl _, B⟩
    | some x =>
      dsimp only
      cases B.loc i x hx with
      | sh e r =>
        have : unOw x = x := by cases r <;> rfl
        rw [this, set_same hx]
        exact ⟨W, Wd.Le.refl _, B⟩
      | @ow a es oa =>
        obtain ⟨v, ea, hrep⟩ : ∃ o, H a = some o ∧ ∀ W' : Wd, W.Le W' → W'.F a = some o → Rep C.D W'.F W'.M (unOw x) (.ref a) := by
          cases oa with
          | lst o n h z r => exact ⟨_, h, fun W' le q => .lst (.inl (.inl q)) z (r.mono le.F le.M)⟩
          | dic o n h z r => exact ⟨_, h, fun W' le q => .dic q z (r.mono le.F le.M)⟩
        have hown := oa.own
        have hF := (B.f.g.ownF a _ hown).1
        have h0 := oa.h0
        have le : W.Le { F := upd W.F a v, M := W.M, own := fun b => if b = a then none else W.own b } := ⟨fun b u e => by
          show upd W.F a v b = some u
          rw [upd_ne (ne_of_none e hF)]; exact e, MLe.refl _⟩
        have ow : ∀ b w, W.own b = some w → w ≠ .slot i → (if b = a then none else W.own b) = some w := fun b w e hw => by
          rw [if_neg (fun z => by rw [z, hown] at e; exact hw (Option.some.inj e).symm)]; exact e
        have hi : i < ρ.length := (List.getElem?_eq_some_iff.mp hx).1
        refine ⟨_, le, ⟨B.f.g.move le (fun b w hw e => ow b w e (fun z => by rw [z] at hw; cases hw)) (fun _ _ _ _ => rfl) (fun b u e => ?_) (fun b w e => ?_) B.f.g.fresh, B.f.le.trans le, fun b u e => ?_⟩, B.ns, fun j y e => ?_, by rw [List.length_set]; exact B.len, ?_⟩
        · have e' : upd W.F a v b = some u := e
          by_cases hb : b = a
          · subst hb
            rw [upd_same] at e'
            cases e'
            exact ea
          · rw [upd_ne hb] at e'
            exact B.f.g.sub b u e'
        · have e' : (if b = a then none else W.own b) = some w := e
          by_cases hb : b = a
          · rw [if_pos hb] at e'; cases e'
          · rw [if_neg hb] at e'
            obtain ⟨q1, q2⟩ := B.f.g.ownF b w e'
            exact ⟨by show upd W.F a v b = none; rw [upd_ne hb]; exact q1, q2⟩
        · have e2 : C.H0 b = some u := e
          have hb : b ≠ a := fun z => by rw [z, h0] at e2; cases e2
          obtain ⟨q1, q2, q3⟩ := B.f.fr b u e2
          refine ⟨by show upd W.F a v b = _; rw [upd_ne hb]; exact q1, ?_, q3⟩
          show (if b = a then none else W.own b) = _
          rw [if_neg hb]; exact q2
        · by_cases hj : j = i
          · subst hj
            obtain ⟨e1, _⟩ := get_set_eq e
            cases e1
            exact .sh es (hrep _ le upd_same)
          · rw [List.getElem?_set_ne (Ne.symm hj)] at e
            exact (B.loc j y e).move le (fun b e => ow b _ e (fun z => hj (Ow.slot.inj z))) (fun _ _ => rfl)
        · rw [List.length_set]
          exact B.tmMove (W' := { F := upd W.F a v, M := W.M, own := fun b => if b = a then none else W.own b }) (H' := H) le (fun b j hj e => ow b _ e (fun z => by
            have := Ow.slot.inj z
            omega)) (fun _ _ _ _ => rfl)
theorem BRel.frzSs : ∀ (is : List Nat) {ρ : Loc} {W : Wd}, BRel C W ρ O σ H → ∃ W', W.Le W' ∧ BRel C W' (frzPs is ρ) O σ H
  | [], _, W, B => ⟨W, Wd.Le.refl _, B⟩
  | i :: is, ρ, W, B => by
    obtain ⟨W1, le1, B1⟩ := B.frzS i
    obtain ⟨W2, le2, B2⟩ := BRel.frzSs is B1
    exact ⟨W2, le1.trans le2, B2⟩
end
/-- some slots' own are let go first -/
def evFrz (is : List Nat) (f : EvS) : EvS := fun ρ O => f (frzPs is ρ) O
theorem ss_frz {X : Cx} {C : Ctx} {st : Stmt} {f : EvS} {is : List Nat} (h : PS X st (tS C f)) : PS X st (tS C (evFrz is f)) :=
  PS.mono h fun D σ H ⟨W, ρ, O, B, G⟩ => by
    obtain ⟨W1, le1, B1⟩ := B.frzSs is
    exact ⟨W1, _, O, B1, GoesS.le le1 G⟩

/-! ### targets -/
abbrev EvT := PV → Loc → Option Loc
/-- σ' is σ but for these slots -/
def But (is : List Nat) (σ σ' : L2.St) : Prop := σ'.length = σ.length ∧ ∀ j, j ∉ is → σ'[j]? = σ[j]?
theorem But.refl (is : List Nat) (σ : L2.St) : But is σ σ := ⟨rfl, fun _ _ => rfl⟩
theorem But.set {is : List Nat} {σ σ' : L2.St} {i : Nat} {v : Option V} (h : But is (σ.set i v) σ') : But (i :: is) σ σ' :=
  ⟨h.1.trans List.length_set, fun j hj => by
    rw [List.mem_cons, not_or] at hj
    rw [h.2 j hj.2]
    exact List.getElem?_set_ne (Ne.symm hj.1)⟩
def tG (C : Ctx) (h : EvT) (is : List Nat) : TG := fun v σ H Q => ∃ W ρ O x ρ', BRel C W ρ O σ H ∧ Rep C.D W.F W.M x v ∧ h x ρ = some ρ' ∧ ∀ σ', But is σ σ' → BRel C W ρ' O σ' H → Q σ' H
theorem PG.mono {X : Cx} {e : Expr} {t t' : TG} (h : PG X e t) (k : ∀ v σ H Q, t' v σ H Q → t v σ H Q) : PG X e t' := ⟨fun pins s σ H v u Q I r q => h.run pins s σ H v u Q I r (k v σ H Q q)⟩
def evT1 (i : Nat) : EvT := fun x ρ => some (ρ.set i (some x))
def setAll : List Nat → List PV → Loc → Option Loc
  | [], [], ρ => some ρ
  | i :: is, x :: xs, ρ => setAll is xs (ρ.set i (some x))
  | _, _, _ => none
def evTm (is : List Nat) : EvT := fun x ρ => match x with
  | .tup xs => setAll is xs ρ
  | .lst xs => setAll is xs ρ
  | _ => none
def tGs (C : Ctx) (is : List Nat) : TGs := fun vs σ H Q => ∃ W ρ O xs ρ', BRel C W ρ O σ H ∧ Reps C.D W.F W.M xs vs ∧ setAll is xs ρ = some ρ' ∧ ∀ σ', But is σ σ' → BRel C W ρ' O σ' H → Q σ' H
/-- a list of names as targets -/
inductive Tgs (X : Cx) (C : Ctx) : List Expr → List Nat → Prop
  | nil : Tgs X C [] []
  | cons {i : Nat} {x : Str} {pos : Pos} {es : List Expr} {is : List Nat} (hi : X.N[i]? = some x) (hx : L2.Loc X.env.scope x) (hf : X.fn x = true ∨ X.env.scope.names.lookup x = some .local) (t : Tgs X C es is) : Tgs X C (.Name x pos :: es) (i :: is)
section
variable {X : Cx} {C : Ctx} {es : List Expr} {is : List Nat} {pos : Pos}
theorem sg_one {i : Nat} {x : Str} (hN : X.N.Nodup) (hi : X.N[i]? = some x) (hx : L2.Loc X.env.scope x) (hf : X.fn x = true ∨ X.env.scope.names.lookup x = some .local) : PG X (.Name x pos) (tG C (evT1 i) [i]) :=
  PG.mono (pg_name hN hi hx hf) fun v σ H Q ⟨W, ρ, O, x, ρ', B, R, e, q⟩ => by
    cases e
    exact q _ (But.refl [] _).set (B.set R)
theorem sgs (hN : X.N.Nodup) : ∀ {es : List Expr} {is : List Nat}, Tgs X C es is → PGs X es (tGs C is)
  | _, _, .nil => ⟨fun pins s σ H vs us Q I r ⟨W, ρ, O, xs, ρ', B, R, e, q⟩ => by
    cases R with
    | nil =>
      cases e
      exact pgs_nil.run pins s σ H [] us Q I r ⟨rfl, q _ (But.refl _ _) B⟩
    | cons => cases e⟩
  | _, _, .cons (i := i) (x := x) (pos := pos) (es := es) (is := is) hi hx hf t => ⟨fun pins s σ H vs us Q I r ⟨W, ρ, O, xs, ρ', B, R, e, q⟩ => by
    cases R with
    | nil => cases e
    | @cons y v ys vs R1 R2 =>
      refine (pgs_cons (pg_name hN hi hx hf) (sgs hN t) (by rfl)).run pins s σ H (v :: vs) us Q I r ⟨v, vs, rfl, ?_⟩
      exact ⟨W, _, O, ys, ρ', B.set R1, R2, e, fun σ' hb B' => q σ' hb.set B'⟩⟩
theorem Tgs.len {env : Env} : ∀ {es : List Expr} {is : List Nat}, Tgs X C es is → (assignEach es env).length = is.length ∧ (assignEach es env).findIdx? (·.1) = none
  | _, _, .nil => ⟨rfl, rfl⟩
  | _, _, .cons (es := es) hi hx hf t => by
    obtain ⟨h1, h2⟩ := Tgs.len (env := env) t
    exact ⟨congrArg (· + 1) h1, by
      show List.findIdx? (·.1) ((false, _) :: assignEach es env) = none
      rw [List.findIdx?_cons]
      simp [h2]⟩
theorem setAll_len : ∀ {is : List Nat} {xs : List PV} {ρ ρ' : Loc}, setAll is xs ρ = some ρ' → xs.length = is.length
  | [], [], _, _, _ => rfl
  | [], _ :: _, _, _, h => by cases h
  | _ :: _, [], _, _, h => by cases h
  | i :: is, x :: xs, ρ, _, h => congrArg (· + 1) (setAll_len (is := is) (xs := xs) (ρ := ρ.set i (some x)) h)
theorem sg_many {k : Nat} (hK : X.K = C.D.K) (hc : X.calm = true) (hN : X.N.Nodup) (t : Tgs X C es is) : PG X (.Tuple es k pos) (tG C (evTm is) is) := by
  obtain ⟨l1, l2⟩ := t.len (env := X.env)
  have pt := pg_tup (k := k) (pos := pos) hc (sgs hN t) l1 l2
  have pl := pg_lst (k := k) (pos := pos) hc (sgs hN t) l1 l2
  refine ⟨fun pins s σ H v u Q I r ⟨W, ρ, O, x, ρ', B, R, e, q⟩ => ?_⟩
  unfold evTm at e
  split at e
  · cases R with
    | tup h z R =>
      refine pt.run pins s σ H _ u Q I r ⟨_, _, rfl, by rw [hK]; exact sqT_mono B.f.g.sub h.sq, by rw [← R.length]; exact setAll_len e, ?_⟩
      exact ⟨W, ρ, O, _, ρ', B, R, e, q⟩
  · cases R with
    | lst h z R =>
      refine pl.run pins s σ H _ u Q I r ⟨_, _, rfl, by rw [hK]; exact sqL_mono B.f.g.sub h, by rw [← R.length]; exact setAll_len e, ?_⟩
      exact ⟨W, ρ, O, _, ρ', B, R, e, q⟩
  · cases e
/-- target = e -/
def evAsg (f : Ev) (h : EvT) : EvS := fun ρ O => liftS (f ρ O) ρ fun x O1 => match h x ρ with
  | some ρ' => some (.nx ρ' O1)
  | none => none
theorem ss_asg {tg e : Expr} {f : Ev} {h : EvT} {is : List Nat} (he : PE X e (tX C f)) (hg : PG X tg (tG C h is)) (hs : noSwap e = true) (hw : swappedStores [tg] e X.env = pure none)
    (h1 : (assignEach [tg] X.env).map (·.2) = [assign tg X.env]) : PS X (.Assign [tg] e pos) (tS C (evAsg f h)) := by
  have hs' : swapsWithSole [tg] e pos.line X.env = pure false := noSwap_ok hs
  refine PS.mono (ps_asg he hg hs' hw h1) fun D σ H ⟨W, ρ, O, B, G⟩ => ⟨W, ρ, O, B, goes_lift G fun W1 H1 x v O1 le1 B1 Rx G1 => ?_⟩
  cases q : h x ρ with
  | none => rw [q] at G1; exact False.elim G1
  | some ρ' =>
    rw [q] at G1
    exact ⟨W1, ρ, O1, x, ρ', B1, Rx, q, fun σ' _ B' => G1 W1 σ' H1 (Wd.Le.refl _) B'⟩
end

/-! ### loops -/
/-- what is walked has these items -/
def Wk (D : Adr) (J : It) (xs : List PV) (W : Wd) : Prop := ∀ (C : Ctx) W' ρ O σ H, C.D = D → W.Le W' → BRel C W' ρ O σ H → ∀ i,
  (∀ x, xs[i]? = some x → J.go i H ∧ ∀ v H', J.yld i H v H' → ∃ W2, W'.Le W2 ∧ BRel C W2 ρ O σ H' ∧ Rep D W2.F W2.M x v) ∧ (i = xs.length → J.stop i H)
def tI (C : Ctx) (h : EvA) : TI := fun σ H R => ∃ W ρ O, BRel C W ρ O σ H ∧ Goes C (fun W' _ xs (J : It) => Wk C.D J xs W') W ρ σ (h ρ O) R
def loopS (g : EvT) (fb : EvS) : List PV → EvS
  | [], ρ, O => some (.nx ρ O)
  | x :: xs, ρ, O => match g x ρ with
    | none => none
    | some ρ1 => seqS (fb ρ1 O) (loopS g fb xs)
def evFor (h : EvA) (g : EvT) (fb : EvS) : EvS := fun ρ O => liftS (h ρ O) ρ fun xs O1 => loopS g fb xs ρ O1
def evWhile (c : EvB) (fb : EvS) : Nat → EvS
  | 0, _, _ => none
  | n + 1, ρ, O => liftS (c ρ O) ρ fun b O1 => match b with
    | true => seqS (fb ρ O1) (evWhile c fb n)
    | false => some (.nx ρ O1)
theorem goesS_seq {C : Ctx} {W : Wd} {r : Option So} {k : EvS} {D : Ends} {N : L2.St → Hp → Prop} (h : GoesS C W (seqS r k) D) (q : ∀ W' σ' H' ρ O, W.Le W' → BRel C W' ρ O σ' H' → GoesS C W' (k ρ O) D → N σ' H') : GoesS C W r { D with nx := N, ct := N, bk := D.nx } := by
  cases r with
  | none => exact h
  | some r =>
    cases r with
    | nx ρ O => exact fun W' σ' H' le B => q W' σ' H' ρ O le B (GoesS.le le h)
    | rt x O => exact h
    | ex x ρ O => exact h
section
variable {X : Cx} {C : Ctx} {tg iter c : Expr} {body : List Stmt} {h : EvA} {g : EvT} {fb : EvS} {gc : EvB} {pos : Pos} {is : List Nat}
theorem ss_for (hp : PassesOwn (model X.prog X.w) X.A X.env X.xe) (hc : X.calm = true) (hi : PI X tg iter (tI C h)) (hg : PG X tg (tG C g is)) (hb : PSs X body (tS C fb)) (hs : ∀ x, foldedSetIterable iter X.env x = pure x) : PS X (.For tg iter body [] pos) (tS C (evFor h g fb)) := by
  refine PS.mono (ps_for hp hc hi hg hb hs) fun D σ H ⟨W, ρ, O, B, G⟩ => ⟨W, ρ, O, B, goes_lift G fun W1 H1 xs J O1 le1 B1 wk G1 => ?_⟩
  refine ⟨fun i m σ' H' => ∃ W' ρ' O', W1.Le W' ∧ BRel C W' ρ' O' σ' H' ∧ i + m = xs.length ∧ GoesS C W' (loopS g fb (xs.drop i) ρ' O') D, ⟨xs.length, W1, ρ, O1, Wd.Le.refl _, B1, Nat.zero_add _, by rw [List.drop_zero]; exact G1⟩, ?_⟩
  rintro i m σ' H' ⟨W', ρ', O', le, B', em, G'⟩
  by_cases hi : i < xs.length
  · refine .inr ?_
    have ex : xs[i]? = some xs[i] := List.getElem?_eq_getElem hi
    obtain ⟨hgo, hy⟩ := (wk C W' ρ' O' σ' H' rfl le B' i).1 _ ex
    refine ⟨hgo, fun σ2 H2 => ∃ W' ρ' O', W1.Le W' ∧ BRel C W' ρ' O' σ2 H2 ∧ GoesS C W' (loopS g fb (xs.drop (i + 1)) ρ' O') D, ?_, fun v H2 hv => ?_⟩
    · rintro σ2 H2 ⟨W2, ρ2, O2, le2, B2, G2⟩
      exact ⟨m - 1, by omega, W2, ρ2, O2, le2, B2, by omega, G2⟩
    · obtain ⟨W2, le2, B2, R⟩ := hy v H2 hv
      rw [List.drop_eq_getElem_cons hi, loopS] at G'
      cases q : g xs[i] ρ' with
      | none => rw [q] at G'; exact False.elim G'
      | some ρ1 =>
        rw [q] at G'
        refine ⟨W2, ρ', O', xs[i], ρ1, B2, R, q, fun σ3 _ B3 => ⟨W2, ρ1, O', B3, ?_⟩⟩
        exact goesS_seq (GoesS.le le2 G') fun W4 σ4 H4 ρ4 O4 le4 B4 G4 => ⟨W4, ρ4, O4, (le.trans le2).trans le4, B4, G4⟩
  · refine .inl ⟨(wk C W' ρ' O' σ' H' rfl le B' i).2 (by omega), ?_⟩
    rw [List.drop_eq_nil_of_le (by omega), loopS] at G'
    exact G' W' σ' H' (Wd.Le.refl _) B'
theorem ss_while {n : Nat} (hp : PassesOwn (model X.prog X.w) X.A X.env X.xe) (hc : PT X c (tTt C gc)) (hb : PSs X body (tS C fb)) : PS X (.While c body [] pos) (tS C (evWhile gc fb n)) := by
  refine PS.mono (ps_while hp hc hb) fun D σ H ⟨W, ρ, O, B, G⟩ => ?_
  refine ⟨fun m σ' H' => ∃ W' ρ' O', BRel C W' ρ' O' σ' H' ∧ GoesS C W' (evWhile gc fb m ρ' O') D, ⟨n, W, ρ, O, B, G⟩, ?_⟩
  rintro m σ' H' ⟨W', ρ', O', B', G'⟩
  cases m with
  | zero => exact False.elim G'
  | succ m =>
    refine ⟨W', ρ', O', B', goes_lift G' fun W1 H1 b v O1 le1 B1 e1 G1 => ?_⟩
    subst e1
    cases b with
    | true =>
      rw [if_pos rfl]
      refine ⟨fun σ2 H2 => ∃ W' ρ' O', BRel C W' ρ' O' σ2 H2 ∧ GoesS C W' (evWhile gc fb m ρ' O') D, fun σ2 H2 q => ⟨m, Nat.lt_succ_self _, q⟩, W1, ρ', O1, B1, ?_⟩
      exact goesS_seq G1 fun W4 σ4 H4 ρ4 O4 le4 B4 G4 => ⟨W4, ρ4, O4, B4, G4⟩
    | false =>
      rw [if_neg Bool.false_ne_true]
      exact G1 W1 σ' H1 (Wd.Le.refl _) B1
end
end Hw

namespace Hw
open PySem PySem.Spec PyProof.Rows L2

/-! ### calls of defs -/
def strip (o : Addr → Option Ow) : Addr → Option Ow := fun a => match o a with
  | some (.slot _) => none
  | x => x
theorem strip_some {o : Addr → Option Ow} {a : Addr} {w : Ow} (h : strip o a = some w) : o a = some w ∧ w.isSlot = false := by
  unfold strip at h
  split at h
  · cases h
  · rename_i hn
    refine ⟨h, ?_⟩
    cases w with
    | slot i => exact absurd h (hn i)
    | rcd n => rfl
    | fld n f => rfl
theorem strip_of {o : Addr → Option Ow} {a : Addr} {w : Ow} (h : o a = some w) (hw : w.isSlot = false) : strip o a = some w := by
  unfold strip
  split
  · rename_i i e
    rw [h] at e
    cases e
    cases hw
  · exact h
theorem strip_slot {o : Addr → Option Ow} {a : Addr} {i : Nat} (h : o a = some (.slot i)) : strip o a = none := by
  unfold strip
  rw [h]
/-- the wish of a result, from an entry -/
def Fin (D : Adr) (W : Wd) (H : Hp) (r : Option (Rs PV)) (Q : VK) (E : XK) : Prop := match r with
  | none => False
  | some (.ok x O') => ∀ W' H' v, FRel D W H W' O' H' → Rep D W'.F W'.M x v → Q v H'
  | some (.ex x O') => ∀ W' H' c d, FRel D W H W' O' H' → XRep D W' x c d → E c d H'
/-- a def's promise: it gives what the function on data gives -/
def spOf (D : Adr) (n : Nat) (Γ : List PV → Oms → Option (Rs PV)) : Sp := fun vs H Q E =>
  ∃ W O xs, GRel D W O H ∧ (∀ a i, W.own a ≠ some (.slot i)) ∧ Reps D W.F W.M xs vs ∧ xs.length = n ∧ Fin D W H (Γ xs O) Q E
/-- what one's own slots hold, lent -/
def lentF (W : Wd) (H : Hp) : Hp := fun a => match W.own a with
  | some (.slot _) => match H a with
    | some (.lst vs) => some (.lst vs)
    | some (.dK k) => some (.dK k)
    | _ => none
  | _ => W.F a
def lendW (W : Wd) (H : Hp) : Wd := { F := lentF W H, M := W.M, own := strip W.own }
def stripW (W : Wd) : Wd := { W with own := strip W.own }
theorem FRep.flatF {D : Adr} {W W' : Wd} {H : Hp} {w : Ow} {x : PV} {v : V} (r : FRep D W H w x v) (hM : W'.M = W.M) (kT : ∀ a vs, W.F a = some (.tup vs) → W'.F a = some (.tup vs)) (ow : ∀ a, W.own a = some w → W'.own a = some w) : FRep D W' H w x v := by
  cases r with
  | val r hx => exact .val (by rw [hM]; exact r.flat kT hx) hx
  | lst o h z r hx => exact .lst (ow _ o) h z (by rw [hM]; exact r.flat kT hx) hx
  | dic o h z r hx => exact .dic (ow _ o) h z (by rw [hM]; exact r.flat kT hx) hx
section
variable {C : Ctx} {W W' : Wd} {ρ : Loc} {O O' : Oms} {σ : L2.St} {H H' : Hp}
theorem lent_out {a : Addr} (h : ∀ i, W.own a ≠ some (.slot i)) : lentF W H a = W.F a := by
  unfold lentF
  split
  · rename_i i e
    exact absurd e (h i)
  · rfl
theorem lent_le (B : BRel C W ρ O σ H) : FLe W.F (lentF W H) := fun a o e => by
  rw [lent_out fun i z => by rw [(B.f.g.ownF a _ z).1] at e; cases e]
  exact e
theorem lent_lst {a : Addr} {i : Nat} {vs : List V} (h : W.own a = some (.slot i)) (e : H a = some (.lst vs)) : lentF W H a = some (.lst vs) := by
  unfold lentF
  rw [h, e]
theorem lent_dK {a : Addr} {i : Nat} {vs : List (Key × V)} (h : W.own a = some (.slot i)) (e : H a = some (.dK vs)) : lentF W H a = some (.dK vs) := by
  unfold lentF
  rw [h, e]
theorem lent_sub (B : BRel C W ρ O σ H) : FLe (lentF W H) H := fun a o e => by
  unfold lentF at e
  split at e
  · split at e
    · rename_i q; cases e; exact q
    · rename_i q; cases e; exact q
    · cases e
  · exact B.f.g.sub a o e
theorem lent_tup (B : BRel C W ρ O σ H) {a : Addr} {o : HO} {i : Nat} (h : W.own a = some (.slot i)) (e : lentF W H a = some o) : (∃ vs, o = .lst vs) ∨ ∃ k, o = .dK k := by
  unfold lentF at e
  rw [h] at e
  dsimp only at e
  split at e
  · cases e; exact .inl ⟨_, rfl⟩
  · cases e; exact .inr ⟨_, rfl⟩
  · cases e
theorem BRel.stripG (B : BRel C W ρ O σ H) : GRel C.D (stripW W) O H :=
  ⟨B.f.g.sub, fun a w e => B.f.g.ownF a w (strip_some e).1, fun n ob e => (B.f.g.objs n ob e).move (W' := stripW W) ⟨FLe.refl _, MLe.refl _⟩ (fun a w hw e => strip_of e hw) (fun _ _ _ _ => rfl), B.f.g.fresh⟩
theorem BRel.lendG (B : BRel C W ρ O σ H) : GRel C.D (lendW W H) O H :=
  ⟨lent_sub B, fun a w e => by
    obtain ⟨e1, e2⟩ := strip_some e
    obtain ⟨h1, h2⟩ := B.f.g.ownF a w e1
    exact ⟨(lent_out fun i z => by rw [e1] at z; cases z; cases e2).trans h1, h2⟩,
   fun n ob e => (B.f.g.objs n ob e).move (W' := lendW W H) ⟨lent_le B, MLe.refl _⟩ (fun a w hw e => strip_of e hw) (fun _ _ _ _ => rfl), B.f.g.fresh⟩
theorem noslot_strip : ∀ a i, strip W.own a ≠ some (.slot i) := fun a i e => by cases (strip_some e).2
/-- the owners behind a call -/
def backO (W W' : Wd) : Addr → Option Ow := fun a => match W.own a with
  | some (.slot i) => some (.slot i)
  | _ => W'.own a
def backF (W W' : Wd) : Hp := fun a => match W.own a with
  | some (.slot _) => none
  | _ => W'.F a
theorem back_slot {a : Addr} {i : Nat} (h : W.own a = some (.slot i)) : backO W W' a = some (.slot i) := by unfold backO; rw [h]
theorem back_out {a : Addr} (h : ∀ i, W.own a ≠ some (.slot i)) : backO W W' a = W'.own a := by
  unfold backO
  split
  · rename_i i e; exact absurd e (h i)
  · rfl
theorem backF_out {a : Addr} (h : ∀ i, W.own a ≠ some (.slot i)) : backF W W' a = W'.F a := by
  unfold backF
  split
  · rename_i i e; exact absurd e (h i)
  · rfl
theorem slotOr (o : Option Ow) : (∃ i, o = some (.slot i)) ∨ ∀ i, o ≠ some (.slot i) := by
  cases o with
  | none => exact .inr fun i z => by cases z
  | some w =>
    cases w with
    | slot i => exact .inl ⟨i, rfl⟩
    | rcd n => exact .inr fun i z => by cases z
    | fld n f => exact .inr fun i z => by cases z
/-- behind a call: our own again (strict: the result as it is) -/
theorem BRel.back (B : BRel C W ρ O σ H) (F : FRel C.D (stripW W) H W' O' H') : ∃ W2, W.Le W2 ∧ W2.F = W'.F ∧ W2.M = W'.M ∧ BRel C W2 ρ O' σ H' := by
  have keepS : ∀ {a : Addr} {i : Nat}, W.own a = some (.slot i) → H' a = H a ∧ W'.F a = none ∧ W'.own a = none := fun {a i} e => by
    obtain ⟨f1, o, eo⟩ := B.f.g.ownF a _ e
    obtain ⟨q1, q2, q3⟩ := F.fr a o eo
    have es : strip W.own a = none := strip_slot e
    exact ⟨(q3 es).trans eo.symm, q1.trans f1, q2.trans es⟩
  have le : W.Le { F := W'.F, M := W'.M, own := backO W W' } := ⟨F.le.F, F.le.M⟩
  refine ⟨{ F := W'.F, M := W'.M, own := backO W W' }, le, rfl, rfl, ⟨⟨F.g.sub, fun a w e => ?_, fun n ob e => (F.g.objs n ob e).move (W' := { F := W'.F, M := W'.M, own := backO W W' }) ⟨FLe.refl _, MLe.refl _⟩ (fun a w hw e => ?_) (fun _ _ _ _ => rfl), F.g.fresh⟩, B.f.le.trans le, fun a u e => ?_⟩, B.ns, fun i x e => (B.loc i x e).move le (fun a e => back_slot e) (fun a e => (keepS e).1), B.len, B.tmMove le (fun a i _ e => back_slot e) (fun a i _ e => (keepS e).1)⟩
  · have e' : backO W W' a = some w := e
    rcases slotOr (W.own a) with ⟨i, ei⟩ | hn
    · obtain ⟨h1, h2, h3⟩ := keepS ei
      obtain ⟨_, o, eo⟩ := B.f.g.ownF a _ ei
      exact ⟨h2, o, h1.trans eo⟩
    · rw [back_out hn] at e'
      exact F.g.ownF a w e'
  · show backO W W' a = some w
    rcases slotOr (W.own a) with ⟨i, ei⟩ | hn
    · rw [(keepS ei).2.2] at e; cases e
    · rw [back_out hn]; exact e
  · obtain ⟨h1, h2, h3⟩ := B.f.fr a u e
    have nsl : ∀ i, W.own a ≠ some (.slot i) := fun i z => B.ns a i (h2.symm.trans z)
    cases q0 : C.W0.own a with
    | none =>
      have eH := h3 q0
      obtain ⟨q1, q2, q3⟩ := F.fr a u eH
      have es : strip W.own a = W.own a := by
        cases q : W.own a with
        | none => unfold strip; rw [q]
        | some w => rw [h2, q0] at q; cases q
      refine ⟨q1.trans h1, ?_, fun _ => q3 (es.trans (h2.trans q0))⟩
      show backO W W' a = _
      rw [back_out nsl]
      exact (q2.trans es).trans (h2.trans q0)
    | some w =>
      have ew : W.own a = some w := h2.trans q0
      obtain ⟨_, o, eo⟩ := B.f.g.ownF a w ew
      obtain ⟨q1, q2, q3⟩ := F.fr a o eo
      have hw : w.isSlot = false := by
        cases w with
        | slot i => exact absurd ew (nsl i)
        | rcd n => rfl
        | fld n f => rfl
      refine ⟨q1.trans h1, ?_, fun z => by cases z⟩
      show backO W W' a = _
      rw [back_out nsl]
      exact q2.trans (strip_of ew hw)
/-- behind a call to which our own lists were lent -/
theorem BRel.backL (B : BRel C W ρ O σ H) (F : FRel C.D (lendW W H) H W' O' H') : ∃ W2, W.Le W2 ∧ BRel C W2 ρ O' σ H' ∧ W2.M = W'.M ∧ (∀ a vs, W'.F a = some (.tup vs) → W2.F a = some (.tup vs)) ∧ ∀ a fs, W'.F a = some (.xd fs) → W2.F a = some (.xd fs) := by
  have keepS : ∀ {a : Addr} {i : Nat}, W.own a = some (.slot i) → H' a = H a ∧ W'.F a = lentF W H a ∧ W'.own a = none := fun {a i} e => by
    obtain ⟨f1, o, eo⟩ := B.f.g.ownF a _ e
    obtain ⟨q1, q2, q3⟩ := F.fr a o eo
    have es : strip W.own a = none := strip_slot e
    exact ⟨(q3 es).trans eo.symm, q1, q2.trans es⟩
  have kF : ∀ a o, (∀ vs, o ≠ .lst vs) → (∀ k, o ≠ .dK k) → W'.F a = some o → backF W W' a = some o := fun a o n1 n2 e => by
    rcases slotOr (W.own a) with ⟨i, ei⟩ | hn
    · rw [(keepS ei).2.1] at e
      rcases lent_tup B ei e with ⟨vs, z⟩ | ⟨k, z⟩
      · exact absurd z (n1 vs)
      · exact absurd z (n2 k)
    · rw [backF_out hn]; exact e
  have leF : FLe W.F (backF W W') := fun a o e => by
    rw [backF_out fun i z => by rw [(B.f.g.ownF a _ z).1] at e; cases e]
    exact F.le.F a o (lent_le B a o e)
  have le : W.Le { F := backF W W', M := W'.M, own := backO W W' } := ⟨leF, F.le.M⟩
  have kT : ∀ a vs, W'.F a = some (.tup vs) → backF W W' a = some (.tup vs) := fun a vs => kF a _ (fun _ z => nomatch z) (fun _ z => nomatch z)
  have leB : FLe (backF W W') W'.F := fun a o e => by
    rcases slotOr (W.own a) with ⟨i, ei⟩ | hn
    · unfold backF at e; rw [ei] at e; cases e
    · rw [backF_out hn] at e; exact e
  have ow : ∀ a w, w.isSlot = false → W'.own a = some w → backO W W' a = some w := fun a w hw e => by
    rcases slotOr (W.own a) with ⟨i, ei⟩ | hn
    · rw [(keepS ei).2.2] at e; cases e
    · rw [back_out hn]; exact e
  refine ⟨{ F := backF W W', M := W'.M, own := backO W W' }, le, ⟨⟨⟨leB.trans F.g.sub, fun a w e => ?_, fun n ob e => ?_, F.g.fresh⟩, B.f.le.trans le, fun a u e => ?_⟩, B.ns, fun i x e => (B.loc i x e).move le (fun a e => back_slot e) (fun a e => (keepS e).1), B.len, B.tmMove le (fun a i _ e => back_slot e) (fun a i _ e => (keepS e).1)⟩, rfl, kT, fun a fs => kF a _ (fun _ z => nomatch z) (fun _ z => nomatch z)⟩
  · have e' : backO W W' a = some w := e
    rcases slotOr (W.own a) with ⟨i, ei⟩ | hn
    · obtain ⟨h1, h2, h3⟩ := keepS ei
      obtain ⟨_, o, eo⟩ := B.f.g.ownF a _ ei
      exact ⟨by show backF W W' a = none; unfold backF; rw [ei], o, h1.trans eo⟩
    · rw [back_out hn] at e'
      obtain ⟨h1, h2⟩ := F.g.ownF a w e'
      exact ⟨by show backF W W' a = none; rw [backF_out hn]; exact h1, h2⟩
  · obtain ⟨a, dx, hfs, h1, h2, h3, h4⟩ := F.g.objs n ob e
    exact ⟨a, dx, hfs, h1, ow a _ rfl h2, h3, paired_imp h4 fun p q z => ⟨z.1, z.2.flatF (W' := { F := backF W W', M := W'.M, own := backO W W' }) rfl kT (fun a => ow a _ rfl)⟩⟩
  · obtain ⟨h1, h2, h3⟩ := B.f.fr a u e
    have nsl : ∀ i, W.own a ≠ some (.slot i) := fun i z => B.ns a i (h2.symm.trans z)
    have e1 : lentF W H a = W.F a := lent_out nsl
    cases q0 : C.W0.own a with
    | none =>
      have eH := h3 q0
      obtain ⟨q1, q2, q3⟩ := F.fr a u eH
      have es : strip W.own a = W.own a := by
        cases q : W.own a with
        | none => unfold strip; rw [q]
        | some w => rw [h2, q0] at q; cases q
      refine ⟨?_, ?_, fun _ => q3 (es.trans (h2.trans q0))⟩
      · show backF W W' a = _
        rw [backF_out nsl]
        exact (q1.trans e1).trans h1
      · show backO W W' a = _
        rw [back_out nsl]
        exact (q2.trans es).trans (h2.trans q0)
    | some w =>
      have ew : W.own a = some w := h2.trans q0
      obtain ⟨_, o, eo⟩ := B.f.g.ownF a w ew
      obtain ⟨q1, q2, q3⟩ := F.fr a o eo
      have hw : w.isSlot = false := by
        cases w with
        | slot i => exact absurd ew (nsl i)
        | rcd n => rfl
        | fld n f => rfl
      refine ⟨?_, ?_, fun z => by cases z⟩
      · show backF W W' a = _
        rw [backF_out nsl]
        exact (q1.trans e1).trans h1
      · show backO W W' a = _
        rw [back_out nsl]
        exact q2.trans (strip_of ew hw)
theorem LReps.lent (B : BRel C W ρ O σ H) : ∀ {xs : List PV} {vs : List V}, LReps C W ρ σ xs vs → Reps C.D (lentF W H) W.M xs vs
  | _, _, .nil => .nil
  | _, _, .cons r t => by
    refine .cons ?_ (LReps.lent B t)
    cases r with
    | rep q => exact q.mono (lent_le B) (MLe.refl _)
    | own e q =>
      obtain ⟨a, rfl, oa⟩ := B.own e q
      cases oa with
      | lst o n h z q2 => exact .lst (.inl (.inl (lent_lst o h))) z (q2.mono (lent_le B) (MLe.refl _))
    | ownd e q =>
      obtain ⟨a, rfl, oa⟩ := B.ownd e q
      cases oa with
      | dic o n h k q2 => exact .dic (lent_dK o h) k (q2.mono (lent_le B) (MLe.refl _))
end
/-- the wish of exceptions at the slots -/
abbrev Ctx.E (C : Ctx) (σ : L2.St) : XK := fun c d H => C.EX c d σ H
def evCall (Γ : List PV → Oms → Option (Rs PV)) (g : EvA) : Ev := fun ρ O => bnd (g ρ O) fun xs O1 => Γ xs O1
/-- a result that holds no list -/
def flatR (r : Option (Rs PV)) : Option (Rs PV) := match r with
  | some (.ok x O) => if flat x = true then some (.ok x O) else none
  | r => r
def evCallL (Γ : List PV → Oms → Option (Rs PV)) (g : EvA) : Ev := fun ρ O => bnd (g ρ O) fun xs O1 => flatR (Γ xs O1)
section
variable {C : Ctx} {W : Wd} {ρ : Loc} {O : Oms} {σ : L2.St} {H : Hp} {n : Nat} {Γ : List PV → Oms → Option (Rs PV)} {xs : List PV} {vs : List V} {Q : VK}
theorem sp_call (B : BRel C W ρ O σ H) (r : Reps C.D W.F W.M xs vs) (hn : xs.length = n) (G : Goes C (RS C) W ρ σ (Γ xs O) Q) : spOf C.D n Γ vs H Q (C.E σ) := by
  refine ⟨stripW W, O, xs, B.stripG, noslot_strip, r, hn, ?_⟩
  unfold Fin
  cases q : Γ xs O with
  | none => rw [q] at G; exact G
  | some rs =>
    rw [q] at G
    cases rs with
    | ok x O' =>
      intro W' H' v F R
      obtain ⟨W2, le, e1, e2, B2⟩ := B.back F
      exact G W2 H' v le B2 (by show Rep C.D W2.F W2.M _ v; rw [e1, e2]; exact R)
    | ex x O' =>
      intro W' H' c d F R
      obtain ⟨W2, le, e1, e2, B2⟩ := B.back F
      refine G W2 H' c d le B2 ⟨R.1, ?_⟩
      have := R.2
      rw [e1]
      exact this
theorem sp_callL (B : BRel C W ρ O σ H) (r : LReps C W ρ σ xs vs) (hn : xs.length = n) (G : Goes C (RS C) W ρ σ (flatR (Γ xs O)) Q) : spOf C.D n Γ vs H Q (C.E σ) := by
  refine ⟨lendW W H, O, xs, B.lendG, noslot_strip, r.lent B, hn, ?_⟩
  unfold Fin
  unfold flatR at G
  cases q : Γ xs O with
  | none => rw [q] at G; exact G
  | some rs =>
    rw [q] at G
    cases rs with
    | ok x O' =>
      dsimp only at G ⊢
      by_cases hf : flat x = true
      · rw [if_pos hf] at G
        intro W' H' v F R
        obtain ⟨W2, le, B2, e2, kT, _⟩ := B.backL F
        exact G W2 H' v le B2 (by show Rep C.D W2.F W2.M _ v; rw [e2]; exact R.flat kT hf)
      · rw [if_neg hf] at G; exact False.elim G
    | ex x O' =>
      intro W' H' c d F R
      obtain ⟨W2, le, B2, e2, _, kX⟩ := B.backL F
      refine G W2 H' c d le B2 ⟨R.1, ?_⟩
      have h2 := R.2
      cases x with
      | mk xc xk =>
        cases xk with
        | none => exact h2
        | some k =>
          obtain ⟨dx, e3, e4⟩ := h2
          exact ⟨dx, e3, kX _ _ e4⟩
end
section
variable {X : Cx} {C : Ctx} {k : Nat} {f : Addr} {fd : FuncData} {ps : List Str} {x : Str} {p pos : Pos} {e : Expr} {es : List Expr} {n : Nat} {Γ : List PV → Oms → Option (Rs PV)} {g : EvA}
theorem sx_call (F : FnOk X.prog X.w X.K X.mg X.base (L2.CX X.prog X.w) k f fd ps (spOf C.D n Γ)) (hr : Room k X.A) (hg : Gl X x) (hm : X.mg x = some (.ref f)) (hk : PySem.W.keepIn X.K (.ref f) = true) (hb : Binds X.K fd ps []) (tk : Takes X C.EX)
    (ha : PA X (e :: es) (tXs C g)) (hdb : (x == ("__debug__" : Str)) = false) (hs : notStars (e :: es) = true) (hn : ∀ ρ O xs O', g ρ O = some (.ok xs O') → xs.length = n) : PE X (.Call (.Name x p) (e :: es) [] pos) (tX C (evCall Γ g)) := by
  simp only [notStars, Bool.and_eq_true] at hs
  refine PE.mono (pe_callSD (E := C.E) F hr hg hm hk hb .nil (fun σ => passAt tk σ) ha hdb (notStar_ok hs.1) (notStars_any hs.2)) fun σ H Q ⟨W, ρ, O, B, G⟩ => ⟨W, ρ, O, B, ?_⟩
  cases q : g ρ O with
  | none => rw [evCall, q] at G; exact G
  | some r =>
    cases r with
    | ok xs O1 =>
      rw [evCall, q] at G
      intro W' H' v le B' R
      rw [List.append_nil]
      exact sp_call B' R (hn ρ O xs O1 q) (Goes.le le G)
    | ex y O1 =>
      rw [evCall, q] at G
      exact G
theorem sx_callL (F : FnOk X.prog X.w X.K X.mg X.base (L2.CX X.prog X.w) k f fd ps (spOf C.D n Γ)) (hr : Room k X.A) (hg : Gl X x) (hm : X.mg x = some (.ref f)) (hk : PySem.W.keepIn X.K (.ref f) = true) (hb : Binds X.K fd ps []) (tk : Takes X C.EX)
    (ha : PA X (e :: es) (tLs C g)) (hdb : (x == ("__debug__" : Str)) = false) (hs : notStars (e :: es) = true) (hn : ∀ ρ O xs O', g ρ O = some (.ok xs O') → xs.length = n) : PE X (.Call (.Name x p) (e :: es) [] pos) (tX C (evCallL Γ g)) := by
  simp only [notStars, Bool.and_eq_true] at hs
  refine PE.mono (pe_callSD (E := C.E) F hr hg hm hk hb .nil (fun σ => passAt tk σ) ha hdb (notStar_ok hs.1) (notStars_any hs.2)) fun σ H Q ⟨W, ρ, O, B, G⟩ => ⟨W, ρ, O, B, ?_⟩
  cases q : g ρ O with
  | none => rw [evCallL, q] at G; exact G
  | some r =>
    cases r with
    | ok xs O1 =>
      rw [evCallL, q] at G
      intro W' H' v le B' R
      rw [List.append_nil]
      exact sp_callL B' R (hn ρ O xs O1 q) (Goes.le le G)
    | ex y O1 =>
      rw [evCallL, q] at G
      exact G
end
/-! ### a def's own body -/
def evFun (fb : EvS) (m : Nat) : List PV → Oms → Option (Rs PV) := fun xs O => match fb (xs.map some ++ List.replicate (m - xs.length) none) O with
  | some (.nx _ O') => some (.ok .non O')
  | some (.rt x O') => some (.ok x O')
  | some (.ex x _ O') => some (.ex x O')
  | none => none
/-- the run's beginning -/
theorem BRel.start {D : Adr} {W : Wd} {O : Oms} {H : Hp} {EX : WX} {N : List Str} {xs : List PV} {vs : List V} (g : GRel D W O H) (ns : ∀ a i, W.own a ≠ some (.slot i)) (r : Reps D W.F W.M xs vs) (hl : xs.length ≤ N.length) :
    BRel ⟨D, W, H, EX, [], N.length⟩ W (xs.map some ++ List.replicate (N.length - xs.length) none) O (L2.start N vs) H := by
  refine ⟨⟨g, Wd.Le.refl _, fun a o e => ⟨rfl, rfl, fun _ => e⟩⟩, ns, fun i x e => ?_, ?_, ?_, fun t ht => nomatch ht⟩
  rotate_left 2
  · rw [List.length_append, List.length_map, List.length_replicate]
    show _ ≤ N.length
    omega
  · by_cases hi : i < xs.length
    · rw [List.getElem?_append_left (by rw [List.length_map]; exact hi), List.getElem?_map] at e
      cases q : xs[i]? with
      | none => rw [q] at e; cases e
      | some y =>
        rw [q] at e
        cases e
        obtain ⟨v, e1, R⟩ := r.get q
        refine .sh ?_ R
        unfold L2.start
        rw [List.getElem?_append_left (by rw [List.length_map, ← r.length]; exact hi), List.getElem?_map, e1]
        rfl
    · rw [List.getElem?_append_right (by rw [List.length_map]; omega)] at e
      have := List.mem_of_getElem? e
      rw [List.mem_replicate] at this
      cases this.2
  · unfold L2.start
    rw [List.length_append, List.length_append, List.length_map, List.length_map, List.length_replicate, List.length_replicate, r.length]
theorem fn_body {P : Program} {w : World} {K : PySem.W.Frag} {mg : Str → Option Value} {base : Heap} {x qual : Str} {st : Stmt} {f : Addr} {fd : FuncData} {N ps : List Str} {k : Nat} {D : Adr} {fb : EvS} {n : Nat} (F : Fun K x qual st f fd) (S : FnScope N ps (defScope st)) (hn : ps.length = n) (hnN : n ≤ N.length)
    (hbody : ∀ (cdv : Value) (A : Around) (outer : List Env) (s : Shared) (W : Wd) (H : Hp) (E : XK), Room k (A.deeper (envOfC qual (defScope st) s.heap.objs.size f cdv)) →
      PSs (cxOf (L2.CX P w) P w K mg base N qual (defScope st) f cdv A outer s H E) (defBody st) (tS ⟨D, W, H, fun c d _ H' => E c d H', [], N.length⟩ fb)) :
    FnOk P w K mg base (L2.CX P w) (k + 1) f fd ps (spOf D n (evFun fb N.length)) := by
  refine F.okX S (fun vs H Q E ⟨W, O, xs, _, _, r, hl, _⟩ => by rw [hn, ← hl, r.length]) (fun cdv A outer s H vs Q E hr h => ?_)
  obtain ⟨W, O, xs, g, ns, r, hl, fin⟩ := h
  refine ⟨_, hbody cdv A outer s W H E hr, W, _, O, BRel.start (N := N) g ns r (by omega), ?_⟩
  unfold Fin evFun at fin
  cases q : fb (xs.map some ++ List.replicate (N.length - xs.length) none) O with
  | none => rw [q] at fin; exact fin
  | some so =>
    rw [q] at fin
    cases so with
    | nx ρ' O' => exact fun W' σ' H' le B' => fin W' H' .non B'.f .non
    | rt y O' => exact fin
    | ex y ρ' O' => exact fun W' σ' H' c d B' R => fin W' H' c d B'.f R
end Hw

namespace Hw
open PySem PySem.Spec PyProof.Rows L2

/-! ### what is walked -/
section
variable {W : Wd}
theorem wk_seqL {D : Adr} {a : Addr} {xs : List PV} {vs : List V} (h : SqL D.K W.F a vs) (r : Reps D W.F W.M xs vs) : Wk D (Itl D.K a) xs W := by
  intro C W' ρ O σ H e0 le B i
  subst e0
  have hS : SqL C.D.K H a vs := sqL_mono (le.F.trans B.f.g.sub) h
  refine ⟨fun x e => ?_, fun hi => ⟨vs, hS, by rw [← r.length]; exact Nat.le_of_eq hi.symm⟩⟩
  obtain ⟨v, e1, R⟩ := r.get e
  refine ⟨⟨vs, v, hS, e1⟩, fun v' H' hy => ?_⟩
  obtain ⟨rfl, hv⟩ := hy
  have := hv vs hS
  rw [e1] at this
  cases this
  exact ⟨W', Wd.Le.refl _, B, R.mono le.F le.M⟩
theorem wk_seqT {D : Adr} {a : Addr} {xs : List PV} {vs : List V} (h : TAt D W.F a vs) (r : Reps D W.F W.M xs vs) : Wk D (Itt D.K a) xs W := by
  intro C W' ρ O σ H e0 le B i
  subst e0
  have hS : SqT C.D.K H a vs := sqT_mono (le.F.trans B.f.g.sub) h.sq
  refine ⟨fun x e => ?_, fun hi => ⟨vs, hS, by rw [← r.length]; exact Nat.le_of_eq hi.symm⟩⟩
  obtain ⟨v, e1, R⟩ := r.get e
  refine ⟨⟨vs, v, hS, e1⟩, fun v' H' hy => ?_⟩
  obtain ⟨rfl, hv⟩ := hy
  have := hv vs hS
  rw [e1] at this
  cases this
  exact ⟨W', Wd.Le.refl _, B, R.mono le.F le.M⟩
def rangeL (lo : Int) (n : Nat) : List PV := (List.range n).map fun k => .int (lo + (k : Nat))
theorem wk_range {D : Adr} {lo : Int} {n : Nat} : Wk D (Itr lo n) (rangeL lo n) W := by
  intro C W' ρ O σ H e0 le B i
  have hl : (rangeL lo n).length = n := by unfold rangeL; rw [List.length_map, List.length_range]
  refine ⟨fun x e => ?_, fun hi => by rw [hl] at hi; exact Nat.le_of_eq hi.symm⟩
  have hi : i < n := by
    have := (List.getElem?_eq_some_iff.mp e).1
    rw [hl] at this
    exact this
  refine ⟨hi, fun v H' hy => ?_⟩
  obtain ⟨rfl, rfl⟩ := hy
  unfold rangeL at e
  rw [List.getElem?_map, List.getElem?_range hi] at e
  cases e
  exact ⟨W', Wd.Le.refl _, B, .int _⟩
end
theorem PI.mono {X : Cx} {tg e : Expr} {t t' : TI} (h : PI X tg e t) (k : ∀ σ H Q, t' σ H Q → t σ H Q) : PI X tg e t' := ⟨fun pins s σ H Q I q => h.run pins s σ H Q I (k σ H Q q)⟩
def toSeq : PV → Option (List PV)
  | .lst xs => some xs
  | .tup xs => some xs
  | .str s => some (s.cps.toList.map fun c => .str ⟨#[c]⟩)
  | _ => none
def evSeqI (f : Ev) : EvA := fun ρ O => bnd (f ρ O) fun x O1 => ret (toSeq x) O1
noncomputable def small62 (i : Int) : Bool := yes (-(2 ^ 62) ≤ i ∧ i < 2 ^ 62)
noncomputable def toR1 : List PV → Option (List PV)
  | [.int j] => if small62 j = true then some (rangeL 0 j.toNat) else none
  | _ => none
noncomputable def toR2 : List PV → Option (List PV)
  | [.int i, .int j] => if small62 i = true ∧ small62 j = true then some (rangeL i (j - i).toNat) else none
  | _ => none
def evRng (p : List PV → Option (List PV)) (g : EvA) : EvA := fun ρ O => bnd (g ρ O) fun xs O1 => ret (p xs) O1
section
variable {X : Cx} {C : Ctx} {tg e a b : Expr} {f : Ev} {g : EvA} {p pos : Pos}
theorem si_seq (hK : X.K = C.D.K) (he : PE X e (tX C f)) : PI X tg e (tI C (evSeqI f)) := by
  refine ⟨fun pins s σ H R I ⟨W, ρ, O, B, G⟩ => ?_⟩
  -- the value's kind is read off the function on data
  cases q : f ρ O with
  | none =>
    rw [evSeqI, q] at G
    exact False.elim G
  | some r =>
    cases r with
    | ex x O1 =>
      rw [evSeqI, q] at G
      have G' : Goes C (RS C) W ρ σ (f ρ O) fun _ _ => False := by rw [q]; exact G
      exact wpAny_mono (he.run pins s σ H (fun _ _ => False) I ⟨W, ρ, O, B, G'⟩) (fun _ _ ⟨_, _, _, _, z⟩ => z.elim) fun _ _ z => z
    | ok x O1 =>
      rw [evSeqI, q] at G
      cases x with
      | lst xs =>
        refine (pi_list he).run pins s σ H R I ⟨W, ρ, O, B, ?_⟩
        rw [q]
        intro W' H' v le B' Rr
        cases Rr with
        | lst h z r => exact ⟨_, rfl, by rw [hK]; exact ⟨_, sqL_mono B'.f.g.sub h⟩, by rw [hK]; exact G W' H' _ le B' (wk_seqL h r)⟩
      | tup xs =>
        refine (pi_tup he).run pins s σ H R I ⟨W, ρ, O, B, ?_⟩
        rw [q]
        intro W' H' v le B' Rr
        cases Rr with
        | tup h z r => exact ⟨_, rfl, by rw [hK]; exact ⟨_, sqT_mono B'.f.g.sub h.sq⟩, by rw [hK]; exact G W' H' _ le B' (wk_seqT h r)⟩
      | str s0 =>
        refine (pi_str he).run pins s σ H R I ⟨W, ρ, O, B, ?_⟩
        rw [q]
        intro W' H' v le B' Rr
        cases Rr with
        | str s1 =>
          refine ⟨_, rfl, G W' H' _ le B' ?_⟩
          intro C2 W2 ρ2 O2 σ2 H2 e0 le2 B2 i
          refine ⟨fun x e => ?_, fun hi => by rw [List.length_map, Array.length_toList] at hi; exact Nat.le_of_eq hi.symm⟩
          have hi : i < s0.cps.size := by
            have := (List.getElem?_eq_some_iff.mp e).1
            rw [List.length_map, Array.length_toList] at this
            exact this
          refine ⟨hi, fun v H3 hy => ?_⟩
          obtain ⟨rfl, c, hc, rfl⟩ := hy
          rw [List.getElem?_map, Array.getElem?_toList, hc] at e
          cases e
          exact ⟨W2, Wd.Le.refl _, B2, .str _⟩
      | _ => exact False.elim G
theorem sm62 {i : Int} (h : small62 i = true) : -(2 ^ 62) ≤ i ∧ i < 2 ^ 62 := yes_of h
theorem si_range1 (hg : Gl X "range") (hm : X.mg "range" = none) (ha : PA X [a] (tLs C g)) (hs : notStar a = true) : PI X tg (.Call (.Name "range" p) [a] [] pos) (tI C (evRng toR1 g)) := by
  have hs' : starEach [a] X.env = [(false, eval a X.env)] := notStar_ok hs
  refine PI.mono (pi_range1 hg hm ha hs') fun σ H R ⟨W, ρ, O, B, G⟩ => ⟨W, ρ, O, B, goes_bnd G fun W1 H1 xs vs O1 le1 B1 Rx G1 => ?_⟩
  obtain ⟨ys, e, q⟩ := goes_ret G1
  unfold toR1 at e
  split at e
  · obtain ⟨hj, rfl⟩ := ite_some e
    obtain ⟨v, rfl, r⟩ := Rx.one
    obtain ⟨h1, h2⟩ := sm62 hj
    exact ⟨_, by rw [r.int B1], h1, h2, q W1 H1 _ (Wd.Le.refl _) B1 wk_range⟩
  · cases e
theorem si_range2 (hg : Gl X "range") (hm : X.mg "range" = none) (ha : PA X [a, b] (tLs C g)) (hs : notStar a = true) (hs2 : notStar b = true) : PI X tg (.Call (.Name "range" p) [a, b] [] pos) (tI C (evRng toR2 g)) := by
  have hb : starEach [b] X.env = [(false, eval b X.env)] := notStar_ok hs2
  have ha' : starEach [a, b] X.env = [(false, eval a X.env), (false, eval b X.env)] := by rw [notStar_ok hs, hb]
  refine PI.mono (pi_range2 hg hm ha ha' hb) fun σ H R ⟨W, ρ, O, B, G⟩ => ⟨W, ρ, O, B, goes_bnd G fun W1 H1 xs vs O1 le1 B1 Rx G1 => ?_⟩
  obtain ⟨ys, e, q⟩ := goes_ret G1
  unfold toR2 at e
  split at e
  · obtain ⟨⟨hi, hj⟩, rfl⟩ := ite_some e
    obtain ⟨v, u, rfl, r1, r2⟩ := Rx.two
    obtain ⟨h1, h2⟩ := sm62 hi
    obtain ⟨h3, h4⟩ := sm62 hj
    exact ⟨_, _, by rw [r1.int B1, r2.int B1], ⟨h1, h2, h3, h4⟩, q W1 H1 _ (Wd.Le.refl _) B1 wk_range⟩
  · cases e
end
/-! ### isinstance -/
inductive Tg0 where
  | non | bl | int | str | lst | tup | dic | ob (c : Nat)
  deriving DecidableEq
def tagOf (O : Oms) : PV → Option Tg0
  | .non => some .non
  | .bl _ => some .bl
  | .int _ => some .int
  | .str _ => some .str
  | .lst _ => some .lst
  | .tup _ => some .tup
  | .dic _ _ => some .dic
  | .obj n => O[n]?.map fun ob => .ob ob.cls
  | _ => none
def tagV (D : Adr) : Tg0 → Value
  | .non => .type "NoneType"
  | .bl => .type "bool"
  | .int => .type "int"
  | .str => .type "str"
  | .lst => .type "list"
  | .tup => .type "tuple"
  | .dic => .type "dict"
  | .ob c => .ref (D.cad c)
/-- what of the text a class of instances must have for isinstance -/
structure IsiC (K : PySem.W.Frag) (C : Addr) : Prop where
  cl : Cls K C
  ha : PySem.W.findIn K (.ref C) "__class__" = some (some (.builtin "object.__class__"))
  hn : PySem.W.specialIn K (.builtin "object.__class__") "__get__" = some (some (.builtin "getset_descriptor.__get__"))
  htk : PySem.W.takesIn K (.builtin "object.__class__") = some true
  hm : PySem.W.mroIn K C (.type "object") = some true
theorem LRep.tag {C : Ctx} {W : Wd} {ρ : Loc} {O : Oms} {σ : L2.St} {H : Hp} (B : BRel C W ρ O σ H) {x : PV} {v : V} {t : Tg0} (hc : ∀ c, t = .ob c → IsiC C.D.K (C.D.cad c)) (r : LRep C W ρ σ x v) (e : tagOf O x = some t) : TyX C.D.K H v (tagV C.D t) := by
  rcases r.cases B with q | ⟨i, a, rfl, q⟩
  · cases q with
    | non => cases e; exact .base .non
    | bl b => cases e; exact .base (.bl b)
    | int i => cases e; exact .base (.int i)
    | str s => cases e; exact .base (.str s)
    | tup h z r =>
      cases e
      exact .base (.tup (B.f.g.sub _ _ h))
    | lst h z r =>
      cases e
      rcases h with (h | ⟨o, h⟩) | ⟨o, its, n, h1, h2, h3⟩
      · exact .base (.lst (B.f.g.sub _ _ h))
      · exact .base (.frz (B.f.g.sub _ _ h))
      · exact .kList h1 h2
    | dic h k r => cases e; exact .base (.dK (B.f.g.sub _ _ h))
    | @obj n a h =>
      have e : (O[n]?).map (fun ob => Tg0.ob ob.cls) = some t := e
      cases q : O[n]? with
      | none => rw [q] at e; cases e
      | some ob =>
        rw [q] at e
        cases e
        obtain ⟨a', dx, hfs, h1, h2, h3, h4⟩ := B.f.g.objs n ob q
        rw [h] at h1
        cases h1
        obtain ⟨cl, ha, hn, htk, hm⟩ := hc _ rfl
        exact .base (.ins h3 cl ha hn htk hm)
  · cases x <;> cases q
    case lst.lst o n h z r => cases e; exact .base (.lst ‹_›)
    case dic.dic o n h z r => cases e; exact .base (.dK ‹_›)
    all_goals cases e
def evIsi (f : Tg0 → Option Bool) (g : Ev) : EvB := fun ρ O => bnd (g ρ O) fun x O1 => ret ((tagOf O1 x).bind f) O1
/-- a class by its name, and what isinstance says of it -/
structure ClsF (D : Adr) (K : PySem.W.Frag) (mg : Str → Option Value) (x : Str) (f : Tg0 → Option Bool) : Prop where
  nm : (∃ n, mg x = none ∧ bootBuiltins x = some (.type n) ∧ ∀ t b, f t = some b → PySem.W.kitOne K (tagV D t) (.type n) = some b) ∨ (∃ c : Addr, mg x = some (.ref c) ∧ ∀ t b, f t = some b → PySem.W.kitOne K (tagV D t) (.ref c) = some b)
  ob : ∀ c b, f (.ob c) = some b → IsiC K (D.cad c)
theorem sx_isi {X : Cx} {C : Ctx} {e : Expr} {x : Str} {g : Ev} {f : Tg0 → Option Bool} {p p2 pos : Pos} (hK : X.K = C.D.K) (hg : Gl X "isinstance") (hm : X.mg "isinstance" = none) (hx : Gl X x) (F : ClsF C.D X.K X.mg x f) (he : PE X e (tL C g)) (hs : notStar e = true) (hn : x ≠ "__name__") (hd : (x == ("__debug__" : Str)) = false) :
    PE X (.Call (.Name "isinstance" p) [e, .Name x p2] [] pos) (tX C (evBl (evIsi f g))) := by
  obtain ⟨c, u, hc, kc, hf⟩ : ∃ (c : V) (u : Value), PE X (.Name x p2) (tC c) ∧ ClsV c u ∧ ∀ t b, f t = some b → PySem.W.kitOne X.K (tagV C.D t) u = some b := by
    rcases F.nm with ⟨n, h1, h2, h3⟩ | ⟨c, h1, h3⟩
    · exact ⟨.ty n, .type n, pe_bltn hx h1 h2 rfl hn hd, .ty n, h3⟩
    · exact ⟨.ref c, .ref c, pe_glob hx h1 rfl hd, .own c, h3⟩
  have hpl : (backTo pos (starEach [.Name x p2] X.env)).any (·.1) = false := rfl
  refine PE.mono (pe_callB call_isi hg hm boot_isinstance (pa_cons he (pa_cons hc pa_nil) (notStar_ok hs)) (by decide) (by decide) (notStar_ok hs) hpl) fun σ H Q ⟨W, ρ, O, B, G⟩ => ⟨W, ρ, O, B, ?_⟩
  have e2 : evBl (evIsi f g) ρ O = bnd (g ρ O) fun x O1 => bnd (ret ((tagOf O1 x).bind f) O1) fun b O2 => some (.ok (.bl b) O2) := by
    unfold evBl evIsi
    cases g ρ O with
    | none => rfl
    | some r => cases r <;> rfl
  rw [e2] at G
  refine goes_bnd G fun W1 H1 y v O1 le1 B1 Rx G1 => ?_
  cases q : tagOf O1 y with
  | none => rw [q] at G1; exact False.elim G1
  | some t =>
    rw [q] at G1
    cases q2 : f t with
    | none =>
      have : (some t).bind f = none := q2
      rw [this] at G1
      exact False.elim G1
    | some b =>
      have : (some t).bind f = some b := q2
      rw [this] at G1
      exact ⟨v, c, tagV C.D t, u, b, rfl, kc, by rw [hK]; exact Rx.tag B1 (fun c hc => by rw [← hK]; exact F.ob c b (by rw [← hc]; exact q2)) q, hf t b q2, G1 W1 H1 _ (Wd.Le.refl _) B1 (.bl b)⟩
theorem sx_ofB {X : Cx} {C : Ctx} {e : Expr} {g : Ev} (he : PE X e (tX C g)) : PE X e (tX C (evBl (evOfB g))) := by
  refine PE.mono he fun σ H Q ⟨W, ρ, O, B, G⟩ => ⟨W, ρ, O, B, ?_⟩
  unfold evBl evOfB at G
  cases q : g ρ O with
  | none => rw [q] at G; exact G
  | some r =>
    rw [q] at G
    cases r with
    | ex x O1 => exact G
    | ok x O1 =>
      cases x with
      | bl b => exact G
      | _ => exact False.elim G
end Hw

namespace Hw
open PySem PySem.Spec PyProof.Rows L2

/-! ### list comprehensions -/
def wipeP (ρ : Loc) : List Nat → Loc
  | [] => ρ
  | v :: vs => (wipeP ρ vs).set v none
theorem wipeP_len (ρ : Loc) : ∀ vs : List Nat, (wipeP ρ vs).length = ρ.length
  | [] => rfl
  | v :: vs => by unfold wipeP; rw [List.length_set, wipeP_len ρ vs]
theorem wipeP_out {ρ : Loc} {i : Nat} : ∀ {vs : List Nat}, i ∉ vs → (wipeP ρ vs)[i]? = ρ[i]?
  | [], _ => rfl
  | v :: vs, h => by
    rw [List.mem_cons, not_or] at h
    unfold wipeP
    rw [List.getElem?_set_ne (Ne.symm h.1)]
    exact wipeP_out h.2
theorem wipeP_in {ρ : Loc} {i : Nat} : ∀ {vs : List Nat}, i ∈ vs → i < ρ.length → (wipeP ρ vs)[i]? = some none
  | v :: vs, h, hi => by
    unfold wipeP
    by_cases hv : v = i
    · subst hv
      exact List.getElem?_set_self (by rw [wipeP_len]; exact hi)
    · rw [List.getElem?_set_ne hv]
      exact wipeP_in ((List.mem_cons.mp h).resolve_left (Ne.symm hv)) hi
theorem wipeP_some {ρ : Loc} {i : Nat} {x : PV} {vs : List Nat} (h : (wipeP ρ vs)[i]? = some (some x)) : ρ[i]? = some (some x) ∧ i ∉ vs := by
  by_cases hv : i ∈ vs
  · have hi : i < ρ.length := by rw [← wipeP_len ρ vs]; exact (List.getElem?_eq_some_iff.mp h).1
    rw [wipeP_in hv hi] at h
    cases h
  · rw [wipeP_out hv] at h
    exact ⟨h, hv⟩
theorem wipe_in {σ : L2.St} {i : Nat} : ∀ {vs : List Nat}, i ∈ vs → i < σ.length → (wipe σ vs)[i]? = some none
  | v :: vs, h, hi => by
    unfold wipe
    by_cases hv : v = i
    · subst hv
      exact List.getElem?_set_self (by rw [wipe_length]; exact hi)
    · rw [List.getElem?_set_ne hv]
      exact wipe_in ((List.mem_cons.mp h).resolve_left (Ne.symm hv)) hi
theorem wipe_but {σ σ' : L2.St} {is vs : List Nat} (h : But is (wipe σ vs) σ') (hs : ∀ i ∈ is, i ∈ vs) : wipe σ' vs = wipe σ vs := by
  have hl : σ'.length = σ.length := h.1.trans (wipe_length σ vs)
  refine List.ext_getElem? fun j => ?_
  by_cases hj : j ∈ vs
  · by_cases hi : j < σ.length
    · rw [wipe_in hj hi, wipe_in hj (by rw [hl]; exact hi)]
    · rw [List.getElem?_eq_none (by rw [wipe_length, hl]; omega), List.getElem?_eq_none (by rw [wipe_length]; omega)]
  · rw [wipe_out hj, wipe_out hj, h.2 j fun z => hj (hs j z)]
    exact wipe_out hj
def ButP (is : List Nat) (ρ ρ' : Loc) : Prop := ρ'.length = ρ.length ∧ ∀ j, j ∉ is → ρ'[j]? = ρ[j]?
theorem wipeP_but {ρ ρ' : Loc} {is vs : List Nat} (h : ButP is (wipeP ρ vs) ρ') (hs : ∀ i ∈ is, i ∈ vs) : wipeP ρ' vs = wipeP ρ vs := by
  have hl : ρ'.length = ρ.length := h.1.trans (wipeP_len ρ vs)
  refine List.ext_getElem? fun j => ?_
  by_cases hj : j ∈ vs
  · by_cases hi : j < ρ.length
    · rw [wipeP_in hj hi, wipeP_in hj (by rw [hl]; exact hi)]
    · rw [List.getElem?_eq_none (by rw [wipeP_len, hl]; omega), List.getElem?_eq_none (by rw [wipeP_len]; omega)]
  · rw [wipeP_out hj, wipeP_out hj, h.2 j fun z => hj (hs j z)]
    exact wipeP_out hj
/-- a target stores at these slots alone -/
def TgOk (g : EvT) (is : List Nat) : Prop := ∀ x ρ ρ', g x ρ = some ρ' → ButP is ρ ρ'
theorem ButP.set {is : List Nat} {ρ ρ' : Loc} {i : Nat} {v : Option PV} (h : ButP is (ρ.set i v) ρ') : ButP (i :: is) ρ ρ' :=
  ⟨h.1.trans List.length_set, fun j hj => by
    rw [List.mem_cons, not_or] at hj
    rw [h.2 j hj.2]
    exact List.getElem?_set_ne (Ne.symm hj.1)⟩
theorem tgOk_one (i : Nat) : TgOk (evT1 i) [i] := fun x ρ ρ' e => by
  cases e
  exact ButP.set (is := []) ⟨rfl, fun _ _ => rfl⟩
theorem setAll_but : ∀ {is : List Nat} {xs : List PV} {ρ ρ' : Loc}, setAll is xs ρ = some ρ' → ButP is ρ ρ'
  | [], [], _, _, h => by cases h; exact ⟨rfl, fun _ _ => rfl⟩
  | [], _ :: _, _, _, h => by cases h
  | _ :: _, [], _, _, h => by cases h
  | i :: is, x :: xs, ρ, _, h => (setAll_but (is := is) (xs := xs) (ρ := ρ.set i (some x)) h).set
theorem tgOk_many (is : List Nat) : TgOk (evTm is) is := fun x ρ ρ' e => by
  unfold evTm at e
  split at e
  · exact setAll_but e
  · exact setAll_but e
  · cases e
def noOw : Option (Option PV) → Bool
  | some (some (.owl _)) => false
  | some (some (.owd _ _)) => false
  | _ => true
def okW (ρ : Loc) : List Nat → Bool
  | [] => true
  | i :: is => noOw ρ[i]? && okW ρ is
theorem okW_mem {ρ : Loc} {j : Nat} : ∀ {vs : List Nat}, okW ρ vs = true → j ∈ vs → noOw ρ[j]? = true
  | i :: is, h, m => by
    unfold okW at h
    rw [Bool.and_eq_true] at h
    rcases List.mem_cons.mp m with rfl | m
    · exact h.1
    · exact okW_mem h.2 m
def noX {α : Type} : Option (Rs α) → Option (Rs α)
  | some (.ok a O) => some (.ok a O)
  | _ => none
def compL (g : EvT) (c : EvB) (f : Ev) (ρw : Loc) : List PV → Oms → Option (Rs (List PV))
  | [], O => some (.ok [] O)
  | x :: xs, O => match g x ρw with
    | none => none
    | some ρ1 => bnd (noX (c ρ1 O)) fun b O1 => match b with
      | true => bnd (noX (f ρ1 O1)) fun y O2 => bnd (compL g c f ρw xs O2) fun ys O3 => some (.ok (y :: ys) O3)
      | false => compL g c f ρw xs O1
def evComp (h : EvA) (g : EvT) (c : EvB) (f : Ev) (vs : List Nat) : Ev := fun ρ O => bnd (h ρ O) fun xs O1 => if xs.length ≤ sizeLine ∧ okW ρ vs = true then bnd (compL g c f (wipeP ρ vs) xs O1) fun ys O2 => some (.ok (.lst ys) O2) else none
/-- no condition -/
def evYes : EvB := fun _ O => some (.ok true O)
/-- within an expression a list grows -/
def Ctx.inT (C : Ctx) (D : Addr) (acc : List PV) : Ctx := { C with EX := fun _ _ _ _ => False, tm := (C.tn, D, acc) :: C.tm, tn := C.tn + 1 }
structure InC (C C' : Ctx) : Prop where
  D : C'.D = C.D
  EX : C'.EX = fun _ _ _ _ => False
theorem InC.inT {C : Ctx} {D : Addr} {acc : List PV} : InC C (C.inT D acc) := ⟨rfl, rfl⟩
theorem OAt.ctx {C C' : Ctx} {W : Wd} {H : Hp} {i : Nat} {a : Addr} {x : PV} (hH : C'.H0 = C.H0) (hD : C'.D = C.D) (r : OAt C W H i a x) : OAt C' W H i a x := by
  cases r with
  | lst o n h z r => exact .lst o (by rw [hH]; exact n) h z (by rw [hD]; exact r)
  | dic o n h k r => exact .dic o (by rw [hH]; exact n) h k (by rw [hD]; exact r)
theorem SRep.ctx {C C' : Ctx} {W : Wd} {H : Hp} {σ σ' : L2.St} {i : Nat} {x : PV} (hH : C'.H0 = C.H0) (hD : C'.D = C.D) (hs : σ'[i]? = σ[i]?) (r : SRep C W H σ i x) : SRep C' W H σ' i x := by
  cases r with
  | sh e r => exact .sh (hs.trans e) (by rw [hD]; exact r)
  | ow e r => exact .ow (hs.trans e) (r.ctx hH hD)
section
variable {C : Ctx} {W : Wd} {ρ : Loc} {O : Oms} {σ : L2.St} {H : Hp}
theorem BRel.wipe (B : BRel C W ρ O σ H) (vs : List Nat) : BRel C W (wipeP ρ vs) O (L2.wipe σ vs) H :=
  ⟨B.f, B.ns, fun i x e => by
    obtain ⟨e1, hn⟩ := wipeP_some e
    exact (B.loc i x e1).ctx rfl rfl (wipe_out hn), by rw [wipe_length, wipeP_len]; exact B.len, by rw [wipeP_len]; exact B.tm⟩
theorem BRel.enter (B0 : BRel C W ρ O σ H) {D : Addr} (hD : H D = none) : ∃ W2, W.Le W2 ∧ BRel (C.inT D []) W2 ρ O σ (upd H D (.lst [])) := by
  have B := B0.new (o := .lst []) hD
  have hF := B0.nfrz hD
  have ho := B0.nown hD
  have h0 := B0.h0 hD
  have le : W.Le { W with own := fun a => if a = D then some (.slot C.tn) else W.own a } := ⟨FLe.refl _, MLe.refl _⟩
  have ow : ∀ a w, W.own a = some w → (if a = D then some (Ow.slot C.tn) else W.own a) = some w := fun a w e => by
    rw [if_neg (fun z => by rw [z, ho] at e; cases e)]; exact e
  refine ⟨_, le, ⟨B.f.g.move le (fun a w _ e => ow a w e) (fun _ _ _ _ => rfl) B.f.g.sub (fun a w e => ?_) B.f.g.fresh, B.f.le.trans le, fun a u e => ?_⟩, B.ns, fun j y e => ?_, B.len, ?_⟩
  · have e' : (if a = D then some (Ow.slot C.tn) else W.own a) = some w := e
    by_cases ha : a = D
    · subst ha
      exact ⟨hF, _, upd_same⟩
    · rw [if_neg ha] at e'
      exact B.f.g.ownF a w e'
  · obtain ⟨h1, h2, h3⟩ := B.f.fr a u e
    have ha : a ≠ D := fun z => by
      have e' : C.H0 a = some u := e
      rw [z, h0] at e'; cases e'
    refine ⟨h1, ?_, h3⟩
    show (if a = D then some (Ow.slot C.tn) else W.own a) = _
    rw [if_neg ha]; exact h2
  · exact (((B.loc j y e).move (W' := { W with own := fun a => if a = D then some (.slot C.tn) else W.own a }) le (fun a e => ow a _ e) (fun _ _ => rfl))).ctx (C := C) (C' := C.inT D []) rfl rfl rfl
  · refine ⟨Nat.le_succ_of_le B.tm.1, fun t ht => ?_⟩
    rcases List.mem_cons.mp ht with rfl | ht
    · exact ⟨B.tm.1, Nat.lt_succ_self _, .lst (if_pos rfl) h0 upd_same (Nat.zero_le _) .nil⟩
    · obtain ⟨t1, t2, t3⟩ := B.tm.2 t ht
      exact ⟨t1, Nat.lt_succ_of_lt t2, (t3.move (W' := { W with own := fun a => if a = D then some (.slot C.tn) else W.own a }) (H' := upd H D (.lst [])) le ((ow _ _ t3.own).trans t3.own.symm) rfl).ctx (C := C) (C' := C.inT D []) rfl rfl⟩
theorem BRel.push {D : Addr} {acc : List PV} (hC : ∀ t ∈ C.tm, t.1 < C.tn) (B : BRel (C.inT D acc) W ρ O σ H) : ∃ vs, H D = some (.lst vs) ∧ vs.length = acc.length ∧ ∀ y u, Rep C.D W.F W.M y u → vs.length < sizeLine → BRel (C.inT D (acc ++ [y])) W ρ O σ (upd H D (.lst (vs ++ [u]))) := by
  obtain ⟨t1, t2, t3⟩ := B.tm.2 (C.tn, D, acc) List.mem_cons_self
  cases t3 with
  | @lst xs vs o n h z r =>
    have o : W.own D = some (.slot C.tn) := o
    have h : H D = some (.lst vs) := h
    refine ⟨vs, h, r.length.symm, fun y u R hz => ?_⟩
    have hF := (B.f.g.ownF D _ o).1
    have ne : ∀ {a : Addr} {w : Ow}, W.own a = some w → w ≠ .slot C.tn → a ≠ D := fun e hw z => by
      rw [z, o] at e
      exact hw (Option.some.inj e).symm
    have nF : ∀ {a : Addr} {u : HO}, W.F a = some u → a ≠ D := fun e z => by rw [z, hF] at e; cases e
    refine ⟨⟨B.f.g.move (Wd.Le.refl _) (fun _ _ _ e => e) (fun a w hw e => upd_ne (ne e fun z => by rw [z] at hw; cases hw)) (fun a q e => ?_) (fun a w e => ?_) B.f.g.fresh, B.f.le, fun a q e => ?_⟩, B.ns, fun j x e => ?_, B.len, ?_⟩
    · rw [upd_ne (nF e)]
      exact B.f.g.sub a q e
    · refine ⟨(B.f.g.ownF a w e).1, ?_⟩
      by_cases ha : a = D
      · subst ha
        exact ⟨_, upd_same⟩
      · rw [upd_ne ha]
        exact (B.f.g.ownF a w e).2
    · obtain ⟨h1, h2, h3⟩ := B.f.fr a q e
      have ha : a ≠ D := fun z => by
        have e' : C.H0 a = some q := e
        have n' : C.H0 D = none := n
        rw [z, n'] at e'; cases e'
      exact ⟨h1, h2, fun z => by rw [upd_ne ha]; exact h3 z⟩
    · have hj : j < ρ.length := (List.getElem?_eq_some_iff.mp e).1
      have hj2 : j ≠ C.tn := fun z => by
        have : ρ.length ≤ C.tn := t1
        omega
      exact ((B.loc j x e).move (W' := W) (H' := upd H D (.lst (vs ++ [u]))) (Wd.Le.refl _) (fun _ e => e) (fun a e => upd_ne (ne e fun z => hj2 (Ow.slot.inj z)))).ctx (C := C.inT D acc) (C' := C.inT D (acc ++ [y])) rfl rfl rfl
    · refine ⟨B.tm.1, fun t ht => ?_⟩
      rcases List.mem_cons.mp ht with rfl | ht
      · exact ⟨t1, t2, .lst o n upd_same (by rw [List.length_append]; exact hz) (r.snoc R)⟩
      · obtain ⟨q1, q2, q3⟩ := B.tm.2 t (List.mem_cons_of_mem _ ht)
        -- the others' numbers are below
        refine ⟨q1, q2, ?_⟩
        have ht2 : t.1 ≠ C.tn := fun z => by
          have := hC t ht
          omega
        exact (q3.move (W' := W) (H' := upd H D (.lst (vs ++ [u]))) (Wd.Le.refl _) rfl (upd_ne (ne q3.own fun z => ht2 (Ow.slot.inj z)))).ctx (C := C.inT D acc) (C' := C.inT D (acc ++ [y])) rfl rfl
theorem BRel.leave {D : Addr} {acc : List PV} {vs : List Nat} {W1 : Wd} {O1 : Oms} {H1 : Hp} (hC : ∀ t ∈ C.tm, t.1 < C.tn) (hv : okW ρ vs = true) (B1 : BRel C W1 ρ O1 σ H1) (le1 : W1.Le W) (B : BRel (C.inT D acc) W (wipeP ρ vs) O (L2.wipe σ vs) H) :
    ∃ W3, W.Le W3 ∧ BRel C W3 ρ O σ H ∧ New C W3 H (.lst acc) (.ref D) := by
  obtain ⟨t1, t2, t3⟩ := B.tm.2 (C.tn, D, acc) List.mem_cons_self
  cases t3 with
  | @lst xs ws o n h z r =>
    have o : W.own D = some (.slot C.tn) := o
    have h : H D = some (.lst ws) := h
    have n : C.H0 D = none := n
    have hF := (B.f.g.ownF D _ o).1
    have le : W.Le { W with own := fun a => if a = D then none else W.own a } := ⟨FLe.refl _, MLe.refl _⟩
    have ow : ∀ a w, W.own a = some w → w ≠ .slot C.tn → (if a = D then none else W.own a) = some w := fun a w e hw => by
      rw [if_neg (fun z => by rw [z, o] at e; exact hw (Option.some.inj e).symm)]; exact e
    have B1l := B1.tm.1
    have hlen : (wipeP ρ vs).length = ρ.length := wipeP_len ρ vs
    refine ⟨_, le, ⟨⟨B.f.g.move le (fun b w hw e => ow b w e (fun z => by rw [z] at hw; cases hw)) (fun _ _ _ _ => rfl) B.f.g.sub (fun b w e => ?_) B.f.g.fresh, B.f.le.trans le, fun b u e => ?_⟩, B.ns, fun j y e => ?_, B1.len, B1l, fun t ht => ?_⟩, .lst hF (if_pos rfl) n h z (r.mono le.F le.M)⟩
    · have e' : (if b = D then none else W.own b) = some w := e
      by_cases hb : b = D
      · rw [if_pos hb] at e'; cases e'
      · rw [if_neg hb] at e'
        exact B.f.g.ownF b w e'
    · have e2 : C.H0 b = some u := e
      have hb : b ≠ D := fun z => by rw [z, n] at e2; cases e2
      obtain ⟨q1, q2, q3⟩ := B.f.fr b u e2
      refine ⟨q1, ?_, q3⟩
      show (if b = D then none else W.own b) = _
      rw [if_neg hb]; exact q2
    · by_cases hj : j ∈ vs
      · cases B1.loc j y e with
        | sh e r => exact .sh e (r.mono (le1.trans le).F (le1.trans le).M)
        | ow e2 r =>
          have := okW_mem hv hj
          rw [e] at this
          cases r <;> cases this
      · have q := B.loc j y (by rw [wipeP_out hj]; exact e)
        have hj1 : j < ρ.length := (List.getElem?_eq_some_iff.mp e).1
        exact ((q.move (W' := { W with own := fun a => if a = D then none else W.own a }) (H' := H) le (fun a e => ow a _ e fun z => by
          have := Ow.slot.inj z
          omega) (fun _ _ => rfl))).ctx (C := C.inT D acc) (C' := C) rfl rfl (wipe_out hj).symm
    · obtain ⟨q1, q2, q3⟩ := B.tm.2 t (List.mem_cons_of_mem _ ht)
      refine ⟨by rw [hlen] at q1; exact q1, hC t ht, ?_⟩
      have ht2 : t.1 ≠ C.tn := fun z => by
        have := hC t ht
        omega
      exact (q3.move (W' := { W with own := fun a => if a = D then none else W.own a }) (H' := H) le ((ow _ _ q3.own fun z => ht2 (Ow.slot.inj z)).trans q3.own.symm) rfl).ctx (C := C.inT D acc) (C' := C) rfl rfl
end
def tXe (C : Ctx) (f : Ev) : TE := fun σ H Q => ∃ C', InC C C' ∧ tX C' f σ H Q
def tTe (C : Ctx) (f : EvB) : TT := fun σ H Q => ∃ C', InC C C' ∧ tTt C' f σ H Q
def tGe (C : Ctx) (g : EvT) (is : List Nat) : TG := fun v σ H Q => ∃ C', InC C C' ∧ tG C' g is v σ H Q
theorem pe_exC {X : Cx} {C : Ctx} {e : Expr} {f : Ev} (h : ∀ C', InC C C' → PE X e (tX C' f)) : PE X e (tXe C f) := ⟨fun pins s σ H Q I ⟨C', hc, q⟩ => (h C' hc).run pins s σ H Q I q⟩
theorem pg_exC {X : Cx} {C : Ctx} {e : Expr} {g : EvT} {is : List Nat} (h : ∀ C', InC C C' → PG X e (tG C' g is)) : PG X e (tGe C g is) := ⟨fun pins s σ H v u Q I r ⟨C', hc, q⟩ => (h C' hc).run pins s σ H v u Q I r q⟩
theorem pts_exC {X : Cx} {C : Ctx} {es : List Expr} {f : EvB} (h : ∀ C', InC C C' → PTs X es (tTt C' f)) : PTs X es (tTe C f) := ⟨fun pins s σ H Q I ⟨C', hc, q⟩ => (h C' hc).run pins s σ H Q I q⟩
theorem st_yes {X : Cx} {C : Ctx} : PTs X [] (tTt C evYes) := ⟨fun pins s σ H Q I ⟨W, ρ, O, B, G⟩ => pts_nil.run pins s σ H Q I (G W H true (Wd.Le.refl _) B rfl)⟩
theorem comp_run {C : Ctx} {h : EvA} {g : EvT} {is vs : List Nat} {c : EvB} {f : Ev} (hgo : TgOk g is) (his : ∀ i ∈ is, i ∈ vs) {σ : L2.St} {H : Hp} {Q : VK} (hG : tN C (evComp h g c f vs) σ H Q) : tLc (tI C h) (tGe C g is) (tTe C c) (tXe C f) vs σ H Q := by
  obtain ⟨W, ρ, O, B, G⟩ := hG
  refine ⟨W, ρ, O, B, goes_bnd G fun W1 H1 xs J O1 le1 B1 wk G1 D hD => ?_⟩
  by_cases hz : xs.length ≤ sizeLine ∧ okW ρ vs = true
  rotate_left
  · rw [if_neg hz] at G1; exact False.elim G1
  rw [if_pos hz] at G1
  obtain ⟨hz, hv⟩ := hz
  have hC : ∀ t ∈ C.tm, t.1 < C.tn := fun t ht => (B1.tm.2 t ht).2.1
  refine ⟨fun i m H => i + m = xs.length ∧ ∃ W2 O2 acc, W1.Le W2 ∧ BRel (C.inT D acc) W2 (wipeP ρ vs) O2 (L2.wipe σ vs) H ∧ acc.length ≤ i ∧ Goes C (RN C) W1 ρ σ (bnd (compL g c f (wipeP ρ vs) (xs.drop i) O2) fun ys O3 => some (.ok (.lst (acc ++ ys)) O3)) Q, ?_, ?_⟩
  · obtain ⟨W2, le2, B2⟩ := B1.enter hD
    exact ⟨xs.length, by omega, W2, O1, [], le2, B2.wipe vs, Nat.le_refl _, by rw [List.drop_zero]; exact G1⟩
  · rintro i m H2 ⟨em, W2, O2, acc, le2, B2, hacc, G2⟩
    by_cases hi : i < xs.length
    · refine .inr ?_
      have ex : xs[i]? = some xs[i] := List.getElem?_eq_getElem hi
      obtain ⟨hgo', hy⟩ := (wk (C.inT D acc) W2 _ O2 _ H2 rfl le2 B2 i).1 _ ex
      refine ⟨hgo', fun H => ∃ W2 O2 acc, W1.Le W2 ∧ BRel (C.inT D acc) W2 (wipeP ρ vs) O2 (L2.wipe σ vs) H ∧ acc.length ≤ i + 1 ∧ Goes C (RN C) W1 ρ σ (bnd (compL g c f (wipeP ρ vs) (xs.drop (i + 1)) O2) fun ys O3 => some (.ok (.lst (acc ++ ys)) O3)) Q, fun H' p => ⟨m - 1, by omega, by omega, p⟩, fun v H3 hv3 => ?_⟩
      obtain ⟨W3, le3, B3, R3⟩ := hy v H3 hv3
      rw [List.drop_eq_getElem_cons hi, compL] at G2
      cases q : g xs[i] (wipeP ρ vs) with
      | none => rw [q] at G2; exact False.elim G2
      | some ρ1 =>
        rw [q] at G2
        dsimp only at G2
        refine ⟨C.inT D acc, .inT, W3, wipeP ρ vs, O2, xs[i], ρ1, B3, R3, q, fun σ4 hb B4 => ⟨wipe_but hb his, C.inT D acc, .inT, W3, ρ1, O2, B4, ?_⟩⟩
        have eP : wipeP ρ1 vs = wipeP ρ vs := wipeP_but (hgo _ _ _ q) his
        have eS : L2.wipe σ4 vs = L2.wipe σ vs := wipe_but hb his
        cases qc : c ρ1 O2 with
        | none => rw [qc] at G2; exact False.elim G2
        | some rc =>
          cases rc with
          | ex x O3 => rw [qc] at G2; exact False.elim G2
          | ok b O3 =>
            rw [qc] at G2
            intro W5 H5 b' le5 B5 eb
            subst eb
            cases b with
            | false =>
              rw [if_neg Bool.false_ne_true]
              refine ⟨W5, O3, acc, (le2.trans le3).trans le5, ?_, by omega, G2⟩
              have := B5.wipe vs
              rw [eP, eS] at this
              exact this
            | true =>
              rw [if_pos rfl]
              refine ⟨C.inT D acc, .inT, W5, ρ1, O3, B5, ?_⟩
              have G2 : Goes C (RN C) W1 ρ σ (bnd (bnd (noX (f ρ1 O3)) fun y O2 => bnd (compL g c f (wipeP ρ vs) (xs.drop (i + 1)) O2) fun ys O3 => some (.ok (y :: ys) O3)) fun ys O3 => some (.ok (.lst (acc ++ ys)) O3)) Q := G2
              cases qf : f ρ1 O3 with
              | none => rw [qf] at G2; exact False.elim G2
              | some rf =>
                cases rf with
                | ex x O4 => rw [qf] at G2; exact False.elim G2
                | ok y O4 =>
                  rw [qf] at G2
                  intro W6 H6 u le6 B6 R6
                  have B6' := B6.wipe vs
                  rw [eP, eS] at B6'
                  obtain ⟨ws, e1, e2, e3⟩ := B6'.push hC
                  refine ⟨ws, e1, by omega, W6, O4, acc ++ [y], ((le2.trans le3).trans le5).trans le6, e3 y u R6 (by omega), by rw [List.length_append]; show acc.length + 1 ≤ _; omega, ?_⟩
                  have G2 : Goes C (RN C) W1 ρ σ (bnd (bnd (compL g c f (wipeP ρ vs) (xs.drop (i + 1)) O4) fun ys O3 => some (.ok (y :: ys) O3)) fun ys O3 => some (.ok (.lst (acc ++ ys)) O3)) Q := G2
                  cases qr : compL g c f (wipeP ρ vs) (xs.drop (i + 1)) O4 with
                  | none => rw [qr] at G2; exact False.elim G2
                  | some rr =>
                    rw [qr] at G2
                    cases rr with
                    | ex x O5 => exact G2
                    | ok ys O5 =>
                      have G2 : Goes C (RN C) W1 ρ σ (some (.ok (.lst (acc ++ y :: ys)) O5)) Q := G2
                      show Goes C (RN C) W1 ρ σ (some (.ok (.lst ((acc ++ [y]) ++ ys)) O5)) Q
                      rw [List.append_assoc]
                      exact G2
    · refine .inl ⟨(wk (C.inT D acc) W2 _ O2 _ H2 rfl le2 B2 i).2 (by omega), ?_⟩
      rw [List.drop_eq_nil_of_le (by omega), compL] at G2
      have G2 : Goes C (RN C) W1 ρ σ (some (.ok (.lst (acc ++ [])) O2)) Q := G2
      rw [List.append_nil] at G2
      obtain ⟨W3, le3, B3, N3⟩ := BRel.leave hC hv B1 le2 B2
      exact G2 W3 H2 _ (le2.trans le3) B3 N3
theorem sn_comp {X : Cx} {C : Ctx} {elt tg iter : Expr} {ifs : List Expr} {scope : Scope} {own : List (Str × Nat)} {pos : Pos} {h : EvA} {g : EvT} {is : List Nat} {c : EvB} {f : Ev} (hc : X.calm = true) (hN : X.N.Nodup) (hgo : TgOk g is) (his : ∀ i ∈ is, i ∈ own.map (·.2)) (hi : PI X tg iter (tI C h)) (ok : BlkOk X.N X.env.scope scope own)
    (hg : ∀ (s : Shared) (H : Hp) (A : Addr) (cl : List (Str × Addr)) (fp : List Addr) (C' : Ctx), InC C C' → PG (X.blk s H scope (compEnvC scope cl A X.env) fp) tg (tG C' g is))
    (ht : ∀ (s : Shared) (H : Hp) (A : Addr) (cl : List (Str × Addr)) (fp : List Addr) (C' : Ctx), InC C C' → PTs (X.blk s H scope (compEnvC scope cl A X.env) fp) ifs (tTt C' c))
    (he : ∀ (s : Shared) (H : Hp) (A : Addr) (cl : List (Str × Addr)) (fp : List Addr) (C' : Ctx), InC C C' → PE (X.blk s H scope (compEnvC scope cl A X.env) fp) elt (tX C' f)) (hs : ∀ x, foldedSetIterable iter X.env x = pure x) :
    PE X (.ListComp elt [⟨tg, iter, ifs, 0⟩] scope pos) (tN C (evComp h g c f (own.map (·.2)))) := by
  refine PE.mono (pe_lc hc hN hi ok (fun s H A cl fp => pg_exC (hg s H A cl fp)) (fun s H A cl fp => pts_exC (ht s H A cl fp)) (fun s H A cl fp => pe_exC (he s H A cl fp)) hs) fun σ H Q hG => comp_run hgo his hG
end Hw

namespace Hw
open PySem PySem.Spec PyProof.Rows L2
open Sem (wp)

/-! ### zip of lists and tuples in any mix; list(zip(..)) -/
def SqM (k : Bool) (K : PySem.W.Frag) (H : Hp) (a : Addr) (xs : List V) : Prop := match k with
  | true => SqL K H a xs
  | false => SqT K H a xs
def ItM (k : Bool) (h : Heap) (it a : Addr) (i : Nat) : Prop := match k with
  | true => h.IsListIter it a i
  | false => h.IsTupleIter it a i
def OfM (k : Bool) (h : Heap) (a : Addr) (items : Array Value) : Prop := match k with
  | true => h.IsList a items
  | false => h.IsTuple a items
theorem ItM.at {k : Bool} {h h' : Heap} {it a : Addr} {i : Nat} (x : ItM k h it a i) (f : ∀ o, h.get? it = some o → h'.get? it = some o) : ItM k h' it a i := by
  cases k with
  | true => exact Heap.IsListIter.at x f
  | false => exact Heap.IsTupleIter.at x f
theorem OfM.at {k : Bool} {h h' : Heap} {a : Addr} {items : Array Value} (x : OfM k h a items) (f : ∀ o, h.get? a = some o → h'.get? a = some o) : OfM k h' a items := by
  cases k with
  | true => exact Heap.IsList.at x f
  | false => exact Heap.IsTuple.at x f
theorem OfM.lt {k : Bool} {h : Heap} {a : Addr} {items : Array Value} (x : OfM k h a items) : a < h.objs.size := by
  cases k with
  | true =>
    obtain ⟨o, ho, _⟩ := x
    exact Heap.lt_size ho
  | false =>
    obtain ⟨o, ho, _⟩ := x
    exact Heap.lt_size ho
theorem ItM.obj {k : Bool} {h : Heap} {it a : Addr} {i : Nat} (x : ItM k h it a i) : ∃ o, h.get? it = some o ∧ ∀ v, o.data ≠ .cell v := by
  cases k with
  | true =>
    obtain ⟨o, e, _, d⟩ := x
    exact ⟨o, e, fun v q => by rw [d] at q; cases q⟩
  | false =>
    obtain ⟨o, e, _, d⟩ := x
    exact ⟨o, e, fun v q => by rw [d] at q; cases q⟩
theorem drawsM {prog : Program} {w : World} {A : Around} (k : Bool) (hh : A.handled = none) (it l : Addr) (hne : l ≠ it) (items : Array Value) :
    Draws prog w A it [it, l] items.size (fun i v => items[i]? = some v) (fun i h => ItM k h it l i ∧ OfM k h l items) := by
  cases k with
  | true => exact Draws.list hh it l hne items
  | false => exact Draws.tuple hh it l hne items
def objM (k : Bool) (l : Addr) : Obj := match k with
  | true => { cls := .type "list_iterator", data := .fields #[.ref l, .int 0 0] }
  | false => { cls := .type "tuple_iterator", data := .fields #[.ref l, .int 0 0] }
theorem beginsM (k : Bool) (l : Addr) (items : Array Value) : Begins (.ref l) (objM k l) fun h => OfM k h l items := by
  cases k with
  | true => exact begins_list l items
  | false => exact begins_tuple l items
theorem itM_new {k : Bool} {h : Heap} {it l : Addr} (e : h.get? it = some (objM k l)) : ItM k h it l 0 := by
  cases k with
  | true => exact ⟨_, e, rfl, rfl⟩
  | false => exact ⟨_, e, rfl, rfl⟩
section
variable {X : Cx} {pins : List (Addr × Obj)} {σ : L2.St} {H : Hp} {s : Shared}
theorem seqM {k : Bool} {a : Addr} {xs : List V} (I : Inv X pins σ H s) (h : SqM k X.K H a xs) : ∃ its : List Value, Vals xs its ∧ OfM k s.heap a its.toArray ∧ xs.length ≤ sizeLine := by
  cases k with
  | true =>
    obtain ⟨its, r, p, z⟩ := I.list h
    exact ⟨its, r, p.isList, z⟩
  | false =>
    obtain ⟨its, r, p, z⟩ := I.tuple h
    exact ⟨its, r, p, z⟩
theorem seqM_inj {k : Bool} {a : Addr} {xs ys : List V} (I : Inv X pins σ H s) (h : SqM k X.K H a xs) (h' : SqM k X.K H a ys) : xs = ys := by
  cases k with
  | true => exact I.list_inj h h'
  | false => exact I.tuple_inj h h'
end
/-- what a zip walks as it stands at each turn, the items in new pairs -/
def ItzM (k1 k2 : Bool) (K : PySem.W.Frag) (a b : Addr) : It :=
  ⟨fun i H => ∃ (xs ys : List V) (x y : V), SqM k1 K H a xs ∧ SqM k2 K H b ys ∧ xs[i]? = some x ∧ ys[i]? = some y,
    fun i H v H' => ∃ T x y, v = .ref T ∧ H T = none ∧ H' = upd H T (.tup [x, y]) ∧ (∀ xs, SqM k1 K H a xs → xs[i]? = some x) ∧ ∀ ys, SqM k2 K H b ys → ys[i]? = some y,
    fun i H => ∃ xs ys : List V, SqM k1 K H a xs ∧ SqM k2 K H b ys ∧ (xs.length = i ∧ i ≤ ys.length ∨ ys.length = i ∧ i ≤ xs.length)⟩
theorem sepM {z TI TO i1 i2 a b : Addr} (D : ZipApart z TI TO i1 i2 a b) (h1 : i1 ≠ b) (h2 : i2 ≠ a) : ZipSep2 z TI TO i1 i2 [i1, a] [i2, b] :=
  { TIz := D.TIz, TOz := D.TOz, TITO := D.TITO, TIi1 := D.TIi1, mem1 := List.mem_cons_self, zf1 := by simp [D.i1z.symm, D.l1z.symm], Tf1 := by simp [D.TOi1, D.l1TO.symm],
    TIi2 := D.TIi2, mem2 := List.mem_cons_self, zf2 := by simp [D.i2z.symm, D.l2z.symm], Tf2 := by simp [D.TOi2, D.l2TO.symm], sep1_2 := by simp [D.i12, h1], sep2_1 := by simp [D.i12.symm, h2] }
theorem turn_zipM {P : Program} {w : World} {K : PySem.W.Frag} {elts : List Expr} {kk : Nat} {tpos : Pos} {a b z TI TO i1 i2 : Addr} {k1 k2 : Bool} (D : ZipApart z TI TO i1 i2 a b) (hn1 : i1 ≠ b) (hn2 : i2 ≠ a) :
    Turn P w K (.Tuple elts kk tpos) (ItzM k1 k2 K a b) [z, TI, TO, i1, i2] z (fun i h => IsZip h z TI TO .none ∧ IsPair h TI (.ref i1) (.ref i2) ∧ (∃ x y, IsPair h TO x y) ∧ ItM k1 h i1 a i ∧ ItM k2 h i2 b i) where
  mem := by simp
  obj := fun i h st c hc => by
    obtain ⟨hz, hTI, ⟨x, y, hTO⟩, h1, h2⟩ := st
    have e' : c = z ∨ c = TI ∨ c = TO ∨ c = i1 ∨ c = i2 := by simpa using hc
    rcases e' with q | q | q | q | q
    · rw [q]; exact ⟨_, hz, fun v q => nomatch q⟩
    · rw [q]; exact ⟨_, hTI, fun v q => nomatch q⟩
    · rw [q]; exact ⟨_, hTO, fun v q => nomatch q⟩
    · rw [q]; exact h1.obj
    · rw [q]; exact h2.obj
  keep := fun i h h' st k => by
    obtain ⟨hz, hTI, ⟨x, y, hTO⟩, h1, h2⟩ := st
    exact ⟨k z (by simp) _ hz, k TI (by simp) _ hTI, ⟨x, y, k TO (by simp) _ hTO⟩, h1.at fun o q => k i1 (by simp) o q, h2.at fun o q => k i2 (by simp) o q⟩
  item := by
    intro X hP hw hK hc i pins s σ H E I hf st hg
    subst hP hw hK
    obtain ⟨hz, hTI, ⟨x0, y0, hTO⟩, h1, h2⟩ := st
    obtain ⟨xs, ys, x, y, hqx, hqy, hx, hy⟩ := hg
    obtain ⟨its, rv, p, _⟩ := seqM I hqx
    obtain ⟨its2, rv2, p2, _⟩ := seqM I hqy
    obtain ⟨u, hu, ru⟩ := rv.get hx
    obtain ⟨u2, hu2, ru2⟩ := rv2.get hy
    have hzl : z < s.heap.objs.size := Heap.lt_size hz
    have hl1 : i < its.toArray.size := by
      have := (List.getElem?_eq_some_iff.mp hu).1
      simpa using this
    have hl2 : i < its2.toArray.size := by
      have := (List.getElem?_eq_some_iff.mp hu2).1
      simpa using this
    have D1 := drawsM (prog := X.prog) (w := X.w) (A := X.A.in1) k1 (I.ok.hd hc) i1 a D.l1i1 its.toArray
    have D2 := drawsM (prog := X.prog) (w := X.w) (A := X.A.in1) k2 (I.ok.hd hc) i2 b D.l2i2 its2.toArray
    refine wpAny_pyNext_zipD2_item (sepM D hn1 hn2) D1 D2 hz hTI hTO ⟨h1, p⟩ ⟨h2, p2⟩ hl1 hl2 fun x1 x2 h' tk e1 e2 z' TO' s1' s2' hT hsz hk => ?_
    have e1 : x1 = u := by
      rw [List.getElem?_toArray, hu] at e1
      exact (Option.some.inj e1).symm
    have e2 : x2 = u2 := by
      rw [List.getElem?_toArray, hu2] at e2
      exact (Option.some.inj e2).symm
    subst e1 e2
    refine ⟨_, rfl, wpAny_letOwnedTupleGo_zip (s := { s with heap := h', toks := tk }) z' fun h'' z'' sb => ?_⟩
    have hT2 : h''.get? s.heap.objs.size = some { cls := .type "tuple", data := .seq #[x1, x2] } := (sb.2 _ (Nat.ne_of_gt hzl)).trans hT
    have new : ObjOk X.prog X.w (upd H s.heap.objs.size (.tup [x, y])) h'' s.heap.objs.size (.tup [x, y]) :=
      ⟨by show 2 ≤ sizeLine; decide, [x1, x2], .cons ru (.cons ru2 .nil), ⟨_, hT2, rfl, _, rfl⟩⟩
    have I1 : Inv X pins σ (upd H s.heap.objs.size (.tup [x, y])) { s with heap := h'', toks := tk } :=
      I.turnedNew (t' := tk) (ch := [z, TI, TO, i1, i2]) (fun c o hb q => (sb.2 c (fun q' => hb (by simp [q']))).trans (hk c o (fun q' => hb (by simp [q'])) (fun q' => hb (by simp [q'])) (fun q' => hb (by simp [q'])) (fun q' => hb (by simp [q'])) q)) hf (Nat.le_refl _) new
    refine ⟨.ref s.heap.objs.size, _, I1, rfl, ⟨_, x, y, rfl, I.hok.fresh (Nat.le_refl _), rfl, fun l hl => by rw [seqM_inj I hl hqx]; exact hx, fun l hl => by rw [seqM_inj I hl hqy]; exact hy⟩, ⟨z'', ?_, ⟨x1, x2, ?_⟩, ?_, ?_⟩, fun c hcm => ?_⟩
    · exact (sb.2 _ D.TIz).trans (hk _ _ D.TIz D.TITO D.TIi1 D.TIi2 hTI)
    · exact (sb.2 _ D.TOz).trans TO'
    · exact s1'.1.at fun o q => (sb.2 _ D.i1z).trans q
    · exact s2'.1.at fun o q => (sb.2 _ D.i2z).trans q
    · have hlt : c < s.heap.objs.size := by
        have e' : c = z ∨ c = TI ∨ c = TO ∨ c = i1 ∨ c = i2 := by simpa using hcm
        rcases e' with q | q | q | q | q
        · rw [q]; exact hzl
        · rw [q]; exact Heap.lt_size hTI
        · rw [q]; exact Heap.lt_size hTO
        · rw [q]; obtain ⟨_, e1, _⟩ := h1.obj; exact Heap.lt_size e1
        · rw [q]; obtain ⟨_, e2, _⟩ := h2.obj; exact Heap.lt_size e2
      rw [upd_ne (Nat.ne_of_lt hlt)]
      exact (hf c hcm).1
  done := by
    intro X hP hw hK hc i pins s σ H E I hf st hg
    subst hP hw hK
    obtain ⟨hz, hTI, ⟨x0, y0, hTO⟩, h1, h2⟩ := st
    obtain ⟨xs, ys, hqx, hqy, hend⟩ := hg
    obtain ⟨its, rv, p, _⟩ := seqM I hqx
    obtain ⟨its2, rv2, p2, _⟩ := seqM I hqy
    have l1 := rv.length
    have l2 := rv2.length
    have D1 := drawsM (prog := X.prog) (w := X.w) (A := X.A.in1) k1 (I.ok.hd hc) i1 a D.l1i1 its.toArray
    have D2 := drawsM (prog := X.prog) (w := X.w) (A := X.A.in1) k2 (I.ok.hd hc) i2 b D.l2i2 its2.toArray
    refine wpAny_pyNext_zipD2_end (sepM D hn1 hn2) D1 D2 hz hTI hTO ⟨h1, p⟩ ⟨h2, p2⟩ (by rw [List.size_toArray]; omega) (by rw [List.size_toArray]; omega) (by rw [List.size_toArray, List.size_toArray]; omega) fun h' tk hk => ⟨rfl, I.turnedL (t' := tk) (ch := [z, TI, TO, i1, i2]) (fun c o hb q =>
      hk c o (fun q' => hb (by simp [q'])) (fun q' => hb (by simp [q'])) (fun q' => hb (by simp [q'])) (fun q' => hb (by simp [q'])) q) hf⟩
  self := fun A i s Q E st h => wpAny_pyIter_zip st.1 h
def iZipM (K : PySem.W.Frag) (ta : TA) : TI := fun σ H R => ta σ H fun vs H1 => ∃ k1 k2 a b xs ys, vs = [.ref a, .ref b] ∧ SqM k1 K H1 a xs ∧ SqM k2 K H1 b ys ∧ R (ItzM k1 k2 K a b) H1
theorem fresh5 {X : Cx} {pins : List (Addr × Obj)} {σ : L2.St} {H : Hp} {s : Shared} (I : Inv X pins σ H s) : ∀ c, c ∈ [s.heap.objs.size + 4, s.heap.objs.size + 2, s.heap.objs.size + 3, s.heap.objs.size, s.heap.objs.size + 1] → FpOk X pins H c := fun c hcm => by
  have e' : c = s.heap.objs.size + 4 ∨ c = s.heap.objs.size + 2 ∨ c = s.heap.objs.size + 3 ∨ c = s.heap.objs.size ∨ c = s.heap.objs.size + 1 := by simpa using hcm
  have hle : s.heap.objs.size ≤ c := by
    rcases e' with z | z | z | z | z
    · rw [z]; exact Nat.le_add_right _ _
    · rw [z]; exact Nat.le_add_right _ _
    · rw [z]; exact Nat.le_add_right _ _
    · rw [z]; exact Nat.le_refl _
    · rw [z]; exact Nat.le_add_right _ _
  exact I.fpOk hle (I.hok.fresh hle)
theorem pi_zipM {X : Cx} {e e2 : Expr} {ta : TA} {p pos tpos : Pos} {elts : List Expr} {kk : Nat} (hg : Gl X "zip") (hm : X.mg "zip" = none) (ha : PA X [e, e2] ta)
    (hs : starEach [e, e2] X.env = (false, eval e X.env) :: starEach [e2] X.env) (hpl : (backTo pos (starEach [e2] X.env)).any (·.1) = false) :
    PI X (.Tuple elts kk tpos) (.Call (.Name "zip" p) [e, e2] [] pos) (iZipM X.K ta) := by
  refine ⟨fun pins s σ H R I h => ?_⟩
  refine Call_ (ld_blt I hg hm PyProof.Rows.boot_zip (PyProof.Rows.callWith_type1 (thn (ha.run pos pins s σ H _ I h) fun us s1 ⟨vs, H1, I1, r1, q1⟩ => ?_) hs hpl))
  obtain ⟨k1, k2, a, b, xs, ys, ex, hqx, hqy, q⟩ := q1
  subst ex
  cases r1 with
  | cons r rr =>
    cases rr with
    | cons r' rr =>
      cases rr
      cases r
      cases r'
      obtain ⟨its, rv, p1, _⟩ := seqM I1 hqx
      obtain ⟨its2, rv2, p2, _⟩ := seqM I1 hqy
      have la := p1.lt
      have lb := p2.lt
      refine zip_begins2 (beginsM k1 a its.toArray) (beginsM k2 b its2.toArray) p1 p2 fun h' hz hTI hTO h1 h2 hsz hk => wpAny_pyIter_zip hz ?_
      have I2 : Inv X pins σ H1 { s1 with heap := h' } := I1.kept (t' := s1.toks) hk
      exact ⟨s1.heap.objs.size + 4, [s1.heap.objs.size + 4, s1.heap.objs.size + 2, s1.heap.objs.size + 3, s1.heap.objs.size, s1.heap.objs.size + 1], _, _, H1, rfl, I2, turn_zipM (PySem.W.ktu_apart s1.heap.objs.size a b la lb) (Nat.ne_of_gt lb) (Nat.ne_of_gt (Nat.lt_succ_of_lt la)), ⟨hz, hTI, ⟨_, _, hTO⟩, itM_new h1, itM_new h2⟩, fresh5 I1, q⟩
end Hw

namespace Hw
open PySem PySem.Spec PyProof.Rows L2
open Sem (wp)

/-! ### the next pair while the one given out before is still held -/
section
variable {prog : Program} {w : World} {A : Around} {E : Value → Shared → Prop} {s : Shared} {z TI TO i1 i2 T : Addr} {fp1 fp2 : List Addr} {n1 n2 i : Nat} {P1 P2 : Nat → Value → Prop} {St1 St2 : Nat → Heap → Prop} {f : Bool} {oT : Obj}
theorem zipH_item {Q : Value → Shared → Prop} (S : ZipSep2 z TI TO i1 i2 fp1 fp2) (D1 : Draws prog w A i1 fp1 n1 P1 St1) (D2 : Draws prog w A i2 fp2 n2 P2 St2)
    (hz : IsZipHeld s.heap z TI TO T f) (hT : s.heap.get? T = some oT) (hTI : IsPair s.heap TI (.ref i1) (.ref i2)) (st1 : St1 i s.heap) (st2 : St2 i s.heap) (hlt1 : i < n1) (hlt2 : i < n2)
    (hQ : ∀ x1 x2 h' tk, P1 i x1 → P2 i x2 → IsZipHeld h' z TI TO T true → St1 (i + 1) h' → St2 (i + 1) h' → IsPair h' s.heap.objs.size x1 x2 → h'.objs.size = s.heap.objs.size + 1 →
      (∀ c o, c ≠ z → c ≠ i1 → c ≠ i2 → s.heap.get? c = some o → h'.get? c = some o) → Q (.ref s.heap.objs.size) { s with heap := h', toks := tk }) :
    wpAny (model prog w) A (Builtin.«zip.__next__» ⟨[.ref z], []⟩) (fun fin s' => ∃ v, fin = .done (.ret v) ∧ Q v s') E s := by
  show wpAny _ _ (field (.ref z) 2 >>= _) _ _ _
  refine wpAny_bind (wpAny_field hz rfl (x := .bool false) rfl ?_)
  show wpAny _ _ (field (.ref z) 3 >>= _) _ _ _
  refine wpAny_bind (wpAny_field hz rfl (x := .ref TI) rfl ?_)
  refine wpAny_bind (wpAny_seqItems hTI rfl ?_)
  show wpAny _ _ (Builtin.SmallTypes.ownedTupleIsFree (.ref z) >>= _) _ _ _
  refine wpAny_bind (wpAny_tupleHeld_zip hz hT fun h₁ hz₁ hs₁ => ?_)
  simp only [Bool.false_eq_true, if_false]
  refine wpAny_bind ?_
  rw [← Array.forIn_toList]
  simp only [List.forIn_cons, List.forIn_nil]
  refine wpAny_bind (wpAny_bind (wpAny_holding ?_))
  show wpAny _ _ (Builtin.SmallTypes.nextOf (.ref i1) >>= _) _ _ _
  refine wpAny_bind (D1.item i { s with heap := h₁ } _ _ hlt1 (D1.over st1 hs₁ S.zf1) fun x1 h₂ tk₂ e1 st1₂ hs₂ => wpAny_pure ?_)
  refine wpAny_pure ?_
  refine wpAny_bind (wpAny_bind (wpAny_holding ?_))
  show wpAny _ _ (Builtin.SmallTypes.nextOf (.ref i2) >>= _) _ _ _
  have hs₂ : Heap.SameBut i1 h₁ h₂ := hs₂
  refine wpAny_bind (D2.item i { s with heap := h₂, toks := tk₂ } _ _ hlt2 (D2.over (D2.over st2 hs₁ S.zf2) hs₂ S.sep1_2) fun x2 h₃ tk₃ e2 st2₃ hs₃ => wpAny_pure ?_)
  have hs₃ : Heap.SameBut i2 h₂ h₃ := hs₃
  refine wpAny_pure (wpAny_pure ?_)
  show wpAny _ _ (newTuple [x1, x2] >>= _) _ _ _
  refine wpAny_bind (wpAny_newTuple ?_)
  have hsz : h₃.objs.size = s.heap.objs.size := by rw [hs₃.1, hs₂.1, hs₁.1]
  have hz₃ : IsZipHeld h₃ z TI TO T true := hs₃.extBut _ _ S.zi2 (hs₂.extBut _ _ S.zi1 hz₁)
  have hk : ∀ c o, c ≠ z → c ≠ i1 → c ≠ i2 → s.heap.get? c = some o → h₃.get? c = some o := fun c o c1 c2 c3 e => hs₃.extBut _ _ c3 (hs₂.extBut _ _ c2 (hs₁.extBut _ _ c1 e))
  refine wpAny_pure ⟨_, rfl, ?_⟩
  show Q (.ref h₃.objs.size) _
  have hp : IsPair (h₃.push { cls := .type "tuple", data := .seq #[x1, x2] }) h₃.objs.size x1 x2 := Heap.get?_push_size _ rfl
  have hz4 : (h₃.push { cls := .type "tuple", data := .seq #[x1, x2] }).objs.size = h₃.objs.size + 1 := Heap.size_push ..
  rw [hsz] at hp hz4 ⊢
  exact hQ x1 x2 _ tk₃ e1 e2 (Heap.get?_push_of_some _ hz₃) (D1.frame _ _ _ (D1.over st1₂ hs₃ S.sep2_1) fun c _ o e => Heap.get?_push_of_some _ e) (D2.frame _ _ _ st2₃ fun c _ o e => Heap.get?_push_of_some _ e) hp hz4 fun c o c1 c2 c3 e => Heap.get?_push_of_some _ (hk c o c1 c2 c3 e)
theorem zipH_end {Q : PySem.Fin → Shared → Prop} (S : ZipSep2 z TI TO i1 i2 fp1 fp2) (D1 : Draws prog w A i1 fp1 n1 P1 St1) (D2 : Draws prog w A i2 fp2 n2 P2 St2)
    (hz : IsZipHeld s.heap z TI TO T f) (hT : s.heap.get? T = some oT) (hTI : IsPair s.heap TI (.ref i1) (.ref i2)) (st1 : St1 i s.heap) (st2 : St2 i s.heap) (hle1 : i ≤ n1) (hle2 : i ≤ n2) (hend : i = n1 ∨ i = n2)
    (hE : ∀ h' tk e, (∀ c o, c ≠ z → c ≠ i1 → c ≠ i2 → s.heap.get? c = some o → h'.get? c = some o) → (∃ o, h'.get? e = some o ∧ o.cls = .type "StopIteration") → E (.ref e) { s with heap := h', toks := tk }) :
    wpAny (model prog w) A (Builtin.«zip.__next__» ⟨[.ref z], []⟩) Q E s := by
  show wpAny _ _ (field (.ref z) 2 >>= _) _ _ _
  refine wpAny_bind (wpAny_field hz rfl (x := .bool false) rfl ?_)
  show wpAny _ _ (field (.ref z) 3 >>= _) _ _ _
  refine wpAny_bind (wpAny_field hz rfl (x := .ref TI) rfl ?_)
  refine wpAny_bind (wpAny_seqItems hTI rfl ?_)
  show wpAny _ _ (Builtin.SmallTypes.ownedTupleIsFree (.ref z) >>= _) _ _ _
  refine wpAny_bind (wpAny_tupleHeld_zip hz hT fun h₁ hz₁ hs₁ => ?_)
  simp only [Bool.false_eq_true, if_false]
  refine wpAny_bind ?_
  rw [← Array.forIn_toList]
  simp only [List.forIn_cons, List.forIn_nil]
  refine wpAny_bind (wpAny_bind (wpAny_holding ?_))
  show wpAny _ _ (Builtin.SmallTypes.nextOf (.ref i1) >>= _) _ _ _
  by_cases h1 : i = n1
  · subst h1
    exact wpAny_bind (D1.done { s with heap := h₁ } _ _ (D1.over st1 hs₁ S.zf1) fun h₂ e hs₂ he => hE h₂ _ e (fun c o c1 c2 _ x => hs₂ _ _ c2 (hs₁.extBut _ _ c1 x)) he)
  · have h2 : i = n2 := by omega
    subst h2
    refine wpAny_bind (D1.item i { s with heap := h₁ } _ _ (by omega) (D1.over st1 hs₁ S.zf1) fun x1 h₂ tk₂ e1 st1₂ hs₂ => wpAny_pure ?_)
    have hs₂ : Heap.SameBut i1 h₁ h₂ := hs₂
    refine wpAny_pure ?_
    refine wpAny_bind (wpAny_bind (wpAny_holding ?_))
    show wpAny _ _ (Builtin.SmallTypes.nextOf (.ref i2) >>= _) _ _ _
    exact wpAny_bind (D2.done { s with heap := h₂, toks := tk₂ } _ _ (D2.over (D2.over st2 hs₁ S.zf2) hs₂ S.sep1_2) fun h₃ e hs₃ he => hE h₃ _ e (fun c o c1 c2 c3 x => hs₃ _ _ c3 (hs₂.extBut _ _ c2 (hs₁.extBut _ _ c1 x))) he)
end
section
variable {prog : Program} {w : World} {A : Around} {E : Value → Shared → Prop} {s : Shared} {z TI TO i1 i2 T : Addr} {fp1 fp2 : List Addr} {n1 n2 i : Nat} {P1 P2 : Nat → Value → Prop} {St1 St2 : Nat → Heap → Prop} {f : Bool} {oT : Obj}
theorem pyNext_zipH_item {Q : Option Value → Shared → Prop} (S : ZipSep2 z TI TO i1 i2 fp1 fp2) (D1 : Draws prog w A.in1 i1 fp1 n1 P1 St1) (D2 : Draws prog w A.in1 i2 fp2 n2 P2 St2)
    (hz : IsZipHeld s.heap z TI TO T f) (hT : s.heap.get? T = some oT) (hTI : IsPair s.heap TI (.ref i1) (.ref i2)) (st1 : St1 i s.heap) (st2 : St2 i s.heap) (hlt1 : i < n1) (hlt2 : i < n2)
    (hQ : ∀ x1 x2 h' tk, P1 i x1 → P2 i x2 → IsZipHeld h' z TI TO T true → St1 (i + 1) h' → St2 (i + 1) h' → IsPair h' s.heap.objs.size x1 x2 → h'.objs.size = s.heap.objs.size + 1 →
      (∀ c o, c ≠ z → c ≠ i1 → c ≠ i2 → s.heap.get? c = some o → h'.get? c = some o) → Q (some (.ref s.heap.objs.size)) { s with heap := h', toks := tk }) :
    wpAny (model prog w) A (pyNext (.ref z)) Q E s := by
  have hTy : s.TypeIs (.ref z) "zip" := ⟨_, hz, rfl⟩
  unfold pyNext
  exact wpAny_bind (wpAny_attempt (wpAny_callSpecial?_slot (name := Str.ofString "__next__") hTy F.slot_zip_next
    (wpAny_call_entry F.slot_zip_next hTy F.entry_zip_next
      (zipH_item S D1 D2 hz hT hTI st1 st2 hlt1 hlt2 fun x1 x2 h' tk y1 y2 a1 a2 a3 a4 a5 a6 => wpAny_pure (hQ x1 x2 h' tk y1 y2 a1 a2 a3 a4 a5 a6)) (F.args_zip_next_1 _))))
theorem pyNext_zipH_end {Q : Option Value → Shared → Prop} (S : ZipSep2 z TI TO i1 i2 fp1 fp2) (D1 : Draws prog w A.in1 i1 fp1 n1 P1 St1) (D2 : Draws prog w A.in1 i2 fp2 n2 P2 St2)
    (hz : IsZipHeld s.heap z TI TO T f) (hT : s.heap.get? T = some oT) (hTI : IsPair s.heap TI (.ref i1) (.ref i2)) (st1 : St1 i s.heap) (st2 : St2 i s.heap) (hle1 : i ≤ n1) (hle2 : i ≤ n2) (hend : i = n1 ∨ i = n2)
    (hQ : ∀ h' tk, (∀ c o, c ≠ z → c ≠ i1 → c ≠ i2 → s.heap.get? c = some o → h'.get? c = some o) → Q none { s with heap := h', toks := tk }) : wpAny (model prog w) A (pyNext (.ref z)) Q E s := by
  have hTy : s.TypeIs (.ref z) "zip" := ⟨_, hz, rfl⟩
  unfold pyNext
  refine wpAny_bind (wpAny_attempt (wpAny_callSpecial?_slot (name := Str.ofString "__next__") hTy F.slot_zip_next
    (wpAny_call_entry F.slot_zip_next hTy F.entry_zip_next (zipH_end S D1 D2 hz hT hTI st1 st2 hle1 hle2 hend fun h' tk e hk he => ?_) (F.args_zip_next_1 _))))
  obtain ⟨o, ho, hc⟩ := he
  refine wpAny_bind (wpAny_isInstance (T := "StopIteration") (b := true) ⟨o, ho, hc⟩ isSubtype_stop ?_)
  exact wpAny_pure (hQ _ _ hk)
end
/-! ### list(zip(..)): turn by turn -/
theorem zip_no_len : typeLookup (.type "zip") "__len__" = pure none := by rw [typeLookup_type, builtinLookup_eq_fast]; kernel_rfl
theorem zip_no_hint : typeLookup (.type "zip") "__length_hint__" = pure none := by rw [typeLookup_type, builtinLookup_eq_fast]; kernel_rfl
/-- the zip ahead of turn i -/
structure Zst (k1 k2 : Bool) (z TI TO i1 i2 a b : Addr) (i : Nat) (h : Heap) : Prop where
  ti : IsPair h TI (.ref i1) (.ref i2)
  t1 : ItM k1 h i1 a i
  t2 : ItM k2 h i2 b i
  to : ∃ o, h.get? TO = some o
  zz : (IsZip h z TI TO .none ∧ ∃ x y, IsPair h TO x y) ∨ ∃ T f x y, IsZipHeld h z TI TO T f ∧ IsPair h T x y
theorem zloop {X : Cx} {pins : List (Addr × Obj)} {σ : L2.St} {A : Around} (hh : A.handled = none) {z TI TO i1 i2 a b S : Addr} {k1 k2 : Bool} (D : ZipApart z TI TO i1 i2 a b) (hn1 : i1 ≠ b) (hn2 : i2 ≠ a) {res : Value} {xs ys : List V} {W : Nat → Hp → Prop} {R : Result → Shared → Prop}
    (hq : ∀ i H, W i H → SqM k1 X.K H a xs ∧ SqM k2 X.K H b ys)
    (hstep : ∀ i H x y T, W i H → xs[i]? = some x → ys[i]? = some y → H T = none → ∃ acc, H S = some (.lst acc) ∧ acc.length < sizeLine ∧ W (i + 1) (upd (upd H T (.tup [x, y])) S (.lst (acc ++ [.ref T]))))
    (hS : ∀ i H, W i H → ∃ acc, H S = some (.lst acc))
    (hfin : ∀ H s', W (min xs.length ys.length) H → Inv X pins σ H s' → R (.ok (.ret res)) s') :
    ∀ (k i : Nat) (s : Shared) (H : Hp), min xs.length ys.length - i = k → i ≤ min xs.length ys.length → Inv X pins σ H s → (∀ c ∈ [z, TI, TO, i1, i2], FpOk X pins H c) → W i H → Zst k1 k2 z TI TO i1 i2 a b i s.heap →
      codeAny (model X.prog X.w) A (.builtin "list.extend.loop" ⟨[.ref S, .ref z, res], []⟩) R s := by
  intro k
  induction k with
  | zero =>
    intro i s H hk hi I hf w st
    obtain ⟨hqx, hqy⟩ := hq i H w
    obtain ⟨its, rv, p, _⟩ := seqM I hqx
    obtain ⟨its2, rv2, p2, _⟩ := seqM I hqy
    have l1 := rv.length
    have l2 := rv2.length
    have hin : i = min xs.length ys.length := by omega
    have D1 := drawsM (prog := X.prog) (w := X.w) (A := A.in1.in1) k1 hh i1 a D.l1i1 its.toArray
    have D2 := drawsM (prog := X.prog) (w := X.w) (A := A.in1.in1) k2 hh i2 b D.l2i2 its2.toArray
    refine codeAny_builtin F.entry_extend_loop ?_
    rw [Around.under_plainId F.plain_extend_loop _]
    show wpAny _ A.in1 (pyNext (.ref z) >>= _) _ _ s
    refine wpAny_bind ?_
    rcases st.zz with ⟨hz, x0, y0, hTO⟩ | ⟨T, f, x0, y0, hz, hT⟩
    · refine wpAny_pyNext_zipD2_end (sepM D hn1 hn2) D1 D2 hz st.ti hTO ⟨st.t1, p⟩ ⟨st.t2, p2⟩ (by rw [List.size_toArray]; omega) (by rw [List.size_toArray]; omega) (by rw [List.size_toArray, List.size_toArray]; omega) fun h' tk hk => wpAny_pure ?_
      exact hfin H _ (by rw [← hin]; exact w) (I.turnedL (t' := tk) (ch := [z, TI, TO, i1, i2]) (fun c o hb q =>
        hk c o (fun q' => hb (by simp [q'])) (fun q' => hb (by simp [q'])) (fun q' => hb (by simp [q'])) (fun q' => hb (by simp [q'])) q) hf)
    · refine pyNext_zipH_end (sepM D hn1 hn2) D1 D2 hz hT st.ti ⟨st.t1, p⟩ ⟨st.t2, p2⟩ (by rw [List.size_toArray]; omega) (by rw [List.size_toArray]; omega) (by rw [List.size_toArray, List.size_toArray]; omega) fun h' tk hk => wpAny_pure ?_
      exact hfin H _ (by rw [← hin]; exact w) (I.turnedL (t' := tk) (ch := [z, TI, TO, i1, i2]) (fun c o hb q =>
        hk c o (fun q' => hb (by simp [q'])) (fun q' => hb (by simp [q'])) (fun q' => hb (by simp [q'])) q) hf)
  | succ k ih =>
    intro i s H hk hi I hf w st
    obtain ⟨hqx, hqy⟩ := hq i H w
    obtain ⟨its, rv, p, _⟩ := seqM I hqx
    obtain ⟨its2, rv2, p2, _⟩ := seqM I hqy
    have l1 := rv.length
    have l2 := rv2.length
    have hx : xs[i]? = some xs[i] := List.getElem?_eq_getElem (by omega)
    have hy : ys[i]? = some ys[i] := List.getElem?_eq_getElem (by omega)
    obtain ⟨u, hu, ru⟩ := rv.get hx
    obtain ⟨u2, hu2, ru2⟩ := rv2.get hy
    have D1 := drawsM (prog := X.prog) (w := X.w) (A := A.in1.in1) k1 hh i1 a D.l1i1 its.toArray
    have D2 := drawsM (prog := X.prog) (w := X.w) (A := A.in1.in1) k2 hh i2 b D.l2i2 its2.toArray
    have hTn : H s.heap.objs.size = none := I.hok.fresh (Nat.le_refl _)
    obtain ⟨acc, hacc, hsz1, w'⟩ := hstep i H xs[i] ys[i] s.heap.objs.size w hx hy hTn
    have hST : S ≠ s.heap.objs.size := fun e => by rw [e, hTn] at hacc; cases hacc
    have hSc : ∀ c ∈ [z, TI, TO, i1, i2], S ≠ c := fun c hc e => by
      have := (hf c hc).1
      rw [← e, hacc] at this
      cases this
    have lts : ∀ c ∈ [z, TI, TO, i1, i2], c < s.heap.objs.size := fun c hcm => by
      have e' : c = z ∨ c = TI ∨ c = TO ∨ c = i1 ∨ c = i2 := by simpa using hcm
      rcases e' with q | q | q | q | q
      · rw [q]
        rcases st.zz with ⟨hz, _⟩ | ⟨T, f, x0, y0, hz, hT⟩
        · exact Heap.lt_size hz
        · exact Heap.lt_size hz
      · rw [q]; exact Heap.lt_size st.ti
      · rw [q]; obtain ⟨_, e⟩ := st.to; exact Heap.lt_size e
      · rw [q]; obtain ⟨_, e1, _⟩ := st.t1.obj; exact Heap.lt_size e1
      · rw [q]; obtain ⟨_, e2, _⟩ := st.t2.obj; exact Heap.lt_size e2
    refine codeAny_builtin F.entry_extend_loop ?_
    rw [Around.under_plainId F.plain_extend_loop _]
    show wpAny _ A.in1 (pyNext (.ref z) >>= _) _ _ s
    refine wpAny_bind ?_
    -- what follows the next
    have go : ∀ h' tk, IsPair h' s.heap.objs.size u u2 → IsPair h' TI (.ref i1) (.ref i2) → ItM k1 h' i1 a (i + 1) → ItM k2 h' i2 b (i + 1) → (∃ T f x y, IsZipHeld h' z TI TO T f ∧ IsPair h' T x y) → (∃ o, h'.get? TO = some o) →
        (∀ c o, c ∉ [z, TI, TO, i1, i2] → s.heap.get? c = some o → h'.get? c = some o) →
        wpAny (model X.prog X.w) A.in1 (updateSeq S (·.push (.ref s.heap.objs.size)) >>= fun _ => again (.builtin "list.extend.loop" ⟨[.ref S, .ref z, res], []⟩)) (fun fin s' => match fin with | .done f => R (.ok f) s' | .again c' => c'.quiet = true ∧ codeAny (model X.prog X.w) A c' R s') (fun e s' => R (.error e) s') { s with heap := h', toks := tk } := by
      intro h' tk hT hTI h1 h2 hz hTO hk
      have new : ObjOk X.prog X.w (upd H s.heap.objs.size (.tup [xs[i], ys[i]])) h' s.heap.objs.size (.tup [xs[i], ys[i]]) :=
        ⟨by show 2 ≤ sizeLine; decide, [u, u2], .cons ru (.cons ru2 .nil), ⟨_, hT, rfl, _, rfl⟩⟩
      have I1 : Inv X pins σ (upd H s.heap.objs.size (.tup [xs[i], ys[i]])) { s with heap := h', toks := tk } := I.turnedNew (t' := tk) (ch := [z, TI, TO, i1, i2]) hk hf (Nat.le_refl _) new
      have hacc1 : upd H s.heap.objs.size (.tup [xs[i], ys[i]]) S = some (.lst acc) := by rw [upd_ne hST]; exact hacc
      obtain ⟨_, its3, m3, rv3, e3⟩ := I1.hok S _ hacc1
      have l3 := rv3.length
      have e3 : h'.get? S = some { cls := .type "list", data := .seq its3.toArray m3 } := e3
      have upo : ∀ c o, c ≠ S → h'.get? c = some o → (h'.update S (Obj.mapSeq (·.push (.ref s.heap.objs.size)))).get? c = some o := fun c o hc e => (Heap.get?_update_other _ _ (Ne.symm hc)).trans e
      have mem : ∀ c, c ∈ [z, TI, TO, i1, i2] → c ≠ S := fun c hc => (hSc c hc).symm
      refine wpAny_bind ?_
      refine wpAny_updateSeq e3 rfl (wpAny_pure ⟨plainId_quiet F.plain_extend_loop _, ih (i + 1) _ _ (by omega) (by omega) (I1.lset (its' := its3 ++ [.ref s.heap.objs.size]) (f := fun v => v.push (.ref s.heap.objs.size)) (t' := tk) hacc1 e3 (by simp) (rv3.append (.cons (show L2.RelV (.ref s.heap.objs.size) (.ref s.heap.objs.size) from rfl) .nil)) (by rw [List.length_append, List.length_singleton]; omega)) (fun c hc => ?_) w' ⟨upo _ _ (mem TI (by simp)) hTI, h1.at fun o e => upo _ _ (mem i1 (by simp)) e, h2.at fun o e => upo _ _ (mem i2 (by simp)) e, hTO.elim fun o e => ⟨o, upo _ _ (mem TO (by simp)) e⟩, .inr ?_⟩⟩) (by rw [List.size_toArray]; omega) (by show (its3.toArray.push _).size ≤ sizeLine + 1; rw [Array.size_push, List.size_toArray]; omega)
      · obtain ⟨f0, f1, f2, f3, f4, f5⟩ := hf c hc
        refine ⟨?_, f1, f2, f3, f4, f5⟩
        rw [upd_ne (mem c hc), upd_ne (Nat.ne_of_lt (lts c hc))]
        exact f0
      · obtain ⟨T, f, x, y, hz1, hz2⟩ := hz
        refine ⟨T, f, x, y, upo _ _ (mem z (by simp)) hz1, upo _ _ (fun e => ?_) hz2⟩
        have hz2 : h'.get? T = some _ := hz2
        rw [e, e3] at hz2
        simp at hz2
    have e1 : ∀ x1, its.toArray[i]? = some x1 → x1 = u := fun x1 e => by
      rw [List.getElem?_toArray, hu] at e
      exact (Option.some.inj e).symm
    have e2 : ∀ x1, its2.toArray[i]? = some x1 → x1 = u2 := fun x1 e => by
      rw [List.getElem?_toArray, hu2] at e
      exact (Option.some.inj e).symm
    rcases st.zz with ⟨hz, x0, y0, hTO⟩ | ⟨T, f, x0, y0, hz, hT⟩
    · refine wpAny_pyNext_zipD2_item (sepM D hn1 hn2) D1 D2 hz st.ti hTO ⟨st.t1, p⟩ ⟨st.t2, p2⟩ (by rw [List.size_toArray]; omega) (by rw [List.size_toArray]; omega) fun x1 x2 h' tk y1 y2 z' TO' s1' s2' hT hsz hk => ?_
      have q1 := e1 x1 y1
      have q2 := e2 x2 y2
      subst q1 q2
      refine go h' tk hT (hk _ _ D.TIz D.TITO D.TIi1 D.TIi2 st.ti) s1'.1 s2'.1 ⟨s.heap.objs.size, false, x1, x2, z', hT⟩ ⟨_, TO'⟩ fun c o hc q => ?_
      exact hk c o (fun q' => hc (by simp [q'])) (fun q' => hc (by simp [q'])) (fun q' => hc (by simp [q'])) (fun q' => hc (by simp [q'])) q
    · refine pyNext_zipH_item (sepM D hn1 hn2) D1 D2 hz hT st.ti ⟨st.t1, p⟩ ⟨st.t2, p2⟩ (by rw [List.size_toArray]; omega) (by rw [List.size_toArray]; omega) fun x1 x2 h' tk y1 y2 z' s1' s2' hT' hsz hk => ?_
      have q1 := e1 x1 y1
      have q2 := e2 x2 y2
      subst q1 q2
      have nT : ∀ c, c ∈ [z, i1, i2] → T ≠ c := fun c hc e => by
        have hT : s.heap.get? T = some _ := hT
        have e' : c = z ∨ c = i1 ∨ c = i2 := by simpa using hc
        rcases e' with q | q | q
        · rw [e, q, hz] at hT; simp at hT
        · obtain ⟨o, eo, hd⟩ : ∃ o, s.heap.get? i1 = some o ∧ ∃ vs, o.data = .fields vs := by
            have := st.t1
            cases k1 with
            | true =>
              obtain ⟨o, e, _, d⟩ := this
              exact ⟨o, e, _, d⟩
            | false =>
              obtain ⟨o, e, _, d⟩ := this
              exact ⟨o, e, _, d⟩
          rw [e, q, eo] at hT
          obtain ⟨vs, hd⟩ := hd
          rw [Option.some.inj hT] at hd
          cases hd
        · obtain ⟨o, eo, hd⟩ : ∃ o, s.heap.get? i2 = some o ∧ ∃ vs, o.data = .fields vs := by
            have := st.t2
            cases k2 with
            | true =>
              obtain ⟨o, e, _, d⟩ := this
              exact ⟨o, e, _, d⟩
            | false =>
              obtain ⟨o, e, _, d⟩ := this
              exact ⟨o, e, _, d⟩
          rw [e, q, eo] at hT
          obtain ⟨vs, hd⟩ := hd
          rw [Option.some.inj hT] at hd
          cases hd
      refine go h' tk hT' (hk _ _ D.TIz D.TIi1 D.TIi2 st.ti) s1'.1 s2'.1 ⟨T, true, x0, y0, z', hk _ _ (nT z (by simp)) (nT i1 (by simp)) (nT i2 (by simp)) hT⟩ (st.to.elim fun o e => ⟨o, hk _ _ D.TOz D.TOi1 D.TOi2 e⟩) fun c o hc q => ?_
      exact hk c o (fun q' => hc (by simp [q'])) (fun q' => hc (by simp [q'])) (fun q' => hc (by simp [q'])) q
end Hw

namespace Hw
open PySem PySem.Spec PyProof.Rows L2
open Sem (wp)

/-! ### list(zip(a, b)) as an expression -/
def tLz (K : PySem.W.Frag) (ta : TA) : TE := fun σ H Q => ta σ H fun vs H1 => ∃ k1 k2 a b xs ys, vs = [.ref a, .ref b] ∧ SqM k1 K H1 a xs ∧ SqM k2 K H1 b ys ∧ ∀ S, H1 S = none → ∃ W : Nat → Hp → Prop, W 0 (upd H1 S (.lst [])) ∧
  (∀ i H, W i H → SqM k1 K H a xs ∧ SqM k2 K H b ys) ∧
  (∀ i H x y T, W i H → xs[i]? = some x → ys[i]? = some y → H T = none → ∃ acc, H S = some (.lst acc) ∧ acc.length < sizeLine ∧ W (i + 1) (upd (upd H T (.tup [x, y])) S (.lst (acc ++ [.ref T])))) ∧
  (∀ i H, W i H → ∃ acc, H S = some (.lst acc)) ∧ ∀ H, W (min xs.length ys.length) H → Q (.ref S) H
theorem call_lz {X : Cx} {pins : List (Addr × Obj)} {σ : L2.St} {s : Shared} {H : Hp} {Q : VK} {z TI TO i1 i2 a b : Addr} {k1 k2 : Bool} {xs ys : List V} (hc : X.calm = true) (I : Inv X pins σ H s) (D : ZipApart z TI TO i1 i2 a b) (hn1 : i1 ≠ b) (hn2 : i2 ≠ a)
    (hf : ∀ c ∈ [z, TI, TO, i1, i2], FpOk X pins H c) (st : Zst k1 k2 z TI TO i1 i2 a b 0 s.heap) (hz0 : IsZip s.heap z TI TO .none)
    (W : Nat → Hp → Prop) (w0 : W 0 (upd H s.heap.objs.size (.lst []))) (hq : ∀ i H, W i H → SqM k1 X.K H a xs ∧ SqM k2 X.K H b ys)
    (hstep : ∀ i H x y T, W i H → xs[i]? = some x → ys[i]? = some y → H T = none → ∃ acc, H s.heap.objs.size = some (.lst acc) ∧ acc.length < sizeLine ∧ W (i + 1) (upd (upd H T (.tup [x, y])) s.heap.objs.size (.lst (acc ++ [.ref T]))))
    (hS : ∀ i H, W i H → ∃ acc, H s.heap.objs.size = some (.lst acc)) (hfin : ∀ H, W (min xs.length ys.length) H → Q (.ref s.heap.objs.size) H) :
    wpAny (model X.prog X.w) X.A (call (.type "list") [.ref z]) (EP X pins σ Q) X.xe s := by
  have hh : X.A.handled = none := I.ok.hd hc
  refine callType_codes (Q₁ := fun obj s₁ => obj = .ref s.heap.objs.size ∧ s₁ = { s with heap := s.heap.push { cls := .type "list", data := .seq #[] } }) F.called_list (F.typeCall_list_1 _) F.entry_list_init
    (code_list_new _ ⟨rfl, rfl⟩) fun obj s₁ h₁ => ?_
  obtain ⟨rfl, rfl⟩ := h₁
  generalize hSz : s.heap.objs.size = S at *
  have gS : (s.heap.push { cls := .type "list", data := .seq #[] }).get? S = some { cls := .type "list", data := .seq #[] } := by
    rw [← hSz]
    exact Heap.get?_push_size _ rfl
  have hSc : ∀ c ∈ [z, TI, TO, i1, i2], c ≠ S := fun c hc => by
    have e' : c = z ∨ c = TI ∨ c = TO ∨ c = i1 ∨ c = i2 := by simpa using hc
    have hlt : c < s.heap.objs.size := by
      rcases e' with q | q | q | q | q
      · rw [q]; exact Heap.lt_size hz0
      · rw [q]; exact Heap.lt_size st.ti
      · rw [q]; obtain ⟨_, e⟩ := st.to; exact Heap.lt_size e
      · rw [q]; obtain ⟨_, e1, _⟩ := st.t1.obj; exact Heap.lt_size e1
      · rw [q]; obtain ⟨_, e2, _⟩ := st.t2.obj; exact Heap.lt_size e2
    rw [← hSz]
    exact Nat.ne_of_lt hlt
  have I3 : Inv X pins σ (upd H S (.lst [])) { s with heap := s.heap.push { cls := .type "list", data := .seq #[] } } :=
    I.laid (t' := s.toks) (fun b o e => Heap.get?_push_of_some _ e) (Nat.le_of_eq hSz) ⟨Nat.zero_le _, [], 0, .nil, gS⟩
  refine ⟨⟨_, gS, rfl⟩, F.args_list_init_2 _ _, ?_⟩
  show wpAny _ X.A.in1.in1 (do let old ← Builtin.List.listItems (.ref S); Builtin.List.listUpdate (.ref S) (fun _ => #[]); letGo old.toList.reverse; Builtin.List.listExtendWith (.ref S) (.ref z) .none) _ _ _
  refine wpAny_bind ?_
  unfold Builtin.List.listItems
  refine wpAny_bind (wpAny_seqItems gS rfl (wpAny_pure ?_))
  show wpAny _ X.A.in1.in1 (updateSeq S (fun _ => #[]) >>= fun _ => letGo (#[] : Array Value).toList.reverse >>= fun _ => Builtin.List.listExtendWith (.ref S) (.ref z) .none) _ _ _
  refine wpAny_bind (wpAny_updateSeq gS rfl ?_)
  have I4 := I3.lset (ys := []) (its := []) (its' := []) (f := fun _ => (#[] : Array Value)) (t' := s.toks) (l := S) upd_same gS rfl .nil (Nat.zero_le _)
  rw [upd_upd] at I4
  have g2 := Heap.get?_update_self (Obj.mapSeq (fun _ => (#[] : Array Value))) gS rfl
  have k2' : ∀ c o, c ≠ S → s.heap.get? c = some o → ((s.heap.push { cls := .type "list", data := .seq #[] }).update S (Obj.mapSeq (fun _ => (#[] : Array Value)))).get? c = some o := fun c o hc e => (Heap.get?_update_other _ _ (Ne.symm hc)).trans (Heap.get?_push_of_some _ e)
  generalize hh2 : (s.heap.push { cls := .type "list", data := .seq #[] }).update S (Obj.mapSeq (fun _ => (#[] : Array Value))) = h2 at *
  refine wpAny_bind (wpAny_letGo ?_)
  have hz2 : IsZip h2 z TI TO .none := k2' _ _ (hSc z (by simp)) hz0
  have hT2 : (({ s with heap := h2 } : Shared)).TypeIs (.ref z) "zip" := ⟨_, hz2, rfl⟩
  have hSz2 : S ≠ z := (hSc z (by simp)).symm
  unfold Builtin.List.listExtendWith
  refine wpAny_bind (wpAny_typeOf hT2 ?_)
  have e1 : Builtin.List.listSameRef (.ref S) (.ref z) = false := by simp [Builtin.List.listSameRef, hSz2]
  have e2 : (Value.type "zip" == Value.type "list") = false := by decide
  have e3 : (Value.type "zip" == Value.type "tuple") = false := by decide
  simp only [e1, e2, e3, Bool.or_false, Bool.false_eq_true, if_false]
  refine wpAny_bind (wpAny_pyIter_zip hz2 ?_)
  refine wpAny_bind (wpAny_holding ?_)
  unfold Builtin.List.listLengthHint
  refine wpAny_bind (wpAny_specialOf hT2 zip_no_len ?_)
  show wpAny _ X.A.in1.in1 (specialOf (Value.ref z) (Str.ofString "__length_hint__") >>= _) _ _ _
  refine wpAny_bind (wpAny_specialOf hT2 zip_no_hint ?_)
  refine wpAny_pure ?_
  show wpAny _ X.A.in1.in1 (rule "list.extend.makes-room" >>= fun _ => Builtin.List.listTouch (.ref S) >>= fun _ =>
    again (.builtin "list.extend.loop" ⟨[.ref S, .ref z, .none], []⟩)) _ _ _
  refine wpAny_bind (wpAny_rule ?_)
  refine wpAny_bind ?_
  show wpAny _ X.A.in1.in1 (updateSeq S (·.push .none) >>= fun _ => updateSeq S (·.pop)) _ _ _
  refine wpAny_bind (wpAny_updateSeq g2 rfl ?_)
  have g3 := Heap.get?_update_self (Obj.mapSeq (·.push Value.none)) g2 rfl
  refine wpAny_updateSeq (hz := by seq_fits) g3 rfl ?_
  have g4 := Heap.get?_update_self (Obj.mapSeq (·.pop)) g3 rfl
  have k4 : ∀ c o, c ≠ S → s.heap.get? c = some o → ((h2.update S (Obj.mapSeq (·.push Value.none))).update S (Obj.mapSeq (·.pop))).get? c = some o := fun c o hc e =>
    (Heap.get?_update_other _ _ (Ne.symm hc)).trans ((Heap.get?_update_other _ _ (Ne.symm hc)).trans (k2' c o hc e))
  have I5 : Inv X pins σ (upd H S (.lst [])) { s with heap := (h2.update S (Obj.mapSeq (·.push Value.none))).update S (Obj.mapSeq (·.pop)), toks := s.toks } := by
    have q := I4.write (x := S) (e := S) (o := .lst []) (t' := s.toks) (h' := (h2.update S (Obj.mapSeq (·.push Value.none))).update S (Obj.mapSeq (·.pop))) (by rw [upd_same]; trivial) (.inl rfl) (fun c u hc e => (Heap.get?_update_other _ _ (Ne.symm hc)).trans ((Heap.get?_update_other _ _ (Ne.symm hc)).trans e)) ⟨_, g4⟩ ⟨Nat.zero_le _, [], _, .nil, g4⟩
    rw [upd_upd] at q
    exact q
  refine wpAny_pure ⟨plainId_quiet F.plain_extend_loop _, zloop (A := X.A.in1) hh D hn1 hn2 hq hstep hS (fun H' s' w I' => ⟨rfl, .ref S, H', I', rfl, hfin H' w⟩) _ 0 _ _ rfl (Nat.zero_le _) I5 (fun c hc => ?_) w0 ⟨k4 _ _ (hSc TI (by simp)) st.ti, st.t1.at fun o e => k4 _ _ (hSc i1 (by simp)) e, st.t2.at fun o e => k4 _ _ (hSc i2 (by simp)) e, st.to.elim fun o e => ⟨o, k4 _ _ (hSc TO (by simp)) e⟩, ?_⟩⟩
  · obtain ⟨f0, f1, f2, f3, f4, f5⟩ := hf c hc
    exact ⟨by rw [upd_ne (hSc c hc)]; exact f0, f1, f2, f3, f4, f5⟩
  · rcases st.zz with ⟨hz, x, y, e⟩ | ⟨T, f, x, y, hz, _⟩
    · exact .inl ⟨k4 _ _ (hSc z (by simp)) hz, x, y, k4 _ _ (hSc TO (by simp)) e⟩
    · have hz : s.heap.get? z = some _ := hz
      have hz0 : s.heap.get? z = some _ := hz0
      rw [hz0] at hz
      simp [rawInt] at hz
theorem pe_lz {X : Cx} {e e2 : Expr} {ta : TA} {p1 p2 p3 p4 : Pos} (hc : X.calm = true) (hgl : Gl X "list") (hml : X.mg "list" = none) (hgz : Gl X "zip") (hmz : X.mg "zip" = none) (ha : PA X [e, e2] ta)
    (hs : starEach [e, e2] X.env = (false, eval e X.env) :: starEach [e2] X.env) (hpl : (backTo p3 (starEach [e2] X.env)).any (·.1) = false) : PE X (.Call (.Name "list" p1) [.Call (.Name "zip" p2) [e, e2] [] p3] [] p4) (tLz X.K ta) := by
  refine ⟨fun pins s σ H Q I h => ?_⟩
  refine Call_ (ld_blt I hgl hml PyProof.Rows.boot_list (PyProof.Rows.callWith_type1 (args_cons ?_ (by rfl)) (by rfl) (by rfl)))
  refine Call_ (ld_blt I hgz hmz PyProof.Rows.boot_zip (PyProof.Rows.callWith_type1 (thn (ha.run p3 pins s σ H _ I h) fun us s1 ⟨vs, H1, I1, r1, q1⟩ => ?_) hs hpl))
  obtain ⟨k1, k2, a, b, xs, ys, ex, hqx, hqy, q⟩ := q1
  subst ex
  cases r1 with
  | cons r rr =>
    cases rr with
    | cons r' rr =>
      cases rr
      cases r
      cases r'
      obtain ⟨its, rv, q1, _⟩ := seqM I1 hqx
      obtain ⟨its2, rv2, q2, _⟩ := seqM I1 hqy
      have la := q1.lt
      have lb := q2.lt
      refine zip_begins2 (beginsM k1 a its.toArray) (beginsM k2 b its2.toArray) q1 q2 fun h' hz hTI hTO h1 h2 hsz hk => args_nil ?_
      have I2 : Inv X pins σ H1 { s1 with heap := h' } := I1.kept (t' := s1.toks) hk
      obtain ⟨W, w0, w1, w2, w3, w4⟩ := q h'.objs.size (I2.hok.fresh (Nat.le_refl _))
      exact call_lz hc I2 (PySem.W.ktu_apart s1.heap.objs.size a b la lb) (Nat.ne_of_gt lb) (Nat.ne_of_gt (Nat.lt_succ_of_lt la)) (fresh5 I1) ⟨hTI, itM_new h1, itM_new h2, ⟨_, hTO⟩, .inl ⟨hz, _, _, hTO⟩⟩ hz W w0 w1 w2 w3 w4
end Hw

namespace Hw
open PySem PySem.Spec PyProof.Rows L2 PyProof.V
open Sem (wp)

/-! ### sum, min, max of lists and tuples of whole numbers -/
section
variable {prog : Program} {w : World} {A : Around} {E : Value → Shared → Prop} {s : Shared} {t : Addr}
theorem min_intT {xs : Array (Int × Tok)} {Q : Value → Shared → Prop} (hh : A.handled = none) (ht : s.heap.IsTuple t (intItems xs)) (hne : 0 < xs.size)
    (h : ∀ v h' tk, (intItems xs)[argBest (fun i j => decide (numAt xs i < numAt xs j)) (xs.size - 1)]? = some v → (∀ b o, s.heap.get? b = some o → h'.get? b = some o) → Q v { s with heap := h', toks := tk }) :
    wpAny (model prog w) A (call (.builtin "min") [.ref t]) Q E s := by
  obtain ⟨o, ho, hc, n, hd⟩ := id ht
  have hnt : t ≠ s.heap.objs.size := Nat.ne_of_lt (Heap.lt_size ho)
  have hsz : (intItems xs).size = xs.size := by simp [intItems]
  refine call_min_walk (wpAny_pyIter_tuple ht ?_)
  refine ⟨_, _, _, _, _, _, _, rfl, Walks.tuple (A := A.in1) hh s.heap.objs.size t hnt (intItems xs), ⟨⟨_, Heap.get?_push_size _ rfl, rfl, rfl⟩, ht.at fun o e => Heap.get?_push_of_some _ e⟩, fun b hb => ?_, by rw [hsz]; exact hne, CmpOf.ints_lt (numAt xs) (fun _ _ => intItems_at), fun v h' tk hP hk => ?_⟩
  · rcases List.mem_cons.mp hb with rfl | hb
    · exact Heap.lt_size (Heap.get?_push_size _ rfl)
    · obtain rfl := List.mem_singleton.mp hb
      exact Heap.lt_size (Heap.get?_push_of_some _ ho)
  · exact h v h' tk (by rw [hsz] at hP; exact hP) (fun b o e => hk b o (fun hb => absurd (Heap.lt_size e) ((List.mem_singleton.mp hb) ▸ Nat.lt_irrefl _)) (Heap.get?_push_of_some _ e))
theorem max_intT {xs : Array (Int × Tok)} {Q : Value → Shared → Prop} (hh : A.handled = none) (ht : s.heap.IsTuple t (intItems xs)) (hne : 0 < xs.size)
    (h : ∀ v h' tk, (intItems xs)[argBest (fun i j => decide (numAt xs i > numAt xs j)) (xs.size - 1)]? = some v → (∀ b o, s.heap.get? b = some o → h'.get? b = some o) → Q v { s with heap := h', toks := tk }) :
    wpAny (model prog w) A (call (.builtin "max") [.ref t]) Q E s := by
  obtain ⟨o, ho, hc, n, hd⟩ := id ht
  have hnt : t ≠ s.heap.objs.size := Nat.ne_of_lt (Heap.lt_size ho)
  have hsz : (intItems xs).size = xs.size := by simp [intItems]
  refine call_max_walk (wpAny_pyIter_tuple ht ?_)
  refine ⟨_, _, _, _, _, _, _, rfl, Walks.tuple (A := A.in1) hh s.heap.objs.size t hnt (intItems xs), ⟨⟨_, Heap.get?_push_size _ rfl, rfl, rfl⟩, ht.at fun o e => Heap.get?_push_of_some _ e⟩, fun b hb => ?_, by rw [hsz]; exact hne, CmpOf.ints_gt (numAt xs) (fun _ _ => intItems_at), fun v h' tk hP hk => ?_⟩
  · rcases List.mem_cons.mp hb with rfl | hb
    · exact Heap.lt_size (Heap.get?_push_size _ rfl)
    · obtain rfl := List.mem_singleton.mp hb
      exact Heap.lt_size (Heap.get?_push_of_some _ ho)
  · exact h v h' tk (by rw [hsz] at hP; exact hP) (fun b o e => hk b o (fun hb => absurd (Heap.lt_size e) ((List.mem_singleton.mp hb) ▸ Nat.lt_irrefl _)) (Heap.get?_push_of_some _ e))
end
section
variable {X : Cx}
def rSumT (K : PySem.W.Frag) : List V → Hp → VK → Prop := fun vs H Q => ∃ (a : Addr) (ns : List Int), vs = [V.ref a] ∧ SqT K H a (ns.map V.int) ∧ Q (.int ns.sum) H
def rMaxT (K : PySem.W.Frag) : List V → Hp → VK → Prop := fun vs H Q => ∃ (a : Addr) (ns : List Int), vs = [V.ref a] ∧ SqT K H a (ns.map V.int) ∧ 0 < ns.length ∧ ∀ m, m ∈ ns → (∀ y, y ∈ ns → y ≤ m) → Q (.int m) H
def rMinT (K : PySem.W.Frag) : List V → Hp → VK → Prop := fun vs H Q => ∃ (a : Addr) (ns : List Int), vs = [V.ref a] ∧ SqT K H a (ns.map V.int) ∧ 0 < ns.length ∧ ∀ m, m ∈ ns → (∀ y, y ∈ ns → m ≤ y) → Q (.int m) H
theorem cr_sumT (hc : X.calm = true) : CallR X (.builtin "sum") (rSumT X.K) := by
  intro pins s σ H vs us Q I r h
  obtain ⟨a, ns, rfl, hs, q⟩ := h
  obtain ⟨its, rv, hl, _⟩ := I.tuple hs
  rw [Vals.ref1 r]
  have hi := rv.ints
  obtain ⟨xs, e⟩ := hi.allInts.items
  have hn : numsOf (intItems xs).toList = ns := by rw [← e]; exact hi.numsOf
  rw [nums_intItems] at hn
  rw [e] at hl
  refine PySem.W.ktm_sumG (I.ok.hd hc) hl fun h' tk t' hk => ?_
  rw [preSum_eq, List.take_of_length_le (by simp), hn]
  exact ⟨.int _, H, I.kept hk, ⟨_, rfl⟩, q⟩
theorem cr_maxT (hc : X.calm = true) : CallR X (.builtin "max") (rMaxT X.K) := by
  intro pins s σ H vs us Q I r h
  obtain ⟨a, ns, rfl, hs, hne, q⟩ := h
  obtain ⟨its, rv, hl, _⟩ := I.tuple hs
  rw [Vals.ref1 r]
  have hi := rv.ints
  obtain ⟨xs, e⟩ := hi.allInts.items
  have hn : numsOf (intItems xs).toList = ns := by rw [← e]; exact hi.numsOf
  rw [nums_intItems] at hn
  subst hn
  rw [e] at hl
  have hsz : 0 < xs.size := by simpa using hne
  refine max_intT (I.ok.hd hc) hl hsz fun v h' tk hv hk => ?_
  obtain ⟨t, rfl⟩ := intItems_at hv
  obtain ⟨h1, h2⟩ := argBest_gt (numAt xs) (xs.size - 1)
  refine ⟨.int _, H, I.kept hk, ⟨_, rfl⟩, q _ ?_ fun y hy => ?_⟩
  · rw [numAt_eq]; exact PySem.getD_mem (by rw [List.length_map, Array.length_toList]; omega)
  · obtain ⟨j, hj, rfl⟩ := mem_getD hy
    rw [List.length_map, Array.length_toList] at hj
    rw [← numAt_eq]; exact h2 j (by omega)
theorem cr_minT (hc : X.calm = true) : CallR X (.builtin "min") (rMinT X.K) := by
  intro pins s σ H vs us Q I r h
  obtain ⟨a, ns, rfl, hs, hne, q⟩ := h
  obtain ⟨its, rv, hl, _⟩ := I.tuple hs
  rw [Vals.ref1 r]
  have hi := rv.ints
  obtain ⟨xs, e⟩ := hi.allInts.items
  have hn : numsOf (intItems xs).toList = ns := by rw [← e]; exact hi.numsOf
  rw [nums_intItems] at hn
  subst hn
  rw [e] at hl
  have hsz : 0 < xs.size := by simpa using hne
  refine min_intT (I.ok.hd hc) hl hsz fun v h' tk hv hk => ?_
  obtain ⟨t, rfl⟩ := intItems_at hv
  obtain ⟨h1, h2⟩ := argBest_lt (numAt xs) (xs.size - 1)
  refine ⟨.int _, H, I.kept hk, ⟨_, rfl⟩, q _ ?_ fun y hy => ?_⟩
  · rw [numAt_eq]; exact PySem.getD_mem (by rw [List.length_map, Array.length_toList]; omega)
  · obtain ⟨j, hj, rfl⟩ := mem_getD hy
    rw [List.length_map, Array.length_toList] at hj
    rw [← numAt_eq]; exact h2 j (by omega)
end
/-! on data -/
def allInts : List PV → Option (List Int)
  | [] => some []
  | .int i :: xs => match allInts xs with
    | some ns => some (i :: ns)
    | none => none
  | _ :: _ => none
theorem allInts_map : ∀ (ns : List Int), allInts (ns.map PV.int) = some ns
  | [] => rfl
  | n :: ns => by
    show (match allInts (ns.map PV.int) with
      | some ns => some (n :: ns)
      | none => none) = _
    rw [allInts_map ns]
theorem allInts_eq : ∀ {xs : List PV} {ns : List Int}, allInts xs = some ns → xs = ns.map PV.int
  | [], _, h => by cases h; rfl
  | x :: xs, ns, h => by
    cases x <;> try (cases h; done)
    rename_i i
    have h : (match allInts xs with
      | some ns => some (i :: ns)
      | none => none) = some ns := h
    cases q : allInts xs with
    | none => rw [q] at h; cases h
    | some ms =>
      rw [q] at h
      cases h
      rw [allInts_eq q]
      rfl
def items2 : PV → Option (List PV)
  | .lst xs => some xs
  | .tup xs => some xs
  | _ => none
def maxL : List Int → Int
  | [] => 0
  | [n] => n
  | n :: m :: ns => max n (maxL (m :: ns))
def minL : List Int → Int
  | [] => 0
  | [n] => n
  | n :: m :: ns => min n (minL (m :: ns))
theorem maxL_ge : ∀ {ns : List Int} {y : Int}, y ∈ ns → y ≤ maxL ns
  | [n], y, h => by
    rw [List.mem_singleton.mp h]
    exact Int.le_refl _
  | n :: m :: ns, y, h => by
    show y ≤ max n (maxL (m :: ns))
    rcases List.mem_cons.mp h with rfl | h
    · omega
    · have := maxL_ge h
      omega
theorem maxL_mem : ∀ {ns : List Int}, ns ≠ [] → maxL ns ∈ ns
  | [n], _ => List.mem_singleton.mpr rfl
  | n :: m :: ns, _ => by
    have := maxL_mem (ns := m :: ns) (by simp)
    show max n (maxL (m :: ns)) ∈ _
    rcases Int.le_total n (maxL (m :: ns)) with h | h
    · rw [Int.max_eq_right h]
      exact List.mem_cons_of_mem _ this
    · rw [Int.max_eq_left h]
      exact List.mem_cons_self
theorem minL_le : ∀ {ns : List Int} {y : Int}, y ∈ ns → minL ns ≤ y
  | [n], y, h => by
    rw [List.mem_singleton.mp h]
    exact Int.le_refl _
  | n :: m :: ns, y, h => by
    show min n (minL (m :: ns)) ≤ y
    rcases List.mem_cons.mp h with rfl | h
    · omega
    · have := minL_le h
      omega
theorem minL_mem : ∀ {ns : List Int}, ns ≠ [] → minL ns ∈ ns
  | [n], _ => List.mem_singleton.mpr rfl
  | n :: m :: ns, _ => by
    have := minL_mem (ns := m :: ns) (by simp)
    show min n (minL (m :: ns)) ∈ _
    rcases Int.le_total n (minL (m :: ns)) with h | h
    · rw [Int.min_eq_left h]
      exact List.mem_cons_self
    · rw [Int.min_eq_right h]
      exact List.mem_cons_of_mem _ this
def bSum : List PV → Option PV
  | [x] => match items2 x with
    | some xs => (allInts xs).map fun ns => .int ns.sum
    | none => none
  | _ => none
def bMax1 : List PV → Option PV
  | [x] => match items2 x with
    | some xs => match allInts xs with
      | some (n :: ns) => some (.int (maxL (n :: ns)))
      | _ => none
    | none => none
  | _ => none
def bMin1 : List PV → Option PV
  | [x] => match items2 x with
    | some xs => match allInts xs with
      | some (n :: ns) => some (.int (minL (n :: ns)))
      | _ => none
    | none => none
  | _ => none
section
variable {C : Ctx} {W : Wd} {ρ : Loc} {O : Oms} {σ : L2.St} {H : Hp}
/-- a list or tuple of whole numbers -/
theorem LRep.ints (B : BRel C W ρ O σ H) {x : PV} {v : V} {xs : List PV} {ns : List Int} (r : LRep C W ρ σ x v) (e : items2 x = some xs) (e2 : allInts xs = some ns) : ∃ a, v = .ref a ∧ (SqL C.D.K H a (ns.map V.int) ∨ SqT C.D.K H a (ns.map V.int)) := by
  have ex := allInts_eq e2
  cases x <;> try (cases e; done)
  · cases e
    obtain ⟨a, vs, rfl, h1, _, r1, _⟩ := r.tup B
    rw [ex] at r1
    rw [r1.ints] at h1
    exact ⟨a, rfl, .inr h1⟩
  · cases e
    obtain ⟨a, vs, rfl, h1, _, r1⟩ := r.lst B
    rw [ex] at r1
    rw [r1.ints] at h1
    exact ⟨a, rfl, .inl h1⟩
theorem fit_sum : FitC C (fun xs H Q => rSum C.D.K xs H Q ∨ rSumT C.D.K xs H Q) bSum := by
  intro W ρ O σ H xs vs z Q B r e k
  unfold bSum at e
  split at e
  · rename_i x
    cases q1 : items2 x with
    | none => rw [q1] at e; cases e
    | some ys =>
      rw [q1] at e
      dsimp only at e
      cases q2 : allInts ys with
      | none => rw [q2] at e; cases e
      | some ns =>
        rw [q2] at e
        cases e
        obtain ⟨v, rfl, q⟩ := r.one
        obtain ⟨a, rfl, h | h⟩ := q.ints B q1 q2
        · exact .inl ⟨a, ns, rfl, h, k W H _ (Wd.Le.refl _) B (.int _)⟩
        · exact .inr ⟨a, ns, rfl, h, k W H _ (Wd.Le.refl _) B (.int _)⟩
  · cases e
theorem fit_max1 : FitC C (fun xs H Q => rMax C.D.K xs H Q ∨ rMaxT C.D.K xs H Q) bMax1 := by
  intro W ρ O σ H xs vs z Q B r e k
  unfold bMax1 at e
  split at e
  · rename_i x
    cases q1 : items2 x with
    | none => rw [q1] at e; cases e
    | some ys =>
      rw [q1] at e
      dsimp only at e
      cases q2 : allInts ys with
      | none => rw [q2] at e; cases e
      | some ns =>
        rw [q2] at e
        cases ns with
        | nil => cases e
        | cons n ns =>
          cases e
          obtain ⟨v, rfl, q⟩ := r.one
          have fin : ∀ m, m ∈ n :: ns → (∀ y, y ∈ n :: ns → y ≤ m) → Q (.int m) H := fun m h1 h2 => by
            have : m = maxL (n :: ns) := Int.le_antisymm (maxL_ge h1) (h2 _ (maxL_mem (by simp)))
            rw [this]
            exact k W H _ (Wd.Le.refl _) B (.int _)
          obtain ⟨a, rfl, h | h⟩ := q.ints B q1 q2
          · exact .inl ⟨a, n :: ns, rfl, h, by simp, fin⟩
          · exact .inr ⟨a, n :: ns, rfl, h, by simp, fin⟩
  · cases e
theorem fit_min1 : FitC C (fun xs H Q => rMin C.D.K xs H Q ∨ rMinT C.D.K xs H Q) bMin1 := by
  intro W ρ O σ H xs vs z Q B r e k
  unfold bMin1 at e
  split at e
  · rename_i x
    cases q1 : items2 x with
    | none => rw [q1] at e; cases e
    | some ys =>
      rw [q1] at e
      dsimp only at e
      cases q2 : allInts ys with
      | none => rw [q2] at e; cases e
      | some ns =>
        rw [q2] at e
        cases ns with
        | nil => cases e
        | cons n ns =>
          cases e
          obtain ⟨v, rfl, q⟩ := r.one
          have fin : ∀ m, m ∈ n :: ns → (∀ y, y ∈ n :: ns → m ≤ y) → Q (.int m) H := fun m h1 h2 => by
            have : m = minL (n :: ns) := Int.le_antisymm (h2 _ (minL_mem (by simp))) (minL_le h1)
            rw [this]
            exact k W H _ (Wd.Le.refl _) B (.int _)
          obtain ⟨a, rfl, h | h⟩ := q.ints B q1 q2
          · exact .inl ⟨a, n :: ns, rfl, h, by simp, fin⟩
          · exact .inr ⟨a, n :: ns, rfl, h, by simp, fin⟩
  · cases e
end
/-! ### sorted: whole numbers, pairs of them -/
def insB {α : Type} (lt : α → α → Bool) (x : α) : List α → List α
  | [] => [x]
  | y :: ys => if lt y x then y :: insB lt x ys else x :: y :: ys
def srtB {α : Type} (lt : α → α → Bool) : List α → List α
  | [] => []
  | x :: xs => insB lt x (srtB lt xs)
theorem insB_perm {α : Type} (lt : α → α → Bool) (x : α) : ∀ ys : List α, (insB lt x ys).Perm (x :: ys)
  | [] => List.Perm.refl _
  | y :: ys => by
    unfold insB
    split
    · exact ((insB_perm lt x ys).cons y).trans (List.Perm.swap x y ys)
    · exact List.Perm.refl _
theorem srtB_perm {α : Type} (lt : α → α → Bool) : ∀ xs : List α, (srtB lt xs).Perm xs
  | [] => List.Perm.refl _
  | x :: xs => (insB_perm lt x _).trans ((srtB_perm lt xs).cons x)
/-- an order without ties -/
structure Tot {α : Type} (lt : α → α → Bool) : Prop where
  asym : ∀ a b, lt a b = true → lt b a = false
  tr : ∀ a b c, lt b a = false → lt c b = false → lt c a = false
  anti : ∀ a b, lt a b = false → lt b a = false → a = b
theorem insB_srtd {α : Type} {lt : α → α → Bool} (T : Tot lt) (x : α) : ∀ {ys : List α}, ys.Pairwise (fun a b => lt b a = false) → (insB lt x ys).Pairwise fun a b => lt b a = false
  | [], _ => List.pairwise_singleton _ _
  | y :: ys, h => by
    unfold insB
    by_cases hl : lt y x = true
    · rw [if_pos hl]
      refine List.pairwise_cons.mpr ⟨fun b hb => ?_, insB_srtd T x (List.pairwise_cons.mp h).2⟩
      rcases List.mem_cons.mp ((insB_perm lt x ys).mem_iff.mp hb) with rfl | hb
      · exact T.asym _ _ hl
      · exact (List.pairwise_cons.mp h).1 b hb
    · rw [if_neg hl]
      have hl : lt y x = false := by simpa using hl
      refine List.pairwise_cons.mpr ⟨fun b hb => ?_, h⟩
      rcases List.mem_cons.mp hb with rfl | hb
      · exact hl
      · exact T.tr _ _ _ hl ((List.pairwise_cons.mp h).1 b hb)
theorem srtB_srtd {α : Type} {lt : α → α → Bool} (T : Tot lt) : ∀ xs : List α, (srtB lt xs).Pairwise fun a b => lt b a = false
  | [] => List.Pairwise.nil
  | x :: xs => insB_srtd T x (srtB_srtd T xs)
theorem srtd_uniq {α : Type} {lt : α → α → Bool} (T : Tot lt) : ∀ {l m : List α}, l.Pairwise (fun a b => lt b a = false) → m.Pairwise (fun a b => lt b a = false) → l.Perm m → l = m
  | [], m, _, _, h => h.nil_eq
  | x :: l, [], _, _, h => absurd h.length_eq (by simp)
  | x :: l, y :: m, hl, hm, h => by
    have e : x = y := by
      have h1 : x ∈ y :: m := h.mem_iff.mp List.mem_cons_self
      have h2 : y ∈ x :: l := h.mem_iff.mpr List.mem_cons_self
      rcases List.mem_cons.mp h1 with e | h1
      · exact e
      · rcases List.mem_cons.mp h2 with e | h2
        · exact e.symm
        · exact T.anti _ _ ((List.pairwise_cons.mp hm).1 x h1) ((List.pairwise_cons.mp hl).1 y h2)
    subst e
    rw [srtd_uniq T (List.pairwise_cons.mp hl).2 (List.pairwise_cons.mp hm).2 h.cons_inv]
def ltI (i j : Int) : Bool := decide (i < j)
theorem tot_int : Tot ltI := ⟨fun a b h => by
    have := of_decide_eq_true h
    exact decide_eq_false (by omega), fun a b c h h' => by
    have h := of_decide_eq_false h
    have h' := of_decide_eq_false h'
    exact decide_eq_false (by omega), fun a b h h' => by
    have h := of_decide_eq_false h
    have h' := of_decide_eq_false h'
    omega⟩
theorem tot_lex : Tot SrtO.lexB := ⟨fun a b h => by
    have := SrtO.lexB_iff.mp h
    exact SrtO.lexB_no.mpr (by omega), fun a b c h h' => by
    have h := SrtO.lexB_no.mp h
    have h' := SrtO.lexB_no.mp h'
    exact SrtO.lexB_no.mpr (by omega), fun a b h h' => by
    have h := SrtO.lexB_no.mp h
    have h' := SrtO.lexB_no.mp h'
    exact Prod.ext (by omega) (by omega)⟩
def prP (p : Int × Int) : PV := .tup [.int p.1, .int p.2]
def allPairs : List PV → Option (List (Int × Int))
  | [] => some []
  | .tup [.int i, .int j] :: xs => match allPairs xs with
    | some ps => some ((i, j) :: ps)
    | none => none
  | _ :: _ => none
theorem allPairs_map : ∀ (ps : List (Int × Int)), allPairs (ps.map prP) = some ps
  | [] => rfl
  | p :: ps => by
    show (match allPairs (ps.map prP) with
      | some ps => some ((p.1, p.2) :: ps)
      | none => none) = _
    rw [allPairs_map ps]
theorem allPairs_eq : ∀ {xs : List PV} {ps : List (Int × Int)}, allPairs xs = some ps → xs = ps.map prP
  | [], _, h => by cases h; rfl
  | x :: xs, ps, h => by
    unfold allPairs at h
    split at h
    · cases ‹_ :: _ = []›
    · rename_i i j ys e
      cases e
      cases q : allPairs xs with
      | none => rw [q] at h; cases h
      | some qs =>
        rw [q] at h
        cases h
        rw [allPairs_eq q]
        rfl
    · cases h
def bSorted : List PV → Option PV
  | [.lst xs] => match allPairs xs with
    | some ps => some (.lst ((srtB SrtO.lexB ps).map prP))
    | none => match allInts xs with
      | some ns => some (.lst ((srtB ltI ns).map PV.int))
      | none => none
  | _ => none
/-- the pair that stands there -/
def prAt (H : Hp) : V → Int × Int
  | .ref t => match H t with
    | some (.tup [.int i, .int j]) => (i, j)
    | _ => (0, 0)
  | _ => (0, 0)
theorem Reps.of_mem {D : Adr} {F : Hp} {M : Nat → Option Addr} {α : Type} {f : α → PV} {k : V → α} : ∀ {ys : List V}, (∀ y ∈ ys, Rep D F M (f (k y)) y) → Reps D F M ((ys.map k).map f) ys
  | [], _ => .nil
  | y :: ys, h => .cons (h y List.mem_cons_self) (Reps.of_mem fun z hz => h z (List.mem_cons_of_mem _ hz))
section
variable {C : Ctx} {W : Wd} {ρ : Loc} {O : Oms} {σ : L2.St} {H : Hp}
theorem pairs_at (B : BRel C W ρ O σ H) : ∀ {ps : List (Int × Int)} {vs : List V}, Reps C.D W.F W.M (ps.map prP) vs → (∀ v ∈ vs, ∃ t, v = .ref t ∧ H t = some (.tup [.int (prAt H v).1, .int (prAt H v).2]) ∧ Rep C.D W.F W.M (prP (prAt H v)) v) ∧ vs.map (prAt H) = ps
  | [], _, .nil => ⟨fun v hv => by simp at hv, rfl⟩
  | p :: ps, _, .cons (v := v) (vs := vs) r t => by
    obtain ⟨h1, h2⟩ := pairs_at B t
    have r0 := r
    have key : ∃ t, v = .ref t ∧ H t = some (.tup [.int p.1, .int p.2]) := by
      cases r with
      | tup h z r =>
        cases r with
        | cons ra rb =>
          cases ra
          cases rb with
          | cons rb rc =>
            cases rb
            cases rc
            exact ⟨_, rfl, B.f.g.sub _ _ h⟩
    obtain ⟨t, rfl, ht⟩ := key
    have e : prAt H (.ref t) = p := by
      unfold prAt
      dsimp only
      rw [ht]
    refine ⟨fun v hv => ?_, by rw [List.map_cons, e, h2]⟩
    rcases List.mem_cons.mp hv with rfl | hv
    · exact ⟨t, rfl, by rw [e]; exact ht, by rw [e]; exact r0⟩
    · exact h1 v hv
theorem fit_sorted : FitCN C (fun xs H Q => rSortedPO C.D.K xs H Q ∨ rSortedI C.D.K xs H Q) bSorted := by
  intro W ρ O σ H xs vs z Q B r e k
  unfold bSorted at e
  split at e
  · rename_i ys
    obtain ⟨v, rfl, q⟩ := r.one
    obtain ⟨a, us, rfl, h1, hz, r1⟩ := q.lst B
    cases q1 : allPairs ys with
    | some ps =>
      rw [q1] at e
      cases e
      rw [allPairs_eq q1] at r1
      obtain ⟨g1, g2⟩ := pairs_at B r1
      refine .inl ⟨a, us, prAt H, rfl, h1, fun x hx => ?_, fun zs p hs hb hp => ?_⟩
      · obtain ⟨t, e1, e2, _⟩ := g1 x hx
        exact ⟨t, e1, e2⟩
      · have hm : zs.map (prAt H) = srtB SrtO.lexB ps := by
          refine srtd_uniq tot_lex ?_ (srtB_srtd tot_lex ps) ?_
          · have hs : zs.Pairwise (fun a b => ltP (prAt H) b a = false) := hs
            exact List.pairwise_map.mpr hs
          · exact ((hb.perm.map (prAt H)).trans (by rw [g2])).trans (srtB_perm _ _).symm
        have rz : Reps C.D W.F W.M ((srtB SrtO.lexB ps).map prP) zs := by
          rw [← hm]
          exact Reps.of_mem fun y hy => (g1 y (hb.perm.mem_iff.mp hy)).elim fun t h => h.2.2
        have hl : zs.length ≤ sizeLine := by rw [hb.perm.length_eq]; exact hz
        obtain ⟨B', N⟩ := B.lstN rz hl hp
        exact k W _ _ (Wd.Le.refl _) B' N
    | none =>
      rw [q1] at e
      dsimp only at e
      cases q2 : allInts ys with
      | none => rw [q2] at e; cases e
      | some ns =>
        rw [q2] at e
        cases e
        have r1' := r1
        rw [allInts_eq q2] at r1'
        have eu := r1'.ints
        subst eu
        refine .inr ⟨a, ns, rfl, h1, fun ns' p hp hs hn => ?_⟩
        have hm : ns' = srtB ltI ns := by
          refine srtd_uniq tot_int ?_ (srtB_srtd tot_int ns) (hp.trans (srtB_perm _ _).symm)
          exact hs.imp fun h => decide_eq_false (by omega)
        subst hm
        obtain ⟨B', N⟩ := B.lstN (xs := (srtB ltI ns).map PV.int) (vs := (srtB ltI ns).map V.int) Reps.of_ints (by rw [List.length_map, (srtB_perm ltI ns).length_eq]; rw [List.length_map] at hz; exact hz) hn
        exact k W _ _ (Wd.Le.refl _) B' N
  · cases e
end
end Hw

namespace Hw
open PySem PySem.Spec PyProof.Rows L2

/-! ### zip on data -/
def zipT (xs ys : List PV) : List PV := (xs.zip ys).map fun p => .tup [p.1, p.2]
theorem zipT_len (xs ys : List PV) : (zipT xs ys).length = min xs.length ys.length := by
  unfold zipT
  rw [List.length_map, List.length_zip]
theorem zipT_get {xs ys : List PV} {i : Nat} {z : PV} (h : (zipT xs ys)[i]? = some z) : ∃ x y, xs[i]? = some x ∧ ys[i]? = some y ∧ z = .tup [x, y] := by
  unfold zipT at h
  rw [List.getElem?_map] at h
  cases q : (xs.zip ys)[i]? with
  | none => rw [q] at h; cases h
  | some p =>
    rw [q] at h
    cases h
    rw [List.getElem?_zip_eq_some] at q
    exact ⟨p.1, p.2, q.1, q.2, rfl⟩
/-- a list or a tuple in the frozen part -/
theorem rep_items {C : Ctx} {W : Wd} {x : PV} {v : V} {xs : List PV} (r : Rep C.D W.F W.M x v) (e : items2 x = some xs) : ∃ k a vs, v = .ref a ∧ SqM k C.D.K W.F a vs ∧ Reps C.D W.F W.M xs vs ∧ vs.length ≤ sizeLine := by
  cases r <;> try (cases e; done)
  · rename_i h z r
    cases e
    exact ⟨false, _, _, rfl, h.sq, r, z⟩
  · rename_i h z r
    cases e
    exact ⟨true, _, _, rfl, h, r, z⟩
theorem sqM_mono {k : Bool} {K : PySem.W.Frag} {F F' : Hp} {a : Addr} {vs : List V} (hF : FLe F F') (h : SqM k K F a vs) : SqM k K F' a vs := by
  cases k with
  | true => exact sqL_mono hF h
  | false => exact sqT_mono hF h
theorem wk_zip {D : Adr} {W : Wd} {k1 k2 : Bool} {a b : Addr} {xs ys : List PV} {vs us : List V} (h1 : SqM k1 D.K W.F a vs) (h2 : SqM k2 D.K W.F b us) (r1 : Reps D W.F W.M xs vs) (r2 : Reps D W.F W.M ys us) : Wk D (ItzM k1 k2 D.K a b) (zipT xs ys) W := by
  intro C W' ρ O σ H e0 le B i
  subst e0
  have s1 : SqM k1 C.D.K H a vs := sqM_mono (le.F.trans B.f.g.sub) h1
  have s2 : SqM k2 C.D.K H b us := sqM_mono (le.F.trans B.f.g.sub) h2
  have l1 := r1.length
  have l2 := r2.length
  refine ⟨fun z e => ?_, fun hi => ⟨vs, us, s1, s2, ?_⟩⟩
  · obtain ⟨x, y, e1, e2, rfl⟩ := zipT_get e
    obtain ⟨v, f1, R1⟩ := r1.get e1
    obtain ⟨u, f2, R2⟩ := r2.get e2
    refine ⟨⟨vs, us, v, u, s1, s2, f1, f2⟩, fun v' H' hy => ?_⟩
    obtain ⟨T, v1, u1, rfl, hT, rfl, g1, g2⟩ := hy
    have e1 := g1 vs s1
    have e2 := g2 us s2
    rw [f1] at e1
    rw [f2] at e2
    cases e1
    cases e2
    exact B.tup (.cons (R1.mono le.F le.M) (.cons (R2.mono le.F le.M) .nil)) (by show 2 ≤ sizeLine; decide) hT
  · rw [zipT_len] at hi
    omega
def pZip : List PV → Option (List PV)
  | [x, y] => match items2 x, items2 y with
    | some xs, some ys => some (zipT xs ys)
    | _, _ => none
  | _ => none
theorem pZip_some {zs xs : List PV} (h : pZip zs = some xs) : ∃ x y xs1 ys1, zs = [x, y] ∧ items2 x = some xs1 ∧ items2 y = some ys1 ∧ xs = zipT xs1 ys1 := by
  unfold pZip at h
  split at h
  · rename_i x y
    cases q1 : items2 x with
    | none => rw [q1] at h; cases h
    | some xs1 =>
      cases q2 : items2 y with
      | none => rw [q1, q2] at h; cases h
      | some ys1 =>
        rw [q1, q2] at h
        cases h
        exact ⟨x, y, xs1, ys1, rfl, q1, q2, rfl⟩
  · cases h
theorem Reps.two {D : Adr} {F : Hp} {M : Nat → Option Addr} {x y : PV} {vs : List V} (r : Reps D F M [x, y] vs) : ∃ v u, vs = [v, u] ∧ Rep D F M x v ∧ Rep D F M y u := by
  cases r with
  | cons r t =>
    cases t with
    | cons r2 t => cases t; exact ⟨_, _, rfl, r, r2⟩
section
variable {X : Cx} {C : Ctx} {a b : Expr} {g : EvA} {p pos : Pos}
theorem si_zip {elts : List Expr} {kk : Nat} {tpos : Pos} (hK : X.K = C.D.K) (hg : Gl X "zip") (hm : X.mg "zip" = none) (ha : PA X [a, b] (tXs C g)) (hs : notStar a = true) (hs2 : notStar b = true) : PI X (.Tuple elts kk tpos) (.Call (.Name "zip" p) [a, b] [] pos) (tI C (evRng pZip g)) := by
  have hb : starEach [b] X.env = [(false, eval b X.env)] := notStar_ok hs2
  refine PI.mono (pi_zipM hg hm ha (notStar_ok hs) (notStars_any (es := [b]) (by simp [notStars, hs2]))) fun σ H R ⟨W, ρ, O, B, G⟩ => ⟨W, ρ, O, B, goes_bnd G fun W1 H1 zs vs O1 le1 B1 Rx G1 => ?_⟩
  obtain ⟨ys, e, q⟩ := goes_ret G1
  obtain ⟨x, y, xs1, ys1, rfl, e1, e2, rfl⟩ := pZip_some e
  obtain ⟨v, u, rfl, r1, r2⟩ := Rx.two
  obtain ⟨k1, a1, vs1, rfl, s1, t1, _⟩ := rep_items r1 e1
  obtain ⟨k2, a2, us1, rfl, s2, t2, _⟩ := rep_items r2 e2
  refine ⟨k1, k2, a1, a2, vs1, us1, rfl, ?_, ?_, ?_⟩
  · rw [hK]; exact sqM_mono B1.f.g.sub s1
  · rw [hK]; exact sqM_mono B1.f.g.sub s2
  · rw [hK]; exact q W1 H1 _ (Wd.Le.refl _) B1 (wk_zip s1 s2 t1 t2)
def evLz (g : EvA) : Ev := fun ρ O => bnd (g ρ O) fun zs O1 => ret ((pZip zs).map .lst) O1
theorem sn_lz {p1 p2 p3 p4 : Pos} (hK : X.K = C.D.K) (hc : X.calm = true) (hgl : Gl X "list") (hml : X.mg "list" = none) (hgz : Gl X "zip") (hmz : X.mg "zip" = none) (ha : PA X [a, b] (tXs C g)) (hs : notStar a = true) (hs2 : notStar b = true) :
    PE X (.Call (.Name "list" p1) [.Call (.Name "zip" p2) [a, b] [] p3] [] p4) (tN C (evLz g)) := by
  refine PE.mono (pe_lz hc hgl hml hgz hmz ha (notStar_ok hs) (notStars_any (es := [b]) (by simp [notStars, hs2]))) fun σ H Q ⟨W, ρ, O, B, G⟩ => ⟨W, ρ, O, B, goes_bnd G fun W1 H1 zs vs O1 le1 B1 Rx G1 => ?_⟩
  obtain ⟨z, e, q⟩ := goes_ret G1
  cases ez : pZip zs with
  | none => rw [ez] at e; cases e
  | some rs =>
    rw [ez] at e
    cases e
    obtain ⟨x, y, xs1, ys1, rfl, e1, e2, rfl⟩ := pZip_some ez
    obtain ⟨v, u, rfl, r1, r2⟩ := Rx.two
    obtain ⟨k1, a1, vs1, rfl, s1, t1, z1⟩ := rep_items r1 e1
    obtain ⟨k2, a2, us1, rfl, s2, t2, z2⟩ := rep_items r2 e2
    have l1 := t1.length
    have l2 := t2.length
    have hC : ∀ t ∈ C.tm, t.1 < C.tn := fun t ht => (B1.tm.2 t ht).2.1
    refine ⟨k1, k2, a1, a2, vs1, us1, rfl, ?_, ?_, fun S hS => ?_⟩
    · rw [hK]; exact sqM_mono B1.f.g.sub s1
    · rw [hK]; exact sqM_mono B1.f.g.sub s2
    refine ⟨fun i H => ∃ W2, W1.Le W2 ∧ BRel (C.inT S ((zipT xs1 ys1).take i)) W2 ρ O1 σ H, ?_, ?_, ?_, ?_, ?_⟩
    · obtain ⟨W2, le2, B2⟩ := B1.enter hS
      exact ⟨W2, le2, by rw [List.take_zero]; exact B2⟩
    · rintro i H2 ⟨W2, le2, B2⟩
      rw [hK]
      exact ⟨sqM_mono (le2.F.trans B2.f.g.sub) s1, sqM_mono (le2.F.trans B2.f.g.sub) s2⟩
    · rintro i H2 x1 y1 T ⟨W2, le2, B2⟩ hx hy hT
      obtain ⟨xp, f1, R1⟩ := t1.getV hx
      obtain ⟨yp, f2, R2⟩ := t2.getV hy
      have hi1 := (List.getElem?_eq_some_iff.mp f1).1
      have hi2 := (List.getElem?_eq_some_iff.mp f2).1
      have hz : (zipT xs1 ys1)[i]? = some (.tup [xp, yp]) := by
        unfold zipT
        rw [List.getElem?_map, (List.getElem?_zip_eq_some (z := (xp, yp))).mpr ⟨f1, f2⟩]
        rfl
      obtain ⟨W3, le3, B3, R3⟩ := B2.tup (.cons (R1.mono le2.F le2.M) (.cons (R2.mono le2.F le2.M) .nil)) (by show 2 ≤ sizeLine; decide) hT
      obtain ⟨ws, g1, g2, g3⟩ := BRel.push hC B3
      have hlen : ws.length = i := by
        rw [g2, List.length_take, zipT_len]
        omega
      have gz : ws.length < sizeLine := by omega
      have hne : S ≠ T := fun e => by
        obtain ⟨_, _, t3⟩ := B2.tm.2 (C.tn, S, (zipT xs1 ys1).take i) List.mem_cons_self
        cases t3 with
        | lst o n h z r =>
          have h : H2 S = some _ := h
          rw [e, hT] at h
          cases h
      refine ⟨ws, ?_, gz, W3, le2.trans le3, ?_⟩
      · rw [upd_ne hne] at g1
        exact g1
      · rw [List.take_add_one, hz]
        exact g3 _ _ R3 gz
    · rintro i H2 ⟨W2, le2, B2⟩
      obtain ⟨ws, g1, _⟩ := BRel.push hC B2
      exact ⟨ws, g1⟩
    · rintro H2 ⟨W2, le2, B2⟩
      rw [← l1, ← l2, ← zipT_len, List.take_length] at B2
      obtain ⟨W3, le3, B3, N3⟩ := BRel.leave (vs := []) hC rfl B1 le2 B2
      exact q W3 H2 _ (le2.trans le3) B3 N3
end
/-! ### [..] * int, xs[::-1] -/
theorem Reps.rep {D : Adr} {F : Hp} {M : Nat → Option Addr} {xs : List PV} {vs : List V} (r : Reps D F M xs vs) : ∀ n : Nat, Reps D F M (List.replicate n xs).flatten (List.replicate n vs).flatten
  | 0 => .nil
  | n + 1 => by
    rw [List.replicate_succ, List.replicate_succ, List.flatten_cons, List.flatten_cons]
    exact r.append (Reps.rep r n)
noncomputable def pRep : PV → PV → Option PV
  | .lst xs, .int k => if yes (-(2 ^ 63) ≤ k ∧ k < 2 ^ 63 ∧ xs.length * k.toNat ≤ sizeLine) = true then some (.lst (List.replicate k.toNat xs).flatten) else none
  | _, _ => none
section
variable {X : Cx} {C : Ctx} {a b : Expr} {fa fb f : Ev} {pos : Pos}
theorem len_rep_flat {α : Type} (xs : List α) : ∀ n : Nat, (List.replicate n xs).flatten.length = n * xs.length
  | 0 => by simp
  | n + 1 => by rw [List.replicate_succ, List.flatten_cons, List.length_append, len_rep_flat xs n, Nat.succ_mul, Nat.add_comm]
theorem sn_rep (ha : PE X a (tN C fa)) (hb : PE X b (tL C fb)) : PE X (.BinOp a .Mult b pos) (tN C (ev2 pRep fa fb)) := by
  refine PE.mono (pe_op op_rep ha hb) fun σ H Q ⟨W, ρ, O, B, G⟩ => ⟨W, ρ, O, B, goes_bnd G fun W1 H1 x v O1 le1 B1 Nx G1 => ?_⟩
  cases Nx with
  | @dic => exact ⟨W1, ρ, O1, B1, goes_bnd G1 fun W2 H2 y u O2 le2 B2 Ry G2 => by
      obtain ⟨z, e, q⟩ := goes_ret G2
      cases e⟩
  | @lst p xs vs fr ow h0 h z r =>
    have B2 := B1.frz h fr ow h0
    have le2 : W1.Le (W1.frz p (.lst vs)) := Wd.frz_le fr
    refine ⟨_, ρ, O1, B2, goes_bnd (Goes.le le2 G1) fun W3 H3 y u O3 le3 B3 Ry G3 => ?_⟩
    obtain ⟨w, e, q⟩ := goes_ret G3
    unfold pRep at e
    cases y <;> try (cases e; done)
    rename_i k
    obtain ⟨hk, rfl⟩ := ite_some e
    obtain ⟨h1, h2, h3⟩ := yes_of hk
    have r3 : Reps C.D W3.F W3.M xs vs := r.mono (le2.trans le3).F (le2.trans le3).M
    have hl := r3.length
    have hp : H3 p = some (.lst vs) := B3.f.g.sub _ _ (le3.F _ _ upd_same)
    refine ⟨p, k, vs, rfl, Ry.int B3, hp, h1, h2, by rw [← hl]; exact h3, fun p2 hp2 => ?_⟩
    obtain ⟨B4, N4⟩ := B3.lstN (r3.rep k.toNat) (by rw [len_rep_flat, Nat.mul_comm, ← hl]; exact h3) hp2
    exact q W3 _ _ (Wd.Le.refl _) B4 N4
def pRev : PV → Option PV
  | .lst xs => some (.lst xs.reverse)
  | _ => none
theorem sn_revL {k : Nat} {p1 p2 p3 : Pos} (hK : X.K = C.D.K) (he : PE X a (tL C f)) : PE X (.Subscript a (.Slice none none (some (.UnaryOp .USub (.Constant (.int 1) k p1) p2)) p3) pos) (tN C (ev1 pRev f)) := by
  refine PE.mono (pe_revL he) fun σ H Q ⟨W, ρ, O, B, G⟩ => ⟨W, ρ, O, B, goes_bnd G fun W1 H1 x v O1 le1 B1 Rx G1 => ?_⟩
  obtain ⟨z, e, q⟩ := goes_ret G1
  cases x <;> try (cases e; done)
  cases e
  obtain ⟨a, vs, rfl, h1, hz, r1⟩ := Rx.lst B1
  refine ⟨a, vs, rfl, by rw [hK]; exact h1, fun p hp => ?_⟩
  obtain ⟨B2, N⟩ := B1.lstN r1.reverse (by rw [List.length_reverse]; exact hz) hp
  exact q W1 _ _ (Wd.Le.refl _) B2 N
end
end Hw

namespace Hw
open PySem PySem.Spec PyProof.Rows L2 HT

/-! ### t[::-1] of a tuple -/
section
variable {prog : Program} {w : World} {A : Around} {E : Value → Shared → Prop} {s : Shared}
theorem applied_rev {sl : Addr} {vl vu vs : Value} {n : Nat} {Q : Int × Int × Nat → Shared → Prop} (hs : s.heap.IsSliceOf sl vl vu vs) (pl : IsPart vl none) (pu : IsPart vu none) (ps : IsPart vs (some (-1)))
    (h : Q ((n : Int) - 1, -1, n) s) : wpAny (model prog w) A (Builtin.Slice.sliceApplied (.ref sl) (pure (n : Int))) Q E s := by
  obtain ⟨os, hos, hcs, hds⟩ := id hs
  unfold Builtin.Slice.sliceApplied Builtin.Slice.sliceFields
  refine wpAny_bind (wpAny_bind (wpAny_field hos hds (x := vl) rfl (wpAny_bind (wpAny_field hos hds (x := vu) rfl (wpAny_bind (wpAny_field hos hds (x := vs) rfl (wpAny_pure ?_)))))))
  refine wpAny_bind (slicePart_ ps ?_)
  show wpAny _ _ (if ((-1 : Int) == 0) = true then _ else _) _ _ s
  rw [if_neg (by decide)]
  refine wpAny_bind (slicePart_ pl (wpAny_bind (slicePart_ pu (wpAny_bind (wpAny_pure ?_)))))
  have e1 : Builtin.Slice.sliceAdjust none none (-1) (n : Int) = ((n : Int) - 1, -1) := rfl
  show wpAny _ _ (match Builtin.Slice.sliceAdjust none none (-1) (n : Int) with | (lo, hi) => pure (lo, (-1 : Int), Builtin.Slice.slicePlaces lo hi (-1))) _ _ s
  rw [e1]
  show wpAny _ _ (pure ((n : Int) - 1, (-1 : Int), Builtin.Slice.slicePlaces ((n : Int) - 1) (-1) (-1))) _ _ s
  have e2 : Builtin.Slice.slicePlaces ((n : Int) - 1) (-1) (-1) = n := by
    unfold Builtin.Slice.slicePlaces
    rw [if_neg (by decide)]
    by_cases h0 : (n : Int) - 1 > -1
    · rw [if_pos h0]
      have : -(-1 : Int) = 1 := rfl
      rw [this, Int.ediv_one]
      omega
    · rw [if_neg h0]
      omega
  rw [e2]
  exact wpAny_pure h
theorem pick_rev (xs : Array Value) : ((List.range xs.size).filterMap fun (m : Nat) => xs[(((xs.size : Nat) : Int) - 1 + (m : Int) * (-1)).toNat]?).toArray = xs.toList.reverse.toArray := by
  congr 1
  have e : ∀ k, k ≤ xs.size → ((List.range k).filterMap fun (m : Nat) => xs[(((xs.size : Nat) : Int) - 1 + (m : Int) * (-1)).toNat]?) = xs.toList.reverse.take k := by
    intro k
    induction k with
    | zero => intro _; rfl
    | succ k ih =>
      intro hk
      rw [List.range_succ, List.filterMap_append, ih (by omega), List.take_add_one]
      congr 1
      have e2 : (((xs.size : Nat) : Int) - 1 + (k : Int) * (-1)).toNat = xs.size - 1 - k := by omega
      have hl : k < xs.toList.length := by rw [Array.length_toList]; omega
      rw [List.getElem?_reverse hl, Array.length_toList, Array.getElem?_toList]
      simp only [List.filterMap_cons, List.filterMap_nil, e2]
      cases xs[xs.size - 1 - k]? <;> rfl
  rw [e _ (Nat.le_refl _), List.take_of_length_le (by rw [List.length_reverse, Array.length_toList]; exact Nat.le_refl _)]
theorem getItem_tuple_rev {t sl : Addr} {items : Array Value} {vl vu vs : Value} {Q : Value → Shared → Prop} (ht : IsTup s.heap t items) (hs : s.heap.IsSliceOf sl vl vu vs) (pl : IsPart vl none) (pu : IsPart vu none) (ps : IsPart vs (some (-1)))
    (h : Q (.ref s.heap.objs.size) { s with heap := s.heap.push { cls := .type "tuple", data := .seq items.toList.reverse.toArray } })
    (hsz : items.size ≤ sizeLine) : wpAny (model prog w) A (getItem (.ref t) (.ref sl)) Q E s := by
  have htake : sizeOk (.seq items.toList.reverse.toArray) := by
    show items.toList.reverse.toArray.size ≤ sizeLine
    rw [List.size_toArray, List.length_reverse, Array.length_toList]
    exact hsz
  obtain ⟨os, hos, hcs, hds⟩ := id hs
  have hTs : s.TypeIs (.ref sl) "slice" := ⟨os, hos, hcs⟩
  unfold getItem
  try with_reducible refine wpAny_holding ?_
  first | refine wpAny_bind (wpAny_pure ?_) | skip
  refine wpAny_bind (wpAny_sequenceKey ht.typeIs (by decide) ?_)
  refine wpAny_bind (wpAny_callSpecial?_slot (name := Str.ofString "__getitem__") ht.typeIs PyProof.Rows.slot_tuple_getitem
    (wpAny_call_entry PyProof.Rows.slot_tuple_getitem ht.typeIs entry_tuple_getitem ?_ (args_tuple_getitem _ _)))
  show wpAny _ _ (Builtin.Tuple.tupleItemsOf (.ref t) >>= _) _ _ s
  refine wpAny_bind (tupleItemsOf_ ht ?_)
  refine wpAny_bind (wpAny_typeOf hTs ?_)
  rw [if_pos (by decide)]
  refine wpAny_bind (applied_rev hs pl pu ps ?_)
  have hno : ¬ ((((items.size : Nat) : Int) - 1 == 0 && (-1 : Int) == 1 && items.size == items.size) = true) := by
    have : ((-1 : Int) == 1) = false := rfl
    rw [this, Bool.and_false, Bool.false_and]
    exact Bool.false_ne_true
  show wpAny _ _ (if (((items.size : Nat) : Int) - 1 == 0 && (-1 : Int) == 1 && items.size == items.size) = true then _ else _) _ _ s
  rw [if_neg hno, pick_rev]
  first
    | exact wpAny_bind (m := Builtin.Tuple.tupleExact _) (wpAny_newObj_type (wpAny_pure ⟨_, rfl, wpAny_pure h⟩) htake)
    | exact wpAny_bind (m := Builtin.Tuple.tupleExact _) (wpAny_newObj_type (wpAny_bind (wpAny_pure (wpAny_pure ⟨_, rfl, wpAny_pure h⟩))) htake)
    | exact wpAny_bind (wpAny_bind (m := Builtin.Tuple.tupleExact _) (wpAny_newObj_type (wpAny_pure (wpAny_pure ⟨_, rfl, wpAny_pure h⟩)) htake))
    | exact wpAny_bind (wpAny_bind (m := Builtin.Tuple.tupleExact _) (wpAny_newObj_type (wpAny_pure ⟨_, rfl, wpAny_pure h⟩) htake))
end
section
variable {X : Cx}
def tRevT (K : PySem.W.Frag) (te : TE) : TE := fun σ H Q => te σ H fun x H1 => ∃ a xs, x = .ref a ∧ SqT K H1 a xs ∧ ∀ p, H1 p = none → Q (.ref p) (upd H1 p (.tup xs.reverse))
theorem pe_revT {e : Expr} {te : TE} {k : Nat} {p1 p2 p3 pos : Pos} (he : PE X e te) : PE X (.Subscript e (.Slice none none (some (.UnaryOp .USub (.Constant (.int 1) k p1) p2)) p3) pos) (tRevT X.K te) := by
  refine ⟨fun pins s σ H Q I h => ?_⟩
  refine Subscript_ (thn (he.run pins s σ H _ I h) fun v s1 ⟨x, H1, I1, r1, q1⟩ => ?_)
  obtain ⟨a, xs, ex, hx, q⟩ := q1
  subst ex
  cases r1
  have hst : PO X (some (.UnaryOp .USub (.Constant (.int 1) k p1) p2)) (tPart (tUn (rU fun i => .int (-i)) (tC (.int 1)))) := po_some (pe_un un_neg pe_int)
  refine wpAny_Slice (thn (po_none.run pins s1 σ H1 (fun o H2 => o = none ∧ H2 = H1) I1 ⟨rfl, rfl⟩) fun vl s2 ⟨l, H2, I2, pl, el, e2⟩ => ?_)
  subst el e2
  refine thn (po_none.run pins s2 σ H2 (fun o H3 => o = none ∧ H3 = H2) I2 ⟨rfl, rfl⟩) fun vu s3 ⟨u, H3, I3, pu, eu, e3⟩ => ?_
  subst eu e3
  refine thn (hst.run pins s3 σ H3 (fun o H4 => o = some (-1) ∧ H4 = H3) I3 ⟨1, rfl, -1, rfl, rfl, rfl⟩) fun vs s4 ⟨o, H4, I4, ps, eo, e4⟩ => ?_
  subst eo e4
  have I5 : Inv X pins σ H4 { s4 with heap := s4.heap.push { cls := .type "slice", data := .fields #[vl, vu, vs] } } := I4.kept (t' := s4.toks) fun b ob q => Heap.get?_push_of_some _ q
  obtain ⟨its, r, ht, hz⟩ := I5.tuple hx
  have hlen := r.length
  show wpAny (model X.prog X.w) X.A (subscriptTail e (.Slice none none (some (.UnaryOp .USub (.Constant (.int 1) k p1) p2)) p3) (.ref a) (.ref s4.heap.objs.size)) (EP X pins σ Q) X.xe { s4 with heap := s4.heap.push { cls := .type "slice", data := .fields #[vl, vu, vs] } }
  refine tail_any (ops := [.ref a, .ref s4.heap.objs.size]) ht.typeIs (PyProof.Rows.slot_tuple_getitem.lookup) ?_ (by with_unfolding_all rfl)
  refine getItem_tuple_rev ht (Heap.IsSliceOf.new _ vl vu vs) pl pu ps ?_ (by rw [List.size_toArray]; omega)
  refine ⟨.ref _, _, I5.laid (t' := s4.toks) (o := .tup xs.reverse) (fun b ob q => Heap.get?_push_of_some _ q) (Nat.le_refl _) ?_, rfl, q _ (I5.hok.fresh (Nat.le_refl _))⟩
  exact ⟨by rw [List.length_reverse]; exact hz, _, r.reverse, IsTup.new _ _⟩
end
def pRevT : PV → Option PV
  | .tup xs => some (.tup xs.reverse)
  | _ => none
section
variable {X : Cx} {C : Ctx} {a : Expr} {f : Ev} {pos : Pos}
theorem sn_revT {k : Nat} {p1 p2 p3 : Pos} (hK : X.K = C.D.K) (he : PE X a (tL C f)) : PE X (.Subscript a (.Slice none none (some (.UnaryOp .USub (.Constant (.int 1) k p1) p2)) p3) pos) (tX C (ev1 pRevT f)) := by
  refine PE.mono (pe_revT he) fun σ H Q ⟨W, ρ, O, B, G⟩ => ⟨W, ρ, O, B, goes_bnd G fun W1 H1 x v O1 le1 B1 Rx G1 => ?_⟩
  obtain ⟨z, e, q⟩ := goes_ret G1
  cases x <;> try (cases e; done)
  cases e
  obtain ⟨a, vs, rfl, h1, hz, r1, _⟩ := Rx.tup B1
  refine ⟨a, vs, rfl, by rw [hK]; exact h1, fun p hp => ?_⟩
  obtain ⟨W2, le2, B2, R2⟩ := B1.tup r1.reverse (by rw [List.length_reverse]; exact hz) hp
  exact q W2 _ _ le2 B2 R2
end
end Hw

namespace Hw
open PySem PySem.Spec PyProof.Rows L2

/-! ### expressions as data, what they compute, whether a text's expression is such a one -/
inductive B2 where | add | sub | mul | div | mod | pow
noncomputable def B2.fn : B2 → PV → PV → Option PV
  | .add => pAdd
  | .sub => pInt fun i j => some (i - j)
  | .mul => pInt fMul
  | .div => pInt fDiv
  | .mod => pInt fMod
  | .pow => pInt fPow
def B2.is : B2 → Operator → Bool
  | .add, .Add => true
  | .sub, .Sub => true
  | .mul, .Mult => true
  | .div, .FloorDiv => true
  | .mod, .Mod => true
  | .pow, .Pow => true
  | _, _ => false
theorem B2.ok {X : Cx} {C : Ctx} (hK : X.K = C.D.K) : ∀ {o : B2} {op : Operator}, o.is op = true → ∃ r, OpR X (binaryOp op) r ∧ FitB C r o.fn
  | .add, .Add, _ => ⟨_, op_addA, by rw [hK]; exact fit_add⟩
  | .sub, .Sub, _ => ⟨_, op_sub, fit_int0⟩
  | .mul, .Mult, _ => ⟨_, op_mulX, fit_int fun i j z h => by
      obtain ⟨h1, h2⟩ := ite_some h
      exact ⟨mulOk_ok h1, h2⟩⟩
  | .div, .FloorDiv, _ => ⟨_, op_fdivW, fit_int fun i j z h => by
      obtain ⟨h1, h2⟩ := ite_some h
      exact ⟨yes_of h1, h2⟩⟩
  | .mod, .Mod, _ => ⟨_, op_mod, fit_int fun i j z h => by
      obtain ⟨h1, h2⟩ := ite_some h
      exact ⟨yes_of h1, h2⟩⟩
  | .pow, .Pow, _ => ⟨_, op_pow, fit_int fun i j z h => by
      obtain ⟨h1, h2⟩ := ite_some h
      exact ⟨yes_of h1, h2⟩⟩
inductive K2 where | lt | le | gt | ge | eq | ne | is | isnt | isin | nin
def K2.fn : K2 → PV → PV → Option Bool
  | .lt => pOrd fun i j => decide (i < j)
  | .le => pOrd fun i j => decide (i ≤ j)
  | .gt => pOrd fun i j => decide (j < i)
  | .ge => pOrd fun i j => decide (j ≤ i)
  | .eq => pEq
  | .ne => pNe
  | .is => pIs
  | .isnt => pIsnt
  | .isin => pIn false
  | .nin => pIn true
def K2.isOp : K2 → CmpOp → Bool
  | .lt, .Lt => true
  | .le, .LtE => true
  | .gt, .Gt => true
  | .ge, .GtE => true
  | .eq, .Eq => true
  | .ne, .NotEq => true
  | .is, .Is => true
  | .isnt, .IsNot => true
  | .isin, .In => true
  | .nin, .NotIn => true
  | _, _ => false
theorem K2.ok {X : Cx} {C : Ctx} (hK : X.K = C.D.K) (hu : X.A.units + 64 < cLine) : ∀ {o : K2} {op : CmpOp}, o.isOp op = true → ∃ r, OpR X (compareOp op) r ∧ FitB C r (pB o.fn)
  | .lt, .Lt, _ => ⟨_, op_lt, fit_ord⟩
  | .le, .LtE, _ => ⟨_, op_le, fit_ord⟩
  | .gt, .Gt, _ => ⟨_, op_gt, fit_ord⟩
  | .ge, .GtE, _ => ⟨_, op_ge, fit_ord⟩
  | .eq, .Eq, _ => ⟨_, op_eqD hu, by rw [hK]; exact fit_eq⟩
  | .ne, .NotEq, _ => ⟨_, op_neD hu, by rw [hK]; exact fit_ne⟩
  | .is, .Is, _ => ⟨_, op_isN, fit_is⟩
  | .isnt, .IsNot, _ => ⟨_, op_notN, fit_isnt⟩
  | .isin, .In, _ => ⟨_, op_inS, by rw [hK]; exact fit_in⟩
  | .nin, .NotIn, _ => ⟨_, op_notInS, by rw [hK]; exact fit_in⟩
inductive Bi where | abs | max2 | min2 | int1 | len | tuple | list | sum | max1 | min1 | sorted
def Bi.nm : Bi → Str
  | .abs => "abs"
  | .max2 => "max"
  | .min2 => "min"
  | .int1 => "int"
  | .len => "len"
  | .tuple => "tuple"
  | .list => "list"
  | .sum => "sum"
  | .max1 => "max"
  | .min1 => "min"
  | .sorted => "sorted"
def Bi.fn : Bi → List PV → Option PV
  | .abs => bAbs
  | .max2 => bMax2
  | .min2 => bMin2
  | .int1 => bInt
  | .len => bLen
  | .tuple => bTuple
  | .list => bList
  | .sum => bSum
  | .max1 => bMax1
  | .min1 => bMin1
  | .sorted => bSorted
def Bi.isN : Bi → Bool
  | .list => true
  | .sorted => true
  | _ => false
inductive Tg where | one (i : Nat) | many (is : List Nat)
def Tg.fn : Tg → EvT
  | .one i => evT1 i
  | .many is => evTm is
def Tg.is : Tg → List Nat
  | .one i => [i]
  | .many is => is
theorem Tg.tgOk : ∀ t : Tg, TgOk t.fn t.is
  | .one i => tgOk_one i
  | .many is => tgOk_many is
inductive Ex where
  | var (i : Nat) | own (i : Nat) | int (i : Int) | str (s : Str) | bl (b : Bool) | non | con (g : Nat)
  | op (o : B2) (a b : Ex) | cat (a b : Ex) | neg (a : Ex)
  | cmp (o : K2) (a b : Ex) | ch (o o' : K2) (a b c : Ex)
  | and (a b : Ex) | or (a b : Ex) | one (a : Ex) | not (a : Ex) | ofb (a : Ex) | isi (k : Nat) (a : Ex)
  | ite (c a b : Ex) | ix (a b : Ex) | sl (a lo hi : Ex) | slN (a lo hi : Ex) | pn
  | nil | cons (a b : Ex) | tup (a : Ex) | lst (a : Ex)
  | bi (f : Bi) (a : Ex) | call (g : Nat) (a : Ex) | callL (g : Nat) (a : Ex)
  | seq (a : Ex) | rng1 (a : Ex) | rng2 (a : Ex) | zip (a : Ex)
  | rep (a b : Ex) | revL (a : Ex) | lz (a : Ex) | revT (a : Ex)
  | comp (t : Tg) (vs : List Nat) (h f : Ex) | compc (t : Tg) (vs : List Nat) (h c f : Ex)
structure EvR where
  v : Ev
  b : EvB
  a : EvA
  p : EvP
  i : EvA
def noE {α : Type} : Loc → Oms → Option (Rs α) := fun _ _ => none
def rX (v : Ev) : EvR := ⟨v, evTr v, noE, evPs v, noE⟩
def rB (b : EvB) : EvR := ⟨evBl b, b, noE, evPs (evBl b), noE⟩
def rA (a : EvA) : EvR := ⟨noE, noE, a, noE, noE⟩
def rI (i : EvA) : EvR := ⟨noE, noE, noE, noE, i⟩
def rP (p : EvP) : EvR := ⟨noE, noE, noE, p, noE⟩
def pNeg : PV → Option PV
  | .int i => some (.int (-i))
  | _ => none
/-- what the functions give -/
abbrev Gm := Nat → List PV → Oms → Option (Rs PV)
/-- the classes' numbers: 0 int, 1 bool, 2 str, 3 tuple, 4 list, 5 dict; 10 on: the text's own -/
def isfB (c : Tg0) : Tg0 → Option Bool
  | .ob _ => none
  | t => some (decide (t = c) || (decide (c = .int) && decide (t = .bl)))
/-- the text's own classes of instances: 10 Hand, 11 Weigher, 12 Follower, 13 Rounder, 14 Shifter, 15 Tier, 16 Meaner, 17 Book -/
def subC (c d : Nat) : Bool := decide (c = d) || (decide (d = 10) && decide (11 ≤ c ∧ c ≤ 15)) || (decide (d = 11) && decide (c = 14))
def isfO (d : Nat) : Tg0 → Option Bool
  | .ob c => some (subC c d)
  | _ => some false
def isfG : Nat → Tg0 → Option Bool
  | 0 => isfB .int
  | 1 => isfB .bl
  | 2 => isfB .str
  | 3 => isfB .tup
  | 4 => isfB .lst
  | 5 => isfB .dic
  | d => isfO d
/-- the text's constants -/
def csG : Nat → PV
  | 0 => .int 24
  | 1 => .int 100
  | 2 => .int 10
  | 3 => .str "0123456789"
  | 4 => .str "abcdefghijklmnopqrstuvwxyz"
  | _ => .non
noncomputable def ev (Γ : Gm) : Ex → EvR
  | .var i => rX (evVar i)
  | .own i => rX (evOwn i)
  | .int i => rX (evC0 (.int i))
  | .str s => rX (evC0 (.str s))
  | .bl b => rB fun _ O => some (.ok b O)
  | .non => rX (evC0 .non)
  | .con g => rX (evC0 (csG g))
  | .op o a b => rX (ev2 o.fn (ev Γ a).v (ev Γ b).v)
  | .cat a b => rX (ev2 pCat (ev Γ a).v (ev Γ b).v)
  | .neg a => rX (ev1 pNeg (ev Γ a).v)
  | .cmp o a b => rB (evC o.fn (ev Γ a).v (ev Γ b).v)
  | .ch o o' a b c => rB (evCh o.fn o'.fn (ev Γ a).v (ev Γ b).v (ev Γ c).v)
  | .and a b => rB (evAnd (ev Γ a).b (ev Γ b).b)
  | .or a b => rB (evOr (ev Γ a).b (ev Γ b).b)
  | .one a => rB (ev Γ a).b
  | .not a => rB (evNot (ev Γ a).b)
  | .ofb a => rB (evOfB (ev Γ a).v)
  | .isi k a => rB (evIsi (isfG k) (ev Γ a).v)
  | .ite c a b => rX (evIte (ev Γ c).b (ev Γ a).v (ev Γ b).v)
  | .ix a b => rX (ev2 pIx (ev Γ a).v (ev Γ b).v)
  | .sl a lo hi => rX (evSl pSl (ev Γ a).v (ev Γ lo).p (ev Γ hi).p)
  | .slN a lo hi => rX (evSl pSlL (ev Γ a).v (ev Γ lo).p (ev Γ hi).p)
  | .pn => rP evPn
  | .nil => rA evNil
  | .cons a b => rA (evCons (ev Γ a).v (ev Γ b).a)
  | .tup a => rX (evTup (ev Γ a).a)
  | .lst a => rX (evLst (ev Γ a).a)
  | .bi f a => rX (evBi f.fn (ev Γ a).a)
  | .call g a => rX (evCall (Γ g) (ev Γ a).a)
  | .callL g a => rX (evCallL (Γ g) (ev Γ a).a)
  | .seq a => rI (evSeqI (ev Γ a).v)
  | .rng1 a => rI (evRng toR1 (ev Γ a).a)
  | .rng2 a => rI (evRng toR2 (ev Γ a).a)
  | .zip a => rI (evRng pZip (ev Γ a).a)
  | .rep a b => rX (ev2 pRep (ev Γ a).v (ev Γ b).v)
  | .revL a => rX (ev1 pRev (ev Γ a).v)
  | .revT a => rX (ev1 pRevT (ev Γ a).v)
  | .lz a => rX (evLz (ev Γ a).a)
  | .comp t vs h f => rX (evComp (ev Γ h).i t.fn evYes (ev Γ f).v vs)
  | .compc t vs h c f => rX (evComp (ev Γ h).i t.fn (ev Γ c).b (ev Γ f).v vs)
/-- its sense: shared, loose, new -/
inductive Kn where | x | l | n
  deriving DecidableEq
def Ex.kn : Ex → Kn
  | .own _ => .l
  | .cat _ _ => .n
  | .slN _ _ _ => .n
  | .lst _ => .n
  | .bi f _ => if f.isN then .n else .x
  | .comp _ _ _ _ => .n
  | .compc _ _ _ _ _ => .n
  | .rep _ _ => .n
  | .revL _ => .n
  | .lz _ => .n
  | _ => .x
/-- a truth for sure -/
def Ex.isB : Ex → Bool
  | .bl _ | .cmp _ _ _ | .ch _ _ _ _ _ | .and _ _ | .or _ _ | .one _ | .not _ | .ofb _ | .isi _ _ => true
  | _ => false
/-- with a rule of its own as a test -/
def Ex.isT : Ex → Bool
  | .cmp _ _ _ | .ch _ _ _ _ _ | .and _ _ | .or _ _ | .not _ => true
  | _ => false
/-- walks to several names alone -/
def Ex.needT : Ex → Bool
  | .zip _ => true
  | _ => false
def isTupE : Expr → Bool
  | .Tuple .. => true
  | _ => false
def tgS (nt : Bool) (tg : Expr) : Bool := !nt || isTupE tg
def Ex.alen : Ex → Nat
  | .cons _ b => b.alen + 1
  | _ => 0
theorem ev_bl {Γ : Gm} {a : Ex} (h : a.isB = true) : (ev Γ a).v = evBl (ev Γ a).b := by
  cases a <;> first | rfl | cases h
theorem alen_ok {Γ : Gm} : ∀ {a : Ex} {ρ : Loc} {O O' : Oms} {xs : List PV}, (ev Γ a).a ρ O = some (.ok xs O') → xs.length = a.alen := by
  intro a
  induction a with
  | nil =>
    intro ρ O O' xs h
    cases h
    rfl
  | cons a b iha ihb =>
    intro ρ O O' xs h
    have h : (bnd ((ev Γ a).v ρ O) fun x O1 => bnd ((ev Γ b).a ρ O1) fun xs O2 => some (.ok (x :: xs) O2)) = some (.ok xs O') := h
    cases q : (ev Γ a).v ρ O with
    | none => rw [q] at h; cases h
    | some r =>
      cases r with
      | ex x O1 => rw [q] at h; cases h
      | ok x O1 =>
        rw [q] at h
        have h : (bnd ((ev Γ b).a ρ O1) fun xs O2 => some (.ok (x :: xs) O2)) = some (.ok xs O') := h
        cases q2 : (ev Γ b).a ρ O1 with
        | none => rw [q2] at h; cases h
        | some r2 =>
          cases r2 with
          | ex y O2 => rw [q2] at h; cases h
          | ok ys O2 =>
            rw [q2] at h
            cases h
            exact congrArg (· + 1) (ihb q2)
  | _ => intro ρ O O' xs h; cases h
/-! ### the text's table -/
structure Tb where
  N : List Str
  sc : Scope
  cf : Option Scope
  fn : Nat → Option (Str × Nat)
  cs : Nat → Option Str
  cl : Nat → Option Str
  bn : List Str
def visB (sc : Scope) (x : Str) : Bool := match sc.names.lookup x with
  | some .local => true
  | some .cell => true
  | some .free => true
  | _ => false
def locB (sc : Scope) (x : Str) : Bool := match sc.names.lookup x with
  | some .local => true
  | some .cell => true
  | _ => false
def glB (sc : Scope) (x : Str) : Bool := match sc.names.lookup x with
  | some .globalImplicit => true
  | _ => false
def ndB (x : Str) : Bool := !(x == ("__debug__" : Str)) && (!(x == ("__classdict__" : Str)) && decide (x ≠ "__name__"))
/-- a comprehension's own table -/
def Tb.blk (T : Tb) (scope : Scope) : Tb := { T with sc := relS scope T.sc, cf := some scope }
def Tb.fcB (T : Tb) (x : Str) : Bool := match T.cf with
  | none => true
  | some scope => scope.names.lookup x == some .cell
structure XOk (T : Tb) (X : Cx) (C : Ctx) (Γ : Gm) : Prop where
  hK : X.K = C.D.K
  hN : X.N = T.N
  nd : X.N.Nodup
  sc : X.env.scope = T.sc
  cell : ∀ x, T.fcB x = true → X.fn x = true
  calm : X.calm = true
  un : X.A.units + 64 < cLine
  tk : Takes X C.EX
  fn : ∀ g x n, T.fn g = some (x, n) → ∃ k f fd ps, FnOk X.prog X.w X.K X.mg X.base (L2.CX X.prog X.w) k f fd ps (spOf C.D n (Γ g)) ∧ Room k X.A ∧ X.mg x = some (.ref f) ∧ PySem.W.keepIn X.K (.ref f) = true ∧ Binds X.K fd ps []
  cs : ∀ g x, T.cs g = some x → ∃ v u, X.mg x = some u ∧ RelV v u ∧ Sc (csG g) v
  cl : ∀ g x, T.cl g = some x → ClsF C.D X.K X.mg x (isfG g)
  bn : ∀ x, T.bn.contains x = true → X.mg x = none
inductive Md where | v | t | w | s | l | p | i
inductive Nd where | e (e : Expr) | es (es : List Expr) | o (o : Option Expr)
def Ex.isP : Ex → Bool
  | .pn => true
  | _ => false
/-- as a test -/
def tst (a : Ex) (f : Md → Nd → Bool) (e : Expr) : Bool := if a.isT then f .t (.e e) else plainTest e && f .v (.e e)
/-- as a part of a slice -/
def prt (a : Ex) (f : Md → Nd → Bool) : Option Expr → Bool
  | none => a.isP
  | some e => !a.isP && f .v (.e e)
def stoB (T : Tb) (i : Nat) (x : Str) : Bool := decide (T.N[i]? = some x) && (locB T.sc x && (T.fcB x || decide (T.sc.names.lookup x = some .local)))
def tgB (T : Tb) : Tg → Expr → Bool
  | .one i, .Name x _ => stoB T i x
  | .many is, .Tuple es _ _ => go is es
  | _, _ => false
where go : List Nat → List Expr → Bool
  | [], [] => true
  | i :: is, .Name x _ :: es => stoB T i x && go is es
  | _, _ => false
def ownB (T : Tb) (vs : List Nat) : List (Str × Nat) := vs.map fun i => ((T.N[i]?).getD "", i)
def chk : Ex → Tb → Md → Nd → Bool
  | .var i, T, .v, .e (.Name x _) => decide (T.N[i]? = some x) && (visB T.sc x && ndB x)
  | .own i, T, .v, .e (.Name x _) => decide (T.N[i]? = some x) && (visB T.sc x && ndB x)
  | .int i, _, .v, .e (.Constant (.int j) _ _) => decide (i = j)
  | .str s, _, .v, .e (.Constant (.str j) _ _) => decide (s = j)
  | .bl s, _, .v, .e (.Constant (.bool j) _ _) => decide (s = j)
  | .non, _, .v, .e (.Constant .none _ _) => true
  | .con g, T, .v, .e (.Name x _) => decide (T.cs g = some x) && (glB T.sc x && ndB x)
  | .op o a b, T, .v, .e (.BinOp x op y _) => o.is op && (chk a T .v (.e x) && chk b T .v (.e y))
  | .cat a b, T, .v, .e (.BinOp x .Add y _) => chk a T .v (.e x) && chk b T .v (.e y)
  | .neg a, T, .v, .e (.UnaryOp .USub x _) => chk a T .v (.e x)
  | .cmp o a b, T, .v, .e (.Compare x [op] [y] _) => o.isOp op && (notSet y && (chk a T .v (.e x) && chk b T .v (.e y)))
  | .cmp o a b, T, .t, .e (.Compare x [op] [y] _) => o.isOp op && (notSet y && (chk a T .v (.e x) && chk b T .v (.e y)))
  | .ch o o' a b c, T, .v, .e (.Compare x [op, op'] [y, z] _) => o.isOp op && (o'.isOp op' && (notSet z && (chk a T .v (.e x) && (chk b T .v (.e y) && chk c T .v (.e z)))))
  | .ch o o' a b c, T, .t, .e (.Compare x [op, op'] [y, z] _) => o.isOp op && (o'.isOp op' && (notSet z && (chk a T .v (.e x) && (chk b T .v (.e y) && chk c T .v (.e z)))))
  | .and a b, T, .v, .e (.BoolOp .And (x :: y :: r) p) => (a.isB && b.isB) && (chk a T .v (.e x) && chk b T .v (.e (.BoolOp .And (y :: r) p)))
  | .and a b, T, .w, .e (.BoolOp .And (x :: y :: r) p) => tst a (chk a T) x && chk b T .w (.e (.BoolOp .And (y :: r) p))
  | .and a b, T, .t, .e (.BoolOp .And (x :: y :: r) p) => tst a (chk a T) x && chk b T .w (.e (.BoolOp .And (y :: r) p))
  | .or a b, T, .v, .e (.BoolOp .Or (x :: y :: r) p) => (a.isB && b.isB) && (chk a T .v (.e x) && chk b T .v (.e (.BoolOp .Or (y :: r) p)))
  | .or a b, T, .w, .e (.BoolOp .Or (x :: y :: r) p) => tst a (chk a T) x && chk b T .w (.e (.BoolOp .Or (y :: r) p))
  | .or a b, T, .t, .e (.BoolOp .Or (x :: y :: r) p) => tst a (chk a T) x && chk b T .w (.e (.BoolOp .Or (y :: r) p))
  | .one a, T, .v, .e (.BoolOp _ [x] _) => a.isB && chk a T .v (.e x)
  | .one a, T, .w, .e (.BoolOp _ [x] _) => tst a (chk a T) x
  | .not a, T, .v, .e (.UnaryOp .Not x _) => chk a T .v (.e x)
  | .not a, T, .t, .e (.UnaryOp .Not x _) => tst a (chk a T) x
  | .ofb a, T, .v, .e x => (decide (a.kn ≠ .l) && noSwap x) && chk a T .v (.e x)
  | .isi k a, T, .v, .e (.Call (.Name n _) [x, .Name c _] [] _) => decide (n = "isinstance") && (glB T.sc n && (T.bn.contains n && (decide (T.cl k = some c) && (glB T.sc c && (ndB c && (notStar x && chk a T .v (.e x)))))))
  | .ite c a b, T, .v, .e (.IfExp x y z _) => (decide (a.kn ≠ .l) && decide (b.kn ≠ .l)) && (tst c (chk c T) x && (chk a T .v (.e y) && chk b T .v (.e z)))
  | .ix a b, T, .v, .e (.Subscript x y _) => notSlice y && (chk a T .v (.e x) && chk b T .v (.e y))
  | .sl a lo hi, T, .v, .e (.Subscript x (.Slice u v none _) _) => chk a T .v (.e x) && (prt lo (chk lo T) u && prt hi (chk hi T) v)
  | .slN a lo hi, T, .v, .e (.Subscript x (.Slice u v none _) _) => chk a T .v (.e x) && (prt lo (chk lo T) u && prt hi (chk hi T) v)
  | .nil, _, .s, .es [] => true
  | .nil, _, .l, .es [] => true
  | .cons a b, T, .s, .es (x :: xs) => decide (a.kn ≠ .l) && (notStar x && (chk a T .v (.e x) && chk b T .s (.es xs)))
  | .cons a b, T, .l, .es (x :: xs) => notStar x && (chk a T .v (.e x) && chk b T .l (.es xs))
  | .tup a, T, .v, .e (.Tuple es _ _) => decide (a.alen ≤ 1000) && chk a T .s (.es es)
  | .lst a, T, .v, .e (.List es _) => decide (a.alen ≤ 1000) && chk a T .s (.es es)
  | .bi f a, T, .v, .e (.Call (.Name n _) (x :: xs) [] _) => decide (n = f.nm) && (glB T.sc n && (T.bn.contains n && (notStars (x :: xs) && chk a T .l (.es (x :: xs)))))
  | .call g a, T, .v, .e (.Call (.Name n _) (x :: xs) [] _) => decide (T.fn g = some (n, a.alen)) && (glB T.sc n && (ndB n && (notStars (x :: xs) && chk a T .s (.es (x :: xs)))))
  | .callL g a, T, .v, .e (.Call (.Name n _) (x :: xs) [] _) => decide (T.fn g = some (n, a.alen)) && (glB T.sc n && (ndB n && (notStars (x :: xs) && chk a T .l (.es (x :: xs)))))
  | .seq a, T, .i, .e x => decide (a.kn ≠ .l) && chk a T .v (.e x)
  | .rng1 a, T, .i, .e (.Call (.Name n _) [x] [] _) => decide (n = "range") && (glB T.sc n && (T.bn.contains n && (notStar x && chk a T .l (.es [x]))))
  | .rng2 a, T, .i, .e (.Call (.Name n _) [x, y] [] _) => decide (n = "range") && (glB T.sc n && (T.bn.contains n && (notStar x && (notStar y && chk a T .l (.es [x, y])))))
  | .zip a, T, .i, .e (.Call (.Name n _) [x, y] [] _) => decide (n = "zip") && (glB T.sc n && (T.bn.contains n && (notStar x && (notStar y && chk a T .s (.es [x, y])))))
  | .rep a b, T, .v, .e (.BinOp x .Mult y _) => decide (a.kn = .n) && (chk a T .v (.e x) && chk b T .v (.e y))
  | .revL a, T, .v, .e (.Subscript x (.Slice none none (some (.UnaryOp .USub (.Constant (.int i) _ _) _)) _) _) => decide (i = 1) && chk a T .v (.e x)
  | .revT a, T, .v, .e (.Subscript x (.Slice none none (some (.UnaryOp .USub (.Constant (.int i) _ _) _)) _) _) => decide (i = 1) && chk a T .v (.e x)
  | .lz a, T, .v, .e (.Call (.Name n _) [.Call (.Name m _) [x, y] [] _] [] _) => decide (n = "list") && (glB T.sc n && (T.bn.contains n && (decide (m = "zip") && (glB T.sc m && (T.bn.contains m && (notStar x && (notStar y && chk a T .s (.es [x, y]))))))))
  | .comp t vs h f, T, .v, .e (.ListComp elt [⟨tg, iter, [], k⟩] scope _) => (decide (k = 0) && tgS h.needT tg) && ((notSet iter && chk h T .i (.e iter)) && (blkC T.N T.sc scope (ownB T vs) && ((t.is.all fun i => vs.contains i) && (tgB (T.blk scope) t tg && (decide (f.kn ≠ .l) && chk f (T.blk scope) .v (.e elt))))))
  | .compc t vs h c f, T, .v, .e (.ListComp elt [⟨tg, iter, [cd], k⟩] scope _) => (decide (k = 0) && tgS h.needT tg) && ((notSet iter && chk h T .i (.e iter)) && (blkC T.N T.sc scope (ownB T vs) && ((t.is.all fun i => vs.contains i) && (tgB (T.blk scope) t tg && ((decide (f.kn ≠ .l) && chk f (T.blk scope) .v (.e elt)) && tst c (chk c (T.blk scope)) cd)))))
  | _, _, _, _ => false
theorem evTr_bl (g : EvB) : evTr (evBl g) = g := by
  funext ρ O
  unfold evTr evBl
  cases g ρ O with
  | none => rfl
  | some r => cases r <;> rfl
theorem ev_tr {Γ : Gm} {a : Ex} {T : Tb} {nd : Nd} (h : chk a T .v nd = true) : (ev Γ a).b = evTr (ev Γ a).v := by
  cases a <;> first | rfl | exact (evTr_bl _).symm | cases h
end Hw

namespace Hw
open PySem PySem.Spec PyProof.Rows L2

def JdV (X : Cx) (C : Ctx) (k : Kn) (v : Ev) (e : Expr) : Prop := match k with
  | .x => PE X e (tX C v)
  | .l => PE X e (tL C v)
  | .n => PE X e (tN C v)
def Jd (X : Cx) (C : Ctx) (k : Kn) (nt : Bool) (r : EvR) : Md → Nd → Prop
  | .v, .e e => JdV X C k r.v e
  | .t, .e e => PT X e (tTt C r.b)
  | .w, .e e => PW X e (tTt C r.b)
  | .s, .es es => PA X es (tXs C r.a)
  | .l, .es es => PA X es (tLs C r.a)
  | .p, .o o => PO X o (tPo C r.p)
  | .i, .e e => ∀ tg, tgS nt tg = true → PI X tg e (tI C r.i)
  | _, _ => True
theorem JdV.toL {X : Cx} {C : Ctx} {k : Kn} {v : Ev} {e : Expr} (h : JdV X C k v e) : PE X e (tL C v) := by
  cases k with
  | x => exact l_of_x h
  | l => exact h
  | n => exact l_of_x (x_of_n h)
theorem JdV.toX {X : Cx} {C : Ctx} {k : Kn} {v : Ev} {e : Expr} (h : JdV X C k v e) (hk : k ≠ .l) : PE X e (tX C v) := by
  cases k with
  | x => exact h
  | l => exact absurd rfl hk
  | n => exact x_of_n h
section
variable {T : Tb} {X : Cx} {C C' : Ctx} {Γ : Gm}
theorem XOk.vis (ok : XOk T X C Γ) {x : Str} (h : visB T.sc x = true) : Vis X.env.scope x := by
  rw [ok.sc]
  unfold visB at h
  unfold Vis
  split at h
  · rename_i e; exact .inl e
  · rename_i e; exact .inr (.inl e)
  · rename_i e; exact .inr (.inr e)
  · cases h
theorem XOk.gl (ok : XOk T X C Γ) {x : Str} (h : glB T.sc x = true) : Gl X x := by
  unfold Gl Env.kindOf
  rw [ok.sc]
  unfold glB at h
  split at h
  · assumption
  · cases h
theorem XOk.sto (ok : XOk T X C Γ) {i : Nat} {x : Str} (h : stoB T i x = true) : X.N[i]? = some x ∧ L2.Loc X.env.scope x ∧ (X.fn x = true ∨ X.env.scope.names.lookup x = some .local) := by
  unfold stoB at h
  simp only [Bool.and_eq_true, Bool.or_eq_true, decide_eq_true_eq] at h
  obtain ⟨h1, h2, h3⟩ := h
  refine ⟨by rw [ok.hN]; exact h1, ?_, h3.elim (fun h => .inl (ok.cell _ h)) fun h => .inr (by rw [ok.sc]; exact h)⟩
  rw [ok.sc]
  unfold locB at h2
  split at h2
  · rename_i e; exact .inl e
  · rename_i e; exact .inr e
  · cases h2
theorem ndB_ok {x : Str} (h : ndB x = true) : (x == ("__debug__" : Str)) = false ∧ (x == ("__classdict__" : Str)) = false ∧ x ≠ "__name__" := by
  unfold ndB at h
  simp only [Bool.and_eq_true, Bool.not_eq_true', decide_eq_true_eq] at h
  exact h
theorem XOk.blk (ok : XOk T X C Γ) (hc : InC C C') (scope : Scope) (s : Shared) (H : Hp) (A : Addr) (cl : List (Str × Addr)) (fp : List Addr) : XOk (T.blk scope) (X.blk s H scope (compEnvC scope cl A X.env) fp) C' Γ :=
  ⟨by rw [hc.D]; exact ok.hK, ok.hN, ok.nd, by
    show relS scope X.env.scope = relS scope T.sc
    rw [ok.sc], fun x h => h, ok.calm, ok.un, by
    rw [hc.EX]
    exact takes0, fun g x n e => by rw [hc.D]; exact ok.fn g x n e, ok.cs, fun g x e => by rw [hc.D]; exact ok.cl g x e, ok.bn⟩
theorem tst_ok {a : Ex} {e : Expr} (hK : X.K = C.D.K) (ih : ∀ m nd, chk a T m nd = true → Jd X C a.kn a.needT (ev Γ a) m nd) (h : tst a (chk a T) e = true) : PT X e (tTt C (ev Γ a).b) := by
  unfold tst at h
  by_cases ht : a.isT = true
  · rw [if_pos ht] at h
    exact ih .t (.e e) h
  · rw [if_neg ht, Bool.and_eq_true] at h
    have q := ih .v (.e e) h.2
    rw [ev_tr h.2]
    exact st_val hK (JdV.toL q) h.1
theorem prt_ok {a : Ex} {o : Option Expr} (ih : ∀ m nd, chk a T m nd = true → Jd X C a.kn a.needT (ev Γ a) m nd) (h : prt a (chk a T) o = true) : PO X o (tPo C (ev Γ a).p) := by
  cases o with
  | none =>
    have h : a.isP = true := h
    cases a <;> first | exact so_none | cases h
  | some e =>
    have h : (!a.isP && chk a T .v (.e e)) = true := h
    rw [Bool.and_eq_true] at h
    have q := so_some (JdV.toL (ih .v (.e e) h.2))
    cases a <;> first | exact q | cases h.2
theorem tgs_ok (ok : XOk T X C Γ) : ∀ {is : List Nat} {es : List Expr}, tgB.go T is es = true → Tgs X C es is
  | [], [], _ => .nil
  | [], _ :: _, h => by cases h
  | _ :: _, [], h => by cases h
  | i :: is, e :: es, h => by
    cases e <;> try (cases h; done)
    rename_i x pos
    have h : (stoB T i x && tgB.go T is es) = true := h
    simp only [Bool.and_eq_true] at h
    obtain ⟨h1, h3⟩ := h
    obtain ⟨q1, q2, q3⟩ := ok.sto h1
    exact .cons q1 q2 q3 (tgs_ok ok h3)
theorem tg_ok (ok : XOk T X C Γ) {t : Tg} {e : Expr} (h : tgB T t e = true) : PG X e (tG C t.fn t.is) := by
  cases t with
  | one i =>
    cases e <;> try (cases h; done)
    rename_i x pos
    have h : stoB T i x = true := h
    obtain ⟨q1, q2, q3⟩ := ok.sto h
    exact sg_one ok.nd q1 q2 q3
  | many is =>
    cases e <;> try (cases h; done)
    exact sg_many ok.hK ok.calm ok.nd (tgs_ok ok h)
theorem ownB_map (T : Tb) (vs : List Nat) : (ownB T vs).map (·.2) = vs := by
  unfold ownB
  rw [List.map_map]
  exact List.map_id _
theorem notSet_fold {e : Expr} {env : Env} (h : notSet e = true) : ∀ x, foldedSetIterable e env x = pure x := by
  intro x
  cases e with
  | Set => cases h
  | _ => rfl
theorem pAt_neg {X : Cx} {C : Ctx} {a : Expr} {f : Ev} {pos : Pos} (he : PE X a (tL C f)) : PE X (.UnaryOp .USub a pos) (tX C (ev1 pNeg f)) := by
  refine PE.mono (pe_un un_neg he) fun σ H Q ⟨W, ρ, O, B, G⟩ => ⟨W, ρ, O, B, goes_bnd G fun W1 H1 x v O1 le1 B1 Rx G1 => ?_⟩
  obtain ⟨z, e, q⟩ := goes_ret G1
  cases x <;> try (cases e; done)
  rename_i i
  cases e
  exact ⟨i, Rx.int B1, q W1 H1 _ (Wd.Le.refl _) B1 (.int _)⟩
theorem few_ok {Γ : Gm} {a : Ex} (h : a.alen ≤ 1000) : Few (ev Γ a).a := fun ρ O xs O' e => by
  rw [alen_ok e]
  exact Nat.le_trans h (by decide)
theorem isB_kn {a : Ex} (h : a.isB = true) : a.kn ≠ .l := by
  cases a <;> first | (show Kn.x ≠ Kn.l; decide) | cases h
theorem snd (Γ : Gm) : ∀ (a : Ex) (T : Tb) (X : Cx) (C : Ctx), XOk T X C Γ → ∀ m nd, chk a T m nd = true → Jd X C a.kn a.needT (ev Γ a) m nd := by
  intro a
  induction a with
  | var i =>
    intro T X C ok m nd h
    cases m <;> try (cases h; done)
    cases nd <;> try (cases h; done)
    rename_i e
    cases e <;> try (cases h; done)
    rename_i x pos
    have h : (decide (T.N[i]? = some x) && (visB T.sc x && ndB x)) = true := h
    simp only [Bool.and_eq_true, decide_eq_true_eq] at h
    obtain ⟨h1, h2, h3⟩ := h
    obtain ⟨n1, n2, _⟩ := ndB_ok h3
    exact sx_var (by rw [ok.hN]; exact h1) (ok.vis h2) n1 n2
  | own i =>
    intro T X C ok m nd h
    cases m <;> try (cases h; done)
    cases nd <;> try (cases h; done)
    rename_i e
    cases e <;> try (cases h; done)
    rename_i x pos
    have h : (decide (T.N[i]? = some x) && (visB T.sc x && ndB x)) = true := h
    simp only [Bool.and_eq_true, decide_eq_true_eq] at h
    obtain ⟨h1, h2, h3⟩ := h
    obtain ⟨n1, n2, _⟩ := ndB_ok h3
    exact sl_var (by rw [ok.hN]; exact h1) (ok.vis h2) n1 n2
  | int i =>
    intro T X C ok m nd h
    cases m <;> try (cases h; done)
    cases nd <;> try (cases h; done)
    rename_i e
    cases e <;> try (cases h; done)
    rename_i c k pos
    cases c <;> try (cases h; done)
    have h := of_decide_eq_true h
    subst h
    exact sx_const pe_int (.int _)
  | str i =>
    intro T X C ok m nd h
    cases m <;> try (cases h; done)
    cases nd <;> try (cases h; done)
    rename_i e
    cases e <;> try (cases h; done)
    rename_i c k pos
    cases c <;> try (cases h; done)
    have h := of_decide_eq_true h
    subst h
    exact sx_const pe_str (.str _)
  | bl i =>
    intro T X C ok m nd h
    cases m <;> try (cases h; done)
    cases nd <;> try (cases h; done)
    rename_i e
    cases e <;> try (cases h; done)
    rename_i c k pos
    cases c <;> try (cases h; done)
    have h := of_decide_eq_true h
    subst h
    exact sx_const pe_bl (.bl _)
  | non =>
    intro T X C ok m nd h
    cases m <;> try (cases h; done)
    cases nd <;> try (cases h; done)
    rename_i e
    cases e <;> try (cases h; done)
    rename_i c k pos
    cases c <;> try (cases h; done)
    exact sx_const pe_non .non
  | con g =>
    intro T X C ok m nd h
    cases m <;> try (cases h; done)
    cases nd <;> try (cases h; done)
    rename_i e
    cases e <;> try (cases h; done)
    rename_i x pos
    have h : (decide (T.cs g = some x) && (glB T.sc x && ndB x)) = true := h
    simp only [Bool.and_eq_true, decide_eq_true_eq] at h
    obtain ⟨h1, h2, h3⟩ := h
    obtain ⟨v, u, e1, e2, e3⟩ := ok.cs g x h1
    exact sx_const (pe_glob (ok.gl h2) e1 e2 (ndB_ok h3).1) e3
  | op o a b iha ihb =>
    intro T X C ok m nd h
    cases m <;> try (cases h; done)
    cases nd <;> try (cases h; done)
    rename_i e
    cases e <;> try (cases h; done)
    rename_i x op y pos
    have h : (o.is op && (chk a T .v (.e x) && chk b T .v (.e y))) = true := h
    simp only [Bool.and_eq_true] at h
    obtain ⟨h1, h2, h3⟩ := h
    obtain ⟨r, o1, o2⟩ := B2.ok (X := X) (C := C) ok.hK h1
    exact sx_op o1 o2 (JdV.toL (iha T X C ok .v (.e x) h2)) (JdV.toL (ihb T X C ok .v (.e y) h3))
  | cat a b iha ihb =>
    intro T X C ok m nd h
    cases m <;> try (cases h; done)
    cases nd <;> try (cases h; done)
    rename_i e
    cases e <;> try (cases h; done)
    rename_i x op y pos
    cases op <;> try (cases h; done)
    have h : (chk a T .v (.e x) && chk b T .v (.e y)) = true := h
    simp only [Bool.and_eq_true] at h
    exact sn_op op_catL (by rw [ok.hK]; exact fit_cat) (JdV.toL (iha T X C ok .v (.e x) h.1)) (JdV.toL (ihb T X C ok .v (.e y) h.2))
  | neg a iha =>
    intro T X C ok m nd h
    cases m <;> try (cases h; done)
    cases nd <;> try (cases h; done)
    rename_i e
    cases e <;> try (cases h; done)
    rename_i op x pos
    cases op <;> try (cases h; done)
    exact pAt_neg (JdV.toL (iha T X C ok .v (.e x) h))
  | cmp o a b iha ihb =>
    intro T X C ok m nd h
    cases m <;> try (cases h; done)
    all_goals
      cases nd <;> try (cases h; done)
      rename_i e
      cases e <;> try (cases h; done)
      rename_i x ops ys pos
      rcases ops with _ | ⟨op, _ | _⟩ <;> try (cases h; done)
      rcases ys with _ | ⟨y, _ | _⟩ <;> try (cases h; done)
      have h : (o.isOp op && (notSet y && (chk a T .v (.e x) && chk b T .v (.e y)))) = true := h
      simp only [Bool.and_eq_true] at h
      obtain ⟨h1, h2, h3, h4⟩ := h
      obtain ⟨r, o1, o2⟩ := K2.ok (X := X) (C := C) ok.hK ok.un h1
      first
        | exact sx_cmp' o1 o2 (JdV.toL (iha T X C ok .v (.e x) h3)) (JdV.toL (ihb T X C ok .v (.e y) h4)) (notSet_ok h2)
        | exact st_cmp o1 o2 (JdV.toL (iha T X C ok .v (.e x) h3)) (JdV.toL (ihb T X C ok .v (.e y) h4)) (notSet_ok h2)
  | ch o o' a b c iha ihb ihc =>
    intro T X C ok m nd h
    cases m <;> try (cases h; done)
    all_goals
      cases nd <;> try (cases h; done)
      rename_i e
      cases e <;> try (cases h; done)
      rename_i x ops ys pos
      rcases ops with _ | ⟨op, _ | ⟨op', _ | _⟩⟩ <;> try (cases h; done)
      rcases ys with _ | ⟨y, _ | ⟨z, _ | _⟩⟩ <;> try (cases h; done)
      have h : (o.isOp op && (o'.isOp op' && (notSet z && (chk a T .v (.e x) && (chk b T .v (.e y) && chk c T .v (.e z)))))) = true := h
      simp only [Bool.and_eq_true] at h
      obtain ⟨h1, h2, h3, h4, h5, h6⟩ := h
      obtain ⟨r, o1, o2⟩ := K2.ok (X := X) (C := C) ok.hK ok.un h1
      obtain ⟨r', o1', o2'⟩ := K2.ok (X := X) (C := C) ok.hK ok.un h2
      first
        | exact sx_ch o1 o1' o2 o2' (JdV.toL (iha T X C ok .v (.e x) h4)) (JdV.toL (ihb T X C ok .v (.e y) h5)) (JdV.toL (ihc T X C ok .v (.e z) h6)) (notSet_ok h3)
        | exact st_ch o1 o1' o2 o2' (JdV.toL (iha T X C ok .v (.e x) h4)) (JdV.toL (ihb T X C ok .v (.e y) h5)) (JdV.toL (ihc T X C ok .v (.e z) h6)) (notSet_ok h3)
  | and a b iha ihb =>
    intro T X C ok m nd h
    cases m <;> try (cases h; done)
    all_goals
      cases nd <;> try (cases h; done)
      rename_i e
      cases e <;> try (cases h; done)
      rename_i op es pos
      cases op <;> try (cases h; done)
      rcases es with _ | ⟨x, _ | ⟨y, r⟩⟩ <;> try (cases h; done)
    · have h : ((a.isB && b.isB) && (chk a T .v (.e x) && chk b T .v (.e (.BoolOp .And (y :: r) pos)))) = true := h
      simp only [Bool.and_eq_true] at h
      obtain ⟨⟨h1, h2⟩, h3, h4⟩ := h
      have qa := JdV.toX (iha T X C ok .v _ h3) (isB_kn h1)
      have qb := JdV.toX (ihb T X C ok .v _ h4) (isB_kn h2)
      rw [ev_bl h1] at qa
      rw [ev_bl h2] at qb
      exact sx_and qa qb
    · have h : (tst a (chk a T) x && chk b T .w (.e (.BoolOp .And (y :: r) pos))) = true := h
      simp only [Bool.and_eq_true] at h
      exact PW.pt (st_and (tst_ok ok.hK (iha T X C ok) h.1) (ihb T X C ok .w _ h.2))
    · have h : (tst a (chk a T) x && chk b T .w (.e (.BoolOp .And (y :: r) pos))) = true := h
      simp only [Bool.and_eq_true] at h
      exact st_and (tst_ok ok.hK (iha T X C ok) h.1) (ihb T X C ok .w _ h.2)
  | or a b iha ihb =>
    intro T X C ok m nd h
    cases m <;> try (cases h; done)
    all_goals
      cases nd <;> try (cases h; done)
      rename_i e
      cases e <;> try (cases h; done)
      rename_i op es pos
      cases op <;> try (cases h; done)
      rcases es with _ | ⟨x, _ | ⟨y, r⟩⟩ <;> try (cases h; done)
    · have h : ((a.isB && b.isB) && (chk a T .v (.e x) && chk b T .v (.e (.BoolOp .Or (y :: r) pos)))) = true := h
      simp only [Bool.and_eq_true] at h
      obtain ⟨⟨h1, h2⟩, h3, h4⟩ := h
      have qa := JdV.toX (iha T X C ok .v _ h3) (isB_kn h1)
      have qb := JdV.toX (ihb T X C ok .v _ h4) (isB_kn h2)
      rw [ev_bl h1] at qa
      rw [ev_bl h2] at qb
      exact sx_or qa qb
    · have h : (tst a (chk a T) x && chk b T .w (.e (.BoolOp .Or (y :: r) pos))) = true := h
      simp only [Bool.and_eq_true] at h
      exact PW.pt (st_or (tst_ok ok.hK (iha T X C ok) h.1) (ihb T X C ok .w _ h.2))
    · have h : (tst a (chk a T) x && chk b T .w (.e (.BoolOp .Or (y :: r) pos))) = true := h
      simp only [Bool.and_eq_true] at h
      exact st_or (tst_ok ok.hK (iha T X C ok) h.1) (ihb T X C ok .w _ h.2)
  | one a iha =>
    intro T X C ok m nd h
    cases m <;> try (cases h; done)
    all_goals
      cases nd <;> try (cases h; done)
      rename_i e
      cases e <;> try (cases h; done)
      rename_i op es pos
      rcases es with _ | ⟨x, _ | ⟨y, r⟩⟩ <;> try (cases h; done)
    · have h : (a.isB && chk a T .v (.e x)) = true := h
      simp only [Bool.and_eq_true] at h
      have qa := JdV.toX (iha T X C ok .v _ h.2) (isB_kn h.1)
      rw [ev_bl h.1] at qa
      exact sx_one qa
    · cases op
      · exact st_and1 (tst_ok (a := a) ok.hK (iha T X C ok) h)
      · exact st_or1 (tst_ok (a := a) ok.hK (iha T X C ok) h)
  | not a iha =>
    intro T X C ok m nd h
    cases m <;> try (cases h; done)
    all_goals
      cases nd <;> try (cases h; done)
      rename_i e
      cases e <;> try (cases h; done)
      rename_i op x pos
      cases op <;> try (cases h; done)
    · have h : chk a T .v (.e x) = true := h
      have q := sx_not (pos := pos) ok.hK (JdV.toL (iha T X C ok .v _ h))
      rw [← ev_tr (Γ := Γ) h] at q
      exact q
    · exact st_not (tst_ok ok.hK (iha T X C ok) h)
  | ofb a iha =>
    intro T X C ok m nd h
    cases m <;> try (cases h; done)
    cases nd <;> try (cases h; done)
    rename_i e
    have h : ((decide (a.kn ≠ .l) && noSwap e) && chk a T .v (.e e)) = true := h
    simp only [Bool.and_eq_true, decide_eq_true_eq] at h
    exact sx_ofB (JdV.toX (iha T X C ok .v _ h.2) h.1.1)
  | isi k a iha =>
    intro T X C ok m nd h
    cases m <;> try (cases h; done)
    cases nd <;> try (cases h; done)
    rename_i e
    cases e <;> try (cases h; done)
    rename_i f es ks pos
    cases f <;> try (cases h; done)
    rename_i n p
    rcases es with _ | ⟨x, _ | ⟨y, zs⟩⟩ <;> try (cases h; done)
    cases y <;> try (cases h; done)
    rename_i c p2
    cases zs <;> try (cases h; done)
    rcases ks with _ | _ <;> try (cases h; done)
    have h : (decide (n = "isinstance") && (glB T.sc n && (T.bn.contains n && (decide (T.cl k = some c) && (glB T.sc c && (ndB c && (notStar x && chk a T .v (.e x)))))))) = true := h
    simp only [Bool.and_eq_true, decide_eq_true_eq] at h
    obtain ⟨rfl, h2, h3, h4, h5, h6, h7, h8⟩ := h
    obtain ⟨n1, n2, n3⟩ := ndB_ok h6
    exact sx_isi ok.hK (ok.gl h2) (ok.bn _ h3) (ok.gl h5) (ok.cl k c h4) (JdV.toL (iha T X C ok .v _ h8)) h7 n3 n1
  | ite c a b ihc iha ihb =>
    intro T X C ok m nd h
    cases m <;> try (cases h; done)
    cases nd <;> try (cases h; done)
    rename_i e
    cases e <;> try (cases h; done)
    rename_i x y z pos
    have h : ((decide (a.kn ≠ .l) && decide (b.kn ≠ .l)) && (tst c (chk c T) x && (chk a T .v (.e y) && chk b T .v (.e z)))) = true := h
    simp only [Bool.and_eq_true, decide_eq_true_eq] at h
    obtain ⟨⟨h1, h2⟩, h3, h4, h5⟩ := h
    exact sx_ite (tst_ok ok.hK (ihc T X C ok) h3) (JdV.toX (iha T X C ok .v _ h4) h1) (JdV.toX (ihb T X C ok .v _ h5) h2)
  | ix a b iha ihb =>
    intro T X C ok m nd h
    cases m <;> try (cases h; done)
    cases nd <;> try (cases h; done)
    rename_i e
    cases e <;> try (cases h; done)
    rename_i x y pos
    have h : (notSlice y && (chk a T .v (.e x) && chk b T .v (.e y))) = true := by
      cases y <;> first | exact h | cases h
    simp only [Bool.and_eq_true] at h
    obtain ⟨h1, h2, h3⟩ := h
    exact sx_ix (r := rIx C.D.K) (by rw [← ok.hK]; exact ix_seq) fit_ix (JdV.toL (iha T X C ok .v _ h2)) (JdV.toL (ihb T X C ok .v _ h3)) (notSlice_ok h1)
  | sl a lo hi iha ihl ihh =>
    intro T X C ok m nd h
    cases m <;> try (cases h; done)
    cases nd <;> try (cases h; done)
    rename_i e
    cases e <;> try (cases h; done)
    rename_i x y pos
    cases y <;> try (cases h; done)
    rename_i u v w p2
    cases w <;> try (cases h; done)
    have h : (chk a T .v (.e x) && (prt lo (chk lo T) u && prt hi (chk hi T) v)) = true := h
    simp only [Bool.and_eq_true] at h
    obtain ⟨h1, h2, h3⟩ := h
    exact sx_sl ok.hK (JdV.toL (iha T X C ok .v _ h1)) (prt_ok (ihl T X C ok) h2) (prt_ok (ihh T X C ok) h3)
  | slN a lo hi iha ihl ihh =>
    intro T X C ok m nd h
    cases m <;> try (cases h; done)
    cases nd <;> try (cases h; done)
    rename_i e
    cases e <;> try (cases h; done)
    rename_i x y pos
    cases y <;> try (cases h; done)
    rename_i u v w p2
    cases w <;> try (cases h; done)
    have h : (chk a T .v (.e x) && (prt lo (chk lo T) u && prt hi (chk hi T) v)) = true := h
    simp only [Bool.and_eq_true] at h
    obtain ⟨h1, h2, h3⟩ := h
    exact sn_sl ok.hK (JdV.toL (iha T X C ok .v _ h1)) (prt_ok (ihl T X C ok) h2) (prt_ok (ihh T X C ok) h3)
  | pn =>
    intro T X C ok m nd h
    cases m <;> cases h
  | nil =>
    intro T X C ok m nd h
    cases m <;> try (cases h; done)
    all_goals
      cases nd <;> try (cases h; done)
      rename_i es
      cases es <;> try (cases h; done)
    · exact sa_nil
    · exact la_nil
  | cons a b iha ihb =>
    intro T X C ok m nd h
    cases m <;> try (cases h; done)
    all_goals
      cases nd <;> try (cases h; done)
      rename_i es
      cases es <;> try (cases h; done)
      rename_i x xs
    · have h : (decide (a.kn ≠ .l) && (notStar x && (chk a T .v (.e x) && chk b T .s (.es xs)))) = true := h
      simp only [Bool.and_eq_true, decide_eq_true_eq] at h
      obtain ⟨h1, h2, h3, h4⟩ := h
      exact sa_cons (JdV.toX (iha T X C ok .v _ h3) h1) (ihb T X C ok .s _ h4) h2
    · have h : (notStar x && (chk a T .v (.e x) && chk b T .l (.es xs))) = true := h
      simp only [Bool.and_eq_true] at h
      obtain ⟨h1, h2, h3⟩ := h
      exact la_cons (JdV.toL (iha T X C ok .v _ h2)) (ihb T X C ok .l _ h3) h1
  | tup a iha =>
    intro T X C ok m nd h
    cases m <;> try (cases h; done)
    cases nd <;> try (cases h; done)
    rename_i e
    cases e <;> try (cases h; done)
    rename_i es _ _
    have h : (decide (a.alen ≤ 1000) && chk a T .s (.es es)) = true := h
    simp only [Bool.and_eq_true, decide_eq_true_eq] at h
    exact sx_tup (few_ok h.1) (iha T X C ok .s _ h.2)
  | lst a iha =>
    intro T X C ok m nd h
    cases m <;> try (cases h; done)
    cases nd <;> try (cases h; done)
    rename_i e
    cases e <;> try (cases h; done)
    rename_i es _
    have h : (decide (a.alen ≤ 1000) && chk a T .s (.es es)) = true := h
    simp only [Bool.and_eq_true, decide_eq_true_eq] at h
    exact sn_lst (few_ok h.1) (iha T X C ok .s _ h.2)
  | bi f a iha =>
    intro T X C ok m nd h
    cases m <;> try (cases h; done)
    cases nd <;> try (cases h; done)
    rename_i e
    cases e <;> try (cases h; done)
    rename_i fe es ks pos
    cases fe <;> try (cases h; done)
    rename_i n p
    rcases es with _ | ⟨x, xs⟩ <;> try (cases h; done)
    rcases ks with _ | _ <;> try (cases h; done)
    have h : (decide (n = f.nm) && (glB T.sc n && (T.bn.contains n && (notStars (x :: xs) && chk a T .l (.es (x :: xs)))))) = true := h
    simp only [Bool.and_eq_true, decide_eq_true_eq] at h
    obtain ⟨rfl, h2, h3, h4, h5⟩ := h
    have g := ok.gl h2
    have mm := ok.bn _ h3
    have pa : PA X (x :: xs) (tLs C (ev Γ a).a) := iha T X C ok .l _ h5
    cases f with
    | abs => exact sx_bi call_abs fit_abs g mm (by decide +kernel) pa (by decide) (by decide) h4
    | max2 => exact sx_bi (call_max2 ok.calm) fit_max2 g mm boot_max pa (by decide) (by decide) h4
    | min2 => exact sx_bi (call_min2 ok.calm) fit_min2 g mm boot_min pa (by decide) (by decide) h4
    | int1 => exact sx_ty call_int1 fit_int1 g mm PyProof.Rows.boot_int pa (by decide) (by decide) h4
    | len => exact sx_bi (r := rLenX C.D.K) (by rw [← ok.hK]; exact call_len_seq.or call_len_str) fit_len g mm PySem.boot_len pa (by decide) (by decide) h4
    | tuple => exact sx_ty call_tuple_of (by rw [ok.hK]; exact fit_tuple) g mm PyProof.Rows.boot_tuple pa (by decide) (by decide) h4
    | sum => exact sx_bi ((cr_sum ok.calm).or (cr_sumT ok.calm)) (by rw [ok.hK]; exact fit_sum) g mm boot_sum pa (by decide) (by decide) h4
    | max1 => exact sx_bi ((cr_max ok.calm).or (cr_maxT ok.calm)) (by rw [ok.hK]; exact fit_max1) g mm boot_max pa (by decide) (by decide) h4
    | min1 => exact sx_bi ((cr_min ok.calm).or (cr_minT ok.calm)) (by rw [ok.hK]; exact fit_min1) g mm boot_min pa (by decide) (by decide) h4
    | sorted => exact sn_bi (cr_sortedPO.or cr_sortedI) (by rw [ok.hK]; exact fit_sorted) g mm boot_sorted pa (by decide) (by decide) h4
    | list => exact sn_ty call_list_of (by rw [ok.hK]; exact fit_list) g mm PyProof.Rows.boot_list pa (by decide) (by decide) h4
  | call g a iha =>
    intro T X C ok m nd h
    cases m <;> try (cases h; done)
    cases nd <;> try (cases h; done)
    rename_i e
    cases e <;> try (cases h; done)
    rename_i fe es ks pos
    cases fe <;> try (cases h; done)
    rename_i n p
    rcases es with _ | ⟨x, xs⟩ <;> try (cases h; done)
    rcases ks with _ | _ <;> try (cases h; done)
    have h : (decide (T.fn g = some (n, a.alen)) && (glB T.sc n && (ndB n && (notStars (x :: xs) && chk a T .s (.es (x :: xs)))))) = true := h
    simp only [Bool.and_eq_true, decide_eq_true_eq] at h
    obtain ⟨h1, h2, h3, h4, h5⟩ := h
    obtain ⟨k, f, fd, ps, F, R, m1, k1, b1⟩ := ok.fn g n _ h1
    exact sx_call F R (ok.gl h2) m1 k1 b1 ok.tk (iha T X C ok .s _ h5) (ndB_ok h3).1 h4 fun ρ O xs O' e => alen_ok e
  | callL g a iha =>
    intro T X C ok m nd h
    cases m <;> try (cases h; done)
    cases nd <;> try (cases h; done)
    rename_i e
    cases e <;> try (cases h; done)
    rename_i fe es ks pos
    cases fe <;> try (cases h; done)
    rename_i n p
    rcases es with _ | ⟨x, xs⟩ <;> try (cases h; done)
    rcases ks with _ | _ <;> try (cases h; done)
    have h : (decide (T.fn g = some (n, a.alen)) && (glB T.sc n && (ndB n && (notStars (x :: xs) && chk a T .l (.es (x :: xs)))))) = true := h
    simp only [Bool.and_eq_true, decide_eq_true_eq] at h
    obtain ⟨h1, h2, h3, h4, h5⟩ := h
    obtain ⟨k, f, fd, ps, F, R, m1, k1, b1⟩ := ok.fn g n _ h1
    exact sx_callL F R (ok.gl h2) m1 k1 b1 ok.tk (iha T X C ok .l _ h5) (ndB_ok h3).1 h4 fun ρ O xs O' e => alen_ok e
  | seq a iha =>
    intro T X C ok m nd h
    cases m <;> try (cases h; done)
    cases nd <;> try (cases h; done)
    rename_i e
    have h : (decide (a.kn ≠ .l) && chk a T .v (.e e)) = true := h
    simp only [Bool.and_eq_true, decide_eq_true_eq] at h
    exact fun tg _ => si_seq ok.hK (JdV.toX (iha T X C ok .v _ h.2) h.1)
  | rng1 a iha =>
    intro T X C ok m nd h
    cases m <;> try (cases h; done)
    cases nd <;> try (cases h; done)
    rename_i e
    cases e <;> try (cases h; done)
    rename_i fe es ks pos
    cases fe <;> try (cases h; done)
    rename_i n p
    rcases es with _ | ⟨x, _ | _⟩ <;> try (cases h; done)
    rcases ks with _ | _ <;> try (cases h; done)
    have h : (decide (n = "range") && (glB T.sc n && (T.bn.contains n && (notStar x && chk a T .l (.es [x]))))) = true := h
    simp only [Bool.and_eq_true, decide_eq_true_eq] at h
    obtain ⟨rfl, h2, h3, h4, h5⟩ := h
    exact fun tg _ => si_range1 (ok.gl h2) (ok.bn _ h3) (iha T X C ok .l _ h5) h4
  | rng2 a iha =>
    intro T X C ok m nd h
    cases m <;> try (cases h; done)
    cases nd <;> try (cases h; done)
    rename_i e
    cases e <;> try (cases h; done)
    rename_i fe es ks pos
    cases fe <;> try (cases h; done)
    rename_i n p
    rcases es with _ | ⟨x, _ | ⟨y, _ | _⟩⟩ <;> try (cases h; done)
    rcases ks with _ | _ <;> try (cases h; done)
    have h : (decide (n = "range") && (glB T.sc n && (T.bn.contains n && (notStar x && (notStar y && chk a T .l (.es [x, y])))))) = true := h
    simp only [Bool.and_eq_true, decide_eq_true_eq] at h
    obtain ⟨rfl, h2, h3, h4, h5, h6⟩ := h
    exact fun tg _ => si_range2 (ok.gl h2) (ok.bn _ h3) (iha T X C ok .l _ h6) h4 h5
  | zip a iha =>
    intro T X C ok m nd h
    cases m <;> try (cases h; done)
    cases nd <;> try (cases h; done)
    rename_i e
    cases e <;> try (cases h; done)
    rename_i fe es ks pos
    cases fe <;> try (cases h; done)
    rename_i n p
    rcases es with _ | ⟨x, _ | ⟨y, _ | _⟩⟩ <;> try (cases h; done)
    rcases ks with _ | _ <;> try (cases h; done)
    have h : (decide (n = "zip") && (glB T.sc n && (T.bn.contains n && (notStar x && (notStar y && chk a T .s (.es [x, y])))))) = true := h
    simp only [Bool.and_eq_true, decide_eq_true_eq] at h
    obtain ⟨rfl, h2, h3, h4, h5, h6⟩ := h
    intro tg htg
    have htg : isTupE tg = true := htg
    cases tg <;> try (cases htg; done)
    exact si_zip ok.hK (ok.gl h2) (ok.bn _ h3) (iha T X C ok .s _ h6) h4 h5
  | rep a b iha ihb =>
    intro T X C ok m nd h
    cases m <;> try (cases h; done)
    cases nd <;> try (cases h; done)
    rename_i e
    cases e <;> try (cases h; done)
    rename_i x op y pos
    cases op <;> try (cases h; done)
    have h : (decide (a.kn = .n) && (chk a T .v (.e x) && chk b T .v (.e y))) = true := h
    simp only [Bool.and_eq_true, decide_eq_true_eq] at h
    obtain ⟨h1, h2, h3⟩ := h
    have q : JdV X C a.kn (ev Γ a).v x := iha T X C ok .v (.e x) h2
    rw [h1] at q
    exact sn_rep q (JdV.toL (ihb T X C ok .v (.e y) h3))
  | revL a iha =>
    intro T X C ok m nd h
    cases m <;> try (cases h; done)
    cases nd <;> try (cases h; done)
    rename_i e
    cases e <;> try (cases h; done)
    rename_i x y pos
    cases y <;> try (cases h; done)
    rename_i u v w p2
    cases u <;> try (cases h; done)
    cases v <;> try (cases h; done)
    cases w <;> try (cases h; done)
    rename_i w
    cases w <;> try (cases h; done)
    rename_i op w p3
    cases op <;> try (cases h; done)
    cases w <;> try (cases h; done)
    rename_i c k p4
    cases c <;> try (cases h; done)
    rename_i i
    have h : (decide (i = 1) && chk a T .v (.e x)) = true := h
    simp only [Bool.and_eq_true, decide_eq_true_eq] at h
    obtain ⟨rfl, h2⟩ := h
    exact sn_revL ok.hK (JdV.toL (iha T X C ok .v _ h2))
  | revT a iha =>
    intro T X C ok m nd h
    cases m <;> try (cases h; done)
    cases nd <;> try (cases h; done)
    rename_i e
    cases e <;> try (cases h; done)
    rename_i x y pos
    cases y <;> try (cases h; done)
    rename_i u v w p2
    cases u <;> try (cases h; done)
    cases v <;> try (cases h; done)
    cases w <;> try (cases h; done)
    rename_i w
    cases w <;> try (cases h; done)
    rename_i op w p3
    cases op <;> try (cases h; done)
    cases w <;> try (cases h; done)
    rename_i c k p4
    cases c <;> try (cases h; done)
    rename_i i
    have h : (decide (i = 1) && chk a T .v (.e x)) = true := h
    simp only [Bool.and_eq_true, decide_eq_true_eq] at h
    obtain ⟨rfl, h2⟩ := h
    exact sn_revT ok.hK (JdV.toL (iha T X C ok .v _ h2))
  | lz a iha =>
    intro T X C ok m nd h
    cases m <;> try (cases h; done)
    cases nd <;> try (cases h; done)
    rename_i e
    cases e <;> try (cases h; done)
    rename_i fe es ks pos
    cases fe <;> try (cases h; done)
    rename_i n p
    rcases es with _ | ⟨z, zs⟩ <;> try (cases h; done)
    cases z <;> try (cases h; done)
    rename_i fe es ks2 pos2
    cases fe <;> try (cases h; done)
    rename_i m p2
    rcases es with _ | ⟨x, _ | ⟨y, _ | _⟩⟩ <;> try (cases h; done)
    cases ks2 <;> try (cases h; done)
    cases zs <;> try (cases h; done)
    cases ks <;> try (cases h; done)
    have h : (decide (n = "list") && (glB T.sc n && (T.bn.contains n && (decide (m = "zip") && (glB T.sc m && (T.bn.contains m && (notStar x && (notStar y && chk a T .s (.es [x, y]))))))))) = true := h
    simp only [Bool.and_eq_true, decide_eq_true_eq] at h
    obtain ⟨rfl, h2, h3, rfl, h5, h6, h7, h8, h9⟩ := h
    exact sn_lz ok.hK ok.calm (ok.gl h2) (ok.bn _ h3) (ok.gl h5) (ok.bn _ h6) (iha T X C ok .s _ h9) h7 h8
  | comp t vs h0 f ihh ihf =>
    intro T X C ok m nd h
    cases m <;> try (cases h; done)
    cases nd <;> try (cases h; done)
    rename_i e
    cases e <;> try (cases h; done)
    rename_i elt gs scope pos
    rcases gs with _ | ⟨⟨tg, iter, ifs, k⟩, gs⟩ <;> try (cases h; done)
    rcases ifs with _ | ⟨c, ifs⟩ <;> try (cases h; done)
    rcases gs with _ | _ <;> try (cases h; done)
    have h : ((decide (k = 0) && tgS h0.needT tg) && ((notSet iter && chk h0 T .i (.e iter)) && (blkC T.N T.sc scope (ownB T vs) && ((t.is.all fun i => vs.contains i) && (tgB (T.blk scope) t tg && (decide (f.kn ≠ .l) && chk f (T.blk scope) .v (.e elt))))))) = true := h
    simp only [Bool.and_eq_true, decide_eq_true_eq, List.all_eq_true, Bool.not_eq_true'] at h
    obtain ⟨⟨rfl, ht⟩, ⟨h2, h3⟩, h4, h6, h7, h8, h9⟩ := h
    have q := sn_comp (c := evYes) (pos := pos) ok.calm ok.nd (own := ownB T vs) (g := t.fn) (is := t.is) t.tgOk (fun i hi => by rw [ownB_map]; simpa using h6 i hi) (ihh T X C ok .i _ h3 tg ht)
      (by rw [ok.hN, ok.sc]; exact blkOk_by h4)
      (fun s H A cl fp C' hc => tg_ok (ok.blk hc scope s H A cl fp) h7)
      (fun s H A cl fp C' hc => st_yes)
      (fun s H A cl fp C' hc => JdV.toX (ihf _ _ _ (ok.blk hc scope s H A cl fp) .v _ h9) h8) (notSet_fold h2)
    rw [ownB_map] at q
    exact q
  | compc t vs h0 c f ihh ihc ihf =>
    intro T X C ok m nd h
    cases m <;> try (cases h; done)
    cases nd <;> try (cases h; done)
    rename_i e
    cases e <;> try (cases h; done)
    rename_i elt gs scope pos
    rcases gs with _ | ⟨⟨tg, iter, ifs, k⟩, gs⟩ <;> try (cases h; done)
    rcases ifs with _ | ⟨cd, _ | _⟩ <;> try (cases h; done)
    rcases gs with _ | _ <;> try (cases h; done)
    have h : ((decide (k = 0) && tgS h0.needT tg) && ((notSet iter && chk h0 T .i (.e iter)) && (blkC T.N T.sc scope (ownB T vs) && ((t.is.all fun i => vs.contains i) && (tgB (T.blk scope) t tg && ((decide (f.kn ≠ .l) && chk f (T.blk scope) .v (.e elt)) && tst c (chk c (T.blk scope)) cd)))))) = true := h
    simp only [Bool.and_eq_true, decide_eq_true_eq, List.all_eq_true, Bool.not_eq_true'] at h
    obtain ⟨⟨rfl, ht⟩, ⟨h2, h3⟩, h4, h6, h7, ⟨h8, h9⟩, h10⟩ := h
    have q := sn_comp (c := (ev Γ c).b) (pos := pos) ok.calm ok.nd (own := ownB T vs) (g := t.fn) (is := t.is) t.tgOk (fun i hi => by rw [ownB_map]; simpa using h6 i hi) (ihh T X C ok .i _ h3 tg ht)
      (by rw [ok.hN, ok.sc]; exact blkOk_by h4)
      (fun s H A cl fp C' hc => tg_ok (ok.blk hc scope s H A cl fp) h7)
      (fun s H A cl fp C' hc => pts_one (tst_ok (ok.blk hc scope s H A cl fp).hK (ihc _ _ _ (ok.blk hc scope s H A cl fp)) h10))
      (fun s H A cl fp C' hc => JdV.toX (ihf _ _ _ (ok.blk hc scope s H A cl fp) .v _ h9) h8) (notSet_fold h2)
    rw [ownB_map] at q
    exact q
end
end Hw

namespace Hw
open PySem PySem.Spec PyProof.Rows L2

/-! ### own lists are written -/
section
variable {C : Ctx} {W : Wd} {ρ : Loc} {O : Oms} {σ : L2.St} {H : Hp}
theorem BRel.ownL (B : BRel C W ρ O σ H) {i : Nat} {xs : List PV} (e : ρ[i]? = some (some (.owl xs))) : ∃ a vs, σ[i]? = some (some (.ref a)) ∧ H a = some (.lst vs) ∧ vs.length ≤ sizeLine ∧ Reps C.D W.F W.M xs vs ∧
    ∀ xs' vs', Reps C.D W.F W.M xs' vs' → vs'.length ≤ sizeLine → BRel C W (ρ.set i (some (.owl xs'))) O σ (upd H a (.lst vs')) := by
  have go : ∀ a, σ[i]? = some (some (.ref a)) → OAt C W H i a (.owl xs) → (∀ H' xs', OAt C W H' i a (.owl xs') → SRep C W H' σ i (.owl xs')) → ∃ a vs, σ[i]? = some (some (.ref a)) ∧ H a = some (.lst vs) ∧ vs.length ≤ sizeLine ∧ Reps C.D W.F W.M xs vs ∧
      ∀ xs' vs', Reps C.D W.F W.M xs' vs' → vs'.length ≤ sizeLine → BRel C W (ρ.set i (some (.owl xs'))) O σ (upd H a (.lst vs')) := by
    intro a ea oa mk
    cases oa with
    | @lst xs vs o n h z r =>
      refine ⟨a, vs, ea, h, z, r, fun xs' vs' r' z' => ?_⟩
      have hF := (B.f.g.ownF a _ o).1
      have ne : ∀ {b : Addr} {w : Ow}, W.own b = some w → w ≠ .slot i → b ≠ a := fun e hw z => by
        rw [z, o] at e
        exact hw (Option.some.inj e).symm
      have hi : i < ρ.length := (List.getElem?_eq_some_iff.mp e).1
      refine ⟨⟨B.f.g.move (Wd.Le.refl _) (fun _ _ _ e => e) (fun b w hw e => upd_ne (ne e fun z => by rw [z] at hw; cases hw)) (fun b q e => ?_) (fun b w e => ?_) B.f.g.fresh, B.f.le, fun b q e => ?_⟩, B.ns, fun j x e => ?_, by rw [List.length_set]; exact B.len, ?_⟩
      · rw [upd_ne (fun z => by rw [z, hF] at e; cases e)]
        exact B.f.g.sub b q e
      · refine ⟨(B.f.g.ownF b w e).1, ?_⟩
        by_cases hb : b = a
        · subst hb
          exact ⟨_, upd_same⟩
        · rw [upd_ne hb]
          exact (B.f.g.ownF b w e).2
      · obtain ⟨h1, h2, h3⟩ := B.f.fr b q e
        have hb : b ≠ a := fun z => by rw [z, n] at e; cases e
        exact ⟨h1, h2, fun z => by rw [upd_ne hb]; exact h3 z⟩
      · by_cases hj : j = i
        · subst hj
          obtain ⟨e1, _⟩ := get_set_eq e
          cases e1
          exact mk _ _ (.lst o n upd_same z' r')
        · rw [List.getElem?_set_ne (Ne.symm hj)] at e
          exact (B.loc j x e).move (Wd.Le.refl _) (fun _ e => e) (fun b e => upd_ne (ne e fun z => hj (Ow.slot.inj z)))
      · rw [List.length_set]
        exact B.tmMove (W' := W) (Wd.Le.refl _) (fun _ _ _ e => e) (fun b j hj e => upd_ne (ne e fun z => by
          have := Ow.slot.inj z
          omega))
  cases B.loc i _ e with
  | sh _ r => cases r
  | ow e r => exact go _ e r fun H' xs' r' => .ow e r'
end
def evApp (i : Nat) (f : Ev) : EvS := fun ρ O => match ρ[i]? with
  | some (some (.owl xs)) => liftS (f ρ O) ρ fun x O1 => if xs.length < sizeLine then some (.nx (ρ.set i (some (.owl (xs ++ [x])))) O1) else none
  | _ => none
def evSset (i : Nat) (g f : Ev) : EvS := fun ρ O => liftS (f ρ O) ρ fun x O1 => match ρ[i]? with
  | some (some (.owl xs)) => liftS (g ρ O1) ρ fun k O2 => match k with
    | .int j => match ixN xs.length j with
      | some m => some (.nx (ρ.set i (some (.owl (xs.set m x)))) O2)
      | none => none
    | _ => none
  | _ => none
def evAug (i : Nat) (q : PV → PV → Option PV) (f : Ev) : EvS := fun ρ O => match ρ[i]? with
  | some (some (.owl _)) => none
  | some (some (.owd _ _)) => none
  | some (some x) => liftS (f ρ O) ρ fun y O1 => match q x y with
    | some z => some (.nx (ρ.set i (some z)) O1)
    | none => none
  | _ => none
section
variable {X : Cx} {C : Ctx} {e k : Expr} {f g : Ev} {i : Nat} {x : Str} {p p2 p3 pos : Pos}
theorem ss_app (hN : X.N[i]? = some x) (hv : Vis X.env.scope x) (hd : (x == ("__debug__" : Str)) = false) (hcd : (x == ("__classdict__" : Str)) = false) (he : PE X e (tX C f)) (hs : notStar e = true) (hl : p2.endLine = p3.line) :
    PS X (.Expr (.Call (.Attribute (.Name x p) "append" p2) [e] [] p3) pos) (tS C (evApp i f)) := by
  have hs' : starEach [e] X.env = (false, eval e X.env) :: starEach [] X.env := notStar_ok hs
  have hb := pe_bm (X := X) (apos := p2) (cpos := p3) PySem.F.plainAttrs_list PySem.F.slot_list_append PySem.F.type_list_append mt_append (pe_var (pos := p) hN hv hd hcd) (pa_cons he pa_nil hs') (by rfl) (by rw [hs']; rfl) (by rw [hl]; exact beq_self_eq_true _) hs' (by rfl)
  refine PS.mono (ps_expr hb (by rfl)) fun D σ H ⟨W, ρ, O, B, G⟩ => ?_
  unfold evApp at G
  cases q : ρ[i]? with
  | none => rw [q] at G; exact False.elim G
  | some o =>
    rw [q] at G
    rcases o with _ | (_ | _ | _ | _ | _ | _ | _ | _ | _ | xs | _)
    case some.owl =>
      obtain ⟨a, vs, e1, e2, _, _, _⟩ := B.ownL q
      refine ⟨.ref a, e1, .inl ⟨rfl, vs, .inl (.inl e2)⟩, W, ρ, O, B, goes_lift G fun W1 H1 y v O1 le1 B1 Rx G1 => ?_⟩
      obtain ⟨a', vs', f1, f2, f3, f4, f5⟩ := B1.ownL q
      rw [e1] at f1
      cases f1
      by_cases hz : xs.length < sizeLine
      · rw [if_pos hz] at G1
        have hz' : vs'.length < sizeLine := by rw [← f4.length]; exact hz
        exact ⟨a, vs', v, rfl, rfl, f2, hz', G1 W1 _ _ (Wd.Le.refl _) (f5 _ _ (f4.snoc Rx) (by rw [List.length_append]; exact hz'))⟩
      · rw [if_neg hz] at G1; exact False.elim G1
    all_goals exact False.elim G
theorem ss_sset (hN : X.N[i]? = some x) (hv : Vis X.env.scope x) (hd : (x == ("__debug__" : Str)) = false) (hcd : (x == ("__classdict__" : Str)) = false) (he : PE X e (tX C f)) (hg : PE X k (tL C g)) (hs : noSwap e = true) (hns : notSlice k = true) :
    PS X (.Assign [.Subscript (.Name x p) k p2] e pos) (tS C (evSset i g f)) := by
  have hs' : swapsWithSole [.Subscript (.Name x p) k p2] e pos.line X.env = pure false := by
    unfold swapsWithSole
    exact noSwap_ok hs
  refine PS.mono (ps_asg he (pg_sub (pe_var (pos := p) hN hv hd hcd) hg set_list (fun v => by cases k <;> first | rfl | cases hns)) hs' (by cases k <;> rfl) (by cases k <;> rfl)) fun D σ H ⟨W, ρ, O, B, G⟩ => ⟨W, ρ, O, B, goes_lift G fun W1 H1 y v O1 le1 B1 Rx G1 => ?_⟩
  cases q : ρ[i]? with
  | none => rw [q] at G1; exact False.elim G1
  | some o =>
    rw [q] at G1
    rcases o with _ | (_ | _ | _ | _ | _ | _ | _ | _ | _ | xs | _)
    case some.owl =>
      obtain ⟨a, vs, e1, e2, _, _, _⟩ := B1.ownL q
      refine ⟨.ref a, e1, W1, ρ, O1, B1, goes_lift G1 fun W2 H2 z w O2 le2 B2 Rz G2 => ?_⟩
      cases z with
      | int j =>
        obtain ⟨a', vs', f1, f2, f3, f4, f5⟩ := B2.ownL q
        rw [e1] at f1
        cases f1
        dsimp only at G2
        cases hj : ixN xs.length j with
        | none => rw [hj] at G2; exact False.elim G2
        | some m =>
          rw [hj] at G2
          exact ⟨a, vs', j, m, rfl, Rz.int B2, f2, by rw [← f4.length]; exact hj, G2 W2 _ _ (Wd.Le.refl _) (f5 _ _ (f4.set (Rx.mono le2.F le2.M) m) (by rw [List.length_set]; exact f3))⟩
      | _ => exact False.elim G2
    all_goals exact False.elim G1
theorem ss_aug {op : Operator} {r : R2} {q : PV → PV → Option PV} (hN : X.N.Nodup) (hi : X.N[i]? = some x) (hx : L2.Loc X.env.scope x) (he : PE X e (tL C f)) (ho : OpR X (inplaceOp op) r) (hr : FitB C r q) (hf : X.fn x = true ∨ X.env.scope.names.lookup x = some .local) :
    PS X (.AugAssign (.Name x p) op e pos) (tS C (evAug i q f)) := by
  refine PS.mono (ps_aug (ti := r) hN hi hx he ho hf) fun D σ H ⟨W, ρ, O, B, G⟩ => ?_
  unfold evAug at G
  cases qi : ρ[i]? with
  | none => rw [qi] at G; exact False.elim G
  | some o =>
    rw [qi] at G
    cases o with
    | none => exact False.elim G
    | some y =>
      obtain ⟨v, e1, R⟩ : ∃ v, σ[i]? = some (some v) ∧ Rep C.D W.F W.M y v := by
        cases B.loc i y qi with
        | sh e r => exact ⟨_, e, r⟩
        | ow e r => cases r <;> exact False.elim G
      have G : GoesS C W (liftS (f ρ O) ρ fun z O1 => match q y z with
        | some z => some (.nx (ρ.set i (some z)) O1)
        | none => none) D := by
        cases y <;> first | exact G | cases R
      refine ⟨v, e1, W, ρ, O, B, goes_lift G fun W1 H1 z w O1 le1 B1 Rz G1 => ?_⟩
      cases hq : q y z with
      | none => rw [hq] at G1; exact False.elim G1
      | some u =>
        rw [hq] at G1
        exact hr W1 ρ O1 σ H1 y z v w u _ B1 (.rep (R.mono le1.F le1.M)) Rz hq fun W2 H2 v2 le2 B2 R2 => G1 W2 _ H2 le2 (B2.set R2)
end
def pAddS : PV → PV → Option PV
  | .int i, .int j => some (.int (i + j))
  | .str i, .str j => if i.length + j.length ≤ sizeLine then some (.str (i ++ j)) else none
  | _, _ => none
noncomputable def B2.fnI : B2 → PV → PV → Option PV
  | .add => pAddS
  | o => o.fn
def B2.isI : B2 → Operator → Bool
  | .pow, _ => false
  | o, op => o.is op
theorem B2.okI {X : Cx} {C : Ctx} : ∀ {o : B2} {op : Operator}, o.isI op = true → ∃ r, OpR X (inplaceOp op) r ∧ FitB C r o.fnI
  | .add, .Add, _ => ⟨_, iop_add.or iop_add_str, by
      intro W ρ O σ H x y v u z Q B rx ry e k
      have e : pAddS x y = some z := e
      unfold pAddS at e
      split at e
      · cases e
        exact .inl ⟨_, _, rx.int B, ry.int B, k W H _ (Wd.Le.refl _) B (.int _)⟩
      · obtain ⟨hz, rfl⟩ := ite_some e
        exact .inr ⟨_, _, rx.str B, ry.str B, hz, k W H _ (Wd.Le.refl _) B (.str _)⟩
      · cases e⟩
  | .sub, .Sub, _ => ⟨_, iop_sub, fit_int0⟩
  | .mul, .Mult, _ => ⟨_, iop_mulX, fit_int fun i j z h => by
      obtain ⟨h1, h2⟩ := ite_some h
      exact ⟨mulOk_ok h1, h2⟩⟩
  | .div, .FloorDiv, _ => ⟨_, iop_fdivW, fit_int fun i j z h => by
      obtain ⟨h1, h2⟩ := ite_some h
      exact ⟨yes_of h1, h2⟩⟩
  | .mod, .Mod, _ => ⟨_, iop_mod, fit_int fun i j z h => by
      obtain ⟨h1, h2⟩ := ite_some h
      exact ⟨yes_of h1, h2⟩⟩
/-! ### name = [..] -/
section
variable {X : Cx} {C : Ctx} {elt tg iter : Expr} {ifs : List Expr} {scope : Scope} {own : List (Str × Nat)} {pos py spos : Pos} {h : EvA} {g : EvT} {is : List Nat} {c : EvB} {f : Ev} {i : Nat} {y : Str}
theorem ss_setLc (hy : X.N[i]? = some y) (hyl : X.env.scope.names.lookup y = some .local) (hsw : swapsWith (.ListComp elt [⟨tg, iter, ifs, 0⟩] scope pos) (some (.Name y py)) spos.line X.env = pure true)
    (hc : X.calm = true) (hN : X.N.Nodup) (hgo : TgOk g is) (his : ∀ i ∈ is, i ∈ own.map (·.2)) (hi : PI X tg iter (tI C h)) (ok : BlkOk X.N X.env.scope scope own)
    (hg : ∀ (s : Shared) (H : Hp) (A : Addr) (cl : List (Str × Addr)) (fp : List Addr) (C' : Ctx), InC C C' → PG (X.blk s H scope (compEnvC scope cl A X.env) fp) tg (tG C' g is))
    (ht : ∀ (s : Shared) (H : Hp) (A : Addr) (cl : List (Str × Addr)) (fp : List Addr) (C' : Ctx), InC C C' → PTs (X.blk s H scope (compEnvC scope cl A X.env) fp) ifs (tTt C' c))
    (he : ∀ (s : Shared) (H : Hp) (A : Addr) (cl : List (Str × Addr)) (fp : List Addr) (C' : Ctx), InC C C' → PE (X.blk s H scope (compEnvC scope cl A X.env) fp) elt (tX C' f)) (hs : ∀ x, foldedSetIterable iter X.env x = pure x) :
    PS X (.Assign [.Name y py] (.ListComp elt [⟨tg, iter, ifs, 0⟩] scope pos) spos) (tS C (evSet i (evComp h g c f (own.map (·.2))))) :=
  PS.mono (ps_setLc hc hN hy hyl hsw hi ok (fun s H A cl fp => pg_exC (hg s H A cl fp)) (fun s H A cl fp => pts_exC (ht s H A cl fp)) (fun s H A cl fp => pe_exC (he s H A cl fp)) hs) fun D σ H ⟨W, ρ, O, B, G⟩ => comp_run hgo his ⟨W, ρ, O, B, goes_lift G fun W1 H1 x v O1 le1 B1 N1 G1 => by
    obtain ⟨W2, le2, B2, R⟩ := N1.frz B1
    exact G1 W2 _ H1 le2 (B2.set R)⟩
theorem ss_setLcO (hy : X.N[i]? = some y) (hyl : X.env.scope.names.lookup y = some .local) (hsw : swapsWith (.ListComp elt [⟨tg, iter, ifs, 0⟩] scope pos) (some (.Name y py)) spos.line X.env = pure true)
    (hc : X.calm = true) (hN : X.N.Nodup) (hgo : TgOk g is) (his : ∀ i ∈ is, i ∈ own.map (·.2)) (hi : PI X tg iter (tI C h)) (ok : BlkOk X.N X.env.scope scope own)
    (hg : ∀ (s : Shared) (H : Hp) (A : Addr) (cl : List (Str × Addr)) (fp : List Addr) (C' : Ctx), InC C C' → PG (X.blk s H scope (compEnvC scope cl A X.env) fp) tg (tG C' g is))
    (ht : ∀ (s : Shared) (H : Hp) (A : Addr) (cl : List (Str × Addr)) (fp : List Addr) (C' : Ctx), InC C C' → PTs (X.blk s H scope (compEnvC scope cl A X.env) fp) ifs (tTt C' c))
    (he : ∀ (s : Shared) (H : Hp) (A : Addr) (cl : List (Str × Addr)) (fp : List Addr) (C' : Ctx), InC C C' → PE (X.blk s H scope (compEnvC scope cl A X.env) fp) elt (tX C' f)) (hs : ∀ x, foldedSetIterable iter X.env x = pure x) :
    PS X (.Assign [.Name y py] (.ListComp elt [⟨tg, iter, ifs, 0⟩] scope pos) spos) (tS C (evSetO i (evComp h g c f (own.map (·.2))))) :=
  PS.mono (ps_setLc hc hN hy hyl hsw hi ok (fun s H A cl fp => pg_exC (hg s H A cl fp)) (fun s H A cl fp => pts_exC (ht s H A cl fp)) (fun s H A cl fp => pe_exC (he s H A cl fp)) hs) fun D σ H ⟨W, ρ, O, B, G⟩ => comp_run hgo his ⟨W, ρ, O, B, goes_lift G fun W1 H1 x v O1 le1 B1 N1 G1 => by
    obtain ⟨W2, le2, B2⟩ := B1.setO N1
    exact G1 W2 _ H1 le2 B2⟩
end
end Hw

namespace Hw
open PySem PySem.Spec PyProof.Rows L2

/-! ### statements as data -/
inductive Sx where
  | nil | cons (s r : Sx) | pass | ifs (c : Ex) (a b : Sx) | expr (e : Ex) | ret (e : Ex) | retN | frz (is : List Nat) (s : Sx)
  | set (i : Nat) (e : Ex) | setO (i : Nat) (e : Ex) | asg (t : Tg) (e : Ex) | forS (t : Tg) (h : Ex) (b : Sx) | whl (n : Nat) (c : Ex) (b : Sx)
  | app (i : Nat) (e : Ex) | sset (i : Nat) (k e : Ex) | aug (i : Nat) (o : B2) (e : Ex)
noncomputable def evS (Γ : Gm) : Sx → EvS
  | .nil => evNx
  | .cons s r => evSeq (evS Γ s) (evS Γ r)
  | .pass => evNx
  | .ifs c a b => evIf (ev Γ c).b (evS Γ a) (evS Γ b)
  | .expr e => evDrop (ev Γ e).v
  | .ret e => evRet (ev Γ e).v
  | .retN => evRetN
  | .frz is s => evFrz is (evS Γ s)
  | .set i e => evSet i (ev Γ e).v
  | .setO i e => evSetO i (ev Γ e).v
  | .asg t e => evAsg (ev Γ e).v t.fn
  | .forS t h b => evFor (ev Γ h).i t.fn (evS Γ b)
  | .whl n c b => evWhile (ev Γ c).b (evS Γ b) n
  | .app i e => evApp i (ev Γ e).v
  | .sset i k e => evSset i (ev Γ k).v (ev Γ e).v
  | .aug i o e => evAug i o.fnI (ev Γ e).v
inductive Ns where | s (s : Stmt) | ss (ss : List Stmt)
def notTup : Expr → Bool
  | .Tuple .. => false
  | _ => true
/-- a list comprehension whose store is part of it -/
def swapB (T : Tb) (e : Expr) (x : Str) (px : Pos) : Bool := match e with
  | .ListComp _ [⟨_, iter, _, _⟩] scope pos => decide (T.sc.kind = .function) && (decide (T.sc.names.lookup x = some .local) && (decide (px.line = pos.line) && !(scope.names.any fun (n, k) => n == x && (k == .local || k == .cell))))
  | _ => false
def chkS : Sx → Tb → Ns → Bool
  | .nil, _, .ss [] => true
  | .cons s r, T, .ss (x :: xs) => chkS s T (.s x) && chkS r T (.ss xs)
  | .pass, _, .s (.Pass _) => true
  | .ifs c a b, T, .s (.If x y z _) => tst c (chk c T) x && (chkS a T (.ss y) && chkS b T (.ss z))
  | .expr e, T, .s (.Expr x _) => noSwap x && (decide (e.kn ≠ .l) && chk e T .v (.e x))
  | .ret e, T, .s (.Return (some x) _) => decide (e.kn ≠ .l) && chk e T .v (.e x)
  | .retN, _, .s (.Return none _) => true
  | .frz _ s, T, .s x => chkS s T (.s x)
  | .set i e, T, .s (.Assign [.Name x px] v _) => stoB T i x && (decide (e.kn ≠ .l) && (chk e T .v (.e v) && (noSwap v || swapB T v x px)))
  | .setO i e, T, .s (.Assign [.Name x px] v _) => stoB T i x && (decide (e.kn = .n) && (chk e T .v (.e v) && (noSwap v || swapB T v x px)))
  | .asg t e, T, .s (.Assign [tg] v _) => tgB T t tg && (notTup v && (noSwap v && (decide (e.kn ≠ .l) && chk e T .v (.e v))))
  | .forS t h b, T, .s (.For tg iter body [] _) => (tgB T t tg && tgS h.needT tg) && (notSet iter && (chk h T .i (.e iter) && chkS b T (.ss body)))
  | .whl _ c b, T, .s (.While x body [] _) => tst c (chk c T) x && chkS b T (.ss body)
  | .app i e, T, .s (.Expr (.Call (.Attribute (.Name x _) a p2) [y] [] p3) _) => decide (a = "append") && ((decide (T.N[i]? = some x) && (visB T.sc x && ndB x)) && (decide (e.kn ≠ .l) && (notStar y && (decide (p2.endLine = p3.line) && chk e T .v (.e y)))))
  | .sset i k e, T, .s (.Assign [.Subscript (.Name x _) y _] v _) => (decide (T.N[i]? = some x) && (visB T.sc x && ndB x)) && ((notSlice y && noSwap v) && (decide (e.kn ≠ .l) && (chk e T .v (.e v) && chk k T .v (.e y))))
  | .aug i o e, T, .s (.AugAssign (.Name x _) op v _) => stoB T i x && (o.isI op && chk e T .v (.e v))
  | _, _, _ => false
structure SOk (T : Tb) (X : Cx) (C : Ctx) (Γ : Gm) : Prop extends XOk T X C Γ where
  pass : PassesOwn (model X.prog X.w) X.A X.env X.xe
section
variable {T : Tb} {X : Cx} {C : Ctx} {Γ : Gm}
theorem swapB_ok (ok : XOk T X C Γ) {e : Expr} {x : Str} {px : Pos} {n : Nat} (h : swapB T e x px = true) : swapsWith e (some (.Name x px)) n X.env = pure true ∧ X.env.scope.names.lookup x = some .local ∧ noSwap e = false := by
  unfold swapB at h
  split at h
  · rename_i elt tg iter ifs k scope pos
    simp only [Bool.and_eq_true, decide_eq_true_eq, Bool.not_eq_true'] at h
    obtain ⟨h1, h2, h3, h4⟩ := h
    refine ⟨?_, by rw [ok.sc]; exact h2, rfl⟩
    have e1 : X.env.blockKind = .function := by
      unfold Env.blockKind
      rw [ok.sc, h1]
      rfl
    have e2 : X.env.kindOf x = some .local := by
      unfold Env.kindOf
      rw [ok.sc]; exact h2
    unfold swapsWith
    dsimp only
    rw [e1, e2]
    have e3 : (px.line == (Expr.ListComp elt [⟨tg, iter, ifs, k⟩] scope pos).pos.line) = true := by
      show (px.line == pos.line) = true
      rw [h3]; exact beq_self_eq_true _
    rw [e3, h4]
    rfl
  · cases h
def JdS (X : Cx) (C : Ctx) (f : EvS) : Ns → Prop
  | .s s => PS X s (tS C f)
  | .ss ss => PSs X ss (tS C f)
/-- what a list comprehension is made of -/
structure CompJ (X : Cx) (C : Ctx) (elt tg iter : Expr) (ifs : List Expr) (scope : Scope) (own : List (Str × Nat)) (h : EvA) (g : EvT) (is : List Nat) (c : EvB) (f : Ev) : Prop where
  hgo : TgOk g is
  his : ∀ i ∈ is, i ∈ own.map (·.2)
  hi : PI X tg iter (tI C h)
  ok : BlkOk X.N X.env.scope scope own
  hg : ∀ (s : Shared) (H : Hp) (A : Addr) (cl : List (Str × Addr)) (fp : List Addr) (C' : Ctx), InC C C' → PG (X.blk s H scope (compEnvC scope cl A X.env) fp) tg (tG C' g is)
  ht : ∀ (s : Shared) (H : Hp) (A : Addr) (cl : List (Str × Addr)) (fp : List Addr) (C' : Ctx), InC C C' → PTs (X.blk s H scope (compEnvC scope cl A X.env) fp) ifs (tTt C' c)
  he : ∀ (s : Shared) (H : Hp) (A : Addr) (cl : List (Str × Addr)) (fp : List Addr) (C' : Ctx), InC C C' → PE (X.blk s H scope (compEnvC scope cl A X.env) fp) elt (tX C' f)
  hs : ∀ x, foldedSetIterable iter X.env x = pure x
theorem compJ (ok : XOk T X C Γ) {a : Ex} {e : Expr} {x : Str} {px : Pos} (h : chk a T .v (.e e) = true) (hs : swapB T e x px = true) :
    ∃ elt tg iter ifs scope own pos h0 g is c f, e = .ListComp elt [⟨tg, iter, ifs, 0⟩] scope pos ∧ (ev Γ a).v = evComp h0 g c f (own.map (·.2)) ∧ CompJ X C elt tg iter ifs scope own h0 g is c f := by
  unfold swapB at hs
  split at hs
  case h_2 => cases hs
  rename_i elt tg iter ifs k scope pos
  cases a <;> try (cases h; done)
  case ofb a =>
    have h : ((decide (a.kn ≠ .l) && noSwap (.ListComp elt [⟨tg, iter, ifs, k⟩] scope pos)) && chk a T .v (.e (.ListComp elt [⟨tg, iter, ifs, k⟩] scope pos))) = true := h
    simp only [Bool.and_eq_true] at h
    cases h.1.2
  case comp t vs h0 f =>
    rcases ifs with _ | ⟨c, ifs⟩ <;> try (cases h; done)
    have h : ((decide (k = 0) && tgS h0.needT tg) && ((notSet iter && chk h0 T .i (.e iter)) && (blkC T.N T.sc scope (ownB T vs) && ((t.is.all fun i => vs.contains i) && (tgB (T.blk scope) t tg && (decide (f.kn ≠ .l) && chk f (T.blk scope) .v (.e elt))))))) = true := h
    simp only [Bool.and_eq_true, decide_eq_true_eq, List.all_eq_true, Bool.not_eq_true'] at h
    obtain ⟨⟨rfl, ht⟩, ⟨h2, h3⟩, h4, h6, h7, h8, h9⟩ := h
    refine ⟨elt, tg, iter, [], scope, ownB T vs, pos, _, t.fn, t.is, evYes, _, rfl, by rw [ownB_map]; rfl, ⟨t.tgOk, fun i hi => by rw [ownB_map]; simpa using h6 i hi, snd Γ h0 T X C ok .i _ h3 tg ht, by rw [ok.hN, ok.sc]; exact blkOk_by h4, fun s H A cl fp C' hc => tg_ok (ok.blk hc scope s H A cl fp) h7, fun s H A cl fp C' hc => st_yes,
      fun s H A cl fp C' hc => JdV.toX (snd Γ f _ _ _ (ok.blk hc scope s H A cl fp) .v _ h9) h8, notSet_fold h2⟩⟩
  case compc t vs h0 c f =>
    rcases ifs with _ | ⟨cd, _ | _⟩ <;> try (cases h; done)
    have h : ((decide (k = 0) && tgS h0.needT tg) && ((notSet iter && chk h0 T .i (.e iter)) && (blkC T.N T.sc scope (ownB T vs) && ((t.is.all fun i => vs.contains i) && (tgB (T.blk scope) t tg && ((decide (f.kn ≠ .l) && chk f (T.blk scope) .v (.e elt)) && tst c (chk c (T.blk scope)) cd)))))) = true := h
    simp only [Bool.and_eq_true, decide_eq_true_eq, List.all_eq_true, Bool.not_eq_true'] at h
    obtain ⟨⟨rfl, ht⟩, ⟨h2, h3⟩, h4, h6, h7, ⟨h8, h9⟩, h10⟩ := h
    refine ⟨elt, tg, iter, [cd], scope, ownB T vs, pos, _, t.fn, t.is, (ev Γ c).b, _, rfl, by rw [ownB_map]; rfl, ⟨t.tgOk, fun i hi => by rw [ownB_map]; simpa using h6 i hi, snd Γ h0 T X C ok .i _ h3 tg ht, by rw [ok.hN, ok.sc]; exact blkOk_by h4, fun s H A cl fp C' hc => tg_ok (ok.blk hc scope s H A cl fp) h7,
      fun s H A cl fp C' hc => pts_one (tst_ok (ok.blk hc scope s H A cl fp).hK (snd Γ c _ _ _ (ok.blk hc scope s H A cl fp)) h10),
      fun s H A cl fp C' hc => JdV.toX (snd Γ f _ _ _ (ok.blk hc scope s H A cl fp) .v _ h9) h8, notSet_fold h2⟩⟩
theorem notTup_ok {e tg : Expr} {env : Env} (h : notTup e = true) : swappedStores [tg] e env = pure none := by
  cases e <;> first | (cases tg <;> rfl) | cases h
theorem asg_one {tg : Expr} {t : Tg} {env : Env} (h : tgB T t tg = true) : (assignEach [tg] env).map (·.2) = [assign tg env] := by
  cases t <;> cases tg <;> first | rfl | cases h
theorem sndS (Γ : Gm) : ∀ (a : Sx) (T : Tb) (X : Cx) (C : Ctx), SOk T X C Γ → ∀ nd, chkS a T nd = true → JdS X C (evS Γ a) nd := by
  intro a
  induction a with
  | nil =>
    intro T X C ok nd h
    cases nd <;> try (cases h; done)
    rename_i ss
    cases ss <;> try (cases h; done)
    exact ss_nil
  | cons s r ihs ihr =>
    intro T X C ok nd h
    cases nd <;> try (cases h; done)
    rename_i ss
    cases ss <;> try (cases h; done)
    rename_i x xs
    have h : (chkS s T (.s x) && chkS r T (.ss xs)) = true := h
    simp only [Bool.and_eq_true] at h
    exact ss_cons (ihs T X C ok (.s x) h.1) (ihr T X C ok (.ss xs) h.2)
  | pass =>
    intro T X C ok nd h
    cases nd <;> try (cases h; done)
    rename_i s
    cases s <;> try (cases h; done)
    exact ss_pass
  | ifs c a b iha ihb =>
    intro T X C ok nd h
    cases nd <;> try (cases h; done)
    rename_i s
    cases s <;> try (cases h; done)
    rename_i x y z pos
    have h : (tst c (chk c T) x && (chkS a T (.ss y) && chkS b T (.ss z))) = true := h
    simp only [Bool.and_eq_true] at h
    obtain ⟨h1, h2, h3⟩ := h
    exact ss_if (tst_ok ok.hK (snd Γ c T X C ok.toXOk) h1) (iha T X C ok _ h2) (ihb T X C ok _ h3)
  | expr e =>
    intro T X C ok nd h
    cases nd <;> try (cases h; done)
    rename_i s
    cases s <;> try (cases h; done)
    rename_i x pos
    have h : (noSwap x && (decide (e.kn ≠ .l) && chk e T .v (.e x))) = true := by
      cases e <;> first | exact h | cases x <;> first | exact h | cases h
    simp only [Bool.and_eq_true, decide_eq_true_eq] at h
    exact ss_expr (JdV.toL (snd Γ e T X C ok.toXOk .v _ h.2.2)) h.1
  | ret e =>
    intro T X C ok nd h
    cases nd <;> try (cases h; done)
    rename_i s
    cases s <;> try (cases h; done)
    rename_i o pos
    cases o <;> try (cases h; done)
    rename_i x
    have h : (decide (e.kn ≠ .l) && chk e T .v (.e x)) = true := h
    simp only [Bool.and_eq_true, decide_eq_true_eq] at h
    exact ss_ret (JdV.toX (snd Γ e T X C ok.toXOk .v _ h.2) h.1)
  | retN =>
    intro T X C ok nd h
    cases nd <;> try (cases h; done)
    rename_i s
    cases s <;> try (cases h; done)
    rename_i o pos
    cases o <;> try (cases h; done)
    exact ss_retN
  | frz is s ihs =>
    intro T X C ok nd h
    cases nd <;> try (cases h; done)
    exact ss_frz (ihs T X C ok (.s _) h)
  | set i e =>
    intro T X C ok nd h
    cases nd <;> try (cases h; done)
    rename_i s
    cases s <;> try (cases h; done)
    rename_i tgs v pos
    rcases tgs with _ | ⟨tg, tgs⟩ <;> try (cases h; done)
    cases tg <;> try (cases h; done)
    rename_i x px
    cases tgs <;> try (cases h; done)
    have h : (stoB T i x && (decide (e.kn ≠ .l) && (chk e T .v (.e v) && (noSwap v || swapB T v x px)))) = true := h
    simp only [Bool.and_eq_true, decide_eq_true_eq, Bool.or_eq_true] at h
    obtain ⟨h1, h3, h4, h5⟩ := h
    obtain ⟨q1, q2, q3⟩ := ok.sto h1
    rcases h5 with h5 | h5
    · exact ss_set ok.nd q1 q2 (JdV.toX (snd Γ e T X C ok.toXOk .v _ h4) h3) h5 q3
    · obtain ⟨w1, w2, w3⟩ := swapB_ok (n := pos.line) ok.toXOk h5
      obtain ⟨elt, tg, iter, ifs, scope, own, pos', h0, g, is, c, f, rfl, ee, J⟩ := compJ ok.toXOk h4 h5
      show PS X _ (tS C (evSet i (ev Γ e).v))
      rw [ee]
      exact ss_setLc q1 w2 w1 ok.calm ok.nd J.hgo J.his J.hi J.ok J.hg J.ht J.he J.hs
  | setO i e =>
    intro T X C ok nd h
    cases nd <;> try (cases h; done)
    rename_i s
    cases s <;> try (cases h; done)
    rename_i tgs v pos
    rcases tgs with _ | ⟨tg, tgs⟩ <;> try (cases h; done)
    cases tg <;> try (cases h; done)
    rename_i x px
    cases tgs <;> try (cases h; done)
    have h : (stoB T i x && (decide (e.kn = .n) && (chk e T .v (.e v) && (noSwap v || swapB T v x px)))) = true := h
    simp only [Bool.and_eq_true, decide_eq_true_eq, Bool.or_eq_true] at h
    obtain ⟨h1, h3, h4, h5⟩ := h
    obtain ⟨q1, q2, q3⟩ := ok.sto h1
    rcases h5 with h5 | h5
    · have q : JdV X C e.kn (ev Γ e).v v := snd Γ e T X C ok.toXOk .v _ h4
      rw [h3] at q
      exact ss_setO ok.nd q1 q2 q h5 q3
    · obtain ⟨w1, w2, w3⟩ := swapB_ok (n := pos.line) ok.toXOk h5
      obtain ⟨elt, tg, iter, ifs, scope, own, pos', h0, g, is, c, f, rfl, ee, J⟩ := compJ ok.toXOk h4 h5
      show PS X _ (tS C (evSetO i (ev Γ e).v))
      rw [ee]
      exact ss_setLcO q1 w2 w1 ok.calm ok.nd J.hgo J.his J.hi J.ok J.hg J.ht J.he J.hs
  | asg t e =>
    intro T X C ok nd h
    cases nd <;> try (cases h; done)
    rename_i s
    cases s <;> try (cases h; done)
    rename_i tgs v pos
    rcases tgs with _ | ⟨tg, _ | _⟩ <;> try (cases h; done)
    have h : (tgB T t tg && (notTup v && (noSwap v && (decide (e.kn ≠ .l) && chk e T .v (.e v))))) = true := h
    simp only [Bool.and_eq_true, decide_eq_true_eq] at h
    obtain ⟨h1, h2, h3, h4, h5⟩ := h
    exact ss_asg (JdV.toX (snd Γ e T X C ok.toXOk .v _ h5) h4) (tg_ok ok.toXOk h1) h3 (notTup_ok h2) (asg_one h1)
  | forS t h0 b ihb =>
    intro T X C ok nd h
    cases nd <;> try (cases h; done)
    rename_i s
    cases s <;> try (cases h; done)
    rename_i tg iter body orelse pos
    cases orelse <;> try (cases h; done)
    have h : ((tgB T t tg && tgS h0.needT tg) && (notSet iter && (chk h0 T .i (.e iter) && chkS b T (.ss body)))) = true := h
    simp only [Bool.and_eq_true] at h
    obtain ⟨⟨h1, ht⟩, h2, h3, h4⟩ := h
    exact ss_for ok.pass ok.calm (snd Γ h0 T X C ok.toXOk .i _ h3 tg ht) (tg_ok ok.toXOk h1) (ihb T X C ok _ h4) (notSet_fold h2)
  | whl n c b ihb =>
    intro T X C ok nd h
    cases nd <;> try (cases h; done)
    rename_i s
    cases s <;> try (cases h; done)
    rename_i x body orelse pos
    cases orelse <;> try (cases h; done)
    have h : (tst c (chk c T) x && chkS b T (.ss body)) = true := h
    simp only [Bool.and_eq_true] at h
    exact ss_while ok.pass (tst_ok ok.hK (snd Γ c T X C ok.toXOk) h.1) (ihb T X C ok _ h.2)
  | app i e =>
    intro T X C ok nd h
    cases nd <;> try (cases h; done)
    rename_i s
    cases s <;> try (cases h; done)
    rename_i v pos
    cases v <;> try (cases h; done)
    rename_i fe es ks p3
    cases fe <;> try (cases h; done)
    rename_i o a p2
    cases o <;> try (cases h; done)
    rename_i x p
    rcases es with _ | ⟨y, _ | _⟩ <;> try (cases h; done)
    cases ks <;> try (cases h; done)
    have h : (decide (a = "append") && ((decide (T.N[i]? = some x) && (visB T.sc x && ndB x)) && (decide (e.kn ≠ .l) && (notStar y && (decide (p2.endLine = p3.line) && chk e T .v (.e y)))))) = true := h
    simp only [Bool.and_eq_true, decide_eq_true_eq] at h
    obtain ⟨rfl, ⟨h1, h2, h3⟩, h5, h6, h7, h8⟩ := h
    obtain ⟨n1, n2, _⟩ := ndB_ok h3
    exact ss_app (by rw [ok.hN]; exact h1) (ok.vis h2) n1 n2 (JdV.toX (snd Γ e T X C ok.toXOk .v _ h8) h5) h6 h7
  | sset i k e =>
    intro T X C ok nd h
    cases nd <;> try (cases h; done)
    rename_i s
    cases s <;> try (cases h; done)
    rename_i tgs v pos
    rcases tgs with _ | ⟨tg, tgs⟩ <;> try (cases h; done)
    cases tg <;> try (cases h; done)
    rename_i o y p2
    cases o <;> try (cases h; done)
    rename_i x p
    cases tgs <;> try (cases h; done)
    have h : ((decide (T.N[i]? = some x) && (visB T.sc x && ndB x)) && ((notSlice y && noSwap v) && (decide (e.kn ≠ .l) && (chk e T .v (.e v) && chk k T .v (.e y))))) = true := h
    simp only [Bool.and_eq_true, decide_eq_true_eq] at h
    obtain ⟨⟨h1, h2, h3⟩, ⟨h5, h6⟩, h7, h8, h9⟩ := h
    obtain ⟨n1, n2, _⟩ := ndB_ok h3
    exact ss_sset (by rw [ok.hN]; exact h1) (ok.vis h2) n1 n2 (JdV.toX (snd Γ e T X C ok.toXOk .v _ h8) h7) (JdV.toL (snd Γ k T X C ok.toXOk .v _ h9)) h6 h5
  | aug i o e =>
    intro T X C ok nd h
    cases nd <;> try (cases h; done)
    rename_i s
    cases s <;> try (cases h; done)
    rename_i tg op v pos
    cases tg <;> try (cases h; done)
    rename_i x p
    have h : (stoB T i x && (o.isI op && chk e T .v (.e v))) = true := h
    simp only [Bool.and_eq_true] at h
    obtain ⟨h1, h3, h4⟩ := h
    obtain ⟨q1, q2, q3⟩ := ok.sto h1
    obtain ⟨r, o1, o2⟩ := B2.okI (X := X) (C := C) h3
    exact ss_aug ok.nd q1 q2 (JdV.toL (snd Γ e T X C ok.toXOk .v _ h4)) o1 o2 q3
end
end Hw

namespace Hw
open PySem PySem.Spec PyProof.Rows L2

/-! ### a text's defs -/
structure DefD where
  id : Nat
  nm : Str
  qn : Str
  st : Stmt
  ps : List Str
  N : List Str
  body : Sx
/-- a text: its defs, constants, classes, the built-ins that it does not hide -/
structure Txt0 where
  ds : List DefD
  cs : List (Nat × Str)
  cl : List (Nat × Str)
  bn : List Str
def Txt0.df (T : Txt0) (g : Nat) : Option DefD := T.ds.find? fun d => d.id == g
def Txt0.tb (T : Txt0) (d : DefD) : Tb := ⟨d.N, defScope d.st, none, fun g => (T.df g).map fun d => (d.nm, d.ps.length), fun g => T.cs.lookup g, fun g => T.cl.lookup g, T.bn⟩
def scB (N ps : List Str) (sc : Scope) : Bool :=
  decide (sc.kind = .function) && (!sc.isCoroutine && (!sc.isGenerator && (decide N.Nodup && (decide (N.take ps.length = ps) && ((ps.all fun x => locB sc x) && (sc.names.all fun y => decide (y.2 ≠ .free)))))))
theorem scB_ok {N ps : List Str} {sc : Scope} (h : scB N ps sc = true) : FnScope N ps sc := by
  unfold scB at h
  simp only [Bool.and_eq_true, decide_eq_true_eq, Bool.not_eq_true', List.all_eq_true] at h
  obtain ⟨h1, h2, h3, h4, h5, h6, h7⟩ := h
  refine ⟨h1, h2, h3, h4, h5, fun x hx => ?_, h7⟩
  have q := h6 x hx
  unfold locB at q
  split at q
  · rename_i e; exact .inl e
  · rename_i e; exact .inr e
  · cases q
def Txt0.okD (T : Txt0) (d : DefD) : Bool := scB d.N d.ps (defScope d.st) && chkS d.body (T.tb d) (.ss (defBody d.st))
noncomputable def runF (T : Txt0) : Nat → Gm
  | 0, _ => fun _ _ => none
  | n + 1, g => match T.df g with
    | some d => evFun (evS (runF T n) d.body) d.N.length
    | none => fun _ _ => none
structure FnAt (K : PySem.W.Frag) (mg : Str → Option Value) (d : DefD) (f : Addr) (fd : FuncData) : Prop where
  F : Fun K d.qn d.qn d.st f fd
  m : mg d.nm = some (.ref f)
  b : Binds K fd d.ps []
theorem run_ok {P : Program} {w : World} {mg : Str → Option Value} {base : Heap} {D : Adr} {T : Txt0} (ok : T.ds.all T.okD = true) (F : ∀ d ∈ T.ds, ∃ f fd, FnAt D.K mg d f fd)
    (cs : ∀ (g : Nat) x, T.cs.lookup g = some x → ∃ v u, mg x = some u ∧ RelV v u ∧ Sc (csG g) v) (cl : ∀ (g : Nat) x, T.cl.lookup g = some x → ClsF D D.K mg x (isfG g)) (bn : ∀ x, T.bn.contains x = true → mg x = none) :
    ∀ (n g : Nat) (d : DefD), T.df g = some d → ∀ f fd, FnAt D.K mg d f fd → FnOk P w D.K mg base (L2.CX P w) n f fd d.ps (spOf D d.ps.length (runF T n g))
  | 0, g, d, e, f, fd, A => ⟨fun vs H Q E ⟨W, O, xs, _, _, r, hl, _⟩ => by rw [← hl, r.length], fun A outer s H args us vs Q E hr he hb hv ⟨W, O, xs, _, _, _, _, h⟩ => False.elim h⟩
  | n + 1, g, d, e, f, fd, A => by
    have hd : T.okD d = true := List.all_eq_true.mp ok d (List.mem_of_find?_eq_some e)
    unfold Txt0.okD at hd
    simp only [Bool.and_eq_true] at hd
    obtain ⟨h1, h3⟩ := hd
    have S := scB_ok h1
    have hpl : d.ps.length ≤ d.N.length := by
      have := congrArg List.length S.pre
      rw [List.length_take] at this
      omega
    have er : runF T (n + 1) g = evFun (evS (runF T n) d.body) d.N.length := by
      show (match T.df g with
        | some d => evFun (evS (runF T n) d.body) d.N.length
        | none => fun _ _ => none) = _
      rw [e]
    rw [er]
    refine fn_body A.F S rfl hpl (fun cdv Ar outer s W H E hr => ?_)
    · have key : ∀ X C, SOk (T.tb d) X C (runF T n) → PSs X (defBody d.st) (tS C (evS (runF T n) d.body)) := fun X C ok => sndS _ d.body (T.tb d) X C ok (.ss _) h3
      refine key _ _ ⟨⟨rfl, rfl, S.nd, rfl, fun _ _ => rfl, rfl, hr.units, takes_of rfl rfl rfl rfl, fun g' x m e' => ?_, cs, cl, bn⟩, passes_of rfl⟩
      · have e' : ((T.df g').map fun d => (d.nm, d.ps.length)) = some (x, m) := e'
        cases q : T.df g' with
        | none => rw [q] at e'; cases e'
        | some d' =>
          rw [q] at e'
          cases e'
          obtain ⟨f', fd', A'⟩ := F d' (List.mem_of_find?_eq_some q)
          exact ⟨n, f', fd', d'.ps, run_ok ok F cs cl bn n g' d' q f' fd' A', hr, A'.m, A'.F.kp, A'.b⟩
/-- the law's own promise from what its function on data gives -/
theorem law_sp {D : Adr} {T : Txt0} {n g : Nat} {H : Hp} {a : Addr} {ns : List Int} (hl : ns.length ≤ 63) (hS : SqL D.K H a (ns.map V.int)) (h : ∃ O', runF T n g [.lst (ns.map PV.int)] [] = some (.ok (.bl true) O')) :
    spOf D 1 (runF T n g) [.ref a] H (fun v _ => v = .bl true) fun _ _ _ => False := by
  obtain ⟨O', h⟩ := h
  refine ⟨⟨H, fun _ => none, fun _ => none⟩, [], [.lst (ns.map PV.int)], ⟨FLe.refl _, fun a w e => (by cases e), fun n ob e => (by cases e), fun n a e => (by cases e)⟩, fun a i e => (by cases e), .cons (.lst hS (by rw [List.length_map]; exact Nat.le_trans hl (by decide)) Reps.of_ints) .nil, rfl, ?_⟩
  rw [h]
  intro W' H' v F R
  cases R
  rfl
end Hw

namespace Hw
open PySem PySem.Spec PyProof.Rows L2

/-! ### what a law's head needs -/
theorem cls_int {D : Adr} {K : PySem.W.Frag} {mg : Str → Option Value} (h : mg "int" = none) : ClsF D K mg "int" (isfB .int) :=
  ⟨.inl ⟨"int", h, PyProof.Rows.boot_int, fun t b e => by cases t <;> cases e <;> rfl⟩, fun c b e => by cases e⟩
theorem cls_bool {D : Adr} {K : PySem.W.Frag} {mg : Str → Option Value} (h : mg "bool" = none) : ClsF D K mg "bool" (isfB .bl) :=
  ⟨.inl ⟨"bool", h, PyProof.Rows.boot_bool, fun t b e => by cases t <;> cases e <;> rfl⟩, fun c b e => by cases e⟩
theorem cls_str {D : Adr} {K : PySem.W.Frag} {mg : Str → Option Value} (h : mg "str" = none) : ClsF D K mg "str" (isfB .str) :=
  ⟨.inl ⟨"str", h, PyProof.Rows.boot_str, fun t b e => by cases t <;> cases e <;> rfl⟩, fun c b e => by cases e⟩
theorem cls_tuple {D : Adr} {K : PySem.W.Frag} {mg : Str → Option Value} (h : mg "tuple" = none) : ClsF D K mg "tuple" (isfB .tup) :=
  ⟨.inl ⟨"tuple", h, PyProof.Rows.boot_tuple, fun t b e => by cases t <;> cases e <;> rfl⟩, fun c b e => by cases e⟩
theorem cls_list {D : Adr} {K : PySem.W.Frag} {mg : Str → Option Value} (h : mg "list" = none) : ClsF D K mg "list" (isfB .lst) :=
  ⟨.inl ⟨"list", h, PyProof.Rows.boot_list, fun t b e => by cases t <;> cases e <;> rfl⟩, fun c b e => by cases e⟩
theorem cls_dict {D : Adr} {K : PySem.W.Frag} {mg : Str → Option Value} (h : mg "dict" = none) : ClsF D K mg "dict" (isfB .dic) :=
  ⟨.inl ⟨"dict", h, PyProof.Rows.boot_dict, fun t b e => by cases t <;> cases e <;> rfl⟩, fun c b e => by cases e⟩
def AllD {α : Type} (P : α → Prop) : List α → Prop
  | [] => True
  | d :: ds => P d ∧ AllD P ds
theorem AllD.get {α : Type} {P : α → Prop} : ∀ {l : List α} {g : Nat} {d : α}, AllD P l → l[g]? = some d → P d
  | [], _, _, _, e => by simp at e
  | x :: l, 0, d, h, e => by
    simp at e
    subst e
    exact h.1
  | x :: l, g + 1, d, h, e => AllD.get h.2 (by simpa using e)
theorem AllD.mem {α : Type} {P : α → Prop} {l : List α} {d : α} (h : AllD P l) (m : d ∈ l) : P d := by
  obtain ⟨g, e⟩ := List.mem_iff_getElem?.mp m
  exact h.get e
def DefAt (K : PySem.W.Frag) (d : DefD) : Prop := ∃ (f : Addr) (oc : Value) (od an : Option Addr) (sl : Array (Option Value)) (kV dc pm cd ct : Value),
  PySem.W.nsIn K mainGlobals d.nm = some (some (.ref f)) ∧ K.lookup f = some ⟨oc, od, .func (PySem.W.fnOf d.qn d.qn (defArgs d.st) (defBody d.st) (defScope d.st) .none kV dc pm an cd ct), sl⟩ ∧ PySem.W.codeIn K cd d.qn = true ∧ PySem.W.keepIn K (.ref f) = true
def BindsD (d : DefD) : Prop := ∀ (kV doc pm : Value) (an : Option Addr) (cdv ct : Value) (us : List Value), us.length = d.ps.length → bindArgs (PySem.W.fnOf d.qn d.qn (defArgs d.st) (defBody d.st) (defScope d.st) .none kV doc pm an cdv ct) ⟨us, []⟩ = pure (d.ps.zip us)
def NoneAt (K : PySem.W.Frag) (x : Str) : Prop := PySem.W.nsIn K mainGlobals x = some none
theorem DefAt.at {K : PySem.W.Frag} {d : DefD} {h : Heap} {mg : Str → Option Value} (A : DefAt K d) (B : BindsD d) (X : K.In h) (G : h.Ns mainGlobals mg) : ∃ f fd, FnAt K mg d f fd ∧ ∀ (s : Shared) (us : List Value), us.length = d.ps.length → BindsTo s fd ⟨us, []⟩ (d.ps.zip us) := by
  obtain ⟨f, oc, od, an, sl, kV, dc, pm, cd, ct, a, l, c, k⟩ := A
  exact ⟨f, _, ⟨fun_mk (st := d.st) l c k, PySem.W.mg_of X G a, (fun_mk (st := d.st) l c k).binds B⟩, fun s us hl => .of_eq (B _ _ _ _ _ _ us hl)⟩
theorem law_mk {P : Program} {w : World} {D : Adr} {T : Txt0} {h : Heap} {mg : Str → Option Value} {fa : Addr} {n g : Nat} {dL : DefD} {x : Str} (gl : T.df g = some dL) (hp : dL.ps = [x]) (ok : T.ds.all T.okD = true)
    (KX : D.K.In h) (G : h.Ns mainGlobals mg) (hfa : mg dL.nm = some (.ref fa)) (A : AllD (DefAt D.K) T.ds) (B : AllD BindsD T.ds) (Z : AllD (NoneAt D.K) T.bn)
    (cs : ∀ (g : Nat) x, T.cs.lookup g = some x → ∃ v u, mg x = some u ∧ RelV v u ∧ Sc (csG g) v) (cl : ∀ (g : Nat) x, T.cl.lookup g = some x → ClsF D D.K mg x (isfG g)) :
    ∃ fd : FuncData, (∀ (s : Shared) (u : Value), BindsTo s fd ⟨[u], []⟩ [(x, u)]) ∧ ∀ base : Heap, D.K.In base → base.Ns mainGlobals mg → FnOk P w D.K mg base (L2.CX P w) n fa fd [x] (spOf D 1 (runF T n g)) := by
  have ml := List.mem_of_find?_eq_some gl
  obtain ⟨f, fd, FA, bt⟩ := (A.mem ml).at (B.mem ml) KX G
  have e := hfa.symm.trans FA.m
  cases e
  refine ⟨fd, fun s u => ?_, fun base _ _ => ?_⟩
  · have := bt s [u] (by rw [hp]; rfl)
    rw [hp] at this
    exact this
  · have := run_ok (P := P) (w := w) (mg := mg) (base := base) (D := D) (T := T) ok (fun d m => by
      obtain ⟨f, fd, q, _⟩ := (A.mem m).at (B.mem m) KX G
      exact ⟨f, fd, q⟩) cs cl (fun y hy => PySem.W.mg_none_of KX G (Z.mem (by simpa using hy))) n g dL gl fa fd FA
    rw [hp] at this
    exact this
theorem cl_of {D : Adr} {mg : Str → Option Value} : ∀ {l : List (Nat × Str)}, AllD (fun p => ClsF D D.K mg p.2 (isfG p.1)) l → ∀ (g : Nat) x, l.lookup g = some x → ClsF D D.K mg x (isfG g)
  | [], _, _, _, e => by cases e
  | (k, y) :: l, h, g, x, e => by
    rw [List.lookup_cons] at e
    by_cases hk : g == k
    · rw [hk] at e
      cases e
      have : g = k := by simpa using hk
      subst this
      exact h.1
    · have hk : (g == k) = false := by simpa using hk
      rw [hk] at e
      exact cl_of h.2 g x e
theorem cs_of {mg : Str → Option Value} : ∀ {l : List (Nat × Str)}, AllD (fun p => ∃ v u, mg p.2 = some u ∧ RelV v u ∧ Sc (csG p.1) v) l → ∀ (g : Nat) x, l.lookup g = some x → ∃ v u, mg x = some u ∧ RelV v u ∧ Sc (csG g) v
  | [], _, _, _, e => by cases e
  | (k, y) :: l, h, g, x, e => by
    rw [List.lookup_cons] at e
    by_cases hk : g == k
    · rw [hk] at e
      cases e
      have : g = k := by simpa using hk
      subst this
      exact h.1
    · have hk : (g == k) = false := by simpa using hk
      rw [hk] at e
      exact cs_of h.2 g x e
theorem none_of {K : PySem.W.Frag} {h : Heap} {mg : Str → Option Value} {x : Str} (X : K.In h) (G : h.Ns mainGlobals mg) (z : NoneAt K x) : mg x = none := PySem.W.mg_none_of X G z
theorem cxFalse {P : Program} {w : World} {H : Hp} {s : Shared} {e : Value} {s' : Shared} (h : L2.CX P w [] H s (fun _ _ _ => False) e s') : False := by
  obtain ⟨_, _, _, _, _, _, _, _, _, _, _, _, z⟩ := h
  exact z.elim
end Hw

namespace Hw
open PySem PySem.Spec PyProof.Rows L2

/-! ### sizes -/
def Sz (k : Nat) (x : Int) : Prop := x.natAbs ≤ 2 ^ k
theorem Sz.mono {k m : Nat} {x : Int} (h : Sz k x) (hk : k ≤ m) : Sz m x := Nat.le_trans h (Nat.pow_le_pow_right (by decide) hk)
theorem Sz.mul {k m : Nat} {x y : Int} (h : Sz k x) (h' : Sz m y) : Sz (k + m) (x * y) := by
  unfold Sz at *
  rw [Int.natAbs_mul, Nat.pow_add]
  exact Nat.mul_le_mul h h'
theorem Sz.one : Sz 0 1 := by
  unfold Sz
  decide
theorem Sz.pow {k : Nat} {x : Int} (h : Sz k x) : ∀ n : Nat, Sz (k * n) (x ^ n)
  | 0 => by rw [Nat.mul_zero, Int.pow_zero]; exact .one
  | n + 1 => by
    rw [Int.pow_succ, Nat.mul_succ]
    exact (Sz.pow h n).mul h
theorem Sz.add {k : Nat} {x y : Int} (h : Sz k x) (h' : Sz k y) : Sz (k + 1) (x + y) := by
  unfold Sz at *
  have : (x + y).natAbs ≤ x.natAbs + y.natAbs := Int.natAbs_add_le x y
  rw [Nat.pow_succ]
  omega
theorem Sz.of_lt {k : Nat} {x : Int} (h0 : 0 ≤ x) (h : x ≤ (2 ^ k : Nat)) : Sz k x := by
  unfold Sz
  omega
theorem log2_le {n k : Nat} (h : n ≤ 2 ^ k) : n.log2 ≤ k := by
  by_cases h0 : n = 0
  · rw [h0]; exact Nat.zero_le _
  · rcases Nat.lt_or_ge k n.log2 with q | q
    · have h1 := Nat.log2_self_le h0
      have h2 : 2 ^ (k + 1) ≤ 2 ^ n.log2 := Nat.pow_le_pow_right (by decide) q
      have h3 : 2 ^ (k + 1) = 2 * 2 ^ k := by rw [Nat.pow_succ, Nat.mul_comm]
      have h4 : 0 < 2 ^ k := Nat.pow_pos (by decide)
      omega
    · exact q
theorem Sz.log {k : Nat} {x : Int} (h : Sz k x) : x.natAbs.log2 ≤ k := log2_le h
theorem mulOk_of {k m : Nat} {x y : Int} (h : Sz k x) (h' : Sz m y) (hk : k + m < 100000000) : mulOk x y = true := by
  unfold mulOk
  have h1 := h.log
  have h2 := h'.log
  exact yes_pos (by omega)
theorem fMul_of {k m : Nat} {x y : Int} (h : Sz k x) (h' : Sz m y) (hk : k + m < 100000000) : fMul x y = some (x * y) := by
  unfold fMul
  rw [if_pos (mulOk_of h h' hk)]
theorem fMod_of {x y : Int} (h : 0 < y) : fMod x y = some (x % y) := by
  unfold fMod
  rw [if_pos (yes_pos h)]
theorem fDiv_of {x y : Int} (h : 0 < y) (h' : y.natAbs.log2 < 9000) : fDiv x y = some (x / y) := by
  unfold fDiv
  rw [if_pos (yes_pos ⟨h, h'⟩)]
theorem fDiv_of2 {x y : Int} (h : 0 < y) (h' : y < 1152921504606846976) : fDiv x y = some (x / y) := by
  refine fDiv_of h (Nat.lt_of_le_of_lt (log2_le (k := 60) ?_) (by decide))
  omega
theorem fPow_of {x y : Int} (h : 0 ≤ y ∧ y ≤ 1000000 ∧ x.natAbs < 2 ^ 64) : fPow x y = some (x ^ y.toNat) := by
  unfold fPow
  rw [if_pos (yes_pos h)]
theorem sz_of_bits {z : Int} {K : Nat} (h : Builtin.Int.intBits z ≤ K) : Sz K z := by
  unfold Sz
  unfold Builtin.Int.intBits at h
  split at h
  · rename_i h0
    have : z = 0 := by simpa using h0
    rw [this]
    exact Nat.zero_le _
  · exact Nat.le_of_lt (Nat.lt_of_lt_of_le (Nat.lt_log2_self) (Nat.pow_le_pow_right (by decide) h))
/-! ### loops -/
theorem loopS_nil {g : EvT} {f : EvS} {ρ : Loc} {O : Oms} : loopS g f [] ρ O = some (.nx ρ O) := rfl
theorem loopS_step {g : EvT} {f : EvS} {x : PV} {xs : List PV} {ρ ρ1 ρ2 : Loc} {O O2 : Oms} (h1 : g x ρ = some ρ1) (h2 : f ρ1 O = some (.nx ρ2 O2)) : loopS g f (x :: xs) ρ O = loopS g f xs ρ2 O2 := by
  rw [loopS, h1]
  dsimp only
  rw [h2]
  rfl
/-- a loop that keeps on: I holds ahead of each turn -/
theorem loopS_inv {g : EvT} {f : EvS} {xs : List PV} (I : Nat → Loc → Oms → Prop) (step : ∀ i x ρ O, xs[i]? = some x → I i ρ O → ∃ ρ1 ρ2 O2, g x ρ = some ρ1 ∧ f ρ1 O = some (.nx ρ2 O2) ∧ I (i + 1) ρ2 O2) :
    ∀ ρ O, I 0 ρ O → ∃ ρ' O', loopS g f xs ρ O = some (.nx ρ' O') ∧ I xs.length ρ' O' := by
  have go : ∀ m i ρ O, i + m = xs.length → I i ρ O → ∃ ρ' O', loopS g f (xs.drop i) ρ O = some (.nx ρ' O') ∧ I xs.length ρ' O' := by
    intro m
    induction m with
    | zero =>
      intro i ρ O e h
      rw [List.drop_eq_nil_of_le (by omega)]
      have : i = xs.length := by omega
      subst this
      exact ⟨ρ, O, rfl, h⟩
    | succ m ih =>
      intro i ρ O e h
      have hi : i < xs.length := by omega
      obtain ⟨ρ1, ρ2, O2, h1, h2, h3⟩ := step i xs[i] ρ O (List.getElem?_eq_getElem hi) h
      rw [List.drop_eq_getElem_cons hi, loopS_step h1 h2]
      exact ih (i + 1) ρ2 O2 (by omega) h3
  intro ρ O h
  have := go xs.length 0 ρ O (by omega) h
  rwa [List.drop_zero] at this
/-- a loop whose slots are known at each turn, but for some that nobody asks for -/
theorem loopS_st {Y : Type} {g : EvT} {f : EvS} {xs : List PV} {O : Oms} (mk : Nat → Y → Loc) (step : ∀ i x y, xs[i]? = some x → ∃ ρ1 y', g x (mk i y) = some ρ1 ∧ f ρ1 O = some (.nx (mk (i + 1) y') O)) (y : Y) : ∃ y', loopS g f xs (mk 0 y) O = some (.nx (mk xs.length y') O) := by
  obtain ⟨ρ', O', h1, rfl, y', rfl⟩ := loopS_inv (fun i ρ O' => O' = O ∧ ∃ y, ρ = mk i y) (fun i x ρ O' hx ⟨e, y, e2⟩ => by
    subst e e2
    obtain ⟨ρ1, y', h1, h2⟩ := step i x y hx
    exact ⟨ρ1, _, _, h1, h2, rfl, y', rfl⟩) (mk 0 y) O ⟨rfl, y, rfl⟩
  exact ⟨y', h1⟩
theorem rangeL_len (lo : Int) (n : Nat) : (rangeL lo n).length = n := by
  unfold rangeL
  rw [List.length_map, List.length_range]
theorem rangeL_get {lo : Int} {n i : Nat} {x : PV} (h : (rangeL lo n)[i]? = some x) : i < n ∧ x = .int (lo + (i : Nat)) := by
  have hi : i < n := by
    have := (List.getElem?_eq_some_iff.mp h).1
    rwa [rangeL_len] at this
  unfold rangeL at h
  rw [List.getElem?_map, List.getElem?_range hi] at h
  cases h
  exact ⟨hi, rfl⟩
theorem toR1_of {j : Int} (h : -(2 ^ 62) ≤ j ∧ j < 2 ^ 62) : toR1 [.int j] = some (rangeL 0 j.toNat) := by
  unfold toR1 small62
  dsimp only
  rw [if_pos (yes_pos h)]
theorem toR2_of {i j : Int} (h : -(2 ^ 62) ≤ i ∧ i < 2 ^ 62) (h' : -(2 ^ 62) ≤ j ∧ j < 2 ^ 62) : toR2 [.int i, .int j] = some (rangeL i (j - i).toNat) := by
  unfold toR2 small62
  dsimp only
  rw [if_pos ⟨yes_pos h, yes_pos h'⟩]
/-- a while loop: I by a measure -/
theorem evWhile_inv {c : EvB} {f : EvS} (I : Nat → Loc → Oms → Prop) (J : Loc → Oms → Prop)
    (step : ∀ m ρ O, I m ρ O → (c ρ O = some (.ok false O) ∧ J ρ O) ∨ (c ρ O = some (.ok true O) ∧ ∃ ρ2 O2 m2, f ρ O = some (.nx ρ2 O2) ∧ m2 < m ∧ I m2 ρ2 O2)) :
    ∀ n m ρ O, m < n → I m ρ O → ∃ ρ' O', evWhile c f n ρ O = some (.nx ρ' O') ∧ J ρ' O' := by
  intro n
  induction n with
  | zero => intro m ρ O h; omega
  | succ n ih =>
    intro m ρ O h hI
    rw [evWhile]
    rcases step m ρ O hI with ⟨h1, h2⟩ | ⟨h1, ρ2, O2, m2, h2, h3, h4⟩
    · rw [h1]
      exact ⟨ρ, O, rfl, h2⟩
    · rw [h1]
      obtain ⟨ρ', O', q1, q2⟩ := ih m2 ρ2 O2 (by omega) h4
      refine ⟨ρ', O', ?_, q2⟩
      show seqS (f ρ O) (evWhile c f n) = _
      rw [h2]
      exact q1
/-! ### comprehensions -/
theorem compL_map {g : EvT} {f : Ev} {ρw : Loc} {O : Oms} {F : PV → PV} : ∀ {xs : List PV}, (∀ x ∈ xs, ∃ ρ1, g x ρw = some ρ1 ∧ f ρ1 O = some (.ok (F x) O)) → compL g evYes f ρw xs O = some (.ok (xs.map F) O)
  | [], _ => rfl
  | x :: xs, h => by
    obtain ⟨ρ1, h1, h2⟩ := h x List.mem_cons_self
    have ih := compL_map (xs := xs) (F := F) fun y hy => h y (List.mem_cons_of_mem _ hy)
    rw [compL, h1]
    dsimp only
    show bnd (noX (some (.ok true O))) _ = _
    show bnd (noX (f ρ1 O)) _ = _
    rw [h2]
    show bnd (compL g evYes f ρw xs O) _ = _
    rw [ih]
    rfl
theorem compL_filter {g : EvT} {c : EvB} {f : Ev} {ρw : Loc} {O : Oms} {P : PV → Bool} {F : PV → PV} : ∀ {xs : List PV}, (∀ x ∈ xs, ∃ ρ1, g x ρw = some ρ1 ∧ c ρ1 O = some (.ok (P x) O) ∧ (P x = true → f ρ1 O = some (.ok (F x) O))) → compL g c f ρw xs O = some (.ok ((xs.filter P).map F) O)
  | [], _ => rfl
  | x :: xs, h => by
    obtain ⟨ρ1, h1, h2, h3⟩ := h x List.mem_cons_self
    have ih := compL_filter (xs := xs) (F := F) (P := P) fun y hy => h y (List.mem_cons_of_mem _ hy)
    rw [compL, h1]
    dsimp only
    rw [h2]
    cases hp : P x with
    | false =>
      show compL g c f ρw xs O = _
      rw [ih, List.filter_cons, hp]
      rfl
    | true =>
      show bnd (noX (f ρ1 O)) _ = _
      rw [h3 hp]
      show bnd (compL g c f ρw xs O) _ = _
      rw [ih, List.filter_cons, hp]
      rfl
/-! ### evaluation, small steps -/
theorem bnd_ok {α β : Type} {a : α} {O : Oms} {g : α → Oms → Option (Rs β)} : bnd (some (.ok a O)) g = g a O := rfl
theorem bnd_ex {α β : Type} {x : Xc} {O : Oms} {g : α → Oms → Option (Rs β)} : bnd (some (Rs.ex (α := α) x O)) g = some (.ex x O) := rfl
theorem ret_some {α : Type} {a : α} {O : Oms} : ret (some a) O = some (.ok a O) := rfl
theorem liftS_ok {α : Type} {a : α} {O : Oms} {ρ : Loc} {k : α → Oms → Option So} : liftS (some (.ok a O)) ρ k = k a O := rfl
theorem seqS_nx {ρ : Loc} {O : Oms} {k : EvS} : seqS (some (.nx ρ O)) k = k ρ O := rfl
theorem seqS_rt {x : PV} {O : Oms} {k : EvS} : seqS (some (.rt x O)) k = some (.rt x O) := rfl
theorem seqS_ex {x : Xc} {ρ : Loc} {O : Oms} {k : EvS} : seqS (some (.ex x ρ O)) k = some (.ex x ρ O) := rfl
theorem evFun_rt {fb : EvS} {m : Nat} {xs : List PV} {O O' : Oms} {x : PV} {ρ : Loc} (e : xs.map some ++ List.replicate (m - xs.length) none = ρ) (h : fb ρ O = some (.rt x O')) : evFun fb m xs O = some (.ok x O') := by
  unfold evFun
  rw [e, h]
theorem evFun_nx {fb : EvS} {m : Nat} {xs : List PV} {O O' : Oms} {ρ ρ' : Loc} (e : xs.map some ++ List.replicate (m - xs.length) none = ρ) (h : fb ρ O = some (.nx ρ' O')) : evFun fb m xs O = some (.ok .non O') := by
  unfold evFun
  rw [e, h]
theorem pEq_int (i j : Int) : pEq (.int i) (.int j) = some (decide (i = j)) := by
  have e : pEq (.int i) (.int j) = some (PyData.eqv (.int i) (.int j)) := by
    unfold pEq
    rfl
  rw [e]
  have : PyData.eqv (.int i) (.int j) = (i == j) := by simp [PyData.eqv]
  rw [this]
  congr 1
theorem pNe_int (i j : Int) : pNe (.int i) (.int j) = some (!decide (i = j)) := by
  unfold pNe
  rw [pEq_int]
  rfl
theorem atI_nat' {α : Type} {xs : List α} {i : Nat} {x : α} (h : xs[i]? = some x) : L2.atI xs (i : Int) = some x := by
  have hi : i < xs.length := (List.getElem?_eq_some_iff.mp h).1
  unfold L2.atI
  have : ixN xs.length (i : Int) = some i := by
    unfold ixN
    first
      | (rw [if_pos (by omega)]; rfl)
      | (simp; omega)
  rw [this]
  exact h
theorem pIx_lst {xs : List PV} {i : Nat} {x : PV} (h : xs[i]? = some x) : pIx (.lst xs) (.int i) = some x := atI_nat' h
theorem pIx_tup {xs : List PV} {i : Nat} {x : PV} (h : xs[i]? = some x) : pIx (.tup xs) (.int i) = some x := atI_nat' h
theorem cutG_map {α β : Type} (f : α → β) (xs : List α) (lo hi : Option Int) : cutG (xs.map f) lo hi = (cutG xs lo hi).map f := by
  unfold cutG
  rw [List.length_map, List.map_take, List.map_drop]
theorem pSl_lst {xs : List PV} {lo hi : Option Int} : pSl (.lst xs) lo hi = some (.lst (cutG xs lo hi)) := rfl
theorem pSl_tup {xs : List PV} {lo hi : Option Int} : pSl (.tup xs) lo hi = some (.tup (cutG xs lo hi)) := rfl
theorem cutG_len {α : Type} (xs : List α) (lo hi : Option Int) : (cutG xs lo hi).length ≤ xs.length := by
  unfold cutG
  rw [List.length_take, List.length_drop]
  omega
theorem truth_int (i : Int) : truth (.int i) = some (i != 0) := rfl
theorem truth_bl (b : Bool) : truth (.bl b) = some b := rfl
/-! ### equality of plain values -/
mutual
inductive Pl : Nat → PV → Prop
  | non {k : Nat} : Pl k .non
  | int {k : Nat} (i : Int) : Pl k (.int i)
  | str {k : Nat} {s : Str} (h : PyData.strOk s = true) : Pl k (.str s)
  | tup {k : Nat} {xs : List PV} (h : Pls k xs) : Pl (k + 1) (.tup xs)
  | lst {k : Nat} {xs : List PV} (h : Pls k xs) : Pl (k + 1) (.lst xs)
inductive Pls : Nat → List PV → Prop
  | nil {k : Nat} : Pls k []
  | cons {k : Nat} {x : PV} {xs : List PV} (h : Pl k x) (h' : Pls k xs) : Pls k (x :: xs)
end
mutual
theorem Pl.toD : ∀ {k : Nat} {x : PV}, Pl k x → ∃ d, Hw.toD x = some d ∧ PyData.canLay0 d = true ∧ d.depth ≤ k
  | _, _, .non => ⟨.none, rfl, rfl, Nat.zero_le _⟩
  | _, _, .int i => ⟨.int i, rfl, rfl, Nat.zero_le _⟩
  | _, _, .str h => ⟨.str _, rfl, by simpa [PyData.canLay0] using h, Nat.zero_le _⟩
  | _, _, .tup h => by
    obtain ⟨ds, h1, h2, h3⟩ := Pls.toD h
    exact ⟨.tuple ds, by rw [Hw.toD, h1]; rfl, by simpa [PyData.canLay0] using h2, by simpa [PyData.depth] using h3⟩
  | _, _, .lst h => by
    obtain ⟨ds, h1, h2, h3⟩ := Pls.toD h
    exact ⟨.list ds, by rw [Hw.toD, h1]; rfl, by simpa [PyData.canLay0] using h2, by simpa [PyData.depth] using h3⟩
theorem Pls.toD : ∀ {k : Nat} {xs : List PV}, Pls k xs → ∃ ds, toDs xs = some ds ∧ PyData.canLayAll0 ds = true ∧ PyData.depthAll ds ≤ k
  | _, _, .nil => ⟨[], rfl, rfl, Nat.zero_le _⟩
  | _, _, .cons h h' => by
    obtain ⟨d, h1, h2, h3⟩ := Pl.toD h
    obtain ⟨ds, g1, g2, g3⟩ := Pls.toD h'
    refine ⟨d :: ds, by rw [toDs, h1, g1], by rw [PyData.canLayAll0, h2, g2]; rfl, ?_⟩
    rw [PyData.depthAll]
    omega
end
mutual
theorem Pl.eqv : ∀ {k m : Nat} {x y : PV} {d e : PyData}, Pl k x → Pl m y → Hw.toD x = some d → Hw.toD y = some e → (PyData.eqv d e = true ↔ x = y)
  | _, _, .tup xs, .tup ys, d, e, .tup h, .tup h', e1, e2 => by
    obtain ⟨ds, h1, _⟩ := Pls.toD h
    obtain ⟨es, g1, _⟩ := Pls.toD h'
    rw [Hw.toD, h1] at e1
    rw [Hw.toD, g1] at e2
    cases e1
    cases e2
    have := Pls.eqv h h' h1 g1
    simp [PyData.eqv, this]
  | _, _, .lst xs, .lst ys, d, e, .lst h, .lst h', e1, e2 => by
    obtain ⟨ds, h1, _⟩ := Pls.toD h
    obtain ⟨es, g1, _⟩ := Pls.toD h'
    rw [Hw.toD, h1] at e1
    rw [Hw.toD, g1] at e2
    cases e1
    cases e2
    have := Pls.eqv h h' h1 g1
    simp [PyData.eqv, this]
  | _, _, .lst xs, .tup ys, d, e, .lst h, .tup h', e1, e2 => by
    obtain ⟨ds, h1, _⟩ := Pls.toD h
    obtain ⟨es, g1, _⟩ := Pls.toD h'
    rw [Hw.toD, h1] at e1
    rw [Hw.toD, g1] at e2
    cases e1
    cases e2
    simp [PyData.eqv]
  | _, _, .tup xs, .lst ys, d, e, .tup h, .lst h', e1, e2 => by
    obtain ⟨ds, h1, _⟩ := Pls.toD h
    obtain ⟨es, g1, _⟩ := Pls.toD h'
    rw [Hw.toD, h1] at e1
    rw [Hw.toD, g1] at e2
    cases e1
    cases e2
    simp [PyData.eqv]
  | _, _, .tup xs, .non, d, e, .tup h, _, e1, e2 => by
    obtain ⟨ds, h1, _⟩ := Pls.toD h
    rw [Hw.toD, h1] at e1
    cases e1
    cases e2
    simp [PyData.eqv]
  | _, _, .tup xs, .int _, d, e, .tup h, _, e1, e2 => by
    obtain ⟨ds, h1, _⟩ := Pls.toD h
    rw [Hw.toD, h1] at e1
    cases e1
    cases e2
    simp [PyData.eqv]
  | _, _, .tup xs, .str _, d, e, .tup h, _, e1, e2 => by
    obtain ⟨ds, h1, _⟩ := Pls.toD h
    rw [Hw.toD, h1] at e1
    cases e1
    cases e2
    simp [PyData.eqv]
  | _, _, .lst xs, .non, d, e, .lst h, _, e1, e2 => by
    obtain ⟨ds, h1, _⟩ := Pls.toD h
    rw [Hw.toD, h1] at e1
    cases e1
    cases e2
    simp [PyData.eqv]
  | _, _, .lst xs, .int _, d, e, .lst h, _, e1, e2 => by
    obtain ⟨ds, h1, _⟩ := Pls.toD h
    rw [Hw.toD, h1] at e1
    cases e1
    cases e2
    simp [PyData.eqv]
  | _, _, .lst xs, .str _, d, e, .lst h, _, e1, e2 => by
    obtain ⟨ds, h1, _⟩ := Pls.toD h
    rw [Hw.toD, h1] at e1
    cases e1
    cases e2
    simp [PyData.eqv]
  | _, _, .non, y, d, e, _, h, e1, e2 => by
    cases e1
    cases h with
    | tup h =>
      obtain ⟨ds, h1, _⟩ := Pls.toD h
      rw [Hw.toD, h1] at e2
      cases e2
      simp [PyData.eqv]
    | lst h =>
      obtain ⟨ds, h1, _⟩ := Pls.toD h
      rw [Hw.toD, h1] at e2
      cases e2
      simp [PyData.eqv]
    | _ => cases e2; simp [PyData.eqv]
  | _, _, .int _, y, d, e, _, h, e1, e2 => by
    cases e1
    cases h with
    | tup h =>
      obtain ⟨ds, h1, _⟩ := Pls.toD h
      rw [Hw.toD, h1] at e2
      cases e2
      simp [PyData.eqv]
    | lst h =>
      obtain ⟨ds, h1, _⟩ := Pls.toD h
      rw [Hw.toD, h1] at e2
      cases e2
      simp [PyData.eqv]
    | _ => cases e2; simp [PyData.eqv]
  | _, _, .str _, y, d, e, _, h, e1, e2 => by
    cases e1
    cases h with
    | tup h =>
      obtain ⟨ds, h1, _⟩ := Pls.toD h
      rw [Hw.toD, h1] at e2
      cases e2
      simp [PyData.eqv]
    | lst h =>
      obtain ⟨ds, h1, _⟩ := Pls.toD h
      rw [Hw.toD, h1] at e2
      cases e2
      simp [PyData.eqv]
    | _ => cases e2; simp [PyData.eqv]
theorem Pls.eqv : ∀ {k m : Nat} {xs ys : List PV} {ds es : List PyData}, Pls k xs → Pls m ys → toDs xs = some ds → toDs ys = some es → (PyData.eqvAll ds es = true ↔ xs = ys)
  | _, _, [], [], _, _, _, _, e1, e2 => by cases e1; cases e2; simp [PyData.eqvAll]
  | _, _, [], y :: ys, _, _, _, .cons h h', e1, e2 => by
    obtain ⟨d, h1, _⟩ := Pl.toD h
    obtain ⟨ds, g1, _⟩ := Pls.toD h'
    rw [toDs, h1, g1] at e2
    cases e1
    cases e2
    simp [PyData.eqvAll]
  | _, _, x :: xs, [], _, _, .cons h h', _, e1, e2 => by
    obtain ⟨d, h1, _⟩ := Pl.toD h
    obtain ⟨ds, g1, _⟩ := Pls.toD h'
    rw [toDs, h1, g1] at e1
    cases e1
    cases e2
    simp [PyData.eqvAll]
  | _, _, x :: xs, y :: ys, _, _, .cons h h', .cons q q', e1, e2 => by
    obtain ⟨d, h1, _⟩ := Pl.toD h
    obtain ⟨ds, g1, _⟩ := Pls.toD h'
    obtain ⟨e, j1, _⟩ := Pl.toD q
    obtain ⟨es, k1, _⟩ := Pls.toD q'
    rw [toDs, h1, g1] at e1
    rw [toDs, j1, k1] at e2
    cases e1
    cases e2
    have a := Pl.eqv h q h1 j1
    have b := Pls.eqv h' q' g1 k1
    simp [PyData.eqvAll, a, b]
end
theorem pEq_pl {k m : Nat} {x y : PV} (h : Pl k x) (h' : Pl m y) (hk : k ≤ 64) (hm : m ≤ 64) : pEq x y = some (yes (x = y)) := by
  obtain ⟨d, h1, h2, h3⟩ := Pl.toD h
  obtain ⟨e, g1, g2, g3⟩ := Pl.toD h'
  have := Pl.eqv h h' h1 g1
  unfold pEq
  rw [h1, g1]
  dsimp only
  have s1 : SeqAt.shaped d = true := by
    unfold SeqAt.shaped
    rw [h2, decide_eq_true (by omega)]
    rfl
  have s2 : SeqAt.shaped e = true := by
    unfold SeqAt.shaped
    rw [g2, decide_eq_true (by omega)]
    rfl
  rw [if_pos ⟨s1, s2⟩]
  congr 1
  by_cases q : x = y
  · rw [this.mpr q, yes_pos q]
  · have a : PyData.eqv d e = false := by
      cases z : PyData.eqv d e with
      | false => rfl
      | true => exact absurd (this.mp z) q
    rw [a]
    cases z : yes (x = y) with
    | false => rfl
    | true => exact absurd (yes_of z) q
theorem yes_neg {p : Prop} (h : ¬ p) : yes p = false := by
  cases z : yes p with
  | false => rfl
  | true => exact absurd (yes_of z) h
theorem pls_of {k : Nat} : ∀ {xs : List PV}, (∀ x ∈ xs, Pl k x) → Pls k xs
  | [], _ => .nil
  | x :: xs, h => .cons (h x List.mem_cons_self) (pls_of fun y hy => h y (List.mem_cons_of_mem _ hy))
theorem pls_int (k : Nat) (ns : List Int) : Pls k (ns.map PV.int) := pls_of fun x hx => by
  obtain ⟨i, _, rfl⟩ := List.mem_map.mp hx
  exact .int i
theorem pEq_tupI (ns ms : List Int) : pEq (.tup (ns.map PV.int)) (.tup (ms.map PV.int)) = some (decide (ns = ms)) := by
  rw [pEq_pl (.tup (pls_int 0 ns)) (.tup (pls_int 0 ms)) (by decide) (by decide)]
  congr 1
  by_cases h : ns = ms
  · subst h
    rw [yes_pos rfl, decide_eq_true rfl]
  · rw [decide_eq_false h, yes_neg]
    intro e
    injection e with e
    exact h ((List.map_inj_right (fun a b e => by injection e)).mp e)
theorem pEq_lstI (ns ms : List Int) : pEq (.lst (ns.map PV.int)) (.lst (ms.map PV.int)) = some (decide (ns = ms)) := by
  rw [pEq_pl (.lst (pls_int 0 ns)) (.lst (pls_int 0 ms)) (by decide) (by decide)]
  congr 1
  by_cases h : ns = ms
  · subst h
    rw [yes_pos rfl, decide_eq_true rfl]
  · rw [decide_eq_false h, yes_neg]
    intro e
    injection e with e
    exact h ((List.map_inj_right (fun a b e => by injection e)).mp e)
theorem pEq_tup0 (ns : List Int) : pEq (.tup (ns.map PV.int)) (.tup []) = some (decide (ns = [])) := pEq_tupI ns []
theorem pEq_lst0 (ns : List Int) : pEq (.lst (ns.map PV.int)) (.lst []) = some (decide (ns = [])) := pEq_lstI ns []
theorem sum_map {ns : List Int} : bSum [.tup (ns.map PV.int)] = some (.int ns.sum) := by
  unfold bSum
  simp only [items2, allInts_map, Option.map_some]
theorem zipT_ints (ns ms : List Int) : zipT (ns.map PV.int) (ms.map PV.int) = (ns.zip ms).map prP := by
  unfold zipT prP
  rw [List.zip_map, List.map_map]
  rfl
end Hw

namespace Hw
open PySem PySem.Spec PyProof.Rows L2
/-- _law_cell_at(_law_script, _law_k); slots 0 _law_script, 1 _law_k; calls  -/
def b16 : Sx :=
  .cons (.ifs (.cmp .lt (.var 1) (.bi .len (.cons (.var 0) (.nil)))) (.cons (.ret (.ix (.var 0) (.var 1))) (.nil)) (.nil)) (.cons (.ret (.int 0)) (.nil))
theorem sp16 (Γ : Gm) (ns : List Int) (k : Nat) (O : Oms) : evFun (evS Γ b16) 2 [.lst (ns.map PV.int), .int k] O = some (.ok (.int (ns.getD k 0)) O) := by
  refine evFun_rt (O' := O) (ρ := [some (.lst (ns.map PV.int)), some (.int k)]) rfl ?_
  by_cases h : k < ns.length
  · have c : decide ((k : Int) < (ns.length : Int)) = true := decide_eq_true (by omega)
    have e : (ns.map PV.int)[k]? = some (.int ns[k]) := by rw [List.getElem?_map, List.getElem?_eq_getElem h]; rfl
    have e2 : ns.getD k 0 = ns[k] := by rw [List.getD_eq_getElem?_getD, List.getElem?_eq_getElem h]; rfl
    simp only [b16, evS, ev, evSeq, seqS_nx, seqS_rt, seqS_ex, evNx, evSet, evIf, evRet, evRetN, evAsg, evDrop, evFor, evApp, evSset, evAug, rX, rB, rA, rI, rP, ev2, ev1, evC, evCh, evAnd, evOr, evNot, evTr, evBl, evOfB, evIte, evTup, evLst, evBi, evCall, evCons, evNil, evVar, evOwn, evSetO, evFrz, frzPs, frzP, unOw, toOw, okW, noOw, evC0, evSl, evPn, evPs, toI, evSeqI, evRng, evIsi, bnd_ok, bnd_ex, ret_some, liftS_ok, B2.fn, B2.fnI, K2.fn, Bi.fn, Tg.fn, evT1, evTm, setAll, pInt, pOrd, pNeg, pAddS, toB, truth_int, truth_bl, pEq_int, pNe_int, Option.map_some, List.getElem?_cons_zero, List.getElem?_cons_succ, List.set_cons_zero, List.set_cons_succ, List.length_cons, List.length_nil, List.length_map, toSeq, isfG, isfB, tagOf, Option.bind_some, fMod_of, fDiv_of2, Int.reduceLT, decide_true, decide_false, Bool.not_true, Bool.not_false, reduceCtorEq, eq_self, Bool.or_false, Bool.false_or, Bool.true_or, Bool.or_true, Bool.and_false, Bool.false_and, Bool.true_and, Bool.and_true, Bool.and_self, Bool.or_self, Int.zero_add, ↓reduceIte, if_true, if_false, bAbs, bMax2, bMin2, bInt, bLen, bTuple, bList, bSum, bMax1, bMin1, items2, pZip, evLz, pRev, pRevT, evCallL, allInts_map, allPairs_map, bSorted, c, pIx_lst e, e2]
  · have c : decide ((k : Int) < (ns.length : Int)) = false := decide_eq_false (by omega)
    have e2 : ns.getD k 0 = 0 := by rw [List.getD_eq_getElem?_getD, List.getElem?_eq_none (by omega)]; rfl
    simp only [b16, evS, ev, evSeq, seqS_nx, seqS_rt, seqS_ex, evNx, evSet, evIf, evRet, evRetN, evAsg, evDrop, evFor, evApp, evSset, evAug, rX, rB, rA, rI, rP, ev2, ev1, evC, evCh, evAnd, evOr, evNot, evTr, evBl, evOfB, evIte, evTup, evLst, evBi, evCall, evCons, evNil, evVar, evOwn, evSetO, evFrz, frzPs, frzP, unOw, toOw, okW, noOw, evC0, evSl, evPn, evPs, toI, evSeqI, evRng, evIsi, bnd_ok, bnd_ex, ret_some, liftS_ok, B2.fn, B2.fnI, K2.fn, Bi.fn, Tg.fn, evT1, evTm, setAll, pInt, pOrd, pNeg, pAddS, toB, truth_int, truth_bl, pEq_int, pNe_int, Option.map_some, List.getElem?_cons_zero, List.getElem?_cons_succ, List.set_cons_zero, List.set_cons_succ, List.length_cons, List.length_nil, List.length_map, toSeq, isfG, isfB, tagOf, Option.bind_some, fMod_of, fDiv_of2, Int.reduceLT, decide_true, decide_false, Bool.not_true, Bool.not_false, reduceCtorEq, eq_self, Bool.or_false, Bool.false_or, Bool.true_or, Bool.or_true, Bool.and_false, Bool.false_and, Bool.true_and, Bool.and_true, Bool.and_self, Bool.or_self, Int.zero_add, ↓reduceIte, if_true, if_false, bAbs, bMax2, bMin2, bInt, bLen, bTuple, bList, bSum, bMax1, bMin1, items2, pZip, evLz, pRev, pRevT, evCallL, allInts_map, allPairs_map, bSorted, c, e2]

end Hw
namespace Hw
open PySem PySem.Spec PyProof.Rows L2
/-- _law_many(_law_script); slots 0 _law_script, 1 _law_many_here, 2 _law_scale; calls 16 _law_cell_at -/
def b27 : Sx :=
  .cons (.set 1 (.op .add (.int 1) (.op .mod (.call 16 (.cons (.var 0) (.cons (.int 0) (.nil)))) (.int 7)))) (.cons (.ifs (.cmp .eq (.op .mod (.op .div (.call 16 (.cons (.var 0) (.cons (.int 0) (.nil)))) (.int 7)) (.int 8)) (.int 3)) (.cons (.set 1 (.op .add (.int 1) (.op .mod (.op .div (.call 16 (.cons (.var 0) (.cons (.int 0) (.nil)))) (.int 56)) (.int 24)))) (.nil)) (.nil)) (.cons (.set 2 (.int 1)) (.cons (.ifs (.cmp .eq (.op .mod (.call 16 (.cons (.var 0) (.cons (.int 1) (.nil)))) (.int 2)) (.int 1)) (.cons (.set 2 (.op .add (.int 1) (.op .mod (.op .div (.call 16 (.cons (.var 0) (.cons (.int 1) (.nil)))) (.int 2)) (.int 10)))) (.nil)) (.nil)) (.cons (.ret (.tup (.cons (.var 1) (.cons (.var 2) (.nil))))) (.nil)))))
theorem sp27 (Γ : Gm) (H16 : ∀ (ns : List Int) (k : Nat) O, Γ 16 [.lst (ns.map PV.int), .int k] O = some (.ok (.int (ns.getD k 0)) O)) (ss : List Int) (O : Oms) : ∃ m s : Nat, evFun (evS Γ b27) 3 [.lst (ss.map PV.int)] O = some (.ok (.tup [.int m, .int s]) O) ∧ 1 ≤ m ∧ m ≤ 24 ∧ 1 ≤ s ∧ s ≤ 10 := by
  have h0 : Γ 16 [.lst (ss.map PV.int), .int 0] O = some (.ok (.int (ss.getD 0 0)) O) := H16 ss 0 O
  have h1 : Γ 16 [.lst (ss.map PV.int), .int 1] O = some (.ok (.int (ss.getD 1 0)) O) := H16 ss 1 O
  revert h0 h1
  generalize ss.getD 0 0 = x0
  generalize ss.getD 1 0 = x1
  intro h0 h1
  have aI : ∀ x y : Int, pAdd (.int x) (.int y) = some (.int (x + y)) := fun x y => rfl
  obtain ⟨m1, e1⟩ : ∃ m : Nat, 1 + x0 % 7 = m := ⟨(1 + x0 % 7).toNat, by omega⟩
  obtain ⟨m2, e2⟩ : ∃ m : Nat, 1 + x0 / 56 % 24 = m := ⟨(1 + x0 / 56 % 24).toNat, by omega⟩
  obtain ⟨s2, e3⟩ : ∃ m : Nat, 1 + x1 / 2 % 10 = m := ⟨(1 + x1 / 2 % 10).toNat, by omega⟩
  have hf : ∀ (r : PV), evS Γ b27 [some (.lst (ss.map PV.int)), none, none] O = some (.rt r O) → evFun (evS Γ b27) 3 [.lst (ss.map PV.int)] O = some (.ok r O) := fun r h => evFun_rt (O' := O) (ρ := [some (.lst (ss.map PV.int)), none, none]) rfl h
  by_cases a : x0 / 7 % 8 = 3
  · have ca := decide_eq_true a
    by_cases b : x1 % 2 = 1
    · have cb := decide_eq_true b
      exact ⟨m2, s2, hf _ (by simp only [b27, evS, ev, evSeq, seqS_nx, seqS_rt, seqS_ex, evNx, evSet, evIf, evRet, evRetN, evAsg, evDrop, evFor, evApp, evSset, evAug, rX, rB, rA, rI, rP, ev2, ev1, evC, evCh, evAnd, evOr, evNot, evTr, evBl, evOfB, evIte, evTup, evLst, evBi, evCall, evCons, evNil, evVar, evOwn, evSetO, evFrz, frzPs, frzP, unOw, toOw, okW, noOw, evC0, evSl, evPn, evPs, toI, evSeqI, evRng, evIsi, bnd_ok, bnd_ex, ret_some, liftS_ok, B2.fn, B2.fnI, K2.fn, Bi.fn, Tg.fn, evT1, evTm, setAll, pInt, pOrd, pNeg, pAddS, toB, truth_int, truth_bl, pEq_int, pNe_int, Option.map_some, List.getElem?_cons_zero, List.getElem?_cons_succ, List.set_cons_zero, List.set_cons_succ, List.length_cons, List.length_nil, List.length_map, toSeq, isfG, isfB, tagOf, Option.bind_some, fMod_of, fDiv_of2, Int.reduceLT, decide_true, decide_false, Bool.not_true, Bool.not_false, reduceCtorEq, eq_self, Bool.or_false, Bool.false_or, Bool.true_or, Bool.or_true, Bool.and_false, Bool.false_and, Bool.true_and, Bool.and_true, Bool.and_self, Bool.or_self, Int.zero_add, ↓reduceIte, if_true, if_false, bAbs, bMax2, bMin2, bInt, bLen, bTuple, bList, bSum, bMax1, bMin1, items2, pZip, evLz, pRev, pRevT, evCallL, allInts_map, allPairs_map, bSorted, h0, h1, aI, ca, cb, e1, e2, e3]), by omega, by omega, by omega, by omega⟩
    · have cb := decide_eq_false b
      exact ⟨m2, 1, hf _ (by simp only [b27, evS, ev, evSeq, seqS_nx, seqS_rt, seqS_ex, evNx, evSet, evIf, evRet, evRetN, evAsg, evDrop, evFor, evApp, evSset, evAug, rX, rB, rA, rI, rP, ev2, ev1, evC, evCh, evAnd, evOr, evNot, evTr, evBl, evOfB, evIte, evTup, evLst, evBi, evCall, evCons, evNil, evVar, evOwn, evSetO, evFrz, frzPs, frzP, unOw, toOw, okW, noOw, evC0, evSl, evPn, evPs, toI, evSeqI, evRng, evIsi, bnd_ok, bnd_ex, ret_some, liftS_ok, B2.fn, B2.fnI, K2.fn, Bi.fn, Tg.fn, evT1, evTm, setAll, pInt, pOrd, pNeg, pAddS, toB, truth_int, truth_bl, pEq_int, pNe_int, Option.map_some, List.getElem?_cons_zero, List.getElem?_cons_succ, List.set_cons_zero, List.set_cons_succ, List.length_cons, List.length_nil, List.length_map, toSeq, isfG, isfB, tagOf, Option.bind_some, fMod_of, fDiv_of2, Int.reduceLT, decide_true, decide_false, Bool.not_true, Bool.not_false, reduceCtorEq, eq_self, Bool.or_false, Bool.false_or, Bool.true_or, Bool.or_true, Bool.and_false, Bool.false_and, Bool.true_and, Bool.and_true, Bool.and_self, Bool.or_self, Int.zero_add, ↓reduceIte, if_true, if_false, bAbs, bMax2, bMin2, bInt, bLen, bTuple, bList, bSum, bMax1, bMin1, items2, pZip, evLz, pRev, pRevT, evCallL, allInts_map, allPairs_map, bSorted, h0, h1, aI, ca, cb, e1, e2, e3]; rfl), by omega, by omega, by omega, by omega⟩
  · have ca := decide_eq_false a
    by_cases b : x1 % 2 = 1
    · have cb := decide_eq_true b
      exact ⟨m1, s2, hf _ (by simp only [b27, evS, ev, evSeq, seqS_nx, seqS_rt, seqS_ex, evNx, evSet, evIf, evRet, evRetN, evAsg, evDrop, evFor, evApp, evSset, evAug, rX, rB, rA, rI, rP, ev2, ev1, evC, evCh, evAnd, evOr, evNot, evTr, evBl, evOfB, evIte, evTup, evLst, evBi, evCall, evCons, evNil, evVar, evOwn, evSetO, evFrz, frzPs, frzP, unOw, toOw, okW, noOw, evC0, evSl, evPn, evPs, toI, evSeqI, evRng, evIsi, bnd_ok, bnd_ex, ret_some, liftS_ok, B2.fn, B2.fnI, K2.fn, Bi.fn, Tg.fn, evT1, evTm, setAll, pInt, pOrd, pNeg, pAddS, toB, truth_int, truth_bl, pEq_int, pNe_int, Option.map_some, List.getElem?_cons_zero, List.getElem?_cons_succ, List.set_cons_zero, List.set_cons_succ, List.length_cons, List.length_nil, List.length_map, toSeq, isfG, isfB, tagOf, Option.bind_some, fMod_of, fDiv_of2, Int.reduceLT, decide_true, decide_false, Bool.not_true, Bool.not_false, reduceCtorEq, eq_self, Bool.or_false, Bool.false_or, Bool.true_or, Bool.or_true, Bool.and_false, Bool.false_and, Bool.true_and, Bool.and_true, Bool.and_self, Bool.or_self, Int.zero_add, ↓reduceIte, if_true, if_false, bAbs, bMax2, bMin2, bInt, bLen, bTuple, bList, bSum, bMax1, bMin1, items2, pZip, evLz, pRev, pRevT, evCallL, allInts_map, allPairs_map, bSorted, h0, h1, aI, ca, cb, e1, e2, e3]), by omega, by omega, by omega, by omega⟩
    · have cb := decide_eq_false b
      exact ⟨m1, 1, hf _ (by simp only [b27, evS, ev, evSeq, seqS_nx, seqS_rt, seqS_ex, evNx, evSet, evIf, evRet, evRetN, evAsg, evDrop, evFor, evApp, evSset, evAug, rX, rB, rA, rI, rP, ev2, ev1, evC, evCh, evAnd, evOr, evNot, evTr, evBl, evOfB, evIte, evTup, evLst, evBi, evCall, evCons, evNil, evVar, evOwn, evSetO, evFrz, frzPs, frzP, unOw, toOw, okW, noOw, evC0, evSl, evPn, evPs, toI, evSeqI, evRng, evIsi, bnd_ok, bnd_ex, ret_some, liftS_ok, B2.fn, B2.fnI, K2.fn, Bi.fn, Tg.fn, evT1, evTm, setAll, pInt, pOrd, pNeg, pAddS, toB, truth_int, truth_bl, pEq_int, pNe_int, Option.map_some, List.getElem?_cons_zero, List.getElem?_cons_succ, List.set_cons_zero, List.set_cons_succ, List.length_cons, List.length_nil, List.length_map, toSeq, isfG, isfB, tagOf, Option.bind_some, fMod_of, fDiv_of2, Int.reduceLT, decide_true, decide_false, Bool.not_true, Bool.not_false, reduceCtorEq, eq_self, Bool.or_false, Bool.false_or, Bool.true_or, Bool.or_true, Bool.and_false, Bool.false_and, Bool.true_and, Bool.and_true, Bool.and_self, Bool.or_self, Int.zero_add, ↓reduceIte, if_true, if_false, bAbs, bMax2, bMin2, bInt, bLen, bTuple, bList, bSum, bMax1, bMin1, items2, pZip, evLz, pRev, pRevT, evCallL, allInts_map, allPairs_map, bSorted, h0, h1, aI, ca, cb, e1, e2, e3]; rfl), by omega, by omega, by omega, by omega⟩

end Hw
namespace Hw
open PySem PySem.Spec PyProof.Rows L2
/-- _law_drawn(_law_script); slots 0 _law_script, 1 _law_numbers, 2 _law_weights, 3 _law_cell, 4 _law_number, 5 _law_weight; calls 16 _law_cell_at -/
def b17 : Sx :=
  .cons (.setO 1 (.lst (.nil))) (.cons (.setO 2 (.lst (.nil))) (.cons (.forS (.one 3) (.seq (.sl (.var 0) (.int 2) (.int 102))) (.cons (.set 4 (.op .mod (.op .div (.var 3) (.int 2)) (.int 11))) (.cons (.ifs (.cmp .eq (.op .mod (.call 16 (.cons (.var 0) (.cons (.int 0) (.nil)))) (.int 2)) (.int 1)) (.cons (.set 4 (.op .mod (.op .div (.var 3) (.int 2)) (.op .pow (.int 10) (.int 60)))) (.cons (.ifs (.and (.cmp .eq (.op .mod (.var 3) (.int 2)) (.int 1)) (.one (.cmp .ne (.own 1) (.lst (.nil))))) (.cons (.set 4 (.ix (.own 1) (.op .mod (.op .div (.var 3) (.int 2)) (.bi .len (.cons (.own 1) (.nil)))))) (.nil)) (.nil)) (.nil))) (.nil)) (.cons (.set 5 (.op .mod (.op .div (.var 3) (.int 23)) (.int 4))) (.cons (.ifs (.cmp .eq (.op .mod (.call 16 (.cons (.var 0) (.cons (.int 1) (.nil)))) (.int 3)) (.int 1)) (.cons (.set 5 (.op .mod (.op .div (.var 3) (.int 11)) (.op .pow (.int 10) (.int 60)))) (.nil)) (.nil)) (.cons (.ifs (.or (.cmp .eq (.op .mod (.op .div (.var 3) (.int 5)) (.int 3)) (.int 0)) (.one (.cmp .eq (.op .mod (.op .div (.call 16 (.cons (.var 0) (.cons (.int 0) (.nil)))) (.int 2)) (.int 8)) (.int 3)))) (.cons (.set 5 (.int 0)) (.nil)) (.nil)) (.cons (.app 1 (.var 4)) (.cons (.app 2 (.var 5)) (.nil))))))))) (.cons (.ret (.tup (.cons (.bi .tuple (.cons (.own 1) (.nil))) (.cons (.bi .tuple (.cons (.own 2) (.nil))) (.nil))))) (.nil))))
theorem evS_cons {Γ : Gm} {a b : Sx} {ρ ρ1 : Loc} {O O1 : Oms} (h : evS Γ a ρ O = some (.nx ρ1 O1)) : evS Γ (.cons a b) ρ O = evS Γ b ρ1 O1 := by
  show seqS (evS Γ a ρ O) (evS Γ b) = _
  rw [h]
  rfl
theorem pNe_lst0 (ns : List Int) : pNe (.lst (ns.map PV.int)) (.lst []) = some (!decide (ns = [])) := by
  unfold pNe
  rw [pEq_lst0]
  rfl
theorem p60 : fPow 10 60 = some (10 ^ 60) := fPow_of ⟨by decide, by decide, by decide⟩
theorem m60 (x : Int) : fMod x (10 ^ 60) = some (x % 10 ^ 60) := fMod_of (by decide)
theorem sp17 (Γ : Gm) (H : ∀ (ns : List Int) (k : Nat) O, Γ 16 [.lst (ns.map PV.int), .int k] O = some (.ok (.int (ns.getD k 0)) O)) (ss : List Int) (hss : ss.length ≤ 63) (O : Oms) : ∃ ns ws : List Int, evFun (evS Γ b17) 6 [.lst (ss.map PV.int)] O = some (.ok (.tup [.tup (ns.map PV.int), .tup (ws.map PV.int)]) O) ∧ ns.length = ws.length ∧ ns.length ≤ ss.length ∧ ∀ w ∈ ws, 0 ≤ w ∧ w < 10 ^ 60 := by
  have h0 : Γ 16 [.lst (ss.map PV.int), .int 0] O = some (.ok (.int (ss.getD 0 0)) O) := H ss 0 O
  have h1 : Γ 16 [.lst (ss.map PV.int), .int 1] O = some (.ok (.int (ss.getD 1 0)) O) := H ss 1 O
  revert h0 h1
  generalize ss.getD 0 0 = x0
  generalize ss.getD 1 0 = x1
  intro h0 h1
  have hsl : pSl (.lst (ss.map PV.int)) (some 2) (some 102) = some (.lst ((cutG ss (some 2) (some 102)).map PV.int)) := by rw [pSl_lst, cutG_map]
  obtain ⟨ρ', O', hL, rfl, ns, ws, y3, y4, y5, rfl, l1, l2, hw⟩ := loopS_inv (g := evT1 3) (xs := (cutG ss (some 2) (some 102)).map PV.int) (f := evS Γ (.cons (.set 4 (.op .mod (.op .div (.var 3) (.int 2)) (.int 11))) (.cons (.ifs (.cmp .eq (.op .mod (.call 16 (.cons (.var 0) (.cons (.int 0) (.nil)))) (.int 2)) (.int 1)) (.cons (.set 4 (.op .mod (.op .div (.var 3) (.int 2)) (.op .pow (.int 10) (.int 60)))) (.cons (.ifs (.and (.cmp .eq (.op .mod (.var 3) (.int 2)) (.int 1)) (.one (.cmp .ne (.own 1) (.lst (.nil))))) (.cons (.set 4 (.ix (.own 1) (.op .mod (.op .div (.var 3) (.int 2)) (.bi .len (.cons (.own 1) (.nil)))))) (.nil)) (.nil)) (.nil))) (.nil)) (.cons (.set 5 (.op .mod (.op .div (.var 3) (.int 23)) (.int 4))) (.cons (.ifs (.cmp .eq (.op .mod (.call 16 (.cons (.var 0) (.cons (.int 1) (.nil)))) (.int 3)) (.int 1)) (.cons (.set 5 (.op .mod (.op .div (.var 3) (.int 11)) (.op .pow (.int 10) (.int 60)))) (.nil)) (.nil)) (.cons (.ifs (.or (.cmp .eq (.op .mod (.op .div (.var 3) (.int 5)) (.int 3)) (.int 0)) (.one (.cmp .eq (.op .mod (.op .div (.call 16 (.cons (.var 0) (.cons (.int 0) (.nil)))) (.int 2)) (.int 8)) (.int 3)))) (.cons (.set 5 (.int 0)) (.nil)) (.nil)) (.cons (.app 1 (.var 4)) (.cons (.app 2 (.var 5)) (.nil)))))))))
    (fun i ρ O1 => O1 = O ∧ ∃ (ns ws : List Int) (y3 y4 y5 : Option PV), ρ = [some (.lst (ss.map PV.int)), some (.owl (ns.map PV.int)), some (.owl (ws.map PV.int)), y3, y4, y5] ∧ ns.length = i ∧ ws.length = i ∧ ∀ w ∈ ws, 0 ≤ w ∧ w < 10 ^ 60)
    (fun i x ρ O1 hx ⟨eO, ns, ws, y3, y4, y5, eρ, l1, l2, hw⟩ => by
      subst eO eρ
      obtain ⟨c, _, rfl⟩ := List.mem_map.mp (List.mem_of_getElem? hx)
      have hi : i < 16777216 := by
        have := (List.getElem?_eq_some_iff.mp hx).1
        rw [List.length_map] at this
        have := cutG_len ss (some 2) (some 102)
        omega
      have hzn : (ns.map PV.int).length < sizeLine := by rw [List.length_map, l1]; exact hi
      have hzw : (ws.map PV.int).length < sizeLine := by rw [List.length_map, l2]; exact hi
      rw [List.length_map] at hzn hzw
      have e10 : (0 : Int) < 10 ^ 60 := by decide
      have s1 : ∃ n : Int, evS Γ (.ifs (.cmp .eq (.op .mod (.call 16 (.cons (.var 0) (.cons (.int 0) (.nil)))) (.int 2)) (.int 1)) (.cons (.set 4 (.op .mod (.op .div (.var 3) (.int 2)) (.op .pow (.int 10) (.int 60)))) (.cons (.ifs (.and (.cmp .eq (.op .mod (.var 3) (.int 2)) (.int 1)) (.one (.cmp .ne (.own 1) (.lst (.nil))))) (.cons (.set 4 (.ix (.own 1) (.op .mod (.op .div (.var 3) (.int 2)) (.bi .len (.cons (.own 1) (.nil)))))) (.nil)) (.nil)) (.nil))) (.nil)) [some (.lst (ss.map PV.int)), some (.owl (ns.map PV.int)), some (.owl (ws.map PV.int)), some (.int c), some (.int (c / 2 % 11)), y5] O1 = some (.nx [some (.lst (ss.map PV.int)), some (.owl (ns.map PV.int)), some (.owl (ws.map PV.int)), some (.int c), some (.int n), y5] O1) := by
        by_cases a : x0 % 2 = 1
        · have ca := decide_eq_true a
          by_cases b : c % 2 = 1
          · have cb := decide_eq_true b
            by_cases d : ns = []
            · have cd := decide_eq_true d
              exact ⟨_, by simp only [evS, ev, evSeq, seqS_nx, seqS_rt, seqS_ex, evNx, evSet, evIf, evRet, evRetN, evAsg, evDrop, evFor, evApp, evSset, evAug, rX, rB, rA, rI, rP, ev2, ev1, evC, evCh, evAnd, evOr, evNot, evTr, evBl, evOfB, evIte, evTup, evLst, evBi, evCall, evCons, evNil, evVar, evOwn, evSetO, evFrz, frzPs, frzP, unOw, toOw, okW, noOw, evC0, evSl, evPn, evPs, toI, evSeqI, evRng, evIsi, bnd_ok, bnd_ex, ret_some, liftS_ok, B2.fn, B2.fnI, K2.fn, Bi.fn, Tg.fn, evT1, evTm, setAll, pInt, pOrd, pNeg, pAddS, toB, truth_int, truth_bl, pEq_int, pNe_int, Option.map_some, List.getElem?_cons_zero, List.getElem?_cons_succ, List.set_cons_zero, List.set_cons_succ, List.length_cons, List.length_nil, List.length_map, toSeq, isfG, isfB, tagOf, Option.bind_some, fMod_of, fDiv_of2, Int.reduceLT, decide_true, decide_false, Bool.not_true, Bool.not_false, reduceCtorEq, eq_self, Bool.or_false, Bool.false_or, Bool.true_or, Bool.or_true, Bool.and_false, Bool.false_and, Bool.true_and, Bool.and_true, Bool.and_self, Bool.or_self, Int.zero_add, ↓reduceIte, if_true, if_false, bAbs, bMax2, bMin2, bInt, bLen, bTuple, bList, bSum, bMax1, bMin1, items2, pZip, evLz, pRev, pRevT, evCallL, allInts_map, allPairs_map, bSorted, h0, ca, p60, m60, cb, pNe_lst0, cd]; rfl⟩
            · have cd := decide_eq_false d
              have hp : 0 < (ns.length : Int) := by
                have := List.length_pos_iff.mpr d
                omega
              obtain ⟨k, hk⟩ : ∃ k : Nat, c / 2 % (ns.length : Int) = k := ⟨(c / 2 % (ns.length : Int)).toNat, by
                have := Int.emod_nonneg (c / 2) (Int.ne_of_gt hp)
                omega⟩
              have hk2 : k < ns.length := by
                have := Int.emod_lt_of_pos (c / 2) hp
                omega
              have e : (ns.map PV.int)[k]? = some (.int ns[k]) := by rw [List.getElem?_map, List.getElem?_eq_getElem hk2]; rfl
              exact ⟨_, by simp only [evS, ev, evSeq, seqS_nx, seqS_rt, seqS_ex, evNx, evSet, evIf, evRet, evRetN, evAsg, evDrop, evFor, evApp, evSset, evAug, rX, rB, rA, rI, rP, ev2, ev1, evC, evCh, evAnd, evOr, evNot, evTr, evBl, evOfB, evIte, evTup, evLst, evBi, evCall, evCons, evNil, evVar, evOwn, evSetO, evFrz, frzPs, frzP, unOw, toOw, okW, noOw, evC0, evSl, evPn, evPs, toI, evSeqI, evRng, evIsi, bnd_ok, bnd_ex, ret_some, liftS_ok, B2.fn, B2.fnI, K2.fn, Bi.fn, Tg.fn, evT1, evTm, setAll, pInt, pOrd, pNeg, pAddS, toB, truth_int, truth_bl, pEq_int, pNe_int, Option.map_some, List.getElem?_cons_zero, List.getElem?_cons_succ, List.set_cons_zero, List.set_cons_succ, List.length_cons, List.length_nil, List.length_map, toSeq, isfG, isfB, tagOf, Option.bind_some, fMod_of, fDiv_of2, Int.reduceLT, decide_true, decide_false, Bool.not_true, Bool.not_false, reduceCtorEq, eq_self, Bool.or_false, Bool.false_or, Bool.true_or, Bool.or_true, Bool.and_false, Bool.false_and, Bool.true_and, Bool.and_true, Bool.and_self, Bool.or_self, Int.zero_add, ↓reduceIte, if_true, if_false, bAbs, bMax2, bMin2, bInt, bLen, bTuple, bList, bSum, bMax1, bMin1, items2, pZip, evLz, pRev, pRevT, evCallL, allInts_map, allPairs_map, bSorted, h0, ca, p60, m60, cb, pNe_lst0, cd, fMod_of hp, hk, pIx_lst e]; rfl⟩
          · have cb := decide_eq_false b
            exact ⟨_, by simp only [evS, ev, evSeq, seqS_nx, seqS_rt, seqS_ex, evNx, evSet, evIf, evRet, evRetN, evAsg, evDrop, evFor, evApp, evSset, evAug, rX, rB, rA, rI, rP, ev2, ev1, evC, evCh, evAnd, evOr, evNot, evTr, evBl, evOfB, evIte, evTup, evLst, evBi, evCall, evCons, evNil, evVar, evOwn, evSetO, evFrz, frzPs, frzP, unOw, toOw, okW, noOw, evC0, evSl, evPn, evPs, toI, evSeqI, evRng, evIsi, bnd_ok, bnd_ex, ret_some, liftS_ok, B2.fn, B2.fnI, K2.fn, Bi.fn, Tg.fn, evT1, evTm, setAll, pInt, pOrd, pNeg, pAddS, toB, truth_int, truth_bl, pEq_int, pNe_int, Option.map_some, List.getElem?_cons_zero, List.getElem?_cons_succ, List.set_cons_zero, List.set_cons_succ, List.length_cons, List.length_nil, List.length_map, toSeq, isfG, isfB, tagOf, Option.bind_some, fMod_of, fDiv_of2, Int.reduceLT, decide_true, decide_false, Bool.not_true, Bool.not_false, reduceCtorEq, eq_self, Bool.or_false, Bool.false_or, Bool.true_or, Bool.or_true, Bool.and_false, Bool.false_and, Bool.true_and, Bool.and_true, Bool.and_self, Bool.or_self, Int.zero_add, ↓reduceIte, if_true, if_false, bAbs, bMax2, bMin2, bInt, bLen, bTuple, bList, bSum, bMax1, bMin1, items2, pZip, evLz, pRev, pRevT, evCallL, allInts_map, allPairs_map, bSorted, h0, ca, p60, m60, cb]; rfl⟩
        · have ca := decide_eq_false a
          exact ⟨_, by simp only [evS, ev, evSeq, seqS_nx, seqS_rt, seqS_ex, evNx, evSet, evIf, evRet, evRetN, evAsg, evDrop, evFor, evApp, evSset, evAug, rX, rB, rA, rI, rP, ev2, ev1, evC, evCh, evAnd, evOr, evNot, evTr, evBl, evOfB, evIte, evTup, evLst, evBi, evCall, evCons, evNil, evVar, evOwn, evSetO, evFrz, frzPs, frzP, unOw, toOw, okW, noOw, evC0, evSl, evPn, evPs, toI, evSeqI, evRng, evIsi, bnd_ok, bnd_ex, ret_some, liftS_ok, B2.fn, B2.fnI, K2.fn, Bi.fn, Tg.fn, evT1, evTm, setAll, pInt, pOrd, pNeg, pAddS, toB, truth_int, truth_bl, pEq_int, pNe_int, Option.map_some, List.getElem?_cons_zero, List.getElem?_cons_succ, List.set_cons_zero, List.set_cons_succ, List.length_cons, List.length_nil, List.length_map, toSeq, isfG, isfB, tagOf, Option.bind_some, fMod_of, fDiv_of2, Int.reduceLT, decide_true, decide_false, Bool.not_true, Bool.not_false, reduceCtorEq, eq_self, Bool.or_false, Bool.false_or, Bool.true_or, Bool.or_true, Bool.and_false, Bool.false_and, Bool.true_and, Bool.and_true, Bool.and_self, Bool.or_self, Int.zero_add, ↓reduceIte, if_true, if_false, bAbs, bMax2, bMin2, bInt, bLen, bTuple, bList, bSum, bMax1, bMin1, items2, pZip, evLz, pRev, pRevT, evCallL, allInts_map, allPairs_map, bSorted, h0, ca]; rfl⟩
      obtain ⟨n, s1⟩ := s1
      have s2 : ∃ w : Int, 0 ≤ w ∧ w < 10 ^ 60 ∧ evS Γ (.ifs (.cmp .eq (.op .mod (.call 16 (.cons (.var 0) (.cons (.int 1) (.nil)))) (.int 3)) (.int 1)) (.cons (.set 5 (.op .mod (.op .div (.var 3) (.int 11)) (.op .pow (.int 10) (.int 60)))) (.nil)) (.nil)) [some (.lst (ss.map PV.int)), some (.owl (ns.map PV.int)), some (.owl (ws.map PV.int)), some (.int c), some (.int n), some (.int (c / 23 % 4))] O1 = some (.nx [some (.lst (ss.map PV.int)), some (.owl (ns.map PV.int)), some (.owl (ws.map PV.int)), some (.int c), some (.int n), some (.int w)] O1) := by
        by_cases a : x1 % 3 = 1
        · have ca := decide_eq_true a
          exact ⟨c / 11 % 10 ^ 60, Int.emod_nonneg _ (by decide), Int.emod_lt_of_pos _ e10, by simp only [evS, ev, evSeq, seqS_nx, seqS_rt, seqS_ex, evNx, evSet, evIf, evRet, evRetN, evAsg, evDrop, evFor, evApp, evSset, evAug, rX, rB, rA, rI, rP, ev2, ev1, evC, evCh, evAnd, evOr, evNot, evTr, evBl, evOfB, evIte, evTup, evLst, evBi, evCall, evCons, evNil, evVar, evOwn, evSetO, evFrz, frzPs, frzP, unOw, toOw, okW, noOw, evC0, evSl, evPn, evPs, toI, evSeqI, evRng, evIsi, bnd_ok, bnd_ex, ret_some, liftS_ok, B2.fn, B2.fnI, K2.fn, Bi.fn, Tg.fn, evT1, evTm, setAll, pInt, pOrd, pNeg, pAddS, toB, truth_int, truth_bl, pEq_int, pNe_int, Option.map_some, List.getElem?_cons_zero, List.getElem?_cons_succ, List.set_cons_zero, List.set_cons_succ, List.length_cons, List.length_nil, List.length_map, toSeq, isfG, isfB, tagOf, Option.bind_some, fMod_of, fDiv_of2, Int.reduceLT, decide_true, decide_false, Bool.not_true, Bool.not_false, reduceCtorEq, eq_self, Bool.or_false, Bool.false_or, Bool.true_or, Bool.or_true, Bool.and_false, Bool.false_and, Bool.true_and, Bool.and_true, Bool.and_self, Bool.or_self, Int.zero_add, ↓reduceIte, if_true, if_false, bAbs, bMax2, bMin2, bInt, bLen, bTuple, bList, bSum, bMax1, bMin1, items2, pZip, evLz, pRev, pRevT, evCallL, allInts_map, allPairs_map, bSorted, h1, ca, p60, m60]⟩
        · have ca := decide_eq_false a
          exact ⟨c / 23 % 4, by omega, by omega, by simp only [evS, ev, evSeq, seqS_nx, seqS_rt, seqS_ex, evNx, evSet, evIf, evRet, evRetN, evAsg, evDrop, evFor, evApp, evSset, evAug, rX, rB, rA, rI, rP, ev2, ev1, evC, evCh, evAnd, evOr, evNot, evTr, evBl, evOfB, evIte, evTup, evLst, evBi, evCall, evCons, evNil, evVar, evOwn, evSetO, evFrz, frzPs, frzP, unOw, toOw, okW, noOw, evC0, evSl, evPn, evPs, toI, evSeqI, evRng, evIsi, bnd_ok, bnd_ex, ret_some, liftS_ok, B2.fn, B2.fnI, K2.fn, Bi.fn, Tg.fn, evT1, evTm, setAll, pInt, pOrd, pNeg, pAddS, toB, truth_int, truth_bl, pEq_int, pNe_int, Option.map_some, List.getElem?_cons_zero, List.getElem?_cons_succ, List.set_cons_zero, List.set_cons_succ, List.length_cons, List.length_nil, List.length_map, toSeq, isfG, isfB, tagOf, Option.bind_some, fMod_of, fDiv_of2, Int.reduceLT, decide_true, decide_false, Bool.not_true, Bool.not_false, reduceCtorEq, eq_self, Bool.or_false, Bool.false_or, Bool.true_or, Bool.or_true, Bool.and_false, Bool.false_and, Bool.true_and, Bool.and_true, Bool.and_self, Bool.or_self, Int.zero_add, ↓reduceIte, if_true, if_false, bAbs, bMax2, bMin2, bInt, bLen, bTuple, bList, bSum, bMax1, bMin1, items2, pZip, evLz, pRev, pRevT, evCallL, allInts_map, allPairs_map, bSorted, h1, ca]⟩
      obtain ⟨w, w1, w2, s2⟩ := s2
      have s3 : ∃ w' : Int, 0 ≤ w' ∧ w' < 10 ^ 60 ∧ evS Γ (.ifs (.or (.cmp .eq (.op .mod (.op .div (.var 3) (.int 5)) (.int 3)) (.int 0)) (.one (.cmp .eq (.op .mod (.op .div (.call 16 (.cons (.var 0) (.cons (.int 0) (.nil)))) (.int 2)) (.int 8)) (.int 3)))) (.cons (.set 5 (.int 0)) (.nil)) (.nil)) [some (.lst (ss.map PV.int)), some (.owl (ns.map PV.int)), some (.owl (ws.map PV.int)), some (.int c), some (.int n), some (.int w)] O1 = some (.nx [some (.lst (ss.map PV.int)), some (.owl (ns.map PV.int)), some (.owl (ws.map PV.int)), some (.int c), some (.int n), some (.int w')] O1) := by
        by_cases a : c / 5 % 3 = 0
        · have ca := decide_eq_true a
          exact ⟨0, by omega, by omega, by simp only [evS, ev, evSeq, seqS_nx, seqS_rt, seqS_ex, evNx, evSet, evIf, evRet, evRetN, evAsg, evDrop, evFor, evApp, evSset, evAug, rX, rB, rA, rI, rP, ev2, ev1, evC, evCh, evAnd, evOr, evNot, evTr, evBl, evOfB, evIte, evTup, evLst, evBi, evCall, evCons, evNil, evVar, evOwn, evSetO, evFrz, frzPs, frzP, unOw, toOw, okW, noOw, evC0, evSl, evPn, evPs, toI, evSeqI, evRng, evIsi, bnd_ok, bnd_ex, ret_some, liftS_ok, B2.fn, B2.fnI, K2.fn, Bi.fn, Tg.fn, evT1, evTm, setAll, pInt, pOrd, pNeg, pAddS, toB, truth_int, truth_bl, pEq_int, pNe_int, Option.map_some, List.getElem?_cons_zero, List.getElem?_cons_succ, List.set_cons_zero, List.set_cons_succ, List.length_cons, List.length_nil, List.length_map, toSeq, isfG, isfB, tagOf, Option.bind_some, fMod_of, fDiv_of2, Int.reduceLT, decide_true, decide_false, Bool.not_true, Bool.not_false, reduceCtorEq, eq_self, Bool.or_false, Bool.false_or, Bool.true_or, Bool.or_true, Bool.and_false, Bool.false_and, Bool.true_and, Bool.and_true, Bool.and_self, Bool.or_self, Int.zero_add, ↓reduceIte, if_true, if_false, bAbs, bMax2, bMin2, bInt, bLen, bTuple, bList, bSum, bMax1, bMin1, items2, pZip, evLz, pRev, pRevT, evCallL, allInts_map, allPairs_map, bSorted, ca]⟩
        · have ca := decide_eq_false a
          by_cases b : x0 / 2 % 8 = 3
          · have cb := decide_eq_true b
            exact ⟨0, by omega, by omega, by simp only [evS, ev, evSeq, seqS_nx, seqS_rt, seqS_ex, evNx, evSet, evIf, evRet, evRetN, evAsg, evDrop, evFor, evApp, evSset, evAug, rX, rB, rA, rI, rP, ev2, ev1, evC, evCh, evAnd, evOr, evNot, evTr, evBl, evOfB, evIte, evTup, evLst, evBi, evCall, evCons, evNil, evVar, evOwn, evSetO, evFrz, frzPs, frzP, unOw, toOw, okW, noOw, evC0, evSl, evPn, evPs, toI, evSeqI, evRng, evIsi, bnd_ok, bnd_ex, ret_some, liftS_ok, B2.fn, B2.fnI, K2.fn, Bi.fn, Tg.fn, evT1, evTm, setAll, pInt, pOrd, pNeg, pAddS, toB, truth_int, truth_bl, pEq_int, pNe_int, Option.map_some, List.getElem?_cons_zero, List.getElem?_cons_succ, List.set_cons_zero, List.set_cons_succ, List.length_cons, List.length_nil, List.length_map, toSeq, isfG, isfB, tagOf, Option.bind_some, fMod_of, fDiv_of2, Int.reduceLT, decide_true, decide_false, Bool.not_true, Bool.not_false, reduceCtorEq, eq_self, Bool.or_false, Bool.false_or, Bool.true_or, Bool.or_true, Bool.and_false, Bool.false_and, Bool.true_and, Bool.and_true, Bool.and_self, Bool.or_self, Int.zero_add, ↓reduceIte, if_true, if_false, bAbs, bMax2, bMin2, bInt, bLen, bTuple, bList, bSum, bMax1, bMin1, items2, pZip, evLz, pRev, pRevT, evCallL, allInts_map, allPairs_map, bSorted, h0, ca, cb]⟩
          · have cb := decide_eq_false b
            exact ⟨w, w1, w2, by simp only [evS, ev, evSeq, seqS_nx, seqS_rt, seqS_ex, evNx, evSet, evIf, evRet, evRetN, evAsg, evDrop, evFor, evApp, evSset, evAug, rX, rB, rA, rI, rP, ev2, ev1, evC, evCh, evAnd, evOr, evNot, evTr, evBl, evOfB, evIte, evTup, evLst, evBi, evCall, evCons, evNil, evVar, evOwn, evSetO, evFrz, frzPs, frzP, unOw, toOw, okW, noOw, evC0, evSl, evPn, evPs, toI, evSeqI, evRng, evIsi, bnd_ok, bnd_ex, ret_some, liftS_ok, B2.fn, B2.fnI, K2.fn, Bi.fn, Tg.fn, evT1, evTm, setAll, pInt, pOrd, pNeg, pAddS, toB, truth_int, truth_bl, pEq_int, pNe_int, Option.map_some, List.getElem?_cons_zero, List.getElem?_cons_succ, List.set_cons_zero, List.set_cons_succ, List.length_cons, List.length_nil, List.length_map, toSeq, isfG, isfB, tagOf, Option.bind_some, fMod_of, fDiv_of2, Int.reduceLT, decide_true, decide_false, Bool.not_true, Bool.not_false, reduceCtorEq, eq_self, Bool.or_false, Bool.false_or, Bool.true_or, Bool.or_true, Bool.and_false, Bool.false_and, Bool.true_and, Bool.and_true, Bool.and_self, Bool.or_self, Int.zero_add, ↓reduceIte, if_true, if_false, bAbs, bMax2, bMin2, bInt, bLen, bTuple, bList, bSum, bMax1, bMin1, items2, pZip, evLz, pRev, pRevT, evCallL, allInts_map, allPairs_map, bSorted, h0, ca, cb]⟩
      obtain ⟨w', w1', w2', s3⟩ := s3
      refine ⟨[some (.lst (ss.map PV.int)), some (.owl (ns.map PV.int)), some (.owl (ws.map PV.int)), some (.int c), y4, y5], [some (.lst (ss.map PV.int)), some (.owl ((ns ++ [n]).map PV.int)), some (.owl ((ws ++ [w']).map PV.int)), some (.int c), some (.int n), some (.int w')], O1, rfl, ?_, rfl, ns ++ [n], ws ++ [w'], _, _, _, rfl, by rw [List.length_append, l1]; rfl, by rw [List.length_append, l2]; rfl, fun v hv => ?_⟩
      · rw [evS_cons (O1 := O1) (ρ1 := [some (.lst (ss.map PV.int)), some (.owl (ns.map PV.int)), some (.owl (ws.map PV.int)), some (.int c), some (.int (c / 2 % 11)), y5]) (by simp only [evS, ev, evSeq, seqS_nx, seqS_rt, seqS_ex, evNx, evSet, evIf, evRet, evRetN, evAsg, evDrop, evFor, evApp, evSset, evAug, rX, rB, rA, rI, rP, ev2, ev1, evC, evCh, evAnd, evOr, evNot, evTr, evBl, evOfB, evIte, evTup, evLst, evBi, evCall, evCons, evNil, evVar, evOwn, evSetO, evFrz, frzPs, frzP, unOw, toOw, okW, noOw, evC0, evSl, evPn, evPs, toI, evSeqI, evRng, evIsi, bnd_ok, bnd_ex, ret_some, liftS_ok, B2.fn, B2.fnI, K2.fn, Bi.fn, Tg.fn, evT1, evTm, setAll, pInt, pOrd, pNeg, pAddS, toB, truth_int, truth_bl, pEq_int, pNe_int, Option.map_some, List.getElem?_cons_zero, List.getElem?_cons_succ, List.set_cons_zero, List.set_cons_succ, List.length_cons, List.length_nil, List.length_map, toSeq, isfG, isfB, tagOf, Option.bind_some, fMod_of, fDiv_of2, Int.reduceLT, decide_true, decide_false, Bool.not_true, Bool.not_false, reduceCtorEq, eq_self, Bool.or_false, Bool.false_or, Bool.true_or, Bool.or_true, Bool.and_false, Bool.false_and, Bool.true_and, Bool.and_true, Bool.and_self, Bool.or_self, Int.zero_add, ↓reduceIte, if_true, if_false, bAbs, bMax2, bMin2, bInt, bLen, bTuple, bList, bSum, bMax1, bMin1, items2, pZip, evLz, pRev, pRevT, evCallL, allInts_map, allPairs_map, bSorted]), evS_cons s1, evS_cons (O1 := O1) (ρ1 := [some (.lst (ss.map PV.int)), some (.owl (ns.map PV.int)), some (.owl (ws.map PV.int)), some (.int c), some (.int n), some (.int (c / 23 % 4))]) (by simp only [evS, ev, evSeq, seqS_nx, seqS_rt, seqS_ex, evNx, evSet, evIf, evRet, evRetN, evAsg, evDrop, evFor, evApp, evSset, evAug, rX, rB, rA, rI, rP, ev2, ev1, evC, evCh, evAnd, evOr, evNot, evTr, evBl, evOfB, evIte, evTup, evLst, evBi, evCall, evCons, evNil, evVar, evOwn, evSetO, evFrz, frzPs, frzP, unOw, toOw, okW, noOw, evC0, evSl, evPn, evPs, toI, evSeqI, evRng, evIsi, bnd_ok, bnd_ex, ret_some, liftS_ok, B2.fn, B2.fnI, K2.fn, Bi.fn, Tg.fn, evT1, evTm, setAll, pInt, pOrd, pNeg, pAddS, toB, truth_int, truth_bl, pEq_int, pNe_int, Option.map_some, List.getElem?_cons_zero, List.getElem?_cons_succ, List.set_cons_zero, List.set_cons_succ, List.length_cons, List.length_nil, List.length_map, toSeq, isfG, isfB, tagOf, Option.bind_some, fMod_of, fDiv_of2, Int.reduceLT, decide_true, decide_false, Bool.not_true, Bool.not_false, reduceCtorEq, eq_self, Bool.or_false, Bool.false_or, Bool.true_or, Bool.or_true, Bool.and_false, Bool.false_and, Bool.true_and, Bool.and_true, Bool.and_self, Bool.or_self, Int.zero_add, ↓reduceIte, if_true, if_false, bAbs, bMax2, bMin2, bInt, bLen, bTuple, bList, bSum, bMax1, bMin1, items2, pZip, evLz, pRev, pRevT, evCallL, allInts_map, allPairs_map, bSorted]), evS_cons s2, evS_cons s3, List.map_append, List.map_append]
        simp only [evS, ev, evSeq, seqS_nx, seqS_rt, seqS_ex, evNx, evSet, evIf, evRet, evRetN, evAsg, evDrop, evFor, evApp, evSset, evAug, rX, rB, rA, rI, rP, ev2, ev1, evC, evCh, evAnd, evOr, evNot, evTr, evBl, evOfB, evIte, evTup, evLst, evBi, evCall, evCons, evNil, evVar, evOwn, evSetO, evFrz, frzPs, frzP, unOw, toOw, okW, noOw, evC0, evSl, evPn, evPs, toI, evSeqI, evRng, evIsi, bnd_ok, bnd_ex, ret_some, liftS_ok, B2.fn, B2.fnI, K2.fn, Bi.fn, Tg.fn, evT1, evTm, setAll, pInt, pOrd, pNeg, pAddS, toB, truth_int, truth_bl, pEq_int, pNe_int, Option.map_some, List.getElem?_cons_zero, List.getElem?_cons_succ, List.set_cons_zero, List.set_cons_succ, List.length_cons, List.length_nil, List.length_map, toSeq, isfG, isfB, tagOf, Option.bind_some, fMod_of, fDiv_of2, Int.reduceLT, decide_true, decide_false, Bool.not_true, Bool.not_false, reduceCtorEq, eq_self, Bool.or_false, Bool.false_or, Bool.true_or, Bool.or_true, Bool.and_false, Bool.false_and, Bool.true_and, Bool.and_true, Bool.and_self, Bool.or_self, Int.zero_add, ↓reduceIte, if_true, if_false, bAbs, bMax2, bMin2, bInt, bLen, bTuple, bList, bSum, bMax1, bMin1, items2, pZip, evLz, pRev, pRevT, evCallL, allInts_map, allPairs_map, bSorted, hzn, hzw]
        rfl
      · rcases List.mem_append.mp hv with hv | hv
        · exact hw v hv
        · rw [List.mem_singleton.mp hv]
          exact ⟨w1', w2'⟩) [some (.lst (ss.map PV.int)), some (.owl []), some (.owl []), none, none, none] O ⟨rfl, [], [], none, none, none, rfl, rfl, rfl, fun w hw => by cases hw⟩
  refine ⟨ns, ws, evFun_rt (O' := O') (ρ := [some (.lst (ss.map PV.int)), none, none, none, none, none]) rfl ?_, by omega, ?_, hw⟩
  · simp only [evS, ev, evSeq, seqS_nx, seqS_rt, seqS_ex, evNx, evSet, evIf, evRet, evRetN, evAsg, evDrop, evFor, evApp, evSset, evAug, rX, rB, rA, rI, rP, ev2, ev1, evC, evCh, evAnd, evOr, evNot, evTr, evBl, evOfB, evIte, evTup, evLst, evBi, evCall, evCons, evNil, evVar, evOwn, evSetO, evFrz, frzPs, frzP, unOw, toOw, okW, noOw, evC0, evSl, evPn, evPs, toI, evSeqI, evRng, evIsi, bnd_ok, bnd_ex, ret_some, liftS_ok, B2.fn, B2.fnI, K2.fn, Bi.fn, Tg.fn, evT1, evTm, setAll, pInt, pOrd, pNeg, pAddS, toB, truth_int, truth_bl, pEq_int, pNe_int, Option.map_some, List.getElem?_cons_zero, List.getElem?_cons_succ, List.set_cons_zero, List.set_cons_succ, List.length_cons, List.length_nil, List.length_map, toSeq, isfG, isfB, tagOf, Option.bind_some, fMod_of, fDiv_of2, Int.reduceLT, decide_true, decide_false, Bool.not_true, Bool.not_false, reduceCtorEq, eq_self, Bool.or_false, Bool.false_or, Bool.true_or, Bool.or_true, Bool.and_false, Bool.false_and, Bool.true_and, Bool.and_true, Bool.and_self, Bool.or_self, Int.zero_add, ↓reduceIte, if_true, if_false, bAbs, bMax2, bMin2, bInt, bLen, bTuple, bList, bSum, bMax1, bMin1, items2, pZip, evLz, pRev, pRevT, evCallL, allInts_map, allPairs_map, bSorted] at hL
    simp only [b17, evS, ev, evSeq, seqS_nx, seqS_rt, seqS_ex, evNx, evSet, evIf, evRet, evRetN, evAsg, evDrop, evFor, evApp, evSset, evAug, rX, rB, rA, rI, rP, ev2, ev1, evC, evCh, evAnd, evOr, evNot, evTr, evBl, evOfB, evIte, evTup, evLst, evBi, evCall, evCons, evNil, evVar, evOwn, evSetO, evFrz, frzPs, frzP, unOw, toOw, okW, noOw, evC0, evSl, evPn, evPs, toI, evSeqI, evRng, evIsi, bnd_ok, bnd_ex, ret_some, liftS_ok, B2.fn, B2.fnI, K2.fn, Bi.fn, Tg.fn, evT1, evTm, setAll, pInt, pOrd, pNeg, pAddS, toB, truth_int, truth_bl, pEq_int, pNe_int, Option.map_some, List.getElem?_cons_zero, List.getElem?_cons_succ, List.set_cons_zero, List.set_cons_succ, List.length_cons, List.length_nil, List.length_map, toSeq, isfG, isfB, tagOf, Option.bind_some, fMod_of, fDiv_of2, Int.reduceLT, decide_true, decide_false, Bool.not_true, Bool.not_false, reduceCtorEq, eq_self, Bool.or_false, Bool.false_or, Bool.true_or, Bool.or_true, Bool.and_false, Bool.false_and, Bool.true_and, Bool.and_true, Bool.and_self, Bool.or_self, Int.zero_add, ↓reduceIte, if_true, if_false, bAbs, bMax2, bMin2, bInt, bLen, bTuple, bList, bSum, bMax1, bMin1, items2, pZip, evLz, pRev, pRevT, evCallL, allInts_map, allPairs_map, bSorted, hsl, hL]
  · rw [l1, List.length_map]
    exact cutG_len _ _ _

end Hw
namespace Hw
open PySem PySem.Spec PyProof.Rows L2
/-- _law_stream(_law_cell, _law_many_here); slots 0 _law_cell, 1 _law_many_here, 2 _law_found, 3 _law_number, 4 _law_k; calls  -/
def b28 : Sx :=
  .cons (.setO 2 (.lst (.nil))) (.cons (.set 3 (.op .mod (.var 0) (.int 2305843009213693951))) (.cons (.forS (.one 4) (.rng1 (.cons (.op .add (.var 1) (.int 1)) (.nil))) (.cons (.set 3 (.op .mod (.op .add (.op .add (.op .add (.op .mul (.var 3) (.var 3)) (.op .mul (.int 48271) (.var 3))) (.op .mul (.int 7) (.var 4))) (.int 3)) (.int 2305843009213693951))) (.cons (.app 2 (.var 3)) (.nil)))) (.cons (.ret (.sl (.own 2) (.int 1) (.pn))) (.nil))))
-- deps: 17
theorem mM (x : Int) : fMod x 2305843009213693951 = some (x % 2305843009213693951) := fMod_of (by decide)
theorem sp28 (Γ : Gm) (c : Int) (m : Nat) (hm : m ≤ 1000) (O : Oms) : ∃ js : List Int, js.length = m ∧ evFun (evS Γ b28) 5 [.int c, .int m] O = some (.ok (.lst (js.map PV.int)) O) := by
  have hr : toR1 [.int ((m : Int) + 1)] = some (rangeL 0 (m + 1)) := by
    rw [toR1_of ⟨by omega, by omega⟩]
    rfl
  have aI : ∀ x y : Int, pAdd (.int x) (.int y) = some (.int (x + y)) := fun x y => rfl
  have a1 : pAdd (.int (m : Int)) (.int 1) = some (.int ((m : Int) + 1)) := rfl
  obtain ⟨ρ', O', hL, rfl, js, z, y4, rfl, lj, _⟩ := loopS_inv (g := evT1 4) (xs := rangeL 0 (m + 1)) (f := evS Γ (.cons (.set 3 (.op .mod (.op .add (.op .add (.op .add (.op .mul (.var 3) (.var 3)) (.op .mul (.int 48271) (.var 3))) (.op .mul (.int 7) (.var 4))) (.int 3)) (.int 2305843009213693951))) (.cons (.app 2 (.var 3)) (.nil))))
    (fun i ρ O1 => O1 = O ∧ ∃ (js : List Int) (z : Int) (y4 : Option PV), ρ = [some (.int c), some (.int m), some (.owl (js.map PV.int)), some (.int z), y4] ∧ js.length = i ∧ 0 ≤ z ∧ z < 2305843009213693951)
    (fun i v ρ O1 hx ⟨eO, js, z, y4, eρ, lj, z0, z1⟩ => by
      subst eO eρ
      obtain ⟨hi, rfl⟩ := rangeL_get hx
      have hs : js.length < sizeLine := by
        rw [lj]
        show i < 16777216
        omega
      have sz : Sz 61 z := Sz.of_lt z0 (by
        have : ((2 ^ 61 : Nat) : Int) = 2305843009213693952 := rfl
        omega)
      have sk : Sz 10 (0 + (i : Int)) := Sz.of_lt (by omega) (by
        have : ((2 ^ 10 : Nat) : Int) = 1024 := rfl
        omega)
      have f1 : fMul z z = some (z * z) := fMul_of sz sz (by decide)
      have f2 : fMul 48271 z = some (48271 * z) := fMul_of (show Sz 20 48271 by unfold Sz; decide) sz (by decide)
      have f3 : fMul 7 (0 + (i : Int)) = some (7 * (0 + (i : Int))) := fMul_of (show Sz 20 7 by unfold Sz; decide) sk (by decide)
      rw [Int.zero_add] at f3
      refine ⟨[some (.int c), some (.int m), some (.owl (js.map PV.int)), some (.int z), some (.int (0 + (i : Int)))], [some (.int c), some (.int m), some (.owl ((js ++ [(z * z + 48271 * z + 7 * i + 3) % 2305843009213693951]).map PV.int)), some (.int ((z * z + 48271 * z + 7 * i + 3) % 2305843009213693951)), some (.int (0 + (i : Int)))], O1, rfl, ?_, rfl, _, _, _, rfl, by rw [List.length_append, lj]; rfl, Int.emod_nonneg _ (by decide), Int.emod_lt_of_pos _ (by decide)⟩
      rw [List.map_append]
      simp only [evS, ev, evSeq, seqS_nx, seqS_rt, seqS_ex, evNx, evSet, evIf, evRet, evRetN, evAsg, evDrop, evFor, evApp, evSset, evAug, rX, rB, rA, rI, rP, ev2, ev1, evC, evCh, evAnd, evOr, evNot, evTr, evBl, evOfB, evIte, evTup, evLst, evBi, evCall, evCons, evNil, evVar, evOwn, evSetO, evFrz, frzPs, frzP, unOw, toOw, okW, noOw, evC0, evSl, evPn, evPs, toI, evSeqI, evRng, evIsi, bnd_ok, bnd_ex, ret_some, liftS_ok, B2.fn, B2.fnI, K2.fn, Bi.fn, Tg.fn, evT1, evTm, setAll, pInt, pOrd, pNeg, pAddS, toB, truth_int, truth_bl, pEq_int, pNe_int, Option.map_some, List.getElem?_cons_zero, List.getElem?_cons_succ, List.set_cons_zero, List.set_cons_succ, List.length_cons, List.length_nil, List.length_map, toSeq, isfG, isfB, tagOf, Option.bind_some, fMod_of, fDiv_of2, Int.reduceLT, decide_true, decide_false, Bool.not_true, Bool.not_false, reduceCtorEq, eq_self, Bool.or_false, Bool.false_or, Bool.true_or, Bool.or_true, Bool.and_false, Bool.false_and, Bool.true_and, Bool.and_true, Bool.and_self, Bool.or_self, Int.zero_add, ↓reduceIte, if_true, if_false, bAbs, bMax2, bMin2, bInt, bLen, bTuple, bList, bSum, bMax1, bMin1, items2, pZip, evLz, pRev, pRevT, evCallL, allInts_map, allPairs_map, bSorted, f1, f2, f3, aI, mM, hs]
      rfl) [some (.int c), some (.int m), some (.owl []), some (.int (c % 2305843009213693951)), none] O ⟨rfl, [], _, none, rfl, rfl, Int.emod_nonneg _ (by decide), Int.emod_lt_of_pos _ (by decide)⟩
  rw [rangeL_len] at lj
  have hsl : pSl (.lst (js.map PV.int)) (some 1) none = some (.lst ((cutG js (some 1) none).map PV.int)) := by rw [pSl_lst, cutG_map]
  refine ⟨cutG js (some 1) none, ?_, evFun_rt (O' := O') (ρ := [some (.int c), some (.int m), none, none, none]) rfl ?_⟩
  · unfold cutG
    have e1 : HT.sIx js.length 0 (some 1) = min 1 js.length := HT.sIx_nat js.length 0 1
    rw [e1, HT.sIx_none, List.length_take, List.length_drop]
    omega
  · simp only [evS, ev, evSeq, seqS_nx, seqS_rt, seqS_ex, evNx, evSet, evIf, evRet, evRetN, evAsg, evDrop, evFor, evApp, evSset, evAug, rX, rB, rA, rI, rP, ev2, ev1, evC, evCh, evAnd, evOr, evNot, evTr, evBl, evOfB, evIte, evTup, evLst, evBi, evCall, evCons, evNil, evVar, evOwn, evSetO, evFrz, frzPs, frzP, unOw, toOw, okW, noOw, evC0, evSl, evPn, evPs, toI, evSeqI, evRng, evIsi, bnd_ok, bnd_ex, ret_some, liftS_ok, B2.fn, B2.fnI, K2.fn, Bi.fn, Tg.fn, evT1, evTm, setAll, pInt, pOrd, pNeg, pAddS, toB, truth_int, truth_bl, pEq_int, pNe_int, Option.map_some, List.getElem?_cons_zero, List.getElem?_cons_succ, List.set_cons_zero, List.set_cons_succ, List.length_cons, List.length_nil, List.length_map, toSeq, isfG, isfB, tagOf, Option.bind_some, fMod_of, fDiv_of2, Int.reduceLT, decide_true, decide_false, Bool.not_true, Bool.not_false, reduceCtorEq, eq_self, Bool.or_false, Bool.false_or, Bool.true_or, Bool.or_true, Bool.and_false, Bool.false_and, Bool.true_and, Bool.and_true, Bool.and_self, Bool.or_self, Int.zero_add, ↓reduceIte, if_true, if_false, bAbs, bMax2, bMin2, bInt, bLen, bTuple, bList, bSum, bMax1, bMin1, items2, pZip, evLz, pRev, pRevT, evCallL, allInts_map, allPairs_map, bSorted] at hL
    simp only [b28, evS, ev, evSeq, seqS_nx, seqS_rt, seqS_ex, evNx, evSet, evIf, evRet, evRetN, evAsg, evDrop, evFor, evApp, evSset, evAug, rX, rB, rA, rI, rP, ev2, ev1, evC, evCh, evAnd, evOr, evNot, evTr, evBl, evOfB, evIte, evTup, evLst, evBi, evCall, evCons, evNil, evVar, evOwn, evSetO, evFrz, frzPs, frzP, unOw, toOw, okW, noOw, evC0, evSl, evPn, evPs, toI, evSeqI, evRng, evIsi, bnd_ok, bnd_ex, ret_some, liftS_ok, B2.fn, B2.fnI, K2.fn, Bi.fn, Tg.fn, evT1, evTm, setAll, pInt, pOrd, pNeg, pAddS, toB, truth_int, truth_bl, pEq_int, pNe_int, Option.map_some, List.getElem?_cons_zero, List.getElem?_cons_succ, List.set_cons_zero, List.set_cons_succ, List.length_cons, List.length_nil, List.length_map, toSeq, isfG, isfB, tagOf, Option.bind_some, fMod_of, fDiv_of2, Int.reduceLT, decide_true, decide_false, Bool.not_true, Bool.not_false, reduceCtorEq, eq_self, Bool.or_false, Bool.false_or, Bool.true_or, Bool.or_true, Bool.and_false, Bool.false_and, Bool.true_and, Bool.and_true, Bool.and_self, Bool.or_self, Int.zero_add, ↓reduceIte, if_true, if_false, bAbs, bMax2, bMin2, bInt, bLen, bTuple, bList, bSum, bMax1, bMin1, items2, pZip, evLz, pRev, pRevT, evCallL, allInts_map, allPairs_map, bSorted, mM, a1, hr, hL, hsl]

end Hw
namespace Hw
open PySem PySem.Spec PyProof.Rows L2
/-- _law_turn(_law_cell, _law_many_here, _law_scale); slots 0 _law_cell, 1 _law_many_here, 2 _law_scale, 3 _law_numbers, 4 _law_said, 5 _law_number; calls 28 _law_stream -/
def b29 : Sx :=
  .cons (.set 3 (.call 28 (.cons (.var 0) (.cons (.op .add (.var 1) (.int 1)) (.nil))))) (.cons (.setO 4 (.lst (.nil))) (.cons (.forS (.one 5) (.seq (.sl (.var 3) (.int 1) (.pn))) (.cons (.app 4 (.ix (.lst (.cons (.non) (.cons (.op .mod (.op .div (.var 5) (.int 8)) (.op .add (.var 2) (.int 1))) (.nil)))) (.bi .int1 (.cons (.cmp .gt (.op .mod (.var 5) (.int 8)) (.int 1)) (.nil))))) (.nil))) (.cons (.ret (.tup (.cons (.bi .tuple (.cons (.own 4) (.nil))) (.cons (.op .mod (.ix (.var 3) (.int 0)) (.op .add (.var 2) (.int 1))) (.nil))))) (.nil))))
def oP : Option Int → PV
  | none => .non
  | some i => .int i
abbrev Turn := List (Option Int) × Int
def trP (t : Turn) : PV := .tup [.tup (t.1.map oP), .int t.2]
theorem sp29 (Γ : Gm) (H28 : ∀ (c : Int) (m : Nat) O, m ≤ 1000 → ∃ js : List Int, js.length = m ∧ Γ 28 [.int c, .int m] O = some (.ok (.lst (js.map PV.int)) O))
    (c : Int) (m s : Nat) (hm : m ≤ 100) (O : Oms) : ∃ t : Turn, t.1.length = m ∧ evFun (evS Γ b29) 6 [.int c, .int m, .int s] O = some (.ok (trP t) O) := by
  obtain ⟨js, lj, e28⟩ := H28 c (m + 1) O (by omega)
  have a1 : pAdd (.int (m : Int)) (.int 1) = some (.int ((m + 1 : Nat) : Int)) := rfl
  have hs : (0 : Int) < (s : Int) + 1 := by omega
  have a2 : pAdd (.int (s : Int)) (.int 1) = some (.int ((s : Int) + 1)) := rfl
  have mS : ∀ x, fMod x ((s : Int) + 1) = some (x % ((s : Int) + 1)) := fun x => fMod_of hs
  obtain ⟨j, js, rfl⟩ : ∃ j ks, js = j :: ks := by
    cases js with
    | nil => cases lj
    | cons j js => exact ⟨j, js, rfl⟩
  have lj2 : js.length = m := by
    rw [List.length_cons] at lj
    omega
  have hsl : pSl (.lst ((j :: js).map PV.int)) (some 1) none = some (.lst (js.map PV.int)) := by
    rw [pSl_lst, cutG_map]
    congr 2
    unfold cutG
    have e1 : HT.sIx (j :: js).length 0 (some 1) = min 1 (j :: js).length := HT.sIx_nat _ 0 1
    rw [e1, HT.sIx_none, List.length_cons, Nat.min_eq_left (by omega)]
    show List.map PV.int (List.take (js.length + 1 - 1) js) = _
    rw [Nat.add_sub_cancel, List.take_length]
  have ei : pIx (.lst ((j :: js).map PV.int)) (.int 0) = some (.int j) := pIx_lst (i := 0) rfl
  obtain ⟨ρ', O', hL, rfl, os, y5, rfl, lo⟩ := loopS_inv (g := evT1 5) (xs := js.map PV.int) (f := evS Γ (.cons (.app 4 (.ix (.lst (.cons (.non) (.cons (.op .mod (.op .div (.var 5) (.int 8)) (.op .add (.var 2) (.int 1))) (.nil)))) (.bi .int1 (.cons (.cmp .gt (.op .mod (.var 5) (.int 8)) (.int 1)) (.nil))))) (.nil)))
    (fun i ρ O1 => O1 = O ∧ ∃ (os : List (Option Int)) (y5 : Option PV), ρ = [some (.int c), some (.int m), some (.int s), some (.lst ((j :: js).map PV.int)), some (.owl (os.map oP)), y5] ∧ os.length = i)
    (fun i v ρ O1 hx ⟨eO, os, y5, eρ, lo⟩ => by
      subst eO eρ
      have hi : os.length < sizeLine := by
        have := (List.getElem?_eq_some_iff.mp hx).1
        rw [List.length_map] at this
        rw [lo]
        show i < 16777216
        omega
      obtain ⟨n, _, rfl⟩ := List.mem_map.mp (List.mem_of_getElem? hx)
      have key : ∃ o : Option Int, pIx (.lst [.non, .int (n / 8 % ((s : Int) + 1))]) (.int (if decide (1 < n % 8) = true then 1 else 0)) = some (oP o) := by
        by_cases h : 1 < n % 8
        · rw [if_pos (decide_eq_true h)]
          exact ⟨some _, rfl⟩
        · rw [if_neg (by simpa using h)]
          exact ⟨none, rfl⟩
      obtain ⟨o, key⟩ := key
      refine ⟨[some (.int c), some (.int m), some (.int s), some (.lst ((j :: js).map PV.int)), some (.owl (os.map oP)), some (.int n)], [some (.int c), some (.int m), some (.int s), some (.lst ((j :: js).map PV.int)), some (.owl ((os ++ [o]).map oP)), some (.int n)], O1, rfl, ?_, rfl, _, _, rfl, by rw [List.length_append, lo]; rfl⟩
      rw [List.map_append]
      simp only [evS, ev, evSeq, seqS_nx, seqS_rt, seqS_ex, evNx, evSet, evIf, evRet, evRetN, evAsg, evDrop, evFor, evApp, evSset, evAug, rX, rB, rA, rI, rP, ev2, ev1, evC, evCh, evAnd, evOr, evNot, evTr, evBl, evOfB, evIte, evTup, evLst, evBi, evCall, evCons, evNil, evVar, evOwn, evSetO, evFrz, frzPs, frzP, unOw, toOw, okW, noOw, evC0, evSl, evPn, evPs, toI, evSeqI, evRng, evIsi, bnd_ok, bnd_ex, ret_some, liftS_ok, B2.fn, B2.fnI, K2.fn, Bi.fn, Tg.fn, evT1, evTm, setAll, pInt, pOrd, pNeg, pAddS, toB, truth_int, truth_bl, pEq_int, pNe_int, Option.map_some, List.getElem?_cons_zero, List.getElem?_cons_succ, List.set_cons_zero, List.set_cons_succ, List.length_cons, List.length_nil, List.length_map, toSeq, isfG, isfB, tagOf, Option.bind_some, fMod_of, fDiv_of2, Int.reduceLT, decide_true, decide_false, Bool.not_true, Bool.not_false, reduceCtorEq, eq_self, Bool.or_false, Bool.false_or, Bool.true_or, Bool.or_true, Bool.and_false, Bool.false_and, Bool.true_and, Bool.and_true, Bool.and_self, Bool.or_self, Int.zero_add, ↓reduceIte, if_true, if_false, bAbs, bMax2, bMin2, bInt, bLen, bTuple, bList, bSum, bMax1, bMin1, items2, pZip, evLz, pRev, pRevT, evCallL, allInts_map, allPairs_map, bSorted, a2, mS, key, hi]
      rfl) [some (.int c), some (.int m), some (.int s), some (.lst ((j :: js).map PV.int)), some (.owl []), none] O ⟨rfl, [], none, rfl, rfl⟩
  rw [List.length_map] at lo
  refine ⟨(os, j % ((s : Int) + 1)), by show os.length = m; omega, evFun_rt (O' := O') (ρ := [some (.int c), some (.int m), some (.int s), none, none, none]) rfl ?_⟩
  simp only [evS, ev, evSeq, seqS_nx, seqS_rt, seqS_ex, evNx, evSet, evIf, evRet, evRetN, evAsg, evDrop, evFor, evApp, evSset, evAug, rX, rB, rA, rI, rP, ev2, ev1, evC, evCh, evAnd, evOr, evNot, evTr, evBl, evOfB, evIte, evTup, evLst, evBi, evCall, evCons, evNil, evVar, evOwn, evSetO, evFrz, frzPs, frzP, unOw, toOw, okW, noOw, evC0, evSl, evPn, evPs, toI, evSeqI, evRng, evIsi, bnd_ok, bnd_ex, ret_some, liftS_ok, B2.fn, B2.fnI, K2.fn, Bi.fn, Tg.fn, evT1, evTm, setAll, pInt, pOrd, pNeg, pAddS, toB, truth_int, truth_bl, pEq_int, pNe_int, Option.map_some, List.getElem?_cons_zero, List.getElem?_cons_succ, List.set_cons_zero, List.set_cons_succ, List.length_cons, List.length_nil, List.length_map, toSeq, isfG, isfB, tagOf, Option.bind_some, fMod_of, fDiv_of2, Int.reduceLT, decide_true, decide_false, Bool.not_true, Bool.not_false, reduceCtorEq, eq_self, Bool.or_false, Bool.false_or, Bool.true_or, Bool.or_true, Bool.and_false, Bool.false_and, Bool.true_and, Bool.and_true, Bool.and_self, Bool.or_self, Int.zero_add, ↓reduceIte, if_true, if_false, bAbs, bMax2, bMin2, bInt, bLen, bTuple, bList, bSum, bMax1, bMin1, items2, pZip, evLz, pRev, pRevT, evCallL, allInts_map, allPairs_map, bSorted] at hL
  simp only [b29, evS, ev, evSeq, seqS_nx, seqS_rt, seqS_ex, evNx, evSet, evIf, evRet, evRetN, evAsg, evDrop, evFor, evApp, evSset, evAug, rX, rB, rA, rI, rP, ev2, ev1, evC, evCh, evAnd, evOr, evNot, evTr, evBl, evOfB, evIte, evTup, evLst, evBi, evCall, evCons, evNil, evVar, evOwn, evSetO, evFrz, frzPs, frzP, unOw, toOw, okW, noOw, evC0, evSl, evPn, evPs, toI, evSeqI, evRng, evIsi, bnd_ok, bnd_ex, ret_some, liftS_ok, B2.fn, B2.fnI, K2.fn, Bi.fn, Tg.fn, evT1, evTm, setAll, pInt, pOrd, pNeg, pAddS, toB, truth_int, truth_bl, pEq_int, pNe_int, Option.map_some, List.getElem?_cons_zero, List.getElem?_cons_succ, List.set_cons_zero, List.set_cons_succ, List.length_cons, List.length_nil, List.length_map, toSeq, isfG, isfB, tagOf, Option.bind_some, fMod_of, fDiv_of2, Int.reduceLT, decide_true, decide_false, Bool.not_true, Bool.not_false, reduceCtorEq, eq_self, Bool.or_false, Bool.false_or, Bool.true_or, Bool.or_true, Bool.and_false, Bool.false_and, Bool.true_and, Bool.and_true, Bool.and_self, Bool.or_self, Int.zero_add, ↓reduceIte, if_true, if_false, bAbs, bMax2, bMin2, bInt, bLen, bTuple, bList, bSum, bMax1, bMin1, items2, pZip, evLz, pRev, pRevT, evCallL, allInts_map, allPairs_map, bSorted, a1, a2, e28, hsl, hL, ei, mS, trP]

end Hw
namespace Hw
open PySem PySem.Spec PyProof.Rows L2
/-- middle(numbers, weights); slots 0 numbers, 1 weights, 2 whole, 3 there, 4 number, 5 weight; calls  -/
def b18 : Sx :=
  .cons (.ifs (.cmp .eq (.var 0) (.tup (.nil))) (.cons (.ret (.int 0)) (.nil)) (.nil)) (.cons (.ifs (.cmp .eq (.bi .sum (.cons (.var 1) (.nil))) (.int 0)) (.cons (.set 1 (.bi .tuple (.cons (.comp (.one 4) [4] (.seq (.var 0)) (.int 1)) (.nil)))) (.nil)) (.nil)) (.cons (.set 2 (.bi .sum (.cons (.var 1) (.nil)))) (.cons (.set 3 (.int 0)) (.cons (.forS (.many [4, 5]) (.seq (.bi .sorted (.cons (.lz (.cons (.var 0) (.cons (.var 1) (.nil)))) (.nil)))) (.cons (.aug 3 .add (.var 5)) (.cons (.ifs (.cmp .ge (.op .mul (.int 2) (.var 3)) (.var 2)) (.cons (.ret (.var 4)) (.nil)) (.nil)) (.nil)))) (.cons (.ret (.int 0)) (.nil))))))
/-! the middle, plainly -/
def ones (ns ws : List Int) : List Int := if ws.sum = 0 then ns.map (fun _ => 1) else ws
def midO (w : Int) : Int → List (Int × Int) → Option Int
  | _, [] => none
  | t, p :: ps => if w ≤ 2 * (t + p.2) then some p.1 else midO w (t + p.2) ps
def mid (ns ws : List Int) : Int := if ns = [] then 0 else (midO (ones ns ws).sum 0 (srtB SrtO.lexB (ns.zip (ones ns ws)))).getD 0
def sumW (ps : List (Int × Int)) : Int := (ps.map Prod.snd).sum
theorem sumW_cons (p : Int × Int) (ps : List (Int × Int)) : sumW (p :: ps) = p.2 + sumW ps := by
  unfold sumW
  rw [List.map_cons, List.sum_cons]
theorem sumW_nn : ∀ {ps : List (Int × Int)}, (∀ p ∈ ps, 0 ≤ p.2) → 0 ≤ sumW ps
  | [], _ => by decide
  | p :: ps, h => by
    rw [sumW_cons]
    have := sumW_nn (ps := ps) fun q hq => h q (List.mem_cons_of_mem _ hq)
    have := h p List.mem_cons_self
    omega
theorem sum_perm {xs ys : List Int} (h : xs.Perm ys) : xs.sum = ys.sum := by
  induction h with
  | nil => rfl
  | cons x _ ih => rw [List.sum_cons, List.sum_cons, ih]
  | swap x y l => rw [List.sum_cons, List.sum_cons, List.sum_cons, List.sum_cons]; omega
  | trans _ _ i1 i2 => exact i1.trans i2
theorem sumW_perm {ps qs : List (Int × Int)} (h : ps.Perm qs) : sumW ps = sumW qs := sum_perm (h.map _)
theorem zip_snd {ns ws : List Int} (h : ns.length = ws.length) : (ns.zip ws).map Prod.snd = ws := by
  rw [List.map_snd_zip (by omega)]
theorem ones_len {ns ws : List Int} (h : ns.length = ws.length) : ns.length = (ones ns ws).length := by
  unfold ones
  split
  · rw [List.length_map]
  · exact h
theorem ones_nn {ns ws : List Int} (h : ∀ w ∈ ws, 0 ≤ w) : ∀ w ∈ ones ns ws, 0 ≤ w := by
  unfold ones
  split
  · intro w hw
    obtain ⟨_, _, rfl⟩ := List.mem_map.mp hw
    decide
  · exact h
theorem sum_ones : ∀ (ns : List Int), (ns.map fun _ => (1 : Int)).sum = ns.length
  | [] => rfl
  | n :: ns => by
    rw [List.map_cons, List.sum_cons, sum_ones ns, List.length_cons]
    omega
theorem sum_nn : ∀ {ws : List Int}, (∀ w ∈ ws, 0 ≤ w) → 0 ≤ ws.sum
  | [], _ => by decide
  | w :: ws, h => by
    rw [List.sum_cons]
    have := sum_nn (ws := ws) fun q hq => h q (List.mem_cons_of_mem _ hq)
    have := h w List.mem_cons_self
    omega
theorem ones_pos {ns ws : List Int} (h : ∀ w ∈ ws, 0 ≤ w) (h0 : ns ≠ []) : 0 < (ones ns ws).sum := by
  unfold ones
  split
  · rw [sum_ones]
    have := List.length_pos_iff.mpr h0
    omega
  · have := sum_nn h
    omega
/-- its steps -/
theorem mid_loop (Γ : Gm) (a b : Option PV) (w : Int) (O : Oms) : ∀ (ps : List (Int × Int)) (t : Int) (y4 y5 : Option PV), 0 ≤ t → (∀ p ∈ ps, 0 ≤ p.2) → Sz 1000 (t + sumW ps) →
    match midO w t ps with
    | some n => loopS (evTm [4, 5]) (evS Γ (.cons (.aug 3 .add (.var 5)) (.cons (.ifs (.cmp .ge (.op .mul (.int 2) (.var 3)) (.var 2)) (.cons (.ret (.var 4)) (.nil)) (.nil)) (.nil)))) (ps.map prP) [a, b, some (.int w), some (.int t), y4, y5] O = some (.rt (.int n) O)
    | none => ∃ ρ', loopS (evTm [4, 5]) (evS Γ (.cons (.aug 3 .add (.var 5)) (.cons (.ifs (.cmp .ge (.op .mul (.int 2) (.var 3)) (.var 2)) (.cons (.ret (.var 4)) (.nil)) (.nil)) (.nil)))) (ps.map prP) [a, b, some (.int w), some (.int t), y4, y5] O = some (.nx ρ' O)
  | [], t, y4, y5, _, _, _ => ⟨_, rfl⟩
  | p :: ps, t, y4, y5, ht, hp, hs => by
    have p0 := hp p List.mem_cons_self
    have hq : ∀ q ∈ ps, 0 ≤ q.2 := fun q hq => hp q (List.mem_cons_of_mem _ hq)
    have s0 := sumW_nn hq
    rw [sumW_cons] at hs
    have s1 : Sz 1000 (t + p.2) := by
      unfold Sz at *
      omega
    have m1 : fMul 2 (t + p.2) = some (2 * (t + p.2)) := fMul_of (Sz.one.mono (Nat.zero_le 1000) |> fun _ => (show Sz 1 2 by unfold Sz; decide)) s1 (by decide)
    have ih := mid_loop Γ a b w O ps (t + p.2) (some (.int p.1)) (some (.int p.2)) (by omega) hq (by rw [Int.add_assoc]; exact hs)
    have a1 : pAdd (.int t) (.int p.2) = some (.int (t + p.2)) := rfl
    have g1 : evTm [4, 5] (prP p) [a, b, some (.int w), some (.int t), y4, y5] = some [a, b, some (.int w), some (.int t), some (.int p.1), some (.int p.2)] := rfl
    rw [List.map_cons, midO]
    by_cases h : w ≤ 2 * (t + p.2)
    · rw [if_pos h]
      show loopS _ _ _ _ _ = _
      have c := decide_eq_true h
      rw [loopS, g1]
      simp only [evS, ev, evSeq, seqS_nx, seqS_rt, seqS_ex, evNx, evSet, evIf, evRet, evRetN, evAsg, evDrop, evFor, evApp, evSset, evAug, rX, rB, rA, rI, rP, ev2, ev1, evC, evCh, evAnd, evOr, evNot, evTr, evBl, evOfB, evIte, evTup, evLst, evBi, evCall, evCons, evNil, evVar, evOwn, evSetO, evFrz, frzPs, frzP, unOw, toOw, okW, noOw, evC0, evSl, evPn, evPs, toI, evSeqI, evRng, evIsi, bnd_ok, bnd_ex, ret_some, liftS_ok, B2.fn, B2.fnI, K2.fn, Bi.fn, Tg.fn, evT1, evTm, setAll, pInt, pOrd, pNeg, pAddS, toB, truth_int, truth_bl, pEq_int, pNe_int, Option.map_some, List.getElem?_cons_zero, List.getElem?_cons_succ, List.set_cons_zero, List.set_cons_succ, List.length_cons, List.length_nil, List.length_map, toSeq, isfG, isfB, tagOf, Option.bind_some, fMod_of, fDiv_of2, Int.reduceLT, decide_true, decide_false, Bool.not_true, Bool.not_false, reduceCtorEq, eq_self, Bool.or_false, Bool.false_or, Bool.true_or, Bool.or_true, Bool.and_false, Bool.false_and, Bool.true_and, Bool.and_true, Bool.and_self, Bool.or_self, Int.zero_add, ↓reduceIte, if_true, if_false, bAbs, bMax2, bMin2, bInt, bLen, bTuple, bList, bSum, bMax1, bMin1, items2, pZip, evLz, pRev, pRevT, evCallL, allInts_map, allPairs_map, bSorted, a1, m1, c]
    · rw [if_neg h]
      have c := decide_eq_false h
      have e : loopS (evTm [4, 5]) (evS Γ (.cons (.aug 3 .add (.var 5)) (.cons (.ifs (.cmp .ge (.op .mul (.int 2) (.var 3)) (.var 2)) (.cons (.ret (.var 4)) (.nil)) (.nil)) (.nil)))) (prP p :: ps.map prP) [a, b, some (.int w), some (.int t), y4, y5] O = loopS (evTm [4, 5]) (evS Γ (.cons (.aug 3 .add (.var 5)) (.cons (.ifs (.cmp .ge (.op .mul (.int 2) (.var 3)) (.var 2)) (.cons (.ret (.var 4)) (.nil)) (.nil)) (.nil)))) (ps.map prP) [a, b, some (.int w), some (.int (t + p.2)), some (.int p.1), some (.int p.2)] O := by
        refine loopS_step g1 ?_
        simp only [evS, ev, evSeq, seqS_nx, seqS_rt, seqS_ex, evNx, evSet, evIf, evRet, evRetN, evAsg, evDrop, evFor, evApp, evSset, evAug, rX, rB, rA, rI, rP, ev2, ev1, evC, evCh, evAnd, evOr, evNot, evTr, evBl, evOfB, evIte, evTup, evLst, evBi, evCall, evCons, evNil, evVar, evOwn, evSetO, evFrz, frzPs, frzP, unOw, toOw, okW, noOw, evC0, evSl, evPn, evPs, toI, evSeqI, evRng, evIsi, bnd_ok, bnd_ex, ret_some, liftS_ok, B2.fn, B2.fnI, K2.fn, Bi.fn, Tg.fn, evT1, evTm, setAll, pInt, pOrd, pNeg, pAddS, toB, truth_int, truth_bl, pEq_int, pNe_int, Option.map_some, List.getElem?_cons_zero, List.getElem?_cons_succ, List.set_cons_zero, List.set_cons_succ, List.length_cons, List.length_nil, List.length_map, toSeq, isfG, isfB, tagOf, Option.bind_some, fMod_of, fDiv_of2, Int.reduceLT, decide_true, decide_false, Bool.not_true, Bool.not_false, reduceCtorEq, eq_self, Bool.or_false, Bool.false_or, Bool.true_or, Bool.or_true, Bool.and_false, Bool.false_and, Bool.true_and, Bool.and_true, Bool.and_self, Bool.or_self, Int.zero_add, ↓reduceIte, if_true, if_false, bAbs, bMax2, bMin2, bInt, bLen, bTuple, bList, bSum, bMax1, bMin1, items2, pZip, evLz, pRev, pRevT, evCallL, allInts_map, allPairs_map, bSorted, a1, m1, c]
      rw [e]
      exact ih
theorem evComp_map {h : EvA} {g : EvT} {f : Ev} {vs : List Nat} {ρ : Loc} {O : Oms} {xs : List PV} {F : PV → PV} (e : h ρ O = some (.ok xs O)) (hl : xs.length ≤ sizeLine) (hw : okW ρ vs = true) (k : ∀ x ∈ xs, ∃ ρ1, g x (wipeP ρ vs) = some ρ1 ∧ f ρ1 O = some (.ok (F x) O)) : evComp h g evYes f vs ρ O = some (.ok (.lst (xs.map F)) O) := by
  unfold evComp
  rw [e, bnd_ok, if_pos ⟨hl, hw⟩, compL_map k]
  rfl
theorem map_ones (ns : List Int) : (ns.map PV.int).map (fun _ => PV.int 1) = (ns.map fun _ => (1 : Int)).map PV.int := by
  rw [List.map_map, List.map_map]
  rfl
theorem sp18 (Γ : Gm) (ns ws : List Int) (O : Oms) (hl : ns.length = ws.length) (hk : ns.length ≤ 1000) (h0 : ∀ w ∈ ws, 0 ≤ w) (hs : Sz 1000 (ones ns ws).sum) : evFun (evS Γ b18) 6 [.tup (ns.map PV.int), .tup (ws.map PV.int)] O = some (.ok (.int (mid ns ws)) O) := by
  refine evFun_rt (O' := O) (ρ := [some (.tup (ns.map PV.int)), some (.tup (ws.map PV.int)), none, none, none, none]) rfl ?_
  by_cases hn : ns = []
  · have c := decide_eq_true hn
    have e : mid ns ws = 0 := if_pos hn
    simp only [b18, evS, ev, evSeq, seqS_nx, seqS_rt, seqS_ex, evNx, evSet, evIf, evRet, evRetN, evAsg, evDrop, evFor, evApp, evSset, evAug, rX, rB, rA, rI, rP, ev2, ev1, evC, evCh, evAnd, evOr, evNot, evTr, evBl, evOfB, evIte, evTup, evLst, evBi, evCall, evCons, evNil, evVar, evOwn, evSetO, evFrz, frzPs, frzP, unOw, toOw, okW, noOw, evC0, evSl, evPn, evPs, toI, evSeqI, evRng, evIsi, bnd_ok, bnd_ex, ret_some, liftS_ok, B2.fn, B2.fnI, K2.fn, Bi.fn, Tg.fn, evT1, evTm, setAll, pInt, pOrd, pNeg, pAddS, toB, truth_int, truth_bl, pEq_int, pNe_int, Option.map_some, List.getElem?_cons_zero, List.getElem?_cons_succ, List.set_cons_zero, List.set_cons_succ, List.length_cons, List.length_nil, List.length_map, toSeq, isfG, isfB, tagOf, Option.bind_some, fMod_of, fDiv_of2, Int.reduceLT, decide_true, decide_false, Bool.not_true, Bool.not_false, reduceCtorEq, eq_self, Bool.or_false, Bool.false_or, Bool.true_or, Bool.or_true, Bool.and_false, Bool.false_and, Bool.true_and, Bool.and_true, Bool.and_self, Bool.or_self, Int.zero_add, ↓reduceIte, if_true, if_false, bAbs, bMax2, bMin2, bInt, bLen, bTuple, bList, bSum, bMax1, bMin1, items2, pZip, evLz, pRev, pRevT, evCallL, allInts_map, allPairs_map, bSorted, pEq_tup0, c, e]
  · have c := decide_eq_false hn
    have e : mid ns ws = (midO (ones ns ws).sum 0 (srtB SrtO.lexB (ns.zip (ones ns ws)))).getD 0 := if_neg hn
    have hL := mid_loop Γ (some (.tup (ns.map PV.int))) (some (.tup ((ones ns ws).map PV.int))) (ones ns ws).sum O (srtB SrtO.lexB (ns.zip (ones ns ws))) 0 none none (by decide) (fun p hp => by
      have hp := (srtB_perm _ _).mem_iff.mp hp
      exact ones_nn h0 _ (List.of_mem_zip hp).2) (by
      rw [sumW_perm (srtB_perm _ _)]
      unfold sumW
      rw [zip_snd (ones_len hl), Int.zero_add]
      exact hs)
    by_cases hz : ws.sum = 0
    · have c2 := decide_eq_true hz
      have eo : ones ns ws = ns.map (fun _ => 1) := if_pos hz
      rw [eo] at hL e
      have hC : evComp (evSeqI (evVar 0)) (evT1 4) evYes (evC0 (.int 1)) [4] [some (.tup (ns.map PV.int)), some (.tup (ws.map PV.int)), none, none, none, none] O = some (.ok (.lst ((ns.map PV.int).map fun _ => PV.int 1)) O) := evComp_map rfl (by rw [List.length_map]; exact Nat.le_trans hk (by decide)) rfl fun x _ => ⟨_, rfl, rfl⟩
      rw [map_ones] at hC
      rw [e]
      cases q : midO (ns.map fun _ => (1 : Int)).sum 0 (srtB SrtO.lexB (ns.zip (ns.map fun _ => (1 : Int)))) with
      | none =>
        rw [q] at hL
        obtain ⟨ρ', hL⟩ := hL
        simp only [evS, ev, evSeq, seqS_nx, seqS_rt, seqS_ex, evNx, evSet, evIf, evRet, evRetN, evAsg, evDrop, evFor, evApp, evSset, evAug, rX, rB, rA, rI, rP, ev2, ev1, evC, evCh, evAnd, evOr, evNot, evTr, evBl, evOfB, evIte, evTup, evLst, evBi, evCall, evCons, evNil, evVar, evOwn, evSetO, evFrz, frzPs, frzP, unOw, toOw, okW, noOw, evC0, evSl, evPn, evPs, toI, evSeqI, evRng, evIsi, bnd_ok, bnd_ex, ret_some, liftS_ok, B2.fn, B2.fnI, K2.fn, Bi.fn, Tg.fn, evT1, evTm, setAll, pInt, pOrd, pNeg, pAddS, toB, truth_int, truth_bl, pEq_int, pNe_int, Option.map_some, List.getElem?_cons_zero, List.getElem?_cons_succ, List.set_cons_zero, List.set_cons_succ, List.length_cons, List.length_nil, List.length_map, toSeq, isfG, isfB, tagOf, Option.bind_some, fMod_of, fDiv_of2, Int.reduceLT, decide_true, decide_false, Bool.not_true, Bool.not_false, reduceCtorEq, eq_self, Bool.or_false, Bool.false_or, Bool.true_or, Bool.or_true, Bool.and_false, Bool.false_and, Bool.true_and, Bool.and_true, Bool.and_self, Bool.or_self, Int.zero_add, ↓reduceIte, if_true, if_false, bAbs, bMax2, bMin2, bInt, bLen, bTuple, bList, bSum, bMax1, bMin1, items2, pZip, evLz, pRev, pRevT, evCallL, allInts_map, allPairs_map, bSorted] at hL
        simp only [b18, evS, ev, evSeq, seqS_nx, seqS_rt, seqS_ex, evNx, evSet, evIf, evRet, evRetN, evAsg, evDrop, evFor, evApp, evSset, evAug, rX, rB, rA, rI, rP, ev2, ev1, evC, evCh, evAnd, evOr, evNot, evTr, evBl, evOfB, evIte, evTup, evLst, evBi, evCall, evCons, evNil, evVar, evOwn, evSetO, evFrz, frzPs, frzP, unOw, toOw, okW, noOw, evC0, evSl, evPn, evPs, toI, evSeqI, evRng, evIsi, bnd_ok, bnd_ex, ret_some, liftS_ok, B2.fn, B2.fnI, K2.fn, Bi.fn, Tg.fn, evT1, evTm, setAll, pInt, pOrd, pNeg, pAddS, toB, truth_int, truth_bl, pEq_int, pNe_int, Option.map_some, List.getElem?_cons_zero, List.getElem?_cons_succ, List.set_cons_zero, List.set_cons_succ, List.length_cons, List.length_nil, List.length_map, toSeq, isfG, isfB, tagOf, Option.bind_some, fMod_of, fDiv_of2, Int.reduceLT, decide_true, decide_false, Bool.not_true, Bool.not_false, reduceCtorEq, eq_self, Bool.or_false, Bool.false_or, Bool.true_or, Bool.or_true, Bool.and_false, Bool.false_and, Bool.true_and, Bool.and_true, Bool.and_self, Bool.or_self, Int.zero_add, ↓reduceIte, if_true, if_false, bAbs, bMax2, bMin2, bInt, bLen, bTuple, bList, bSum, bMax1, bMin1, items2, pZip, evLz, pRev, pRevT, evCallL, allInts_map, allPairs_map, bSorted, pEq_tup0, c, c2, hC, zipT_ints, hL]
        rfl
      | some n =>
        rw [q] at hL
        simp only [evS, ev, evSeq, seqS_nx, seqS_rt, seqS_ex, evNx, evSet, evIf, evRet, evRetN, evAsg, evDrop, evFor, evApp, evSset, evAug, rX, rB, rA, rI, rP, ev2, ev1, evC, evCh, evAnd, evOr, evNot, evTr, evBl, evOfB, evIte, evTup, evLst, evBi, evCall, evCons, evNil, evVar, evOwn, evSetO, evFrz, frzPs, frzP, unOw, toOw, okW, noOw, evC0, evSl, evPn, evPs, toI, evSeqI, evRng, evIsi, bnd_ok, bnd_ex, ret_some, liftS_ok, B2.fn, B2.fnI, K2.fn, Bi.fn, Tg.fn, evT1, evTm, setAll, pInt, pOrd, pNeg, pAddS, toB, truth_int, truth_bl, pEq_int, pNe_int, Option.map_some, List.getElem?_cons_zero, List.getElem?_cons_succ, List.set_cons_zero, List.set_cons_succ, List.length_cons, List.length_nil, List.length_map, toSeq, isfG, isfB, tagOf, Option.bind_some, fMod_of, fDiv_of2, Int.reduceLT, decide_true, decide_false, Bool.not_true, Bool.not_false, reduceCtorEq, eq_self, Bool.or_false, Bool.false_or, Bool.true_or, Bool.or_true, Bool.and_false, Bool.false_and, Bool.true_and, Bool.and_true, Bool.and_self, Bool.or_self, Int.zero_add, ↓reduceIte, if_true, if_false, bAbs, bMax2, bMin2, bInt, bLen, bTuple, bList, bSum, bMax1, bMin1, items2, pZip, evLz, pRev, pRevT, evCallL, allInts_map, allPairs_map, bSorted] at hL
        simp only [b18, evS, ev, evSeq, seqS_nx, seqS_rt, seqS_ex, evNx, evSet, evIf, evRet, evRetN, evAsg, evDrop, evFor, evApp, evSset, evAug, rX, rB, rA, rI, rP, ev2, ev1, evC, evCh, evAnd, evOr, evNot, evTr, evBl, evOfB, evIte, evTup, evLst, evBi, evCall, evCons, evNil, evVar, evOwn, evSetO, evFrz, frzPs, frzP, unOw, toOw, okW, noOw, evC0, evSl, evPn, evPs, toI, evSeqI, evRng, evIsi, bnd_ok, bnd_ex, ret_some, liftS_ok, B2.fn, B2.fnI, K2.fn, Bi.fn, Tg.fn, evT1, evTm, setAll, pInt, pOrd, pNeg, pAddS, toB, truth_int, truth_bl, pEq_int, pNe_int, Option.map_some, List.getElem?_cons_zero, List.getElem?_cons_succ, List.set_cons_zero, List.set_cons_succ, List.length_cons, List.length_nil, List.length_map, toSeq, isfG, isfB, tagOf, Option.bind_some, fMod_of, fDiv_of2, Int.reduceLT, decide_true, decide_false, Bool.not_true, Bool.not_false, reduceCtorEq, eq_self, Bool.or_false, Bool.false_or, Bool.true_or, Bool.or_true, Bool.and_false, Bool.false_and, Bool.true_and, Bool.and_true, Bool.and_self, Bool.or_self, Int.zero_add, ↓reduceIte, if_true, if_false, bAbs, bMax2, bMin2, bInt, bLen, bTuple, bList, bSum, bMax1, bMin1, items2, pZip, evLz, pRev, pRevT, evCallL, allInts_map, allPairs_map, bSorted, pEq_tup0, c, c2, hC, zipT_ints, hL]
        rfl
    · have c2 := decide_eq_false hz
      have eo : ones ns ws = ws := if_neg hz
      rw [eo] at hL e
      rw [e]
      cases q : midO ws.sum 0 (srtB SrtO.lexB (ns.zip ws)) with
      | none =>
        rw [q] at hL
        obtain ⟨ρ', hL⟩ := hL
        simp only [evS, ev, evSeq, seqS_nx, seqS_rt, seqS_ex, evNx, evSet, evIf, evRet, evRetN, evAsg, evDrop, evFor, evApp, evSset, evAug, rX, rB, rA, rI, rP, ev2, ev1, evC, evCh, evAnd, evOr, evNot, evTr, evBl, evOfB, evIte, evTup, evLst, evBi, evCall, evCons, evNil, evVar, evOwn, evSetO, evFrz, frzPs, frzP, unOw, toOw, okW, noOw, evC0, evSl, evPn, evPs, toI, evSeqI, evRng, evIsi, bnd_ok, bnd_ex, ret_some, liftS_ok, B2.fn, B2.fnI, K2.fn, Bi.fn, Tg.fn, evT1, evTm, setAll, pInt, pOrd, pNeg, pAddS, toB, truth_int, truth_bl, pEq_int, pNe_int, Option.map_some, List.getElem?_cons_zero, List.getElem?_cons_succ, List.set_cons_zero, List.set_cons_succ, List.length_cons, List.length_nil, List.length_map, toSeq, isfG, isfB, tagOf, Option.bind_some, fMod_of, fDiv_of2, Int.reduceLT, decide_true, decide_false, Bool.not_true, Bool.not_false, reduceCtorEq, eq_self, Bool.or_false, Bool.false_or, Bool.true_or, Bool.or_true, Bool.and_false, Bool.false_and, Bool.true_and, Bool.and_true, Bool.and_self, Bool.or_self, Int.zero_add, ↓reduceIte, if_true, if_false, bAbs, bMax2, bMin2, bInt, bLen, bTuple, bList, bSum, bMax1, bMin1, items2, pZip, evLz, pRev, pRevT, evCallL, allInts_map, allPairs_map, bSorted] at hL
        simp only [b18, evS, ev, evSeq, seqS_nx, seqS_rt, seqS_ex, evNx, evSet, evIf, evRet, evRetN, evAsg, evDrop, evFor, evApp, evSset, evAug, rX, rB, rA, rI, rP, ev2, ev1, evC, evCh, evAnd, evOr, evNot, evTr, evBl, evOfB, evIte, evTup, evLst, evBi, evCall, evCons, evNil, evVar, evOwn, evSetO, evFrz, frzPs, frzP, unOw, toOw, okW, noOw, evC0, evSl, evPn, evPs, toI, evSeqI, evRng, evIsi, bnd_ok, bnd_ex, ret_some, liftS_ok, B2.fn, B2.fnI, K2.fn, Bi.fn, Tg.fn, evT1, evTm, setAll, pInt, pOrd, pNeg, pAddS, toB, truth_int, truth_bl, pEq_int, pNe_int, Option.map_some, List.getElem?_cons_zero, List.getElem?_cons_succ, List.set_cons_zero, List.set_cons_succ, List.length_cons, List.length_nil, List.length_map, toSeq, isfG, isfB, tagOf, Option.bind_some, fMod_of, fDiv_of2, Int.reduceLT, decide_true, decide_false, Bool.not_true, Bool.not_false, reduceCtorEq, eq_self, Bool.or_false, Bool.false_or, Bool.true_or, Bool.or_true, Bool.and_false, Bool.false_and, Bool.true_and, Bool.and_true, Bool.and_self, Bool.or_self, Int.zero_add, ↓reduceIte, if_true, if_false, bAbs, bMax2, bMin2, bInt, bLen, bTuple, bList, bSum, bMax1, bMin1, items2, pZip, evLz, pRev, pRevT, evCallL, allInts_map, allPairs_map, bSorted, pEq_tup0, c, c2, zipT_ints, hL]
        rfl
      | some n =>
        rw [q] at hL
        simp only [evS, ev, evSeq, seqS_nx, seqS_rt, seqS_ex, evNx, evSet, evIf, evRet, evRetN, evAsg, evDrop, evFor, evApp, evSset, evAug, rX, rB, rA, rI, rP, ev2, ev1, evC, evCh, evAnd, evOr, evNot, evTr, evBl, evOfB, evIte, evTup, evLst, evBi, evCall, evCons, evNil, evVar, evOwn, evSetO, evFrz, frzPs, frzP, unOw, toOw, okW, noOw, evC0, evSl, evPn, evPs, toI, evSeqI, evRng, evIsi, bnd_ok, bnd_ex, ret_some, liftS_ok, B2.fn, B2.fnI, K2.fn, Bi.fn, Tg.fn, evT1, evTm, setAll, pInt, pOrd, pNeg, pAddS, toB, truth_int, truth_bl, pEq_int, pNe_int, Option.map_some, List.getElem?_cons_zero, List.getElem?_cons_succ, List.set_cons_zero, List.set_cons_succ, List.length_cons, List.length_nil, List.length_map, toSeq, isfG, isfB, tagOf, Option.bind_some, fMod_of, fDiv_of2, Int.reduceLT, decide_true, decide_false, Bool.not_true, Bool.not_false, reduceCtorEq, eq_self, Bool.or_false, Bool.false_or, Bool.true_or, Bool.or_true, Bool.and_false, Bool.false_and, Bool.true_and, Bool.and_true, Bool.and_self, Bool.or_self, Int.zero_add, ↓reduceIte, if_true, if_false, bAbs, bMax2, bMin2, bInt, bLen, bTuple, bList, bSum, bMax1, bMin1, items2, pZip, evLz, pRev, pRevT, evCallL, allInts_map, allPairs_map, bSorted] at hL
        simp only [b18, evS, ev, evSeq, seqS_nx, seqS_rt, seqS_ex, evNx, evSet, evIf, evRet, evRetN, evAsg, evDrop, evFor, evApp, evSset, evAug, rX, rB, rA, rI, rP, ev2, ev1, evC, evCh, evAnd, evOr, evNot, evTr, evBl, evOfB, evIte, evTup, evLst, evBi, evCall, evCons, evNil, evVar, evOwn, evSetO, evFrz, frzPs, frzP, unOw, toOw, okW, noOw, evC0, evSl, evPn, evPs, toI, evSeqI, evRng, evIsi, bnd_ok, bnd_ex, ret_some, liftS_ok, B2.fn, B2.fnI, K2.fn, Bi.fn, Tg.fn, evT1, evTm, setAll, pInt, pOrd, pNeg, pAddS, toB, truth_int, truth_bl, pEq_int, pNe_int, Option.map_some, List.getElem?_cons_zero, List.getElem?_cons_succ, List.set_cons_zero, List.set_cons_succ, List.length_cons, List.length_nil, List.length_map, toSeq, isfG, isfB, tagOf, Option.bind_some, fMod_of, fDiv_of2, Int.reduceLT, decide_true, decide_false, Bool.not_true, Bool.not_false, reduceCtorEq, eq_self, Bool.or_false, Bool.false_or, Bool.true_or, Bool.or_true, Bool.and_false, Bool.false_and, Bool.true_and, Bool.and_true, Bool.and_self, Bool.or_self, Int.zero_add, ↓reduceIte, if_true, if_false, bAbs, bMax2, bMin2, bInt, bLen, bTuple, bList, bSum, bMax1, bMin1, items2, pZip, evLz, pRev, pRevT, evCallL, allInts_map, allPairs_map, bSorted, pEq_tup0, c, c2, zipT_ints, hL]
        rfl

end Hw
namespace Hw
open PySem PySem.Spec PyProof.Rows L2
/-- _law_turns(_law_cells_here, _law_many_here, _law_scale); slots 0 _law_cells_here, 1 _law_many_here, 2 _law_scale, 3 _law_cell; calls 29 _law_turn -/
def b30 : Sx :=
  .cons (.ret (.bi .tuple (.cons (.comp (.one 3) [3] (.seq (.var 0)) (.call 29 (.cons (.var 3) (.cons (.var 1) (.cons (.var 2) (.nil)))))) (.nil)))) (.nil)
-- deps: 18 29
theorem map_eq {α β : Type} {f : α → β} {g : α → β} : ∀ {xs : List α}, (∀ x ∈ xs, f x = g x) → xs.map f = xs.map g := fun h => List.map_congr_left h
theorem turns_of (Γ : Gm) (m s : Nat) (O : Oms) (H29 : ∀ (c : Int), ∃ t : Turn, t.1.length = m ∧ Γ 29 [.int c, .int m, .int s] O = some (.ok (trP t) O)) : ∃ g : Int → Turn, ∀ c, (g c).1.length = m ∧ Γ 29 [.int c, .int m, .int s] O = some (.ok (trP (g c)) O) :=
  ⟨fun c => Classical.choose (H29 c), fun c => Classical.choose_spec (H29 c)⟩
theorem sp30 (Γ : Gm) (m s : Nat) (O : Oms) (H29 : ∀ (c : Int), ∃ t : Turn, t.1.length = m ∧ Γ 29 [.int c, .int m, .int s] O = some (.ok (trP t) O)) (cs : List Int) (hl : cs.length ≤ 1000) : ∃ ts : List Turn, evFun (evS Γ b30) 4 [.lst (cs.map PV.int), .int m, .int s] O = some (.ok (.tup (ts.map trP)) O) ∧ ts.length = cs.length ∧ ∀ t ∈ ts, t.1.length = m := by
  obtain ⟨g, hg⟩ := turns_of Γ m s O H29
  have hC : evComp (ev Γ (.seq (.var 0))).i (Tg.one 3).fn evYes (ev Γ (.call 29 (.cons (.var 3) (.cons (.var 1) (.cons (.var 2) (.nil)))))).v [3] [some (.lst (cs.map PV.int)), some (.int m), some (.int s), none] O = some (.ok (.lst ((cs.map PV.int).map fun x => match x with | .int c => trP (g c) | x => x)) O) := evComp_map rfl (by rw [List.length_map]; exact Nat.le_trans hl (by decide)) rfl fun x hx => by
    obtain ⟨c, _, rfl⟩ := List.mem_map.mp hx
    have e := (hg c).2
    refine ⟨[some (.lst (cs.map PV.int)), some (.int m), some (.int s), some (.int c)], rfl, ?_⟩
    simp only [evS, ev, evSeq, seqS_nx, seqS_rt, seqS_ex, evNx, evSet, evIf, evRet, evRetN, evAsg, evDrop, evFor, evApp, evSset, evAug, rX, rB, rA, rI, rP, ev2, ev1, evC, evCh, evAnd, evOr, evNot, evTr, evBl, evOfB, evIte, evTup, evLst, evBi, evCall, evCons, evNil, evVar, evOwn, evSetO, evFrz, frzPs, frzP, unOw, toOw, okW, noOw, evC0, evSl, evPn, evPs, toI, evSeqI, evRng, evIsi, bnd_ok, bnd_ex, ret_some, liftS_ok, B2.fn, B2.fnI, K2.fn, Bi.fn, Tg.fn, evT1, evTm, setAll, pInt, pOrd, pNeg, pAddS, toB, truth_int, truth_bl, pEq_int, pNe_int, Option.map_some, List.getElem?_cons_zero, List.getElem?_cons_succ, List.set_cons_zero, List.set_cons_succ, List.length_cons, List.length_nil, List.length_map, toSeq, isfG, isfB, tagOf, Option.bind_some, fMod_of, fDiv_of2, Int.reduceLT, decide_true, decide_false, Bool.not_true, Bool.not_false, reduceCtorEq, eq_self, Bool.or_false, Bool.false_or, Bool.true_or, Bool.or_true, Bool.and_false, Bool.false_and, Bool.true_and, Bool.and_true, Bool.and_self, Bool.or_self, Int.zero_add, ↓reduceIte, if_true, if_false, bAbs, bMax2, bMin2, bInt, bLen, bTuple, bList, bSum, bMax1, bMin1, items2, pZip, evLz, pRev, pRevT, evCallL, allInts_map, allPairs_map, bSorted, e]
  have e : ((cs.map PV.int).map fun x => match x with | .int c => trP (g c) | x => x) = (cs.map g).map trP := by
    rw [List.map_map, List.map_map]
    rfl
  rw [e] at hC
  refine ⟨cs.map g, evFun_rt (O' := O) (ρ := [some (.lst (cs.map PV.int)), some (.int m), some (.int s), none]) rfl ?_, List.length_map _, fun t ht => by
    obtain ⟨c, _, rfl⟩ := List.mem_map.mp ht
    exact (hg c).1⟩
  simp only [evS, ev, evSeq, seqS_nx, seqS_rt, seqS_ex, evNx, evSet, evIf, evRet, evRetN, evAsg, evDrop, evFor, evApp, evSset, evAug, rX, rB, rA, rI, rP, ev2, ev1, evC, evCh, evAnd, evOr, evNot, evTr, evBl, evOfB, evIte, evTup, evLst, evBi, evCall, evCons, evNil, evVar, evOwn, evSetO, evFrz, frzPs, frzP, unOw, toOw, okW, noOw, evC0, evSl, evPn, evPs, toI, evSeqI, evRng, evIsi, bnd_ok, bnd_ex, ret_some, liftS_ok, B2.fn, B2.fnI, K2.fn, Bi.fn, Tg.fn, evT1, evTm, setAll, pInt, pOrd, pNeg, pAddS, toB, truth_int, truth_bl, pEq_int, pNe_int, Option.map_some, List.getElem?_cons_zero, List.getElem?_cons_succ, List.set_cons_zero, List.set_cons_succ, List.length_cons, List.length_nil, List.length_map, toSeq, isfG, isfB, tagOf, Option.bind_some, fMod_of, fDiv_of2, Int.reduceLT, decide_true, decide_false, Bool.not_true, Bool.not_false, reduceCtorEq, eq_self, Bool.or_false, Bool.false_or, Bool.true_or, Bool.or_true, Bool.and_false, Bool.false_and, Bool.true_and, Bool.and_true, Bool.and_self, Bool.or_self, Int.zero_add, ↓reduceIte, if_true, if_false, bAbs, bMax2, bMin2, bInt, bLen, bTuple, bList, bSum, bMax1, bMin1, items2, pZip, evLz, pRev, pRevT, evCallL, allInts_map, allPairs_map, bSorted] at hC
  simp only [b30, evS, ev, evSeq, seqS_nx, seqS_rt, seqS_ex, evNx, evSet, evIf, evRet, evRetN, evAsg, evDrop, evFor, evApp, evSset, evAug, rX, rB, rA, rI, rP, ev2, ev1, evC, evCh, evAnd, evOr, evNot, evTr, evBl, evOfB, evIte, evTup, evLst, evBi, evCall, evCons, evNil, evVar, evOwn, evSetO, evFrz, frzPs, frzP, unOw, toOw, okW, noOw, evC0, evSl, evPn, evPs, toI, evSeqI, evRng, evIsi, bnd_ok, bnd_ex, ret_some, liftS_ok, B2.fn, B2.fnI, K2.fn, Bi.fn, Tg.fn, evT1, evTm, setAll, pInt, pOrd, pNeg, pAddS, toB, truth_int, truth_bl, pEq_int, pNe_int, Option.map_some, List.getElem?_cons_zero, List.getElem?_cons_succ, List.set_cons_zero, List.set_cons_succ, List.length_cons, List.length_nil, List.length_map, toSeq, isfG, isfB, tagOf, Option.bind_some, fMod_of, fDiv_of2, Int.reduceLT, decide_true, decide_false, Bool.not_true, Bool.not_false, reduceCtorEq, eq_self, Bool.or_false, Bool.false_or, Bool.true_or, Bool.or_true, Bool.and_false, Bool.false_and, Bool.true_and, Bool.and_true, Bool.and_self, Bool.or_self, Int.zero_add, ↓reduceIte, if_true, if_false, bAbs, bMax2, bMin2, bInt, bLen, bTuple, bList, bSum, bMax1, bMin1, items2, pZip, evLz, pRev, pRevT, evCallL, allInts_map, allPairs_map, bSorted, hC]

end Hw
namespace Hw
open PySem PySem.Spec PyProof.Rows L2
/-- charge(what, so); slots 0 what, 1 so; calls  -/
def b31 : Sx :=
  .cons (.ifs (.cmp .is (.var 0) (.non)) (.cons (.ret (.int 0)) (.nil)) (.nil)) (.cons (.ret (.bi .abs (.cons (.op .sub (.var 0) (.var 1)) (.nil)))) (.nil))
-- deps: 29
def chg (w : Option Int) (so : Int) : Int := match w with
  | none => 0
  | some w => if w - so < 0 then -(w - so) else w - so
theorem isN_non : pIs .non .non = some true := rfl
theorem sp31 (Γ : Gm) (w : Option Int) (so : Int) (O : Oms) : evFun (evS Γ b31) 2 [oP w, .int so] O = some (.ok (.int (chg w so)) O) := by
  refine evFun_rt (O' := O) (ρ := [some (oP w), some (.int so)]) rfl ?_
  cases w with
  | none =>
    have e : pIs .non .non = some true := rfl
    simp only [b31, evS, ev, evSeq, seqS_nx, seqS_rt, seqS_ex, evNx, evSet, evIf, evRet, evRetN, evAsg, evDrop, evFor, evApp, evSset, evAug, rX, rB, rA, rI, rP, ev2, ev1, evC, evCh, evAnd, evOr, evNot, evTr, evBl, evOfB, evIte, evTup, evLst, evBi, evCall, evCons, evNil, evVar, evOwn, evSetO, evFrz, frzPs, frzP, unOw, toOw, okW, noOw, evC0, evSl, evPn, evPs, toI, evSeqI, evRng, evIsi, bnd_ok, bnd_ex, ret_some, liftS_ok, B2.fn, B2.fnI, K2.fn, Bi.fn, Tg.fn, evT1, evTm, setAll, pInt, pOrd, pNeg, pAddS, toB, truth_int, truth_bl, pEq_int, pNe_int, Option.map_some, List.getElem?_cons_zero, List.getElem?_cons_succ, List.set_cons_zero, List.set_cons_succ, List.length_cons, List.length_nil, List.length_map, toSeq, isfG, isfB, tagOf, Option.bind_some, fMod_of, fDiv_of2, Int.reduceLT, decide_true, decide_false, Bool.not_true, Bool.not_false, reduceCtorEq, eq_self, Bool.or_false, Bool.false_or, Bool.true_or, Bool.or_true, Bool.and_false, Bool.false_and, Bool.true_and, Bool.and_true, Bool.and_self, Bool.or_self, Int.zero_add, ↓reduceIte, if_true, if_false, bAbs, bMax2, bMin2, bInt, bLen, bTuple, bList, bSum, bMax1, bMin1, items2, pZip, evLz, pRev, pRevT, evCallL, allInts_map, allPairs_map, bSorted, oP, e, chg]
  | some w =>
    have e : pIs (.int w) .non = some false := rfl
    simp only [b31, evS, ev, evSeq, seqS_nx, seqS_rt, seqS_ex, evNx, evSet, evIf, evRet, evRetN, evAsg, evDrop, evFor, evApp, evSset, evAug, rX, rB, rA, rI, rP, ev2, ev1, evC, evCh, evAnd, evOr, evNot, evTr, evBl, evOfB, evIte, evTup, evLst, evBi, evCall, evCons, evNil, evVar, evOwn, evSetO, evFrz, frzPs, frzP, unOw, toOw, okW, noOw, evC0, evSl, evPn, evPs, toI, evSeqI, evRng, evIsi, bnd_ok, bnd_ex, ret_some, liftS_ok, B2.fn, B2.fnI, K2.fn, Bi.fn, Tg.fn, evT1, evTm, setAll, pInt, pOrd, pNeg, pAddS, toB, truth_int, truth_bl, pEq_int, pNe_int, Option.map_some, List.getElem?_cons_zero, List.getElem?_cons_succ, List.set_cons_zero, List.set_cons_succ, List.length_cons, List.length_nil, List.length_map, toSeq, isfG, isfB, tagOf, Option.bind_some, fMod_of, fDiv_of2, Int.reduceLT, decide_true, decide_false, Bool.not_true, Bool.not_false, reduceCtorEq, eq_self, Bool.or_false, Bool.false_or, Bool.true_or, Bool.or_true, Bool.and_false, Bool.false_and, Bool.true_and, Bool.and_true, Bool.and_self, Bool.or_self, Int.zero_add, ↓reduceIte, if_true, if_false, bAbs, bMax2, bMin2, bInt, bLen, bTuple, bList, bSum, bMax1, bMin1, items2, pZip, evLz, pRev, pRevT, evCallL, allInts_map, allPairs_map, bSorted, oP, e, chg]

end Hw
namespace Hw
open PySem PySem.Spec PyProof.Rows L2
/-- charges(many, turns); slots 0 many, 1 turns, 2 found, 3 said, 4 so, 5 k, 6 old, 7 what; calls 31 charge -/
def b32 : Sx :=
  .cons (.set 2 (.comp (.one 5) [5] (.rng1 (.cons (.var 0) (.nil))) (.int 0))) (.cons (.forS (.many [3, 4]) (.seq (.var 1)) (.cons (.set 2 (.comp (.many [6, 7]) [6, 7] (.zip (.cons (.var 2) (.cons (.var 3) (.nil)))) (.op .add (.var 6) (.call 31 (.cons (.var 7) (.cons (.var 4) (.nil))))))) (.nil))) (.cons (.ret (.bi .tuple (.cons (.var 2) (.nil)))) (.nil)))
-- deps: 18 29 31
def stepT (f : Option Int → Int → Int) (fs : List Int) (t : Turn) : List Int := (fs.zip t.1).map fun p => p.1 + f p.2 t.2
theorem stepT_len {f : Option Int → Int → Int} {fs : List Int} {t : Turn} (h : fs.length = t.1.length) : (stepT f fs t).length = fs.length := by
  unfold stepT
  rw [List.length_map, List.length_zip]
  omega
theorem zip_oP (fs : List Int) (os : List (Option Int)) : zipT (fs.map PV.int) (os.map oP) = (fs.zip os).map fun p => .tup [.int p.1, oP p.2] := by
  unfold zipT
  rw [List.zip_map, List.map_map]
  rfl
def bothP (p : Int × Option Int) : PV := .tup [.int p.1, oP p.2]
def unB (f : Option Int → Int → Int) (so : Int) : PV → PV
  | .tup [.int a, .non] => .int (a + f none so)
  | .tup [.int a, .int b] => .int (a + f (some b) so)
  | x => x
theorem unB_both (f : Option Int → Int → Int) (so : Int) (p : Int × Option Int) : unB f so (bothP p) = .int (p.1 + f p.2 so) := by
  obtain ⟨a, b⟩ := p
  cases b <;> rfl
theorem ch_loop (Γ : Gm) (A B : Option PV) (O : Oms) (H31 : ∀ (w : Option Int) (so : Int), Γ 31 [oP w, .int so] O = some (.ok (.int (chg w so)) O)) : ∀ (ts : List Turn) (fs : List Int) (y3 y4 : Option PV), fs.length ≤ 1000 → (∀ t ∈ ts, fs.length = t.1.length) → ∃ y3' y4',
    loopS (evTm [3, 4]) (evS Γ (.cons (.set 2 (.comp (.many [6, 7]) [6, 7] (.zip (.cons (.var 2) (.cons (.var 3) (.nil)))) (.op .add (.var 6) (.call 31 (.cons (.var 7) (.cons (.var 4) (.nil))))))) (.nil))) (ts.map trP) [A, B, some (.lst (fs.map PV.int)), y3, y4, none, none, none] O = some (.nx [A, B, some (.lst ((ts.foldl (stepT chg) fs).map PV.int)), y3', y4', none, none, none] O)
  | [], fs, y3, y4, _, _ => ⟨y3, y4, rfl⟩
  | t :: ts, fs, y3, y4, hk, hl => by
    have hl0 := hl t List.mem_cons_self
    obtain ⟨z3, z4, ih⟩ := ch_loop Γ A B O H31 ts (stepT chg fs t) (some (.tup (t.1.map oP))) (some (.int t.2)) (by rw [stepT_len hl0]; exact hk) fun u hu => by rw [stepT_len hl0]; exact hl u (List.mem_cons_of_mem _ hu)
    refine ⟨z3, z4, ?_⟩
    rw [List.foldl_cons, ← ih, List.map_cons]
    refine loopS_step (ρ1 := [A, B, some (.lst (fs.map PV.int)), some (.tup (t.1.map oP)), some (.int t.2), none, none, none]) rfl ?_
    have aI : ∀ x y : Int, pAdd (.int x) (.int y) = some (.int (x + y)) := fun x y => rfl
    have hz : zipT (fs.map PV.int) (t.1.map oP) = (fs.zip t.1).map bothP := zip_oP fs t.1
    have hC : evComp (ev Γ (.zip (.cons (.var 2) (.cons (.var 3) (.nil))))).i (Tg.many [6, 7]).fn evYes (ev Γ (.op .add (.var 6) (.call 31 (.cons (.var 7) (.cons (.var 4) (.nil)))))).v [6, 7] [A, B, some (.lst (fs.map PV.int)), some (.tup (t.1.map oP)), some (.int t.2), none, none, none] O = some (.ok (.lst (((fs.zip t.1).map bothP).map (unB chg t.2))) O) := evComp_map (by simp only [evS, ev, evSeq, seqS_nx, seqS_rt, seqS_ex, evNx, evSet, evIf, evRet, evRetN, evAsg, evDrop, evFor, evApp, evSset, evAug, rX, rB, rA, rI, rP, ev2, ev1, evC, evCh, evAnd, evOr, evNot, evTr, evBl, evOfB, evIte, evTup, evLst, evBi, evCall, evCons, evNil, evVar, evOwn, evSetO, evFrz, frzPs, frzP, unOw, toOw, okW, noOw, evC0, evSl, evPn, evPs, toI, evSeqI, evRng, evIsi, bnd_ok, bnd_ex, ret_some, liftS_ok, B2.fn, B2.fnI, K2.fn, Bi.fn, Tg.fn, evT1, evTm, setAll, pInt, pOrd, pNeg, pAddS, toB, truth_int, truth_bl, pEq_int, pNe_int, Option.map_some, List.getElem?_cons_zero, List.getElem?_cons_succ, List.set_cons_zero, List.set_cons_succ, List.length_cons, List.length_nil, List.length_map, toSeq, isfG, isfB, tagOf, Option.bind_some, fMod_of, fDiv_of2, Int.reduceLT, decide_true, decide_false, Bool.not_true, Bool.not_false, reduceCtorEq, eq_self, Bool.or_false, Bool.false_or, Bool.true_or, Bool.or_true, Bool.and_false, Bool.false_and, Bool.true_and, Bool.and_true, Bool.and_self, Bool.or_self, Int.zero_add, ↓reduceIte, if_true, if_false, bAbs, bMax2, bMin2, bInt, bLen, bTuple, bList, bSum, bMax1, bMin1, items2, pZip, evLz, pRev, pRevT, evCallL, allInts_map, allPairs_map, bSorted, hz]) (by rw [List.length_map, List.length_zip]; exact Nat.le_trans (Nat.min_le_left _ _) (Nat.le_trans hk (by decide))) rfl fun x hx => by
      obtain ⟨p, _, rfl⟩ := List.mem_map.mp hx
      refine ⟨[A, B, some (.lst (fs.map PV.int)), some (.tup (t.1.map oP)), some (.int t.2), none, some (.int p.1), some (oP p.2)], rfl, ?_⟩
      rw [unB_both]
      obtain ⟨a, b⟩ := p
      have e := H31 b t.2
      cases b with
      | none =>
        have e : Γ 31 [.non, .int t.2] O = _ := e
        simp only [evS, ev, evSeq, seqS_nx, seqS_rt, seqS_ex, evNx, evSet, evIf, evRet, evRetN, evAsg, evDrop, evFor, evApp, evSset, evAug, rX, rB, rA, rI, rP, ev2, ev1, evC, evCh, evAnd, evOr, evNot, evTr, evBl, evOfB, evIte, evTup, evLst, evBi, evCall, evCons, evNil, evVar, evOwn, evSetO, evFrz, frzPs, frzP, unOw, toOw, okW, noOw, evC0, evSl, evPn, evPs, toI, evSeqI, evRng, evIsi, bnd_ok, bnd_ex, ret_some, liftS_ok, B2.fn, B2.fnI, K2.fn, Bi.fn, Tg.fn, evT1, evTm, setAll, pInt, pOrd, pNeg, pAddS, toB, truth_int, truth_bl, pEq_int, pNe_int, Option.map_some, List.getElem?_cons_zero, List.getElem?_cons_succ, List.set_cons_zero, List.set_cons_succ, List.length_cons, List.length_nil, List.length_map, toSeq, isfG, isfB, tagOf, Option.bind_some, fMod_of, fDiv_of2, Int.reduceLT, decide_true, decide_false, Bool.not_true, Bool.not_false, reduceCtorEq, eq_self, Bool.or_false, Bool.false_or, Bool.true_or, Bool.or_true, Bool.and_false, Bool.false_and, Bool.true_and, Bool.and_true, Bool.and_self, Bool.or_self, Int.zero_add, ↓reduceIte, if_true, if_false, bAbs, bMax2, bMin2, bInt, bLen, bTuple, bList, bSum, bMax1, bMin1, items2, pZip, evLz, pRev, pRevT, evCallL, allInts_map, allPairs_map, bSorted, oP, e, aI]
      | some b =>
        have e : Γ 31 [.int b, .int t.2] O = _ := e
        simp only [evS, ev, evSeq, seqS_nx, seqS_rt, seqS_ex, evNx, evSet, evIf, evRet, evRetN, evAsg, evDrop, evFor, evApp, evSset, evAug, rX, rB, rA, rI, rP, ev2, ev1, evC, evCh, evAnd, evOr, evNot, evTr, evBl, evOfB, evIte, evTup, evLst, evBi, evCall, evCons, evNil, evVar, evOwn, evSetO, evFrz, frzPs, frzP, unOw, toOw, okW, noOw, evC0, evSl, evPn, evPs, toI, evSeqI, evRng, evIsi, bnd_ok, bnd_ex, ret_some, liftS_ok, B2.fn, B2.fnI, K2.fn, Bi.fn, Tg.fn, evT1, evTm, setAll, pInt, pOrd, pNeg, pAddS, toB, truth_int, truth_bl, pEq_int, pNe_int, Option.map_some, List.getElem?_cons_zero, List.getElem?_cons_succ, List.set_cons_zero, List.set_cons_succ, List.length_cons, List.length_nil, List.length_map, toSeq, isfG, isfB, tagOf, Option.bind_some, fMod_of, fDiv_of2, Int.reduceLT, decide_true, decide_false, Bool.not_true, Bool.not_false, reduceCtorEq, eq_self, Bool.or_false, Bool.false_or, Bool.true_or, Bool.or_true, Bool.and_false, Bool.false_and, Bool.true_and, Bool.and_true, Bool.and_self, Bool.or_self, Int.zero_add, ↓reduceIte, if_true, if_false, bAbs, bMax2, bMin2, bInt, bLen, bTuple, bList, bSum, bMax1, bMin1, items2, pZip, evLz, pRev, pRevT, evCallL, allInts_map, allPairs_map, bSorted, oP, e, aI]
    have eC : ((fs.zip t.1).map bothP).map (unB chg t.2) = (stepT chg fs t).map PV.int := by
      unfold stepT
      rw [List.map_map, List.map_map]
      exact List.map_congr_left fun p _ => unB_both chg t.2 p
    rw [eC] at hC
    simp only [evS, ev, evSeq, seqS_nx, seqS_rt, seqS_ex, evNx, evSet, evIf, evRet, evRetN, evAsg, evDrop, evFor, evApp, evSset, evAug, rX, rB, rA, rI, rP, ev2, ev1, evC, evCh, evAnd, evOr, evNot, evTr, evBl, evOfB, evIte, evTup, evLst, evBi, evCall, evCons, evNil, evVar, evOwn, evSetO, evFrz, frzPs, frzP, unOw, toOw, okW, noOw, evC0, evSl, evPn, evPs, toI, evSeqI, evRng, evIsi, bnd_ok, bnd_ex, ret_some, liftS_ok, B2.fn, B2.fnI, K2.fn, Bi.fn, Tg.fn, evT1, evTm, setAll, pInt, pOrd, pNeg, pAddS, toB, truth_int, truth_bl, pEq_int, pNe_int, Option.map_some, List.getElem?_cons_zero, List.getElem?_cons_succ, List.set_cons_zero, List.set_cons_succ, List.length_cons, List.length_nil, List.length_map, toSeq, isfG, isfB, tagOf, Option.bind_some, fMod_of, fDiv_of2, Int.reduceLT, decide_true, decide_false, Bool.not_true, Bool.not_false, reduceCtorEq, eq_self, Bool.or_false, Bool.false_or, Bool.true_or, Bool.or_true, Bool.and_false, Bool.false_and, Bool.true_and, Bool.and_true, Bool.and_self, Bool.or_self, Int.zero_add, ↓reduceIte, if_true, if_false, bAbs, bMax2, bMin2, bInt, bLen, bTuple, bList, bSum, bMax1, bMin1, items2, pZip, evLz, pRev, pRevT, evCallL, allInts_map, allPairs_map, bSorted] at hC
    simp only [evS, ev, evSeq, seqS_nx, seqS_rt, seqS_ex, evNx, evSet, evIf, evRet, evRetN, evAsg, evDrop, evFor, evApp, evSset, evAug, rX, rB, rA, rI, rP, ev2, ev1, evC, evCh, evAnd, evOr, evNot, evTr, evBl, evOfB, evIte, evTup, evLst, evBi, evCall, evCons, evNil, evVar, evOwn, evSetO, evFrz, frzPs, frzP, unOw, toOw, okW, noOw, evC0, evSl, evPn, evPs, toI, evSeqI, evRng, evIsi, bnd_ok, bnd_ex, ret_some, liftS_ok, B2.fn, B2.fnI, K2.fn, Bi.fn, Tg.fn, evT1, evTm, setAll, pInt, pOrd, pNeg, pAddS, toB, truth_int, truth_bl, pEq_int, pNe_int, Option.map_some, List.getElem?_cons_zero, List.getElem?_cons_succ, List.set_cons_zero, List.set_cons_succ, List.length_cons, List.length_nil, List.length_map, toSeq, isfG, isfB, tagOf, Option.bind_some, fMod_of, fDiv_of2, Int.reduceLT, decide_true, decide_false, Bool.not_true, Bool.not_false, reduceCtorEq, eq_self, Bool.or_false, Bool.false_or, Bool.true_or, Bool.or_true, Bool.and_false, Bool.false_and, Bool.true_and, Bool.and_true, Bool.and_self, Bool.or_self, Int.zero_add, ↓reduceIte, if_true, if_false, bAbs, bMax2, bMin2, bInt, bLen, bTuple, bList, bSum, bMax1, bMin1, items2, pZip, evLz, pRev, pRevT, evCallL, allInts_map, allPairs_map, bSorted, hC]
theorem zeros (m : Nat) : (rangeL 0 m).map (fun _ => PV.int 0) = (List.replicate m (0 : Int)).map PV.int := by
  rw [List.map_replicate]
  refine List.ext_getElem? fun i => ?_
  rw [List.getElem?_map, List.getElem?_replicate]
  by_cases h : i < m
  · rw [if_pos h, List.getElem?_eq_getElem (by rw [rangeL_len]; exact h)]
    rfl
  · rw [if_neg h, List.getElem?_eq_none (by rw [rangeL_len]; omega)]
    rfl
theorem zeros_comp (m : Nat) (hm : m ≤ 1000) (A : Option PV) (O : Oms) : evComp (evRng toR1 (evCons (evVar 0) evNil)) (evT1 5) evYes (evC0 (.int 0)) [5] [some (.int m), A, none, none, none, none, none, none] O = some (.ok (.lst ((List.replicate m (0 : Int)).map PV.int)) O) := by
  have hr : toR1 [.int (m : Int)] = some (rangeL 0 m) := by
    rw [toR1_of ⟨by omega, by omega⟩]
    rfl
  have := evComp_map (h := evRng toR1 (evCons (evVar 0) evNil)) (g := evT1 5) (f := evC0 (.int 0)) (vs := [5]) (ρ := [some (.int m), A, none, none, none, none, none, none]) (O := O) (xs := rangeL 0 m) (F := fun _ => PV.int 0) (by simp only [evS, ev, evSeq, seqS_nx, seqS_rt, seqS_ex, evNx, evSet, evIf, evRet, evRetN, evAsg, evDrop, evFor, evApp, evSset, evAug, rX, rB, rA, rI, rP, ev2, ev1, evC, evCh, evAnd, evOr, evNot, evTr, evBl, evOfB, evIte, evTup, evLst, evBi, evCall, evCons, evNil, evVar, evOwn, evSetO, evFrz, frzPs, frzP, unOw, toOw, okW, noOw, evC0, evSl, evPn, evPs, toI, evSeqI, evRng, evIsi, bnd_ok, bnd_ex, ret_some, liftS_ok, B2.fn, B2.fnI, K2.fn, Bi.fn, Tg.fn, evT1, evTm, setAll, pInt, pOrd, pNeg, pAddS, toB, truth_int, truth_bl, pEq_int, pNe_int, Option.map_some, List.getElem?_cons_zero, List.getElem?_cons_succ, List.set_cons_zero, List.set_cons_succ, List.length_cons, List.length_nil, List.length_map, toSeq, isfG, isfB, tagOf, Option.bind_some, fMod_of, fDiv_of2, Int.reduceLT, decide_true, decide_false, Bool.not_true, Bool.not_false, reduceCtorEq, eq_self, Bool.or_false, Bool.false_or, Bool.true_or, Bool.or_true, Bool.and_false, Bool.false_and, Bool.true_and, Bool.and_true, Bool.and_self, Bool.or_self, Int.zero_add, ↓reduceIte, if_true, if_false, bAbs, bMax2, bMin2, bInt, bLen, bTuple, bList, bSum, bMax1, bMin1, items2, pZip, evLz, pRev, pRevT, evCallL, allInts_map, allPairs_map, bSorted, hr]) (by rw [rangeL_len]; exact Nat.le_trans hm (by decide)) rfl fun x _ => ⟨_, rfl, rfl⟩
  rw [zeros] at this
  exact this
theorem sp32 (Γ : Gm) (H31 : ∀ (w : Option Int) (so : Int) O, Γ 31 [oP w, .int so] O = some (.ok (.int (chg w so)) O)) (m : Nat) (hm : m ≤ 1000) (ts : List Turn) (hl : ∀ t ∈ ts, t.1.length = m) (O : Oms) : evFun (evS Γ b32) 8 [.int m, .tup (ts.map trP)] O = some (.ok (.tup ((ts.foldl (stepT chg) (List.replicate m 0)).map PV.int)) O) := by
  refine evFun_rt (O' := O) (ρ := [some (.int m), some (.tup (ts.map trP)), none, none, none, none, none, none]) rfl ?_
  have hZ := zeros_comp m hm (some (.tup (ts.map trP))) O
  obtain ⟨y3, y4, hL⟩ := ch_loop Γ (some (.int m)) (some (.tup (ts.map trP))) O (fun w so => H31 w so O) ts (List.replicate m 0) none none (by rw [List.length_replicate]; exact hm) fun t ht => by rw [List.length_replicate, hl t ht]
  simp only [evS, ev, evSeq, seqS_nx, seqS_rt, seqS_ex, evNx, evSet, evIf, evRet, evRetN, evAsg, evDrop, evFor, evApp, evSset, evAug, rX, rB, rA, rI, rP, ev2, ev1, evC, evCh, evAnd, evOr, evNot, evTr, evBl, evOfB, evIte, evTup, evLst, evBi, evCall, evCons, evNil, evVar, evOwn, evSetO, evFrz, frzPs, frzP, unOw, toOw, okW, noOw, evC0, evSl, evPn, evPs, toI, evSeqI, evRng, evIsi, bnd_ok, bnd_ex, ret_some, liftS_ok, B2.fn, B2.fnI, K2.fn, Bi.fn, Tg.fn, evT1, evTm, setAll, pInt, pOrd, pNeg, pAddS, toB, truth_int, truth_bl, pEq_int, pNe_int, Option.map_some, List.getElem?_cons_zero, List.getElem?_cons_succ, List.set_cons_zero, List.set_cons_succ, List.length_cons, List.length_nil, List.length_map, toSeq, isfG, isfB, tagOf, Option.bind_some, fMod_of, fDiv_of2, Int.reduceLT, decide_true, decide_false, Bool.not_true, Bool.not_false, reduceCtorEq, eq_self, Bool.or_false, Bool.false_or, Bool.true_or, Bool.or_true, Bool.and_false, Bool.false_and, Bool.true_and, Bool.and_true, Bool.and_self, Bool.or_self, Int.zero_add, ↓reduceIte, if_true, if_false, bAbs, bMax2, bMin2, bInt, bLen, bTuple, bList, bSum, bMax1, bMin1, items2, pZip, evLz, pRev, pRevT, evCallL, allInts_map, allPairs_map, bSorted] at hL
  simp only [b32, evS, ev, evSeq, seqS_nx, seqS_rt, seqS_ex, evNx, evSet, evIf, evRet, evRetN, evAsg, evDrop, evFor, evApp, evSset, evAug, rX, rB, rA, rI, rP, ev2, ev1, evC, evCh, evAnd, evOr, evNot, evTr, evBl, evOfB, evIte, evTup, evLst, evBi, evCall, evCons, evNil, evVar, evOwn, evSetO, evFrz, frzPs, frzP, unOw, toOw, okW, noOw, evC0, evSl, evPn, evPs, toI, evSeqI, evRng, evIsi, bnd_ok, bnd_ex, ret_some, liftS_ok, B2.fn, B2.fnI, K2.fn, Bi.fn, Tg.fn, evT1, evTm, setAll, pInt, pOrd, pNeg, pAddS, toB, truth_int, truth_bl, pEq_int, pNe_int, Option.map_some, List.getElem?_cons_zero, List.getElem?_cons_succ, List.set_cons_zero, List.set_cons_succ, List.length_cons, List.length_nil, List.length_map, toSeq, isfG, isfB, tagOf, Option.bind_some, fMod_of, fDiv_of2, Int.reduceLT, decide_true, decide_false, Bool.not_true, Bool.not_false, reduceCtorEq, eq_self, Bool.or_false, Bool.false_or, Bool.true_or, Bool.or_true, Bool.and_false, Bool.false_and, Bool.true_and, Bool.and_true, Bool.and_self, Bool.or_self, Int.zero_add, ↓reduceIte, if_true, if_false, bAbs, bMax2, bMin2, bInt, bLen, bTuple, bList, bSum, bMax1, bMin1, items2, pZip, evLz, pRev, pRevT, evCallL, allInts_map, allPairs_map, bSorted, hZ, hL]

end Hw
namespace Hw
open PySem PySem.Spec PyProof.Rows L2
/-- _law_cells(_law_script, _law_first); slots 0 _law_script, 1 _law_first, 2 _law_cell; calls 16 _law_cell_at, 28 _law_stream -/
def b33 : Sx :=
  .cons (.set 2 (.call 16 (.cons (.var 0) (.cons (.int 1) (.nil))))) (.cons (.ifs (.cmp .eq (.op .mod (.op .div (.var 2) (.int 20)) (.int 8)) (.int 5)) (.cons (.ret (.call 28 (.cons (.op .div (.var 2) (.int 160)) (.cons (.int 60) (.nil))))) (.nil)) (.nil)) (.cons (.ret (.sl (.var 0) (.var 1) (.op .add (.var 1) (.int 60)))) (.nil)))
theorem sp33 (Γ : Gm) (H16 : ∀ (ns : List Int) (k : Nat) O, Γ 16 [.lst (ns.map PV.int), .int k] O = some (.ok (.int (ns.getD k 0)) O)) (H28 : ∀ (c : Int) (m : Nat) O, m ≤ 1000 → ∃ js : List Int, js.length = m ∧ Γ 28 [.int c, .int m] O = some (.ok (.lst (js.map PV.int)) O)) (ss : List Int) (hl : ss.length ≤ 63) (O : Oms) : ∃ cs : List Int, evFun (evS Γ b33) 3 [.lst (ss.map PV.int), .int 2] O = some (.ok (.lst (cs.map PV.int)) O) ∧ cs.length ≤ 63 := by
  have h1 : Γ 16 [.lst (ss.map PV.int), .int 1] O = some (.ok (.int (ss.getD 1 0)) O) := H16 ss 1 O
  revert h1
  generalize ss.getD 1 0 = x
  intro h1
  obtain ⟨js, lj, e⟩ := H28 (x / 160) 60 O (by decide)
  have e : Γ 28 [.int (x / 160), .int 60] O = some (.ok (.lst (js.map PV.int)) O) := e
  have a1 : pAdd (.int 2) (.int 60) = some (.int 62) := rfl
  have hsl : pSl (.lst (ss.map PV.int)) (some 2) (some 62) = some (.lst ((cutG ss (some 2) (some 62)).map PV.int)) := by rw [pSl_lst, cutG_map]
  by_cases h : x / 20 % 8 = 5
  · have c := decide_eq_true h
    refine ⟨js, evFun_rt (O' := O) (ρ := [some (.lst (ss.map PV.int)), some (.int 2), none]) rfl ?_, by omega⟩
    simp only [b33, evS, ev, evSeq, seqS_nx, seqS_rt, seqS_ex, evNx, evSet, evIf, evRet, evRetN, evAsg, evDrop, evFor, evApp, evSset, evAug, rX, rB, rA, rI, rP, ev2, ev1, evC, evCh, evAnd, evOr, evNot, evTr, evBl, evOfB, evIte, evTup, evLst, evBi, evCall, evCons, evNil, evVar, evOwn, evSetO, evFrz, frzPs, frzP, unOw, toOw, okW, noOw, evC0, evSl, evPn, evPs, toI, evSeqI, evRng, evIsi, bnd_ok, bnd_ex, ret_some, liftS_ok, B2.fn, B2.fnI, K2.fn, Bi.fn, Tg.fn, evT1, evTm, setAll, pInt, pOrd, pNeg, pAddS, toB, truth_int, truth_bl, pEq_int, pNe_int, Option.map_some, List.getElem?_cons_zero, List.getElem?_cons_succ, List.set_cons_zero, List.set_cons_succ, List.length_cons, List.length_nil, List.length_map, toSeq, isfG, isfB, tagOf, Option.bind_some, fMod_of, fDiv_of2, Int.reduceLT, decide_true, decide_false, Bool.not_true, Bool.not_false, reduceCtorEq, eq_self, Bool.or_false, Bool.false_or, Bool.true_or, Bool.or_true, Bool.and_false, Bool.false_and, Bool.true_and, Bool.and_true, Bool.and_self, Bool.or_self, Int.zero_add, ↓reduceIte, if_true, if_false, bAbs, bMax2, bMin2, bInt, bLen, bTuple, bList, bSum, bMax1, bMin1, items2, pZip, evLz, pRev, pRevT, evCallL, allInts_map, allPairs_map, bSorted, h1, c, e]
  · have c := decide_eq_false h
    refine ⟨cutG ss (some 2) (some 62), evFun_rt (O' := O) (ρ := [some (.lst (ss.map PV.int)), some (.int 2), none]) rfl ?_, Nat.le_trans (cutG_len _ _ _) hl⟩
    simp only [b33, evS, ev, evSeq, seqS_nx, seqS_rt, seqS_ex, evNx, evSet, evIf, evRet, evRetN, evAsg, evDrop, evFor, evApp, evSset, evAug, rX, rB, rA, rI, rP, ev2, ev1, evC, evCh, evAnd, evOr, evNot, evTr, evBl, evOfB, evIte, evTup, evLst, evBi, evCall, evCons, evNil, evVar, evOwn, evSetO, evFrz, frzPs, frzP, unOw, toOw, okW, noOw, evC0, evSl, evPn, evPs, toI, evSeqI, evRng, evIsi, bnd_ok, bnd_ex, ret_some, liftS_ok, B2.fn, B2.fnI, K2.fn, Bi.fn, Tg.fn, evT1, evTm, setAll, pInt, pOrd, pNeg, pAddS, toB, truth_int, truth_bl, pEq_int, pNe_int, Option.map_some, List.getElem?_cons_zero, List.getElem?_cons_succ, List.set_cons_zero, List.set_cons_succ, List.length_cons, List.length_nil, List.length_map, toSeq, isfG, isfB, tagOf, Option.bind_some, fMod_of, fDiv_of2, Int.reduceLT, decide_true, decide_false, Bool.not_true, Bool.not_false, reduceCtorEq, eq_self, Bool.or_false, Bool.false_or, Bool.true_or, Bool.or_true, Bool.and_false, Bool.false_and, Bool.true_and, Bool.and_true, Bool.and_self, Bool.or_self, Int.zero_add, ↓reduceIte, if_true, if_false, bAbs, bMax2, bMin2, bInt, bLen, bTuple, bList, bSum, bMax1, bMin1, items2, pZip, evLz, pRev, pRevT, evCallL, allInts_map, allPairs_map, bSorted, h1, c, a1, hsl]

end Hw
namespace Hw
open PySem PySem.Spec PyProof.Rows L2
/-- _law_right(_law_found, _law_due); slots 0 _law_found, 1 _law_due, 2 _law_one, 3 _law_other; calls  -/
def b34 : Sx :=
  .cons (.ifs (.or (.not (.isi 3 (.var 0))) (.one (.cmp .ne (.bi .len (.cons (.var 0) (.nil))) (.bi .len (.cons (.var 1) (.nil)))))) (.cons (.ret (.bl false)) (.nil)) (.nil)) (.cons (.forS (.many [2, 3]) (.zip (.cons (.var 0) (.cons (.var 1) (.nil)))) (.cons (.ifs (.or (.not (.isi 0 (.var 2))) (.or (.isi 1 (.var 2)) (.one (.cmp .ne (.var 2) (.var 3))))) (.cons (.ret (.bl false)) (.nil)) (.nil)) (.nil))) (.cons (.ret (.bl true)) (.nil)))
theorem right_go (Γ : Gm) (A B : Option PV) (O : Oms) : ∀ (ns : List Int) (y2 y3 : Option PV), ∃ y2' y3',
    loopS (evTm [2, 3]) (evS Γ (.cons (.ifs (.or (.not (.isi 0 (.var 2))) (.or (.isi 1 (.var 2)) (.one (.cmp .ne (.var 2) (.var 3))))) (.cons (.ret (.bl false)) (.nil)) (.nil)) (.nil))) ((ns.zip ns).map prP) [A, B, y2, y3] O = some (.nx [A, B, y2', y3'] O)
  | [], y2, y3 => ⟨y2, y3, rfl⟩
  | n :: ns, y2, y3 => by
    obtain ⟨z2, z3, ih⟩ := right_go Γ A B O ns (some (.int n)) (some (.int n))
    refine ⟨z2, z3, ?_⟩
    rw [← ih, List.zip_cons_cons, List.map_cons]
    refine loopS_step (ρ1 := [A, B, some (.int n), some (.int n)]) rfl ?_
    simp only [evS, ev, evSeq, seqS_nx, seqS_rt, seqS_ex, evNx, evSet, evIf, evRet, evRetN, evAsg, evDrop, evFor, evApp, evSset, evAug, rX, rB, rA, rI, rP, ev2, ev1, evC, evCh, evAnd, evOr, evNot, evTr, evBl, evOfB, evIte, evTup, evLst, evBi, evCall, evCons, evNil, evVar, evOwn, evSetO, evFrz, frzPs, frzP, unOw, toOw, okW, noOw, evC0, evSl, evPn, evPs, toI, evSeqI, evRng, evIsi, bnd_ok, bnd_ex, ret_some, liftS_ok, B2.fn, B2.fnI, K2.fn, Bi.fn, Tg.fn, evT1, evTm, setAll, pInt, pOrd, pNeg, pAddS, toB, truth_int, truth_bl, pEq_int, pNe_int, Option.map_some, List.getElem?_cons_zero, List.getElem?_cons_succ, List.set_cons_zero, List.set_cons_succ, List.length_cons, List.length_nil, List.length_map, toSeq, isfG, isfB, tagOf, Option.bind_some, fMod_of, fDiv_of2, Int.reduceLT, decide_true, decide_false, Bool.not_true, Bool.not_false, reduceCtorEq, eq_self, Bool.or_false, Bool.false_or, Bool.true_or, Bool.or_true, Bool.and_false, Bool.false_and, Bool.true_and, Bool.and_true, Bool.and_self, Bool.or_self, Int.zero_add, ↓reduceIte, if_true, if_false, bAbs, bMax2, bMin2, bInt, bLen, bTuple, bList, bSum, bMax1, bMin1, items2, pZip, evLz, pRev, pRevT, evCallL, allInts_map, allPairs_map, bSorted]
theorem sp34 (Γ : Gm) (ns : List Int) (O : Oms) : evFun (evS Γ b34) 4 [.tup (ns.map PV.int), .lst (ns.map PV.int)] O = some (.ok (.bl true) O) := by
  refine evFun_rt (O' := O) (ρ := [some (.tup (ns.map PV.int)), some (.lst (ns.map PV.int)), none, none]) rfl ?_
  obtain ⟨y2, y3, hL⟩ := right_go Γ (some (.tup (ns.map PV.int))) (some (.lst (ns.map PV.int))) O ns none none
  simp only [evS, ev, evSeq, seqS_nx, seqS_rt, seqS_ex, evNx, evSet, evIf, evRet, evRetN, evAsg, evDrop, evFor, evApp, evSset, evAug, rX, rB, rA, rI, rP, ev2, ev1, evC, evCh, evAnd, evOr, evNot, evTr, evBl, evOfB, evIte, evTup, evLst, evBi, evCall, evCons, evNil, evVar, evOwn, evSetO, evFrz, frzPs, frzP, unOw, toOw, okW, noOw, evC0, evSl, evPn, evPs, toI, evSeqI, evRng, evIsi, bnd_ok, bnd_ex, ret_some, liftS_ok, B2.fn, B2.fnI, K2.fn, Bi.fn, Tg.fn, evT1, evTm, setAll, pInt, pOrd, pNeg, pAddS, toB, truth_int, truth_bl, pEq_int, pNe_int, Option.map_some, List.getElem?_cons_zero, List.getElem?_cons_succ, List.set_cons_zero, List.set_cons_succ, List.length_cons, List.length_nil, List.length_map, toSeq, isfG, isfB, tagOf, Option.bind_some, fMod_of, fDiv_of2, Int.reduceLT, decide_true, decide_false, Bool.not_true, Bool.not_false, reduceCtorEq, eq_self, Bool.or_false, Bool.false_or, Bool.true_or, Bool.or_true, Bool.and_false, Bool.false_and, Bool.true_and, Bool.and_true, Bool.and_self, Bool.or_self, Int.zero_add, ↓reduceIte, if_true, if_false, bAbs, bMax2, bMin2, bInt, bLen, bTuple, bList, bSum, bMax1, bMin1, items2, pZip, evLz, pRev, pRevT, evCallL, allInts_map, allPairs_map, bSorted] at hL
  simp only [b34, evS, ev, evSeq, seqS_nx, seqS_rt, seqS_ex, evNx, evSet, evIf, evRet, evRetN, evAsg, evDrop, evFor, evApp, evSset, evAug, rX, rB, rA, rI, rP, ev2, ev1, evC, evCh, evAnd, evOr, evNot, evTr, evBl, evOfB, evIte, evTup, evLst, evBi, evCall, evCons, evNil, evVar, evOwn, evSetO, evFrz, frzPs, frzP, unOw, toOw, okW, noOw, evC0, evSl, evPn, evPs, toI, evSeqI, evRng, evIsi, bnd_ok, bnd_ex, ret_some, liftS_ok, B2.fn, B2.fnI, K2.fn, Bi.fn, Tg.fn, evT1, evTm, setAll, pInt, pOrd, pNeg, pAddS, toB, truth_int, truth_bl, pEq_int, pNe_int, Option.map_some, List.getElem?_cons_zero, List.getElem?_cons_succ, List.set_cons_zero, List.set_cons_succ, List.length_cons, List.length_nil, List.length_map, toSeq, isfG, isfB, tagOf, Option.bind_some, fMod_of, fDiv_of2, Int.reduceLT, decide_true, decide_false, Bool.not_true, Bool.not_false, reduceCtorEq, eq_self, Bool.or_false, Bool.false_or, Bool.true_or, Bool.or_true, Bool.and_false, Bool.false_and, Bool.true_and, Bool.and_true, Bool.and_self, Bool.or_self, Int.zero_add, ↓reduceIte, if_true, if_false, bAbs, bMax2, bMin2, bInt, bLen, bTuple, bList, bSum, bMax1, bMin1, items2, pZip, evLz, pRev, pRevT, evCallL, allInts_map, allPairs_map, bSorted, zipT_ints, hL]

end Hw
namespace Hw
open PySem PySem.Spec PyProof.Rows L2
/-- erred(many, turns); slots 0 many, 1 turns, 2 found, 3 said, 4 so, 5 k, 6 old, 7 what; calls 31 charge -/
def b35 : Sx :=
  .cons (.set 2 (.comp (.one 5) [5] (.rng1 (.cons (.var 0) (.nil))) (.int 0))) (.cons (.forS (.many [3, 4]) (.seq (.var 1)) (.cons (.set 2 (.comp (.many [6, 7]) [6, 7] (.zip (.cons (.var 2) (.cons (.var 3) (.nil)))) (.op .add (.var 6) (.bi .min2 (.cons (.int 1) (.cons (.call 31 (.cons (.var 7) (.cons (.var 4) (.nil)))) (.nil))))))) (.nil))) (.cons (.ret (.bi .tuple (.cons (.var 2) (.nil)))) (.nil)))
-- deps: 32
def erd (w : Option Int) (so : Int) : Int := if chg w so < 1 then chg w so else 1
theorem er_loop (Γ : Gm) (A B : Option PV) (O : Oms) (H31 : ∀ (w : Option Int) (so : Int), Γ 31 [oP w, .int so] O = some (.ok (.int (chg w so)) O)) : ∀ (ts : List Turn) (fs : List Int) (y3 y4 : Option PV), fs.length ≤ 1000 → (∀ t ∈ ts, fs.length = t.1.length) → ∃ y3' y4',
    loopS (evTm [3, 4]) (evS Γ (.cons (.set 2 (.comp (.many [6, 7]) [6, 7] (.zip (.cons (.var 2) (.cons (.var 3) (.nil)))) (.op .add (.var 6) (.bi .min2 (.cons (.int 1) (.cons (.call 31 (.cons (.var 7) (.cons (.var 4) (.nil)))) (.nil))))))) (.nil))) (ts.map trP) [A, B, some (.lst (fs.map PV.int)), y3, y4, none, none, none] O = some (.nx [A, B, some (.lst ((ts.foldl (stepT erd) fs).map PV.int)), y3', y4', none, none, none] O)
  | [], fs, y3, y4, _, _ => ⟨y3, y4, rfl⟩
  | t :: ts, fs, y3, y4, hk, hl => by
    have hl0 := hl t List.mem_cons_self
    obtain ⟨z3, z4, ih⟩ := er_loop Γ A B O H31 ts (stepT erd fs t) (some (.tup (t.1.map oP))) (some (.int t.2)) (by rw [stepT_len hl0]; exact hk) fun u hu => by rw [stepT_len hl0]; exact hl u (List.mem_cons_of_mem _ hu)
    refine ⟨z3, z4, ?_⟩
    rw [List.foldl_cons, ← ih, List.map_cons]
    refine loopS_step (ρ1 := [A, B, some (.lst (fs.map PV.int)), some (.tup (t.1.map oP)), some (.int t.2), none, none, none]) rfl ?_
    have aI : ∀ x y : Int, pAdd (.int x) (.int y) = some (.int (x + y)) := fun x y => rfl
    have hz : zipT (fs.map PV.int) (t.1.map oP) = (fs.zip t.1).map bothP := zip_oP fs t.1
    have hC : evComp (ev Γ (.zip (.cons (.var 2) (.cons (.var 3) (.nil))))).i (Tg.many [6, 7]).fn evYes (ev Γ (.op .add (.var 6) (.bi .min2 (.cons (.int 1) (.cons (.call 31 (.cons (.var 7) (.cons (.var 4) (.nil)))) (.nil)))))).v [6, 7] [A, B, some (.lst (fs.map PV.int)), some (.tup (t.1.map oP)), some (.int t.2), none, none, none] O = some (.ok (.lst (((fs.zip t.1).map bothP).map (unB erd t.2))) O) := evComp_map (by simp only [evS, ev, evSeq, seqS_nx, seqS_rt, seqS_ex, evNx, evSet, evIf, evRet, evRetN, evAsg, evDrop, evFor, evApp, evSset, evAug, rX, rB, rA, rI, rP, ev2, ev1, evC, evCh, evAnd, evOr, evNot, evTr, evBl, evOfB, evIte, evTup, evLst, evBi, evCall, evCons, evNil, evVar, evOwn, evSetO, evFrz, frzPs, frzP, unOw, toOw, okW, noOw, evC0, evSl, evPn, evPs, toI, evSeqI, evRng, evIsi, bnd_ok, bnd_ex, ret_some, liftS_ok, B2.fn, B2.fnI, K2.fn, Bi.fn, Tg.fn, evT1, evTm, setAll, pInt, pOrd, pNeg, pAddS, toB, truth_int, truth_bl, pEq_int, pNe_int, Option.map_some, List.getElem?_cons_zero, List.getElem?_cons_succ, List.set_cons_zero, List.set_cons_succ, List.length_cons, List.length_nil, List.length_map, toSeq, isfG, isfB, tagOf, Option.bind_some, fMod_of, fDiv_of2, Int.reduceLT, decide_true, decide_false, Bool.not_true, Bool.not_false, reduceCtorEq, eq_self, Bool.or_false, Bool.false_or, Bool.true_or, Bool.or_true, Bool.and_false, Bool.false_and, Bool.true_and, Bool.and_true, Bool.and_self, Bool.or_self, Int.zero_add, ↓reduceIte, if_true, if_false, bAbs, bMax2, bMin2, bInt, bLen, bTuple, bList, bSum, bMax1, bMin1, items2, pZip, evLz, pRev, pRevT, evCallL, allInts_map, allPairs_map, bSorted, hz]) (by rw [List.length_map, List.length_zip]; exact Nat.le_trans (Nat.min_le_left _ _) (Nat.le_trans hk (by decide))) rfl fun x hx => by
      obtain ⟨p, _, rfl⟩ := List.mem_map.mp hx
      refine ⟨[A, B, some (.lst (fs.map PV.int)), some (.tup (t.1.map oP)), some (.int t.2), none, some (.int p.1), some (oP p.2)], rfl, ?_⟩
      rw [unB_both]
      obtain ⟨a, b⟩ := p
      have e := H31 b t.2
      cases b with
      | none =>
        have e : Γ 31 [.non, .int t.2] O = _ := e
        simp only [evS, ev, evSeq, seqS_nx, seqS_rt, seqS_ex, evNx, evSet, evIf, evRet, evRetN, evAsg, evDrop, evFor, evApp, evSset, evAug, rX, rB, rA, rI, rP, ev2, ev1, evC, evCh, evAnd, evOr, evNot, evTr, evBl, evOfB, evIte, evTup, evLst, evBi, evCall, evCons, evNil, evVar, evOwn, evSetO, evFrz, frzPs, frzP, unOw, toOw, okW, noOw, evC0, evSl, evPn, evPs, toI, evSeqI, evRng, evIsi, bnd_ok, bnd_ex, ret_some, liftS_ok, B2.fn, B2.fnI, K2.fn, Bi.fn, Tg.fn, evT1, evTm, setAll, pInt, pOrd, pNeg, pAddS, toB, truth_int, truth_bl, pEq_int, pNe_int, Option.map_some, List.getElem?_cons_zero, List.getElem?_cons_succ, List.set_cons_zero, List.set_cons_succ, List.length_cons, List.length_nil, List.length_map, toSeq, isfG, isfB, tagOf, Option.bind_some, fMod_of, fDiv_of2, Int.reduceLT, decide_true, decide_false, Bool.not_true, Bool.not_false, reduceCtorEq, eq_self, Bool.or_false, Bool.false_or, Bool.true_or, Bool.or_true, Bool.and_false, Bool.false_and, Bool.true_and, Bool.and_true, Bool.and_self, Bool.or_self, Int.zero_add, ↓reduceIte, if_true, if_false, bAbs, bMax2, bMin2, bInt, bLen, bTuple, bList, bSum, bMax1, bMin1, items2, pZip, evLz, pRev, pRevT, evCallL, allInts_map, allPairs_map, bSorted, oP, e, aI, erd]
      | some b =>
        have e : Γ 31 [.int b, .int t.2] O = _ := e
        simp only [evS, ev, evSeq, seqS_nx, seqS_rt, seqS_ex, evNx, evSet, evIf, evRet, evRetN, evAsg, evDrop, evFor, evApp, evSset, evAug, rX, rB, rA, rI, rP, ev2, ev1, evC, evCh, evAnd, evOr, evNot, evTr, evBl, evOfB, evIte, evTup, evLst, evBi, evCall, evCons, evNil, evVar, evOwn, evSetO, evFrz, frzPs, frzP, unOw, toOw, okW, noOw, evC0, evSl, evPn, evPs, toI, evSeqI, evRng, evIsi, bnd_ok, bnd_ex, ret_some, liftS_ok, B2.fn, B2.fnI, K2.fn, Bi.fn, Tg.fn, evT1, evTm, setAll, pInt, pOrd, pNeg, pAddS, toB, truth_int, truth_bl, pEq_int, pNe_int, Option.map_some, List.getElem?_cons_zero, List.getElem?_cons_succ, List.set_cons_zero, List.set_cons_succ, List.length_cons, List.length_nil, List.length_map, toSeq, isfG, isfB, tagOf, Option.bind_some, fMod_of, fDiv_of2, Int.reduceLT, decide_true, decide_false, Bool.not_true, Bool.not_false, reduceCtorEq, eq_self, Bool.or_false, Bool.false_or, Bool.true_or, Bool.or_true, Bool.and_false, Bool.false_and, Bool.true_and, Bool.and_true, Bool.and_self, Bool.or_self, Int.zero_add, ↓reduceIte, if_true, if_false, bAbs, bMax2, bMin2, bInt, bLen, bTuple, bList, bSum, bMax1, bMin1, items2, pZip, evLz, pRev, pRevT, evCallL, allInts_map, allPairs_map, bSorted, oP, e, aI, erd]
    have eC : ((fs.zip t.1).map bothP).map (unB erd t.2) = (stepT erd fs t).map PV.int := by
      unfold stepT
      rw [List.map_map, List.map_map]
      exact List.map_congr_left fun p _ => unB_both erd t.2 p
    rw [eC] at hC
    simp only [evS, ev, evSeq, seqS_nx, seqS_rt, seqS_ex, evNx, evSet, evIf, evRet, evRetN, evAsg, evDrop, evFor, evApp, evSset, evAug, rX, rB, rA, rI, rP, ev2, ev1, evC, evCh, evAnd, evOr, evNot, evTr, evBl, evOfB, evIte, evTup, evLst, evBi, evCall, evCons, evNil, evVar, evOwn, evSetO, evFrz, frzPs, frzP, unOw, toOw, okW, noOw, evC0, evSl, evPn, evPs, toI, evSeqI, evRng, evIsi, bnd_ok, bnd_ex, ret_some, liftS_ok, B2.fn, B2.fnI, K2.fn, Bi.fn, Tg.fn, evT1, evTm, setAll, pInt, pOrd, pNeg, pAddS, toB, truth_int, truth_bl, pEq_int, pNe_int, Option.map_some, List.getElem?_cons_zero, List.getElem?_cons_succ, List.set_cons_zero, List.set_cons_succ, List.length_cons, List.length_nil, List.length_map, toSeq, isfG, isfB, tagOf, Option.bind_some, fMod_of, fDiv_of2, Int.reduceLT, decide_true, decide_false, Bool.not_true, Bool.not_false, reduceCtorEq, eq_self, Bool.or_false, Bool.false_or, Bool.true_or, Bool.or_true, Bool.and_false, Bool.false_and, Bool.true_and, Bool.and_true, Bool.and_self, Bool.or_self, Int.zero_add, ↓reduceIte, if_true, if_false, bAbs, bMax2, bMin2, bInt, bLen, bTuple, bList, bSum, bMax1, bMin1, items2, pZip, evLz, pRev, pRevT, evCallL, allInts_map, allPairs_map, bSorted] at hC
    simp only [evS, ev, evSeq, seqS_nx, seqS_rt, seqS_ex, evNx, evSet, evIf, evRet, evRetN, evAsg, evDrop, evFor, evApp, evSset, evAug, rX, rB, rA, rI, rP, ev2, ev1, evC, evCh, evAnd, evOr, evNot, evTr, evBl, evOfB, evIte, evTup, evLst, evBi, evCall, evCons, evNil, evVar, evOwn, evSetO, evFrz, frzPs, frzP, unOw, toOw, okW, noOw, evC0, evSl, evPn, evPs, toI, evSeqI, evRng, evIsi, bnd_ok, bnd_ex, ret_some, liftS_ok, B2.fn, B2.fnI, K2.fn, Bi.fn, Tg.fn, evT1, evTm, setAll, pInt, pOrd, pNeg, pAddS, toB, truth_int, truth_bl, pEq_int, pNe_int, Option.map_some, List.getElem?_cons_zero, List.getElem?_cons_succ, List.set_cons_zero, List.set_cons_succ, List.length_cons, List.length_nil, List.length_map, toSeq, isfG, isfB, tagOf, Option.bind_some, fMod_of, fDiv_of2, Int.reduceLT, decide_true, decide_false, Bool.not_true, Bool.not_false, reduceCtorEq, eq_self, Bool.or_false, Bool.false_or, Bool.true_or, Bool.or_true, Bool.and_false, Bool.false_and, Bool.true_and, Bool.and_true, Bool.and_self, Bool.or_self, Int.zero_add, ↓reduceIte, if_true, if_false, bAbs, bMax2, bMin2, bInt, bLen, bTuple, bList, bSum, bMax1, bMin1, items2, pZip, evLz, pRev, pRevT, evCallL, allInts_map, allPairs_map, bSorted, hC]
theorem sp35 (Γ : Gm) (H31 : ∀ (w : Option Int) (so : Int) O, Γ 31 [oP w, .int so] O = some (.ok (.int (chg w so)) O)) (m : Nat) (hm : m ≤ 1000) (ts : List Turn) (hl : ∀ t ∈ ts, t.1.length = m) (O : Oms) : evFun (evS Γ b35) 8 [.int m, .tup (ts.map trP)] O = some (.ok (.tup ((ts.foldl (stepT erd) (List.replicate m 0)).map PV.int)) O) := by
  refine evFun_rt (O' := O) (ρ := [some (.int m), some (.tup (ts.map trP)), none, none, none, none, none, none]) rfl ?_
  have hZ := zeros_comp m hm (some (.tup (ts.map trP))) O
  obtain ⟨y3, y4, hL⟩ := er_loop Γ (some (.int m)) (some (.tup (ts.map trP))) O (fun w so => H31 w so O) ts (List.replicate m 0) none none (by rw [List.length_replicate]; exact hm) fun t ht => by rw [List.length_replicate, hl t ht]
  simp only [evS, ev, evSeq, seqS_nx, seqS_rt, seqS_ex, evNx, evSet, evIf, evRet, evRetN, evAsg, evDrop, evFor, evApp, evSset, evAug, rX, rB, rA, rI, rP, ev2, ev1, evC, evCh, evAnd, evOr, evNot, evTr, evBl, evOfB, evIte, evTup, evLst, evBi, evCall, evCons, evNil, evVar, evOwn, evSetO, evFrz, frzPs, frzP, unOw, toOw, okW, noOw, evC0, evSl, evPn, evPs, toI, evSeqI, evRng, evIsi, bnd_ok, bnd_ex, ret_some, liftS_ok, B2.fn, B2.fnI, K2.fn, Bi.fn, Tg.fn, evT1, evTm, setAll, pInt, pOrd, pNeg, pAddS, toB, truth_int, truth_bl, pEq_int, pNe_int, Option.map_some, List.getElem?_cons_zero, List.getElem?_cons_succ, List.set_cons_zero, List.set_cons_succ, List.length_cons, List.length_nil, List.length_map, toSeq, isfG, isfB, tagOf, Option.bind_some, fMod_of, fDiv_of2, Int.reduceLT, decide_true, decide_false, Bool.not_true, Bool.not_false, reduceCtorEq, eq_self, Bool.or_false, Bool.false_or, Bool.true_or, Bool.or_true, Bool.and_false, Bool.false_and, Bool.true_and, Bool.and_true, Bool.and_self, Bool.or_self, Int.zero_add, ↓reduceIte, if_true, if_false, bAbs, bMax2, bMin2, bInt, bLen, bTuple, bList, bSum, bMax1, bMin1, items2, pZip, evLz, pRev, pRevT, evCallL, allInts_map, allPairs_map, bSorted] at hL
  simp only [b35, evS, ev, evSeq, seqS_nx, seqS_rt, seqS_ex, evNx, evSet, evIf, evRet, evRetN, evAsg, evDrop, evFor, evApp, evSset, evAug, rX, rB, rA, rI, rP, ev2, ev1, evC, evCh, evAnd, evOr, evNot, evTr, evBl, evOfB, evIte, evTup, evLst, evBi, evCall, evCons, evNil, evVar, evOwn, evSetO, evFrz, frzPs, frzP, unOw, toOw, okW, noOw, evC0, evSl, evPn, evPs, toI, evSeqI, evRng, evIsi, bnd_ok, bnd_ex, ret_some, liftS_ok, B2.fn, B2.fnI, K2.fn, Bi.fn, Tg.fn, evT1, evTm, setAll, pInt, pOrd, pNeg, pAddS, toB, truth_int, truth_bl, pEq_int, pNe_int, Option.map_some, List.getElem?_cons_zero, List.getElem?_cons_succ, List.set_cons_zero, List.set_cons_succ, List.length_cons, List.length_nil, List.length_map, toSeq, isfG, isfB, tagOf, Option.bind_some, fMod_of, fDiv_of2, Int.reduceLT, decide_true, decide_false, Bool.not_true, Bool.not_false, reduceCtorEq, eq_self, Bool.or_false, Bool.false_or, Bool.true_or, Bool.or_true, Bool.and_false, Bool.false_and, Bool.true_and, Bool.and_true, Bool.and_self, Bool.or_self, Int.zero_add, ↓reduceIte, if_true, if_false, bAbs, bMax2, bMin2, bInt, bLen, bTuple, bList, bSum, bMax1, bMin1, items2, pZip, evLz, pRev, pRevT, evCallL, allInts_map, allPairs_map, bSorted, hZ, hL]

end Hw
namespace Hw
open PySem PySem.Spec PyProof.Rows L2
/-- _law_off(_law_what, _law_so); slots 0 _law_what, 1 _law_so; calls  -/
def b36 : Sx :=
  .cons (.ifs (.cmp .is (.var 0) (.non)) (.cons (.ret (.int 0)) (.nil)) (.nil)) (.cons (.ret (.bi .max2 (.cons (.op .sub (.var 0) (.var 1)) (.cons (.op .sub (.var 1) (.var 0)) (.nil))))) (.nil))
-- deps: 31
theorem sp36 (Γ : Gm) (w : Option Int) (so : Int) (O : Oms) : evFun (evS Γ b36) 2 [oP w, .int so] O = some (.ok (.int (chg w so)) O) := by
  refine evFun_rt (O' := O) (ρ := [some (oP w), some (.int so)]) rfl ?_
  cases w with
  | none =>
    have e : pIs .non .non = some true := rfl
    simp only [b36, evS, ev, evSeq, seqS_nx, seqS_rt, seqS_ex, evNx, evSet, evIf, evRet, evRetN, evAsg, evDrop, evFor, evApp, evSset, evAug, rX, rB, rA, rI, rP, ev2, ev1, evC, evCh, evAnd, evOr, evNot, evTr, evBl, evOfB, evIte, evTup, evLst, evBi, evCall, evCons, evNil, evVar, evOwn, evSetO, evFrz, frzPs, frzP, unOw, toOw, okW, noOw, evC0, evSl, evPn, evPs, toI, evSeqI, evRng, evIsi, bnd_ok, bnd_ex, ret_some, liftS_ok, B2.fn, B2.fnI, K2.fn, Bi.fn, Tg.fn, evT1, evTm, setAll, pInt, pOrd, pNeg, pAddS, toB, truth_int, truth_bl, pEq_int, pNe_int, Option.map_some, List.getElem?_cons_zero, List.getElem?_cons_succ, List.set_cons_zero, List.set_cons_succ, List.length_cons, List.length_nil, List.length_map, toSeq, isfG, isfB, tagOf, Option.bind_some, fMod_of, fDiv_of2, Int.reduceLT, decide_true, decide_false, Bool.not_true, Bool.not_false, reduceCtorEq, eq_self, Bool.or_false, Bool.false_or, Bool.true_or, Bool.or_true, Bool.and_false, Bool.false_and, Bool.true_and, Bool.and_true, Bool.and_self, Bool.or_self, Int.zero_add, ↓reduceIte, if_true, if_false, bAbs, bMax2, bMin2, bInt, bLen, bTuple, bList, bSum, bMax1, bMin1, items2, pZip, evLz, pRev, pRevT, evCallL, allInts_map, allPairs_map, bSorted, oP, e, chg]
  | some w =>
    have e : pIs (.int w) .non = some false := rfl
    have e2 : (if so - w > w - so then so - w else w - so) = chg (some w) so := by
      unfold chg
      dsimp only
      split <;> split <;> omega
    simp only [b36, evS, ev, evSeq, seqS_nx, seqS_rt, seqS_ex, evNx, evSet, evIf, evRet, evRetN, evAsg, evDrop, evFor, evApp, evSset, evAug, rX, rB, rA, rI, rP, ev2, ev1, evC, evCh, evAnd, evOr, evNot, evTr, evBl, evOfB, evIte, evTup, evLst, evBi, evCall, evCons, evNil, evVar, evOwn, evSetO, evFrz, frzPs, frzP, unOw, toOw, okW, noOw, evC0, evSl, evPn, evPs, toI, evSeqI, evRng, evIsi, bnd_ok, bnd_ex, ret_some, liftS_ok, B2.fn, B2.fnI, K2.fn, Bi.fn, Tg.fn, evT1, evTm, setAll, pInt, pOrd, pNeg, pAddS, toB, truth_int, truth_bl, pEq_int, pNe_int, Option.map_some, List.getElem?_cons_zero, List.getElem?_cons_succ, List.set_cons_zero, List.set_cons_succ, List.length_cons, List.length_nil, List.length_map, toSeq, isfG, isfB, tagOf, Option.bind_some, fMod_of, fDiv_of2, Int.reduceLT, decide_true, decide_false, Bool.not_true, Bool.not_false, reduceCtorEq, eq_self, Bool.or_false, Bool.false_or, Bool.true_or, Bool.or_true, Bool.and_false, Bool.false_and, Bool.true_and, Bool.and_true, Bool.and_self, Bool.or_self, Int.zero_add, ↓reduceIte, if_true, if_false, bAbs, bMax2, bMin2, bInt, bLen, bTuple, bList, bSum, bMax1, bMin1, items2, pZip, evLz, pRev, pRevT, evCallL, allInts_map, allPairs_map, bSorted, oP, e, e2]

end Hw
namespace Hw
open PySem PySem.Spec PyProof.Rows L2
/-- _law_right(_law_found, _law_numbers, _law_weights); slots 0 _law_found, 1 _law_numbers, 2 _law_weights, 3 _law_below, 4 _law_there, 5 _law_whole, 6 _law_number, 7 _law_weight; calls  -/
def b19 : Sx :=
  .cons (.ifs (.or (.not (.isi 0 (.var 0))) (.one (.isi 1 (.var 0)))) (.cons (.ret (.bl false)) (.nil)) (.nil)) (.cons (.ifs (.cmp .eq (.var 1) (.tup (.nil))) (.cons (.ret (.cmp .eq (.var 0) (.int 0))) (.nil)) (.nil)) (.cons (.ifs (.cmp .eq (.bi .sum (.cons (.var 2) (.nil))) (.int 0)) (.cons (.set 2 (.bi .tuple (.cons (.comp (.one 6) [6] (.seq (.var 1)) (.int 1)) (.nil)))) (.nil)) (.nil)) (.cons (.set 3 (.int 0)) (.cons (.set 4 (.int 0)) (.cons (.forS (.many [6, 7]) (.zip (.cons (.var 1) (.cons (.var 2) (.nil)))) (.cons (.ifs (.cmp .lt (.var 6) (.var 0)) (.cons (.set 3 (.op .add (.var 3) (.var 7))) (.nil)) (.nil)) (.cons (.ifs (.cmp .eq (.var 6) (.var 0)) (.cons (.set 4 (.op .add (.var 4) (.var 7))) (.nil)) (.nil)) (.nil)))) (.cons (.set 5 (.bi .sum (.cons (.var 2) (.nil)))) (.cons (.ret (.and (.cmp .isin (.var 0) (.var 1)) (.and (.cmp .lt (.op .mul (.int 2) (.var 3)) (.var 5)) (.one (.cmp .ge (.op .mul (.int 2) (.op .add (.var 3) (.var 4))) (.var 5)))))) (.nil))))))))
-- deps: 18
def belowW (f : Int) : List (Int × Int) → Int
  | [] => 0
  | p :: ps => (if p.1 < f then p.2 else 0) + belowW f ps
def atW (f : Int) : List (Int × Int) → Int
  | [] => 0
  | p :: ps => (if p.1 = f then p.2 else 0) + atW f ps
theorem belowW_perm {f : Int} {ps qs : List (Int × Int)} (h : ps.Perm qs) : belowW f ps = belowW f qs := by
  induction h with
  | nil => rfl
  | cons x _ ih => rw [belowW, belowW, ih]
  | swap x y l => rw [belowW, belowW, belowW, belowW]; omega
  | trans _ _ i1 i2 => exact i1.trans i2
theorem atW_perm {f : Int} {ps qs : List (Int × Int)} (h : ps.Perm qs) : atW f ps = atW f qs := by
  induction h with
  | nil => rfl
  | cons x _ ih => rw [atW, atW, ih]
  | swap x y l => rw [atW, atW, atW, atW]; omega
  | trans _ _ i1 i2 => exact i1.trans i2
theorem parts_nn (f : Int) : ∀ {ps : List (Int × Int)}, (∀ p ∈ ps, 0 ≤ p.2) → 0 ≤ belowW f ps ∧ 0 ≤ atW f ps ∧ belowW f ps + atW f ps ≤ sumW ps
  | [], _ => ⟨Int.le_refl 0, Int.le_refl 0, Int.le_refl 0⟩
  | p :: ps, h => by
    have ih := parts_nn f (ps := ps) fun q hq => h q (List.mem_cons_of_mem _ hq)
    have := h p List.mem_cons_self
    rw [belowW, atW, sumW_cons]
    split <;> split <;> omega
theorem below_zero {f : Int} : ∀ {ps : List (Int × Int)}, (∀ p ∈ ps, f ≤ p.1) → belowW f ps = 0
  | [], _ => rfl
  | p :: ps, h => by
    have := h p List.mem_cons_self
    rw [belowW, if_neg (by omega), below_zero fun q hq => h q (List.mem_cons_of_mem _ hq)]
    rfl
/-- the first number whose weights, with those of the lesser ones, are half of the whole -/
theorem midO_ok {w : Int} : ∀ (ps : List (Int × Int)) (t : Int), ps.Pairwise (fun a b => SrtO.lexB b a = false) → (∀ p ∈ ps, 0 ≤ p.2) → w ≤ 2 * (t + sumW ps) → 2 * t < w →
    ∃ n, midO w t ps = some n ∧ (∃ g, (n, g) ∈ ps) ∧ 2 * (t + belowW n ps) < w ∧ w ≤ 2 * (t + belowW n ps + atW n ps)
  | [], t, _, _, h1, h2 => by
    have : sumW [] = 0 := rfl
    omega
  | p :: ps, t, hs, hp, h1, h2 => by
    have hq : ∀ q ∈ ps, 0 ≤ q.2 := fun q hq => hp q (List.mem_cons_of_mem _ hq)
    obtain ⟨hs1, hs2⟩ := List.pairwise_cons.mp hs
    have hle : ∀ q ∈ ps, p.1 ≤ q.1 := fun q hq => by
      have := SrtO.lexB_no.mp (hs1 q hq)
      omega
    rw [sumW_cons] at h1
    rw [midO]
    by_cases c : w ≤ 2 * (t + p.2)
    · rw [if_pos c]
      refine ⟨p.1, rfl, ⟨p.2, List.mem_cons_self⟩, ?_, ?_⟩
      · rw [belowW, if_neg (by omega), below_zero hle]
        omega
      · rw [belowW, if_neg (by omega), below_zero hle, atW, if_pos rfl]
        have := (parts_nn p.1 hq).2.1
        omega
    · rw [if_neg c]
      obtain ⟨n, e, ⟨g, hg⟩, b1, b2⟩ := midO_ok (w := w) ps (t + p.2) hs2 hq (by omega) (by omega)
      have hn : p.1 ≤ n := hle _ hg
      have p0 := hp p List.mem_cons_self
      refine ⟨n, e, ⟨g, List.mem_cons_of_mem _ hg⟩, ?_, ?_⟩
      · rw [belowW]
        split <;> omega
      · rw [belowW, atW]
        split <;> split <;> omega
theorem mid_spec {ns ws : List Int} (hl : ns.length = ws.length) (h0 : ∀ w ∈ ws, 0 ≤ w) (hn : ns ≠ []) : mid ns ws ∈ ns ∧ 2 * belowW (mid ns ws) (ns.zip (ones ns ws)) < (ones ns ws).sum ∧ (ones ns ws).sum ≤ 2 * (belowW (mid ns ws) (ns.zip (ones ns ws)) + atW (mid ns ws) (ns.zip (ones ns ws))) := by
  have pm := srtB_perm SrtO.lexB (ns.zip (ones ns ws))
  have eS : sumW (ns.zip (ones ns ws)) = (ones ns ws).sum := by
    unfold sumW
    rw [zip_snd (ones_len hl)]
  have hw := ones_pos h0 hn
  obtain ⟨n, e, ⟨g, hg⟩, b1, b2⟩ := midO_ok (w := (ones ns ws).sum) (srtB SrtO.lexB (ns.zip (ones ns ws))) 0 (srtB_srtd tot_lex _) (fun p hp => ones_nn h0 _ (List.of_mem_zip (pm.mem_iff.mp hp)).2) (by rw [sumW_perm pm, eS]; omega) (by omega)
  have em : mid ns ws = n := by
    unfold mid
    rw [if_neg hn, e]
    rfl
  rw [em]
  rw [belowW_perm pm] at b1 b2
  rw [atW_perm pm] at b2
  exact ⟨(List.of_mem_zip (pm.mem_iff.mp hg)).1, by omega, by omega⟩
theorem toVs_ints : ∀ ns : List Int, toVs (ns.map PV.int) = some (ns.map V.int)
  | [] => rfl
  | n :: ns => by
    rw [List.map_cons, toVs, toVs_ints ns]
    rfl
theorem inV_ints (f : Int) (ns : List Int) : inV (.int f) (ns.map V.int) = decide (f ∈ ns) := by
  unfold inV
  induction ns with
  | nil => rfl
  | cons n ns ih =>
    rw [List.map_cons, List.any_cons, ih]
    have : eqV (V.int n) (V.int f) = decide (n = f) := rfl
    rw [this]
    by_cases h : n = f
    · subst h
      simp
    · by_cases h2 : f ∈ ns
      · simp [h2]
      · have h3 : ¬ f = n := fun z => h z.symm
        simp [h, h2, h3]
theorem pIn_tupI (f : Int) (ns : List Int) : pIn false (.int f) (.tup (ns.map PV.int)) = some (decide (f ∈ ns)) := by
  show (pInS (.int f) (.tup (ns.map PV.int))).map (fun b => if false = true then !b else b) = _
  unfold pInS
  dsimp only
  rw [toVs_ints]
  show some (inV (.int f) (ns.map V.int)) = _
  rw [inV_ints]
/-- its steps -/
theorem right_loop (Γ : Gm) (A B : Option PV) (f : Int) (O : Oms) : ∀ (ps : List (Int × Int)) (b t : Int) (y6 y7 : Option PV), ∃ y6' y7',
    loopS (evTm [6, 7]) (evS Γ (.cons (.ifs (.cmp .lt (.var 6) (.var 0)) (.cons (.set 3 (.op .add (.var 3) (.var 7))) (.nil)) (.nil)) (.cons (.ifs (.cmp .eq (.var 6) (.var 0)) (.cons (.set 4 (.op .add (.var 4) (.var 7))) (.nil)) (.nil)) (.nil)))) (ps.map prP) [some (.int f), A, B, some (.int b), some (.int t), none, y6, y7] O = some (.nx [some (.int f), A, B, some (.int (b + belowW f ps)), some (.int (t + atW f ps)), none, y6', y7'] O)
  | [], b, t, y6, y7 => ⟨y6, y7, by rw [belowW, atW, Int.add_zero, Int.add_zero]; rfl⟩
  | p :: ps, b, t, y6, y7 => by
    obtain ⟨z6, z7, ih⟩ := right_loop Γ A B f O ps (b + (if p.1 < f then p.2 else 0)) (t + (if p.1 = f then p.2 else 0)) (some (.int p.1)) (some (.int p.2))
    refine ⟨z6, z7, ?_⟩
    have g1 : evTm [6, 7] (prP p) [some (.int f), A, B, some (.int b), some (.int t), none, y6, y7] = some [some (.int f), A, B, some (.int b), some (.int t), none, some (.int p.1), some (.int p.2)] := rfl
    have a1 : ∀ x y : Int, pAdd (.int x) (.int y) = some (.int (x + y)) := fun x y => rfl
    rw [belowW, atW, ← Int.add_assoc, ← Int.add_assoc, ← ih, List.map_cons]
    refine loopS_step g1 ?_
    by_cases h1 : p.1 < f
    · have h2 : ¬ p.1 = f := by omega
      have c1 := decide_eq_true h1
      have c2 := decide_eq_false h2
      rw [if_pos h1, if_neg h2, Int.add_zero]
      simp only [evS, ev, evSeq, seqS_nx, seqS_rt, seqS_ex, evNx, evSet, evIf, evRet, evRetN, evAsg, evDrop, evFor, evApp, evSset, evAug, rX, rB, rA, rI, rP, ev2, ev1, evC, evCh, evAnd, evOr, evNot, evTr, evBl, evOfB, evIte, evTup, evLst, evBi, evCall, evCons, evNil, evVar, evOwn, evSetO, evFrz, frzPs, frzP, unOw, toOw, okW, noOw, evC0, evSl, evPn, evPs, toI, evSeqI, evRng, evIsi, bnd_ok, bnd_ex, ret_some, liftS_ok, B2.fn, B2.fnI, K2.fn, Bi.fn, Tg.fn, evT1, evTm, setAll, pInt, pOrd, pNeg, pAddS, toB, truth_int, truth_bl, pEq_int, pNe_int, Option.map_some, List.getElem?_cons_zero, List.getElem?_cons_succ, List.set_cons_zero, List.set_cons_succ, List.length_cons, List.length_nil, List.length_map, toSeq, isfG, isfB, tagOf, Option.bind_some, fMod_of, fDiv_of2, Int.reduceLT, decide_true, decide_false, Bool.not_true, Bool.not_false, reduceCtorEq, eq_self, Bool.or_false, Bool.false_or, Bool.true_or, Bool.or_true, Bool.and_false, Bool.false_and, Bool.true_and, Bool.and_true, Bool.and_self, Bool.or_self, Int.zero_add, ↓reduceIte, if_true, if_false, bAbs, bMax2, bMin2, bInt, bLen, bTuple, bList, bSum, bMax1, bMin1, items2, pZip, evLz, pRev, pRevT, evCallL, allInts_map, allPairs_map, bSorted, c1, c2, a1]
    · have c1 := decide_eq_false h1
      rw [if_neg h1]
      by_cases h2 : p.1 = f
      · have c2 := decide_eq_true h2
        rw [if_pos h2, Int.add_zero]
        simp only [evS, ev, evSeq, seqS_nx, seqS_rt, seqS_ex, evNx, evSet, evIf, evRet, evRetN, evAsg, evDrop, evFor, evApp, evSset, evAug, rX, rB, rA, rI, rP, ev2, ev1, evC, evCh, evAnd, evOr, evNot, evTr, evBl, evOfB, evIte, evTup, evLst, evBi, evCall, evCons, evNil, evVar, evOwn, evSetO, evFrz, frzPs, frzP, unOw, toOw, okW, noOw, evC0, evSl, evPn, evPs, toI, evSeqI, evRng, evIsi, bnd_ok, bnd_ex, ret_some, liftS_ok, B2.fn, B2.fnI, K2.fn, Bi.fn, Tg.fn, evT1, evTm, setAll, pInt, pOrd, pNeg, pAddS, toB, truth_int, truth_bl, pEq_int, pNe_int, Option.map_some, List.getElem?_cons_zero, List.getElem?_cons_succ, List.set_cons_zero, List.set_cons_succ, List.length_cons, List.length_nil, List.length_map, toSeq, isfG, isfB, tagOf, Option.bind_some, fMod_of, fDiv_of2, Int.reduceLT, decide_true, decide_false, Bool.not_true, Bool.not_false, reduceCtorEq, eq_self, Bool.or_false, Bool.false_or, Bool.true_or, Bool.or_true, Bool.and_false, Bool.false_and, Bool.true_and, Bool.and_true, Bool.and_self, Bool.or_self, Int.zero_add, ↓reduceIte, if_true, if_false, bAbs, bMax2, bMin2, bInt, bLen, bTuple, bList, bSum, bMax1, bMin1, items2, pZip, evLz, pRev, pRevT, evCallL, allInts_map, allPairs_map, bSorted, c1, c2, a1]
      · have c2 := decide_eq_false h2
        rw [if_neg h2, Int.add_zero, Int.add_zero]
        simp only [evS, ev, evSeq, seqS_nx, seqS_rt, seqS_ex, evNx, evSet, evIf, evRet, evRetN, evAsg, evDrop, evFor, evApp, evSset, evAug, rX, rB, rA, rI, rP, ev2, ev1, evC, evCh, evAnd, evOr, evNot, evTr, evBl, evOfB, evIte, evTup, evLst, evBi, evCall, evCons, evNil, evVar, evOwn, evSetO, evFrz, frzPs, frzP, unOw, toOw, okW, noOw, evC0, evSl, evPn, evPs, toI, evSeqI, evRng, evIsi, bnd_ok, bnd_ex, ret_some, liftS_ok, B2.fn, B2.fnI, K2.fn, Bi.fn, Tg.fn, evT1, evTm, setAll, pInt, pOrd, pNeg, pAddS, toB, truth_int, truth_bl, pEq_int, pNe_int, Option.map_some, List.getElem?_cons_zero, List.getElem?_cons_succ, List.set_cons_zero, List.set_cons_succ, List.length_cons, List.length_nil, List.length_map, toSeq, isfG, isfB, tagOf, Option.bind_some, fMod_of, fDiv_of2, Int.reduceLT, decide_true, decide_false, Bool.not_true, Bool.not_false, reduceCtorEq, eq_self, Bool.or_false, Bool.false_or, Bool.true_or, Bool.or_true, Bool.and_false, Bool.false_and, Bool.true_and, Bool.and_true, Bool.and_self, Bool.or_self, Int.zero_add, ↓reduceIte, if_true, if_false, bAbs, bMax2, bMin2, bInt, bLen, bTuple, bList, bSum, bMax1, bMin1, items2, pZip, evLz, pRev, pRevT, evCallL, allInts_map, allPairs_map, bSorted, c1, c2, a1]
theorem sp19 (Γ : Gm) (ns ws : List Int) (O : Oms) (hl : ns.length = ws.length) (hk : ns.length ≤ 1000) (h0 : ∀ w ∈ ws, 0 ≤ w) (hs : Sz 1000 (ones ns ws).sum) : evFun (evS Γ b19) 8 [.int (mid ns ws), .tup (ns.map PV.int), .tup (ws.map PV.int)] O = some (.ok (.bl true) O) := by
  refine evFun_rt (O' := O) (ρ := [some (.int (mid ns ws)), some (.tup (ns.map PV.int)), some (.tup (ws.map PV.int)), none, none, none, none, none]) rfl ?_
  by_cases hn : ns = []
  · have c := decide_eq_true hn
    have e : mid ns ws = 0 := if_pos hn
    simp only [b19, evS, ev, evSeq, seqS_nx, seqS_rt, seqS_ex, evNx, evSet, evIf, evRet, evRetN, evAsg, evDrop, evFor, evApp, evSset, evAug, rX, rB, rA, rI, rP, ev2, ev1, evC, evCh, evAnd, evOr, evNot, evTr, evBl, evOfB, evIte, evTup, evLst, evBi, evCall, evCons, evNil, evVar, evOwn, evSetO, evFrz, frzPs, frzP, unOw, toOw, okW, noOw, evC0, evSl, evPn, evPs, toI, evSeqI, evRng, evIsi, bnd_ok, bnd_ex, ret_some, liftS_ok, B2.fn, B2.fnI, K2.fn, Bi.fn, Tg.fn, evT1, evTm, setAll, pInt, pOrd, pNeg, pAddS, toB, truth_int, truth_bl, pEq_int, pNe_int, Option.map_some, List.getElem?_cons_zero, List.getElem?_cons_succ, List.set_cons_zero, List.set_cons_succ, List.length_cons, List.length_nil, List.length_map, toSeq, isfG, isfB, tagOf, Option.bind_some, fMod_of, fDiv_of2, Int.reduceLT, decide_true, decide_false, Bool.not_true, Bool.not_false, reduceCtorEq, eq_self, Bool.or_false, Bool.false_or, Bool.true_or, Bool.or_true, Bool.and_false, Bool.false_and, Bool.true_and, Bool.and_true, Bool.and_self, Bool.or_self, Int.zero_add, ↓reduceIte, if_true, if_false, bAbs, bMax2, bMin2, bInt, bLen, bTuple, bList, bSum, bMax1, bMin1, items2, pZip, evLz, pRev, pRevT, evCallL, allInts_map, allPairs_map, bSorted, pEq_tup0, c, e]
  · have c := decide_eq_false hn
    obtain ⟨m1, m2, m3⟩ := mid_spec hl h0 hn
    obtain ⟨y6, y7, hL⟩ := right_loop Γ (some (.tup (ns.map PV.int))) (some (.tup ((ones ns ws).map PV.int))) (mid ns ws) O (ns.zip (ones ns ws)) 0 0 none none
    have pn := parts_nn (mid ns ws) (ps := ns.zip (ones ns ws)) fun p hp => ones_nn h0 _ (List.of_mem_zip hp).2
    have eS : sumW (ns.zip (ones ns ws)) = (ones ns ws).sum := by
      unfold sumW
      rw [zip_snd (ones_len hl)]
    rw [eS] at pn
    revert hL m1 m2 m3 pn hs
    generalize mid ns ws = f
    intro hs m1 m2 m3 hL pn
    rw [Int.zero_add, Int.zero_add] at hL
    have z2 : Sz 1 2 := by unfold Sz; decide
    have z3 : Sz 1000 (belowW f (ns.zip (ones ns ws))) := by unfold Sz at *; omega
    have z4 : Sz 1000 (belowW f (ns.zip (ones ns ws)) + atW f (ns.zip (ones ns ws))) := by unfold Sz at *; omega
    have f1 := fMul_of z2 z3 (by decide)
    have f2 := fMul_of z2 z4 (by decide)
    have c3 := decide_eq_true m2
    have c4 := decide_eq_true m3
    have c5 := decide_eq_true m1
    have a1 : ∀ x y : Int, pAdd (.int x) (.int y) = some (.int (x + y)) := fun x y => rfl
    by_cases hz : ws.sum = 0
    · have c2 := decide_eq_true hz
      have eo : ones ns ws = ns.map (fun _ => 1) := if_pos hz
      rw [eo] at hL f1 f2 c3 c4
      have hC : evComp (evSeqI (evVar 1)) (evT1 6) evYes (evC0 (.int 1)) [6] [some (.int f), some (.tup (ns.map PV.int)), some (.tup (ws.map PV.int)), none, none, none, none, none] O = some (.ok (.lst ((ns.map PV.int).map fun _ => PV.int 1)) O) := evComp_map rfl (by rw [List.length_map]; exact Nat.le_trans hk (by decide)) rfl fun x _ => ⟨_, rfl, rfl⟩
      rw [map_ones] at hC
      simp only [evS, ev, evSeq, seqS_nx, seqS_rt, seqS_ex, evNx, evSet, evIf, evRet, evRetN, evAsg, evDrop, evFor, evApp, evSset, evAug, rX, rB, rA, rI, rP, ev2, ev1, evC, evCh, evAnd, evOr, evNot, evTr, evBl, evOfB, evIte, evTup, evLst, evBi, evCall, evCons, evNil, evVar, evOwn, evSetO, evFrz, frzPs, frzP, unOw, toOw, okW, noOw, evC0, evSl, evPn, evPs, toI, evSeqI, evRng, evIsi, bnd_ok, bnd_ex, ret_some, liftS_ok, B2.fn, B2.fnI, K2.fn, Bi.fn, Tg.fn, evT1, evTm, setAll, pInt, pOrd, pNeg, pAddS, toB, truth_int, truth_bl, pEq_int, pNe_int, Option.map_some, List.getElem?_cons_zero, List.getElem?_cons_succ, List.set_cons_zero, List.set_cons_succ, List.length_cons, List.length_nil, List.length_map, toSeq, isfG, isfB, tagOf, Option.bind_some, fMod_of, fDiv_of2, Int.reduceLT, decide_true, decide_false, Bool.not_true, Bool.not_false, reduceCtorEq, eq_self, Bool.or_false, Bool.false_or, Bool.true_or, Bool.or_true, Bool.and_false, Bool.false_and, Bool.true_and, Bool.and_true, Bool.and_self, Bool.or_self, Int.zero_add, ↓reduceIte, if_true, if_false, bAbs, bMax2, bMin2, bInt, bLen, bTuple, bList, bSum, bMax1, bMin1, items2, pZip, evLz, pRev, pRevT, evCallL, allInts_map, allPairs_map, bSorted] at hL
      simp only [b19, evS, ev, evSeq, seqS_nx, seqS_rt, seqS_ex, evNx, evSet, evIf, evRet, evRetN, evAsg, evDrop, evFor, evApp, evSset, evAug, rX, rB, rA, rI, rP, ev2, ev1, evC, evCh, evAnd, evOr, evNot, evTr, evBl, evOfB, evIte, evTup, evLst, evBi, evCall, evCons, evNil, evVar, evOwn, evSetO, evFrz, frzPs, frzP, unOw, toOw, okW, noOw, evC0, evSl, evPn, evPs, toI, evSeqI, evRng, evIsi, bnd_ok, bnd_ex, ret_some, liftS_ok, B2.fn, B2.fnI, K2.fn, Bi.fn, Tg.fn, evT1, evTm, setAll, pInt, pOrd, pNeg, pAddS, toB, truth_int, truth_bl, pEq_int, pNe_int, Option.map_some, List.getElem?_cons_zero, List.getElem?_cons_succ, List.set_cons_zero, List.set_cons_succ, List.length_cons, List.length_nil, List.length_map, toSeq, isfG, isfB, tagOf, Option.bind_some, fMod_of, fDiv_of2, Int.reduceLT, decide_true, decide_false, Bool.not_true, Bool.not_false, reduceCtorEq, eq_self, Bool.or_false, Bool.false_or, Bool.true_or, Bool.or_true, Bool.and_false, Bool.false_and, Bool.true_and, Bool.and_true, Bool.and_self, Bool.or_self, Int.zero_add, ↓reduceIte, if_true, if_false, bAbs, bMax2, bMin2, bInt, bLen, bTuple, bList, bSum, bMax1, bMin1, items2, pZip, evLz, pRev, pRevT, evCallL, allInts_map, allPairs_map, bSorted, pEq_tup0, c, c2, hC, zipT_ints, hL, f1, f2, c3, c4, c5, pIn_tupI, a1]
    · have c2 := decide_eq_false hz
      have eo : ones ns ws = ws := if_neg hz
      rw [eo] at hL f1 f2 c3 c4
      simp only [evS, ev, evSeq, seqS_nx, seqS_rt, seqS_ex, evNx, evSet, evIf, evRet, evRetN, evAsg, evDrop, evFor, evApp, evSset, evAug, rX, rB, rA, rI, rP, ev2, ev1, evC, evCh, evAnd, evOr, evNot, evTr, evBl, evOfB, evIte, evTup, evLst, evBi, evCall, evCons, evNil, evVar, evOwn, evSetO, evFrz, frzPs, frzP, unOw, toOw, okW, noOw, evC0, evSl, evPn, evPs, toI, evSeqI, evRng, evIsi, bnd_ok, bnd_ex, ret_some, liftS_ok, B2.fn, B2.fnI, K2.fn, Bi.fn, Tg.fn, evT1, evTm, setAll, pInt, pOrd, pNeg, pAddS, toB, truth_int, truth_bl, pEq_int, pNe_int, Option.map_some, List.getElem?_cons_zero, List.getElem?_cons_succ, List.set_cons_zero, List.set_cons_succ, List.length_cons, List.length_nil, List.length_map, toSeq, isfG, isfB, tagOf, Option.bind_some, fMod_of, fDiv_of2, Int.reduceLT, decide_true, decide_false, Bool.not_true, Bool.not_false, reduceCtorEq, eq_self, Bool.or_false, Bool.false_or, Bool.true_or, Bool.or_true, Bool.and_false, Bool.false_and, Bool.true_and, Bool.and_true, Bool.and_self, Bool.or_self, Int.zero_add, ↓reduceIte, if_true, if_false, bAbs, bMax2, bMin2, bInt, bLen, bTuple, bList, bSum, bMax1, bMin1, items2, pZip, evLz, pRev, pRevT, evCallL, allInts_map, allPairs_map, bSorted] at hL
      simp only [b19, evS, ev, evSeq, seqS_nx, seqS_rt, seqS_ex, evNx, evSet, evIf, evRet, evRetN, evAsg, evDrop, evFor, evApp, evSset, evAug, rX, rB, rA, rI, rP, ev2, ev1, evC, evCh, evAnd, evOr, evNot, evTr, evBl, evOfB, evIte, evTup, evLst, evBi, evCall, evCons, evNil, evVar, evOwn, evSetO, evFrz, frzPs, frzP, unOw, toOw, okW, noOw, evC0, evSl, evPn, evPs, toI, evSeqI, evRng, evIsi, bnd_ok, bnd_ex, ret_some, liftS_ok, B2.fn, B2.fnI, K2.fn, Bi.fn, Tg.fn, evT1, evTm, setAll, pInt, pOrd, pNeg, pAddS, toB, truth_int, truth_bl, pEq_int, pNe_int, Option.map_some, List.getElem?_cons_zero, List.getElem?_cons_succ, List.set_cons_zero, List.set_cons_succ, List.length_cons, List.length_nil, List.length_map, toSeq, isfG, isfB, tagOf, Option.bind_some, fMod_of, fDiv_of2, Int.reduceLT, decide_true, decide_false, Bool.not_true, Bool.not_false, reduceCtorEq, eq_self, Bool.or_false, Bool.false_or, Bool.true_or, Bool.or_true, Bool.and_false, Bool.false_and, Bool.true_and, Bool.and_true, Bool.and_self, Bool.or_self, Int.zero_add, ↓reduceIte, if_true, if_false, bAbs, bMax2, bMin2, bInt, bLen, bTuple, bList, bSum, bMax1, bMin1, items2, pZip, evLz, pRev, pRevT, evCallL, allInts_map, allPairs_map, bSorted, pEq_tup0, c, c2, zipT_ints, hL, f1, f2, c3, c4, c5, pIn_tupI, a1]
theorem sum_le {B : Int} : ∀ {ws : List Int}, (∀ w ∈ ws, 0 ≤ w ∧ w < B) → 0 ≤ ws.sum ∧ ws.sum ≤ ws.length * B
  | [], _ => ⟨Int.le_refl 0, by simp⟩
  | w :: ws, h => by
    have ih := sum_le (ws := ws) fun q hq => h q (List.mem_cons_of_mem _ hq)
    have := h w List.mem_cons_self
    rw [List.sum_cons, List.length_cons]
    have e : ((ws.length + 1 : Nat) : Int) * B = ws.length * B + B := by
      rw [Int.natCast_add, Int.add_mul]
      simp
    rw [e]
    omega
theorem ones_sz {ns ws : List Int} (hk : ns.length ≤ 1000) (hl : ns.length = ws.length) (h : ∀ w ∈ ws, 0 ≤ w ∧ w < 10 ^ 60) : Sz 1000 (ones ns ws).sum := by
  unfold ones
  split
  · rw [sum_ones]
    refine Sz.mono (k := 10) ?_ (by decide)
    unfold Sz
    omega
  · obtain ⟨h1, h2⟩ := sum_le h
    refine Sz.mono (k := 300) (Sz.of_lt h1 ?_) (by decide)
    have h3 : (ws.length : Int) * 10 ^ 60 ≤ 1000 * 10 ^ 60 := Int.mul_le_mul_of_nonneg_right (by omega) (by decide)
    have h4 : (1000 : Int) * 10 ^ 60 ≤ ((2 ^ 300 : Nat) : Int) := by decide
    omega
theorem cutG_mem {α : Type} {xs : List α} {lo hi : Option Int} {x : α} (h : x ∈ cutG xs lo hi) : x ∈ xs := List.mem_of_mem_drop (List.mem_of_mem_take h)
theorem cutG_len2 {α β : Type} {xs : List α} {ys : List β} (h : xs.length = ys.length) (lo hi : Option Int) : (cutG xs lo hi).length = (cutG ys lo hi).length := by
  unfold cutG
  rw [List.length_take, List.length_drop, List.length_take, List.length_drop, h]

end Hw
namespace Hw
open PySem PySem.Spec PyProof.Rows L2
/-- _law_drawn(_law_script); slots 0 _law_script, 1 _law_pairs, 2 _law_cell, 3 _law_number, 4 _law_weight; calls 16 _law_cell_at -/
def b21 : Sx :=
  .cons (.setO 1 (.lst (.nil))) (.cons (.forS (.one 2) (.seq (.sl (.var 0) (.int 2) (.int 101))) (.cons (.set 3 (.op .mod (.op .div (.var 2) (.int 2)) (.int 11))) (.cons (.ifs (.cmp .eq (.op .mod (.call 16 (.cons (.var 0) (.cons (.int 0) (.nil)))) (.int 2)) (.int 1)) (.cons (.set 3 (.op .mod (.op .div (.var 2) (.int 2)) (.op .pow (.int 10) (.int 60)))) (.nil)) (.nil)) (.cons (.set 4 (.op .mod (.op .div (.var 2) (.int 23)) (.int 4))) (.cons (.ifs (.cmp .eq (.op .mod (.op .div (.call 16 (.cons (.var 0) (.cons (.int 0) (.nil)))) (.int 2)) (.int 3)) (.int 1)) (.cons (.set 4 (.op .mod (.op .div (.var 2) (.int 11)) (.op .pow (.int 10) (.int 30)))) (.nil)) (.nil)) (.cons (.app 1 (.tup (.cons (.var 3) (.cons (.var 4) (.nil))))) (.nil))))))) (.cons (.frz [1] (.ret (.var 1))) (.nil)))
-- deps: 17
theorem p30 : fPow 10 30 = some (10 ^ 30) := fPow_of ⟨by decide, by decide, by decide⟩
theorem m30 (x : Int) : fMod x (10 ^ 30) = some (x % 10 ^ 30) := fMod_of (by decide)
theorem sp21 (Γ : Gm) (H : ∀ (ns : List Int) (k : Nat) O, Γ 16 [.lst (ns.map PV.int), .int k] O = some (.ok (.int (ns.getD k 0)) O)) (ss : List Int) (hss : ss.length ≤ 63) (O : Oms) : ∃ ps : List (Int × Int), evFun (evS Γ b21) 5 [.lst (ss.map PV.int)] O = some (.ok (.lst (ps.map prP)) O) ∧ ps.length ≤ 63 ∧ ∀ p ∈ ps, 0 ≤ p.2 ∧ p.2 < 10 ^ 30 := by
  have h0 : Γ 16 [.lst (ss.map PV.int), .int 0] O = some (.ok (.int (ss.getD 0 0)) O) := H ss 0 O
  revert h0
  generalize ss.getD 0 0 = x0
  intro h0
  have hsl : pSl (.lst (ss.map PV.int)) (some 2) (some 101) = some (.lst ((cutG ss (some 2) (some 101)).map PV.int)) := by rw [pSl_lst, cutG_map]
  obtain ⟨ρ', O', hL, rfl, ps, y2, y3, y4, rfl, l1, hw⟩ := loopS_inv (g := evT1 2) (xs := (cutG ss (some 2) (some 101)).map PV.int) (f := evS Γ (.cons (.set 3 (.op .mod (.op .div (.var 2) (.int 2)) (.int 11))) (.cons (.ifs (.cmp .eq (.op .mod (.call 16 (.cons (.var 0) (.cons (.int 0) (.nil)))) (.int 2)) (.int 1)) (.cons (.set 3 (.op .mod (.op .div (.var 2) (.int 2)) (.op .pow (.int 10) (.int 60)))) (.nil)) (.nil)) (.cons (.set 4 (.op .mod (.op .div (.var 2) (.int 23)) (.int 4))) (.cons (.ifs (.cmp .eq (.op .mod (.op .div (.call 16 (.cons (.var 0) (.cons (.int 0) (.nil)))) (.int 2)) (.int 3)) (.int 1)) (.cons (.set 4 (.op .mod (.op .div (.var 2) (.int 11)) (.op .pow (.int 10) (.int 30)))) (.nil)) (.nil)) (.cons (.app 1 (.tup (.cons (.var 3) (.cons (.var 4) (.nil))))) (.nil)))))))
    (fun i ρ O1 => O1 = O ∧ ∃ (ps : List (Int × Int)) (y2 y3 y4 : Option PV), ρ = [some (.lst (ss.map PV.int)), some (.owl (ps.map prP)), y2, y3, y4] ∧ ps.length = i ∧ ∀ p ∈ ps, 0 ≤ p.2 ∧ p.2 < 10 ^ 30)
    (fun i x ρ O1 hx ⟨eO, ps, y2, y3, y4, eρ, l1, hw⟩ => by
      subst eO eρ
      obtain ⟨c, _, rfl⟩ := List.mem_map.mp (List.mem_of_getElem? hx)
      have hi : i < 16777216 := by
        have := (List.getElem?_eq_some_iff.mp hx).1
        rw [List.length_map] at this
        have := cutG_len ss (some 2) (some 101)
        omega
      have hz : ps.length < sizeLine := by rw [l1]; exact hi
      have e10 : (0 : Int) < 10 ^ 30 := by decide
      have s1 : ∃ n : Int, evS Γ (.ifs (.cmp .eq (.op .mod (.call 16 (.cons (.var 0) (.cons (.int 0) (.nil)))) (.int 2)) (.int 1)) (.cons (.set 3 (.op .mod (.op .div (.var 2) (.int 2)) (.op .pow (.int 10) (.int 60)))) (.nil)) (.nil)) [some (.lst (ss.map PV.int)), some (.owl (ps.map prP)), some (.int c), some (.int (c / 2 % 11)), y4] O1 = some (.nx [some (.lst (ss.map PV.int)), some (.owl (ps.map prP)), some (.int c), some (.int n), y4] O1) := by
        by_cases a : x0 % 2 = 1
        · have ca := decide_eq_true a
          exact ⟨_, by simp only [evS, ev, evSeq, seqS_nx, seqS_rt, seqS_ex, evNx, evSet, evIf, evRet, evRetN, evAsg, evDrop, evFor, evApp, evSset, evAug, rX, rB, rA, rI, rP, ev2, ev1, evC, evCh, evAnd, evOr, evNot, evTr, evBl, evOfB, evIte, evTup, evLst, evBi, evCall, evCons, evNil, evVar, evOwn, evSetO, evFrz, frzPs, frzP, unOw, toOw, okW, noOw, evC0, evSl, evPn, evPs, toI, evSeqI, evRng, evIsi, bnd_ok, bnd_ex, ret_some, liftS_ok, B2.fn, B2.fnI, K2.fn, Bi.fn, Tg.fn, evT1, evTm, setAll, pInt, pOrd, pNeg, pAddS, toB, truth_int, truth_bl, pEq_int, pNe_int, Option.map_some, List.getElem?_cons_zero, List.getElem?_cons_succ, List.set_cons_zero, List.set_cons_succ, List.length_cons, List.length_nil, List.length_map, toSeq, isfG, isfB, tagOf, Option.bind_some, fMod_of, fDiv_of2, Int.reduceLT, decide_true, decide_false, Bool.not_true, Bool.not_false, reduceCtorEq, eq_self, Bool.or_false, Bool.false_or, Bool.true_or, Bool.or_true, Bool.and_false, Bool.false_and, Bool.true_and, Bool.and_true, Bool.and_self, Bool.or_self, Int.zero_add, ↓reduceIte, if_true, if_false, bAbs, bMax2, bMin2, bInt, bLen, bTuple, bList, bSum, bMax1, bMin1, items2, pZip, evLz, pRev, pRevT, evCallL, allInts_map, allPairs_map, bSorted, h0, ca, p60, m60]; rfl⟩
        · have ca := decide_eq_false a
          exact ⟨_, by simp only [evS, ev, evSeq, seqS_nx, seqS_rt, seqS_ex, evNx, evSet, evIf, evRet, evRetN, evAsg, evDrop, evFor, evApp, evSset, evAug, rX, rB, rA, rI, rP, ev2, ev1, evC, evCh, evAnd, evOr, evNot, evTr, evBl, evOfB, evIte, evTup, evLst, evBi, evCall, evCons, evNil, evVar, evOwn, evSetO, evFrz, frzPs, frzP, unOw, toOw, okW, noOw, evC0, evSl, evPn, evPs, toI, evSeqI, evRng, evIsi, bnd_ok, bnd_ex, ret_some, liftS_ok, B2.fn, B2.fnI, K2.fn, Bi.fn, Tg.fn, evT1, evTm, setAll, pInt, pOrd, pNeg, pAddS, toB, truth_int, truth_bl, pEq_int, pNe_int, Option.map_some, List.getElem?_cons_zero, List.getElem?_cons_succ, List.set_cons_zero, List.set_cons_succ, List.length_cons, List.length_nil, List.length_map, toSeq, isfG, isfB, tagOf, Option.bind_some, fMod_of, fDiv_of2, Int.reduceLT, decide_true, decide_false, Bool.not_true, Bool.not_false, reduceCtorEq, eq_self, Bool.or_false, Bool.false_or, Bool.true_or, Bool.or_true, Bool.and_false, Bool.false_and, Bool.true_and, Bool.and_true, Bool.and_self, Bool.or_self, Int.zero_add, ↓reduceIte, if_true, if_false, bAbs, bMax2, bMin2, bInt, bLen, bTuple, bList, bSum, bMax1, bMin1, items2, pZip, evLz, pRev, pRevT, evCallL, allInts_map, allPairs_map, bSorted, h0, ca]; rfl⟩
      obtain ⟨n, s1⟩ := s1
      have s2 : ∃ w : Int, 0 ≤ w ∧ w < 10 ^ 30 ∧ evS Γ (.ifs (.cmp .eq (.op .mod (.op .div (.call 16 (.cons (.var 0) (.cons (.int 0) (.nil)))) (.int 2)) (.int 3)) (.int 1)) (.cons (.set 4 (.op .mod (.op .div (.var 2) (.int 11)) (.op .pow (.int 10) (.int 30)))) (.nil)) (.nil)) [some (.lst (ss.map PV.int)), some (.owl (ps.map prP)), some (.int c), some (.int n), some (.int (c / 23 % 4))] O1 = some (.nx [some (.lst (ss.map PV.int)), some (.owl (ps.map prP)), some (.int c), some (.int n), some (.int w)] O1) := by
        by_cases a : x0 / 2 % 3 = 1
        · have ca := decide_eq_true a
          exact ⟨c / 11 % 10 ^ 30, Int.emod_nonneg _ (by decide), Int.emod_lt_of_pos _ e10, by simp only [evS, ev, evSeq, seqS_nx, seqS_rt, seqS_ex, evNx, evSet, evIf, evRet, evRetN, evAsg, evDrop, evFor, evApp, evSset, evAug, rX, rB, rA, rI, rP, ev2, ev1, evC, evCh, evAnd, evOr, evNot, evTr, evBl, evOfB, evIte, evTup, evLst, evBi, evCall, evCons, evNil, evVar, evOwn, evSetO, evFrz, frzPs, frzP, unOw, toOw, okW, noOw, evC0, evSl, evPn, evPs, toI, evSeqI, evRng, evIsi, bnd_ok, bnd_ex, ret_some, liftS_ok, B2.fn, B2.fnI, K2.fn, Bi.fn, Tg.fn, evT1, evTm, setAll, pInt, pOrd, pNeg, pAddS, toB, truth_int, truth_bl, pEq_int, pNe_int, Option.map_some, List.getElem?_cons_zero, List.getElem?_cons_succ, List.set_cons_zero, List.set_cons_succ, List.length_cons, List.length_nil, List.length_map, toSeq, isfG, isfB, tagOf, Option.bind_some, fMod_of, fDiv_of2, Int.reduceLT, decide_true, decide_false, Bool.not_true, Bool.not_false, reduceCtorEq, eq_self, Bool.or_false, Bool.false_or, Bool.true_or, Bool.or_true, Bool.and_false, Bool.false_and, Bool.true_and, Bool.and_true, Bool.and_self, Bool.or_self, Int.zero_add, ↓reduceIte, if_true, if_false, bAbs, bMax2, bMin2, bInt, bLen, bTuple, bList, bSum, bMax1, bMin1, items2, pZip, evLz, pRev, pRevT, evCallL, allInts_map, allPairs_map, bSorted, h0, ca, p30, m30]⟩
        · have ca := decide_eq_false a
          exact ⟨c / 23 % 4, by omega, by omega, by simp only [evS, ev, evSeq, seqS_nx, seqS_rt, seqS_ex, evNx, evSet, evIf, evRet, evRetN, evAsg, evDrop, evFor, evApp, evSset, evAug, rX, rB, rA, rI, rP, ev2, ev1, evC, evCh, evAnd, evOr, evNot, evTr, evBl, evOfB, evIte, evTup, evLst, evBi, evCall, evCons, evNil, evVar, evOwn, evSetO, evFrz, frzPs, frzP, unOw, toOw, okW, noOw, evC0, evSl, evPn, evPs, toI, evSeqI, evRng, evIsi, bnd_ok, bnd_ex, ret_some, liftS_ok, B2.fn, B2.fnI, K2.fn, Bi.fn, Tg.fn, evT1, evTm, setAll, pInt, pOrd, pNeg, pAddS, toB, truth_int, truth_bl, pEq_int, pNe_int, Option.map_some, List.getElem?_cons_zero, List.getElem?_cons_succ, List.set_cons_zero, List.set_cons_succ, List.length_cons, List.length_nil, List.length_map, toSeq, isfG, isfB, tagOf, Option.bind_some, fMod_of, fDiv_of2, Int.reduceLT, decide_true, decide_false, Bool.not_true, Bool.not_false, reduceCtorEq, eq_self, Bool.or_false, Bool.false_or, Bool.true_or, Bool.or_true, Bool.and_false, Bool.false_and, Bool.true_and, Bool.and_true, Bool.and_self, Bool.or_self, Int.zero_add, ↓reduceIte, if_true, if_false, bAbs, bMax2, bMin2, bInt, bLen, bTuple, bList, bSum, bMax1, bMin1, items2, pZip, evLz, pRev, pRevT, evCallL, allInts_map, allPairs_map, bSorted, h0, ca]⟩
      obtain ⟨w', w1', w2', s2⟩ := s2
      refine ⟨[some (.lst (ss.map PV.int)), some (.owl (ps.map prP)), some (.int c), y3, y4], [some (.lst (ss.map PV.int)), some (.owl ((ps ++ [(n, w')]).map prP)), some (.int c), some (.int n), some (.int w')], O1, rfl, ?_, rfl, ps ++ [(n, w')], _, _, _, rfl, by rw [List.length_append, l1]; rfl, fun v hv => ?_⟩
      · rw [evS_cons (O1 := O1) (ρ1 := [some (.lst (ss.map PV.int)), some (.owl (ps.map prP)), some (.int c), some (.int (c / 2 % 11)), y4]) (by simp only [evS, ev, evSeq, seqS_nx, seqS_rt, seqS_ex, evNx, evSet, evIf, evRet, evRetN, evAsg, evDrop, evFor, evApp, evSset, evAug, rX, rB, rA, rI, rP, ev2, ev1, evC, evCh, evAnd, evOr, evNot, evTr, evBl, evOfB, evIte, evTup, evLst, evBi, evCall, evCons, evNil, evVar, evOwn, evSetO, evFrz, frzPs, frzP, unOw, toOw, okW, noOw, evC0, evSl, evPn, evPs, toI, evSeqI, evRng, evIsi, bnd_ok, bnd_ex, ret_some, liftS_ok, B2.fn, B2.fnI, K2.fn, Bi.fn, Tg.fn, evT1, evTm, setAll, pInt, pOrd, pNeg, pAddS, toB, truth_int, truth_bl, pEq_int, pNe_int, Option.map_some, List.getElem?_cons_zero, List.getElem?_cons_succ, List.set_cons_zero, List.set_cons_succ, List.length_cons, List.length_nil, List.length_map, toSeq, isfG, isfB, tagOf, Option.bind_some, fMod_of, fDiv_of2, Int.reduceLT, decide_true, decide_false, Bool.not_true, Bool.not_false, reduceCtorEq, eq_self, Bool.or_false, Bool.false_or, Bool.true_or, Bool.or_true, Bool.and_false, Bool.false_and, Bool.true_and, Bool.and_true, Bool.and_self, Bool.or_self, Int.zero_add, ↓reduceIte, if_true, if_false, bAbs, bMax2, bMin2, bInt, bLen, bTuple, bList, bSum, bMax1, bMin1, items2, pZip, evLz, pRev, pRevT, evCallL, allInts_map, allPairs_map, bSorted]), evS_cons s1, evS_cons (O1 := O1) (ρ1 := [some (.lst (ss.map PV.int)), some (.owl (ps.map prP)), some (.int c), some (.int n), some (.int (c / 23 % 4))]) (by simp only [evS, ev, evSeq, seqS_nx, seqS_rt, seqS_ex, evNx, evSet, evIf, evRet, evRetN, evAsg, evDrop, evFor, evApp, evSset, evAug, rX, rB, rA, rI, rP, ev2, ev1, evC, evCh, evAnd, evOr, evNot, evTr, evBl, evOfB, evIte, evTup, evLst, evBi, evCall, evCons, evNil, evVar, evOwn, evSetO, evFrz, frzPs, frzP, unOw, toOw, okW, noOw, evC0, evSl, evPn, evPs, toI, evSeqI, evRng, evIsi, bnd_ok, bnd_ex, ret_some, liftS_ok, B2.fn, B2.fnI, K2.fn, Bi.fn, Tg.fn, evT1, evTm, setAll, pInt, pOrd, pNeg, pAddS, toB, truth_int, truth_bl, pEq_int, pNe_int, Option.map_some, List.getElem?_cons_zero, List.getElem?_cons_succ, List.set_cons_zero, List.set_cons_succ, List.length_cons, List.length_nil, List.length_map, toSeq, isfG, isfB, tagOf, Option.bind_some, fMod_of, fDiv_of2, Int.reduceLT, decide_true, decide_false, Bool.not_true, Bool.not_false, reduceCtorEq, eq_self, Bool.or_false, Bool.false_or, Bool.true_or, Bool.or_true, Bool.and_false, Bool.false_and, Bool.true_and, Bool.and_true, Bool.and_self, Bool.or_self, Int.zero_add, ↓reduceIte, if_true, if_false, bAbs, bMax2, bMin2, bInt, bLen, bTuple, bList, bSum, bMax1, bMin1, items2, pZip, evLz, pRev, pRevT, evCallL, allInts_map, allPairs_map, bSorted]), evS_cons s2, List.map_append]
        simp only [evS, ev, evSeq, seqS_nx, seqS_rt, seqS_ex, evNx, evSet, evIf, evRet, evRetN, evAsg, evDrop, evFor, evApp, evSset, evAug, rX, rB, rA, rI, rP, ev2, ev1, evC, evCh, evAnd, evOr, evNot, evTr, evBl, evOfB, evIte, evTup, evLst, evBi, evCall, evCons, evNil, evVar, evOwn, evSetO, evFrz, frzPs, frzP, unOw, toOw, okW, noOw, evC0, evSl, evPn, evPs, toI, evSeqI, evRng, evIsi, bnd_ok, bnd_ex, ret_some, liftS_ok, B2.fn, B2.fnI, K2.fn, Bi.fn, Tg.fn, evT1, evTm, setAll, pInt, pOrd, pNeg, pAddS, toB, truth_int, truth_bl, pEq_int, pNe_int, Option.map_some, List.getElem?_cons_zero, List.getElem?_cons_succ, List.set_cons_zero, List.set_cons_succ, List.length_cons, List.length_nil, List.length_map, toSeq, isfG, isfB, tagOf, Option.bind_some, fMod_of, fDiv_of2, Int.reduceLT, decide_true, decide_false, Bool.not_true, Bool.not_false, reduceCtorEq, eq_self, Bool.or_false, Bool.false_or, Bool.true_or, Bool.or_true, Bool.and_false, Bool.false_and, Bool.true_and, Bool.and_true, Bool.and_self, Bool.or_self, Int.zero_add, ↓reduceIte, if_true, if_false, bAbs, bMax2, bMin2, bInt, bLen, bTuple, bList, bSum, bMax1, bMin1, items2, pZip, evLz, pRev, pRevT, evCallL, allInts_map, allPairs_map, bSorted, hz]
        rfl
      · rcases List.mem_append.mp hv with hv | hv
        · exact hw v hv
        · rw [List.mem_singleton.mp hv]
          exact ⟨w1', w2'⟩) [some (.lst (ss.map PV.int)), some (.owl []), none, none, none] O ⟨rfl, [], none, none, none, rfl, rfl, fun w hw => by cases hw⟩
  refine ⟨ps, evFun_rt (O' := O') (ρ := [some (.lst (ss.map PV.int)), none, none, none, none]) rfl ?_, ?_, hw⟩
  · simp only [evS, ev, evSeq, seqS_nx, seqS_rt, seqS_ex, evNx, evSet, evIf, evRet, evRetN, evAsg, evDrop, evFor, evApp, evSset, evAug, rX, rB, rA, rI, rP, ev2, ev1, evC, evCh, evAnd, evOr, evNot, evTr, evBl, evOfB, evIte, evTup, evLst, evBi, evCall, evCons, evNil, evVar, evOwn, evSetO, evFrz, frzPs, frzP, unOw, toOw, okW, noOw, evC0, evSl, evPn, evPs, toI, evSeqI, evRng, evIsi, bnd_ok, bnd_ex, ret_some, liftS_ok, B2.fn, B2.fnI, K2.fn, Bi.fn, Tg.fn, evT1, evTm, setAll, pInt, pOrd, pNeg, pAddS, toB, truth_int, truth_bl, pEq_int, pNe_int, Option.map_some, List.getElem?_cons_zero, List.getElem?_cons_succ, List.set_cons_zero, List.set_cons_succ, List.length_cons, List.length_nil, List.length_map, toSeq, isfG, isfB, tagOf, Option.bind_some, fMod_of, fDiv_of2, Int.reduceLT, decide_true, decide_false, Bool.not_true, Bool.not_false, reduceCtorEq, eq_self, Bool.or_false, Bool.false_or, Bool.true_or, Bool.or_true, Bool.and_false, Bool.false_and, Bool.true_and, Bool.and_true, Bool.and_self, Bool.or_self, Int.zero_add, ↓reduceIte, if_true, if_false, bAbs, bMax2, bMin2, bInt, bLen, bTuple, bList, bSum, bMax1, bMin1, items2, pZip, evLz, pRev, pRevT, evCallL, allInts_map, allPairs_map, bSorted] at hL
    simp only [b21, evS, ev, evSeq, seqS_nx, seqS_rt, seqS_ex, evNx, evSet, evIf, evRet, evRetN, evAsg, evDrop, evFor, evApp, evSset, evAug, rX, rB, rA, rI, rP, ev2, ev1, evC, evCh, evAnd, evOr, evNot, evTr, evBl, evOfB, evIte, evTup, evLst, evBi, evCall, evCons, evNil, evVar, evOwn, evSetO, evFrz, frzPs, frzP, unOw, toOw, okW, noOw, evC0, evSl, evPn, evPs, toI, evSeqI, evRng, evIsi, bnd_ok, bnd_ex, ret_some, liftS_ok, B2.fn, B2.fnI, K2.fn, Bi.fn, Tg.fn, evT1, evTm, setAll, pInt, pOrd, pNeg, pAddS, toB, truth_int, truth_bl, pEq_int, pNe_int, Option.map_some, List.getElem?_cons_zero, List.getElem?_cons_succ, List.set_cons_zero, List.set_cons_succ, List.length_cons, List.length_nil, List.length_map, toSeq, isfG, isfB, tagOf, Option.bind_some, fMod_of, fDiv_of2, Int.reduceLT, decide_true, decide_false, Bool.not_true, Bool.not_false, reduceCtorEq, eq_self, Bool.or_false, Bool.false_or, Bool.true_or, Bool.or_true, Bool.and_false, Bool.false_and, Bool.true_and, Bool.and_true, Bool.and_self, Bool.or_self, Int.zero_add, ↓reduceIte, if_true, if_false, bAbs, bMax2, bMin2, bInt, bLen, bTuple, bList, bSum, bMax1, bMin1, items2, pZip, evLz, pRev, pRevT, evCallL, allInts_map, allPairs_map, bSorted, hsl, hL]
  · rw [l1, List.length_map]
    have := cutG_len ss (some 2) (some 101)
    omega

end Hw
namespace Hw
open PySem PySem.Spec PyProof.Rows L2
/-- _law_middle(_law_pairs); slots 0 _law_pairs, 1 _law_number, 2 _law_weight; calls 18 middle -/
def b22 : Sx :=
  .cons (.ret (.call 18 (.cons (.bi .tuple (.cons (.comp (.many [1, 2]) [1, 2] (.seq (.var 0)) (.var 1)) (.nil))) (.cons (.bi .tuple (.cons (.comp (.many [1, 2]) [1, 2] (.seq (.var 0)) (.var 2)) (.nil))) (.nil))))) (.nil)
-- deps: 18
def midP (ps : List (Int × Int)) : Int := mid (ps.map Prod.fst) (ps.map Prod.snd)
theorem sp22 (Γ : Gm) (H18 : ∀ (ns ws : List Int) O, ns.length = ws.length → ns.length ≤ 1000 → (∀ w ∈ ws, 0 ≤ w) → Sz 1000 (ones ns ws).sum → Γ 18 [.tup (ns.map PV.int), .tup (ws.map PV.int)] O = some (.ok (.int (mid ns ws)) O))
    (ps : List (Int × Int)) (O : Oms) (hl : ps.length ≤ 1000) (h0 : ∀ p ∈ ps, 0 ≤ p.2) (hs : Sz 1000 (ones (ps.map Prod.fst) (ps.map Prod.snd)).sum) : evFun (evS Γ b22) 3 [.lst (ps.map prP)] O = some (.ok (.int (midP ps)) O) := by
  refine evFun_rt (O' := O) (ρ := [some (.lst (ps.map prP)), none, none]) rfl ?_
  have hC : ∀ (i : Nat) (F : PV → PV), (∀ p : Int × Int, ∃ ρ1, evTm [1, 2] (prP p) [some (.lst (ps.map prP)), none, none] = some ρ1 ∧ evVar i ρ1 O = some (.ok (F (prP p)) O)) → evComp (evSeqI (evVar 0)) (evTm [1, 2]) evYes (evVar i) [1, 2] [some (.lst (ps.map prP)), none, none] O = some (.ok (.lst ((ps.map prP).map F)) O) := fun i F h => evComp_map rfl (by rw [List.length_map]; exact Nat.le_trans hl (by decide)) rfl fun x hx => by
    obtain ⟨p, _, rfl⟩ := List.mem_map.mp hx
    exact h p
  have c1 := hC 1 (fun x => match x with | .tup [a, _] => a | x => x) fun p => ⟨_, rfl, rfl⟩
  have c2 := hC 2 (fun x => match x with | .tup [_, a] => a | x => x) fun p => ⟨_, rfl, rfl⟩
  have e1 : (ps.map prP).map (fun x => match x with | .tup [a, _] => a | x => x) = (ps.map Prod.fst).map PV.int := by
    rw [List.map_map, List.map_map]
    rfl
  have e2 : (ps.map prP).map (fun x => match x with | .tup [_, a] => a | x => x) = (ps.map Prod.snd).map PV.int := by
    rw [List.map_map, List.map_map]
    rfl
  rw [e1] at c1
  rw [e2] at c2
  have a := H18 (ps.map Prod.fst) (ps.map Prod.snd) O (by rw [List.length_map, List.length_map]) (by rw [List.length_map]; exact hl) (fun w hw => by
    obtain ⟨p, hp, rfl⟩ := List.mem_map.mp hw
    exact h0 p hp) hs
  have e : mid (ps.map Prod.fst) (ps.map Prod.snd) = midP ps := rfl
  rw [e] at a
  simp only [b22, evS, ev, evSeq, seqS_nx, seqS_rt, seqS_ex, evNx, evSet, evIf, evRet, evRetN, evAsg, evDrop, evFor, evApp, evSset, evAug, rX, rB, rA, rI, rP, ev2, ev1, evC, evCh, evAnd, evOr, evNot, evTr, evBl, evOfB, evIte, evTup, evLst, evBi, evCall, evCons, evNil, evVar, evOwn, evSetO, evFrz, frzPs, frzP, unOw, toOw, okW, noOw, evC0, evSl, evPn, evPs, toI, evSeqI, evRng, evIsi, bnd_ok, bnd_ex, ret_some, liftS_ok, B2.fn, B2.fnI, K2.fn, Bi.fn, Tg.fn, evT1, evTm, setAll, pInt, pOrd, pNeg, pAddS, toB, truth_int, truth_bl, pEq_int, pNe_int, Option.map_some, List.getElem?_cons_zero, List.getElem?_cons_succ, List.set_cons_zero, List.set_cons_succ, List.length_cons, List.length_nil, List.length_map, toSeq, isfG, isfB, tagOf, Option.bind_some, fMod_of, fDiv_of2, Int.reduceLT, decide_true, decide_false, Bool.not_true, Bool.not_false, reduceCtorEq, eq_self, Bool.or_false, Bool.false_or, Bool.true_or, Bool.or_true, Bool.and_false, Bool.false_and, Bool.true_and, Bool.and_true, Bool.and_self, Bool.or_self, Int.zero_add, ↓reduceIte, if_true, if_false, bAbs, bMax2, bMin2, bInt, bLen, bTuple, bList, bSum, bMax1, bMin1, items2, pZip, evLz, pRev, pRevT, evCallL, allInts_map, allPairs_map, bSorted, c1, c2, a]

end Hw
namespace Hw
open PySem PySem.Spec PyProof.Rows L2
-- deps: 19 22
def onesP (ps : List (Int × Int)) : List (Int × Int) := if sumW ps = 0 then ps.map (fun p => (p.1, 1)) else ps
def Half (f : Int) (ps : List (Int × Int)) : Prop := 2 * belowW f ps < sumW ps ∧ sumW ps ≤ 2 * (belowW f ps + atW f ps)
abbrev NN (ps : List (Int × Int)) : Prop := ∀ p ∈ ps, 0 ≤ p.2
theorem zip_ones (ps : List (Int × Int)) : (ps.map Prod.fst).zip (ones (ps.map Prod.fst) (ps.map Prod.snd)) = onesP ps := by
  unfold ones onesP sumW
  split
  · rw [List.map_map, List.zip_map']
    rfl
  · rw [List.zip_map']
    exact List.map_id _
theorem onesP_nn {ps : List (Int × Int)} (h : NN ps) : NN (onesP ps) := by
  unfold onesP
  split
  · intro p hp
    obtain ⟨q, _, rfl⟩ := List.mem_map.mp hp
    show (0 : Int) ≤ 1
    decide
  · exact h
theorem half_mid {ps : List (Int × Int)} (h : NN ps) (h0 : ps ≠ []) : Half (midP ps) (onesP ps) := by
  obtain ⟨_, h1, h2⟩ := mid_spec (ns := ps.map Prod.fst) (ws := ps.map Prod.snd) (by rw [List.length_map, List.length_map]) (fun w hw => by
    obtain ⟨p, hp, rfl⟩ := List.mem_map.mp hw
    exact h p hp) (fun z => h0 (List.map_eq_nil_iff.mp z))
  have eS : sumW (onesP ps) = (ones (ps.map Prod.fst) (ps.map Prod.snd)).sum := by
    rw [← zip_ones]
    unfold sumW
    rw [zip_snd (ones_len (by rw [List.length_map, List.length_map]))]
  rw [zip_ones, ← eS] at h1 h2
  exact ⟨h1, h2⟩
theorem below_lt {f g : Int} (h : f < g) : ∀ {ps : List (Int × Int)}, NN ps → belowW f ps + atW f ps ≤ belowW g ps
  | [], _ => Int.le_refl 0
  | p :: ps, hp => by
    have ih := below_lt h (ps := ps) fun q hq => hp q (List.mem_cons_of_mem _ hq)
    have := hp p List.mem_cons_self
    rw [belowW, belowW, atW]
    split <;> split <;> split <;> omega
theorem half_uniq {f g : Int} {ps : List (Int × Int)} (h : NN ps) (hf : Half f ps) (hg : Half g ps) : f = g := by
  unfold Half at *
  rcases Int.lt_trichotomy f g with q | q | q
  · have := below_lt q h
    omega
  · exact q
  · have := below_lt q h
    omega
theorem midP_eq {ps qs : List (Int × Int)} (h : NN ps) (h' : NN qs) (h0 : ps ≠ []) (h0' : qs ≠ []) (k : ∀ f, Half f (onesP ps) → Half f (onesP qs)) : midP qs = midP ps :=
  half_uniq (onesP_nn h') (half_mid h' h0') (k _ (half_mid h h0))
theorem midP_perm {ps qs : List (Int × Int)} (h : NN ps) (e : ps.Perm qs) : midP qs = midP ps := by
  by_cases h0 : ps = []
  · subst h0
    rw [e.nil_eq]
  · refine midP_eq h (fun p hp => h p (e.mem_iff.mpr hp)) h0 (fun z => h0 (by subst z; exact e.eq_nil)) fun f hf => ?_
    have e2 : (onesP ps).Perm (onesP qs) := by
      unfold onesP
      rw [sumW_perm e]
      split
      · exact e.map _
      · exact e
    unfold Half at *
    rw [← sumW_perm e2, ← belowW_perm e2, ← atW_perm e2]
    exact hf
def scl (k : Int) (ps : List (Int × Int)) : List (Int × Int) := ps.map fun p => (p.1, p.2 * k)
theorem scl_sum (k : Int) : ∀ ps, sumW (scl k ps) = sumW ps * k
  | [] => by show (0 : Int) = 0 * k; rw [Int.zero_mul]
  | p :: ps => by
    show sumW ((p.1, p.2 * k) :: scl k ps) = _
    rw [sumW_cons, sumW_cons, scl_sum k ps, Int.add_mul]
theorem scl_below (k f : Int) : ∀ ps, belowW f (scl k ps) = belowW f ps * k
  | [] => by show (0 : Int) = 0 * k; rw [Int.zero_mul]
  | p :: ps => by
    show belowW f ((p.1, p.2 * k) :: scl k ps) = _
    rw [belowW, belowW, scl_below k f ps, Int.add_mul]
    split <;> simp
theorem scl_at (k f : Int) : ∀ ps, atW f (scl k ps) = atW f ps * k
  | [] => by show (0 : Int) = 0 * k; rw [Int.zero_mul]
  | p :: ps => by
    show atW f ((p.1, p.2 * k) :: scl k ps) = _
    rw [atW, atW, scl_at k f ps, Int.add_mul]
    split <;> simp
theorem midP_scl {ps : List (Int × Int)} {k : Int} (h : NN ps) (hk : 0 < k) : midP (scl k ps) = midP ps := by
  by_cases h0 : ps = []
  · subst h0
    rfl
  · refine midP_eq h (fun p hp => ?_) h0 (fun z => h0 (List.map_eq_nil_iff.mp z)) fun f hf => ?_
    · obtain ⟨q, hq, rfl⟩ := List.mem_map.mp hp
      exact Int.mul_nonneg (h q hq) (by omega)
    · by_cases hs : sumW ps = 0
      · have e1 : onesP ps = ps.map (fun p => (p.1, 1)) := if_pos hs
        have e2 : onesP (scl k ps) = (scl k ps).map (fun p => (p.1, 1)) := if_pos (by rw [scl_sum, hs, Int.zero_mul])
        have e3 : (scl k ps).map (fun p => (p.1, (1 : Int))) = ps.map (fun p => (p.1, 1)) := by
          unfold scl
          rw [List.map_map]
          rfl
        rw [e2, e3, ← e1]
        exact hf
      · have e1 : onesP ps = ps := if_neg hs
        have hs2 : sumW (scl k ps) ≠ 0 := by
          rw [scl_sum]
          intro z
          rcases Int.mul_eq_zero.mp z with z | z
          · exact hs z
          · omega
        have e2 : onesP (scl k ps) = scl k ps := if_neg hs2
        rw [e1] at hf
        rw [e2]
        unfold Half at *
        rw [scl_sum, scl_below, scl_at, ← Int.mul_assoc, ← Int.add_mul, ← Int.mul_assoc]
        exact ⟨Int.mul_lt_mul_of_pos_right hf.1 hk, Int.mul_le_mul_of_nonneg_right hf.2 (by omega)⟩
/-- alike in all that counts -/
theorem midP_like {ps qs : List (Int × Int)} (h : NN ps) (h' : NN qs) (h0 : ps ≠ []) (h0' : qs ≠ []) (hs : sumW ps ≠ 0) (e1 : sumW qs = sumW ps) (e2 : ∀ f, belowW f qs = belowW f ps) (e3 : ∀ f, atW f qs = atW f ps) : midP qs = midP ps := by
  refine midP_eq h h' h0 h0' fun f hf => ?_
  have a1 : onesP ps = ps := if_neg hs
  have a2 : onesP qs = qs := if_neg (by rw [e1]; exact hs)
  rw [a1] at hf
  rw [a2]
  unfold Half at *
  rw [e1, e2, e3]
  exact hf
def posP (ps : List (Int × Int)) : List (Int × Int) := ps.filter fun p => decide (0 < p.2)
theorem posP_all (f : Int) : ∀ {ps : List (Int × Int)}, NN ps → sumW (posP ps) = sumW ps ∧ belowW f (posP ps) = belowW f ps ∧ atW f (posP ps) = atW f ps
  | [], _ => ⟨rfl, rfl, rfl⟩
  | p :: ps, h => by
    obtain ⟨i1, i2, i3⟩ := posP_all f (ps := ps) fun q hq => h q (List.mem_cons_of_mem _ hq)
    have := h p List.mem_cons_self
    unfold posP at *
    rw [List.filter_cons]
    by_cases c : 0 < p.2
    · rw [if_pos (decide_eq_true c), sumW_cons, sumW_cons, belowW, belowW, atW, atW, i1, i2, i3]
      exact ⟨rfl, rfl, rfl⟩
    · have e : p.2 = 0 := by omega
      rw [if_neg (by simpa using c), sumW_cons, belowW, atW, i1, i2, i3, e]
      refine ⟨by omega, ?_, ?_⟩ <;> split <;> omega
theorem posP_sum {ps : List (Int × Int)} (h : NN ps) (h0 : posP ps ≠ []) : sumW ps ≠ 0 := by
  rw [← (posP_all 0 h).1]
  have hn : ∀ qs : List (Int × Int), (∀ q ∈ qs, 0 < q.2) → qs ≠ [] → sumW qs ≠ 0 := by
    intro qs hq hz
    cases qs with
    | nil => exact absurd rfl hz
    | cons q qs =>
      rw [sumW_cons]
      have := hq q List.mem_cons_self
      have := sumW_nn (ps := qs) fun r hr => Int.le_of_lt (hq r (List.mem_cons_of_mem _ hr))
      omega
  exact hn _ (fun q hq => of_decide_eq_true (List.mem_filter.mp hq).2) h0
theorem midP_pos {ps : List (Int × Int)} (h : NN ps) (h0 : posP ps ≠ []) : midP (posP ps) = midP ps :=
  midP_like h (fun p hp => h p (List.mem_filter.mp hp).1) (fun z => h0 (by subst z; rfl)) h0 (posP_sum h h0) (posP_all 0 h).1 (fun f => (posP_all f h).2.1) fun f => (posP_all f h).2.2
theorem midP_part {us vs : List (Int × Int)} {n a b : Int} (h : NN (us ++ (n, a + b) :: vs)) (ha : 0 ≤ a) (hb : 0 ≤ b) (hs : sumW (us ++ (n, a + b) :: vs) ≠ 0) : midP (us ++ [(n, a)] ++ vs ++ [(n, b)]) = midP (us ++ (n, a + b) :: vs) := by
  have p1 : (us ++ (n, a + b) :: vs).Perm ((n, a + b) :: (us ++ vs)) := List.perm_middle
  have p2 : (us ++ [(n, a)] ++ vs ++ [(n, b)]).Perm ((n, b) :: (n, a) :: (us ++ vs)) := by
    refine (List.perm_append_singleton _ _).trans (List.Perm.cons _ ?_)
    rw [List.append_assoc]
    exact List.perm_middle
  refine midP_like h (fun p hp => ?_) (by simp) (by simp) hs ?_ (fun f => ?_) fun f => ?_
  · rcases List.mem_cons.mp (p2.mem_iff.mp hp) with rfl | hp
    · exact hb
    · rcases List.mem_cons.mp hp with rfl | hp
      · exact ha
      · exact h p (p1.mem_iff.mpr (List.mem_cons_of_mem _ hp))
  · rw [sumW_perm p1, sumW_perm p2, sumW_cons, sumW_cons, sumW_cons]
    omega
  · rw [belowW_perm p1, belowW_perm p2, belowW, belowW, belowW]
    dsimp only
    split <;> omega
  · rw [atW_perm p1, atW_perm p2, atW, atW, atW]
    dsimp only
    split <;> omega

end Hw
namespace Hw
open PySem PySem.Spec PyProof.Rows L2
/-- law(_law_script); slots 0 _law_script, 1 _law_pairs, 2 _law_found, 3 _law_cell, 4 _law_at, 5 _law_by, 6 _law_some, 7 _law_part, 8 _law_number, 9 _law_weight; calls 16 _law_cell_at, 21 _law_drawn, 22 _law_middle -/
def b23 : Sx :=
  .cons (.set 1 (.call 21 (.cons (.var 0) (.nil)))) (.cons (.set 2 (.call 22 (.cons (.var 1) (.nil)))) (.cons (.set 3 (.call 16 (.cons (.var 0) (.cons (.int 1) (.nil))))) (.cons (.set 4 (.op .mod (.var 3) (.bi .max2 (.cons (.int 1) (.cons (.bi .len (.cons (.var 1) (.nil))) (.nil)))))) (.cons (.ifs (.or (.cmp .ne (.call 22 (.cons (.revL (.var 1)) (.nil))) (.var 2)) (.one (.cmp .ne (.call 22 (.cons (.op .add (.sl (.var 1) (.var 4) (.pn)) (.sl (.var 1) (.pn) (.var 4))) (.nil))) (.var 2)))) (.cons (.ret (.bl false)) (.nil)) (.nil)) (.cons (.set 5 (.op .add (.int 1) (.op .mod (.var 3) (.op .pow (.int 10) (.int 30))))) (.cons (.ifs (.cmp .ne (.call 22 (.cons (.comp (.many [8, 9]) [8, 9] (.seq (.var 1)) (.tup (.cons (.var 8) (.cons (.op .mul (.var 9) (.var 5)) (.nil))))) (.nil))) (.var 2)) (.cons (.ret (.bl false)) (.nil)) (.nil)) (.cons (.set 6 (.compc (.many [8, 9]) [8, 9] (.seq (.var 1)) (.cmp .gt (.var 9) (.int 0)) (.tup (.cons (.var 8) (.cons (.var 9) (.nil)))))) (.cons (.ifs (.and (.cmp .ne (.var 6) (.lst (.nil))) (.one (.cmp .ne (.call 22 (.cons (.var 6) (.nil))) (.var 2)))) (.cons (.ret (.bl false)) (.nil)) (.nil)) (.cons (.ifs (.and (.cmp .ne (.var 1) (.lst (.nil))) (.one (.cmp .ne (.var 6) (.lst (.nil))))) (.cons (.asg (.many [8, 9]) (.ix (.var 1) (.var 4))) (.cons (.set 7 (.op .mod (.op .div (.var 3) (.int 7)) (.op .add (.var 9) (.int 1)))) (.cons (.ifs (.cmp .ne (.call 22 (.cons (.op .add (.op .add (.op .add (.sl (.var 1) (.pn) (.var 4)) (.lst (.cons (.tup (.cons (.var 8) (.cons (.var 7) (.nil)))) (.nil)))) (.sl (.var 1) (.op .add (.var 4) (.int 1)) (.pn))) (.lst (.cons (.tup (.cons (.var 8) (.cons (.op .sub (.var 9) (.var 7)) (.nil)))) (.nil)))) (.nil))) (.var 2)) (.cons (.ret (.bl false)) (.nil)) (.nil)) (.nil)))) (.nil)) (.cons (.ret (.cmp .eq (.call 22 (.cons (.var 1) (.nil))) (.var 2))) (.nil)))))))))))
-- deps: 17 18 19 21 22 M23
theorem cutG_drop {α : Type} {xs : List α} {k : Nat} (h : k ≤ xs.length) : cutG xs (some (k : Int)) none = xs.drop k := by
  unfold cutG
  rw [HT.sIx_nat, HT.sIx_none, Nat.min_eq_left h, ← List.length_drop]
  exact List.take_length
theorem cutG_take {α : Type} {xs : List α} {k : Nat} (h : k ≤ xs.length) : cutG xs none (some (k : Int)) = xs.take k := by
  unfold cutG
  rw [HT.sIx_nat, HT.sIx_none, Nat.min_eq_left h, Nat.sub_zero, List.drop_zero]
theorem pAddP {xs ys : List (Int × Int)} (h : xs.length + ys.length ≤ 1000) : pAdd (.lst (xs.map prP)) (.lst (ys.map prP)) = some (.lst ((xs ++ ys).map prP)) := by
  unfold pAdd
  dsimp only
  rw [List.length_map, List.length_map, if_pos (Nat.le_trans h (by decide)), List.map_append]
theorem pNe_prs (ps : List (Int × Int)) : pNe (.lst (ps.map prP)) (.lst []) = some (!decide (ps = [])) := by
  unfold pNe
  rw [pEq_pl (k := 2) (m := 1) (.lst (pls_of fun x hx => by
    obtain ⟨p, _, rfl⟩ := List.mem_map.mp hx
    exact .tup (.cons (.int _) (.cons (.int _) .nil)))) (.lst .nil) (by decide) (by decide)]
  cases ps with
  | nil =>
    have : yes (PV.lst (List.map prP []) = PV.lst []) = true := yes_pos rfl
    rw [this]
    rfl
  | cons p ps =>
    rw [yes_neg (by intro z; injection z with z; cases z)]
    rfl
theorem evComp_filter {h : EvA} {g : EvT} {c : EvB} {f : Ev} {vs : List Nat} {ρ : Loc} {O : Oms} {xs : List PV} {P : PV → Bool} {F : PV → PV} (e : h ρ O = some (.ok xs O)) (hl : xs.length ≤ sizeLine) (hw : okW ρ vs = true) (k : ∀ x ∈ xs, ∃ ρ1, g x (wipeP ρ vs) = some ρ1 ∧ c ρ1 O = some (.ok (P x) O) ∧ (P x = true → f ρ1 O = some (.ok (F x) O))) : evComp h g c f vs ρ O = some (.ok (.lst ((xs.filter P).map F)) O) := by
  unfold evComp
  rw [e, bnd_ok, if_pos ⟨hl, hw⟩, compL_filter k]
  rfl
theorem sp23 (Γ : Gm) (H16 : ∀ (ns : List Int) (k : Nat) O, Γ 16 [.lst (ns.map PV.int), .int k] O = some (.ok (.int (ns.getD k 0)) O))
    (H21 : ∀ (ss : List Int) O, ss.length ≤ 63 → ∃ ps : List (Int × Int), Γ 21 [.lst (ss.map PV.int)] O = some (.ok (.lst (ps.map prP)) O) ∧ ps.length ≤ 63 ∧ ∀ p ∈ ps, 0 ≤ p.2 ∧ p.2 < 10 ^ 30)
    (H22 : ∀ (ps : List (Int × Int)) O, ps.length ≤ 1000 → (∀ p ∈ ps, 0 ≤ p.2 ∧ p.2 < 10 ^ 60) → Γ 22 [.lst (ps.map prP)] O = some (.ok (.int (midP ps)) O))
    (ss : List Int) (hl : ss.length ≤ 63) (O : Oms) : evFun (evS Γ b23) 10 [.lst (ss.map PV.int)] O = some (.ok (.bl true) O) := by
  refine evFun_rt (O' := O) (ρ := [some (.lst (ss.map PV.int)), none, none, none, none, none, none, none, none, none]) rfl ?_
  obtain ⟨ps, e21, l1, h3⟩ := H21 ss O hl
  have nn : NN ps := fun p hp => (h3 p hp).1
  have e60 : (10 : Int) ^ 30 ≤ 10 ^ 60 := by decide
  have h6 : ∀ p ∈ ps, 0 ≤ p.2 ∧ p.2 < 10 ^ 60 := fun p hp => ⟨(h3 p hp).1, by have := (h3 p hp).2; omega⟩
  have e16 : Γ 16 [.lst (ss.map PV.int), .int 1] O = some (.ok (.int (ss.getD 1 0)) O) := H16 ss 1 O
  have r0 := H22 ps O (by omega) h6
  revert e16
  generalize ss.getD 1 0 = x
  intro e16
  obtain ⟨M, hM, hM0, hM1⟩ : ∃ M : Int, (if (ps.length : Int) > 1 then (ps.length : Int) else 1) = M ∧ 0 < M ∧ (ps.length ≠ 0 → M = ps.length) := by
    refine ⟨_, rfl, ?_, ?_⟩ <;> split <;> omega
  obtain ⟨k, hk⟩ : ∃ k : Nat, x % M = k := ⟨(x % M).toNat, by
    have := Int.emod_nonneg x (Int.ne_of_gt hM0)
    omega⟩
  have hkM := Int.emod_lt_of_pos x hM0
  have hk1 : k ≤ ps.length := by
    by_cases z : ps.length = 0
    · rw [z] at hM
      have : M = 1 := by rw [← hM]; rfl
      omega
    · have := hM1 z
      omega
  have hrev : (ps.map prP).reverse = ps.reverse.map prP := List.map_reverse.symm
  have r1 := H22 ps.reverse O (by rw [List.length_reverse]; omega) fun p hp => h6 p (List.mem_reverse.mp hp)
  rw [midP_perm nn (List.reverse_perm ps).symm] at r1
  have s1 : pSl (.lst (ps.map prP)) (some (k : Int)) none = some (.lst ((ps.drop k).map prP)) := by rw [pSl_lst, cutG_map, cutG_drop hk1]
  have s2 : pSl (.lst (ps.map prP)) none (some (k : Int)) = some (.lst ((ps.take k).map prP)) := by rw [pSl_lst, cutG_map, cutG_take hk1]
  have ld : (ps.drop k).length ≤ 63 := by rw [List.length_drop]; omega
  have lt : (ps.take k).length ≤ 63 := by rw [List.length_take]; omega
  have a1 := pAddP (xs := ps.drop k) (ys := ps.take k) (by omega)
  have pr : ps.Perm (ps.drop k ++ ps.take k) := by
    have := List.perm_append_comm (l₁ := ps.take k) (l₂ := ps.drop k)
    rwa [List.take_append_drop] at this
  have r2 := H22 (ps.drop k ++ ps.take k) O (by rw [List.length_append]; omega) fun p hp => h6 p (pr.mem_iff.mpr hp)
  rw [midP_perm nn pr] at r2
  obtain ⟨y, hy, hy0, hy1⟩ : ∃ y : Int, 1 + x % 10 ^ 30 = y ∧ 0 < y ∧ y ≤ 10 ^ 30 := ⟨_, rfl, by
    have := Int.emod_nonneg x (show (10 : Int) ^ 30 ≠ 0 by decide)
    omega, by
    have := Int.emod_lt_of_pos x (show (0 : Int) < 10 ^ 30 by decide)
    omega⟩
  have aI : ∀ x y : Int, pAdd (.int x) (.int y) = some (.int (x + y)) := fun x y => rfl
  have z30 : (10 : Int) ^ 30 ≤ ((2 ^ 100 : Nat) : Int) := by decide
  have zy : Sz 100 y := Sz.of_lt (by omega) (by omega)
  have hC1 : evComp (ev Γ (.seq (.var 1))).i (Tg.many [8, 9]).fn evYes (ev Γ (.tup (.cons (.var 8) (.cons (.op .mul (.var 9) (.var 5)) (.nil))))).v [8, 9] [some (.lst (ss.map PV.int)), some (.lst (ps.map prP)), some (.int (midP ps)), some (.int x), some (.int k), some (.int y), none, none, none, none] O = some (.ok (.lst ((ps.map prP).map fun x => match x with | .tup [a, .int w] => .tup [a, .int (w * y)] | x => x)) O) := evComp_map rfl (by rw [List.length_map]; exact Nat.le_trans l1 (by decide)) rfl fun q hq => by
    obtain ⟨p, hp, rfl⟩ := List.mem_map.mp hq
    have hp3 := h3 p hp
    have f1 : fMul p.2 y = some (p.2 * y) := fMul_of (k := 100) (m := 100) (Sz.of_lt hp3.1 (by omega)) zy (by decide)
    refine ⟨[some (.lst (ss.map PV.int)), some (.lst (ps.map prP)), some (.int (midP ps)), some (.int x), some (.int k), some (.int y), none, none, some (.int p.1), some (.int p.2)], rfl, ?_⟩
    simp only [evS, ev, evSeq, seqS_nx, seqS_rt, seqS_ex, evNx, evSet, evIf, evRet, evRetN, evAsg, evDrop, evFor, evApp, evSset, evAug, rX, rB, rA, rI, rP, ev2, ev1, evC, evCh, evAnd, evOr, evNot, evTr, evBl, evOfB, evIte, evTup, evLst, evBi, evCall, evCons, evNil, evVar, evOwn, evSetO, evFrz, frzPs, frzP, unOw, toOw, okW, noOw, evC0, evSl, evPn, evPs, toI, evSeqI, evRng, evIsi, bnd_ok, bnd_ex, ret_some, liftS_ok, B2.fn, B2.fnI, K2.fn, Bi.fn, Tg.fn, evT1, evTm, setAll, pInt, pOrd, pNeg, pAddS, toB, truth_int, truth_bl, pEq_int, pNe_int, Option.map_some, List.getElem?_cons_zero, List.getElem?_cons_succ, List.set_cons_zero, List.set_cons_succ, List.length_cons, List.length_nil, List.length_map, toSeq, isfG, isfB, tagOf, Option.bind_some, fMod_of, fDiv_of2, Int.reduceLT, decide_true, decide_false, Bool.not_true, Bool.not_false, reduceCtorEq, eq_self, Bool.or_false, Bool.false_or, Bool.true_or, Bool.or_true, Bool.and_false, Bool.false_and, Bool.true_and, Bool.and_true, Bool.and_self, Bool.or_self, Int.zero_add, ↓reduceIte, if_true, if_false, bAbs, bMax2, bMin2, bInt, bLen, bTuple, bList, bSum, bMax1, bMin1, items2, pZip, evLz, pRev, pRevT, evCallL, allInts_map, allPairs_map, bSorted, f1]
    rfl
  have eC1 : ((ps.map prP).map fun x => match x with | .tup [a, .int w] => PV.tup [a, .int (w * y)] | x => x) = (scl y ps).map prP := by
    unfold scl
    rw [List.map_map, List.map_map]
    rfl
  rw [eC1] at hC1
  have r3 := H22 (scl y ps) O (by unfold scl; rw [List.length_map]; omega) fun q hq => by
    obtain ⟨p, hp, rfl⟩ := List.mem_map.mp hq
    have hp3 := h3 p hp
    refine ⟨Int.mul_nonneg hp3.1 (by omega), ?_⟩
    have b1 : p.2 * y ≤ p.2 * 10 ^ 30 := Int.mul_le_mul_of_nonneg_left hy1 hp3.1
    have b2 : p.2 * 10 ^ 30 ≤ (10 ^ 30 - 1) * 10 ^ 30 := Int.mul_le_mul_of_nonneg_right (by omega) (by decide)
    have b3 : ((10 : Int) ^ 30 - 1) * 10 ^ 30 < 10 ^ 60 := by decide
    show p.2 * y < _
    omega
  rw [midP_scl nn hy0] at r3
  have hC2 : evComp (ev Γ (.seq (.var 1))).i (Tg.many [8, 9]).fn (ev Γ (.cmp .gt (.var 9) (.int 0))).b (ev Γ (.tup (.cons (.var 8) (.cons (.var 9) (.nil))))).v [8, 9] [some (.lst (ss.map PV.int)), some (.lst (ps.map prP)), some (.int (midP ps)), some (.int x), some (.int k), some (.int y), none, none, none, none] O = some (.ok (.lst (((ps.map prP).filter fun x => match x with | .tup [_, .int w] => decide (0 < w) | _ => false).map id)) O) := evComp_filter rfl (by rw [List.length_map]; exact Nat.le_trans l1 (by decide)) rfl fun q hq => by
    obtain ⟨p, hp, rfl⟩ := List.mem_map.mp hq
    exact ⟨[some (.lst (ss.map PV.int)), some (.lst (ps.map prP)), some (.int (midP ps)), some (.int x), some (.int k), some (.int y), none, none, some (.int p.1), some (.int p.2)], rfl, rfl, fun _ => rfl⟩
  have eC2 : ((ps.map prP).filter fun x => match x with | .tup [_, .int w] => decide (0 < w) | _ => false).map id = (posP ps).map prP := by
    rw [List.map_id, List.filter_map]
    rfl
  rw [eC2] at hC2
  have lp : (posP ps).length ≤ 63 := Nat.le_trans (List.length_filter_le _ _) l1
  have r4 := H22 (posP ps) O (by omega) fun p hp => h6 p (List.mem_filter.mp hp).1
  simp only [evS, ev, evSeq, seqS_nx, seqS_rt, seqS_ex, evNx, evSet, evIf, evRet, evRetN, evAsg, evDrop, evFor, evApp, evSset, evAug, rX, rB, rA, rI, rP, ev2, ev1, evC, evCh, evAnd, evOr, evNot, evTr, evBl, evOfB, evIte, evTup, evLst, evBi, evCall, evCons, evNil, evVar, evOwn, evSetO, evFrz, frzPs, frzP, unOw, toOw, okW, noOw, evC0, evSl, evPn, evPs, toI, evSeqI, evRng, evIsi, bnd_ok, bnd_ex, ret_some, liftS_ok, B2.fn, B2.fnI, K2.fn, Bi.fn, Tg.fn, evT1, evTm, setAll, pInt, pOrd, pNeg, pAddS, toB, truth_int, truth_bl, pEq_int, pNe_int, Option.map_some, List.getElem?_cons_zero, List.getElem?_cons_succ, List.set_cons_zero, List.set_cons_succ, List.length_cons, List.length_nil, List.length_map, toSeq, isfG, isfB, tagOf, Option.bind_some, fMod_of, fDiv_of2, Int.reduceLT, decide_true, decide_false, Bool.not_true, Bool.not_false, reduceCtorEq, eq_self, Bool.or_false, Bool.false_or, Bool.true_or, Bool.or_true, Bool.and_false, Bool.false_and, Bool.true_and, Bool.and_true, Bool.and_self, Bool.or_self, Int.zero_add, ↓reduceIte, if_true, if_false, bAbs, bMax2, bMin2, bInt, bLen, bTuple, bList, bSum, bMax1, bMin1, items2, pZip, evLz, pRev, pRevT, evCallL, allInts_map, allPairs_map, bSorted] at hC1 hC2
  have p30 : fPow 10 30 = some (10 ^ 30) := p30
  by_cases hs : posP ps = []
  · have cs := decide_eq_true hs
    by_cases hp0 : ps = []
    · have cp := decide_eq_true hp0
      simp only [b23, evS, ev, evSeq, seqS_nx, seqS_rt, seqS_ex, evNx, evSet, evIf, evRet, evRetN, evAsg, evDrop, evFor, evApp, evSset, evAug, rX, rB, rA, rI, rP, ev2, ev1, evC, evCh, evAnd, evOr, evNot, evTr, evBl, evOfB, evIte, evTup, evLst, evBi, evCall, evCons, evNil, evVar, evOwn, evSetO, evFrz, frzPs, frzP, unOw, toOw, okW, noOw, evC0, evSl, evPn, evPs, toI, evSeqI, evRng, evIsi, bnd_ok, bnd_ex, ret_some, liftS_ok, B2.fn, B2.fnI, K2.fn, Bi.fn, Tg.fn, evT1, evTm, setAll, pInt, pOrd, pNeg, pAddS, toB, truth_int, truth_bl, pEq_int, pNe_int, Option.map_some, List.getElem?_cons_zero, List.getElem?_cons_succ, List.set_cons_zero, List.set_cons_succ, List.length_cons, List.length_nil, List.length_map, toSeq, isfG, isfB, tagOf, Option.bind_some, fMod_of, fDiv_of2, Int.reduceLT, decide_true, decide_false, Bool.not_true, Bool.not_false, reduceCtorEq, eq_self, Bool.or_false, Bool.false_or, Bool.true_or, Bool.or_true, Bool.and_false, Bool.false_and, Bool.true_and, Bool.and_true, Bool.and_self, Bool.or_self, Int.zero_add, ↓reduceIte, if_true, if_false, bAbs, bMax2, bMin2, bInt, bLen, bTuple, bList, bSum, bMax1, bMin1, items2, pZip, evLz, pRev, pRevT, evCallL, allInts_map, allPairs_map, bSorted, e21, r0, e16, hM, fMod_of hM0, hk, hrev, r1, s1, s2, a1, r2, p30, m30, aI, hy, hC1, r3, hC2, pNe_prs, cs, cp]
    · have cp := decide_eq_false hp0
      simp only [b23, evS, ev, evSeq, seqS_nx, seqS_rt, seqS_ex, evNx, evSet, evIf, evRet, evRetN, evAsg, evDrop, evFor, evApp, evSset, evAug, rX, rB, rA, rI, rP, ev2, ev1, evC, evCh, evAnd, evOr, evNot, evTr, evBl, evOfB, evIte, evTup, evLst, evBi, evCall, evCons, evNil, evVar, evOwn, evSetO, evFrz, frzPs, frzP, unOw, toOw, okW, noOw, evC0, evSl, evPn, evPs, toI, evSeqI, evRng, evIsi, bnd_ok, bnd_ex, ret_some, liftS_ok, B2.fn, B2.fnI, K2.fn, Bi.fn, Tg.fn, evT1, evTm, setAll, pInt, pOrd, pNeg, pAddS, toB, truth_int, truth_bl, pEq_int, pNe_int, Option.map_some, List.getElem?_cons_zero, List.getElem?_cons_succ, List.set_cons_zero, List.set_cons_succ, List.length_cons, List.length_nil, List.length_map, toSeq, isfG, isfB, tagOf, Option.bind_some, fMod_of, fDiv_of2, Int.reduceLT, decide_true, decide_false, Bool.not_true, Bool.not_false, reduceCtorEq, eq_self, Bool.or_false, Bool.false_or, Bool.true_or, Bool.or_true, Bool.and_false, Bool.false_and, Bool.true_and, Bool.and_true, Bool.and_self, Bool.or_self, Int.zero_add, ↓reduceIte, if_true, if_false, bAbs, bMax2, bMin2, bInt, bLen, bTuple, bList, bSum, bMax1, bMin1, items2, pZip, evLz, pRev, pRevT, evCallL, allInts_map, allPairs_map, bSorted, e21, r0, e16, hM, fMod_of hM0, hk, hrev, r1, s1, s2, a1, r2, p30, m30, aI, hy, hC1, r3, hC2, pNe_prs, cs, cp]
  · have cs := decide_eq_false hs
    have hp0 : ps ≠ [] := fun z => hs (by subst z; rfl)
    have cp := decide_eq_false hp0
    rw [midP_pos nn hs] at r4
    have hk2 : k < ps.length := by
      have z : ps.length ≠ 0 := fun z => hp0 (List.length_eq_zero_iff.mp z)
      have := hM1 z
      omega
    obtain ⟨⟨n, w⟩, hnw⟩ : ∃ p, ps[k] = p := ⟨_, rfl⟩
    have ei : (ps.map prP)[k]? = some (.tup [.int n, .int w]) := by
      rw [List.getElem?_map, List.getElem?_eq_getElem hk2, hnw]
      rfl
    have hw := h3 (n, w) (by rw [← hnw]; exact List.getElem_mem hk2)
    have hw1 : 0 ≤ w ∧ w < 10 ^ 30 := hw
    have fm : fMod (x / 7) (w + 1) = some (x / 7 % (w + 1)) := fMod_of (by omega)
    obtain ⟨b, hb⟩ : ∃ b, x / 7 % (w + 1) = b := ⟨_, rfl⟩
    have hb0 : 0 ≤ b := by
      rw [← hb]
      exact Int.emod_nonneg _ (by omega)
    have hb1 : b < w + 1 := by
      rw [← hb]
      exact Int.emod_lt_of_pos _ (by omega)
    have es : ps = ps.take k ++ (n, w) :: ps.drop (k + 1) := by
      rw [← hnw, ← List.drop_eq_getElem_cons hk2, List.take_append_drop]
    have mp := midP_part (us := ps.take k) (vs := ps.drop (k + 1)) (n := n) (a := b) (b := w - b)
    have ew : b + (w - b) = w := by omega
    rw [ew, ← es] at mp
    have mp := mp nn hb0 (by omega) (posP_sum nn hs)
    have lu : (ps.drop (k + 1)).length ≤ 63 := by rw [List.length_drop]; omega
    have s3 : pSl (.lst (ps.map prP)) (some ((k : Int) + 1)) none = some (.lst ((ps.drop (k + 1)).map prP)) := by
      have : (k : Int) + 1 = ((k + 1 : Nat) : Int) := rfl
      rw [this, pSl_lst, cutG_map, cutG_drop (by omega)]
    have a2 : pAdd (.lst ((ps.take k).map prP)) (.lst [.tup [.int n, .int b]]) = some (.lst ((ps.take k ++ [(n, b)]).map prP)) := pAddP (ys := [(n, b)]) (by show _ + 1 ≤ _; omega)
    have a3 : pAdd (.lst ((ps.take k ++ [(n, b)]).map prP)) (.lst ((ps.drop (k + 1)).map prP)) = some (.lst ((ps.take k ++ [(n, b)] ++ ps.drop (k + 1)).map prP)) := pAddP (by rw [List.length_append]; show _ + 1 + _ ≤ _; omega)
    have a4 : pAdd (.lst ((ps.take k ++ [(n, b)] ++ ps.drop (k + 1)).map prP)) (.lst [.tup [.int n, .int (w - b)]]) = some (.lst ((ps.take k ++ [(n, b)] ++ ps.drop (k + 1) ++ [(n, w - b)]).map prP)) := pAddP (ys := [(n, w - b)]) (by rw [List.length_append, List.length_append]; show _ + 1 + _ + 1 ≤ _; omega)
    have r5 := H22 (ps.take k ++ [(n, b)] ++ ps.drop (k + 1) ++ [(n, w - b)]) O (by rw [List.length_append, List.length_append, List.length_append]; show _ + 1 + _ + 1 ≤ _; omega) fun p hp => by
      rcases List.mem_append.mp hp with hp | hp
      · rcases List.mem_append.mp hp with hp | hp
        · rcases List.mem_append.mp hp with hp | hp
          · exact h6 p (List.mem_of_mem_take hp)
          · rw [List.mem_singleton.mp hp]
            exact ⟨hb0, by show b < _; omega⟩
        · exact h6 p (List.mem_of_mem_drop hp)
      · rw [List.mem_singleton.mp hp]
        exact ⟨by show 0 ≤ w - b; omega, by show w - b < _; omega⟩
    rw [mp] at r5
    simp only [b23, evS, ev, evSeq, seqS_nx, seqS_rt, seqS_ex, evNx, evSet, evIf, evRet, evRetN, evAsg, evDrop, evFor, evApp, evSset, evAug, rX, rB, rA, rI, rP, ev2, ev1, evC, evCh, evAnd, evOr, evNot, evTr, evBl, evOfB, evIte, evTup, evLst, evBi, evCall, evCons, evNil, evVar, evOwn, evSetO, evFrz, frzPs, frzP, unOw, toOw, okW, noOw, evC0, evSl, evPn, evPs, toI, evSeqI, evRng, evIsi, bnd_ok, bnd_ex, ret_some, liftS_ok, B2.fn, B2.fnI, K2.fn, Bi.fn, Tg.fn, evT1, evTm, setAll, pInt, pOrd, pNeg, pAddS, toB, truth_int, truth_bl, pEq_int, pNe_int, Option.map_some, List.getElem?_cons_zero, List.getElem?_cons_succ, List.set_cons_zero, List.set_cons_succ, List.length_cons, List.length_nil, List.length_map, toSeq, isfG, isfB, tagOf, Option.bind_some, fMod_of, fDiv_of2, Int.reduceLT, decide_true, decide_false, Bool.not_true, Bool.not_false, reduceCtorEq, eq_self, Bool.or_false, Bool.false_or, Bool.true_or, Bool.or_true, Bool.and_false, Bool.false_and, Bool.true_and, Bool.and_true, Bool.and_self, Bool.or_self, Int.zero_add, ↓reduceIte, if_true, if_false, bAbs, bMax2, bMin2, bInt, bLen, bTuple, bList, bSum, bMax1, bMin1, items2, pZip, evLz, pRev, pRevT, evCallL, allInts_map, allPairs_map, bSorted, e21, r0, e16, hM, fMod_of hM0, hk, hrev, r1, s1, s2, a1, r2, p30, m30, aI, hy, hC1, r3, hC2, pNe_prs, cs, cp, r4, pIx_lst ei, fm, hb, s3, a2, a3, a4, r5]

end Hw
namespace Hw
open PySem PySem.Spec PyProof.Rows L2
-- deps: 32 35
def colS (f : Option Int → Int → Int) (ts : List Turn) (k : Nat) : Int := (ts.map fun t => f (t.1.getD k none) t.2).sum
theorem step_get {f : Option Int → Int → Int} {fs : List Int} {t : Turn} (h : fs.length = t.1.length) (k : Nat) (hk : k < fs.length) : (stepT f fs t).getD k 0 = fs.getD k 0 + f (t.1.getD k none) t.2 := by
  unfold stepT
  have h2 : k < t.1.length := by omega
  rw [List.getD_eq_getElem?_getD, List.getD_eq_getElem?_getD, List.getD_eq_getElem?_getD, List.getElem?_map, List.getElem?_eq_getElem (l := fs) hk, List.getElem?_eq_getElem (l := t.1) h2, List.getElem?_eq_getElem (l := fs.zip t.1) (by rw [List.length_zip]; omega), List.getElem_zip]
  rfl
theorem fold_len {f : Option Int → Int → Int} : ∀ {ts : List Turn} {fs : List Int}, (∀ t ∈ ts, t.1.length = fs.length) → (ts.foldl (stepT f) fs).length = fs.length
  | [], _, _ => rfl
  | t :: ts, fs, h => by
    have h0 := h t List.mem_cons_self
    have e := stepT_len (f := f) h0.symm
    rw [List.foldl_cons, fold_len fun u hu => by rw [e]; exact h u (List.mem_cons_of_mem _ hu), e]
theorem fold_get {f : Option Int → Int → Int} (k : Nat) : ∀ {ts : List Turn} {fs : List Int}, (∀ t ∈ ts, t.1.length = fs.length) → k < fs.length → (ts.foldl (stepT f) fs).getD k 0 = fs.getD k 0 + colS f ts k
  | [], fs, _, _ => by
    show fs.getD k 0 = fs.getD k 0 + 0
    rw [Int.add_zero]
  | t :: ts, fs, h, hk => by
    have h0 := h t List.mem_cons_self
    have e := stepT_len (f := f) h0.symm
    rw [List.foldl_cons, fold_get k (fun u hu => by rw [e]; exact h u (List.mem_cons_of_mem _ hu)) (by rw [e]; exact hk), step_get h0.symm k hk]
    unfold colS
    rw [List.map_cons, List.sum_cons, Int.add_assoc]
def cols (f : Option Int → Int → Int) (m : Nat) (ts : List Turn) : List Int := (List.range m).map (colS f ts)
theorem fold_cols {f : Option Int → Int → Int} {m : Nat} {ts : List Turn} (h : ∀ t ∈ ts, t.1.length = m) : ts.foldl (stepT f) (List.replicate m 0) = cols f m ts := by
  have hl : (ts.foldl (stepT f) (List.replicate m 0)).length = m := by
    rw [fold_len fun t ht => by rw [List.length_replicate, h t ht], List.length_replicate]
  refine List.ext_getElem (by rw [hl]; unfold cols; rw [List.length_map, List.length_range]) fun k h1 h2 => ?_
  rw [hl] at h1
  have := fold_get (f := f) k (ts := ts) (fs := List.replicate m 0) (fun t ht => by rw [List.length_replicate, h t ht]) (by rw [List.length_replicate]; exact h1)
  rw [List.getD_eq_getElem?_getD, List.getElem?_eq_getElem (by rw [hl]; exact h1)] at this
  have h3 : (List.replicate m (0 : Int)).getD k 0 = 0 := by
    rw [List.getD_eq_getElem?_getD, List.getElem?_replicate, if_pos h1]
    rfl
  rw [h3, Int.zero_add] at this
  have e : (cols f m ts)[k] = colS f ts k := by simp [cols]
  rw [e]
  exact this
theorem cols_perm {f : Option Int → Int → Int} {m : Nat} {ts us : List Turn} (h : ts.Perm us) : cols f m us = cols f m ts := by
  unfold cols
  refine List.map_congr_left fun k _ => ?_
  unfold colS
  exact (sum_perm (h.map _)).symm
theorem sum_app : ∀ (xs ys : List Int), (xs ++ ys).sum = xs.sum + ys.sum
  | [], ys => by
    show ys.sum = 0 + ys.sum
    rw [Int.zero_add]
  | x :: xs, ys => by
    rw [List.cons_append, List.sum_cons, List.sum_cons, sum_app xs ys, Int.add_assoc]
theorem cols_app {f : Option Int → Int → Int} {ts us : List Turn} (k : Nat) : colS f (ts ++ us) k = colS f ts k + colS f us k := by
  unfold colS
  rw [List.map_append, sum_app]

end Hw
namespace Hw
open PySem PySem.Spec PyProof.Rows L2
/-- law(_law_script); slots 0 _law_script, 1 _law_turns_here, 2 _law_sums, 3 _law_times, 4 _law_few, 5 _law_ahead, 6 _law_behind, 7 _law_many_here, 8 _law_scale, 9 _law_k, 10 _law_said, 11 _law_so; calls 27 _law_many, 30 _law_turns, 32 charges, 33 _law_cells, 34 _law_right, 35 erred, 36 _law_off -/
def b37 : Sx :=
  .cons (.asg (.many [7, 8]) (.call 27 (.cons (.var 0) (.nil)))) (.cons (.set 1 (.call 30 (.cons (.call 33 (.cons (.var 0) (.cons (.int 2) (.nil)))) (.cons (.var 7) (.cons (.var 8) (.nil)))))) (.cons (.set 2 (.comp (.one 9) [9] (.rng1 (.cons (.var 7) (.nil))) (.bi .sum (.cons (.comp (.many [10, 11]) [10, 11] (.seq (.var 1)) (.call 36 (.cons (.ix (.var 10) (.var 9)) (.cons (.var 11) (.nil))))) (.nil))))) (.cons (.set 3 (.comp (.one 9) [9] (.rng1 (.cons (.var 7) (.nil))) (.bi .len (.cons (.compc (.many [10, 11]) [10, 11] (.seq (.var 1)) (.and (.cmp .isnt (.ix (.var 10) (.var 9)) (.non)) (.one (.cmp .ne (.ix (.var 10) (.var 9)) (.var 11)))) (.int 1)) (.nil))))) (.cons (.ifs (.or (.not (.call 34 (.cons (.call 32 (.cons (.var 7) (.cons (.var 1) (.nil)))) (.cons (.var 2) (.nil))))) (.one (.not (.call 34 (.cons (.call 35 (.cons (.var 7) (.cons (.var 1) (.nil)))) (.cons (.var 3) (.nil))))))) (.cons (.ret (.bl false)) (.nil)) (.nil)) (.cons (.ifs (.or (.not (.call 34 (.cons (.call 32 (.cons (.var 7) (.cons (.revT (.var 1)) (.nil)))) (.cons (.var 2) (.nil))))) (.one (.not (.call 34 (.cons (.call 35 (.cons (.var 7) (.cons (.revT (.var 1)) (.nil)))) (.cons (.var 3) (.nil))))))) (.cons (.ret (.bl false)) (.nil)) (.nil)) (.cons (.set 4 (.op .div (.bi .len (.cons (.var 1) (.nil))) (.int 2))) (.cons (.set 5 (.call 32 (.cons (.var 7) (.cons (.sl (.var 1) (.pn) (.var 4)) (.nil))))) (.cons (.set 6 (.call 32 (.cons (.var 7) (.cons (.sl (.var 1) (.var 4) (.pn)) (.nil))))) (.cons (.ifs (.cmp .ne (.comp (.one 9) [9] (.rng1 (.cons (.var 7) (.nil))) (.op .add (.ix (.var 5) (.var 9)) (.ix (.var 6) (.var 9)))) (.var 2)) (.cons (.ret (.bl false)) (.nil)) (.nil)) (.cons (.ret (.and (.ofb (.call 34 (.cons (.call 32 (.cons (.var 7) (.cons (.tup (.nil)) (.nil)))) (.cons (.rep (.lst (.cons (.int 0) (.nil))) (.var 7)) (.nil))))) (.one (.ofb (.call 34 (.cons (.call 35 (.cons (.var 7) (.cons (.tup (.nil)) (.nil)))) (.cons (.rep (.lst (.cons (.int 0) (.nil))) (.var 7)) (.nil)))))))) (.nil)))))))))))
-- deps: 18 23 29 31 32 34 35 M37
theorem compL_mapG {T : Type} {g : EvT} {f : Ev} {ρw : Loc} {O : Oms} {h F : T → PV} : ∀ {ts : List T}, (∀ t ∈ ts, ∃ ρ1, g (h t) ρw = some ρ1 ∧ f ρ1 O = some (.ok (F t) O)) → compL g evYes f ρw (ts.map h) O = some (.ok (ts.map F) O)
  | [], _ => rfl
  | t :: ts, k => by
    obtain ⟨ρ1, h1, h2⟩ := k t List.mem_cons_self
    have ih := compL_mapG (ts := ts) (F := F) fun y hy => k y (List.mem_cons_of_mem _ hy)
    rw [List.map_cons, compL, h1]
    dsimp only
    show bnd (noX (some (.ok true O))) _ = _
    show bnd (noX (f ρ1 O)) _ = _
    rw [h2]
    show bnd (compL g evYes f ρw (ts.map h) O) _ = _
    rw [ih]
    rfl
theorem compL_filterG {T : Type} {g : EvT} {c : EvB} {f : Ev} {ρw : Loc} {O : Oms} {h F : T → PV} {P : T → Bool} : ∀ {ts : List T}, (∀ t ∈ ts, ∃ ρ1, g (h t) ρw = some ρ1 ∧ c ρ1 O = some (.ok (P t) O) ∧ (P t = true → f ρ1 O = some (.ok (F t) O))) → compL g c f ρw (ts.map h) O = some (.ok ((ts.filter P).map F) O)
  | [], _ => rfl
  | t :: ts, k => by
    obtain ⟨ρ1, h1, h2, h3⟩ := k t List.mem_cons_self
    have ih := compL_filterG (ts := ts) (F := F) (P := P) fun y hy => k y (List.mem_cons_of_mem _ hy)
    rw [List.map_cons, compL, h1]
    dsimp only
    rw [h2]
    cases hp : P t with
    | false =>
      show compL g c f ρw (ts.map h) O = _
      rw [ih, List.filter_cons, hp]
      rfl
    | true =>
      show bnd (noX (f ρ1 O)) _ = _
      rw [h3 hp]
      show bnd (compL g c f ρw (ts.map h) O) _ = _
      rw [ih, List.filter_cons, hp]
      rfl
theorem evComp_mapG {T : Type} {q : EvA} {g : EvT} {f : Ev} {vs : List Nat} {ρ : Loc} {O : Oms} {h F : T → PV} {ts : List T} (e : q ρ O = some (.ok (ts.map h) O)) (hl : ts.length ≤ 1000) (hw : okW ρ vs = true) (k : ∀ t ∈ ts, ∃ ρ1, g (h t) (wipeP ρ vs) = some ρ1 ∧ f ρ1 O = some (.ok (F t) O)) : evComp q g evYes f vs ρ O = some (.ok (.lst (ts.map F)) O) := by
  unfold evComp
  rw [e, bnd_ok, if_pos ⟨by rw [List.length_map]; exact Nat.le_trans hl (by decide), hw⟩, compL_mapG k]
  rfl
theorem evComp_filterG {T : Type} {q : EvA} {g : EvT} {c : EvB} {f : Ev} {vs : List Nat} {ρ : Loc} {O : Oms} {h F : T → PV} {P : T → Bool} {ts : List T} (e : q ρ O = some (.ok (ts.map h) O)) (hl : ts.length ≤ 1000) (hw : okW ρ vs = true) (k : ∀ t ∈ ts, ∃ ρ1, g (h t) (wipeP ρ vs) = some ρ1 ∧ c ρ1 O = some (.ok (P t) O) ∧ (P t = true → f ρ1 O = some (.ok (F t) O))) : evComp q g c f vs ρ O = some (.ok (.lst ((ts.filter P).map F)) O) := by
  unfold evComp
  rw [e, bnd_ok, if_pos ⟨by rw [List.length_map]; exact Nat.le_trans hl (by decide), hw⟩, compL_filterG k]
  rfl
def wrongB (o : Option Int) (so : Int) : Bool := match o with
  | none => false
  | some w => !decide (w = so)
theorem wrong_one (o : Option Int) (so : Int) : erd o so = if wrongB o so = true then 1 else 0 := by
  cases o with
  | none => rfl
  | some w =>
    have e : erd (some w) so = if (if w - so < 0 then -(w - so) else w - so) < 1 then (if w - so < 0 then -(w - so) else w - so) else 1 := rfl
    have e2 : wrongB (some w) so = !decide (w = so) := rfl
    rw [e, e2]
    by_cases h : w = so
    · have c := decide_eq_true h
      simp only [c, Bool.not_true]
      split <;> split at * <;> first | omega | (simp; omega)
    · have c := decide_eq_false h
      simp only [c, Bool.not_false, if_true]
      split <;> split at * <;> omega
def wrongT (k : Nat) (t : Turn) : Bool := wrongB (t.1.getD k none) t.2
theorem wrong_cols (k : Nat) : ∀ ts : List Turn, ((ts.filter (wrongT k)).length : Int) = colS erd ts k
  | [] => rfl
  | t :: ts => by
    have ih := wrong_cols k ts
    have e : colS erd (t :: ts) k = erd (t.1.getD k none) t.2 + colS erd ts k := by
      unfold colS
      rw [List.map_cons, List.sum_cons]
    have e2 : wrongT k t = wrongB (t.1.getD k none) t.2 := rfl
    rw [e, wrong_one, List.filter_cons, e2, ← ih]
    cases wrongB (t.1.getD k none) t.2 with
    | false => simp
    | true =>
      rw [if_pos rfl, if_pos rfl, List.length_cons]
      omega
theorem get_oP {t : Turn} {k : Nat} (h : k < t.1.length) : pIx (.tup (t.1.map oP)) (.int (k : Int)) = some (oP (t.1.getD k none)) := by
  refine pIx_tup ?_
  rw [List.getElem?_map, List.getD_eq_getElem?_getD, List.getElem?_eq_getElem h]
  rfl
theorem sums_comp (Γ : Gm) (O : Oms) (H36 : ∀ (w : Option Int) (so : Int), Γ 36 [oP w, .int so] O = some (.ok (.int (chg w so)) O)) (S : PV) (m : Nat) (s : PV) (hm : m ≤ 1000) (ts : List Turn) (hl : ts.length ≤ 1000) (ht : ∀ t ∈ ts, t.1.length = m) :
    evComp (ev Γ (.rng1 (.cons (.var 7) (.nil)))).i (Tg.one 9).fn evYes (ev Γ (.bi .sum (.cons (.comp (.many [10, 11]) [10, 11] (.seq (.var 1)) (.call 36 (.cons (.ix (.var 10) (.var 9)) (.cons (.var 11) (.nil))))) (.nil)))).v [9] [some S, some (.tup (ts.map trP)), none, none, none, none, none, some (.int m), some s, none, none, none] O = some (.ok (.lst ((cols chg m ts).map PV.int)) O) := by
  have hr : toR1 [.int (m : Int)] = some ((List.range m).map fun k : Nat => PV.int (k : Int)) := by
    rw [toR1_of ⟨by omega, by omega⟩]
    unfold rangeL
    congr 1
    exact List.map_congr_left fun k _ => by rw [Int.zero_add]
  have e : (cols chg m ts).map PV.int = (List.range m).map fun k => PV.int (colS chg ts k) := by
    unfold cols
    rw [List.map_map]
    rfl
  rw [e]
  refine evComp_mapG (h := fun k : Nat => PV.int (k : Int)) (by simp only [evS, ev, evSeq, seqS_nx, seqS_rt, seqS_ex, evNx, evSet, evIf, evRet, evRetN, evAsg, evDrop, evFor, evApp, evSset, evAug, rX, rB, rA, rI, rP, ev2, ev1, evC, evCh, evAnd, evOr, evNot, evTr, evBl, evOfB, evIte, evTup, evLst, evBi, evCall, evCons, evNil, evVar, evOwn, evSetO, evFrz, frzPs, frzP, unOw, toOw, okW, noOw, evC0, evSl, evPn, evPs, toI, evSeqI, evRng, evIsi, bnd_ok, bnd_ex, ret_some, liftS_ok, B2.fn, B2.fnI, K2.fn, Bi.fn, Tg.fn, evT1, evTm, setAll, pInt, pOrd, pNeg, pAddS, toB, truth_int, truth_bl, pEq_int, pNe_int, Option.map_some, List.getElem?_cons_zero, List.getElem?_cons_succ, List.set_cons_zero, List.set_cons_succ, List.length_cons, List.length_nil, List.length_map, toSeq, isfG, isfB, tagOf, Option.bind_some, fMod_of, fDiv_of2, Int.reduceLT, decide_true, decide_false, Bool.not_true, Bool.not_false, reduceCtorEq, eq_self, Bool.or_false, Bool.false_or, Bool.true_or, Bool.or_true, Bool.and_false, Bool.false_and, Bool.true_and, Bool.and_true, Bool.and_self, Bool.or_self, Int.zero_add, ↓reduceIte, if_true, if_false, bAbs, bMax2, bMin2, bInt, bLen, bTuple, bList, bSum, bMax1, bMin1, items2, pZip, evLz, pRev, pRevT, evCallL, allInts_map, allPairs_map, bSorted, hr]) (by rw [List.length_range]; exact hm) rfl fun k hk => ?_
  have hk : k < m := List.mem_range.mp hk
  refine ⟨[some S, some (.tup (ts.map trP)), none, none, none, none, none, some (.int m), some s, some (.int (k : Int)), none, none], rfl, ?_⟩
  have hI : evComp (ev Γ (.seq (.var 1))).i (Tg.many [10, 11]).fn evYes (ev Γ (.call 36 (.cons (.ix (.var 10) (.var 9)) (.cons (.var 11) (.nil))))).v [10, 11] [some S, some (.tup (ts.map trP)), none, none, none, none, none, some (.int m), some s, some (.int (k : Int)), none, none] O = some (.ok (.lst (ts.map fun t => PV.int (chg (t.1.getD k none) t.2))) O) := evComp_mapG (h := trP) rfl hl rfl fun t h => by
    refine ⟨[some S, some (.tup (ts.map trP)), none, none, none, none, none, some (.int m), some s, some (.int (k : Int)), some (.tup (t.1.map oP)), some (.int t.2)], rfl, ?_⟩
    simp only [evS, ev, evSeq, seqS_nx, seqS_rt, seqS_ex, evNx, evSet, evIf, evRet, evRetN, evAsg, evDrop, evFor, evApp, evSset, evAug, rX, rB, rA, rI, rP, ev2, ev1, evC, evCh, evAnd, evOr, evNot, evTr, evBl, evOfB, evIte, evTup, evLst, evBi, evCall, evCons, evNil, evVar, evOwn, evSetO, evFrz, frzPs, frzP, unOw, toOw, okW, noOw, evC0, evSl, evPn, evPs, toI, evSeqI, evRng, evIsi, bnd_ok, bnd_ex, ret_some, liftS_ok, B2.fn, B2.fnI, K2.fn, Bi.fn, Tg.fn, evT1, evTm, setAll, pInt, pOrd, pNeg, pAddS, toB, truth_int, truth_bl, pEq_int, pNe_int, Option.map_some, List.getElem?_cons_zero, List.getElem?_cons_succ, List.set_cons_zero, List.set_cons_succ, List.length_cons, List.length_nil, List.length_map, toSeq, isfG, isfB, tagOf, Option.bind_some, fMod_of, fDiv_of2, Int.reduceLT, decide_true, decide_false, Bool.not_true, Bool.not_false, reduceCtorEq, eq_self, Bool.or_false, Bool.false_or, Bool.true_or, Bool.or_true, Bool.and_false, Bool.false_and, Bool.true_and, Bool.and_true, Bool.and_self, Bool.or_self, Int.zero_add, ↓reduceIte, if_true, if_false, bAbs, bMax2, bMin2, bInt, bLen, bTuple, bList, bSum, bMax1, bMin1, items2, pZip, evLz, pRev, pRevT, evCallL, allInts_map, allPairs_map, bSorted, get_oP (show k < t.1.length by rw [ht t h]; exact hk), H36]
  have e2 : (ts.map fun t => PV.int (chg (t.1.getD k none) t.2)) = (ts.map fun t => chg (t.1.getD k none) t.2).map PV.int := by
    rw [List.map_map]
    rfl
  rw [e2] at hI
  simp only [evS, ev, evSeq, seqS_nx, seqS_rt, seqS_ex, evNx, evSet, evIf, evRet, evRetN, evAsg, evDrop, evFor, evApp, evSset, evAug, rX, rB, rA, rI, rP, ev2, ev1, evC, evCh, evAnd, evOr, evNot, evTr, evBl, evOfB, evIte, evTup, evLst, evBi, evCall, evCons, evNil, evVar, evOwn, evSetO, evFrz, frzPs, frzP, unOw, toOw, okW, noOw, evC0, evSl, evPn, evPs, toI, evSeqI, evRng, evIsi, bnd_ok, bnd_ex, ret_some, liftS_ok, B2.fn, B2.fnI, K2.fn, Bi.fn, Tg.fn, evT1, evTm, setAll, pInt, pOrd, pNeg, pAddS, toB, truth_int, truth_bl, pEq_int, pNe_int, Option.map_some, List.getElem?_cons_zero, List.getElem?_cons_succ, List.set_cons_zero, List.set_cons_succ, List.length_cons, List.length_nil, List.length_map, toSeq, isfG, isfB, tagOf, Option.bind_some, fMod_of, fDiv_of2, Int.reduceLT, decide_true, decide_false, Bool.not_true, Bool.not_false, reduceCtorEq, eq_self, Bool.or_false, Bool.false_or, Bool.true_or, Bool.or_true, Bool.and_false, Bool.false_and, Bool.true_and, Bool.and_true, Bool.and_self, Bool.or_self, Int.zero_add, ↓reduceIte, if_true, if_false, bAbs, bMax2, bMin2, bInt, bLen, bTuple, bList, bSum, bMax1, bMin1, items2, pZip, evLz, pRev, pRevT, evCallL, allInts_map, allPairs_map, bSorted] at hI
  simp only [evS, ev, evSeq, seqS_nx, seqS_rt, seqS_ex, evNx, evSet, evIf, evRet, evRetN, evAsg, evDrop, evFor, evApp, evSset, evAug, rX, rB, rA, rI, rP, ev2, ev1, evC, evCh, evAnd, evOr, evNot, evTr, evBl, evOfB, evIte, evTup, evLst, evBi, evCall, evCons, evNil, evVar, evOwn, evSetO, evFrz, frzPs, frzP, unOw, toOw, okW, noOw, evC0, evSl, evPn, evPs, toI, evSeqI, evRng, evIsi, bnd_ok, bnd_ex, ret_some, liftS_ok, B2.fn, B2.fnI, K2.fn, Bi.fn, Tg.fn, evT1, evTm, setAll, pInt, pOrd, pNeg, pAddS, toB, truth_int, truth_bl, pEq_int, pNe_int, Option.map_some, List.getElem?_cons_zero, List.getElem?_cons_succ, List.set_cons_zero, List.set_cons_succ, List.length_cons, List.length_nil, List.length_map, toSeq, isfG, isfB, tagOf, Option.bind_some, fMod_of, fDiv_of2, Int.reduceLT, decide_true, decide_false, Bool.not_true, Bool.not_false, reduceCtorEq, eq_self, Bool.or_false, Bool.false_or, Bool.true_or, Bool.or_true, Bool.and_false, Bool.false_and, Bool.true_and, Bool.and_true, Bool.and_self, Bool.or_self, Int.zero_add, ↓reduceIte, if_true, if_false, bAbs, bMax2, bMin2, bInt, bLen, bTuple, bList, bSum, bMax1, bMin1, items2, pZip, evLz, pRev, pRevT, evCallL, allInts_map, allPairs_map, bSorted, hI, colS]
theorem times_comp (Γ : Gm) (O : Oms) (S A2 : PV) (m : Nat) (s : PV) (hm : m ≤ 1000) (ts : List Turn) (hl : ts.length ≤ 1000) (ht : ∀ t ∈ ts, t.1.length = m) :
    evComp (ev Γ (.rng1 (.cons (.var 7) (.nil)))).i (Tg.one 9).fn evYes (ev Γ (.bi .len (.cons (.compc (.many [10, 11]) [10, 11] (.seq (.var 1)) (.and (.cmp .isnt (.ix (.var 10) (.var 9)) (.non)) (.one (.cmp .ne (.ix (.var 10) (.var 9)) (.var 11)))) (.int 1)) (.nil)))).v [9] [some S, some (.tup (ts.map trP)), some A2, none, none, none, none, some (.int m), some s, none, none, none] O = some (.ok (.lst ((cols erd m ts).map PV.int)) O) := by
  have hr : toR1 [.int (m : Int)] = some ((List.range m).map fun k : Nat => PV.int (k : Int)) := by
    rw [toR1_of ⟨by omega, by omega⟩]
    unfold rangeL
    congr 1
    exact List.map_congr_left fun k _ => by rw [Int.zero_add]
  have e : (cols erd m ts).map PV.int = (List.range m).map fun k => PV.int (colS erd ts k) := by
    unfold cols
    rw [List.map_map]
    rfl
  rw [e]
  refine evComp_mapG (h := fun k : Nat => PV.int (k : Int)) (by simp only [evS, ev, evSeq, seqS_nx, seqS_rt, seqS_ex, evNx, evSet, evIf, evRet, evRetN, evAsg, evDrop, evFor, evApp, evSset, evAug, rX, rB, rA, rI, rP, ev2, ev1, evC, evCh, evAnd, evOr, evNot, evTr, evBl, evOfB, evIte, evTup, evLst, evBi, evCall, evCons, evNil, evVar, evOwn, evSetO, evFrz, frzPs, frzP, unOw, toOw, okW, noOw, evC0, evSl, evPn, evPs, toI, evSeqI, evRng, evIsi, bnd_ok, bnd_ex, ret_some, liftS_ok, B2.fn, B2.fnI, K2.fn, Bi.fn, Tg.fn, evT1, evTm, setAll, pInt, pOrd, pNeg, pAddS, toB, truth_int, truth_bl, pEq_int, pNe_int, Option.map_some, List.getElem?_cons_zero, List.getElem?_cons_succ, List.set_cons_zero, List.set_cons_succ, List.length_cons, List.length_nil, List.length_map, toSeq, isfG, isfB, tagOf, Option.bind_some, fMod_of, fDiv_of2, Int.reduceLT, decide_true, decide_false, Bool.not_true, Bool.not_false, reduceCtorEq, eq_self, Bool.or_false, Bool.false_or, Bool.true_or, Bool.or_true, Bool.and_false, Bool.false_and, Bool.true_and, Bool.and_true, Bool.and_self, Bool.or_self, Int.zero_add, ↓reduceIte, if_true, if_false, bAbs, bMax2, bMin2, bInt, bLen, bTuple, bList, bSum, bMax1, bMin1, items2, pZip, evLz, pRev, pRevT, evCallL, allInts_map, allPairs_map, bSorted, hr]) (by rw [List.length_range]; exact hm) rfl fun k hk => ?_
  have hk : k < m := List.mem_range.mp hk
  refine ⟨[some S, some (.tup (ts.map trP)), some A2, none, none, none, none, some (.int m), some s, some (.int (k : Int)), none, none], rfl, ?_⟩
  have hI : evComp (ev Γ (.seq (.var 1))).i (Tg.many [10, 11]).fn (ev Γ (.and (.cmp .isnt (.ix (.var 10) (.var 9)) (.non)) (.one (.cmp .ne (.ix (.var 10) (.var 9)) (.var 11))))).b (ev Γ (.int 1)).v [10, 11] [some S, some (.tup (ts.map trP)), some A2, none, none, none, none, some (.int m), some s, some (.int (k : Int)), none, none] O = some (.ok (.lst ((ts.filter (wrongT k)).map fun _ => PV.int 1)) O) := evComp_filterG (h := trP) rfl hl rfl fun t h => by
    refine ⟨[some S, some (.tup (ts.map trP)), some A2, none, none, none, none, some (.int m), some s, some (.int (k : Int)), some (.tup (t.1.map oP)), some (.int t.2)], rfl, ?_, fun _ => rfl⟩
    have g := get_oP (show k < t.1.length by rw [ht t h]; exact hk)
    have e2 : wrongT k t = wrongB (t.1.getD k none) t.2 := rfl
    rw [e2]
    revert g
    generalize t.1.getD k none = w
    intro g
    cases w with
    | none =>
      have e : pIsnt .non .non = some false := rfl
      simp only [evS, ev, evSeq, seqS_nx, seqS_rt, seqS_ex, evNx, evSet, evIf, evRet, evRetN, evAsg, evDrop, evFor, evApp, evSset, evAug, rX, rB, rA, rI, rP, ev2, ev1, evC, evCh, evAnd, evOr, evNot, evTr, evBl, evOfB, evIte, evTup, evLst, evBi, evCall, evCons, evNil, evVar, evOwn, evSetO, evFrz, frzPs, frzP, unOw, toOw, okW, noOw, evC0, evSl, evPn, evPs, toI, evSeqI, evRng, evIsi, bnd_ok, bnd_ex, ret_some, liftS_ok, B2.fn, B2.fnI, K2.fn, Bi.fn, Tg.fn, evT1, evTm, setAll, pInt, pOrd, pNeg, pAddS, toB, truth_int, truth_bl, pEq_int, pNe_int, Option.map_some, List.getElem?_cons_zero, List.getElem?_cons_succ, List.set_cons_zero, List.set_cons_succ, List.length_cons, List.length_nil, List.length_map, toSeq, isfG, isfB, tagOf, Option.bind_some, fMod_of, fDiv_of2, Int.reduceLT, decide_true, decide_false, Bool.not_true, Bool.not_false, reduceCtorEq, eq_self, Bool.or_false, Bool.false_or, Bool.true_or, Bool.or_true, Bool.and_false, Bool.false_and, Bool.true_and, Bool.and_true, Bool.and_self, Bool.or_self, Int.zero_add, ↓reduceIte, if_true, if_false, bAbs, bMax2, bMin2, bInt, bLen, bTuple, bList, bSum, bMax1, bMin1, items2, pZip, evLz, pRev, pRevT, evCallL, allInts_map, allPairs_map, bSorted, g, oP, e, wrongB]
    | some w =>
      have e : pIsnt (.int w) .non = some true := rfl
      simp only [evS, ev, evSeq, seqS_nx, seqS_rt, seqS_ex, evNx, evSet, evIf, evRet, evRetN, evAsg, evDrop, evFor, evApp, evSset, evAug, rX, rB, rA, rI, rP, ev2, ev1, evC, evCh, evAnd, evOr, evNot, evTr, evBl, evOfB, evIte, evTup, evLst, evBi, evCall, evCons, evNil, evVar, evOwn, evSetO, evFrz, frzPs, frzP, unOw, toOw, okW, noOw, evC0, evSl, evPn, evPs, toI, evSeqI, evRng, evIsi, bnd_ok, bnd_ex, ret_some, liftS_ok, B2.fn, B2.fnI, K2.fn, Bi.fn, Tg.fn, evT1, evTm, setAll, pInt, pOrd, pNeg, pAddS, toB, truth_int, truth_bl, pEq_int, pNe_int, Option.map_some, List.getElem?_cons_zero, List.getElem?_cons_succ, List.set_cons_zero, List.set_cons_succ, List.length_cons, List.length_nil, List.length_map, toSeq, isfG, isfB, tagOf, Option.bind_some, fMod_of, fDiv_of2, Int.reduceLT, decide_true, decide_false, Bool.not_true, Bool.not_false, reduceCtorEq, eq_self, Bool.or_false, Bool.false_or, Bool.true_or, Bool.or_true, Bool.and_false, Bool.false_and, Bool.true_and, Bool.and_true, Bool.and_self, Bool.or_self, Int.zero_add, ↓reduceIte, if_true, if_false, bAbs, bMax2, bMin2, bInt, bLen, bTuple, bList, bSum, bMax1, bMin1, items2, pZip, evLz, pRev, pRevT, evCallL, allInts_map, allPairs_map, bSorted, g, oP, e, wrongB]
  simp only [evS, ev, evSeq, seqS_nx, seqS_rt, seqS_ex, evNx, evSet, evIf, evRet, evRetN, evAsg, evDrop, evFor, evApp, evSset, evAug, rX, rB, rA, rI, rP, ev2, ev1, evC, evCh, evAnd, evOr, evNot, evTr, evBl, evOfB, evIte, evTup, evLst, evBi, evCall, evCons, evNil, evVar, evOwn, evSetO, evFrz, frzPs, frzP, unOw, toOw, okW, noOw, evC0, evSl, evPn, evPs, toI, evSeqI, evRng, evIsi, bnd_ok, bnd_ex, ret_some, liftS_ok, B2.fn, B2.fnI, K2.fn, Bi.fn, Tg.fn, evT1, evTm, setAll, pInt, pOrd, pNeg, pAddS, toB, truth_int, truth_bl, pEq_int, pNe_int, Option.map_some, List.getElem?_cons_zero, List.getElem?_cons_succ, List.set_cons_zero, List.set_cons_succ, List.length_cons, List.length_nil, List.length_map, toSeq, isfG, isfB, tagOf, Option.bind_some, fMod_of, fDiv_of2, Int.reduceLT, decide_true, decide_false, Bool.not_true, Bool.not_false, reduceCtorEq, eq_self, Bool.or_false, Bool.false_or, Bool.true_or, Bool.or_true, Bool.and_false, Bool.false_and, Bool.true_and, Bool.and_true, Bool.and_self, Bool.or_self, Int.zero_add, ↓reduceIte, if_true, if_false, bAbs, bMax2, bMin2, bInt, bLen, bTuple, bList, bSum, bMax1, bMin1, items2, pZip, evLz, pRev, pRevT, evCallL, allInts_map, allPairs_map, bSorted] at hI
  have wc := wrong_cols k ts
  simp only [evS, ev, evSeq, seqS_nx, seqS_rt, seqS_ex, evNx, evSet, evIf, evRet, evRetN, evAsg, evDrop, evFor, evApp, evSset, evAug, rX, rB, rA, rI, rP, ev2, ev1, evC, evCh, evAnd, evOr, evNot, evTr, evBl, evOfB, evIte, evTup, evLst, evBi, evCall, evCons, evNil, evVar, evOwn, evSetO, evFrz, frzPs, frzP, unOw, toOw, okW, noOw, evC0, evSl, evPn, evPs, toI, evSeqI, evRng, evIsi, bnd_ok, bnd_ex, ret_some, liftS_ok, B2.fn, B2.fnI, K2.fn, Bi.fn, Tg.fn, evT1, evTm, setAll, pInt, pOrd, pNeg, pAddS, toB, truth_int, truth_bl, pEq_int, pNe_int, Option.map_some, List.getElem?_cons_zero, List.getElem?_cons_succ, List.set_cons_zero, List.set_cons_succ, List.length_cons, List.length_nil, List.length_map, toSeq, isfG, isfB, tagOf, Option.bind_some, fMod_of, fDiv_of2, Int.reduceLT, decide_true, decide_false, Bool.not_true, Bool.not_false, reduceCtorEq, eq_self, Bool.or_false, Bool.false_or, Bool.true_or, Bool.or_true, Bool.and_false, Bool.false_and, Bool.true_and, Bool.and_true, Bool.and_self, Bool.or_self, Int.zero_add, ↓reduceIte, if_true, if_false, bAbs, bMax2, bMin2, bInt, bLen, bTuple, bList, bSum, bMax1, bMin1, items2, pZip, evLz, pRev, pRevT, evCallL, allInts_map, allPairs_map, bSorted, hI, wc]
theorem cols_get {f : Option Int → Int → Int} {m k : Nat} (us : List Turn) (h : k < m) : pIx (.tup ((cols f m us).map PV.int)) (.int (k : Int)) = some (.int (colS f us k)) := by
  refine pIx_tup ?_
  unfold cols
  rw [List.getElem?_map, List.getElem?_map, List.getElem?_range h]
  rfl
theorem cols_nil (f : Option Int → Int → Int) (m : Nat) : cols f m [] = List.replicate m 0 := by
  rw [← fold_cols (f := f) (m := m) (ts := []) (fun t ht => by cases ht)]
  rfl
theorem rep_zero (m : Nat) (hm : m ≤ 1000) : pRep (.lst [.int 0]) (.int (m : Int)) = some (.lst ((List.replicate m (0 : Int)).map PV.int)) := by
  unfold pRep
  dsimp only
  rw [if_pos (yes_pos ⟨by omega, by omega, by
    show 1 * (m : Int).toNat ≤ 16777216
    rw [Int.toNat_natCast]
    omega⟩), Int.toNat_natCast, List.map_replicate]
  congr 2
  induction m with
  | zero => rfl
  | succ m ih => rw [List.replicate_succ, List.replicate_succ, List.flatten_cons, ih (by omega)]; rfl
theorem sp37 (Γ : Gm) (H27 : ∀ (ss : List Int) O, ∃ m s : Nat, Γ 27 [.lst (ss.map PV.int)] O = some (.ok (.tup [.int m, .int s]) O) ∧ 1 ≤ m ∧ m ≤ 24 ∧ 1 ≤ s ∧ s ≤ 10)
    (H33 : ∀ (ss : List Int) O, ss.length ≤ 63 → ∃ cs : List Int, Γ 33 [.lst (ss.map PV.int), .int 2] O = some (.ok (.lst (cs.map PV.int)) O) ∧ cs.length ≤ 63)
    (H30 : ∀ (cs : List Int) (m s : Nat) O, cs.length ≤ 63 → m ≤ 24 → ∃ ts : List Turn, Γ 30 [.lst (cs.map PV.int), .int m, .int s] O = some (.ok (.tup (ts.map trP)) O) ∧ ts.length = cs.length ∧ ∀ t ∈ ts, t.1.length = m)
    (H32 : ∀ (m : Nat) (ts : List Turn) O, m ≤ 1000 → (∀ t ∈ ts, t.1.length = m) → Γ 32 [.int m, .tup (ts.map trP)] O = some (.ok (.tup ((cols chg m ts).map PV.int)) O))
    (H35 : ∀ (m : Nat) (ts : List Turn) O, m ≤ 1000 → (∀ t ∈ ts, t.1.length = m) → Γ 35 [.int m, .tup (ts.map trP)] O = some (.ok (.tup ((cols erd m ts).map PV.int)) O))
    (H34 : ∀ (ns : List Int) O, Γ 34 [.tup (ns.map PV.int), .lst (ns.map PV.int)] O = some (.ok (.bl true) O))
    (H36 : ∀ (w : Option Int) (so : Int) O, Γ 36 [oP w, .int so] O = some (.ok (.int (chg w so)) O))
    (ss : List Int) (hl : ss.length ≤ 63) (O : Oms) : evFun (evS Γ b37) 12 [.lst (ss.map PV.int)] O = some (.ok (.bl true) O) := by
  refine evFun_rt (O' := O) (ρ := [some (.lst (ss.map PV.int)), none, none, none, none, none, none, none, none, none, none, none]) rfl ?_
  obtain ⟨m, s, e27, m1, m2, _⟩ := H27 ss O
  obtain ⟨cs, e33, lc⟩ := H33 ss O hl
  obtain ⟨ts, e30, lt, ht⟩ := H30 cs m s O lc m2
  have hS := sums_comp Γ O (fun w so => H36 w so O) (.lst (ss.map PV.int)) m (.int s) (by omega) ts (by omega) ht
  have hT := times_comp Γ O (.lst (ss.map PV.int)) (.lst ((cols chg m ts).map PV.int)) m (.int s) (by omega) ts (by omega) ht
  have c1 := H32 m ts O (by omega) ht
  have c2 := H35 m ts O (by omega) ht
  have hrev : (ts.map trP).reverse = ts.reverse.map trP := List.map_reverse.symm
  have r1 := H32 m ts.reverse O (by omega) fun t h => ht t (List.mem_reverse.mp h)
  have r2 := H35 m ts.reverse O (by omega) fun t h => ht t (List.mem_reverse.mp h)
  rw [cols_perm (List.reverse_perm ts).symm] at r1 r2
  have e2 : (ts.length : Int) / 2 = ((ts.length / 2 : Nat) : Int) := by omega
  have s1 : pSl (.tup (ts.map trP)) none (some ((ts.length / 2 : Nat) : Int)) = some (.tup ((ts.take (ts.length / 2)).map trP)) := by rw [pSl_tup, cutG_map, cutG_take (by omega)]
  have s2 : pSl (.tup (ts.map trP)) (some ((ts.length / 2 : Nat) : Int)) none = some (.tup ((ts.drop (ts.length / 2)).map trP)) := by rw [pSl_tup, cutG_map, cutG_drop (by omega)]
  have c3 := H32 m (ts.take (ts.length / 2)) O (by omega) fun t h => ht t (List.mem_of_mem_take h)
  have c4 := H32 m (ts.drop (ts.length / 2)) O (by omega) fun t h => ht t (List.mem_of_mem_drop h)
  have hr : toR1 [.int (m : Int)] = some ((List.range m).map fun k : Nat => PV.int (k : Int)) := by
    rw [toR1_of ⟨by omega, by omega⟩]
    unfold rangeL
    congr 1
    exact List.map_congr_left fun k _ => by rw [Int.zero_add]
  have aI : ∀ x y : Int, pAdd (.int x) (.int y) = some (.int (x + y)) := fun x y => rfl
  have hA : evComp (ev Γ (.rng1 (.cons (.var 7) (.nil)))).i (Tg.one 9).fn evYes (ev Γ (.op .add (.ix (.var 5) (.var 9)) (.ix (.var 6) (.var 9)))).v [9] [some (.lst (ss.map PV.int)), some (.tup (ts.map trP)), some (.lst ((cols chg m ts).map PV.int)), some (.lst ((cols erd m ts).map PV.int)), some (.int ((ts.length / 2 : Nat) : Int)), some (.tup ((cols chg m (ts.take (ts.length / 2))).map PV.int)), some (.tup ((cols chg m (ts.drop (ts.length / 2))).map PV.int)), some (.int m), some (.int s), none, none, none] O = some (.ok (.lst ((List.range m).map fun k => PV.int (colS chg ts k))) O) := by
    refine evComp_mapG (h := fun k : Nat => PV.int (k : Int)) (by simp only [evS, ev, evSeq, seqS_nx, seqS_rt, seqS_ex, evNx, evSet, evIf, evRet, evRetN, evAsg, evDrop, evFor, evApp, evSset, evAug, rX, rB, rA, rI, rP, ev2, ev1, evC, evCh, evAnd, evOr, evNot, evTr, evBl, evOfB, evIte, evTup, evLst, evBi, evCall, evCons, evNil, evVar, evOwn, evSetO, evFrz, frzPs, frzP, unOw, toOw, okW, noOw, evC0, evSl, evPn, evPs, toI, evSeqI, evRng, evIsi, bnd_ok, bnd_ex, ret_some, liftS_ok, B2.fn, B2.fnI, K2.fn, Bi.fn, Tg.fn, evT1, evTm, setAll, pInt, pOrd, pNeg, pAddS, toB, truth_int, truth_bl, pEq_int, pNe_int, Option.map_some, List.getElem?_cons_zero, List.getElem?_cons_succ, List.set_cons_zero, List.set_cons_succ, List.length_cons, List.length_nil, List.length_map, toSeq, isfG, isfB, tagOf, Option.bind_some, fMod_of, fDiv_of2, Int.reduceLT, decide_true, decide_false, Bool.not_true, Bool.not_false, reduceCtorEq, eq_self, Bool.or_false, Bool.false_or, Bool.true_or, Bool.or_true, Bool.and_false, Bool.false_and, Bool.true_and, Bool.and_true, Bool.and_self, Bool.or_self, Int.zero_add, ↓reduceIte, if_true, if_false, bAbs, bMax2, bMin2, bInt, bLen, bTuple, bList, bSum, bMax1, bMin1, items2, pZip, evLz, pRev, pRevT, evCallL, allInts_map, allPairs_map, bSorted, hr]) (by rw [List.length_range]; omega) rfl fun k hk => ?_
    have hk : k < m := List.mem_range.mp hk
    refine ⟨[some (.lst (ss.map PV.int)), some (.tup (ts.map trP)), some (.lst ((cols chg m ts).map PV.int)), some (.lst ((cols erd m ts).map PV.int)), some (.int ((ts.length / 2 : Nat) : Int)), some (.tup ((cols chg m (ts.take (ts.length / 2))).map PV.int)), some (.tup ((cols chg m (ts.drop (ts.length / 2))).map PV.int)), some (.int m), some (.int s), some (.int (k : Int)), none, none], rfl, ?_⟩
    have e := cols_app (f := chg) (ts := ts.take (ts.length / 2)) (us := ts.drop (ts.length / 2)) k
    rw [List.take_append_drop] at e
    rw [e]
    simp only [evS, ev, evSeq, seqS_nx, seqS_rt, seqS_ex, evNx, evSet, evIf, evRet, evRetN, evAsg, evDrop, evFor, evApp, evSset, evAug, rX, rB, rA, rI, rP, ev2, ev1, evC, evCh, evAnd, evOr, evNot, evTr, evBl, evOfB, evIte, evTup, evLst, evBi, evCall, evCons, evNil, evVar, evOwn, evSetO, evFrz, frzPs, frzP, unOw, toOw, okW, noOw, evC0, evSl, evPn, evPs, toI, evSeqI, evRng, evIsi, bnd_ok, bnd_ex, ret_some, liftS_ok, B2.fn, B2.fnI, K2.fn, Bi.fn, Tg.fn, evT1, evTm, setAll, pInt, pOrd, pNeg, pAddS, toB, truth_int, truth_bl, pEq_int, pNe_int, Option.map_some, List.getElem?_cons_zero, List.getElem?_cons_succ, List.set_cons_zero, List.set_cons_succ, List.length_cons, List.length_nil, List.length_map, toSeq, isfG, isfB, tagOf, Option.bind_some, fMod_of, fDiv_of2, Int.reduceLT, decide_true, decide_false, Bool.not_true, Bool.not_false, reduceCtorEq, eq_self, Bool.or_false, Bool.false_or, Bool.true_or, Bool.or_true, Bool.and_false, Bool.false_and, Bool.true_and, Bool.and_true, Bool.and_self, Bool.or_self, Int.zero_add, ↓reduceIte, if_true, if_false, bAbs, bMax2, bMin2, bInt, bLen, bTuple, bList, bSum, bMax1, bMin1, items2, pZip, evLz, pRev, pRevT, evCallL, allInts_map, allPairs_map, bSorted, cols_get _ hk, aI]
  have eA : ((List.range m).map fun k => PV.int (colS chg ts k)) = (cols chg m ts).map PV.int := by
    unfold cols
    rw [List.map_map]
    rfl
  rw [eA] at hA
  have q1 : pNe (.lst ((cols chg m ts).map PV.int)) (.lst ((cols chg m ts).map PV.int)) = some false := by
    unfold pNe
    rw [pEq_lstI, decide_eq_true rfl]
    rfl
  have z1 : Γ 32 [.int m, .tup []] O = some (.ok (.tup ((cols chg m []).map PV.int)) O) := H32 m [] O (by omega) fun t h => by cases h
  have z2 : Γ 35 [.int m, .tup []] O = some (.ok (.tup ((cols erd m []).map PV.int)) O) := H35 m [] O (by omega) fun t h => by cases h
  rw [cols_nil] at z1 z2
  have hp := rep_zero m (by omega)
  simp only [evS, ev, evSeq, seqS_nx, seqS_rt, seqS_ex, evNx, evSet, evIf, evRet, evRetN, evAsg, evDrop, evFor, evApp, evSset, evAug, rX, rB, rA, rI, rP, ev2, ev1, evC, evCh, evAnd, evOr, evNot, evTr, evBl, evOfB, evIte, evTup, evLst, evBi, evCall, evCons, evNil, evVar, evOwn, evSetO, evFrz, frzPs, frzP, unOw, toOw, okW, noOw, evC0, evSl, evPn, evPs, toI, evSeqI, evRng, evIsi, bnd_ok, bnd_ex, ret_some, liftS_ok, B2.fn, B2.fnI, K2.fn, Bi.fn, Tg.fn, evT1, evTm, setAll, pInt, pOrd, pNeg, pAddS, toB, truth_int, truth_bl, pEq_int, pNe_int, Option.map_some, List.getElem?_cons_zero, List.getElem?_cons_succ, List.set_cons_zero, List.set_cons_succ, List.length_cons, List.length_nil, List.length_map, toSeq, isfG, isfB, tagOf, Option.bind_some, fMod_of, fDiv_of2, Int.reduceLT, decide_true, decide_false, Bool.not_true, Bool.not_false, reduceCtorEq, eq_self, Bool.or_false, Bool.false_or, Bool.true_or, Bool.or_true, Bool.and_false, Bool.false_and, Bool.true_and, Bool.and_true, Bool.and_self, Bool.or_self, Int.zero_add, ↓reduceIte, if_true, if_false, bAbs, bMax2, bMin2, bInt, bLen, bTuple, bList, bSum, bMax1, bMin1, items2, pZip, evLz, pRev, pRevT, evCallL, allInts_map, allPairs_map, bSorted] at hS hT hA
  simp only [b37, evS, ev, evSeq, seqS_nx, seqS_rt, seqS_ex, evNx, evSet, evIf, evRet, evRetN, evAsg, evDrop, evFor, evApp, evSset, evAug, rX, rB, rA, rI, rP, ev2, ev1, evC, evCh, evAnd, evOr, evNot, evTr, evBl, evOfB, evIte, evTup, evLst, evBi, evCall, evCons, evNil, evVar, evOwn, evSetO, evFrz, frzPs, frzP, unOw, toOw, okW, noOw, evC0, evSl, evPn, evPs, toI, evSeqI, evRng, evIsi, bnd_ok, bnd_ex, ret_some, liftS_ok, B2.fn, B2.fnI, K2.fn, Bi.fn, Tg.fn, evT1, evTm, setAll, pInt, pOrd, pNeg, pAddS, toB, truth_int, truth_bl, pEq_int, pNe_int, Option.map_some, List.getElem?_cons_zero, List.getElem?_cons_succ, List.set_cons_zero, List.set_cons_succ, List.length_cons, List.length_nil, List.length_map, toSeq, isfG, isfB, tagOf, Option.bind_some, fMod_of, fDiv_of2, Int.reduceLT, decide_true, decide_false, Bool.not_true, Bool.not_false, reduceCtorEq, eq_self, Bool.or_false, Bool.false_or, Bool.true_or, Bool.or_true, Bool.and_false, Bool.false_and, Bool.true_and, Bool.and_true, Bool.and_self, Bool.or_self, Int.zero_add, ↓reduceIte, if_true, if_false, bAbs, bMax2, bMin2, bInt, bLen, bTuple, bList, bSum, bMax1, bMin1, items2, pZip, evLz, pRev, pRevT, evCallL, allInts_map, allPairs_map, bSorted, e27, e33, e30, hS, hT, c1, c2, H34, hrev, r1, r2, e2, s1, s2, c3, c4, hA, q1, z1, z2, hp]

end Hw
namespace Hw.K12
open PySem PySem.Spec PyProof.Rows L2
/-! ### the text -/
def topS (i : Nat) : Stmt := PySem.Challenge.pw_heedwise_k12_charges.main.body.getD i (.Pass ⟨0, 0, 0, 0⟩)
def d0 : DefD := ⟨16, "_law_cell_at", "_law_cell_at", topS 5, ["_law_script", "_law_k"], ["_law_script", "_law_k"], b16⟩
def d1 : DefD := ⟨27, "_law_many", "_law_many", topS 7, ["_law_script"], ["_law_script", "_law_many_here", "_law_scale"], b27⟩
def d2 : DefD := ⟨28, "_law_stream", "_law_stream", topS 6, ["_law_cell", "_law_many_here"], ["_law_cell", "_law_many_here", "_law_found", "_law_number", "_law_k"], b28⟩
def d3 : DefD := ⟨29, "_law_turn", "_law_turn", topS 9, ["_law_cell", "_law_many_here", "_law_scale"], ["_law_cell", "_law_many_here", "_law_scale", "_law_numbers", "_law_said", "_law_number"], b29⟩
def d4 : DefD := ⟨30, "_law_turns", "_law_turns", topS 10, ["_law_cells_here", "_law_many_here", "_law_scale"], ["_law_cells_here", "_law_many_here", "_law_scale", "_law_cell"], b30⟩
def d5 : DefD := ⟨31, "charge", "charge", topS 1, ["what", "so"], ["what", "so"], b31⟩
def d6 : DefD := ⟨32, "charges", "charges", topS 2, ["many", "turns"], ["many", "turns", "found", "said", "so", "k", "old", "what"], b32⟩
def d7 : DefD := ⟨33, "_law_cells", "_law_cells", topS 8, ["_law_script", "_law_first"], ["_law_script", "_law_first", "_law_cell"], b33⟩
def d8 : DefD := ⟨34, "_law_right", "_law_right", topS 11, ["_law_found", "_law_due"], ["_law_found", "_law_due", "_law_one", "_law_other"], b34⟩
def d9 : DefD := ⟨35, "erred", "erred", topS 3, ["many", "turns"], ["many", "turns", "found", "said", "so", "k", "old", "what"], b35⟩
def d10 : DefD := ⟨36, "_law_off", "_law_off", topS 12, ["_law_what", "_law_so"], ["_law_what", "_law_so"], b36⟩
def d11 : DefD := ⟨37, "law", "law", topS 13, ["_law_script"], ["_law_script", "_law_turns_here", "_law_sums", "_law_times", "_law_few", "_law_ahead", "_law_behind", "_law_many_here", "_law_scale", "_law_k", "_law_said", "_law_so"], b37⟩
def T : Txt0 := ⟨[d0, d1, d2, d3, d4, d5, d6, d7, d8, d9, d10, d11], [], [(1, "bool"), (0, "int"), (3, "tuple")], ["len", "range", "tuple", "int", "abs", "zip", "isinstance", "bool", "min", "max", "sum"]⟩
theorem ok : T.ds.all T.okD = true := by decide +kernel
theorem run16 (n : Nat) : runF T (n + 1) 16 = evFun (evS (runF T n) b16) 2 := rfl
theorem run27 (n : Nat) : runF T (n + 1) 27 = evFun (evS (runF T n) b27) 3 := rfl
theorem run28 (n : Nat) : runF T (n + 1) 28 = evFun (evS (runF T n) b28) 5 := rfl
theorem run29 (n : Nat) : runF T (n + 1) 29 = evFun (evS (runF T n) b29) 6 := rfl
theorem run30 (n : Nat) : runF T (n + 1) 30 = evFun (evS (runF T n) b30) 4 := rfl
theorem run31 (n : Nat) : runF T (n + 1) 31 = evFun (evS (runF T n) b31) 2 := rfl
theorem run32 (n : Nat) : runF T (n + 1) 32 = evFun (evS (runF T n) b32) 8 := rfl
theorem run33 (n : Nat) : runF T (n + 1) 33 = evFun (evS (runF T n) b33) 3 := rfl
theorem run34 (n : Nat) : runF T (n + 1) 34 = evFun (evS (runF T n) b34) 4 := rfl
theorem run35 (n : Nat) : runF T (n + 1) 35 = evFun (evS (runF T n) b35) 8 := rfl
theorem run36 (n : Nat) : runF T (n + 1) 36 = evFun (evS (runF T n) b36) 2 := rfl
theorem run37 (n : Nat) : runF T (n + 1) 37 = evFun (evS (runF T n) b37) 12 := rfl
theorem binds : AllD BindsD T.ds := ⟨fun _ _ _ _ _ _ us hl => match us, hl with | [_, _], _ => rfl, fun _ _ _ _ _ _ us hl => match us, hl with | [_], _ => rfl, fun _ _ _ _ _ _ us hl => match us, hl with | [_, _], _ => rfl, fun _ _ _ _ _ _ us hl => match us, hl with | [_, _, _], _ => rfl, fun _ _ _ _ _ _ us hl => match us, hl with | [_, _, _], _ => rfl, fun _ _ _ _ _ _ us hl => match us, hl with | [_, _], _ => rfl, fun _ _ _ _ _ _ us hl => match us, hl with | [_, _], _ => rfl, fun _ _ _ _ _ _ us hl => match us, hl with | [_, _], _ => rfl, fun _ _ _ _ _ _ us hl => match us, hl with | [_, _], _ => rfl, fun _ _ _ _ _ _ us hl => match us, hl with | [_, _], _ => rfl, fun _ _ _ _ _ _ us hl => match us, hl with | [_, _], _ => rfl, fun _ _ _ _ _ _ us hl => match us, hl with | [_], _ => rfl, trivial⟩
theorem cls {D : Adr} {h : Heap} {mg : Str → Option Value} (KX : D.K.In h) (G : h.Ns mainGlobals mg) (Z : AllD (NoneAt D.K) T.bn) : ∀ (g : Nat) x, T.cl.lookup g = some x → ClsF D D.K mg x (isfG g) := cl_of (l := T.cl) ⟨cls_bool (none_of KX G (Z.get (g := 7) rfl)), cls_int (none_of KX G (Z.get (g := 3) rfl)), cls_tuple (none_of KX G (Z.get (g := 2) rfl)), trivial⟩
theorem all_mk {P : Program} {w : World} {K : PySem.W.Frag} {h : Heap} {mg : Str → Option Value} {fa : Addr} {n : Nat} (X : K.In h) (Gg : h.Ns mainGlobals mg) (hfa : mg "law" = some (.ref fa))
    {f0 : Addr} {oc0 : Value} {od0 an0 : Option Addr} {sl0 : Array (Option Value)} {kV0 dc0 pm0 cd0 ct0 : Value}
    (a0 : PySem.W.nsIn K mainGlobals "_law_cell_at" = some (some (.ref f0))) (l0 : K.lookup f0 = some ⟨oc0, od0, .func (PySem.W.fnOf "_law_cell_at" "_law_cell_at" (defArgs d0.st) (defBody d0.st) (defScope d0.st) .none kV0 dc0 pm0 an0 cd0 ct0), sl0⟩) (c0 : PySem.W.codeIn K cd0 "_law_cell_at" = true) (k0 : PySem.W.keepIn K (.ref f0) = true)
    {f1 : Addr} {oc1 : Value} {od1 an1 : Option Addr} {sl1 : Array (Option Value)} {kV1 dc1 pm1 cd1 ct1 : Value}
    (a1 : PySem.W.nsIn K mainGlobals "_law_many" = some (some (.ref f1))) (l1 : K.lookup f1 = some ⟨oc1, od1, .func (PySem.W.fnOf "_law_many" "_law_many" (defArgs d1.st) (defBody d1.st) (defScope d1.st) .none kV1 dc1 pm1 an1 cd1 ct1), sl1⟩) (c1 : PySem.W.codeIn K cd1 "_law_many" = true) (k1 : PySem.W.keepIn K (.ref f1) = true)
    {f2 : Addr} {oc2 : Value} {od2 an2 : Option Addr} {sl2 : Array (Option Value)} {kV2 dc2 pm2 cd2 ct2 : Value}
    (a2 : PySem.W.nsIn K mainGlobals "_law_stream" = some (some (.ref f2))) (l2 : K.lookup f2 = some ⟨oc2, od2, .func (PySem.W.fnOf "_law_stream" "_law_stream" (defArgs d2.st) (defBody d2.st) (defScope d2.st) .none kV2 dc2 pm2 an2 cd2 ct2), sl2⟩) (c2 : PySem.W.codeIn K cd2 "_law_stream" = true) (k2 : PySem.W.keepIn K (.ref f2) = true)
    {f3 : Addr} {oc3 : Value} {od3 an3 : Option Addr} {sl3 : Array (Option Value)} {kV3 dc3 pm3 cd3 ct3 : Value}
    (a3 : PySem.W.nsIn K mainGlobals "_law_turn" = some (some (.ref f3))) (l3 : K.lookup f3 = some ⟨oc3, od3, .func (PySem.W.fnOf "_law_turn" "_law_turn" (defArgs d3.st) (defBody d3.st) (defScope d3.st) .none kV3 dc3 pm3 an3 cd3 ct3), sl3⟩) (c3 : PySem.W.codeIn K cd3 "_law_turn" = true) (k3 : PySem.W.keepIn K (.ref f3) = true)
    {f4 : Addr} {oc4 : Value} {od4 an4 : Option Addr} {sl4 : Array (Option Value)} {kV4 dc4 pm4 cd4 ct4 : Value}
    (a4 : PySem.W.nsIn K mainGlobals "_law_turns" = some (some (.ref f4))) (l4 : K.lookup f4 = some ⟨oc4, od4, .func (PySem.W.fnOf "_law_turns" "_law_turns" (defArgs d4.st) (defBody d4.st) (defScope d4.st) .none kV4 dc4 pm4 an4 cd4 ct4), sl4⟩) (c4 : PySem.W.codeIn K cd4 "_law_turns" = true) (k4 : PySem.W.keepIn K (.ref f4) = true)
    {f5 : Addr} {oc5 : Value} {od5 an5 : Option Addr} {sl5 : Array (Option Value)} {kV5 dc5 pm5 cd5 ct5 : Value}
    (a5 : PySem.W.nsIn K mainGlobals "charge" = some (some (.ref f5))) (l5 : K.lookup f5 = some ⟨oc5, od5, .func (PySem.W.fnOf "charge" "charge" (defArgs d5.st) (defBody d5.st) (defScope d5.st) .none kV5 dc5 pm5 an5 cd5 ct5), sl5⟩) (c5 : PySem.W.codeIn K cd5 "charge" = true) (k5 : PySem.W.keepIn K (.ref f5) = true)
    {f6 : Addr} {oc6 : Value} {od6 an6 : Option Addr} {sl6 : Array (Option Value)} {kV6 dc6 pm6 cd6 ct6 : Value}
    (a6 : PySem.W.nsIn K mainGlobals "charges" = some (some (.ref f6))) (l6 : K.lookup f6 = some ⟨oc6, od6, .func (PySem.W.fnOf "charges" "charges" (defArgs d6.st) (defBody d6.st) (defScope d6.st) .none kV6 dc6 pm6 an6 cd6 ct6), sl6⟩) (c6 : PySem.W.codeIn K cd6 "charges" = true) (k6 : PySem.W.keepIn K (.ref f6) = true)
    {f7 : Addr} {oc7 : Value} {od7 an7 : Option Addr} {sl7 : Array (Option Value)} {kV7 dc7 pm7 cd7 ct7 : Value}
    (a7 : PySem.W.nsIn K mainGlobals "_law_cells" = some (some (.ref f7))) (l7 : K.lookup f7 = some ⟨oc7, od7, .func (PySem.W.fnOf "_law_cells" "_law_cells" (defArgs d7.st) (defBody d7.st) (defScope d7.st) .none kV7 dc7 pm7 an7 cd7 ct7), sl7⟩) (c7 : PySem.W.codeIn K cd7 "_law_cells" = true) (k7 : PySem.W.keepIn K (.ref f7) = true)
    {f8 : Addr} {oc8 : Value} {od8 an8 : Option Addr} {sl8 : Array (Option Value)} {kV8 dc8 pm8 cd8 ct8 : Value}
    (a8 : PySem.W.nsIn K mainGlobals "_law_right" = some (some (.ref f8))) (l8 : K.lookup f8 = some ⟨oc8, od8, .func (PySem.W.fnOf "_law_right" "_law_right" (defArgs d8.st) (defBody d8.st) (defScope d8.st) .none kV8 dc8 pm8 an8 cd8 ct8), sl8⟩) (c8 : PySem.W.codeIn K cd8 "_law_right" = true) (k8 : PySem.W.keepIn K (.ref f8) = true)
    {f9 : Addr} {oc9 : Value} {od9 an9 : Option Addr} {sl9 : Array (Option Value)} {kV9 dc9 pm9 cd9 ct9 : Value}
    (a9 : PySem.W.nsIn K mainGlobals "erred" = some (some (.ref f9))) (l9 : K.lookup f9 = some ⟨oc9, od9, .func (PySem.W.fnOf "erred" "erred" (defArgs d9.st) (defBody d9.st) (defScope d9.st) .none kV9 dc9 pm9 an9 cd9 ct9), sl9⟩) (c9 : PySem.W.codeIn K cd9 "erred" = true) (k9 : PySem.W.keepIn K (.ref f9) = true)
    {f10 : Addr} {oc10 : Value} {od10 an10 : Option Addr} {sl10 : Array (Option Value)} {kV10 dc10 pm10 cd10 ct10 : Value}
    (a10 : PySem.W.nsIn K mainGlobals "_law_off" = some (some (.ref f10))) (l10 : K.lookup f10 = some ⟨oc10, od10, .func (PySem.W.fnOf "_law_off" "_law_off" (defArgs d10.st) (defBody d10.st) (defScope d10.st) .none kV10 dc10 pm10 an10 cd10 ct10), sl10⟩) (c10 : PySem.W.codeIn K cd10 "_law_off" = true) (k10 : PySem.W.keepIn K (.ref f10) = true)
    {f11 : Addr} {oc11 : Value} {od11 an11 : Option Addr} {sl11 : Array (Option Value)} {kV11 dc11 pm11 cd11 ct11 : Value}
    (a11 : PySem.W.nsIn K mainGlobals "law" = some (some (.ref f11))) (l11 : K.lookup f11 = some ⟨oc11, od11, .func (PySem.W.fnOf "law" "law" (defArgs d11.st) (defBody d11.st) (defScope d11.st) .none kV11 dc11 pm11 an11 cd11 ct11), sl11⟩) (c11 : PySem.W.codeIn K cd11 "law" = true) (k11 : PySem.W.keepIn K (.ref f11) = true)
    (z0 : PySem.W.nsIn K mainGlobals "len" = some none)
    (z1 : PySem.W.nsIn K mainGlobals "range" = some none)
    (z2 : PySem.W.nsIn K mainGlobals "tuple" = some none)
    (z3 : PySem.W.nsIn K mainGlobals "int" = some none)
    (z4 : PySem.W.nsIn K mainGlobals "abs" = some none)
    (z5 : PySem.W.nsIn K mainGlobals "zip" = some none)
    (z6 : PySem.W.nsIn K mainGlobals "isinstance" = some none)
    (z7 : PySem.W.nsIn K mainGlobals "bool" = some none)
    (z8 : PySem.W.nsIn K mainGlobals "min" = some none)
    (z9 : PySem.W.nsIn K mainGlobals "max" = some none)
    (z10 : PySem.W.nsIn K mainGlobals "sum" = some none)
    : ∃ fd : FuncData, (∀ (s : Shared) (u : Value), BindsTo s fd ⟨[u], []⟩ [("_law_script", u)]) ∧ ∀ base : Heap, K.In base → base.Ns mainGlobals mg → FnOk P w K mg base (L2.CX P w) n fa fd ["_law_script"] (spOf ⟨K, fun _ => 0, fun _ => ""⟩ 1 (runF T n 37)) := by
  have Z : AllD (NoneAt K) T.bn := ⟨z0, z1, z2, z3, z4, z5, z6, z7, z8, z9, z10, trivial⟩
  exact law_mk (D := ⟨K, fun _ => 0, fun _ => ""⟩) (T := T) (g := 37) (dL := d11) rfl rfl ok X Gg hfa ⟨⟨f0, oc0, od0, an0, sl0, kV0, dc0, pm0, cd0, ct0, a0, l0, c0, k0⟩, ⟨f1, oc1, od1, an1, sl1, kV1, dc1, pm1, cd1, ct1, a1, l1, c1, k1⟩, ⟨f2, oc2, od2, an2, sl2, kV2, dc2, pm2, cd2, ct2, a2, l2, c2, k2⟩, ⟨f3, oc3, od3, an3, sl3, kV3, dc3, pm3, cd3, ct3, a3, l3, c3, k3⟩, ⟨f4, oc4, od4, an4, sl4, kV4, dc4, pm4, cd4, ct4, a4, l4, c4, k4⟩, ⟨f5, oc5, od5, an5, sl5, kV5, dc5, pm5, cd5, ct5, a5, l5, c5, k5⟩, ⟨f6, oc6, od6, an6, sl6, kV6, dc6, pm6, cd6, ct6, a6, l6, c6, k6⟩, ⟨f7, oc7, od7, an7, sl7, kV7, dc7, pm7, cd7, ct7, a7, l7, c7, k7⟩, ⟨f8, oc8, od8, an8, sl8, kV8, dc8, pm8, cd8, ct8, a8, l8, c8, k8⟩, ⟨f9, oc9, od9, an9, sl9, kV9, dc9, pm9, cd9, ct9, a9, l9, c9, k9⟩, ⟨f10, oc10, od10, an10, sl10, kV10, dc10, pm10, cd10, ct10, a10, l10, c10, k10⟩, ⟨f11, oc11, od11, an11, sl11, kV11, dc11, pm11, cd11, ct11, a11, l11, c11, k11⟩, trivial⟩ binds Z (fun _ _ e => nomatch e) (cls X Gg Z)
end Hw.K12

namespace Hw.K12
open PySem PySem.Spec PyProof.Rows L2
-- level: 4
-- deps: 16 27 28 29 30 31 32 33 34 35 36 37
theorem law_true (ns : List Int) (hl : ns.length ≤ 63) (hb : ∀ z ∈ ns, PySem.Builtin.Int.intBits z ≤ 1048576) : ∃ O', runF T 4 37 [.lst (ns.map PV.int)] [] = some (.ok (.bl true) O') := by
  refine ⟨[], ?_⟩
  have h16 : ∀ n (ns : List Int) (k : Nat) O, runF T (n + 1) 16 [.lst (ns.map PV.int), .int k] O = some (.ok (.int (ns.getD k 0)) O) := fun n ns k O => by rw [run16]; exact sp16 _ ns k O
  have h28 : ∀ n (c : Int) (m : Nat) O, m ≤ 1000 → ∃ js : List Int, js.length = m ∧ runF T (n + 1) 28 [.int c, .int m] O = some (.ok (.lst (js.map PV.int)) O) := fun n c m O h => by rw [run28]; exact sp28 _ c m h O
  have h31 : ∀ n (w : Option Int) (so : Int) O, runF T (n + 1) 31 [oP w, .int so] O = some (.ok (.int (chg w so)) O) := fun n w so O => by rw [run31]; exact sp31 _ w so O
  rw [run37]
  refine sp37 _ (fun ss O => by rw [run27]; exact sp27 _ (h16 1) ss O) (fun ss O h => by rw [run33]; exact sp33 _ (h16 1) (h28 1) ss h O) (fun cs m s O h1 h2 => by rw [run30]; exact sp30 _ m s O (fun c => by rw [run29]; exact sp29 _ (h28 0) c m s (by omega) O) cs (by omega)) (fun m ts O h1 h2 => ?_) (fun m ts O h1 h2 => ?_) (fun ns O => by rw [run34]; exact sp34 _ ns O) (fun w so O => by rw [run36]; exact sp36 _ w so O) ns hl []
  · rw [run32, ← fold_cols h2]
    exact sp32 _ (h31 1) m h1 ts h2 O
  · rw [run35, ← fold_cols h2]
    exact sp35 _ (h31 1) m h1 ts h2 O

end Hw.K12
open PySem PySem.W PyProof.Rows
set_option maxHeartbeats 0 in
theorem PySem.Challenge.cw_heedwise_k12_charges_holds : PySem.Challenge.rw_heedwise_k12_charges.Holds := by
  w_on; o_law; k_head; (case hw => w_witness2)
  k_fill
  refine L2.walk_ofB (l := PySem.Challenge.rw_heedwise_k12_charges) (n := 63) (k := 4) (x := "_law_script") (CX := fun w => L2.CX PySem.Challenge.rw_heedwise_k12_charges.prog w) (sp := fun w => Hw.spOf ⟨_, fun _ => 0, fun _ => ""⟩ 1 (Hw.runF Hw.K12.T 4 37)) rfl (by decide) rfl ⟨rfl, by decide, by decide⟩ (fun w h Y => PySem.W.kIn_of Y) ?F (fun _ _ a nz hl hb _ hS => Hw.law_sp hl hS (Hw.K12.law_true nz hl hb)) (fun _ _ _ _ _ h => Hw.cxFalse h)
  case F =>
    intro w mg fa h KX G hmg
    refine' Hw.K12.all_mk KX G hmg ?a0 ?l0 ?c0 ?k0 ?a1 ?l1 ?c1 ?k1 ?a2 ?l2 ?c2 ?k2 ?a3 ?l3 ?c3 ?k3 ?a4 ?l4 ?c4 ?k4 ?a5 ?l5 ?c5 ?k5 ?a6 ?l6 ?c6 ?k6 ?a7 ?l7 ?c7 ?k7 ?a8 ?l8 ?c8 ?k8 ?a9 ?l9 ?c9 ?k9 ?a10 ?l10 ?c10 ?k10 ?a11 ?l11 ?c11 ?k11 ?z0 ?z1 ?z2 ?z3 ?z4 ?z5 ?z6 ?z7 ?z8 ?z9 ?z10
    (case a0 => k_is); (case l0 => k_is); (case c0 => k_is); (case k0 => k_is)
    (case a1 => k_is); (case l1 => k_is); (case c1 => k_is); (case k1 => k_is)
    (case a2 => k_is); (case l2 => k_is); (case c2 => k_is); (case k2 => k_is)
    (case a3 => k_is); (case l3 => k_is); (case c3 => k_is); (case k3 => k_is)
    (case a4 => k_is); (case l4 => k_is); (case c4 => k_is); (case k4 => k_is)
    (case a5 => k_is); (case l5 => k_is); (case c5 => k_is); (case k5 => k_is)
    (case a6 => k_is); (case l6 => k_is); (case c6 => k_is); (case k6 => k_is)
    (case a7 => k_is); (case l7 => k_is); (case c7 => k_is); (case k7 => k_is)
    (case a8 => k_is); (case l8 => k_is); (case c8 => k_is); (case k8 => k_is)
    (case a9 => k_is); (case l9 => k_is); (case c9 => k_is); (case k9 => k_is)
    (case a10 => k_is); (case l10 => k_is); (case c10 => k_is); (case k10 => k_is)
    (case a11 => k_is); (case l11 => k_is); (case c11 => k_is); (case k11 => k_is)
    (case z0 => k_is)
    (case z1 => k_is)
    (case z2 => k_is)
    (case z3 => k_is)
    (case z4 => k_is)
    (case z5 => k_is)
    (case z6 => k_is)
    (case z7 => k_is)
    (case z8 => k_is)
    (case z9 => k_is)
    (case z10 => k_is)
