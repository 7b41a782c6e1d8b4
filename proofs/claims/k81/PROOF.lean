import PyProof.Rows.All
import Wide.All
import OpenK.AllK
import Wide.FinOn
import HandS.ForMost
import HandS.Wide
import HandS.Gcd
import HandS.Style
import HandS.TupAny
import HandS.TupMul
import HandS.CallSlots
import HandS.ExcCtx
import HandS.IsInst
import KE.KMathG
import HandS.Defaults
import HandS.MakeKw
import HandS.Comp
import HandS.Iter
import HandS.Zip
import HandS.TryOnly
import HandS.More
import HandS.Property
import KE.KOpsOwn
import PyProof.InstNe
import HandS.HotCalls
import HandS.FStr
import HandS.Text
import KE.KCallOwn
import PyProof.ReprHeads
import PyProof.FactsStr
import HandS.HeadHook2
import HandS.New
import HandS.Ends
import HandS.HeadEnd
import HandS.Head0
import HandS.Head1
import HandS.Head2
import PySem.Challenge.RW_pathshapes_k81_whole_between_of_poses
set_option Elab.async false
set_option linter.all false
set_option maxRecDepth 100000
set_option maxHeartbeats 0
/-! Values as trees, how they stand in the abstract heap, and what a step keeps. -/
namespace Ev
open PySem PySem.Spec PyProof.Rows L2

/-- a value: tuples, lists and instances that no longer change are trees; the pot is the one thing that changes and is shared -/
inductive EV where
  | non | bl (b : Bool) | int (i : Int) | str (x : Str) | tup (l : List EV) | lst (l : List EV) | ins (c : Nat) (fs : List EV) | pot | scr (l : List EV)
/-- what an expression comes to: a value, or a list that nobody else holds -/
inductive RV where
  | v (e : EV) | fr (l : List EV)
@[reducible] def RV.ev : RV → EV
  | .v e => e
  | .fr l => .lst l
/-- a slot: nothing, a value, a list of the slot's own, the instance that __init__ fills -/
inductive Slot where
  | none | v (e : EV) | own (l : List EV) | self (c : Nat) (fs : List EV)
abbrev Frm := List Slot
/-- an exception: its class, its fields -/
structure XV where
  c : Nat
  fs : List EV
/-- classes by number: where they stand, their fields in the order of __init__; exceptions likewise -/
structure Wd where
  K : PySem.W.Frag
  cls : Nat → Addr
  flds : Nat → List Str
  xcls : Nat → Addr
  xflds : Nat → List Str
/-- what may change (S), the pots among it (P) -/
structure Gs where
  S : Addr → Prop
  P : Addr → Prop
  me : Option Addr
/-- a tuple of the module -/
def StT (K : PySem.W.Frag) (a : Addr) (xs : List V) : Prop :=
  ∃ (o : Obj) (its : Array Value) (n : Nat), K.lookup a = some o ∧ o.cls = .type "tuple" ∧ o.data = .seq its n ∧ its.size ≤ sizeLine ∧ Vals xs its.toList
theorem StT.sq {K : PySem.W.Frag} {H : Hp} {a : Addr} {xs : List V} (h : StT K a xs) : SqT K H a xs := .inr h

/-- the script: a list that never changes -/
def ScrAt (K : PySem.W.Frag) (g : Gs) (H : Hp) (p : Addr) (vs : List V) : Prop := (∃ o, H p = some (.frz o (.lst vs)) ∧ ¬ g.S p) ∨
  ∃ (o : Obj) (its : Array Value) (n : Nat), K.lookup p = some o ∧ o.cls = .type "list" ∧ o.dict = none ∧ o.data = .seq its n ∧ its.size ≤ sizeLine ∧ Vals vs its.toList
theorem ScrAt.sq {K : PySem.W.Frag} {g : Gs} {H : Hp} {p : Addr} {vs : List V} (h : ScrAt K g H p vs) : SqL K H p vs := by
  rcases h with ⟨o, h, _⟩ | h
  · exact .inl (.inr ⟨o, h⟩)
  · exact .inr h

mutual
inductive VR (W : Wd) (g : Gs) (H : Hp) : EV → V → Prop
  | non : VR W g H .non .non
  | bl (b : Bool) : VR W g H (.bl b) (.bl b)
  | int (i : Int) : VR W g H (.int i) (.int i)
  | str (x : Str) : VR W g H (.str x) (.str x)
  | tup {p : Addr} {vs : List V} {l : List EV} (h : H p = some (.tup vs)) (n : ¬ g.S p) (r : VRs W g H l vs) : VR W g H (.tup l) (.ref p)
  | tupK {p : Addr} {vs : List V} {l : List EV} (h : StT W.K p vs) (r : VRs W g H l vs) : VR W g H (.tup l) (.ref p)
  | lst {p : Addr} {vs : List V} {l : List EV} (h : H p = some (.lst vs)) (n : ¬ g.S p) (r : VRs W g H l vs) : VR W g H (.lst l) (.ref p)
  | ins {p dx : Addr} {vs : List V} {c : Nat} {fs : List EV} (h : H p = some (.ins (W.cls c) dx ((W.flds c).zip vs))) (n : ¬ g.S p) (r : VRs W g H fs vs) (z : fs.length = (W.flds c).length) : VR W g H (.ins c fs) (.ref p)
  | pot {p : Addr} (h : g.P p) : VR W g H .pot (.ref p)
  | scr {p : Addr} {vs : List V} {l : List EV} (h : ScrAt W.K g H p vs) (r : VRs W g H l vs) : VR W g H (.scr l) (.ref p)
inductive VRs (W : Wd) (g : Gs) (H : Hp) : List EV → List V → Prop
  | nil : VRs W g H [] []
  | cons {e : EV} {v : V} {es : List EV} {vs : List V} (h : VR W g H e v) (r : VRs W g H es vs) : VRs W g H (e :: es) (v :: vs)
end

/-- what stood and may not change stands; it does not come to be among what may change -/
structure Tr (g : Gs) (H : Hp) (g' : Gs) (H' : Hp) : Prop where
  keep : ∀ p o, H p = some o → (∀ ps, o ≠ .tbl ps) → ¬ g.S p → H' p = some o ∧ ¬ g'.S p
  pots : ∀ p, g.P p → g'.P p
  me : g'.me = g.me
section
variable {W : Wd} {g g1 g2 : Gs} {H H1 H2 : Hp}
theorem Tr.refl : Tr g H g H := ⟨fun _ _ h _ n => ⟨h, n⟩, fun _ h => h, rfl⟩
theorem Tr.trans (a : Tr g H g1 H1) (b : Tr g1 H1 g2 H2) : Tr g H g2 H2 :=
  ⟨fun p o h t n => let ⟨h1, n1⟩ := a.keep p o h t n; b.keep p o h1 t n1, fun p h => b.pots p (a.pots p h), b.me.trans a.me⟩
theorem Tr.new {p : Addr} {o : HO} (h : H p = none) : Tr g H g (upd H p o) :=
  ⟨fun q u e _ n => ⟨by rw [upd_ne (ne_of_none e h)]; exact e, n⟩, fun _ h => h, rfl⟩
theorem ScrAt.mono {K : PySem.W.Frag} {p : Addr} {vs : List V} (t : Tr g H g1 H1) (h : ScrAt K g H p vs) : ScrAt K g1 H1 p vs := by
  rcases h with ⟨o, h, n⟩ | h
  · obtain ⟨h1, n1⟩ := t.keep _ _ h (fun _ z => by cases z) n
    exact .inl ⟨o, h1, n1⟩
  · exact .inr h
mutual
theorem VR.mono (t : Tr g H g1 H1) : ∀ {e : EV} {v : V}, VR W g H e v → VR W g1 H1 e v
  | _, _, .non => .non
  | _, _, .bl b => .bl b
  | _, _, .int i => .int i
  | _, _, .str x => .str x
  | _, _, .tup h n r => let ⟨h1, n1⟩ := t.keep _ _ h (fun _ z => by cases z) n; .tup h1 n1 (VRs.mono t r)
  | _, _, .tupK h r => .tupK h (VRs.mono t r)
  | _, _, .lst h n r => let ⟨h1, n1⟩ := t.keep _ _ h (fun _ z => by cases z) n; .lst h1 n1 (VRs.mono t r)
  | _, _, .ins h n r z => let ⟨h1, n1⟩ := t.keep _ _ h (fun _ z => by cases z) n; .ins h1 n1 (VRs.mono t r) z
  | _, _, .pot h => .pot (t.pots _ h)
  | _, _, .scr h r => .scr (h.mono t) (VRs.mono t r)
theorem VRs.mono (t : Tr g H g1 H1) : ∀ {es : List EV} {vs : List V}, VRs W g H es vs → VRs W g1 H1 es vs
  | _, _, .nil => .nil
  | _, _, .cons h r => .cons (VR.mono t h) (VRs.mono t r)
end
theorem VRs.length : ∀ {es : List EV} {vs : List V}, VRs W g H es vs → es.length = vs.length
  | _, _, .nil => rfl
  | _, _, .cons _ r => by rw [List.length_cons, List.length_cons, VRs.length r]
theorem VRs.app : ∀ {es fs : List EV} {vs us : List V}, VRs W g H es vs → VRs W g H fs us → VRs W g H (es ++ fs) (vs ++ us)
  | _, _, _, _, .nil, s => s
  | _, _, _, _, .cons h r, s => .cons h (VRs.app r s)
theorem VRs.get : ∀ {es : List EV} {vs : List V} {i : Nat} {e : EV}, VRs W g H es vs → es[i]? = some e → ∃ v, vs[i]? = some v ∧ VR W g H e v
  | _, _, _, _, .nil, h => by simp at h
  | _, _, 0, _, .cons h r, q => by
    have e := Option.some.inj (by simpa using q : some _ = some _)
    subst e
    exact ⟨_, rfl, h⟩
  | _, _, i + 1, _, .cons h r, q => by
    obtain ⟨v, h1, h2⟩ := VRs.get (i := i) r (by simpa using q)
    exact ⟨v, by simpa using h1, h2⟩
theorem VRs.take : ∀ (n : Nat) {es : List EV} {vs : List V}, VRs W g H es vs → VRs W g H (es.take n) (vs.take n)
  | 0, _, _, _ => .nil
  | _ + 1, _, _, .nil => .nil
  | n + 1, _, _, .cons h r => .cons h (VRs.take n r)
theorem VRs.drop : ∀ (n : Nat) {es : List EV} {vs : List V}, VRs W g H es vs → VRs W g H (es.drop n) (vs.drop n)
  | 0, _, _, r => r
  | _ + 1, _, _, .nil => .nil
  | n + 1, _, _, .cons _ r => VRs.drop n r
theorem VRs.set {e : EV} {v : V} (h : VR W g H e v) : ∀ (i : Nat) {es : List EV} {vs : List V}, VRs W g H es vs → VRs W g H (es.set i e) (vs.set i v)
  | _, _, _, .nil => .nil
  | 0, _, _, .cons _ r => .cons h r
  | i + 1, _, _, .cons q r => .cons q (VRs.set h i r)
theorem VRs.ints : ∀ {is : List Int} {vs : List V}, VRs W g H (is.map EV.int) vs → vs = is.map V.int
  | [], _, .nil => rfl
  | i :: is, _, .cons h r => by
    cases h
    rw [VRs.ints r]; rfl
theorem VRs.one {e : EV} {vs : List V} (h : VRs W g H [e] vs) : ∃ v, vs = [v] ∧ VR W g H e v := by
  cases h with
  | cons h r => cases r; exact ⟨_, rfl, h⟩
theorem VRs.two {e f : EV} {vs : List V} (h : VRs W g H [e, f] vs) : ∃ v u, vs = [v, u] ∧ VR W g H e v ∧ VR W g H f u := by
  cases h with
  | cons h r => obtain ⟨u, rfl, q⟩ := r.one; exact ⟨_, _, rfl, h, q⟩
/-- a tuple is to be read -/
theorem VR.sqT {l : List EV} {v : V} (h : VR W g H (.tup l) v) : ∃ p vs, v = .ref p ∧ SqT W.K H p vs ∧ VRs W g H l vs := by
  cases h with
  | tup h n r => exact ⟨_, _, rfl, .of h, r⟩
  | tupK h r => exact ⟨_, _, rfl, h.sq, r⟩
theorem VR.sqS {l : List EV} {v : V} (h : VR W g H (.scr l) v) : ∃ p vs, v = .ref p ∧ SqL W.K H p vs ∧ VRs W g H l vs := by
  cases h with
  | scr h r => exact ⟨_, _, rfl, h.sq, r⟩
theorem VR.sqL {l : List EV} {v : V} (h : VR W g H (.lst l) v) : ∃ p vs, v = .ref p ∧ SqL W.K H p vs ∧ VRs W g H l vs := by
  cases h with
  | lst h n r => exact ⟨_, _, rfl, .of h, r⟩
end

/-- what a pot holds -/
def PotOk (a b : Int) : Prop := 0 ≤ a ∧ 0 ≤ b
def PotsOk (P : Addr → Prop) (H : Hp) : Prop := ∀ p, P p → ∃ a b, H p = some (.lst [.int a, .int b]) ∧ PotOk a b

/-- a slot -/
def SlR (W : Wd) (own : Nat → Option Addr) (g : Gs) (σ : L2.St) (H : Hp) (i : Nat) : Slot → Prop
  | .none => own i = Option.none
  | .v e => own i = Option.none ∧ ∃ u, σ[i]? = some (some u) ∧ VR W g H e u
  | .own l => ∃ p vs, own i = some p ∧ σ[i]? = some (some (.ref p)) ∧ H p = some (.lst vs) ∧ VRs W g H l vs
  | .self c fs => ∃ p dx vs, own i = some p ∧ g.me = some p ∧ σ[i]? = some (some (.ref p)) ∧ H p = some (.ins (W.cls c) dx (((W.flds c).take fs.length).zip vs)) ∧ VRs W g H fs vs ∧ fs.length ≤ (W.flds c).length
/-- a frame and the state: g0 what the callers own, own the slots' own objects, x an object that only the value at hand bears -/
structure Sim (W : Wd) (g0 : Hp) (own : Nat → Option Addr) (x : Option Addr) (g : Gs) (fr : Frm) (σ : L2.St) (H : Hp) : Prop where
  s_iff : ∀ p, g.S p ↔ (g0 p ≠ none ∨ (∃ i, own i = some p) ∨ x = some p ∨ g.P p)
  g0k : ∀ p o, g0 p = some o → H p = some o
  np : ∀ p, g.P p → g0 p = none ∧ (∀ i, own i ≠ some p) ∧ x ≠ some p
  no : ∀ i p, own i = some p → g0 p = none ∧ x ≠ some p
  nx : ∀ p, x = some p → g0 p = none ∧ H p ≠ none
  inj : ∀ i j p, own i = some p → own j = some p → i = j
  pot : PotsOk g.P H
  len : fr.length = σ.length
  slot : ∀ i s, fr[i]? = some s → SlR W own g σ H i s
  out : ∀ i, fr.length ≤ i → own i = none
/-- the value that an expression came to -/
def RR (W : Wd) (g : Gs) (x : Option Addr) (H : Hp) : RV → V → Prop
  | .v e, u => x = none ∧ VR W g H e u
  | .fr l, u => ∃ p vs, x = some p ∧ u = .ref p ∧ H p = some (.lst vs) ∧ VRs W g H l vs
theorem RR.val {W : Wd} {g : Gs} {H : Hp} {e : EV} {u : V} (h : VR W g H e u) : RR W g none H (.v e) u := ⟨rfl, h⟩
def XR (W : Wd) (g : Gs) (H : Hp) (z : XV) (cls : Value) (d : Option Addr) : Prop :=
  cls = .ref (W.xcls z.c) ∧ ((z.fs = [] ∧ d = none) ∨ ∃ dx vs, d = some dx ∧ H dx = some (.xd ((W.xflds z.c).zip vs)) ∧ ¬ g.S dx ∧ VRs W g H z.fs vs ∧ z.fs.length = (W.xflds z.c).length)
section
variable {W : Wd} {g0 : Hp} {own : Nat → Option Addr} {x : Option Addr} {g : Gs} {fr : Frm} {σ : L2.St} {H H' : Hp}
/-- what may change, without the value at hand -/
def Gs.cut (g : Gs) (x : Option Addr) : Gs := ⟨fun p => g.S p ∧ x ≠ some p, g.P, g.me⟩
theorem Tr.cut (np : ∀ p, g.P p → x ≠ some p) : Tr g H (g.cut x) H := ⟨fun p o h _ n => ⟨h, fun z => n z.1⟩, fun _ h => h, rfl⟩
theorem slot_mono {own : Nat → Option Addr} {g1 : Gs} {i : Nat} {s : Slot} (t : Tr g H g1 H') (k : ∀ p o, own i = some p → H p = some o → H' p = some o)
    (h : SlR W own g σ H i s) : SlR W own g1 σ H' i s := by
  cases s with
  | none => exact h
  | v e => obtain ⟨h1, u, h2, h3⟩ := h; exact ⟨h1, u, h2, h3.mono t⟩
  | own l => obtain ⟨p, vs, h1, h2, h3, h4⟩ := h; exact ⟨p, vs, h1, h2, k p _ h1 h3, h4.mono t⟩
  | self c fs => obtain ⟨p, dx, vs, h1, hm, h2, h3, h4, h5⟩ := h; exact ⟨p, dx, vs, h1, t.me.trans hm, h2, k p _ h1 h3, h4.mono t, h5⟩
/-- the value at hand is given up: it no longer changes -/
theorem Sim.cut (S : Sim W g0 own x g fr σ H) : Sim W g0 own none (g.cut x) fr σ H := by
  have t : Tr g H (g.cut x) H := Tr.cut fun p h => (S.np p h).2.2
  refine ⟨fun p => ?_, S.g0k, fun p h => ⟨(S.np p h).1, (S.np p h).2.1, by simp⟩, fun i p h => ⟨(S.no i p h).1, by simp⟩, fun p h => by simp at h, S.inj, S.pot, S.len, fun i s h => ?_, S.out⟩
  · show (g.S p ∧ x ≠ some p) ↔ _
    rw [S.s_iff p]
    constructor
    · rintro ⟨h | h | h | h, n⟩
      · exact .inl h
      · exact .inr (.inl h)
      · exact absurd h n
      · exact .inr (.inr (.inr h))
    · rintro (h | ⟨i, h⟩ | h | h)
      · refine ⟨.inl h, fun z => h (S.nx p z).1⟩
      · exact ⟨.inr (.inl ⟨i, h⟩), (S.no i p h).2⟩
      · simp at h
      · exact ⟨.inr (.inr (.inr h)), (S.np p h).2.2⟩
  · exact slot_mono t (fun _ _ _ q => q) (S.slot i s h)
theorem RR.cut {r : RV} {u : V} (S : Sim W g0 own x g fr σ H) (h : RR W g x H r u) : VR W (g.cut x) H r.ev u := by
  have t : Tr g H (g.cut x) H := Tr.cut fun p h => (S.np p h).2.2
  cases r with
  | v e => exact h.2.mono t
  | fr l =>
    obtain ⟨p, vs, hx, rfl, h1, h2⟩ := h
    exact .lst h1 (fun z => z.2 hx) (h2.mono t)
/-- a new object that no longer changes -/
theorem Sim.new {p : Addr} {o : HO} (S : Sim W g0 own x g fr σ H) (h : H p = none) : Sim W g0 own x g fr σ (upd H p o) := by
  have ne : ∀ q u, H q = some u → q ≠ p := fun q u e => ne_of_none e h
  refine ⟨S.s_iff, fun q u e => ?_, S.np, S.no, fun q e => ⟨(S.nx q e).1, ?_⟩, S.inj, fun q e => ?_, S.len, fun i s e => ?_, S.out⟩
  · rw [upd_ne (ne q u (S.g0k q u e))]; exact S.g0k q u e
  · by_cases z : q = p
    · rw [z, upd_same]; simp
    · rw [upd_ne z]; exact (S.nx q e).2
  · obtain ⟨a, b, h1, h2⟩ := S.pot q e
    exact ⟨a, b, by rw [upd_ne (ne q _ h1)]; exact h1, h2⟩
  · exact slot_mono (Tr.new h) (fun q u _ e => by rw [upd_ne (ne q u e)]; exact e) (S.slot i s e)
theorem Sim.ntS {p : Addr} (S : Sim W g0 own x g fr σ H) (h : H p = none) : ¬ g.S p := fun z => by
  rcases (S.s_iff p).mp z with q | ⟨i, q⟩ | q | q
  · cases e : g0 p with
    | none => exact q e
    | some o => rw [S.g0k p o e] at h; cases h
  · have hi : i < fr.length := Nat.lt_of_not_le fun le => by rw [S.out i le] at q; cases q
    have z := S.slot i fr[i] (by simp [hi])
    cases e : fr[i] with
    | none => rw [e] at z; rw [show own i = none from z] at q; cases q
    | v e' => rw [e] at z; rw [z.1] at q; cases q
    | own l => rw [e] at z; obtain ⟨p', vs, h1, _, h3, _⟩ := z; rw [h1] at q; cases q; rw [h] at h3; cases h3
    | self c fs => rw [e] at z; obtain ⟨p', dx, vs, h1, _, _, h3, _⟩ := z; rw [h1] at q; cases q; rw [h] at h3; cases h3
  · exact (S.nx p q).2 h
  · obtain ⟨a, b, h1, _⟩ := S.pot p q
    rw [h] at h1; cases h1
/-- a new list, at hand -/
theorem Sim.fresh {p : Addr} {o : HO} (S : Sim W g0 own none g fr σ H) (h : H p = none) : Sim W g0 own (some p) ⟨fun q => g.S q ∨ q = p, g.P, g.me⟩ fr σ (upd H p o) ∧ Tr g H ⟨fun q => g.S q ∨ q = p, g.P, g.me⟩ (upd H p o) := by
  have ne : ∀ q u, H q = some u → q ≠ p := fun q u e => ne_of_none e h
  have t : Tr g H ⟨fun q => g.S q ∨ q = p, g.P, g.me⟩ (upd H p o) := ⟨fun q u e _ n => ⟨by rw [upd_ne (ne q u e)]; exact e, fun z => z.elim n (ne q u e)⟩, fun _ h => h, rfl⟩
  have nS := S.ntS h
  refine ⟨⟨fun q => ?_, fun q u e => ?_, fun q e => ⟨(S.np q e).1, (S.np q e).2.1, fun z => ?_⟩, fun i q e => ⟨(S.no i q e).1, fun z => ?_⟩, fun q e => ?_, S.inj, fun q e => ?_, S.len, fun i s e => ?_, S.out⟩, t⟩
  · show (g.S q ∨ q = p) ↔ _
    rw [S.s_iff q]
    constructor
    · rintro ((h | h | h | h) | h)
      · exact .inl h
      · exact .inr (.inl h)
      · simp at h
      · exact .inr (.inr (.inr h))
      · exact .inr (.inr (.inl (by rw [h])))
    · rintro (h | h | h | h)
      · exact .inl (.inl h)
      · exact .inl (.inr (.inl h))
      · exact .inr (Option.some.inj h).symm
      · exact .inl (.inr (.inr (.inr h)))
  · rw [upd_ne (ne q u (S.g0k q u e))]; exact S.g0k q u e
  · have : p = q := Option.some.inj z
    subst this
    exact nS ((S.s_iff p).mpr (.inr (.inr (.inr e))))
  · have : p = q := Option.some.inj z
    subst this
    exact nS ((S.s_iff p).mpr (.inr (.inl ⟨i, e⟩)))
  · have : p = q := Option.some.inj e
    subst this
    refine ⟨?_, by rw [upd_same]; simp⟩
    cases q : g0 p with
    | none => rfl
    | some u => rw [S.g0k p u q] at h; cases h
  · obtain ⟨a, b, h1, h2⟩ := S.pot q e
    exact ⟨a, b, by rw [upd_ne (ne q _ h1)]; exact h1, h2⟩
  · exact slot_mono t (fun q u _ e => by rw [upd_ne (ne q u e)]; exact e) (S.slot i s e)
end
end Ev

/-! What a piece of text does to a frame of trees, in the manner of continuations; how that stands to the judgements. -/
namespace Ev
open PySem PySem.Spec PyProof.Rows L2
abbrev St := L2.St

abbrev FT := Nat → List EV → (RV → Bool) → (XV → Bool) → Bool
abbrev KX := XV → Frm → Bool
abbrev ED := FT → Frm → (RV → Frm → Bool) → KX → Bool
abbrev TD := FT → Frm → (Bool → Frm → Bool) → KX → Bool
abbrev AD := FT → Frm → (List EV → Frm → Bool) → KX → Bool
structure KS where
  nx : Frm → Bool
  rt : RV → Frm → Bool
  bk : Frm → Bool
  ct : Frm → Bool
  kx : KX
abbrev SD := FT → Frm → KS → Bool

section
variable (W : Wd) (Wx : WX) (F : FT)
/-- what is wished of an exception -/
def CoX (g0 : Hp) (σ : St) (g : Gs) (H : Hp) (kx : KX) : Prop :=
  ∀ own' g' fr' H' z cls d, Sim W g0 own' none g' fr' σ H' → Tr g H g' H' → XR W g' H' z cls d → kx z fr' = true → Wx cls d σ H'
def den (d : ED) : TE := fun σ H Q => ∃ g0 own g fr k kx, Sim W g0 own none g fr σ H ∧ CoX W Wx g0 σ g H kx ∧
  (∀ own' x g' fr' H' r u, Sim W g0 own' x g' fr' σ H' → Tr g H g' H' → RR W g' x H' r u → k r fr' = true → Q u H') ∧ d F fr k kx = true
def denT (d : TD) : TT := fun σ H Q => ∃ g0 own g fr k kx, Sim W g0 own none g fr σ H ∧ CoX W Wx g0 σ g H kx ∧
  (∀ own' g' fr' H' b, Sim W g0 own' none g' fr' σ H' → Tr g H g' H' → k b fr' = true → Q b H') ∧ d F fr k kx = true
def denA (d : AD) : TA := fun σ H Q => ∃ g0 own g fr k kx, Sim W g0 own none g fr σ H ∧ CoX W Wx g0 σ g H kx ∧
  (∀ own' g' fr' H' es us, Sim W g0 own' none g' fr' σ H' → Tr g H g' H' → VRs W g' H' es us → k es fr' = true → Q us H') ∧ d F fr k kx = true
end
section
variable {W : Wd} {Wx : WX} {F : FT} {g0 : Hp} {own : Nat → Option Addr} {g g1 : Gs} {fr : Frm} {σ : St} {H H1 : Hp} {k : RV → Frm → Bool} {kx : KX}
theorem CoX.mono (c : CoX W Wx g0 σ g H kx) (t : Tr g H g1 H1) : CoX W Wx g0 σ g1 H1 kx :=
  fun own' g' fr' H' z cls d S T R q => c own' g' fr' H' z cls d S (t.trans T) R q
theorem Tr.cutS {x : Option Addr} (S : Sim W g0 own x g fr σ H) : Tr g H (g.cut x) H := Tr.cut fun p h => (S.np p h).2.2
/-- an expression, then more: the value at hand is given up -/
theorem den_then {d : ED} {kk : EV → Frm → Bool} {Q : VK} (S : Sim W g0 own none g fr σ H) (c : CoX W Wx g0 σ g H kx) (h : d F fr (fun r f => kk r.ev f) kx = true)
    (next : ∀ own1 g1 fr1 H1 e u, Sim W g0 own1 none g1 fr1 σ H1 → Tr g H g1 H1 → VR W g1 H1 e u → kk e fr1 = true → Q u H1) : den W Wx F d σ H Q :=
  ⟨g0, own, g, fr, _, kx, S, c, fun own1 x g1 fr1 H1 r u S1 T1 R1 q => next own1 (g1.cut x) fr1 H1 r.ev u S1.cut (T1.trans (Tr.cutS S1)) (RR.cut S1 R1) q, h⟩
theorem denA_then {d : AD} {kk : List EV → Frm → Bool} {Q : List V → Hp → Prop} (S : Sim W g0 own none g fr σ H) (c : CoX W Wx g0 σ g H kx) (h : d F fr kk kx = true)
    (next : ∀ own1 g1 fr1 H1 es us, Sim W g0 own1 none g1 fr1 σ H1 → Tr g H g1 H1 → VRs W g1 H1 es us → kk es fr1 = true → Q us H1) : denA W Wx F d σ H Q :=
  ⟨g0, own, g, fr, _, kx, S, c, next, h⟩
theorem denT_then {d : TD} {kk : Bool → Frm → Bool} {Q : Bool → Hp → Prop} (S : Sim W g0 own none g fr σ H) (c : CoX W Wx g0 σ g H kx) (h : d F fr kk kx = true)
    (next : ∀ own1 g1 fr1 H1 b, Sim W g0 own1 none g1 fr1 σ H1 → Tr g H g1 H1 → kk b fr1 = true → Q b H1) : denT W Wx F d σ H Q :=
  ⟨g0, own, g, fr, _, kx, S, c, next, h⟩
end
theorem PE.imp {X : Cx} {e : Expr} {t t' : TE} (h : PE X e t) (i : ∀ σ H Q, t' σ H Q → t σ H Q) : PE X e t' := ⟨fun pins s σ H Q I q => h.run pins s σ H Q I (i σ H Q q)⟩
theorem PT.imp {X : Cx} {e : Expr} {t t' : TT} (h : PT X e t) (i : ∀ σ H Q, t' σ H Q → t σ H Q) : PT X e t' := ⟨fun pins s σ H Q I q => h.run pins s σ H Q I (i σ H Q q)⟩
theorem PW.imp {X : Cx} {e : Expr} {t t' : TT} (h : PW X e t) (i : ∀ σ H Q, t' σ H Q → t σ H Q) : PW X e t' := ⟨fun wh pins s σ H Q I q => h.run wh pins s σ H Q I (i σ H Q q)⟩
theorem PA.imp {X : Cx} {es : List Expr} {t t' : TA} (h : PA X es t) (i : ∀ σ H Q, t' σ H Q → t σ H Q) : PA X es t' := ⟨fun pos pins s σ H Q I q => h.run pos pins s σ H Q I (i σ H Q q)⟩

/-! ### the pieces -/
def getS : Frm → Nat → Slot
  | [], _ => .none
  | s :: _, 0 => s
  | _ :: r, n + 1 => getS r n
theorem getS_of : ∀ {fr : Frm} {i : Nat}, getS fr i ≠ .none → fr[i]? = some (getS fr i)
  | [], _, h => absurd rfl h
  | s :: _, 0, h => rfl
  | _ :: r, n + 1, h => by
    exact getS_of (fr := r) (i := n) h
def setS : Frm → Nat → Slot → Frm
  | [], _, _ => []
  | _ :: r, 0, v => v :: r
  | x :: r, n + 1, v => x :: setS r n v
theorem setS_eq : ∀ {fr : Frm} {i : Nat} {v : Slot}, setS fr i v = fr.set i v
  | [], _, _ => rfl
  | _ :: _, 0, _ => rfl
  | _ :: r, n + 1, v => by show _ :: setS r n v = _; rw [setS_eq]; rfl
/-- a name's value; a slot's own list is given up as the slot's own -/
def dVar (i : Nat) : ED := fun _ fr k _ => match getS fr i with
  | .v e => k (.v e) fr
  | .own l => k (.v (.lst l)) (setS fr i (.v (.lst l)))
  | _ => false
def dC (e : EV) : ED := fun _ fr k _ => k (.v e) fr
def dArgs : List ED → AD
  | [] => fun _ fr k _ => k [] fr
  | d :: ds => fun F fr k kx => d F fr (fun r fr1 => dArgs ds F fr1 (fun es fr2 => k (r.ev :: es) fr2) kx) kx
/-- two values, then their operator -/
def dBin (o : EV → EV → Option RV) (a b : ED) : ED := fun F fr k kx => a F fr (fun r fr1 => b F fr1 (fun s fr2 => match o r.ev s.ev with
  | some v => k v fr2
  | none => false) kx) kx
def dUn (o : EV → Option RV) (a : ED) : ED := fun F fr k kx => a F fr (fun r fr1 => match o r.ev with
  | some v => k v fr1
  | none => false) kx
section
variable {X : Cx} {W : Wd} {Wx : WX} {F : FT} {g0 : Hp} {own : Nat → Option Addr} {g : Gs} {fr : Frm} {σ : St} {H : Hp}
/-- the slot's own list is the slot's own no longer -/
theorem Sim.give {i : Nat} {l : List EV} (S : Sim W g0 own none g fr σ H) (h : fr[i]? = some (.own l)) :
    ∃ own1 g1, Sim W g0 own1 none g1 (fr.set i (.v (.lst l))) σ H ∧ Tr g H g1 H ∧ ∃ u, σ[i]? = some (some u) ∧ VR W g1 H (.lst l) u := by
  obtain ⟨p, vs, h1, h2, h3, h4⟩ := S.slot i _ h
  have hi : i < fr.length := (List.getElem?_eq_some_iff.mp h).1
  let own1 : Nat → Option Addr := fun j => if j = i then none else own j
  let g1 : Gs := ⟨fun q => g.S q ∧ q ≠ p, g.P, g.me⟩
  have np : ¬ g.P p := fun z => (S.np p z).2.1 i h1
  have t : Tr g H g1 H := ⟨fun q o e _ n => ⟨e, fun z => n z.1⟩, fun _ h => h, rfl⟩
  have w : VR W g1 H (.lst l) (.ref p) := .lst h3 (fun z => z.2 rfl) (h4.mono t)
  refine ⟨own1, g1, ⟨fun q => ?_, S.g0k, fun q z => ⟨(S.np q z).1, fun j => ?_, by simp⟩, fun j q z => ?_, fun q z => by simp at z, fun j j' q z z' => ?_, S.pot, by rw [List.length_set]; exact S.len, fun j s e => ?_, fun j le => ?_⟩, t, _, h2, w⟩
  · show (g.S q ∧ q ≠ p) ↔ _
    rw [S.s_iff q]
    constructor
    · rintro ⟨z | ⟨j, z⟩ | z | z, n⟩
      · exact .inl z
      · refine .inr (.inl ⟨j, ?_⟩)
        by_cases e : j = i
        · subst e; rw [h1] at z; cases z; exact absurd rfl n
        · show (if j = i then none else own j) = _; rw [if_neg e]; exact z
      · simp at z
      · exact .inr (.inr (.inr z))
    · rintro (z | ⟨j, z⟩ | z | z)
      · exact ⟨.inl z, fun e => z (by rw [e]; exact (S.no i p h1).1)⟩
      · by_cases e : j = i
        · have z' : (if j = i then none else own j) = some q := z
          rw [if_pos e] at z'; cases z'
        · have z' : (if j = i then none else own j) = some q := z
          rw [if_neg e] at z'
          exact ⟨.inr (.inl ⟨j, z'⟩), fun e2 => e (S.inj j i p (by rw [← e2]; exact z') h1)⟩
      · simp at z
      · exact ⟨.inr (.inr (.inr z)), fun e => np (by rw [← e]; exact z)⟩
  · show (if j = i then none else own j) ≠ _
    by_cases e : j = i
    · rw [if_pos e]; simp
    · rw [if_neg e]; exact (S.np q z).2.1 j
  · have z' : (if j = i then none else own j) = some q := z
    by_cases e : j = i
    · rw [if_pos e] at z'; cases z'
    · rw [if_neg e] at z'; exact ⟨(S.no j q z').1, by simp⟩
  · have z1 : (if j = i then none else own j) = some q := z
    have z2 : (if j' = i then none else own j') = some q := z'
    by_cases e : j = i
    · rw [if_pos e] at z1; cases z1
    · by_cases e' : j' = i
      · rw [if_pos e'] at z2; cases z2
      · rw [if_neg e] at z1; rw [if_neg e'] at z2; exact S.inj j j' q z1 z2
  · by_cases e2 : j = i
    · subst e2
      rw [List.getElem?_set_self hi] at e
      cases e
      exact ⟨if_pos rfl, _, h2, w⟩
    · rw [List.getElem?_set_ne (Ne.symm e2)] at e
      have q := slot_mono (g1 := g1) (H' := H) t (fun _ _ _ z => z) (S.slot j s e)
      have eo : own1 j = own j := if_neg e2
      cases s with
      | none => exact eo.trans q
      | v e => exact ⟨eo.trans q.1, q.2⟩
      | own l => obtain ⟨p', vs', a, b⟩ := q; exact ⟨p', vs', eo.trans a, b⟩
      | self c fs => obtain ⟨p', dx, vs', a, b⟩ := q; exact ⟨p', dx, vs', eo.trans a, b⟩
  · rw [List.length_set] at le
    show (if j = i then none else own j) = none
    rw [if_neg (by omega)]
    exact S.out j le
theorem re_var {i : Nat} {x : Str} {pos : Pos} (hN : X.N[i]? = some x) (hv : Vis X.env.scope x) (hd : (x == ("__debug__" : Str)) = false) (hcd : (x == ("__classdict__" : Str)) = false) : PE X (.Name x pos) (den W Wx F (dVar i)) := by
  refine PE.imp (pe_var hN hv hd hcd) fun σ H Q h => ?_
  obtain ⟨g0, own, g, fr, k, kx, S, cx, ck, h⟩ := h
  unfold dVar at h
  have go := getS_of (fr := fr) (i := i)
  cases e : getS fr i with
  | none => rw [e] at h; cases h
  | v w =>
    rw [e] at h go
    obtain ⟨_, u, h1, h2⟩ := S.slot i _ (go (by simp))
    exact ⟨u, h1, ck own none g fr H (.v w) u S .refl ⟨rfl, h2⟩ h⟩
  | own l =>
    rw [e] at h go
    obtain ⟨own1, g1, S1, t, u, h1, h2⟩ := S.give (go (by simp))
    refine ⟨u, h1, ck own1 none g1 _ H (.v (.lst l)) u S1 t ⟨rfl, h2⟩ ?_⟩
    rw [← setS_eq]; exact h
  | self c fs => rw [e] at h; cases h
/-- a value that stands everywhere -/
theorem re_con {e : Expr} {v : V} {w : EV} (h : PE X e (tC v)) (r : ∀ g H, VR W g H w v) : PE X e (den W Wx F (dC w)) := by
  refine PE.imp h fun σ H Q q => ?_
  obtain ⟨g0, own, g, fr, k, kx, S, cx, ck, q⟩ := q
  exact ck own none g fr H (.v w) v S .refl ⟨rfl, r g H⟩ q
/-- an operator's meaning on trees -/
def BinOk (W : Wd) (r : R2) (o : EV → EV → Option RV) : Prop :=
  ∀ (g0 : Hp) (own : Nat → Option Addr) (g : Gs) (fr : Frm) (σ : St) (H : Hp) (x y : EV) (u w : V) (v : RV) (Q : VK), Sim W g0 own none g fr σ H → VR W g H x u → VR W g H y w → o x y = some v →
    (∀ x' g' H' z, Sim W g0 own x' g' fr σ H' → Tr g H g' H' → RR W g' x' H' v z → Q z H') → r u w H Q
def UnOk (W : Wd) (r : V → Hp → VK → Prop) (o : EV → Option RV) : Prop :=
  ∀ (g0 : Hp) (own : Nat → Option Addr) (g : Gs) (fr : Frm) (σ : St) (H : Hp) (x : EV) (u : V) (v : RV) (Q : VK), Sim W g0 own none g fr σ H → VR W g H x u → o x = some v →
    (∀ x' g' H' z, Sim W g0 own x' g' fr σ H' → Tr g H g' H' → RR W g' x' H' v z → Q z H') → r u H Q
theorem den_bin {a b : ED} {o : EV → EV → Option RV} {r : R2} (ok : BinOk W r o) {Q : VK} (h : den W Wx F (dBin o a b) σ H Q) : tOp r (den W Wx F a) (den W Wx F b) σ H Q := by
  obtain ⟨g0, own, g, fr, k, kx, S, cx, ck, h⟩ := h
  refine den_then (kk := fun x fr1 => b F fr1 (fun s fr2 => match o x s.ev with | some v => k v fr2 | none => false) kx) S cx h fun own1 g1 fr1 H1 x u S1 t1 r1 h1 => ?_
  refine den_then (kk := fun y fr2 => match o x y with | some v => k v fr2 | none => false) S1 (cx.mono t1) h1 fun own2 g2 fr2 H2 y w S2 t2 r2 h2 => ?_
  cases e : o x y with
  | none => rw [e] at h2; cases h2
  | some v =>
    rw [e] at h2
    exact ok g0 own2 g2 fr2 σ H2 x y u w v Q S2 (r1.mono t2) r2 e fun x' g' H' z S' t' r' => ck own2 x' g' fr2 H' v z S' ((t1.trans t2).trans t') r' h2
theorem den_un {a : ED} {o : EV → Option RV} {r : V → Hp → VK → Prop} (ok : UnOk W r o) {Q : VK} (h : den W Wx F (dUn o a) σ H Q) : tUn r (den W Wx F a) σ H Q := by
  obtain ⟨g0, own, g, fr, k, kx, S, cx, ck, h⟩ := h
  refine den_then (kk := fun x fr1 => match o x with | some v => k v fr1 | none => false) S cx h fun own1 g1 fr1 H1 x u S1 t1 r1 h1 => ?_
  cases e : o x with
  | none => rw [e] at h1; cases h1
  | some v =>
    rw [e] at h1
    exact ok g0 own1 g1 fr1 σ H1 x u v Q S1 r1 e fun x' g' H' z S' t' r' => ck own1 x' g' fr1 H' v z S' (t1.trans t') r' h1
theorem re_args : ∀ {es : List Expr} {ds : List ED}, Paired (fun e d => PE X e (den W Wx F d) ∧ ∀ r, starEach (e :: r) X.env = (false, eval e X.env) :: starEach r X.env) es ds → PA X es (denA W Wx F (dArgs ds))
  | _, _, .nil => PA.imp pa_nil fun σ H Q h => by
    obtain ⟨g0, own, g, fr, k, kx, S, cx, ck, h⟩ := h
    exact ck own g fr H [] [] S .refl .nil h
  | _, _, .cons (a := e) (b := d) ⟨h, hs⟩ r => by
    refine PA.imp (pa_cons h (re_args r) (hs _)) fun σ H Q q => ?_
    obtain ⟨g0, own, g, fr, k, kx, S, cx, ck, q⟩ := q
    refine den_then (kk := fun x fr1 => dArgs _ F fr1 (fun es fr2 => k (x :: es) fr2) kx) S cx q fun own1 g1 fr1 H1 x u S1 t1 r1 h1 => ?_
    refine denA_then S1 (cx.mono t1) h1 fun own2 g2 fr2 H2 es us S2 t2 r2 h2 => ?_
    exact ck own2 g2 fr2 H2 _ _ S2 (t1.trans t2) (.cons (r1.mono t2) r2) h2
end
end Ev

/-! Operators, comparisons, subscripts, built-ins on trees. -/
namespace Ev
open PySem PySem.Spec PyProof.Rows L2

def fits (n : Nat) : Bool := Nat.ble n 1000000
theorem fits_ok {n : Nat} (h : fits n = true) : n ≤ sizeLine := by
  have := Nat.le_of_ble_eq_true h
  rw [sizeLine_eq]; omega
/-! ### what is shown of a rule -/
section
variable {W : Wd} {g0 : Hp} {own : Nat → Option Addr} {g : Gs} {fr : Frm} {σ : St} {H : Hp} {Q : VK}
/-- the value is there already -/
theorem end_v {v : EV} {z : V} (S : Sim W g0 own none g fr σ H) (h : VR W g H v z) (q : ∀ x' g' H' z, Sim W g0 own x' g' fr σ H' → Tr g H g' H' → RR W g' x' H' (.v v) z → Q z H') : Q z H := q none g H z S .refl ⟨rfl, h⟩
/-- a new tuple -/
theorem end_tup {l : List EV} {vs : List V} {p : Addr} (S : Sim W g0 own none g fr σ H) (h : VRs W g H l vs) (hp : H p = none) (q : ∀ x' g' H' z, Sim W g0 own x' g' fr σ H' → Tr g H g' H' → RR W g' x' H' (.v (.tup l)) z → Q z H') : Q (.ref p) (upd H p (.tup vs)) :=
  q none g _ _ (S.new hp) (.new hp) ⟨rfl, .tup upd_same (S.ntS hp) (h.mono (.new hp))⟩
/-- a new list -/
theorem end_lst {l : List EV} {vs : List V} {p : Addr} (S : Sim W g0 own none g fr σ H) (h : VRs W g H l vs) (hp : H p = none) (q : ∀ x' g' H' z, Sim W g0 own x' g' fr σ H' → Tr g H g' H' → RR W g' x' H' (.fr l) z → Q z H') : Q (.ref p) (upd H p (.lst vs)) :=
  let ⟨S', t⟩ := S.fresh hp
  q (some p) _ _ _ S' t ⟨p, vs, rfl, rfl, upd_same, h.mono t⟩
end

/-! ### operators -/
def bAdd : EV → EV → Option RV
  | .int i, .int j => some (.v (.int (i + j)))
  | .str a, .str b => match fits (a.length + b.length) with
    | true => some (.v (.str (a ++ b)))
    | false => none
  | .tup a, .tup b => match fits (a.length + b.length) with
    | true => some (.v (.tup (a ++ b)))
    | false => none
  | .lst a, .lst b => match fits (a.length + b.length) with
    | true => some (.fr (a ++ b))
    | false => none
  | _, _ => none
def bSub : EV → EV → Option RV
  | .int i, .int j => some (.v (.int (i - j)))
  | _, _ => none
def mulFits (i j : Int) : Bool := Nat.blt (i.natAbs.log2 + j.natAbs.log2) 1000000
def repEV : Nat → List EV → List EV
  | 0, _ => []
  | n + 1, l => l ++ repEV n l
def bMul : EV → EV → Option RV
  | .int i, .int j => match mulFits i j with
    | true => some (.v (.int (i * j)))
    | false => none
  | .lst l, .int k => match Nat.ble k.natAbs 1000 && Nat.ble l.length 1000 with
    | true => some (.fr (repEV k.toNat l))
    | false => none
  | .tup l, .int k => match Nat.ble k.toNat 1000 && Nat.ble 2 k.toNat && Nat.ble l.length 1000 && !l.isEmpty with
    | true => some (.v (.tup (repEV k.toNat l)))
    | false => none
  | _, _ => none
def divFits (j : Int) : Bool := !(Nat.beq j.natAbs 0) && Nat.blt j.natAbs.log2 9000
def bDiv : EV → EV → Option RV
  | .int i, .int j => match divFits j with
    | true => some (.v (.int (i.fdiv j)))
    | false => none
  | _, _ => none
def bMod : EV → EV → Option RV
  | .int i, .int j => match !(Nat.beq j.natAbs 0) with
    | true => some (.v (.int (i.fmod j)))
    | false => none
  | _, _ => none
def bPow : EV → EV → Option RV
  | .int i, .int j => match Nat.blt i.natAbs.log2 63 && Nat.ble j.natAbs 1000 && Nat.ble j.natAbs j.toNat with
    | true => some (.v (.int (i ^ j.toNat)))
    | false => none
  | _, _ => none
theorem repEV_vs {W : Wd} {g : Gs} {H : Hp} {l : List EV} {vs : List V} (r : VRs W g H l vs) : ∀ n, VRs W g H (repEV n l) (List.replicate n vs).flatten
  | 0 => .nil
  | n + 1 => by rw [List.replicate_succ, List.flatten_cons]; exact r.app (repEV_vs r n)
section
variable {X : Cx} {W : Wd}
def rAdd (W : Wd) : R2 := fun x y H Q => (rI0 fun i j => .int (i + j)) x y H Q ∨ (∃ i j, x = .str i ∧ y = .str j ∧ i.length + j.length ≤ sizeLine ∧ Q (.str (i ++ j)) H) ∨ rCatA W.K x y H Q ∨ rCat x y H Q
theorem op_addA (hK : X.K = W.K) : OpR X (binaryOp .Add) (rAdd W) := by
  unfold rAdd; rw [← hK]
  exact op_add.or (op_add_str.or (op_catA.or op_cat))
theorem ok_add : BinOk W (rAdd W) bAdd := by
  intro g0 own g fr σ H x y u w v Q S rx ry e q
  unfold bAdd at e
  split at e
  · cases e; cases rx; cases ry
    exact .inl ⟨_, _, rfl, rfl, end_v S (.int _) q⟩
  · split at e
    · cases e; cases rx; cases ry
      exact .inr (.inl ⟨_, _, rfl, rfl, fits_ok (by assumption), end_v S (.str _) q⟩)
    · cases e
  · split at e
    · cases e
      obtain ⟨p, vs, rfl, h1, r1⟩ := rx.sqT
      obtain ⟨p2, vs2, rfl, h2, r2⟩ := ry.sqT
      refine .inr (.inr (.inl ⟨p, p2, vs, vs2, rfl, rfl, h1, h2, by rw [← r1.length, ← r2.length]; exact fits_ok (by assumption), fun z => ?_, fun z1 z2 => ?_, fun _ _ r hr => end_tup S (r1.app r2) hr q⟩))
      · subst z
        cases r1
        exact end_v S ry q
      · subst z2
        cases r2
        refine end_v S ?_ q
        rw [List.append_nil]; exact rx
    · cases e
  · split at e
    · cases e
      cases rx with
      | lst h1 n1 r1 =>
        cases ry with
        | lst h2 n2 r2 =>
          exact .inr (.inr (.inr ⟨_, _, _, _, rfl, rfl, h1, h2, by rw [← r1.length, ← r2.length]; exact fits_ok (by assumption), fun p hp => end_lst S (r1.app r2) hp q⟩))
    · cases e
  · cases e
theorem ok_sub : BinOk W (rI0 fun i j => .int (i - j)) bSub := by
  intro g0 own g fr σ H x y u w v Q S rx ry e q
  unfold bSub at e
  split at e
  · cases e; cases rx; cases ry
    exact ⟨_, _, rfl, rfl, end_v S (.int _) q⟩
  · cases e
def rMulA (W : Wd) : R2 := fun x y H Q => rI CMulW (fun i j => .int (i * j)) x y H Q ∨ rRep x y H Q ∨ rRepT W.K x y H Q
theorem op_mulA (hK : X.K = W.K) : OpR X (binaryOp .Mult) (rMulA W) := by
  unfold rMulA; rw [← hK]
  exact op_mulW.or (op_rep.or op_repT)
theorem ok_mul : BinOk W (rMulA W) bMul := by
  intro g0 own g fr σ H x y u w v Q S rx ry e q
  unfold bMul at e
  split at e
  · split at e
    · cases e; cases rx; cases ry
      refine .inl ⟨_, _, rfl, rfl, ?_, end_v S (.int _) q⟩
      exact Nat.le_of_ble_eq_true (by assumption)
    · cases e
  · split at e
    · rename_i l k _ z
      cases e
      rw [Bool.and_eq_true] at z
      have z1 := Nat.le_of_ble_eq_true z.1
      have z2 := Nat.le_of_ble_eq_true z.2
      cases ry
      cases rx with
      | lst h1 n1 r1 =>
        refine .inr (.inl ⟨_, _, _, rfl, rfl, h1, by omega, by omega, ?_, fun p hp => end_lst S (repEV_vs r1 _) hp q⟩)
        rw [← r1.length, sizeLine_eq]
        have := Nat.mul_le_mul z2 (show k.toNat ≤ 1000 by omega)
        show l.length * k.toNat ≤ 16777216
        omega
    · cases e
  · split at e
    · rename_i l k _ z
      cases e
      simp only [Bool.and_eq_true, Bool.not_eq_true'] at z
      have z1 := Nat.le_of_ble_eq_true z.1.1.1
      have z2 := Nat.le_of_ble_eq_true z.1.1.2
      have z3 := Nat.le_of_ble_eq_true z.1.2
      cases ry
      obtain ⟨p, vs, rfl, h1, r1⟩ := rx.sqT
      refine .inr (.inr ⟨_, _, _, rfl, rfl, h1, fun e => ?_, by omega, by omega, by rw [← r1.length]; exact z3, fun p hp => end_tup S (repEV_vs r1 _) hp q⟩)
      subst e
      have := r1.length
      cases l with
      | nil => simp at z
      | cons a b => simp at this
    · cases e
  · cases e
theorem op_divA : OpR X (binaryOp .FloorDiv) (rI (fun _ j => j ≠ 0 ∧ j.natAbs.log2 < 9000) fun i j => .int (i.fdiv j)) := opI fun _ _ _ _ _ _ _ hc q => floordiv_int hc.1 q (.inl (PyProof.noPylong_of_log2 hc.2))
theorem ok_div : BinOk W (rI (fun _ j => j ≠ 0 ∧ j.natAbs.log2 < 9000) fun i j => .int (i.fdiv j)) bDiv := by
  intro g0 own g fr σ H x y u w v Q S rx ry e q
  unfold bDiv at e
  split at e
  · split at e
    · rename_i i j _ z
      cases e; cases rx; cases ry
      unfold divFits at z
      simp only [Bool.and_eq_true, Bool.not_eq_true'] at z
      refine ⟨_, _, rfl, rfl, ⟨fun h => ?_, Nat.le_of_ble_eq_true z.2⟩, end_v S (.int _) q⟩
      rw [h] at z; simp at z
    · cases e
  · cases e
theorem ok_mod : BinOk W (rI (fun _ j => j ≠ 0) fun i j => .int (i.fmod j)) bMod := by
  intro g0 own g fr σ H x y u w v Q S rx ry e q
  unfold bMod at e
  split at e
  · split at e
    · rename_i i j _ z
      cases e; cases rx; cases ry
      simp only [Bool.not_eq_true'] at z
      refine ⟨_, _, rfl, rfl, fun h => ?_, end_v S (.int _) q⟩
      rw [h] at z; simp at z
    · cases e
  · cases e
theorem ok_pow : BinOk W (rI CPow fun i j => .int (i ^ j.toNat)) bPow := by
  intro g0 own g fr σ H x y u w v Q S rx ry e q
  unfold bPow at e
  split at e
  · split at e
    · rename_i i j _ z
      cases e; cases rx; cases ry
      simp only [Bool.and_eq_true] at z
      have z1 := Nat.le_of_ble_eq_true z.1.1
      have z2 := Nat.le_of_ble_eq_true z.1.2
      have z3 := Nat.le_of_ble_eq_true z.2
      refine ⟨_, _, rfl, rfl, ⟨by omega, by omega, ?_⟩, end_v S (.int _) q⟩
      by_cases h0 : i.natAbs = 0
      · rw [h0]; decide
      · exact (Nat.log2_lt h0).mp (by omega)
    · cases e
  · cases e
def uNeg : EV → Option RV
  | .int i => some (.v (.int (-i)))
  | _ => none
theorem ok_neg : UnOk W (rU fun i => .int (-i)) uNeg := by
  intro g0 own g fr σ H x u v Q S rx e q
  unfold uNeg at e
  split at e
  · cases e; cases rx
    exact ⟨_, rfl, end_v S (.int _) q⟩
  · cases e
end
end Ev

/-! Comparisons, truth, tests, displays, subscripts on trees. -/
namespace Ev
open PySem PySem.Spec PyProof.Rows L2

mutual
def datE : EV → Option PyData
  | .non => some .none
  | .bl b => some (.bool b)
  | .int i => some (.int i)
  | .str x => some (.str x)
  | .tup l => match datL l with
    | some ds => some (.tuple ds)
    | none => none
  | .lst l => match datL l with
    | some ds => some (.list ds)
    | none => none
  | _ => none
def datL : List EV → Option (List PyData)
  | [] => some []
  | e :: es => match datE e with
    | some d => (match datL es with
      | some ds => some (d :: ds)
      | none => none)
    | none => none
end
mutual
theorem datE_ok {W : Wd} {g : Gs} {H : Hp} : ∀ (e : EV) {d : PyData} {v : V}, datE e = some d → VR W g H e v → Dp W.K H v d
  | .non, d, v, h, r => by cases h; cases r; exact .non
  | .bl b, d, v, h, r => by cases h; cases r; exact .bl b
  | .int i, d, v, h, r => by cases h; cases r; exact .int i
  | .str x, d, v, h, r => by cases h; cases r; exact .str x
  | .tup l, d, v, h, r => by
    unfold datE at h
    cases e : datL l with
    | none => rw [e] at h; cases h
    | some ds =>
      rw [e] at h; cases h
      obtain ⟨p, vs, rfl, h1, r1⟩ := r.sqT
      exact .tup h1 (datL_ok l e r1)
  | .lst l, d, v, h, r => by
    unfold datE at h
    cases e : datL l with
    | none => rw [e] at h; cases h
    | some ds =>
      rw [e] at h; cases h
      obtain ⟨p, vs, rfl, h1, r1⟩ := r.sqL
      exact .lst h1 (datL_ok l e r1)
  | .ins c fs, d, v, h, r => by cases h
  | .pot, d, v, h, r => by cases h
theorem datL_ok {W : Wd} {g : Gs} {H : Hp} : ∀ (l : List EV) {ds : List PyData} {vs : List V}, datL l = some ds → VRs W g H l vs → DpAll W.K H vs ds
  | [], ds, vs, h, r => by cases h; cases r; exact .nil
  | e :: es, ds, vs, h, r => by
    unfold datL at h
    cases r with
    | cons r1 r2 =>
      cases q : datE e with
      | none => rw [q] at h; cases h
      | some d =>
        rw [q] at h
        cases q2 : datL es with
        | none => rw [q2] at h; cases h
        | some ds' =>
          rw [q2] at h; cases h
          exact .cons (datE_ok e q r1) (datL_ok es q2 r2)
end
def eqE (x y : EV) : Option Bool := match datE x with
  | some d => (match datE y with
    | some e => (match SeqAt.shaped d && SeqAt.shaped e with
      | true => some (PyData.eqv d e)
      | false => none)
    | none => none)
  | none => none
def bEq (x y : EV) : Option RV := match eqE x y with
  | some b => some (.v (.bl b))
  | none => none
def bNe (x y : EV) : Option RV := match eqE x y with
  | some b => some (.v (.bl (!b)))
  | none => none
def ltI (a b : Int) : Bool := PySem.W.Z.ltB a b
def leI (a b : Int) : Bool := PySem.W.Z.leB a b
theorem ltI_eq (a b : Int) : ltI a b = decide (a < b) := by
  rw [Bool.eq_iff_iff, decide_eq_true_iff]; exact PySem.W.Z.ltB_iff a b
theorem leI_eq (a b : Int) : leI a b = decide (a ≤ b) := by
  rw [Bool.eq_iff_iff, decide_eq_true_iff]; exact PySem.W.Z.leB_iff a b
def bLt : EV → EV → Option RV
  | .int i, .int j => some (.v (.bl (ltI i j)))
  | _, _ => none
def bLe : EV → EV → Option RV
  | .int i, .int j => some (.v (.bl (leI i j)))
  | _, _ => none
def bGt : EV → EV → Option RV
  | .int i, .int j => some (.v (.bl (ltI j i)))
  | _, _ => none
def bGe : EV → EV → Option RV
  | .int i, .int j => some (.v (.bl (leI j i)))
  | _, _ => none
def isNon : EV → Bool
  | .non => true
  | _ => false
def bIs : EV → EV → Option RV
  | x, .non => some (.v (.bl (isNon x)))
  | _, _ => none
def bIsn : EV → EV → Option RV
  | x, .non => some (.v (.bl (!isNon x)))
  | _, _ => none
section
variable {X : Cx} {W : Wd}
theorem eqE_ok {g : Gs} {H : Hp} {x y : EV} {u w : V} {b : Bool} (h : eqE x y = some b) (rx : VR W g H x u) (ry : VR W g H y w) :
    ∃ d e, Dp W.K H u d ∧ Dp W.K H w e ∧ SeqAt.shaped d = true ∧ SeqAt.shaped e = true ∧ b = PyData.eqv d e := by
  unfold eqE at h
  cases q : datE x with
  | none => rw [q] at h; cases h
  | some d =>
    rw [q] at h
    cases q2 : datE y with
    | none => rw [q2] at h; cases h
    | some e =>
      rw [q2] at h
      cases q3 : SeqAt.shaped d && SeqAt.shaped e with
      | false => simp only [q3] at h; cases h
      | true =>
        simp only [q3] at h
        obtain ⟨h1, h2⟩ := Bool.and_eq_true_iff.mp q3
        exact ⟨d, e, datE_ok x q rx, datE_ok y q2 ry, h1, h2, (Option.some.inj h).symm⟩
theorem ok_eq : BinOk W (rEqD W.K) bEq := by
  intro g0 own g fr σ H x y u w v Q S rx ry e q
  unfold bEq at e
  split at e
  · rename_i b z
    cases e
    obtain ⟨d, e, h1, h2, h3, h4, rfl⟩ := eqE_ok z rx ry
    exact ⟨d, e, h1, h2, h3, h4, end_v S (.bl _) q⟩
  · cases e
theorem ok_ne : BinOk W (rNeD W.K) bNe := by
  intro g0 own g fr σ H x y u w v Q S rx ry e q
  unfold bNe at e
  split at e
  · rename_i b z
    cases e
    obtain ⟨d, e, h1, h2, h3, h4, rfl⟩ := eqE_ok z rx ry
    exact ⟨d, e, h1, h2, h3, h4, end_v S (.bl _) q⟩
  · cases e
theorem ok_lt : BinOk W (rI0 fun i j => .bl (decide (i < j))) bLt := by
  intro g0 own g fr σ H x y u w v Q S rx ry e q
  unfold bLt at e
  split at e
  · cases e; cases rx; cases ry
    exact ⟨_, _, rfl, rfl, by dsimp only; rw [← ltI_eq]; exact end_v S (.bl _) q⟩
  · cases e
theorem ok_le : BinOk W (rI0 fun i j => .bl (decide (i ≤ j))) bLe := by
  intro g0 own g fr σ H x y u w v Q S rx ry e q
  unfold bLe at e
  split at e
  · cases e; cases rx; cases ry
    exact ⟨_, _, rfl, rfl, by dsimp only; rw [← leI_eq]; exact end_v S (.bl _) q⟩
  · cases e
theorem ok_gt : BinOk W (rI0 fun i j => .bl (decide (j < i))) bGt := by
  intro g0 own g fr σ H x y u w v Q S rx ry e q
  unfold bGt at e
  split at e
  · cases e; cases rx; cases ry
    exact ⟨_, _, rfl, rfl, by dsimp only; rw [← ltI_eq]; exact end_v S (.bl _) q⟩
  · cases e
theorem ok_ge : BinOk W (rI0 fun i j => .bl (decide (j ≤ i))) bGe := by
  intro g0 own g fr σ H x y u w v Q S rx ry e q
  unfold bGe at e
  split at e
  · cases e; cases rx; cases ry
    exact ⟨_, _, rfl, rfl, by dsimp only; rw [← leI_eq]; exact end_v S (.bl _) q⟩
  · cases e
theorem isNon_eq {g : Gs} {H : Hp} {x : EV} {u : V} (r : VR W g H x u) : isNon x = decide (u = .non) := by
  cases r <;> rfl
theorem ok_is : BinOk W (fun x y H Q => y = .non ∧ Q (.bl (decide (x = .non))) H) bIs := by
  intro g0 own g fr σ H x y u w v Q S rx ry e q
  unfold bIs at e
  split at e
  · cases e; cases ry
    exact ⟨rfl, by rw [← isNon_eq rx]; exact end_v S (.bl _) q⟩
  · cases e
theorem ok_isn : BinOk W (fun x y H Q => y = .non ∧ Q (.bl (!decide (x = .non))) H) bIsn := by
  intro g0 own g fr σ H x y u w v Q S rx ry e q
  unfold bIsn at e
  split at e
  · cases e; cases ry
    exact ⟨rfl, by rw [← isNon_eq rx]; exact end_v S (.bl _) q⟩
  · cases e
end

/-! ### tests -/
/-- an expression that gives a bool, as a test -/
def dTb (d : ED) : TD := fun F fr k kx => d F fr (fun r fr1 => match r.ev with
  | .bl b => k b fr1
  | _ => false) kx
/-- a value's truth -/
def truE : EV → Option Bool
  | .non => some false
  | .bl b => some b
  | .int i => some (!(Nat.beq i.natAbs 0))
  | .str x => match fits x.length with
    | true => some (!(Nat.beq x.length 0))
    | false => none
  | .tup l => some (!l.isEmpty)
  | .lst l => some (!l.isEmpty)
  | _ => none
def dTt (d : ED) : TD := fun F fr k kx => d F fr (fun r fr1 => match truE r.ev with
  | some b => k b fr1
  | none => false) kx
def dTand (a b : TD) : TD := fun F fr k kx => a F fr (fun c fr1 => match c with
  | true => b F fr1 k kx
  | false => k false fr1) kx
def dTor (a b : TD) : TD := fun F fr k kx => a F fr (fun c fr1 => match c with
  | true => k true fr1
  | false => b F fr1 k kx) kx
def dTnot (a : TD) : TD := fun F fr k kx => a F fr (fun c fr1 => k (!c) fr1) kx
def dIfE (t : TD) (a b : ED) : ED := fun F fr k kx => t F fr (fun c fr1 => match c with
  | true => a F fr1 k kx
  | false => b F fr1 k kx) kx
/-- and, or as values: all but the last are bools -/
def dAndV (a b : ED) : ED := fun F fr k kx => a F fr (fun r fr1 => match r.ev with
  | .bl true => b F fr1 k kx
  | .bl false => k (.v (.bl false)) fr1
  | _ => false) kx
def dOrV (a b : ED) : ED := fun F fr k kx => a F fr (fun r fr1 => match r.ev with
  | .bl true => k (.v (.bl true)) fr1
  | .bl false => b F fr1 k kx
  | _ => false) kx
def dNotV (a : ED) : ED := fun F fr k kx => a F fr (fun r fr1 => match r.ev with
  | .bl c => k (.v (.bl (!c))) fr1
  | _ => false) kx
def dTup (a : AD) : ED := fun F fr k kx => a F fr (fun es fr1 => match fits es.length with
  | true => k (.v (.tup es)) fr1
  | false => false) kx
def dLst (a : AD) : ED := fun F fr k kx => a F fr (fun es fr1 => match fits es.length with
  | true => k (.fr es) fr1
  | false => false) kx
section
variable {X : Cx} {W : Wd} {Wx : WX} {F : FT}
theorem rt_b {t : TE} {d : ED} {σ : St} {H : Hp} {Q : Bool → Hp → Prop} (h : denT W Wx F (dTb d) σ H Q) : den W Wx F d σ H fun x H1 => ∃ c, x = .bl c ∧ Q c H1 := by
  obtain ⟨g0, own, g, fr, k, kx, S, cx, ck, h⟩ := h
  refine den_then (kk := fun e fr1 => match e with | .bl b => k b fr1 | _ => false) S cx h fun own1 g1 fr1 H1 e u S1 t1 r1 h1 => ?_
  cases r1 with
  | bl b => exact ⟨b, rfl, ck own1 g1 fr1 H1 b S1 t1 h1⟩
  | _ => cases h1
theorem truE_ok {g : Gs} {H : Hp} {e : EV} {u : V} {b : Bool} (r : VR W g H e u) (h : truE e = some b) : TruV W.K u H b := by
  have nb : ∀ n : Nat, (!(Nat.beq n 0)) = ((n : Int) != 0) := fun n => by cases n <;> rfl
  cases r with
  | non => cases h; rfl
  | bl b => cases h; rfl
  | int i =>
    cases h
    show _ = (i != 0)
    rw [nb, Bool.eq_iff_iff]
    simp only [bne_iff_ne, ne_eq]
    omega
  | str x =>
    have h' : (match fits x.length with | true => some (!(Nat.beq x.length 0)) | false => none) = some b := h
    split at h'
    · cases h'; exact ⟨fits_ok (by assumption), nb _⟩
    · cases h'
  | tup h1 n1 r1 => cases h; exact .inr (.inl ⟨_, .of h1, by cases r1 <;> rfl⟩)
  | tupK h1 r1 => cases h; exact .inr (.inl ⟨_, h1.sq, by cases r1 <;> rfl⟩)
  | lst h1 n1 r1 => cases h; exact .inl ⟨_, .of h1, by cases r1 <;> rfl⟩
  | ins h1 n1 r1 z => cases h
  | pot h1 => cases h
  | scr h1 r1 => cases h
theorem rt_t {d : ED} {σ : St} {H : Hp} {Q : Bool → Hp → Prop} (h : denT W Wx F (dTt d) σ H Q) : den W Wx F d σ H fun x H1 => ∃ c, TruV W.K x H1 c ∧ Q c H1 := by
  obtain ⟨g0, own, g, fr, k, kx, S, cx, ck, h⟩ := h
  refine den_then (kk := fun e fr1 => match truE e with | some b => k b fr1 | none => false) S cx h fun own1 g1 fr1 H1 e u S1 t1 r1 h1 => ?_
  cases q : truE e with
  | none => rw [q] at h1; cases h1
  | some b => rw [q] at h1; exact ⟨b, truE_ok r1 q, ck own1 g1 fr1 H1 b S1 t1 h1⟩
theorem rt_and {a b : TD} {σ : St} {H : Hp} {Q : Bool → Hp → Prop} (h : denT W Wx F (dTand a b) σ H Q) : tAnd (denT W Wx F a) (denT W Wx F b) σ H Q := by
  obtain ⟨g0, own, g, fr, k, kx, S, cx, ck, h⟩ := h
  refine denT_then S cx h fun own1 g1 fr1 H1 c S1 t1 h1 => ?_
  cases c with
  | true =>
    rw [if_pos rfl]
    exact ⟨g0, own1, g1, fr1, k, kx, S1, cx.mono t1, fun own' g' fr' H' b S' T' q => ck own' g' fr' H' b S' (t1.trans T') q, h1⟩
  | false => rw [if_neg (by decide)]; exact ck own1 g1 fr1 H1 false S1 t1 h1
theorem rt_or {a b : TD} {σ : St} {H : Hp} {Q : Bool → Hp → Prop} (h : denT W Wx F (dTor a b) σ H Q) : tOr (denT W Wx F a) (denT W Wx F b) σ H Q := by
  obtain ⟨g0, own, g, fr, k, kx, S, cx, ck, h⟩ := h
  refine denT_then S cx h fun own1 g1 fr1 H1 c S1 t1 h1 => ?_
  cases c with
  | false =>
    rw [if_neg (by decide)]
    exact ⟨g0, own1, g1, fr1, k, kx, S1, cx.mono t1, fun own' g' fr' H' b S' T' q => ck own' g' fr' H' b S' (t1.trans T') q, h1⟩
  | true => rw [if_pos rfl]; exact ck own1 g1 fr1 H1 true S1 t1 h1
theorem rt_not {a : TD} {σ : St} {H : Hp} {Q : Bool → Hp → Prop} (h : denT W Wx F (dTnot a) σ H Q) : tNot (denT W Wx F a) σ H Q := by
  obtain ⟨g0, own, g, fr, k, kx, S, cx, ck, h⟩ := h
  refine denT_then S cx h fun own1 g1 fr1 H1 c S1 t1 h1 => ?_
  exact ck own1 g1 fr1 H1 _ S1 t1 h1
theorem re_ife {t : TD} {a b : ED} {σ : St} {H : Hp} {Q : VK} (h : den W Wx F (dIfE t a b) σ H Q) : tIf (denT W Wx F t) (den W Wx F a) (den W Wx F b) σ H Q := by
  obtain ⟨g0, own, g, fr, k, kx, S, cx, ck, h⟩ := h
  refine denT_then S cx h fun own1 g1 fr1 H1 c S1 t1 h1 => ?_
  cases c with
  | true =>
    rw [if_pos rfl]
    exact ⟨g0, own1, g1, fr1, k, kx, S1, cx.mono t1, fun own' x' g' fr' H' r u S' T' R q => ck own' x' g' fr' H' r u S' (t1.trans T') R q, h1⟩
  | false =>
    rw [if_neg (by decide)]
    exact ⟨g0, own1, g1, fr1, k, kx, S1, cx.mono t1, fun own' x' g' fr' H' r u S' T' R q => ck own' x' g' fr' H' r u S' (t1.trans T') R q, h1⟩
theorem re_andV {a b : ED} {σ : St} {H : Hp} {Q : VK} (h : den W Wx F (dAndV a b) σ H Q) : tAndV (den W Wx F a) (den W Wx F b) σ H Q := by
  obtain ⟨g0, own, g, fr, k, kx, S, cx, ck, h⟩ := h
  refine den_then (kk := fun e fr1 => match e with | .bl true => b F fr1 k kx | .bl false => k (.v (.bl false)) fr1 | _ => false) S cx h fun own1 g1 fr1 H1 e u S1 t1 r1 h1 => ?_
  cases r1 with
  | bl c =>
    refine ⟨c, rfl, ?_⟩
    cases c with
    | true =>
      rw [if_pos rfl]
      exact ⟨g0, own1, g1, fr1, k, kx, S1, cx.mono t1, fun own' x' g' fr' H' r u S' T' R q => ck own' x' g' fr' H' r u S' (t1.trans T') R q, h1⟩
    | false =>
      rw [if_neg (by decide)]
      exact ck own1 none g1 fr1 H1 _ _ S1 t1 (RR.val (.bl _)) h1
  | _ => cases h1
theorem re_orV {a b : ED} {σ : St} {H : Hp} {Q : VK} (h : den W Wx F (dOrV a b) σ H Q) : tOrV (den W Wx F a) (den W Wx F b) σ H Q := by
  obtain ⟨g0, own, g, fr, k, kx, S, cx, ck, h⟩ := h
  refine den_then (kk := fun e fr1 => match e with | .bl true => k (.v (.bl true)) fr1 | .bl false => b F fr1 k kx | _ => false) S cx h fun own1 g1 fr1 H1 e u S1 t1 r1 h1 => ?_
  cases r1 with
  | bl c =>
    refine ⟨c, rfl, ?_⟩
    cases c with
    | false =>
      rw [if_neg (by decide)]
      exact ⟨g0, own1, g1, fr1, k, kx, S1, cx.mono t1, fun own' x' g' fr' H' r u S' T' R q => ck own' x' g' fr' H' r u S' (t1.trans T') R q, h1⟩
    | true =>
      rw [if_pos rfl]
      exact ck own1 none g1 fr1 H1 _ _ S1 t1 (RR.val (.bl _)) h1
  | _ => cases h1
theorem re_notV {a : ED} {σ : St} {H : Hp} {Q : VK} (h : den W Wx F (dNotV a) σ H Q) : tNotV (den W Wx F a) σ H Q := by
  obtain ⟨g0, own, g, fr, k, kx, S, cx, ck, h⟩ := h
  refine den_then (kk := fun e fr1 => match e with | .bl c => k (.v (.bl (!c))) fr1 | _ => false) S cx h fun own1 g1 fr1 H1 e u S1 t1 r1 h1 => ?_
  cases r1 with
  | bl c => exact ⟨c, rfl, ck own1 none g1 fr1 H1 _ _ S1 t1 (RR.val (.bl _)) h1⟩
  | _ => cases h1
theorem re_tup {a : AD} {σ : St} {H : Hp} {Q : VK} (h : den W Wx F (dTup a) σ H Q) : tTup (denA W Wx F a) σ H Q := by
  obtain ⟨g0, own, g, fr, k, kx, S, cx, ck, h⟩ := h
  refine denA_then (kk := fun es fr1 => match fits es.length with | true => k (.v (.tup es)) fr1 | false => false) S cx h fun own1 g1 fr1 H1 es us S1 t1 r1 h1 => ?_
  cases q : fits es.length with
  | false => simp only [q] at h1; cases h1
  | true =>
    simp only [q] at h1
    refine ⟨by rw [← r1.length]; exact fits_ok q, fun p hp => end_tup S1 r1 hp fun x' g' H' z S' T' R' => ck own1 x' g' fr1 H' _ z S' (t1.trans T') R' h1⟩
theorem re_lst {a : AD} {σ : St} {H : Hp} {Q : VK} (h : den W Wx F (dLst a) σ H Q) : tLst (denA W Wx F a) σ H Q := by
  obtain ⟨g0, own, g, fr, k, kx, S, cx, ck, h⟩ := h
  refine denA_then (kk := fun es fr1 => match fits es.length with | true => k (.fr es) fr1 | false => false) S cx h fun own1 g1 fr1 H1 es us S1 t1 r1 h1 => ?_
  cases q : fits es.length with
  | false => simp only [q] at h1; cases h1
  | true =>
    simp only [q] at h1
    refine ⟨by rw [← r1.length]; exact fits_ok q, fun p hp => end_lst S1 r1 hp fun x' g' H' z S' T' R' => ck own1 x' g' fr1 H' _ z S' (t1.trans T') R' h1⟩
end
end Ev

/-! Subscripts, slices, built-ins on trees. -/
namespace Ev
open PySem PySem.Spec PyProof.Rows L2

/-! ### subscripts -/
def ixE (n : Nat) : Int → Option Nat
  | .ofNat j => match Nat.blt j n with
    | true => some j
    | false => none
  | .negSucc j => match Nat.blt j n with
    | true => some (n - (j + 1))
    | false => none
theorem ixE_ok {n : Nat} {i : Int} {j : Nat} (h : ixE n i = some j) : ixN n i = some j := by
  unfold ixE at h
  cases i with
  | ofNat k =>
    simp only at h
    cases q : Nat.blt k n with
    | true =>
      rw [q] at h
      cases h
      have := Nat.le_of_ble_eq_true q
      unfold ixN
      rw [if_pos (by simp), if_pos (by simp only [Int.ofNat_eq_natCast]; omega)]
      simp
    | false => rw [q] at h; cases h
  | negSucc k =>
    simp only at h
    cases q : Nat.blt k n with
    | true =>
      rw [q] at h
      cases h
      have := Nat.le_of_ble_eq_true q
      unfold ixN
      rw [if_neg (by omega), if_pos (by omega)]
      congr 1
      omega
    | false => rw [q] at h; cases h
def nth : List EV → Nat → Option EV
  | [], _ => none
  | e :: _, 0 => some e
  | _ :: r, n + 1 => nth r n
theorem nth_eq : ∀ (l : List EV) (n : Nat), nth l n = l[n]?
  | [], _ => by simp [nth]
  | e :: _, 0 => rfl
  | _ :: r, n + 1 => by show nth r n = _; rw [nth_eq]; simp
def itemE (l : List EV) (i : Int) : Option EV := match ixE l.length i with
  | some j => nth l j
  | none => none
theorem itemE_ok {W : Wd} {g : Gs} {H : Hp} {l : List EV} {vs : List V} {i : Int} {e : EV} (r : VRs W g H l vs) (h : itemE l i = some e) : ∃ v, atI vs i = some v ∧ VR W g H e v := by
  unfold itemE at h
  cases q : ixE l.length i with
  | none => rw [q] at h; cases h
  | some j =>
    rw [q] at h
    simp only [nth_eq] at h
    obtain ⟨v, h1, h2⟩ := r.get h
    refine ⟨v, ?_, h2⟩
    unfold atI
    rw [← r.length, ixE_ok q]
    exact h1
def bIx : EV → EV → Option RV
  | .scr l, .int i => match itemE l i with
    | some e => some (.v e)
    | none => none
  | .lst l, .int i => match itemE l i with
    | some e => some (.v e)
    | none => none
  | .tup l, .int i => match itemE l i with
    | some e => some (.v e)
    | none => none
  | _, _ => none
theorem ok_ix {W : Wd} : BinOk W (rIx W.K) bIx := by
  intro g0 own g fr σ H x y u w v Q S rx ry e q
  unfold bIx at e
  split at e
  · split at e
    · cases e; cases ry
      obtain ⟨p, vs, rfl, h1, r1⟩ := rx.sqS
      obtain ⟨z, h2, h3⟩ := itemE_ok r1 (by assumption)
      exact .inl ⟨p, vs, _, z, rfl, rfl, h1, h2, end_v S h3 q⟩
    · cases e
  · split at e
    · cases e; cases ry
      obtain ⟨p, vs, rfl, h1, r1⟩ := rx.sqL
      obtain ⟨z, h2, h3⟩ := itemE_ok r1 (by assumption)
      exact .inl ⟨p, vs, _, z, rfl, rfl, h1, h2, end_v S h3 q⟩
    · cases e
  · split at e
    · cases e; cases ry
      obtain ⟨p, vs, rfl, h1, r1⟩ := rx.sqT
      obtain ⟨z, h2, h3⟩ := itemE_ok r1 (by assumption)
      exact .inr (.inl ⟨p, vs, _, z, rfl, rfl, h1, h2, end_v S h3 q⟩)
    · cases e
  · cases e
/-! ### slices: the bounds are written numbers -/
def cutE (l : List EV) (lo hi : Option Int) : List EV := (l.drop (HT.sIx l.length 0 lo)).take (HT.sIx l.length l.length hi - HT.sIx l.length 0 lo)
theorem cutE_ok {W : Wd} {g : Gs} {H : Hp} {l : List EV} {vs : List V} (r : VRs W g H l vs) (lo hi : Option Int) : VRs W g H (cutE l lo hi) (cutV vs lo hi) := by
  unfold cutE cutV
  rw [r.length]
  exact (r.drop _).take _
def slE (x : EV) (lo hi : Option Int) : Option RV := match x with
  | .scr l => some (.fr (cutE l lo hi))
  | .lst l => some (.fr (cutE l lo hi))
  | .tup l => some (.v (.tup (cutE l lo hi)))
  | _ => none
def dSl (a : ED) (lo hi : Option ED) : ED := fun F fr k kx => a F fr (fun r fr1 =>
  match lo with
  | none => (match hi with
    | none => (match slE r.ev none none with
      | some v => k v fr1
      | none => false)
    | some h => h F fr1 (fun s fr2 => match s.ev with
      | .int j => (match slE r.ev none (some j) with
        | some v => k v fr2
        | none => false)
      | _ => false) kx)
  | some l => l F fr1 (fun t fr2 => match t.ev with
    | .int i => (match hi with
      | none => (match slE r.ev (some i) none with
        | some v => k v fr2
        | none => false)
      | some h => h F fr2 (fun s fr3 => match s.ev with
        | .int j => (match slE r.ev (some i) (some j) with
          | some v => k v fr3
          | none => false)
        | _ => false) kx)
    | _ => false) kx) kx
def rSlAny (K : PySem.W.Frag) : V → Option Int → Option Int → Hp → VK → Prop := fun x lo hi H Q => rSlA K x lo hi H Q ∨ rSlL K x lo hi H Q
theorem sl_any {X : Cx} {W : Wd} (hK : X.K = W.K) : L2.SlR X (rSlAny W.K) := by
  unfold rSlAny; rw [← hK]
  exact sl_tupA.or sl_list
section
variable {X : Cx} {W : Wd} {Wx : WX} {F : FT}
theorem slE_ok {g0 : Hp} {own : Nat → Option Addr} {g : Gs} {fr : Frm} {σ : St} {H : Hp} {x : EV} {u : V} {v : RV} {Q : VK} {lo hi : Option Int} (S : Sim W g0 own none g fr σ H) (rx : VR W g H x u) (e : slE x lo hi = some v)
    (q : ∀ x' g' H' z, Sim W g0 own x' g' fr σ H' → Tr g H g' H' → RR W g' x' H' v z → Q z H') : rSlAny W.K u lo hi H Q := by
  unfold slE at e
  split at e
  · cases e
    obtain ⟨p, vs, rfl, h1, r1⟩ := rx.sqS
    exact .inr ⟨p, vs, rfl, h1, fun p' hp => end_lst S (cutE_ok r1 lo hi) hp q⟩
  · cases e
    obtain ⟨p, vs, rfl, h1, r1⟩ := rx.sqL
    exact .inr ⟨p, vs, rfl, h1, fun p' hp => end_lst S (cutE_ok r1 lo hi) hp q⟩
  · rename_i l
    cases e
    obtain ⟨p, vs, rfl, h1, r1⟩ := rx.sqT
    refine .inl ⟨p, vs, rfl, h1, fun hw => ?_, fun _ p' hp => end_tup S (cutE_ok r1 lo hi) hp q⟩
    refine end_v S ?_ q
    have e2 : cutE l lo hi = l := by
      unfold cutE
      rw [r1.length, hw.1, hw.2]
      simp only [Nat.sub_zero, List.drop_zero]; rw [← r1.length]; exact List.take_length
    rw [e2]
    exact rx
  · cases e
theorem re_sl {a : ED} {lo hi : Option ED} {el eh : Option Expr} {e : Expr} {pos p2 : Pos} (hK : X.K = W.K) (ha : PE X e (den W Wx F a))
    (hl : match lo, el with | none, none => True | some d, some x => PE X x (den W Wx F d) | _, _ => False)
    (hh : match hi, eh with | none, none => True | some d, some x => PE X x (den W Wx F d) | _, _ => False) : PE X (.Subscript e (.Slice el eh none p2) pos) (den W Wx F (dSl a lo hi)) := by
  cases lo with
  | none =>
    cases el with
    | some _ => exact hl.elim
    | none =>
      cases hi with
      | none =>
        cases eh with
        | some _ => exact hh.elim
        | none =>
          refine PE.imp (pe_slice (sl_any hK) ha po_none po_none) fun σ H Q h => ?_
          obtain ⟨g0, own, g, fr, k, kx, S, cx, ck, h⟩ := h
          refine den_then (kk := fun x fr1 => match slE x none none with | some v => k v fr1 | none => false) S cx h fun own1 g1 fr1 H1 x u S1 t1 r1 h1 => ?_
          cases q : slE x none none with
          | none => rw [q] at h1; cases h1
          | some v => rw [q] at h1; exact slE_ok S1 r1 q fun x' g' H' z S' t' r' => ck own1 x' g' fr1 H' v z S' (t1.trans t') r' h1
      | some dh =>
        cases eh with
        | none => exact hh.elim
        | some eh =>
          refine PE.imp (pe_slice (sl_any hK) ha po_none (po_some hh)) fun σ H Q h => ?_
          obtain ⟨g0, own, g, fr, k, kx, S, cx, ck, h⟩ := h
          refine den_then (kk := fun x fr1 => dh F fr1 (fun s fr2 => match s.ev with | .int j => (match slE x none (some j) with | some v => k v fr2 | none => false) | _ => false) kx) S cx h fun own1 g1 fr1 H1 x u S1 t1 r1 h1 => ?_
          refine den_then (kk := fun y fr2 => match y with | .int j => (match slE x none (some j) with | some v => k v fr2 | none => false) | _ => false) S1 (cx.mono t1) h1 fun own2 g2 fr2 H2 y w S2 t2 r2 h2 => ?_
          cases r2 with
          | int j =>
            simp only at h2
            cases q : slE x none (some j) with
            | none => rw [q] at h2; cases h2
            | some v => rw [q] at h2; exact ⟨j, rfl, slE_ok S2 (r1.mono t2) q fun x' g' H' z S' t' r' => ck own2 x' g' fr2 H' v z S' ((t1.trans t2).trans t') r' h2⟩
          | _ => cases h2
  | some dl =>
    cases el with
    | none => exact hl.elim
    | some el =>
      cases hi with
      | none =>
        cases eh with
        | some _ => exact hh.elim
        | none =>
          refine PE.imp (pe_slice (sl_any hK) ha (po_some hl) po_none) fun σ H Q h => ?_
          obtain ⟨g0, own, g, fr, k, kx, S, cx, ck, h⟩ := h
          refine den_then (kk := fun x fr1 => dl F fr1 (fun s fr2 => match s.ev with | .int j => (match slE x (some j) none with | some v => k v fr2 | none => false) | _ => false) kx) S cx h fun own1 g1 fr1 H1 x u S1 t1 r1 h1 => ?_
          refine den_then (kk := fun y fr2 => match y with | .int j => (match slE x (some j) none with | some v => k v fr2 | none => false) | _ => false) S1 (cx.mono t1) h1 fun own2 g2 fr2 H2 y w S2 t2 r2 h2 => ?_
          cases r2 with
          | int j =>
            simp only at h2
            cases q : slE x (some j) none with
            | none => rw [q] at h2; cases h2
            | some v => rw [q] at h2; exact ⟨j, rfl, slE_ok S2 (r1.mono t2) q fun x' g' H' z S' t' r' => ck own2 x' g' fr2 H' v z S' ((t1.trans t2).trans t') r' h2⟩
          | _ => cases h2
      | some dh =>
        cases eh with
        | none => exact hh.elim
        | some eh =>
          refine PE.imp (pe_slice (sl_any hK) ha (po_some hl) (po_some hh)) fun σ H Q h => ?_
          obtain ⟨g0, own, g, fr, k, kx, S, cx, ck, h⟩ := h
          refine den_then (kk := fun x fr1 => dl F fr1 (fun t fr2 => match t.ev with | .int i => dh F fr2 (fun s fr3 => match s.ev with | .int j => (match slE x (some i) (some j) with | some v => k v fr3 | none => false) | _ => false) kx | _ => false) kx) S cx h fun own1 g1 fr1 H1 x u S1 t1 r1 h1 => ?_
          refine den_then (kk := fun y fr2 => match y with | .int i => dh F fr2 (fun s fr3 => match s.ev with | .int j => (match slE x (some i) (some j) with | some v => k v fr3 | none => false) | _ => false) kx | _ => false) S1 (cx.mono t1) h1 fun own2 g2 fr2 H2 y w S2 t2 r2 h2 => ?_
          cases r2 with
          | int i =>
            refine ⟨i, rfl, ?_⟩
            refine den_then (kk := fun z fr3 => match z with | .int j => (match slE x (some i) (some j) with | some v => k v fr3 | none => false) | _ => false) S2 (cx.mono (t1.trans t2)) h2 fun own3 g3 fr3 H3 z z' S3 t3 r3 h3 => ?_
            cases r3 with
            | int j =>
              simp only at h3
              cases q : slE x (some i) (some j) with
              | none => rw [q] at h3; cases h3
              | some v => rw [q] at h3; exact ⟨j, rfl, slE_ok S3 (r1.mono (t2.trans t3)) q fun x' g' H' z S' t' r' => ck own3 x' g' fr3 H' v z S' (((t1.trans t2).trans t3).trans t') r' h3⟩
            | _ => cases h3
          | _ => cases h2
end

/-! ### built-ins by their arguments -/
def AOk (W : Wd) (r : List V → Hp → VK → Prop) (o : List EV → Option RV) : Prop :=
  ∀ (g0 : Hp) (own : Nat → Option Addr) (g : Gs) (fr : Frm) (σ : St) (H : Hp) (xs : List EV) (us : List V) (v : RV) (Q : VK), Sim W g0 own none g fr σ H → VRs W g H xs us → o xs = some v →
    (∀ x' g' H' z, Sim W g0 own x' g' fr σ H' → Tr g H g' H' → RR W g' x' H' v z → Q z H') → r us H Q
def dBlt (o : List EV → Option RV) (a : AD) : ED := fun F fr k kx => a F fr (fun es fr1 => match o es with
  | some v => k v fr1
  | none => false) kx
theorem re_blt {W : Wd} {Wx : WX} {F : FT} {a : AD} {o : List EV → Option RV} {r : List V → Hp → VK → Prop} (ok : AOk W r o) {σ : St} {H : Hp} {Q : VK} (h : den W Wx F (dBlt o a) σ H Q) : tCB r (denA W Wx F a) σ H Q := by
  obtain ⟨g0, own, g, fr, k, kx, S, cx, ck, h⟩ := h
  refine denA_then (kk := fun es fr1 => match o es with | some v => k v fr1 | none => false) S cx h fun own1 g1 fr1 H1 es us S1 t1 r1 h1 => ?_
  cases q : o es with
  | none => rw [q] at h1; cases h1
  | some v => rw [q] at h1; exact ok g0 own1 g1 fr1 σ H1 es us v Q S1 r1 q fun x' g' H' z S' t' r' => ck own1 x' g' fr1 H' v z S' (t1.trans t') r' h1
def oLen : List EV → Option RV
  | [.scr l] => some (.v (.int l.length))
  | [.lst l] => some (.v (.int l.length))
  | [.tup l] => some (.v (.int l.length))
  | _ => none
def oAbs : List EV → Option RV
  | [.int i] => some (.v (.int (match i with | .ofNat n => .ofNat n | .negSucc n => .ofNat (n + 1))))
  | _ => none
def oMax : List EV → Option RV
  | [.int i, .int j] => some (.v (.int (match ltI i j with | true => j | false => i)))
  | _ => none
def oMin : List EV → Option RV
  | [.int i, .int j] => some (.v (.int (match ltI j i with | true => j | false => i)))
  | _ => none
def oInt : List EV → Option RV
  | [.int i] => some (.v (.int i))
  | [.bl b] => some (.v (.int (match b with | true => 1 | false => 0)))
  | _ => none
def oTuple : List EV → Option RV
  | [.lst l] => some (.v (.tup l))
  | [.tup l] => some (.v (.tup l))
  | _ => none
def oList : List EV → Option RV
  | [.lst l] => some (.fr l)
  | [.tup l] => some (.fr l)
  | _ => none
def intsE : List EV → Option (List Int)
  | [] => some []
  | .int i :: r => match intsE r with
    | some l => some (i :: l)
    | none => none
  | _ => none
def sumI : List Int → Int → Int
  | [], a => a
  | i :: r, a => sumI r (a + i)
def oSum : List EV → Option RV
  | [.lst l] => match intsE l with
    | some is => some (.v (.int (sumI is 0)))
    | none => none
  | _ => none
def blsE : List EV → Option (List Bool)
  | [] => some []
  | .bl i :: r => match blsE r with
    | some l => some (i :: l)
    | none => none
  | _ => none
def oAll : List EV → Option RV
  | [.lst l] => match blsE l with
    | some is => some (.v (.bl (is.all id)))
    | none => none
  | _ => none
def oAny : List EV → Option RV
  | [.lst l] => match blsE l with
    | some is => some (.v (.bl (is.any id)))
    | none => none
  | _ => none
def oGcd : List EV → Option RV
  | [.int i, .int j] => some (.v (.int (.ofNat (Nat.gcd i.natAbs j.natAbs))))
  | _ => none
def lcmFits (i j : Int) : Bool := Nat.blt i.natAbs.log2 6000 && Nat.blt j.natAbs.log2 6000
def oLcm : List EV → Option RV
  | [.int i, .int j] => match lcmFits i j with
    | true => some (.v (.int (.ofNat (Nat.lcm i.natAbs j.natAbs))))
    | false => none
  | _ => none
theorem intsE_ok : ∀ {l : List EV} {is : List Int}, intsE l = some is → l = is.map EV.int
  | [], is, h => by cases h; rfl
  | e :: r, is, h => by
    cases e with
    | int i =>
      have h' : (match intsE r with | some l => some (i :: l) | none => none) = some is := h
      cases q : intsE r with
      | none => rw [q] at h'; cases h'
      | some l => rw [q] at h'; cases h'; rw [intsE_ok q]; rfl
    | _ => cases h
theorem blsE_ok : ∀ {l : List EV} {is : List Bool}, blsE l = some is → l = is.map EV.bl
  | [], is, h => by cases h; rfl
  | e :: r, is, h => by
    cases e with
    | bl i =>
      have h' : (match blsE r with | some l => some (i :: l) | none => none) = some is := h
      cases q : blsE r with
      | none => rw [q] at h'; cases h'
      | some l => rw [q] at h'; cases h'; rw [blsE_ok q]; rfl
    | _ => cases h
theorem VRs.bls {W : Wd} {g : Gs} {H : Hp} : ∀ {is : List Bool} {vs : List V}, VRs W g H (is.map EV.bl) vs → vs = is.map V.bl
  | [], _, .nil => rfl
  | i :: is, _, .cons h r => by
    cases h
    rw [VRs.bls r]; rfl
theorem sumI_eq : ∀ (l : List Int) (a : Int), sumI l a = a + l.sum
  | [], a => by simp [sumI]
  | i :: r, a => by rw [sumI, sumI_eq r, List.sum_cons]; omega
section
variable {X : Cx} {W : Wd}
theorem ok_len : AOk W (fun xs H Q => ∃ x n, xs = [x] ∧ LenV W.K x H n ∧ Q (.int n) H) oLen := by
  intro g0 own g fr σ H xs us v Q S rs e q
  unfold oLen at e
  split at e
  · cases e
    obtain ⟨u, rfl, r⟩ := rs.one
    obtain ⟨p, vs, rfl, h1, r1⟩ := r.sqS
    exact ⟨_, vs.length, rfl, .inl ⟨vs, h1, rfl⟩, by rw [← r1.length]; exact end_v S (.int _) q⟩
  · cases e
    obtain ⟨u, rfl, r⟩ := rs.one
    obtain ⟨p, vs, rfl, h1, r1⟩ := r.sqL
    exact ⟨_, vs.length, rfl, .inl ⟨vs, h1, rfl⟩, by rw [← r1.length]; exact end_v S (.int _) q⟩
  · cases e
    obtain ⟨u, rfl, r⟩ := rs.one
    obtain ⟨p, vs, rfl, h1, r1⟩ := r.sqT
    exact ⟨_, vs.length, rfl, .inr ⟨vs, h1, rfl⟩, by rw [← r1.length]; exact end_v S (.int _) q⟩
  · cases e
theorem ok_abs : AOk W (fun xs H Q => ∃ i, xs = [.int i] ∧ Q (.int (if i < 0 then -i else i)) H) oAbs := by
  intro g0 own g fr σ H xs us v Q S rs e q
  unfold oAbs at e
  split at e
  · rename_i i
    obtain ⟨u, rfl, r⟩ := rs.one
    cases r
    refine ⟨i, rfl, ?_⟩
    cases i with
    | ofNat n =>
      cases e
      rw [if_neg (by simp)]
      exact end_v S (.int _) q
    | negSucc n =>
      cases e
      rw [if_pos (by omega)]
      exact end_v S (.int _) q
  · cases e
theorem ok_max : AOk W (fun xs H Q => ∃ i j, xs = [.int i, .int j] ∧ Q (.int (if j > i then j else i)) H) oMax := by
  intro g0 own g fr σ H xs us v Q S rs e q
  unfold oMax at e
  split at e
  · rename_i i j
    obtain ⟨u, w, rfl, r, r2⟩ := rs.two
    cases r; cases r2
    refine ⟨i, j, rfl, ?_⟩
    rw [ltI_eq] at e
    by_cases c : i < j
    · rw [decide_eq_true c] at e
      cases e
      rw [if_pos c]; exact end_v S (.int _) q
    · rw [decide_eq_false c] at e
      cases e
      rw [if_neg c]; exact end_v S (.int _) q
  · cases e
theorem ok_min : AOk W (fun xs H Q => ∃ i j, xs = [.int i, .int j] ∧ Q (.int (if j < i then j else i)) H) oMin := by
  intro g0 own g fr σ H xs us v Q S rs e q
  unfold oMin at e
  split at e
  · rename_i i j
    obtain ⟨u, w, rfl, r, r2⟩ := rs.two
    cases r; cases r2
    refine ⟨i, j, rfl, ?_⟩
    rw [ltI_eq] at e
    by_cases c : j < i
    · rw [decide_eq_true c] at e
      cases e
      rw [if_pos c]; exact end_v S (.int _) q
    · rw [decide_eq_false c] at e
      cases e
      rw [if_neg c]; exact end_v S (.int _) q
  · cases e
theorem ok_int : AOk W (fun xs H Q => (∃ i, xs = [.int i] ∧ Q (.int i) H) ∨ ∃ k, xs = [.bl k] ∧ Q (.int (if k then 1 else 0)) H) oInt := by
  intro g0 own g fr σ H xs us v Q S rs e q
  unfold oInt at e
  split at e
  · cases e
    obtain ⟨u, rfl, r⟩ := rs.one
    cases r
    exact .inl ⟨_, rfl, end_v S (.int _) q⟩
  · rename_i b
    obtain ⟨u, rfl, r⟩ := rs.one
    cases r
    refine .inr ⟨b, rfl, ?_⟩
    cases b <;> (cases e; exact end_v S (.int _) q)
  · cases e
theorem ok_tuple : AOk W (fun xs H Q => ∃ p ys, xs = [.ref p] ∧ ((SqL W.K H p ys ∧ ∀ l, H l = none → Q (.ref l) (upd H l (.tup ys))) ∨ (SqT W.K H p ys ∧ Q (.ref p) H))) oTuple := by
  intro g0 own g fr σ H xs us v Q S rs e q
  unfold oTuple at e
  split at e
  · cases e
    obtain ⟨u, rfl, r⟩ := rs.one
    obtain ⟨p, vs, rfl, h1, r1⟩ := r.sqL
    exact ⟨p, vs, rfl, .inl ⟨h1, fun l hl => end_tup S r1 hl q⟩⟩
  · cases e
    obtain ⟨u, rfl, r⟩ := rs.one
    have r0 := r
    obtain ⟨p, vs, rfl, h1, r1⟩ := r.sqT
    exact ⟨p, vs, rfl, .inr ⟨h1, end_v S r0 q⟩⟩
  · cases e
theorem ok_list : AOk W (fun xs H Q => ∃ p ys, xs = [.ref p] ∧ (SqL W.K H p ys ∨ SqT W.K H p ys) ∧ ∀ l, H l = none → Q (.ref l) (upd H l (.lst ys))) oList := by
  intro g0 own g fr σ H xs us v Q S rs e q
  unfold oList at e
  split at e
  · cases e
    obtain ⟨u, rfl, r⟩ := rs.one
    obtain ⟨p, vs, rfl, h1, r1⟩ := r.sqL
    exact ⟨p, vs, rfl, .inl h1, fun l hl => end_lst S r1 hl q⟩
  · cases e
    obtain ⟨u, rfl, r⟩ := rs.one
    obtain ⟨p, vs, rfl, h1, r1⟩ := r.sqT
    exact ⟨p, vs, rfl, .inr h1, fun l hl => end_lst S r1 hl q⟩
  · cases e
theorem ok_sum : AOk W (rSum W.K) oSum := by
  intro g0 own g fr σ H xs us v Q S rs e q
  unfold oSum at e
  split at e
  · split at e
    · cases e
      obtain ⟨u, rfl, r⟩ := rs.one
      obtain ⟨p, vs, rfl, h1, r1⟩ := r.sqL
      have hl := intsE_ok (by assumption)
      subst hl
      have := r1.ints
      subst this
      refine ⟨p, _, rfl, h1, end_v S ?_ q⟩
      rw [sumI_eq, Int.zero_add]; exact .int _
    · cases e
  · cases e
theorem ok_all : AOk W (rAll W.K) oAll := by
  intro g0 own g fr σ H xs us v Q S rs e q
  unfold oAll at e
  split at e
  · split at e
    · cases e
      obtain ⟨u, rfl, r⟩ := rs.one
      obtain ⟨p, vs, rfl, h1, r1⟩ := r.sqL
      have hl := blsE_ok (by assumption)
      subst hl
      have := r1.bls
      subst this
      exact ⟨p, _, rfl, h1, end_v S (.bl _) q⟩
    · cases e
  · cases e
theorem ok_any : AOk W (rAny W.K) oAny := by
  intro g0 own g fr σ H xs us v Q S rs e q
  unfold oAny at e
  split at e
  · split at e
    · cases e
      obtain ⟨u, rfl, r⟩ := rs.one
      obtain ⟨p, vs, rfl, h1, r1⟩ := r.sqL
      have hl := blsE_ok (by assumption)
      subst hl
      have := r1.bls
      subst this
      exact ⟨p, _, rfl, h1, end_v S (.bl _) q⟩
    · cases e
  · cases e
theorem ok_gcd : AOk W rGcd oGcd := by
  intro g0 own g fr σ H xs us v Q S rs e q
  unfold oGcd at e
  split at e
  · cases e
    obtain ⟨u, w, rfl, r, r2⟩ := rs.two
    cases r; cases r2
    exact ⟨_, _, rfl, end_v S (.int _) q⟩
  · cases e
end
end Ev

/-! Calls of defs: what a def promises about trees. -/
namespace Ev
open PySem PySem.Spec PyProof.Rows L2

abbrev own0 : Nat → Option Addr := fun _ => none
/-- a def's promise: F n says what it does -/
def spF (W : Wd) (F : FT) (n : Nat) : Sp := fun vs H Q E => ∃ g0 g es k kx, Sim W g0 own0 none g [] [] H ∧ VRs W g H es vs ∧
  (∀ x g' H' r u, Sim W g0 own0 x g' [] [] H' → Tr g H g' H' → RR W g' x H' r u → k r = true → Q u H') ∧
  (∀ g' H' z cls d, Sim W g0 own0 none g' [] [] H' → Tr g H g' H' → XR W g' H' z cls d → kx z = true → E cls d H') ∧ F n es k kx = true
/-- a def's arguments are as many as it says -/
def FLen (F : FT) (n np : Nat) : Prop := ∀ es k kx, F n es k kx = true → es.length = np
theorem spF_len {W : Wd} {F : FT} {n np : Nat} (h : FLen F n np) : ∀ vs H Q E, spF W F n vs H Q E → vs.length = np := by
  intro vs H Q E ⟨g0, g, es, k, kx, _, r, _, _, q⟩
  rw [← r.length]; exact h es k kx q
section
variable {W : Wd} {g0 : Hp} {own : Nat → Option Addr} {x : Option Addr} {g g1 : Gs} {fr : Frm} {σ : St} {H H1 : Hp}
open Classical in
theorem Sim.call (S : Sim W g0 own none g fr σ H) : ∃ g0' : Hp, Sim W g0' own0 none g [] [] H ∧
    ∀ x g' H', Sim W g0' own0 x g' [] [] H' → Tr g H g' H' → Sim W g0 own x g' fr σ H' := by
  have live : ∀ p, g.S p → H p ≠ none := fun p h z => S.ntS z h
  let G : Hp := fun p => if g.S p ∧ ¬ g.P p then H p else none
  have Gin : ∀ p, g.S p → ¬ g.P p → G p = H p := fun p h n => if_pos ⟨h, n⟩
  have Gne : ∀ p, G p ≠ none → g.S p ∧ ¬ g.P p := fun p h => by
    by_cases c : g.S p ∧ ¬ g.P p
    · exact c
    · exact absurd (if_neg c) h
  have GP : ∀ p, g.P p → G p = none := fun p h => if_neg fun z => z.2 h
  have g0S : ∀ p, g0 p ≠ none → g.S p ∧ ¬ g.P p := fun p h => ⟨(S.s_iff p).mpr (.inl h), fun z => h (S.np p z).1⟩
  have owS : ∀ i p, own i = some p → g.S p ∧ ¬ g.P p := fun i p h => ⟨(S.s_iff p).mpr (.inr (.inl ⟨i, h⟩)), fun z => (S.np p z).2.1 i h⟩
  refine ⟨G, ⟨fun p => ?_, fun p o h => ?_, fun p h => ⟨GP p h, by simp, by simp⟩, fun i p h => by simp at h, fun p h => by simp at h, fun i j p h => by simp at h, S.pot, rfl, fun i s h => by simp at h, fun i _ => rfl⟩, fun x g' H' S' T => ?_⟩
  · constructor
    · intro h
      by_cases c : g.P p
      · exact .inr (.inr (.inr c))
      · exact .inl (by rw [Gin p h c]; exact live p h)
    · rintro (h | ⟨i, h⟩ | h | h)
      · exact (Gne p h).1
      · simp at h
      · simp at h
      · exact (S.s_iff p).mpr (.inr (.inr (.inr h)))
  · have := Gne p (by rw [h]; simp)
    rw [← Gin p this.1 this.2]; exact h
  · have nG : ∀ p, g.S p → ¬ g.P p → G p ≠ none := fun p h n => by rw [Gin p h n]; exact live p h
    have nP' : ∀ p, G p ≠ none → ¬ g'.P p := fun p h z => h (S'.np p z).1
    have kp : ∀ p o, g.S p → ¬ g.P p → H p = some o → H' p = some o := fun p o h n e => S'.g0k p o (by rw [Gin p h n]; exact e)
    refine ⟨fun p => ?_, fun p o h => ?_, fun p h => ⟨?_, fun i e => ?_, (S'.np p h).2.2⟩, fun i p h => ⟨(S.no i p h).1, fun z => ?_⟩, fun p h => ⟨?_, (S'.nx p h).2⟩, S.inj, S'.pot, S.len, fun i s h => ?_, S.out⟩
    · rw [S'.s_iff p]
      constructor
      · rintro (h | ⟨i, h⟩ | h | h)
        · have q := Gne p h
          rcases (S.s_iff p).mp q.1 with z | z | z | z
          · exact .inl z
          · exact .inr (.inl z)
          · simp at z
          · exact absurd z q.2
        · simp at h
        · exact .inr (.inr (.inl h))
        · exact .inr (.inr (.inr h))
      · rintro (h | ⟨i, h⟩ | h | h)
        · exact .inl (nG p (g0S p h).1 (g0S p h).2)
        · exact .inl (nG p (owS i p h).1 (owS i p h).2)
        · exact .inr (.inr (.inl h))
        · exact .inr (.inr (.inr h))
    · have q := g0S p (by rw [h]; simp)
      exact kp p o q.1 q.2 (S.g0k p o h)
    · cases e : g0 p with
      | none => rfl
      | some o => have q := g0S p (by rw [e]; simp); exact absurd h (nP' p (nG p q.1 q.2))
    · have q := owS i p e; exact absurd h (nP' p (nG p q.1 q.2))
    · have q := owS i p h; exact nG p q.1 q.2 (S'.nx p z).1
    · cases e : g0 p with
      | none => rfl
      | some o => have q := g0S p (by rw [e]; simp); exact absurd (S'.nx p h).1 (nG p q.1 q.2)
    · exact slot_mono T (fun p o e q => by have z := owS i p e; exact kp p o z.1 z.2 q) (S.slot i s h)
/-- the frame of a body: the arguments, then nothing -/
def frE : List EV → Nat → Frm
  | [], 0 => []
  | [], n + 1 => .none :: frE [] n
  | e :: es, n + 1 => .v e :: frE es n
  | _ :: _, 0 => []
theorem frE_eq : ∀ (es : List EV) (n : Nat), es.length ≤ n → frE es n = es.map Slot.v ++ List.replicate (n - es.length) Slot.none
  | [], 0, _ => rfl
  | [], n + 1, h => by
    show Slot.none :: frE [] n = _
    rw [frE_eq [] n (Nat.zero_le _)]; simp [List.replicate_succ]
  | e :: es, n + 1, h => by
    show Slot.v e :: frE es n = _
    rw [frE_eq es n (by simpa using h)]; simp
  | _ :: _, 0, h => by simp at h
theorem Sim.enter {N : List Str} {es : List EV} {vs : List V} (S : Sim W g0 own0 none g [] [] H) (r : VRs W g H es vs) (h : es.length ≤ N.length) : Sim W g0 own0 none g (frE es N.length) (L2.start N vs) H := by
  have hl := r.length
  refine ⟨S.s_iff, S.g0k, S.np, S.no, S.nx, S.inj, S.pot, ?_, fun i s e => ?_, fun _ _ => rfl⟩
  · rw [frE_eq _ _ h]; unfold L2.start; simp; omega
  · rw [frE_eq _ _ h] at e
    by_cases c : i < es.length
    · rw [List.getElem?_append_left (by simpa using c), List.getElem?_map] at e
      cases q : es[i]? with
      | none => rw [q] at e; cases e
      | some a =>
        rw [q] at e
        cases e
        obtain ⟨v, h1, h2⟩ := r.get q
        refine ⟨rfl, v, ?_, h2⟩
        unfold L2.start
        rw [List.getElem?_append_left (by simp; omega), List.getElem?_map, h1]
        rfl
    · rw [List.getElem?_append_right (by simpa using c), List.getElem?_replicate] at e
      split at e
      · cases e; exact rfl
      · cases e
/-- the frame is left: what its slots owned no longer changes -/
theorem Sim.leave (S : Sim W g0 own x g fr σ H) : ∃ g1, Sim W g0 own0 x g1 [] [] H ∧ Tr g H g1 H := by
  refine ⟨⟨fun p => g.S p ∧ ∀ i, own i ≠ some p, g.P, g.me⟩, ⟨fun p => ?_, S.g0k, fun p h => ⟨(S.np p h).1, by simp, (S.np p h).2.2⟩, fun i p h => by simp at h, S.nx, fun i j p h => by simp at h, S.pot, rfl, fun i s h => by simp at h, fun _ _ => rfl⟩, ⟨fun p o h _ n => ⟨h, fun z => n z.1⟩, fun _ h => h, rfl⟩⟩
  show (g.S p ∧ ∀ i, own i ≠ some p) ↔ _
  rw [S.s_iff p]
  constructor
  · rintro ⟨h | ⟨i, h⟩ | h | h, n⟩
    · exact .inl h
    · exact absurd h (n i)
    · exact .inr (.inr (.inl h))
    · exact .inr (.inr (.inr h))
  · rintro (h | ⟨i, h⟩ | h | h)
    · exact ⟨.inl h, fun i e => h (S.no i p e).1⟩
    · simp at h
    · exact ⟨.inr (.inr (.inl h)), fun i e => (S.no i p e).2 h⟩
    · exact ⟨.inr (.inr (.inr h)), (S.np p h).2.1⟩
theorem RR.mono {r : RV} {u : V} (t : Tr g H g1 H) (h : RR W g x H r u) : RR W g1 x H r u := by
  cases r with
  | v e => exact ⟨h.1, h.2.mono t⟩
  | fr l => obtain ⟨p, vs, h1, h2, h3, h4⟩ := h; exact ⟨p, vs, h1, h2, h3, h4.mono t⟩
theorem XR.mono {z : XV} {cls : Value} {d : Option Addr} (t : Tr g H g1 H1) (h : XR W g H z cls d) : XR W g1 H1 z cls d := by
  obtain ⟨h1, h2⟩ := h
  refine ⟨h1, ?_⟩
  rcases h2 with h2 | ⟨dx, vs, h2, h3, h4, h5, h6⟩
  · exact .inl h2
  · obtain ⟨q1, q2⟩ := t.keep dx _ h3 (fun _ z => by cases z) h4
    exact .inr ⟨dx, vs, h2, q1, q2, h5.mono t, h6⟩
end

/-! ### statements -/
section
variable (W : Wd) (Wx : WX) (F : FT)
def CoS (g0 : Hp) (g : Gs) (H : Hp) (kx : KX) : Prop :=
  ∀ own' g' fr' σ' H' z cls d, Sim W g0 own' none g' fr' σ' H' → Tr g H g' H' → XR W g' H' z cls d → kx z fr' = true → Wx cls d σ' H'
def EnN (g0 : Hp) (g : Gs) (H : Hp) (k : Frm → Bool) (P : St → Hp → Prop) : Prop :=
  ∀ own' g' fr' σ' H', Sim W g0 own' none g' fr' σ' H' → Tr g H g' H' → k fr' = true → P σ' H'
def EnR (g0 : Hp) (g : Gs) (H : Hp) (k : RV → Frm → Bool) (P : VK) : Prop :=
  ∀ own' x g' fr' σ' H' r u, Sim W g0 own' x g' fr' σ' H' → Tr g H g' H' → RR W g' x H' r u → k r fr' = true → P u H'
structure Co (g0 : Hp) (g : Gs) (H : Hp) (ks : KS) (D : Ends) : Prop where
  nx : EnN W g0 g H ks.nx D.nx
  rt : EnR W g0 g H ks.rt D.rt
  bk : EnN W g0 g H ks.bk D.bk
  ct : EnN W g0 g H ks.ct D.ct
  kx : CoS W Wx g0 g H ks.kx
def denS (d : SD) : TS := fun D σ H => ∃ g0 own g fr ks, Sim W g0 own none g fr σ H ∧ Co W Wx g0 g H ks D ∧ d F fr ks = true
end
section
variable {W : Wd} {Wx : WX} {F : FT} {g0 : Hp} {own : Nat → Option Addr} {g g1 : Gs} {fr : Frm} {σ : St} {H H1 : Hp} {ks : KS} {D : Ends}
theorem CoS.at (c : CoS W Wx g0 g H ks.kx) : CoX W Wx g0 σ g H ks.kx := fun own' g' fr' H' z cls d => c own' g' fr' σ H' z cls d
theorem Co.mono (c : Co W Wx g0 g H ks D) (t : Tr g H g1 H1) : Co W Wx g0 g1 H1 ks D :=
  ⟨fun own' g' fr' σ' H' S T => c.nx own' g' fr' σ' H' S (t.trans T), fun own' x g' fr' σ' H' r u S T => c.rt own' x g' fr' σ' H' r u S (t.trans T), fun own' g' fr' σ' H' S T => c.bk own' g' fr' σ' H' S (t.trans T),
    fun own' g' fr' σ' H' S T => c.ct own' g' fr' σ' H' S (t.trans T), fun own' g' fr' σ' H' z cls d S T => c.kx own' g' fr' σ' H' z cls d S (t.trans T)⟩
theorem Co.nxt {k : Frm → Bool} {P : St → Hp → Prop} (c : Co W Wx g0 g H ks D) (h : EnN W g0 g H k P) : Co W Wx g0 g H { ks with nx := k } { D with nx := P } := ⟨h, c.rt, c.bk, c.ct, c.kx⟩
end
theorem PS.imp {X : Cx} {e : Stmt} {t t' : TS} (h : PS X e t) (i : ∀ D σ H, t' D σ H → t D σ H) : PS X e t' := ⟨fun pins s σ H D I q => h.run pins s σ H D I (i D σ H q)⟩
theorem PSs.imp {X : Cx} {e : List Stmt} {t t' : TS} (h : PSs X e t) (i : ∀ D σ H, t' D σ H → t D σ H) : PSs X e t' := ⟨fun pins s σ H D I q => h.run pins s σ H D I (i D σ H q)⟩
theorem PI.imp {X : Cx} {tg e : Expr} {t t' : TI} (h : PI X tg e t) (i : ∀ σ H R, t' σ H R → t σ H R) : PI X tg e t' := ⟨fun pins s σ H R I q => h.run pins s σ H R I (i σ H R q)⟩
theorem PI.or {X : Cx} {tg e : Expr} {t t' : TI} (h : PI X tg e t) (h' : PI X tg e t') : PI X tg e (fun σ H R => t σ H R ∨ t' σ H R) :=
  ⟨fun pins s σ H R I q => q.elim (fun q => h.run pins s σ H R I q) fun q => h'.run pins s σ H R I q⟩

/-! ### calls -/
def dCall (n : Nat) (a : AD) : ED := fun F fr k kx => a F fr (fun es fr1 => F n es (fun r => k r fr1) fun z => kx z fr1) kx
/-- with defaults behind -/
def dCallD (n : Nat) (ds : List EV) (a : AD) : ED := fun F fr k kx => a F fr (fun es fr1 => F n (es ++ ds) (fun r => k r fr1) fun z => kx z fr1) kx
theorem den_callF {W : Wd} {Wx : WX} {F : FT} {n : Nat} {g0 : Hp} {own : Nat → Option Addr} {g : Gs} {fr : Frm} {σ : St} {H : Hp} {k : RV → Frm → Bool} {kx : KX} {es : List EV} {vs : List V} {Q : VK} (S : Sim W g0 own none g fr σ H) (cx : CoX W Wx g0 σ g H kx)
    (r : VRs W g H es vs) (h : F n es (fun r => k r fr) (fun z => kx z fr) = true) (ck : ∀ x g' H' r u, Sim W g0 own x g' fr σ H' → Tr g H g' H' → RR W g' x H' r u → k r fr = true → Q u H') : spF W F n vs H Q (WE Wx σ) := by
  obtain ⟨G, S0, back⟩ := S.call
  exact ⟨G, g, es, _, _, S0, r, fun x g' H' r' u S' T R q => ck x g' H' r' u (back x g' H' S' T) T R q, fun g' H' z cls d S' T R q => cx own g' fr H' z cls d (back none g' H' S' T) T R q, h⟩
theorem den_call {W : Wd} {Wx : WX} {F : FT} {n : Nat} {ds : List EV} {dvs : List V} {a : AD} (hd : ∀ g H, VRs W g H ds dvs) {σ : St} {H : Hp} {Q : VK} (h : den W Wx F (dCallD n ds a) σ H Q) : tCallSD (spF W F n) dvs (WE Wx) (denA W Wx F a) σ H Q := by
  obtain ⟨g0, own, g, fr, k, kx, S, cx, ck, h⟩ := h
  refine denA_then (kk := fun es fr1 => F n (es ++ ds) (fun r => k r fr1) fun z => kx z fr1) S cx h fun own1 g1 fr1 H1 es us S1 t1 r1 h1 => ?_
  exact den_callF (k := k) (kx := kx) S1 (cx.mono t1) (r1.app (hd g1 H1)) h1 fun x g' H' r u S' T R q => ck own1 x g' fr1 H' r u S' (t1.trans T) R q
theorem passAtN {X : Cx} {Wx : WX} (tk : L2N.Takes X Wx) (σ : St) : PassesAt (L2N.CX X.prog X.w) X σ (WE Wx σ) := fun _ _ _ e s' I c => tk e s' (L2N.XE.of_call I (fun _ _ _ h => h) c)
section
variable {X : Cx} {W : Wd} {Wx : WX} {F : FT} {n k : Nat} {f : Addr} {fd : FuncData} {ps : List Str} {x : Str} {ds : List EV} {dvs : List V} {dus : List Value} {a : AD} {e : Expr} {es : List Expr} {p pos : Pos}
theorem re_callD (hF : FnOk X.prog X.w X.K X.mg X.base (L2N.CX X.prog X.w) k f fd ps (spF W F n)) (hr : Room k X.A) (tk : L2N.Takes X Wx) (hd : ∀ g H, VRs W g H ds dvs) (hg : Gl X x) (hm : X.mg x = some (.ref f)) (hk : PySem.W.keepIn X.K (.ref f) = true) (hb : Binds X.K fd ps dus) (hv : Vals dvs dus)
    (ha : PA X (e :: es) (denA W Wx F a)) (hdb : (x == ("__debug__" : Str)) = false := by decide) (he : starEach (e :: es) X.env = (false, eval e X.env) :: starEach es X.env := by rfl) (hpl : (backTo pos (starEach es X.env)).any (·.1) = false := by rfl) :
    PE X (.Call (.Name x p) (e :: es) [] pos) (den W Wx F (dCallD n ds a)) :=
  PE.imp (pe_callSD (E := WE Wx) hF hr hg hm hk hb hv (passAtN tk) ha hdb he hpl) fun σ H Q h => den_call hd h
end
end Ev

/-! Statements on frames of trees. -/
namespace Ev
open PySem PySem.Spec PyProof.Rows L2

@[reducible] def slotOf : RV → Slot
  | .v e => .v e
  | .fr l => .own l
section
variable {W : Wd} {g0 : Hp} {own : Nat → Option Addr} {x : Option Addr} {g g1 : Gs} {fr : Frm} {σ : St} {H H1 : Hp}
/-- a slot takes the value at hand -/
theorem Sim.put {r : RV} {u : V} (S : Sim W g0 own x g fr σ H) (R : RR W g x H r u) (i : Nat) : ∃ own1 g1, Sim W g0 own1 none g1 (setS fr i (slotOf r)) (σ.set i (some u)) H ∧ Tr g H g1 H := by
  rw [setS_eq]
  by_cases hi : i < fr.length
  case neg =>
    refine ⟨own, g.cut x, ?_, Tr.cutS S⟩
    rw [List.set_eq_of_length_le (by omega), List.set_eq_of_length_le (by rw [← S.len]; omega)]
    exact S.cut
  have hi2 : i < σ.length := by rw [← S.len]; exact hi
  let own1 : Nat → Option Addr := fun j => if j = i then x else own j
  let g1 : Gs := ⟨fun q => g.S q ∧ own i ≠ some q, g.P, g.me⟩
  have oi : own1 i = x := if_pos rfl
  have on : ∀ j, j ≠ i → own1 j = own j := fun j h => if_neg h
  have t : Tr g H g1 H := ⟨fun q o e _ n => ⟨e, fun z => n z.1⟩, fun _ h => h, rfl⟩
  refine ⟨own1, g1, ⟨fun q => ?_, S.g0k, fun q z => ⟨(S.np q z).1, fun j => ?_, by simp⟩, fun j q z => ⟨?_, by simp⟩, fun q z => by simp at z, fun j j' q z z' => ?_, S.pot, by rw [List.length_set, List.length_set]; exact S.len, fun j s e => ?_, fun j le => ?_⟩, t⟩
  · show (g.S q ∧ own i ≠ some q) ↔ _
    rw [S.s_iff q]
    constructor
    · rintro ⟨z | ⟨j, z⟩ | z | z, n⟩
      · exact .inl z
      · refine .inr (.inl ⟨j, ?_⟩)
        rw [on j fun e => n (by rw [← e]; exact z)]; exact z
      · exact .inr (.inl ⟨i, by rw [oi]; exact z⟩)
      · exact .inr (.inr (.inr z))
    · rintro (z | ⟨j, z⟩ | z | z)
      · exact ⟨.inl z, fun e => z (S.no i q e).1⟩
      · by_cases e : j = i
        · subst e
          rw [oi] at z
          exact ⟨.inr (.inr (.inl z)), fun e => (S.no j q e).2 z⟩
        · rw [on j e] at z
          exact ⟨.inr (.inl ⟨j, z⟩), fun e2 => e (S.inj j i q z e2)⟩
      · simp at z
      · exact ⟨.inr (.inr (.inr z)), (S.np q z).2.1 i⟩
  · by_cases e : j = i
    · subst e; rw [oi]; exact (S.np q z).2.2
    · rw [on j e]; exact (S.np q z).2.1 j
  · by_cases e : j = i
    · subst e; rw [oi] at z; exact (S.nx q z).1
    · rw [on j e] at z; exact (S.no j q z).1
  · by_cases e : j = i
    · by_cases e' : j' = i
      · rw [e, e']
      · subst e; rw [oi] at z; rw [on j' e'] at z'; exact absurd z (S.no j' q z').2
    · by_cases e' : j' = i
      · subst e'; rw [oi] at z'; rw [on j e] at z; exact absurd z' (S.no j q z).2
      · rw [on j e] at z; rw [on j' e'] at z'; exact S.inj j j' q z z'
  · by_cases e2 : j = i
    · subst e2
      rw [List.getElem?_set_self hi] at e
      cases e
      cases r with
      | v w => exact ⟨oi.trans R.1, u, List.getElem?_set_self hi2, R.2.mono t⟩
      | fr l =>
        obtain ⟨p, vs, h1, h2, h3, h4⟩ := R
        exact ⟨p, vs, oi.trans h1, by rw [List.getElem?_set_self hi2, h2], h3, h4.mono t⟩
    · rw [List.getElem?_set_ne (Ne.symm e2)] at e
      have q := slot_mono (g1 := g1) (H' := H) t (fun _ _ _ z => z) (S.slot j s e)
      have eo := on j e2
      have es : (σ.set i (some u))[j]? = σ[j]? := List.getElem?_set_ne (Ne.symm e2)
      cases s with
      | none => exact eo.trans q
      | v e => obtain ⟨a, v, b, c⟩ := q; exact ⟨eo.trans a, v, es.trans b, c⟩
      | own l => obtain ⟨p', vs', a, b, c⟩ := q; exact ⟨p', vs', eo.trans a, es.trans b, c⟩
      | self c fs => obtain ⟨p', dx, vs', a, hm, b, c⟩ := q; exact ⟨p', dx, vs', eo.trans a, hm, es.trans b, c⟩
  · rw [List.length_set] at le
    rw [on j (by omega)]
    exact S.out j le
theorem Sim.putV {e : EV} {u : V} (S : Sim W g0 own none g fr σ H) (R : VR W g H e u) (i : Nat) : ∃ own1 g1, Sim W g0 own1 none g1 (setS fr i (.v e)) (σ.set i (some u)) H ∧ Tr g H g1 H := S.put (r := .v e) ⟨rfl, R⟩ i
end

/-! ### small statements -/
def dSet (i : Nat) (d : ED) : SD := fun F fr ks => d F fr (fun r fr1 => ks.nx (setS fr1 i (slotOf r))) ks.kx
def dRet (d : ED) : SD := fun F fr ks => d F fr ks.rt ks.kx
def dRetN : SD := fun _ fr ks => ks.rt (.v .non) fr
def dDrop (d : ED) : SD := fun F fr ks => d F fr (fun _ fr1 => ks.nx fr1) ks.kx
def dNext : SD := fun _ fr ks => ks.nx fr
def dBreak : SD := fun _ fr ks => ks.bk fr
def dCont : SD := fun _ fr ks => ks.ct fr
def dNever : SD := fun _ _ _ => false
def dSeq (a b : SD) : SD := fun F fr ks => a F fr { ks with nx := fun f => b F f ks }
def dIf (t : TD) (a b : SD) : SD := fun F fr ks => t F fr (fun c fr1 => match c with
  | true => a F fr1 ks
  | false => b F fr1 ks) ks.kx
/-- several names take a sequence's items -/
def unpE : List Nat → List EV → Frm → Option Frm
  | [], [], fr => some fr
  | i :: is, e :: es, fr => unpE is es (setS fr i (.v e))
  | _, _, _ => none
/-- what a value is when it is taken apart -/
def seqE : EV → Option (List EV)
  | .tup l => some l
  | .lst l => some l
  | _ => none
/-- a target: one name, or names in a tuple -/
inductive Tgt where
  | one (i : Nat) | many (is : List Nat)
def tgE : Tgt → EV → Frm → Option Frm
  | .one i, e, fr => some (setS fr i (.v e))
  | .many is, e, fr => match seqE e with
    | some l => unpE is l fr
    | none => none
def dUnp (is : List Nat) (d : ED) : SD := fun F fr ks => d F fr (fun r fr1 => match tgE (.many is) r.ev fr1 with
  | some fr2 => ks.nx fr2
  | none => false) ks.kx
/-- i, j = a, b -/
def dPar (i j : Nat) (a b : ED) : SD := fun F fr ks => a F fr (fun r fr1 => b F fr1 (fun s fr2 => ks.nx (setS (setS fr2 i (.v r.ev)) j (.v s.ev))) ks.kx) ks.kx
section
variable {X : Cx} {W : Wd} {Wx : WX} {F : FT}
theorem rs_next {st : List Stmt} (h : PSs X st tNext) : PSs X st (denS W Wx F dNext) := PSs.imp h fun D σ H q => by
  obtain ⟨g0, own, g, fr, ks, S, c, q⟩ := q
  exact c.nx own g fr σ H S .refl q
theorem rs_never {st : Stmt} : PS X st (denS W Wx F dNever) := PS.imp (X := X) (e := st) (t := tNever) ps_never fun D σ H q => by
  obtain ⟨g0, own, g, fr, ks, S, c, q⟩ := q
  cases q
theorem rs_set {i : Nat} {x : Str} {e : Expr} {d : ED} {pos pos' : Pos} (hN : X.N.Nodup) (hi : X.N[i]? = some x) (hx : Loc X.env.scope x) (he : PE X e (den W Wx F d)) (hs : swapsWith e (some (.Name x pos')) pos.line X.env = pure false := by rfl) (hf : X.fn x = true ∨ X.env.scope.names.lookup x = some .local := by first | exact .inl rfl | exact .inr rfl | assumption) :
    PS X (.Assign [.Name x pos'] e pos) (denS W Wx F (dSet i d)) := PS.imp (ps_set hN hi hx he hs hf) fun D σ H q => by
  obtain ⟨g0, own, g, fr, ks, S, c, q⟩ := q
  refine ⟨g0, own, g, fr, fun r fr1 => ks.nx (setS fr1 i (slotOf r)), ks.kx, S, c.kx.at, fun own' x g' fr' H' r u S' T R q => ?_, q⟩
  obtain ⟨own1, g1, S1, t⟩ := S'.put R i
  exact c.nx own1 g1 _ _ H' S1 (T.trans t) q
theorem rs_ret {e : Expr} {d : ED} {pos : Pos} (he : PE X e (den W Wx F d)) : PS X (.Return (some e) pos) (denS W Wx F (dRet d)) := PS.imp (ps_ret he) fun D σ H q => by
  obtain ⟨g0, own, g, fr, ks, S, c, q⟩ := q
  exact ⟨g0, own, g, fr, ks.rt, ks.kx, S, c.kx.at, fun own' x g' fr' H' r u S' T R q => c.rt own' x g' fr' σ H' r u S' T R q, q⟩
theorem rs_retN {pos : Pos} : PS X (.Return none pos) (denS W Wx F dRetN) := PS.imp ps_retN fun D σ H q => by
  obtain ⟨g0, own, g, fr, ks, S, c, q⟩ := q
  exact c.rt own none g fr σ H (.v .non) .non S .refl ⟨rfl, .non⟩ q
theorem rs_break {pos : Pos} {t : TS} (h : PS X (.Break pos) t) (ht : ∀ D σ H, D.bk σ H → t D σ H) : PS X (.Break pos) (denS W Wx F dBreak) := PS.imp h fun D σ H q => by
  obtain ⟨g0, own, g, fr, ks, S, c, q⟩ := q
  exact ht D σ H (c.bk own g fr σ H S .refl q)
theorem rs_drop {e : Expr} {d : ED} {pos : Pos} (he : PE X e (den W Wx F d)) (hs : swapsWith e none pos.line X.env = pure false := by rfl) : PS X (.Expr e pos) (denS W Wx F (dDrop d)) := PS.imp (ps_expr he hs) fun D σ H q => by
  obtain ⟨g0, own, g, fr, ks, S, c, q⟩ := q
  refine ⟨g0, own, g, fr, fun _ fr1 => ks.nx fr1, ks.kx, S, c.kx.at, fun own' x g' fr' H' r u S' T R q => ?_, q⟩
  exact c.nx own' (g'.cut x) fr' σ H' S'.cut (T.trans (Tr.cutS S')) q
theorem rs_if {c : Expr} {a b : List Stmt} {t : TD} {da db : SD} {pos : Pos} (hc : PT X c (denT W Wx F t)) (ha : PSs X a (denS W Wx F da)) (hb : PSs X b (denS W Wx F db)) : PS X (.If c a b pos) (denS W Wx F (dIf t da db)) := PS.imp (ps_if hc ha hb) fun D σ H q => by
  obtain ⟨g0, own, g, fr, ks, S, c, q⟩ := q
  refine denT_then (kk := fun c fr1 => match c with | true => da F fr1 ks | false => db F fr1 ks) S c.kx.at q fun own1 g1 fr1 H1 b S1 t1 q1 => ?_
  cases b with
  | true => rw [if_pos rfl]; exact ⟨g0, own1, g1, fr1, ks, S1, c.mono t1, q1⟩
  | false => rw [if_neg (by decide)]; exact ⟨g0, own1, g1, fr1, ks, S1, c.mono t1, q1⟩
theorem rs_cons {st : Stmt} {rest : List Stmt} {a b : SD} (h1 : PS X st (denS W Wx F a)) (h2 : PSs X rest (denS W Wx F b)) : PSs X (st :: rest) (denS W Wx F (dSeq a b)) := PSs.imp (pss_cons h1 h2) fun D σ H q => by
  obtain ⟨g0, own, g, fr, ks, S, c, q⟩ := q
  exact ⟨g0, own, g, fr, _, S, c.nxt (k := fun f => b F f ks) fun own' g' fr' σ' H' S' T q' => ⟨g0, own', g', fr', ks, S', c.mono T, q'⟩, q⟩
theorem rs_one {st : Stmt} {a : SD} (h1 : PS X st (denS W Wx F a)) : PSs X [st] (denS W Wx F a) := pss_one h1
theorem rs_par {i j : Nat} {x y : Str} {a b : Expr} {da db : ED} {px py pt pos : Pos} {kt k2 pt2} (hc : X.calm = true) (hN : X.N.Nodup) (hi : X.N[i]? = some x) (hj : X.N[j]? = some y) (hij : i ≠ j)
    (hx : X.env.scope.names.lookup x = some .local) (hy : X.env.scope.names.lookup y = some .local) (ha : PA X [a, b] (denA W Wx F (dArgs [da, db])))
    (hw : swappedStores [.Tuple [.Name x px, .Name y py] kt pt] (.Tuple [a, b] k2 pt2) X.env = pure (some [x, y]))
    (hs : swapsWithSole [.Tuple [.Name x px, .Name y py] kt pt] (.Tuple [a, b] k2 pt2) pos.line X.env = pure false := by rfl) :
    PS X (.Assign [.Tuple [.Name x px, .Name y py] kt pt] (.Tuple [a, b] k2 pt2) pos) (denS W Wx F (dPar i j da db)) := PS.imp (ps_par hc hN hi hj hij hx hy ha hw hs) fun D σ H q => by
  obtain ⟨g0, own, g, fr, ks, S, c, q⟩ := q
  refine ⟨g0, own, g, fr, fun es fr2 => (match es with | [r, s] => ks.nx (setS (setS fr2 i (.v r)) j (.v s)) | _ => false), ks.kx, S, c.kx.at, fun own' g' fr' H' es us S' T R q => ?_, q⟩
  match es, q with
  | [r, s], q =>
    obtain ⟨v, w, rfl, r1, r2⟩ := R.two
    obtain ⟨own1, g1, S1, t1⟩ := S'.putV r1 i
    obtain ⟨own2, g2, S2, t2⟩ := S1.putV (r2.mono t1) j
    exact ⟨v, w, rfl, c.nx own2 g2 _ _ H' S2 ((T.trans t1).trans t2) q⟩
/-- targets -/
inductive TgOk (X : Cx) : Expr → Tgt → Prop where
  | one {i : Nat} {x : Str} {pos : Pos} (hi : X.N[i]? = some x) (hx : Loc X.env.scope x) (hf : X.fn x = true ∨ X.env.scope.names.lookup x = some .local) : TgOk X (.Name x pos) (.one i)
  | many {is : List Nat} {es : List Expr} {k : Nat} {pos : Pos} (h : Paired (fun e i => ∃ x p, e = Expr.Name x p ∧ X.N[i]? = some x ∧ Loc X.env.scope x ∧ (X.fn x = true ∨ X.env.scope.names.lookup x = some .local)) es is) : TgOk X (.Tuple es k pos) (.many is)
def gMany : List Nat → TGs
  | [] => gNil
  | i :: is => gCons (gName i) (gMany is)
theorem pgs_many {es : List Expr} {is : List Nat} (hN : X.N.Nodup) (h : Paired (fun e i => ∃ x p, e = Expr.Name x p ∧ X.N[i]? = some x ∧ Loc X.env.scope x ∧ (X.fn x = true ∨ X.env.scope.names.lookup x = some .local)) es is) : PGs X es (gMany is) ∧ (assignEach es X.env).length = is.length ∧ (assignEach es X.env).findIdx? (·.1) = none := by
  induction h with
  | nil => exact ⟨pgs_nil, rfl, rfl⟩
  | cons r _ ih =>
    obtain ⟨x, p, rfl, h1, h2, h3⟩ := r
    obtain ⟨i1, i2, i3⟩ := ih
    refine ⟨pgs_cons (pg_name hN h1 h2 h3) i1 rfl, ?_, ?_⟩
    · show (_ :: assignEach _ X.env).length = _
      simp [i2]
    · show (((false, _) : Bool × _) :: assignEach _ X.env).findIdx? (·.1) = none
      rw [List.findIdx?_cons]
      simp [i3]
/-- how a target takes a value -/
def GOk (W : Wd) (tg : Tgt) (t : TG) : Prop :=
  ∀ (g0 : Hp) (own : Nat → Option Addr) (g : Gs) (fr fr1 : Frm) (σ : St) (H : Hp) (e : EV) (u : V) (Q : St → Hp → Prop), Sim W g0 own none g fr σ H → VR W g H e u → tgE tg e fr = some fr1 →
    (∀ own' g' σ', Sim W g0 own' none g' fr1 σ' H → Tr g H g' H → σ'.length = σ.length → (∀ j, (match tg with | .one i => j ≠ i | .many is => j ∉ is) → σ'[j]? = σ[j]?) → Q σ' H) → t u σ H Q
theorem many_ok : ∀ (is : List Nat) {es : List EV} {vs : List V} {g0 : Hp} {own : Nat → Option Addr} {g : Gs} {fr fr1 : Frm} {σ : St} {H : Hp} {Q : St → Hp → Prop}, Sim W g0 own none g fr σ H → VRs W g H es vs → unpE is es fr = some fr1 →
    (∀ own' g' σ', Sim W g0 own' none g' fr1 σ' H → Tr g H g' H → σ'.length = σ.length → (∀ j, j ∉ is → σ'[j]? = σ[j]?) → Q σ' H) → gMany is vs σ H Q ∧ vs.length = is.length
  | [], [], vs, _, own, g, fr, fr1, σ, H, Q, S, r, h, q => by
    cases r; cases h
    exact ⟨⟨rfl, q own g σ S .refl rfl fun _ _ => rfl⟩, rfl⟩
  | i :: is, e :: es, vs, _, own, g, fr, fr1, σ, H, Q, S, r, h, q => by
    cases r with
    | cons r1 r2 =>
      obtain ⟨own1, g1, S1, t1⟩ := S.putV r1 i
      obtain ⟨z, hl⟩ := many_ok is (Q := Q) S1 (r2.mono t1) h fun own' g' σ' S' T l k => q own' g' σ' S' (t1.trans T) (by rw [l, List.length_set]) fun j hj => by
        simp only [List.mem_cons, not_or] at hj
        rw [k j hj.2, List.getElem?_set_ne (Ne.symm hj.1)]
      exact ⟨⟨_, _, rfl, z⟩, by simp [hl]⟩
  | [], _ :: _, _, _, _, _, _, _, _, _, _, _, _, h, _ => by cases h
  | _ :: _, [], _, _, _, _, _, _, _, _, _, _, _, h, _ => by cases h
theorem PG.or {tg : Expr} {t t' : TG} (h : PG X tg t) (h' : PG X tg t') : PG X tg (fun v σ H Q => t v σ H Q ∨ t' v σ H Q) :=
  ⟨fun pins s σ H v u Q I r q => q.elim (fun q => h.run pins s σ H v u Q I r q) fun q => h'.run pins s σ H v u Q I r q⟩
/-- every target has its reading -/
def tgR (W : Wd) : Tgt → TG
  | .one i => gName i
  | .many is => fun v σ H Q => gTup W.K is.length (gMany is) v σ H Q ∨ gLst W.K is.length (gMany is) v σ H Q
theorem tg_pg {tg : Expr} {t : Tgt} (hc : X.calm = true) (hN : X.N.Nodup) (hK : X.K = W.K) (h : TgOk X tg t) : PG X tg (tgR W t) := by
  cases h with
  | one hi hx hf => exact pg_name hN hi hx hf
  | @many is es k pos h =>
    obtain ⟨h1, h2, h3⟩ := pgs_many hN h
    have z := Ev.PG.or (pg_tup (pos := pos) (k := k) hc h1 h2 h3) (pg_lst hc h1 h2 h3)
    rw [hK] at z
    exact z
theorem tg_go {t : Tgt} : GOk W t (tgR W t) := by
  cases t with
  | one i =>
    intro g0 own g fr fr1 σ H e u Q S r h q
    cases h
    obtain ⟨own1, g1, S1, t1⟩ := S.putV r i
    exact q own1 g1 _ S1 t1 (by rw [List.length_set]) fun j hj => List.getElem?_set_ne (Ne.symm hj)
  | many is =>
    intro g0 own g fr fr1 σ H e u Q S r h q
    unfold tgE at h
    cases e with
    | tup l =>
      obtain ⟨p, vs, rfl, a, b⟩ := r.sqT
      obtain ⟨z, hl⟩ := many_ok is (Q := Q) S b h q
      exact .inl ⟨p, vs, rfl, a, hl, z⟩
    | lst l =>
      obtain ⟨p, vs, rfl, a, b⟩ := r.sqL
      obtain ⟨z, hl⟩ := many_ok is (Q := Q) S b h q
      exact .inr ⟨p, vs, rfl, a, hl, z⟩
    | _ => cases h
theorem tg_ok {tg : Expr} {t : Tgt} (hc : X.calm = true) (hN : X.N.Nodup) (hK : X.K = W.K) (h : TgOk X tg t) : ∃ w, PG X tg w ∧ GOk W t w := ⟨tgR W t, tg_pg hc hN hK h, tg_go⟩
theorem rs_unp {is : List Nat} {e : Expr} {es : List Expr} {k : Nat} {d : ED} {pos tpos : Pos} (hc : X.calm = true) (hN : X.N.Nodup) (hK : X.K = W.K) (ht : TgOk X (.Tuple es k tpos) (.many is)) (he : PE X e (den W Wx F d))
    (hs : swapsWithSole [.Tuple es k tpos] e pos.line X.env = pure false := by rfl) (hw : swappedStores [.Tuple es k tpos] e X.env = pure none := by rfl)
    (h1 : (assignEach [.Tuple es k tpos] X.env).map (·.2) = [assign (.Tuple es k tpos) X.env] := by rfl) : PS X (.Assign [.Tuple es k tpos] e pos) (denS W Wx F (dUnp is d)) := by
  obtain ⟨w, h2, h3⟩ := tg_ok hc hN hK ht
  refine PS.imp (ps_asg he h2 hs hw h1) fun D σ H q => ?_
  obtain ⟨g0, own, g, fr, ks, S, c, q⟩ := q
  refine den_then (kk := fun e fr1 => match tgE (.many is) e fr1 with | some fr2 => ks.nx fr2 | none => false) S c.kx.at q fun own1 g1 fr1 H1 e u S1 t1 r1 q1 => ?_
  cases z : tgE (.many is) e fr1 with
  | none => rw [z] at q1; cases q1
  | some fr2 =>
    rw [z] at q1
    exact h3 g0 own1 g1 fr1 fr2 σ H1 e u D.nx S1 r1 z fun own' g' σ' S' T _ _ => c.nx own' g' fr2 σ' H1 S' (t1.trans T) q1
end
end Ev

/-! Loops and comprehensions on frames of trees. -/
namespace Ev
open PySem PySem.Spec PyProof.Rows L2

abbrev ID := FT → Frm → (List EV → Frm → Bool) → KX → Bool
/-- the iterator yields these trees, as long as what may not change stands -/
def Yl (W : Wd) (g : Gs) (H : Hp) (J : It) (es : List EV) : Prop :=
  ∀ g1 H1, Tr g H g1 H1 → J.stop es.length H1 ∧ ∀ i e, es[i]? = some e → J.go i H1 ∧ ∀ x H2, J.yld i H1 x H2 →
    (H2 = H1 ∧ VR W g1 H1 e x) ∨ ∃ p vs l, H1 p = none ∧ H2 = upd H1 p (.tup vs) ∧ x = .ref p ∧ e = .tup l ∧ VRs W g1 H1 l vs
def denI (W : Wd) (Wx : WX) (F : FT) (d : ID) : TI := fun σ H R => ∃ g0 own g fr k kx, Sim W g0 own none g fr σ H ∧ CoX W Wx g0 σ g H kx ∧
  (∀ own' g' fr' H' es J, Sim W g0 own' none g' fr' σ H' → Tr g H g' H' → Yl W g' H' J es → k es fr' = true → R J H') ∧ d F fr k kx = true

/-! ### what is walked -/
def dISeq (d : ED) : ID := fun F fr k kx => d F fr (fun r fr1 => match seqE r.ev with
  | some l => k l fr1
  | none => false) kx
def rngE : Int → Nat → List EV
  | _, 0 => []
  | a, n + 1 => .int a :: rngE (a + 1) n
theorem rngE_get : ∀ (n : Nat) (a : Int) (i : Nat), (rngE a n)[i]? = if i < n then some (.int (a + i)) else none
  | 0, a, i => by simp [rngE]
  | n + 1, a, 0 => by simp [rngE]
  | n + 1, a, i + 1 => by
    rw [rngE, List.getElem?_cons_succ, rngE_get n]
    by_cases h : i < n
    · rw [if_pos h, if_pos (by omega)]; congr 2; omega
    · rw [if_neg h, if_neg (by omega)]
theorem rngE_len : ∀ (n : Nat) (a : Int), (rngE a n).length = n
  | 0, _ => rfl
  | n + 1, a => by rw [rngE, List.length_cons, rngE_len n]
def small62 (i : Int) : Bool := Nat.blt i.natAbs 1000000000
/-- what is walked, by arguments -/
def dIA (o : List EV → Option (List EV)) (a : AD) : ID := fun F fr k kx => a F fr (fun es fr1 => match o es with
  | some l => k l fr1
  | none => false) kx
def subNat (i j : Int) : Nat := (j - i).toNat
def oRng1 : List EV → Option (List EV)
  | [.int j] => match small62 j with
    | true => some (rngE 0 j.toNat)
    | false => none
  | _ => none
def oRng2 : List EV → Option (List EV)
  | [.int i, .int j] => match small62 i && small62 j with
    | true => some (rngE i (subNat i j))
    | false => none
  | _ => none
def zipE : List EV → List EV → List EV
  | a :: as, b :: bs => .tup [a, b] :: zipE as bs
  | _, _ => []
theorem zipE_get : ∀ (as bs : List EV) (i : Nat) (e : EV), (zipE as bs)[i]? = some e → ∃ a b, as[i]? = some a ∧ bs[i]? = some b ∧ e = .tup [a, b]
  | [], _, i, e, h => by simp [zipE] at h
  | _ :: _, [], i, e, h => by simp [zipE] at h
  | a :: as, b :: bs, 0, e, h => by
    have h' : some (EV.tup [a, b]) = some e := h
    cases h'
    exact ⟨a, b, rfl, rfl, rfl⟩
  | a :: as, b :: bs, i + 1, e, h => by
    obtain ⟨x, y, h1, h2, h3⟩ := zipE_get as bs i e (by simpa [zipE] using h)
    exact ⟨x, y, by simpa using h1, by simpa using h2, h3⟩
theorem zipE_len : ∀ (as bs : List EV), as.length ≤ (zipE as bs).length ∨ bs.length ≤ (zipE as bs).length
  | [], _ => .inl (Nat.zero_le _)
  | _ :: _, [] => .inr (Nat.zero_le _)
  | a :: as, b :: bs => by
    rcases zipE_len as bs with h | h
    · exact .inl (by simp [zipE]; exact h)
    · exact .inr (by simp [zipE]; exact h)
/-- two sequences of one kind -/
def zip2 : EV → EV → Option (List EV)
  | .tup a, .tup b => some (zipE a b)
  | .lst a, .lst b => some (zipE a b)
  | _, _ => none
def oZip : List EV → Option (List EV)
  | [x, y] => zip2 x y
  | _ => none
def enumE : Nat → List EV → List EV
  | _, [] => []
  | n, e :: es => .tup [.int (.ofNat n), e] :: enumE (n + 1) es
theorem enumE_get : ∀ (es : List EV) (n i : Nat) (e : EV), (enumE n es)[i]? = some e → ∃ a, es[i]? = some a ∧ e = .tup [.int ((n + i : Nat) : Int), a]
  | [], n, i, e, h => by simp [enumE] at h
  | a :: as, n, 0, e, h => by
    have h' : some (EV.tup [.int (.ofNat n), a]) = some e := h
    cases h'
    exact ⟨a, rfl, rfl⟩
  | a :: as, n, i + 1, e, h => by
    obtain ⟨x, h1, h2⟩ := enumE_get as (n + 1) i e (by simpa [enumE] using h)
    exact ⟨x, by simpa using h1, by rw [h2]; congr 3; omega⟩
theorem enumE_len : ∀ (es : List EV) (n : Nat), (enumE n es).length = es.length
  | [], _ => rfl
  | e :: es, n => by rw [enumE, List.length_cons, enumE_len es, List.length_cons]
def oEnum : List EV → Option (List EV)
  | [.lst l] => some (enumE 0 l)
  | _ => none
section
variable {X : Cx} {W : Wd} {Wx : WX} {F : FT} {g : Gs} {H : Hp}
theorem yl_list {l : List EV} {p : Addr} {vs : List V} (hq : ∀ g1 H1, Tr g H g1 H1 → SqL W.K H1 p vs) (uq : ∀ H1 xs ys, SqL W.K H1 p xs → SqL W.K H1 p ys → xs = ys) (r : VRs W g H l vs) : Yl W g H (Itl W.K p) l := by
  intro g1 H1 T
  refine ⟨⟨vs, hq g1 H1 T, by rw [r.length]; exact Nat.le_refl _⟩, fun i e h => ?_⟩
  obtain ⟨v, h1, h2⟩ := r.get h
  refine ⟨⟨vs, v, hq g1 H1 T, h1⟩, fun x H2 ⟨e2, y⟩ => .inl ⟨e2, ?_⟩⟩
  have := y vs (hq g1 H1 T)
  rw [h1] at this
  cases this
  exact h2.mono T
theorem VR.lstH {l : List EV} {v : V} (h : VR W g H (.lst l) v) : ∃ p vs, v = .ref p ∧ H p = some (.lst vs) ∧ ¬ g.S p ∧ VRs W g H l vs := by
  cases h with
  | lst h n r => exact ⟨_, _, rfl, h, n, r⟩
theorem yl_lst {l : List EV} {v : V} (h : VR W g H (.lst l) v) : ∃ p vs, v = .ref p ∧ SqL W.K H p vs ∧ VRs W g H l vs ∧ ∀ g1 H1, Tr g H g1 H1 → SqL W.K H1 p vs := by
  obtain ⟨p, vs, rfl, h1, n, r⟩ := h.lstH
  exact ⟨p, vs, rfl, .of h1, r, fun g1 H1 T => .of (T.keep _ _ h1 (fun _ z => by cases z) n).1⟩
theorem yl_tup {l : List EV} {v : V} (h : VR W g H (.tup l) v) : ∃ p vs, v = .ref p ∧ SqT W.K H p vs ∧ VRs W g H l vs ∧ ∀ g1 H1, Tr g H g1 H1 → SqT W.K H1 p vs := by
  cases h with
  | tup h n r => exact ⟨_, _, rfl, .of h, r, fun g1 H1 T => .of (T.keep _ _ h (fun _ z => by cases z) n).1⟩
  | tupK h r => exact ⟨_, _, rfl, h.sq, r, fun g1 H1 T => h.sq⟩
/-- a list -/
theorem yl_L {l : List EV} {p : Addr} {vs : List V} (hq : ∀ g1 H1, Tr g H g1 H1 → SqL W.K H1 p vs) (r : VRs W g H l vs) : Yl W g H (Itl W.K p) l := by
  intro g1 H1 T
  refine ⟨⟨vs, hq g1 H1 T, by rw [r.length]; exact Nat.le_refl _⟩, fun i e h => ?_⟩
  obtain ⟨v, h1, h2⟩ := r.get h
  refine ⟨⟨vs, v, hq g1 H1 T, h1⟩, fun x H2 ⟨e2, y⟩ => .inl ⟨e2, ?_⟩⟩
  have := y vs (hq g1 H1 T)
  rw [h1] at this
  cases this
  exact h2.mono T
theorem yl_T {l : List EV} {p : Addr} {vs : List V} (hq : ∀ g1 H1, Tr g H g1 H1 → SqT W.K H1 p vs) (r : VRs W g H l vs) : Yl W g H (Itt W.K p) l := by
  intro g1 H1 T
  refine ⟨⟨vs, hq g1 H1 T, by rw [r.length]; exact Nat.le_refl _⟩, fun i e h => ?_⟩
  obtain ⟨v, h1, h2⟩ := r.get h
  refine ⟨⟨vs, v, hq g1 H1 T, h1⟩, fun x H2 ⟨e2, y⟩ => .inl ⟨e2, ?_⟩⟩
  have := y vs (hq g1 H1 T)
  rw [h1] at this
  cases this
  exact h2.mono T
/-- a list, or a tuple: which of the two shows behind the expression -/
def iSeq (K : PySem.W.Frag) (tl : TE) : TI := fun σ H R => tl σ H fun x H1 => ∃ a, x = .ref a ∧ (((∃ xs, SqL K H1 a xs) ∧ R (Itl K a) H1) ∨ ((∃ xs, SqT K H1 a xs) ∧ R (Itt K a) H1))
theorem pi_seq {tg l : Expr} {tl : TE} (hl : PE X l tl) : PI X tg l (iSeq X.K tl) := by
  refine ⟨fun pins s σ H R I h => ?_⟩
  refine thn (hl.run pins s σ H _ I h) fun v s1 ⟨x, H1, I1, r1, a, e, q1⟩ => ?_
  subst e
  cases r1
  have fp : ∀ b ∈ [s1.heap.objs.size], FpOk X pins H1 b := fun b hb => by
    have e : b = s1.heap.objs.size := by simpa using hb
    subst e
    exact I1.fpOk (Nat.le_refl _) (I1.hok.fresh (Nat.le_refl _))
  rcases q1 with ⟨⟨xs, hq⟩, q⟩ | ⟨⟨xs, hq⟩, q⟩
  · obtain ⟨its, rv, p, hz⟩ := I1.list hq
    exact wpAny_pyIter_list p.isList ⟨s1.heap.objs.size, [s1.heap.objs.size], _, _, H1, rfl, I1.kept (t' := s1.toks) fun b o e => Heap.get?_push_of_some _ e, turn_list a _, ⟨_, Heap.get?_push_size _ rfl, rfl, rfl⟩, fp, q⟩
  · obtain ⟨its, rv, p, hz⟩ := I1.tuple hq
    exact wpAny_pyIter_tuple (show s1.heap.IsTuple a its.toArray from p) ⟨s1.heap.objs.size, [s1.heap.objs.size], _, _, H1, rfl, I1.kept (t' := s1.toks) fun b o e => Heap.get?_push_of_some _ e, turn_tuple a _, ⟨_, Heap.get?_push_size _ rfl, rfl, rfl⟩, fp, q⟩
theorem ri_seq {tg e : Expr} {d : ED} (hK : X.K = W.K) (he : PE X e (den W Wx F d)) : PI X tg e (denI W Wx F (dISeq d)) := by
  refine Ev.PI.imp (pi_seq he) fun σ H R q => ?_
  obtain ⟨g0, own, g, fr, k, kx, S, cx, ck, q⟩ := q
  rw [hK]
  refine den_then (kk := fun e fr1 => match seqE e with | some l => k l fr1 | none => false) S cx q fun own1 g1 fr1 H1 e u S1 t1 r1 q1 => ?_
  cases e with
  | tup l =>
    obtain ⟨p, vs, rfl, h1, r, hq⟩ := yl_tup r1
    exact ⟨p, rfl, .inr ⟨⟨vs, h1⟩, ck own1 g1 fr1 H1 l _ S1 t1 (yl_T hq r) q1⟩⟩
  | lst l =>
    obtain ⟨p, vs, rfl, h1, r, hq⟩ := yl_lst r1
    exact ⟨p, rfl, .inl ⟨⟨vs, h1⟩, ck own1 g1 fr1 H1 l _ S1 t1 (yl_L hq r) q1⟩⟩
  | _ => cases q1
theorem yl_R {lo : Int} {n : Nat} : Yl W g H (Itr lo n) (rngE lo n) := by
  intro g1 H1 T
  refine ⟨by rw [rngE_len]; exact Nat.le_refl _, fun i e h => ?_⟩
  rw [rngE_get] at h
  by_cases c : i < n
  · rw [if_pos c] at h
    cases h
    exact ⟨c, fun x H2 ⟨e2, y⟩ => .inl ⟨e2, by rw [y]; exact .int _⟩⟩
  · rw [if_neg c] at h; cases h
theorem small_ok {i : Int} (h : small62 i = true) : -(2 ^ 62) ≤ i ∧ i < 2 ^ 62 := by
  have := Nat.le_of_ble_eq_true h
  constructor <;> omega
theorem denIA_then {o : List EV → Option (List EV)} {a : AD} {σ : St} {R : It → Hp → Prop} {Q : List V → Hp → Prop} (q : denI W Wx F (dIA o a) σ H R)
    (h : ∀ (g1 : Gs) (H1 : Hp) (es : List EV) (us : List V) (l : List EV), VRs W g1 H1 es us → o es = some l → (∀ J, Yl W g1 H1 J l → R J H1) → Q us H1) : denA W Wx F a σ H Q := by
  obtain ⟨g0, own, g, fr, k, kx, S, cx, ck, q⟩ := q
  refine denA_then (kk := fun es fr1 => match o es with | some l => k l fr1 | none => false) S cx q fun own1 g1 fr1 H1 es us S1 t1 r1 q1 => ?_
  cases z : o es with
  | none => rw [z] at q1; cases q1
  | some l => rw [z] at q1; exact h g1 H1 es us l r1 z fun J y => ck own1 g1 fr1 H1 l J S1 t1 y q1
theorem ri_rng1 {tg a : Expr} {d : ED} {p pos : Pos} (hg : Gl X "range") (hm : X.mg "range" = none) (ha : PA X [a] (denA W Wx F (dArgs [d]))) (hs : starEach [a] X.env = [(false, eval a X.env)] := by rfl) : PI X tg (.Call (.Name "range" p) [a] [] pos) (denI W Wx F (dIA oRng1 (dArgs [d]))) := by
  refine Ev.PI.imp (pi_range1 hg hm ha hs) fun σ H R q => denIA_then q fun g1 H1 es us l r1 z ck => ?_
  unfold oRng1 at z
  split at z
  · obtain ⟨u, rfl, r⟩ := r1.one
    cases r
    split at z
    · cases z
      have e := small_ok (by assumption)
      exact ⟨_, rfl, e.1, e.2, ck _ yl_R⟩
    · cases z
  · cases z
theorem ri_rng2 {tg a b : Expr} {d d' : ED} {p pos : Pos} (hg : Gl X "range") (hm : X.mg "range" = none) (ha : PA X [a, b] (denA W Wx F (dArgs [d, d']))) (hs : starEach [a, b] X.env = [(false, eval a X.env), (false, eval b X.env)] := by rfl) (hs2 : starEach [b] X.env = [(false, eval b X.env)] := by rfl) :
    PI X tg (.Call (.Name "range" p) [a, b] [] pos) (denI W Wx F (dIA oRng2 (dArgs [d, d']))) := by
  refine Ev.PI.imp (pi_range2 hg hm ha hs hs2) fun σ H R q => denIA_then q fun g1 H1 es us l r1 z ck => ?_
  unfold oRng2 at z
  split at z
  · obtain ⟨u, w, rfl, r, r'⟩ := r1.two
    cases r; cases r'
    split at z
    · cases z
      have e := Bool.and_eq_true_iff.mp (by assumption)
      exact ⟨_, _, rfl, ⟨(small_ok e.1).1, (small_ok e.1).2, (small_ok e.2).1, (small_ok e.2).2⟩, ck _ yl_R⟩
    · cases z
  · cases z
theorem yl_Z {as bs : List EV} {p q : Addr} {vs us : List V} (h1 : ∀ g1 H1, Tr g H g1 H1 → SqL W.K H1 p vs) (h2 : ∀ g1 H1, Tr g H g1 H1 → SqL W.K H1 q us) (r1 : VRs W g H as vs) (r2 : VRs W g H bs us) : Yl W g H (Itz W.K p q) (zipE as bs) := by
  intro g1 H1 T
  refine ⟨⟨vs, us, h1 g1 H1 T, h2 g1 H1 T, by rw [← r1.length, ← r2.length]; exact zipE_len as bs⟩, fun i e h => ?_⟩
  obtain ⟨a, b, ha, hb, rfl⟩ := zipE_get as bs i e h
  obtain ⟨v, hv, rv⟩ := r1.get ha
  obtain ⟨u, hu, ru⟩ := r2.get hb
  refine ⟨⟨vs, us, v, u, h1 g1 H1 T, h2 g1 H1 T, hv, hu⟩, fun x H2 ⟨t, x', y', ex, hn, eH, k1, k2⟩ => .inr ⟨t, _, _, hn, eH, ex, rfl, ?_⟩⟩
  have q1 := k1 vs (h1 g1 H1 T)
  have q2 := k2 us (h2 g1 H1 T)
  rw [hv] at q1; rw [hu] at q2
  cases q1; cases q2
  exact .cons (rv.mono T) (.cons (ru.mono T) .nil)
theorem yl_ZT {as bs : List EV} {p q : Addr} {vs us : List V} (h1 : ∀ g1 H1, Tr g H g1 H1 → SqT W.K H1 p vs) (h2 : ∀ g1 H1, Tr g H g1 H1 → SqT W.K H1 q us) (r1 : VRs W g H as vs) (r2 : VRs W g H bs us) : Yl W g H (RZ.ItzT W.K p q) (zipE as bs) := by
  intro g1 H1 T
  refine ⟨⟨vs, us, h1 g1 H1 T, h2 g1 H1 T, by rw [← r1.length, ← r2.length]; exact zipE_len as bs⟩, fun i e h => ?_⟩
  obtain ⟨a, b, ha, hb, rfl⟩ := zipE_get as bs i e h
  obtain ⟨v, hv, rv⟩ := r1.get ha
  obtain ⟨u, hu, ru⟩ := r2.get hb
  refine ⟨⟨vs, us, v, u, h1 g1 H1 T, h2 g1 H1 T, hv, hu⟩, fun x H2 ⟨t, x', y', ex, hn, eH, k1, k2⟩ => .inr ⟨t, _, _, hn, eH, ex, rfl, ?_⟩⟩
  have q1 := k1 vs (h1 g1 H1 T)
  have q2 := k2 us (h2 g1 H1 T)
  rw [hv] at q1; rw [hu] at q2
  cases q1; cases q2
  exact .cons (rv.mono T) (.cons (ru.mono T) .nil)
theorem ri_zip {e e2 : Expr} {d d' : ED} {p pos tpos : Pos} {elts : List Expr} {kk : Nat} (hK : X.K = W.K) (hg : Gl X "zip") (hm : X.mg "zip" = none) (ha : PA X [e, e2] (denA W Wx F (dArgs [d, d'])))
    (hs : starEach [e, e2] X.env = (false, eval e X.env) :: starEach [e2] X.env := by rfl) (hpl : (backTo pos (starEach [e2] X.env)).any (·.1) = false := by rfl) :
    PI X (.Tuple elts kk tpos) (.Call (.Name "zip" p) [e, e2] [] pos) (denI W Wx F (dIA oZip (dArgs [d, d']))) := by
  refine Ev.PI.imp (RZ.pi_zipA hg hm ha hs hpl) fun σ H R q => ?_
  rw [hK]
  refine denIA_then q fun g1 H1 es us l r1 z ck => ?_
  unfold oZip at z
  split at z
  · obtain ⟨u, w, rfl, r, r'⟩ := r1.two
    unfold zip2 at z
    split at z
    · cases z
      obtain ⟨p, vs, rfl, h1, rs, hq⟩ := yl_tup r
      obtain ⟨p', vs', rfl, h1', rs', hq'⟩ := yl_tup r'
      exact ⟨p, p', vs, vs', rfl, .inr ⟨h1, h1', ck _ (yl_ZT hq hq' rs rs')⟩⟩
    · cases z
      obtain ⟨p, vs, rfl, h1, rs, hq⟩ := yl_lst r
      obtain ⟨p', vs', rfl, h1', rs', hq'⟩ := yl_lst r'
      exact ⟨p, p', vs, vs', rfl, .inl ⟨h1, h1', ck _ (yl_Z hq hq' rs rs')⟩⟩
    · cases z
  · cases z
theorem yl_E {as : List EV} {p : Addr} {vs : List V} (h1 : ∀ g1 H1, Tr g H g1 H1 → SqL W.K H1 p vs) (r1 : VRs W g H as vs) : Yl W g H (Ite W.K p) (enumE 0 as) := by
  intro g1 H1 T
  refine ⟨⟨vs, h1 g1 H1 T, by rw [enumE_len, r1.length]; exact Nat.le_refl _⟩, fun i e h => ?_⟩
  obtain ⟨a, ha, rfl⟩ := enumE_get as 0 i e h
  obtain ⟨v, hv, rv⟩ := r1.get ha
  refine ⟨⟨vs, v, h1 g1 H1 T, hv⟩, fun x H2 ⟨t, x', ex, hn, e2, k1⟩ => .inr ⟨t, _, _, hn, e2, ex, rfl, ?_⟩⟩
  have e1 := k1 vs (h1 g1 H1 T)
  rw [hv] at e1
  cases e1
  refine .cons ?_ (.cons (rv.mono T) .nil)
  rw [Nat.zero_add]; exact .int _
theorem ri_enum {e : Expr} {d : ED} {p pos tpos : Pos} {elts : List Expr} {kk : Nat} (hK : X.K = W.K) (hg : Gl X "enumerate") (hm : X.mg "enumerate" = none) (ha : PA X [e] (denA W Wx F (dArgs [d]))) (hs : starEach [e] X.env = [(false, eval e X.env)] := by rfl) :
    PI X (.Tuple elts kk tpos) (.Call (.Name "enumerate" p) [e] [] pos) (denI W Wx F (dIA oEnum (dArgs [d]))) := by
  refine Ev.PI.imp (pi_enum hg hm ha hs) fun σ H R q => ?_
  rw [hK]
  refine denIA_then q fun g1 H1 es us l r1 z ck => ?_
  unfold oEnum at z
  split at z
  · cases z
    obtain ⟨u, rfl, r⟩ := r1.one
    obtain ⟨p, vs, rfl, h1, rs, hq⟩ := yl_lst r
    exact ⟨p, vs, rfl, h1, ck _ (yl_E hq rs)⟩
  · cases z
/-- what is yielded comes to hand -/
theorem Sim.yield {g0 : Hp} {own : Nat → Option Addr} {fr : Frm} {σ : St} {e : EV} {x : V} {H2 : Hp} (S : Sim W g0 own none g fr σ H)
    (h : (H2 = H ∧ VR W g H e x) ∨ ∃ p vs l, H p = none ∧ H2 = upd H p (.tup vs) ∧ x = .ref p ∧ e = .tup l ∧ VRs W g H l vs) : Sim W g0 own none g fr σ H2 ∧ Tr g H g H2 ∧ VR W g H2 e x := by
  rcases h with ⟨rfl, r⟩ | ⟨p, vs, l, hn, rfl, rfl, rfl, r⟩
  · exact ⟨S, .refl, r⟩
  · exact ⟨S.new hn, .new hn, .tup upd_same (S.ntS hn) (r.mono (.new hn))⟩

/-! ### for, while -/
def forL (tg : Tgt) (b : SD) (F : FT) (ks : KS) : List EV → Frm → Bool
  | [], fr => ks.nx fr
  | e :: r, fr => match tgE tg e fr with
    | some fr1 => b F fr1 { ks with nx := forL tg b F ks r, ct := forL tg b F ks r, bk := ks.nx }
    | none => false
def dFor (it : ID) (tg : Tgt) (b : SD) : SD := fun F fr ks => it F fr (forL tg b F ks) ks.kx
theorem rs_for {tg iter : Expr} {body : List Stmt} {it : ID} {t : Tgt} {b : SD} {pos : Pos} (hp : PassesOwn (model X.prog X.w) X.A X.env X.xe) (hc : X.calm = true) (hN : X.N.Nodup) (hK : X.K = W.K) (ht : TgOk X tg t) (hi : PI X tg iter (denI W Wx F it)) (hb : PSs X body (denS W Wx F b))
    (hs : ∀ x, foldedSetIterable iter X.env x = pure x := by intro _; rfl) : PS X (.For tg iter body [] pos) (denS W Wx F (dFor it t b)) := by
  obtain ⟨w, hg, go⟩ := tg_ok hc hN hK ht
  refine PS.imp (ps_for hp hc hi hg hb hs) fun D σ H q => ?_
  obtain ⟨g0, own, g, fr, ks, S, c, q⟩ := q
  refine ⟨g0, own, g, fr, forL t b F ks, ks.kx, S, c.kx.at, fun own1 g1 fr1 H1 es J S1 t1 Y q1 => ?_, q⟩
  refine ⟨fun i m σ H => m = es.length - i ∧ i ≤ es.length ∧ ∃ own' g' fr', Sim W g0 own' none g' fr' σ H ∧ Tr g1 H1 g' H ∧ forL t b F ks (es.drop i) fr' = true, ⟨_, rfl, Nat.zero_le _, own1, g1, fr1, S1, .refl, q1⟩, ?_⟩
  rintro i m σ2 H2 ⟨rfl, hi, own2, g2, fr2, S2, t2, q2⟩
  obtain ⟨y1, y2⟩ := Y g2 H2 t2
  by_cases hlt : i < es.length
  · have ei : es[i]? = some es[i] := List.getElem?_eq_getElem hlt
    rw [List.drop_eq_getElem_cons hlt] at q2
    obtain ⟨z1, z2⟩ := y2 i _ ei
    refine .inr ⟨z1, fun σ' H' => ∃ own' g' fr', Sim W g0 own' none g' fr' σ' H' ∧ Tr g1 H1 g' H' ∧ forL t b F ks (es.drop (i + 1)) fr' = true, fun σ' H' h => ⟨_, by omega, rfl, by omega, h⟩, fun x H3 yl => ?_⟩
    obtain ⟨S3, t3, r3⟩ := S2.yield (z2 x H3 yl)
    unfold forL at q2
    cases z : tgE t es[i] fr2 with
    | none => rw [z] at q2; cases q2
    | some fr3 =>
      rw [z] at q2
      refine go g0 own2 g2 fr2 fr3 σ2 H3 _ x _ S3 r3 z fun own4 g4 σ4 S4 t4 _ _ => ?_
      have tt : Tr g1 H1 g4 H3 := (t2.trans t3).trans t4
      have T0 : Tr g H g4 H3 := t1.trans tt
      refine ⟨g0, own4, g4, fr3, { ks with nx := forL t b F ks (es.drop (i + 1)), ct := forL t b F ks (es.drop (i + 1)), bk := ks.nx }, S4, ⟨?_, (c.mono T0).rt, (c.mono T0).nx, ?_, (c.mono T0).kx⟩, q2⟩
      · exact fun own' g' fr' σ' H' S' T q' => ⟨own', g', fr', S', tt.trans T, q'⟩
      · exact fun own' g' fr' σ' H' S' T q' => ⟨own', g', fr', S', tt.trans T, q'⟩
  · have e : i = es.length := by omega
    subst e
    rw [List.drop_length] at q2
    exact .inl ⟨y1, c.nx own2 g2 fr2 σ2 H2 S2 (t1.trans t2) q2⟩
def whlL (t : TD) (b : SD) (F : FT) (ks : KS) : Nat → Frm → Bool
  | 0, _ => false
  | n + 1, fr => t F fr (fun c fr1 => match c with
    | true => b F fr1 { ks with nx := whlL t b F ks n, ct := whlL t b F ks n, bk := ks.nx }
    | false => ks.nx fr1) ks.kx
def dWhile (n : Nat) (t : TD) (b : SD) : SD := fun F fr ks => whlL t b F ks n fr
theorem rs_while {c : Expr} {body : List Stmt} {t : TD} {b : SD} {pos : Pos} (n : Nat) (hp : PassesOwn (model X.prog X.w) X.A X.env X.xe) (hc : PT X c (denT W Wx F t)) (hb : PSs X body (denS W Wx F b)) : PS X (.While c body [] pos) (denS W Wx F (dWhile n t b)) := by
  refine PS.imp (ps_while hp hc hb) fun D σ H q => ?_
  obtain ⟨g0, own, g, fr, ks, S, cc, q⟩ := q
  refine ⟨fun m σ' H' => ∃ own' g' fr', Sim W g0 own' none g' fr' σ' H' ∧ Tr g H g' H' ∧ whlL t b F ks m fr' = true, ⟨n, own, g, fr, S, .refl, q⟩, ?_⟩
  rintro m σ1 H1 ⟨own1, g1, fr1, S1, t1, q1⟩
  cases m with
  | zero => cases q1
  | succ m =>
    unfold whlL at q1
    refine denT_then (kk := fun c fr1 => match c with | true => b F fr1 { ks with nx := whlL t b F ks m, ct := whlL t b F ks m, bk := ks.nx } | false => ks.nx fr1) S1 (cc.mono t1).kx.at q1 fun own2 g2 fr2 H2 v S2 t2 q2 => ?_
    cases v with
    | true =>
      rw [if_pos rfl]
      have T := t1.trans t2
      refine ⟨fun σ' H' => ∃ own' g' fr', Sim W g0 own' none g' fr' σ' H' ∧ Tr g H g' H' ∧ whlL t b F ks m fr' = true, fun σ' H' h => ⟨m, Nat.lt_succ_self _, h⟩, g0, own2, g2, fr2, { ks with nx := whlL t b F ks m, ct := whlL t b F ks m, bk := ks.nx }, S2, ⟨?_, (cc.mono T).rt, (cc.mono T).nx, ?_, (cc.mono T).kx⟩, q2⟩
      · exact fun own' g' fr' σ' H' S' T' q' => ⟨own', g', fr', S', T.trans T', q'⟩
      · exact fun own' g' fr' σ' H' S' T' q' => ⟨own', g', fr', S', T.trans T', q'⟩
    | false =>
      rw [if_neg (by decide)]
      exact cc.nx own2 g2 fr2 σ1 H2 S2 (t1.trans t2) q2
end
end Ev

/-! List comprehensions on frames of trees. -/
namespace Ev
open PySem PySem.Spec PyProof.Rows L2

/-- slots that a comprehension takes for itself: they hold values or nothing -/
def plainS : Frm → List Nat → Bool
  | _, [] => true
  | fr, i :: is => match getS fr i with
    | .none => plainS fr is
    | .v _ => plainS fr is
    | _ => false
def wipeF (fr : Frm) : List Nat → Frm
  | [] => fr
  | i :: is => setS (wipeF fr is) i .none
/-- behind the comprehension the slots are as they were -/
def backF (fr0 fr : Frm) : List Nat → Frm
  | [] => fr
  | i :: is => setS (backF fr0 fr is) i (getS fr0 i)
def lcL (tg : Tgt) (tt : Option TD) (te : ED) (vs : List Nat) (F : FT) (fr0 : Frm) (k : RV → Frm → Bool) : List EV → List EV → Frm → Bool
  | acc, [], fr => k (.fr acc.reverse) (backF fr0 fr vs)
  | acc, e :: r, fr => match tgE tg e fr with
    | some fr1 => (match tt with
      | some t => t F fr1 (fun c fr2 => match c with
        | true => te F fr2 (fun y fr3 => match plainS fr3 vs with
          | true => lcL tg tt te vs F fr0 k (y.ev :: acc) r (wipeF fr3 vs)
          | false => false) (fun _ _ => false)
        | false => (match plainS fr2 vs with
          | true => lcL tg tt te vs F fr0 k acc r (wipeF fr2 vs)
          | false => false)) (fun _ _ => false)
      | none => te F fr1 (fun y fr3 => match plainS fr3 vs with
        | true => lcL tg tt te vs F fr0 k (y.ev :: acc) r (wipeF fr3 vs)
        | false => false) (fun _ _ => false))
    | none => false
def dLc (it : ID) (tg : Tgt) (tt : Option TD) (te : ED) (vs : List Nat) : ED := fun F fr k kx => it F fr (fun es fr1 => match plainS fr1 vs && fits es.length with
  | true => lcL tg tt te vs F fr1 k [] es (wipeF fr1 vs)
  | false => false) kx

theorem getS_set : ∀ (fr : Frm) (i j : Nat) (s : Slot), getS (setS fr i s) j = if j = i ∧ i < fr.length then s else getS fr j
  | [], i, j, s => by simp [setS]
  | a :: r, 0, 0, s => by simp [setS, getS]
  | a :: r, 0, j + 1, s => by simp [setS, getS]
  | a :: r, i + 1, 0, s => by simp [setS, getS]
  | a :: r, i + 1, j + 1, s => by
    show getS (setS r i s) j = _
    rw [getS_set r i j s]
    simp [getS]
theorem getS_len : ∀ {fr : Frm} {i : Nat}, fr.length ≤ i → getS fr i = .none
  | [], _, _ => rfl
  | _ :: r, 0, h => by simp at h
  | _ :: r, i + 1, h => by show getS r i = _; exact getS_len (by simpa using h)
theorem get_getS : ∀ {fr : Frm} {i : Nat} {s : Slot}, fr[i]? = some s → getS fr i = s
  | [], _, _, h => by simp at h
  | a :: r, 0, s, h => by simpa [getS] using h
  | a :: r, i + 1, s, h => by show getS r i = s; exact get_getS (by simpa using h)
theorem wipeF_len (fr : Frm) : ∀ vs, (wipeF fr vs).length = fr.length
  | [] => rfl
  | i :: is => by rw [wipeF, setS_eq, List.length_set, wipeF_len fr is]
theorem backF_len (fr0 fr : Frm) : ∀ vs, (backF fr0 fr vs).length = fr.length
  | [] => rfl
  | i :: is => by rw [backF, setS_eq, List.length_set, backF_len fr0 fr is]
theorem wipeF_get (fr : Frm) : ∀ (vs : List Nat) (j : Nat), getS (wipeF fr vs) j = if j ∈ vs then .none else getS fr j
  | [], j => by simp [wipeF]
  | i :: is, j => by
    rw [wipeF, getS_set, wipeF_get fr is j, wipeF_len]
    by_cases e : j = i
    · subst e
      by_cases l : j < fr.length
      · simp [l]
      · rw [if_neg (by simp [l])]
        simp [getS_len (Nat.le_of_not_lt l)]
    · simp [e]
theorem backF_get (fr0 fr : Frm) : ∀ (vs : List Nat) (j : Nat), fr0.length = fr.length → getS (backF fr0 fr vs) j = if j ∈ vs then getS fr0 j else getS fr j
  | [], j, _ => by simp [backF]
  | i :: is, j, h => by
    rw [backF, getS_set, backF_get fr0 fr is j h, backF_len]
    by_cases e : j = i
    · subst e
      by_cases l : j < fr.length
      · simp [l]
      · rw [if_neg (by simp [l])]
        simp [getS_len (Nat.le_of_not_lt l), getS_len (Nat.le_of_not_lt (h ▸ l : ¬ j < fr0.length))]
    · simp [e]
theorem plainS_get : ∀ {vs : List Nat} {fr : Frm} {j : Nat}, plainS fr vs = true → j ∈ vs → getS fr j = .none ∨ ∃ e, getS fr j = .v e
  | i :: is, fr, j, h, m => by
    unfold plainS at h
    rcases List.mem_cons.mp m with rfl | m
    · cases q : getS fr j with
      | none => exact .inl rfl
      | v e => exact .inr ⟨e, rfl⟩
      | own l => rw [q] at h; cases h
      | self c fs => rw [q] at h; cases h
    · refine plainS_get (vs := is) ?_ m
      cases q : getS fr i with
      | none => rw [q] at h; exact h
      | v e => rw [q] at h; exact h
      | own l => rw [q] at h; cases h
      | self c fs => rw [q] at h; cases h
theorem wipe_get (σ : St) : ∀ (vs : List Nat) (j : Nat), j ∉ vs → (wipe σ vs)[j]? = σ[j]?
  | [], _, _ => rfl
  | v :: vs, j, h => by
    simp only [List.mem_cons, not_or] at h
    rw [wipe, List.getElem?_set_ne (Ne.symm h.1), wipe_get σ vs j h.2]
section
variable {W : Wd} {g0 : Hp} {own : Nat → Option Addr} {g g1 : Gs} {fr fr0 : Frm} {σ σ0 : St} {H H1 : Hp} {vs : List Nat}
theorem slotR {i : Nat} (S : Sim W g0 own none g fr σ H) (h : i < fr.length) : SlR W own g σ H i (getS fr i) := by
  have e : fr[i]? = some fr[i] := List.getElem?_eq_getElem h
  have := S.slot i _ e
  rw [get_getS e]; exact this
theorem plain_own {i : Nat} (S : Sim W g0 own none g fr σ H) (h : plainS fr vs = true) (m : i ∈ vs) : own i = none := by
  by_cases l : i < fr.length
  · have q := slotR S l
    rcases plainS_get h m with z | ⟨e, z⟩
    · rw [z] at q; exact q
    · rw [z] at q; exact q.1
  · exact S.out i (Nat.le_of_not_lt l)
/-- another frame and state with the same owners -/
theorem Sim.recast {fr' : Frm} {σ' : St} (S : Sim W g0 own none g fr σ H) (hl : fr'.length = fr.length) (hs : σ'.length = σ.length) (h : ∀ i, i < fr.length → SlR W own g σ' H i (getS fr' i)) : Sim W g0 own none g fr' σ' H :=
  ⟨S.s_iff, S.g0k, S.np, S.no, S.nx, S.inj, S.pot, by rw [hl, hs]; exact S.len, fun i s e => by
    have l : i < fr'.length := (List.getElem?_eq_some_iff.mp e).1
    have := h i (by omega)
    rw [get_getS e] at this
    exact this, fun i l => S.out i (by omega)⟩
theorem Sim.wipe (S : Sim W g0 own none g fr σ H) (h : plainS fr vs = true) : Sim W g0 own none g (wipeF fr vs) (wipe σ vs) H := by
  refine S.recast (wipeF_len fr vs) (wipe_length σ vs) fun i l => ?_
  rw [wipeF_get]
  by_cases m : i ∈ vs
  · rw [if_pos m]; exact plain_own S h m
  · rw [if_neg m]
    have q := slotR S l
    have e := wipe_get σ vs i m
    cases z : getS fr i with
    | none => rw [z] at q; exact q
    | v w => rw [z] at q; obtain ⟨a, u, b, c⟩ := q; exact ⟨a, u, e.trans b, c⟩
    | own w => rw [z] at q; obtain ⟨p, us, a, b, c⟩ := q; exact ⟨p, us, a, e.trans b, c⟩
    | self c fs => rw [z] at q; obtain ⟨p, dx, us, a, hm, b, c⟩ := q; exact ⟨p, dx, us, a, hm, e.trans b, c⟩
/-- back at the state ahead of the comprehension: fr0, σ0 were there; fr is the block's frame over wiped slots -/
theorem Sim.back {σb : St} (S : Sim W g0 own none g1 fr σb H1) (hl : fr0.length = fr.length) (ls : σ0.length = σb.length) (hb : ∀ j, j ∉ vs → σb[j]? = σ0[j]?) (hp : plainS fr vs = true)
    (old : ∀ j, j ∈ vs → j < fr0.length → getS fr0 j = .none ∨ ∃ e u, getS fr0 j = .v e ∧ σ0[j]? = some (some u) ∧ VR W g1 H1 e u) : Sim W g0 own none g1 (backF fr0 fr vs) σ0 H1 := by
  refine S.recast (backF_len fr0 fr vs) ls fun i l => ?_
  rw [backF_get _ _ _ _ hl]
  by_cases m : i ∈ vs
  · rw [if_pos m]
    have o := plain_own S hp m
    rcases old i m (by omega) with z | ⟨e, u, z, a, b⟩
    · rw [z]; exact o
    · rw [z]; exact ⟨o, u, a, b⟩
  · rw [if_neg m]
    have q := slotR S l
    have e := (hb i m).symm
    cases z : getS fr i with
    | none => rw [z] at q; exact q
    | v w => rw [z] at q; obtain ⟨a, u, b, c⟩ := q; exact ⟨a, u, e.trans b, c⟩
    | own w => rw [z] at q; obtain ⟨p, us, a, b, c⟩ := q; exact ⟨p, us, a, e.trans b, c⟩
    | self c fs => rw [z] at q; obtain ⟨p, dx, us, a, hm, b, c⟩ := q; exact ⟨p, dx, us, a, hm, e.trans b, c⟩
end
end Ev

/-! The rule for list comprehensions. -/
namespace Ev
open PySem PySem.Spec PyProof.Rows L2
section
variable {W : Wd} {g0 : Hp} {own : Nat → Option Addr} {x : Option Addr} {g g1 : Gs} {fr fr0 : Frm} {σ σ0 : St} {H H1 : Hp} {vs : List Nat} {D : Addr} {o o' : HO}
/-- the value at hand is laid aside, as if the callers owned it -/
theorem Sim.hold (S : Sim W g0 own (some D) g fr σ H) (h : H D = some o) : Sim W (upd g0 D o) own none g fr σ H := by
  refine ⟨fun p => ?_, fun p u e => ?_, fun p e => ⟨?_, (S.np p e).2.1, by simp⟩, fun i p e => ⟨?_, by simp⟩, fun p e => by simp at e, S.inj, S.pot, S.len, S.slot, S.out⟩
  · rw [S.s_iff p]
    by_cases c : p = D
    · subst c; rw [upd_same]; simp
    · rw [upd_ne c]
      constructor
      · rintro (z | z | z | z)
        · exact .inl z
        · exact .inr (.inl z)
        · exact absurd (Option.some.inj z).symm c
        · exact .inr (.inr (.inr z))
      · rintro (z | z | z | z)
        · exact .inl z
        · exact .inr (.inl z)
        · simp at z
        · exact .inr (.inr (.inr z))
  · by_cases c : p = D
    · subst c; rw [upd_same] at e; cases e; exact h
    · rw [upd_ne c] at e; exact S.g0k p u e
  · rw [upd_ne fun c => (S.np p e).2.2 (by rw [c])]; exact (S.np p e).1
  · rw [upd_ne fun c => (S.no i p e).2 (by rw [c])]; exact (S.no i p e).1
/-- and taken up again -/
theorem Sim.take (S : Sim W (upd g0 D o) own none g fr σ H) (h : g0 D = none) : Sim W g0 own (some D) g fr σ H := by
  have hD : (upd g0 D o) D ≠ none := by rw [upd_same]; simp
  refine ⟨fun p => ?_, fun p u e => ?_, fun p e => ⟨?_, (S.np p e).2.1, fun z => ?_⟩, fun i p e => ⟨?_, fun z => ?_⟩, fun p e => ?_, S.inj, S.pot, S.len, S.slot, S.out⟩
  · rw [S.s_iff p]
    by_cases c : p = D
    · subst c
      exact ⟨fun _ => .inr (.inr (.inl rfl)), fun _ => .inl hD⟩
    · rw [upd_ne c]
      constructor
      · rintro (z | z | z | z)
        · exact .inl z
        · exact .inr (.inl z)
        · simp at z
        · exact .inr (.inr (.inr z))
      · rintro (z | z | z | z)
        · exact .inl z
        · exact .inr (.inl z)
        · exact absurd (Option.some.inj z).symm c
        · exact .inr (.inr (.inr z))
  · have c : p ≠ D := fun c => by rw [c, h] at e; cases e
    exact S.g0k p u (by rw [upd_ne c]; exact e)
  · have q := (S.np p e).1
    by_cases c : p = D
    · rw [c]; exact h
    · rw [upd_ne c] at q; exact q
  · rw [← Option.some.inj z] at e; exact hD (S.np D e).1
  · have q := (S.no i p e).1
    by_cases c : p = D
    · rw [c]; exact h
    · rw [upd_ne c] at q; exact q
  · rw [← Option.some.inj z] at e; exact hD (S.no i D e).1
  · have c := Option.some.inj e
    subst c
    refine ⟨h, ?_⟩
    rw [S.g0k D o upd_same]; simp
/-- what lies aside is changed -/
theorem Sim.renew (S : Sim W (upd g0 D o) own none g fr σ H) : Sim W (upd g0 D o') own none g fr σ (upd H D o') ∧ Tr g H g (upd H D o') := by
  have hD : (upd g0 D o) D ≠ none := by rw [upd_same]; simp
  have sD : g.S D := (S.s_iff D).mpr (.inl hD)
  have t : Tr g H g (upd H D o') := ⟨fun p u e _ n => ⟨by rw [upd_ne fun c => n (by rw [c]; exact sD)]; exact e, n⟩, fun _ h => h, rfl⟩
  have e0 : ∀ p, (upd g0 D o) p ≠ none ↔ (upd g0 D o') p ≠ none := fun p => by
    by_cases c : p = D
    · subst c; rw [upd_same, upd_same]; simp
    · rw [upd_ne c, upd_ne c]
  have e1 : ∀ p, (upd g0 D o) p = none → (upd g0 D o') p = none := fun p h => by
    cases q : (upd g0 D o') p with
    | none => rfl
    | some u => exact absurd h ((e0 p).mpr (by rw [q]; simp))
  have nD : ∀ p, (upd g0 D o) p = none → p ≠ D := fun p h c => by rw [c] at h; exact hD h
  refine ⟨⟨fun p => by rw [S.s_iff p, e0 p], fun p u e => ?_, fun p e => ⟨e1 p (S.np p e).1, (S.np p e).2⟩, fun i p e => ⟨e1 p (S.no i p e).1, (S.no i p e).2⟩, fun p e => by simp at e, S.inj, fun p e => ?_, S.len, fun i s e => ?_, S.out⟩, t⟩
  · by_cases c : p = D
    · subst c; rw [upd_same] at e ⊢; exact e
    · rw [upd_ne c] at e ⊢
      exact S.g0k p u (by rw [upd_ne c]; exact e)
  · obtain ⟨a, b, h1, h2⟩ := S.pot p e
    exact ⟨a, b, by rw [upd_ne (nD p (S.np p e).1)]; exact h1, h2⟩
  · exact slot_mono t (fun p u e q => by rw [upd_ne (nD p (S.no i p e).1)]; exact q) (S.slot i s e)
end
theorem wipe_mem (σ : St) : ∀ (vs : List Nat) (j : Nat), j ∈ vs → j < σ.length → (wipe σ vs)[j]? = some none
  | v :: vs, j, h, l => by
    rw [wipe]
    by_cases e : v = j
    · subst e; exact List.getElem?_set_self (by rw [wipe_length]; exact l)
    · rw [List.getElem?_set_ne e]
      rcases List.mem_cons.mp h with z | z
      · exact absurd z.symm e
      · exact wipe_mem σ vs j z l
theorem wipe_same {σ σ2 : St} {vs : List Nat} (hl : σ2.length = (wipe σ vs).length) (h : ∀ j, j ∉ vs → σ2[j]? = (wipe σ vs)[j]?) : wipe σ2 vs = wipe σ vs := by
  apply List.ext_getElem?
  intro j
  by_cases m : j ∈ vs
  · by_cases l : j < σ.length
    · rw [wipe_mem σ2 vs j m (by rw [hl, wipe_length]; exact l), wipe_mem σ vs j m l]
    · rw [List.getElem?_eq_none (by rw [wipe_length, hl, wipe_length]; omega), List.getElem?_eq_none (by rw [wipe_length]; omega)]
  · rw [wipe_get σ2 vs j m, h j m]
theorem plainS_of : ∀ {vs : List Nat} {fr : Frm}, (∀ j ∈ vs, getS fr j = .none) → plainS fr vs = true
  | [], _, _ => rfl
  | i :: is, fr, h => by
    unfold plainS
    rw [h i List.mem_cons_self]
    exact plainS_of fun j m => h j (List.mem_cons_of_mem _ m)
theorem plainS_wipe (fr : Frm) (vs : List Nat) : plainS (wipeF fr vs) vs = true := plainS_of fun j m => by rw [wipeF_get, if_pos m]
def Tgt.ins : Tgt → List Nat
  | .one i => [i]
  | .many is => is
abbrev Wx0 : WX := fun _ _ _ _ => False
section
variable {X : Cx} {W : Wd} {Wx : WX} {F : FT}
/-- the readings of the parts -/
theorem den_lc {it : ID} {tg : Tgt} {w : TG} {tt : Option TD} {t : TT} {te : ED} {vs : List Nat} (hg : GOk W tg w) (htv : ∀ j ∈ tg.ins, j ∈ vs)
    (ht : ∀ (g0 : Hp) (own : Nat → Option Addr) (g : Gs) (fr : Frm) (σ : St) (H : Hp) (kk : Bool → Frm → Bool) (Q : Bool → Hp → Prop), Sim W g0 own none g fr σ H → (match tt with | some d => d F fr kk (fun _ _ => false) = true | none => kk true fr = true) →
      (∀ own' g' fr' H' b, Sim W g0 own' none g' fr' σ H' → Tr g H g' H' → kk b fr' = true → Q b H') → t σ H Q)
    {σ : St} {H : Hp} {Q : VK} (q : den W Wx F (dLc it tg tt te vs) σ H Q) : tLc (denI W Wx F it) w t (den W Wx0 F te) vs σ H Q := by
  obtain ⟨g0, own, g, fr, k, kx, S, cx, ck, q⟩ := q
  refine ⟨g0, own, g, fr, fun es fr1 => match plainS fr1 vs && fits es.length with | true => lcL tg tt te vs F fr1 k [] es (wipeF fr1 vs) | false => false, kx, S, cx, fun own1 g1 fr1 H1 es J S1 t1 Y q1 => ?_, q⟩
  intro D hD
  cases z : plainS fr1 vs && fits es.length with
  | false => simp only [z] at q1; cases q1
  | true =>
  simp only [z] at q1
  obtain ⟨z1, z2⟩ := Bool.and_eq_true_iff.mp z
  have hsz := fits_ok z2
  have hsz1 : es.length ≤ 1000000 := Nat.le_of_ble_eq_true z2
  have old : ∀ j, j ∈ vs → j < fr1.length → getS fr1 j = .none ∨ ∃ e u, getS fr1 j = .v e ∧ σ[j]? = some (some u) ∧ VR W g1 H1 e u := fun j m l => by
    have r := slotR S1 l
    rcases plainS_get z1 m with y | ⟨e, y⟩
    · exact .inl y
    · rw [y] at r; obtain ⟨_, u, a, b⟩ := r; exact .inr ⟨e, u, y, a, b⟩
  have g0D : g0 D = none := by
    cases e : g0 D with
    | none => rfl
    | some u => rw [S1.g0k D u e] at hD; cases hD
  obtain ⟨S2, t2⟩ := (S1.wipe z1).fresh (o := .lst []) hD
  have S3 := S2.hold upd_same
  refine ⟨fun i m H' => m = es.length - i ∧ i ≤ es.length ∧ ∃ own' g' fr' accE accV, Sim W (upd g0 D (.lst accV)) own' none g' fr' (wipe σ vs) H' ∧ Tr g1 H1 g' H' ∧ VRs W g' H' accE.reverse accV ∧ accV.length ≤ i ∧ fr'.length = fr1.length ∧ plainS fr' vs = true ∧ lcL tg tt te vs F fr1 k accE (es.drop i) fr' = true,
    ⟨_, rfl, Nat.zero_le _, own1, _, wipeF fr1 vs, [], [], S3, t2, .nil, Nat.le_refl _, wipeF_len _ _, ?_, q1⟩, ?_⟩
  · exact plainS_wipe _ _
  rintro i m H2 ⟨rfl, hi, own2, g2, fr2, accE, accV, S4, t4, ra, hla, hfl, hp, q2⟩
  obtain ⟨y1, y2⟩ := Y g2 H2 t4
  by_cases hlt : i < es.length
  · have ei : es[i]? = some es[i] := List.getElem?_eq_getElem hlt
    rw [List.drop_eq_getElem_cons hlt] at q2
    obtain ⟨w1, w2⟩ := y2 i _ ei
    refine .inr ⟨w1, fun H' => ∃ own' g' fr' accE accV, Sim W (upd g0 D (.lst accV)) own' none g' fr' (wipe σ vs) H' ∧ Tr g1 H1 g' H' ∧ VRs W g' H' accE.reverse accV ∧ accV.length ≤ i + 1 ∧ fr'.length = fr1.length ∧ plainS fr' vs = true ∧ lcL tg tt te vs F fr1 k accE (es.drop (i + 1)) fr' = true,
      fun H' h => ⟨_, by omega, rfl, by omega, h⟩, fun xv H3 yl => ?_⟩
    obtain ⟨S5, t5, r5⟩ := S4.yield (w2 xv H3 yl)
    unfold lcL at q2
    cases zt : tgE tg es[i] fr2 with
    | none => rw [zt] at q2; cases q2
    | some fr3 =>
      rw [zt] at q2
      refine hg (upd g0 D (.lst accV)) own2 g2 fr2 fr3 (wipe σ vs) H3 _ xv _ S5 r5 zt fun own6 g6 σ6 S6 t6 l6 k6 => ?_
      have ws : wipe σ6 vs = wipe σ vs := wipe_same l6 fun j m => k6 j (by
        cases tg with
        | one i => exact fun c => m (htv j (by rw [c]; exact List.mem_cons_self))
        | many is => exact fun c => m (htv j c))
      have len6 : fr3.length = fr1.length := by rw [S6.len, l6, ← S5.len, hfl]
      refine ⟨ws, ?_⟩
      have T6 : Tr g1 H1 g6 H3 := (t4.trans t5).trans t6
      have ra6 : VRs W g6 H3 accE.reverse accV := ra.mono (t5.trans t6)
      -- the element
      have elt : ∀ (own7 : Nat → Option Addr) (g7 : Gs) (fr7 : Frm) (H7 : Hp), Sim W (upd g0 D (.lst accV)) own7 none g7 fr7 σ6 H7 → Tr g6 H3 g7 H7 → te F fr7 (fun y fr3 => match plainS fr3 vs with | true => lcL tg tt te vs F fr1 k (y.ev :: accE) (es.drop (i + 1)) (wipeF fr3 vs) | false => false) (fun _ _ => false) = true →
          den W Wx0 F te σ6 H7 fun y H4 => ∃ acc, H4 D = some (.lst acc) ∧ acc.length < sizeLine ∧ ∃ own' g' fr' accE accV, Sim W (upd g0 D (.lst accV)) own' none g' fr' (wipe σ vs) (upd H4 D (.lst (acc ++ [y]))) ∧ Tr g1 H1 g' (upd H4 D (.lst (acc ++ [y]))) ∧ VRs W g' (upd H4 D (.lst (acc ++ [y]))) accE.reverse accV ∧ accV.length ≤ i + 1 ∧ fr'.length = fr1.length ∧ plainS fr' vs = true ∧ lcL tg tt te vs F fr1 k accE (es.drop (i + 1)) fr' = true := by
        intro own7 g7 fr7 H7 S7 t7 q7
        refine den_then (kk := fun y fr3 => match plainS fr3 vs with | true => lcL tg tt te vs F fr1 k (y :: accE) (es.drop (i + 1)) (wipeF fr3 vs) | false => false) S7 (fun _ _ _ _ _ _ _ _ _ _ z => by cases z) q7 fun own8 g8 fr8 H8 y u S8 t8 r8 q8 => ?_
        cases zp : plainS fr8 vs with
        | false => simp only [zp] at q8; cases q8
        | true =>
          simp only [zp] at q8
          have hd : H8 D = some (.lst accV) := S8.g0k D _ upd_same
          have S9 := S8.wipe zp
          rw [ws] at S9
          obtain ⟨S10, t10⟩ := S9.renew (o' := .lst (accV ++ [u]))
          refine ⟨accV, hd, by rw [sizeLine_eq]; omega, own8, g8, wipeF fr8 vs, y :: accE, accV ++ [u], S10, (T6.trans (t7.trans t8)).trans t10, ?_, by simp; omega, ?_, ?_, q8⟩
          · rw [List.reverse_cons]
            exact (ra6.mono ((t7.trans t8).trans t10)).app (.cons (r8.mono t10) .nil)
          · rw [wipeF_len, S8.len, ← S6.len, len6]
          · exact plainS_wipe _ _
      have skip : ∀ (own7 : Nat → Option Addr) (g7 : Gs) (fr7 : Frm) (H7 : Hp), Sim W (upd g0 D (.lst accV)) own7 none g7 fr7 σ6 H7 → Tr g6 H3 g7 H7 → (match plainS fr7 vs with | true => lcL tg tt te vs F fr1 k accE (es.drop (i + 1)) (wipeF fr7 vs) | false => false) = true →
          ∃ own' g' fr' accE accV, Sim W (upd g0 D (.lst accV)) own' none g' fr' (wipe σ vs) H7 ∧ Tr g1 H1 g' H7 ∧ VRs W g' H7 accE.reverse accV ∧ accV.length ≤ i + 1 ∧ fr'.length = fr1.length ∧ plainS fr' vs = true ∧ lcL tg tt te vs F fr1 k accE (es.drop (i + 1)) fr' = true := by
        intro own7 g7 fr7 H7 S7 t7 q7
        cases zp : plainS fr7 vs with
        | false => simp only [zp] at q7; cases q7
        | true =>
          simp only [zp] at q7
          have S9 := S7.wipe zp
          rw [ws] at S9
          refine ⟨own7, g7, wipeF fr7 vs, accE, accV, S9, T6.trans t7, ra6.mono t7, by omega, ?_, ?_, q7⟩
          · rw [wipeF_len, S7.len, ← S6.len, len6]
          · exact plainS_wipe _ _
      cases tt with
      | none =>
        refine ht _ own6 g6 fr3 σ6 H3 (fun b f => match b with | true => te F f (fun y fr3 => match plainS fr3 vs with | true => lcL tg none te vs F fr1 k (y.ev :: accE) (es.drop (i + 1)) (wipeF fr3 vs) | false => false) (fun _ _ => false) | false => false) _ S6 q2 fun own7 g7 fr7 H7 b S7 t7 q7 => ?_
        cases b with
        | true => rw [if_pos rfl]; exact elt own7 g7 fr7 H7 S7 t7 q7
        | false => cases q7
      | some td =>
        refine ht _ own6 g6 fr3 σ6 H3 _ _ S6 q2 fun own7 g7 fr7 H7 b S7 t7 q7 => ?_
        cases b with
        | true => rw [if_pos rfl]; exact elt own7 g7 fr7 H7 S7 t7 q7
        | false => rw [if_neg (by decide)]; exact skip own7 g7 fr7 H7 S7 t7 q7
  · have e : i = es.length := by omega
    subst e
    rw [List.drop_length] at q2
    have hd : H2 D = some (.lst accV) := S4.g0k D _ upd_same
    refine .inl ⟨y1, ?_⟩
    have S5 : Sim W (upd g0 D (.lst accV)) own2 none g2 (backF fr1 fr2 vs) σ H2 := S4.back (vs := vs) (by rw [hfl]) (wipe_length σ vs).symm (fun j m => wipe_get σ vs j m) hp fun j m l => by
      rcases old j m l with y | ⟨e, u, a, b, c⟩
      · exact .inl y
      · exact .inr ⟨e, u, a, b, c.mono t4⟩
    exact ck own2 (some D) g2 _ H2 (.fr accE.reverse) (.ref D) (S5.take g0D) (t1.trans t4) ⟨D, accV, rfl, rfl, hd, ra⟩ q2
/-- [elt for target in iter] -/
theorem re_lc {elt tg iter : Expr} {scope : Scope} {own : List (Str × Nat)} {pos : Pos} {it : ID} {t : Tgt} {te : ED} (hc : X.calm = true) (hN : X.N.Nodup) (hK : X.K = W.K) (hi : PI X tg iter (denI W Wx F it)) (ok : BlkOk X.N X.env.scope scope own)
    (hg : ∀ (s : Shared) (H : Hp) (C : Addr) (cl : List (Str × Addr)) (fp : List Addr), TgOk (X.blk s H scope (compEnvC scope cl C X.env) fp) tg t) (hv : ∀ j ∈ t.ins, j ∈ own.map (·.2))
    (he : ∀ (s : Shared) (H : Hp) (C : Addr) (cl : List (Str × Addr)) (fp : List Addr), PE (X.blk s H scope (compEnvC scope cl C X.env) fp) elt (den W Wx0 F te)) (hs : ∀ x, foldedSetIterable iter X.env x = pure x := by intro _; rfl) :
    PE X (.ListComp elt [⟨tg, iter, [], 0⟩] scope pos) (den W Wx F (dLc it t none te (own.map (·.2)))) := by
  have h1 : ∀ (s : Shared) (H : Hp) (C : Addr) (cl : List (Str × Addr)) (fp : List Addr), PG (X.blk s H scope (compEnvC scope cl C X.env) fp) tg (tgR W t) := fun s H C cl fp => tg_pg hc hN hK (hg s H C cl fp)
  refine Ev.PE.imp (pe_lc hc hN hi ok h1 (fun _ _ _ _ _ => pts_nil) he hs) fun σ H Q q => den_lc tg_go hv (fun g0 own g fr σ H kk Q S q ck => ck own g fr H true S .refl q) q
/-- [elt for target in iter if test] -/
theorem re_lcIf {elt tg iter c : Expr} {scope : Scope} {own : List (Str × Nat)} {pos : Pos} {it : ID} {t : Tgt} {tt : TD} {te : ED} (hc : X.calm = true) (hN : X.N.Nodup) (hK : X.K = W.K) (hi : PI X tg iter (denI W Wx F it)) (ok : BlkOk X.N X.env.scope scope own)
    (hg : ∀ (s : Shared) (H : Hp) (C : Addr) (cl : List (Str × Addr)) (fp : List Addr), TgOk (X.blk s H scope (compEnvC scope cl C X.env) fp) tg t) (hv : ∀ j ∈ t.ins, j ∈ own.map (·.2))
    (ht : ∀ (s : Shared) (H : Hp) (C : Addr) (cl : List (Str × Addr)) (fp : List Addr), PT (X.blk s H scope (compEnvC scope cl C X.env) fp) c (denT W Wx0 F tt))
    (he : ∀ (s : Shared) (H : Hp) (C : Addr) (cl : List (Str × Addr)) (fp : List Addr), PE (X.blk s H scope (compEnvC scope cl C X.env) fp) elt (den W Wx0 F te)) (hs : ∀ x, foldedSetIterable iter X.env x = pure x := by intro _; rfl) :
    PE X (.ListComp elt [⟨tg, iter, [c], 0⟩] scope pos) (den W Wx F (dLc it t (some tt) te (own.map (·.2)))) := by
  have h1 : ∀ (s : Shared) (H : Hp) (C : Addr) (cl : List (Str × Addr)) (fp : List Addr), PG (X.blk s H scope (compEnvC scope cl C X.env) fp) tg (tgR W t) := fun s H C cl fp => tg_pg hc hN hK (hg s H C cl fp)
  refine Ev.PE.imp (pe_lc hc hN hi ok h1 (fun s H C cl fp => pts_one (ht s H C cl fp)) he hs) fun σ H Q q => den_lc tg_go hv (fun g0 own g fr σ H kk Q S q ck => denT_then S (fun _ _ _ _ _ _ _ _ _ _ z => by cases z) q ck) q
end
end Ev

/-! Instances: fields, methods, operators of own classes, isinstance, making. -/
namespace Ev
open PySem PySem.Spec PyProof.Rows L2

/-- what the text must have of the class number c -/
structure ClF (W : Wd) (c : Nat) : Prop where
  cl : Cls W.K (W.cls c)
  ha : PySem.W.findIn W.K (.ref (W.cls c)) "__class__" = some (some (.builtin "object.__class__"))
  hn : PySem.W.specialIn W.K (.builtin "object.__class__") "__get__" = some (some (.builtin "getset_descriptor.__get__"))
  ht : PySem.W.takesIn W.K (.builtin "object.__class__") = some true
  hm : PySem.W.mroIn W.K (W.cls c) (.type "object") = some true
  na : ∀ f ∈ W.flds c, NoAttr W.K (W.cls c) f
  nd : (W.flds c).Nodup
  sz : (W.flds c).length < 1000
/-- a small table of numbers -/
def tabE : List (Nat × Nat) → Nat → Option Nat
  | [], _ => none
  | (a, b) :: r, c => match Nat.beq a c with
    | true => some b
    | false => tabE r c
theorem tabE_mem : ∀ {t : List (Nat × Nat)} {c n : Nat}, tabE t c = some n → (c, n) ∈ t
  | (a, b) :: r, c, n, h => by
    unfold tabE at h
    split at h
    · cases h
      rename_i e
      have := Nat.eq_of_beq_eq_true e
      subst this
      exact List.mem_cons_self
    · exact List.mem_cons_of_mem _ (tabE_mem h)
theorem lookup_zip : ∀ {fs : List Str} {vs : List V} {i : Nat} {f : Str} {v : V}, fs.Nodup → fs[i]? = some f → vs[i]? = some v → (fs.zip vs).lookup f = some v
  | [], _, _, _, _, _, h, _ => by simp at h
  | _ :: _, [], _, _, _, _, _, h => by simp at h
  | a :: fs, b :: vs, 0, f, v, _, h1, h2 => by
    simp at h1 h2
    subst h1; subst h2
    simp [List.lookup]
  | a :: fs, b :: vs, i + 1, f, v, nd, h1, h2 => by
    obtain ⟨n1, n2⟩ := List.nodup_cons.mp nd
    have h1' : fs[i]? = some f := by simpa using h1
    have ne : f ≠ a := fun e => n1 (by rw [← e]; exact List.mem_of_getElem? h1')
    rw [List.zip_cons_cons, List.lookup_cons]
    have : (f == a) = false := by simpa using ne
    rw [this]
    exact lookup_zip n2 h1' (by simpa using h2)
theorem lookup_zip_none : ∀ {fs : List Str} {vs : List V} {f : Str}, f ∉ fs → (fs.zip vs).lookup f = none
  | [], _, _, _ => rfl
  | _ :: _, [], _, _ => rfl
  | a :: fs, b :: vs, f, h => by
    simp only [List.mem_cons, not_or] at h
    rw [List.zip_cons_cons, List.lookup_cons]
    have : (f == a) = false := by simpa using h.1
    rw [this]
    exact lookup_zip_none h.2
theorem putF_zip : ∀ {fs : List Str} {vs : List V} {f : Str} {v : V}, f ∉ fs → fs.length = vs.length → putF f v (fs.zip vs) = (fs ++ [f]).zip (vs ++ [v])
  | [], [], f, v, _, _ => rfl
  | a :: fs, b :: vs, f, v, h, hl => by
    simp only [List.mem_cons, not_or] at h
    show (if a = f then _ else (a, b) :: putF f v (fs.zip vs)) = _
    rw [if_neg (Ne.symm h.1), putF_zip h.2 (by simpa using hl)]
    rfl
section
variable {W : Wd} {g : Gs} {H : Hp}
theorem VR.insH {c : Nat} {fs : List EV} {v : V} (h : VR W g H (.ins c fs) v) : ∃ p dx vs, v = .ref p ∧ H p = some (.ins (W.cls c) dx ((W.flds c).zip vs)) ∧ ¬ g.S p ∧ VRs W g H fs vs ∧ fs.length = (W.flds c).length := by
  cases h with
  | ins h n r z => exact ⟨_, _, _, rfl, h, n, r, z⟩
end
/-! ### a field -/
def fldE (t : List (Nat × Nat)) : EV → Option RV
  | .ins c fs => match tabE t c with
    | some i => (match nth fs i with
      | some e => some (.v e)
      | none => none)
    | none => none
  | _ => none
/-- the table is right for the field's name -/
def FldT (W : Wd) (f : Str) (t : List (Nat × Nat)) : Prop := ∀ q ∈ t, ClF W q.1 ∧ (W.flds q.1)[q.2]? = some f
section
variable {X : Cx} {W : Wd} {Wx : WX} {F : FT}
theorem re_fld {e : Expr} {f : Str} {d : ED} {t : List (Nat × Nat)} {pos : Pos} (hK : X.K = W.K) (ht : FldT W f t) (he : PE X e (den W Wx F d)) (hb : attributeBase e f X.env (eval e X.env) = eval e X.env := by rfl) : PE X (.Attribute e f pos) (den W Wx F (dUn (fldE t) d)) := by
  refine Ev.PE.imp (pe_fld he hb) fun σ H Q h => ?_
  rw [hK]
  obtain ⟨g0, own, g, fr, k, kx, S, cx, ck, h⟩ := h
  refine den_then (kk := fun x fr1 => match fldE t x with | some v => k v fr1 | none => false) S cx h fun own1 g1 fr1 H1 x u S1 t1 r1 h1 => ?_
  cases x with
  | ins c fs =>
    obtain ⟨p, dx, vs, rfl, ho, nS, rs, hl⟩ := r1.insH
    unfold fldE at h1
    cases q : tabE t c with
    | none => simp only [q] at h1; cases h1
    | some i =>
      simp only [q] at h1
      cases q2 : nth fs i with
      | none => simp only [q2] at h1; cases h1
      | some e' =>
        simp only [q2] at h1
        obtain ⟨cf, hf⟩ := ht _ (tabE_mem q)
        rw [nth_eq] at q2
        obtain ⟨v, hv, rv⟩ := rs.get q2
        exact ⟨p, _, dx, _, v, rfl, ho, cf.cl, cf.na f (List.mem_of_getElem? hf), lookup_zip cf.nd hf hv, ck own1 none g1 fr1 H1 (.v e') v S1 t1 ⟨rfl, rv⟩ h1⟩
  | _ => cases h1
/-- self.f = e, in __init__, the fields one behind another -/
def dSetF (c j : Nat) (d : ED) : SD := fun F fr ks => d F fr (fun r fr1 => match getS fr1 0 with
  | .self c' fs => (match Nat.beq c' c && Nat.beq fs.length j with
    | true => ks.nx (setS fr1 0 (.self c' (fs ++ [r.ev])))
    | false => false)
  | _ => false) ks.kx
theorem Sim.selfPut {g0 : Hp} {own : Nat → Option Addr} {g : Gs} {fr : Frm} {σ : St} {H : Hp} {c : Nat} {fs : List EV} {e : EV} {u : V} {f : Str} (cf : ClF W c) (S : Sim W g0 own none g fr σ H) (h0 : getS fr 0 = .self c fs) (r : VR W g H e u) (hf : (W.flds c)[fs.length]? = some f) :
    ∃ p dx l, σ[0]? = some (some (.ref p)) ∧ H p = some (.ins (W.cls c) dx l) ∧ l.length < 1000 ∧ Sim W g0 own none g (setS fr 0 (.self c (fs ++ [e]))) σ (upd H p (.ins (W.cls c) dx (putF f u l))) ∧ Tr g H g (upd H p (.ins (W.cls c) dx (putF f u l))) := by
  have hne : getS fr 0 ≠ .none := by rw [h0]; simp
  have e0 := getS_of hne
  rw [h0] at e0
  obtain ⟨p, dx, vs, h1, hm, h2, h3, h4, h5⟩ := S.slot 0 _ e0
  have hlen : fs.length < (W.flds c).length := (List.getElem?_eq_some_iff.mp hf).1
  have hvl := h4.length
  have htl : ((W.flds c).take fs.length).length = fs.length := by rw [List.length_take]; omega
  have pS : g.S p := (S.s_iff p).mpr (.inr (.inl ⟨0, h1⟩))
  have t : ∀ o, Tr g H g (upd H p o) := fun o => ⟨fun q u e _ n => ⟨by rw [upd_ne fun z => n (by rw [z]; exact pS)]; exact e, n⟩, fun _ h => h, rfl⟩
  have np : ∀ q, q ≠ p → ∀ o, upd H p o q = H q := fun q z o => upd_ne z
  refine ⟨p, dx, _, h2, h3, ?_, ⟨S.s_iff, fun q o e => ?_, S.np, S.no, fun q e => by simp at e, S.inj, fun q e => ?_, ?_, fun i s e => ?_, fun i l => ?_⟩, t _⟩
  · rw [List.length_zip, htl]; have := cf.sz; omega
  · rw [np q fun z => ?_]; exact S.g0k q o e
    have := (S.no 0 p h1).1
    rw [z, this] at e; cases e
  · obtain ⟨a, b, z1, z2⟩ := S.pot q e
    exact ⟨a, b, by rw [np q fun z => (S.np q e).2.1 0 (by rw [z]; exact h1)]; exact z1, z2⟩
  · rw [setS_eq, List.length_set]; exact S.len
  · rw [setS_eq] at e
    by_cases c0 : i = 0
    · subst c0
      have hl0 : 0 < fr.length := (List.getElem?_eq_some_iff.mp e0).1
      rw [List.getElem?_set_self hl0] at e
      cases e
      refine ⟨p, dx, vs ++ [u], h1, hm, h2, ?_, (h4.mono (t _)).app (.cons (r.mono (t _)) .nil), by rw [List.length_append]; simp; omega⟩
      rw [upd_same, putF_zip ?_ (by rw [htl]; exact hvl)]
      · congr 3
        rw [List.length_append, List.length_singleton, List.take_add_one, hf]
        rfl
      · intro m
        obtain ⟨j, hj, ej⟩ := List.mem_iff_getElem.mp m
        have hj' : j < fs.length := by rw [htl] at hj; exact hj
        rw [List.getElem_take] at ej
        have e2 := (List.getElem?_eq_some_iff.mp hf)
        obtain ⟨hk, ek⟩ := e2
        have z := (List.getElem?_inj (i := j) (j := fs.length) (by omega) cf.nd).mp (by rw [List.getElem?_eq_getElem (by omega), List.getElem?_eq_getElem hk, ej, ek])
        omega
    · rw [List.getElem?_set_ne (Ne.symm c0)] at e
      have q := S.slot i s e
      exact slot_mono (t _) (fun q' o z1 z2 => by rw [np q' fun z => c0 (S.inj i 0 p (by rw [← z]; exact z1) h1)]; exact z2) q
  · rw [setS_eq, List.length_set] at l; exact S.out i l
theorem rs_setF {f : Str} {c j : Nat} {d : ED} {e : Expr} {x : Str} {p0 pos' pos : Pos} (hK : X.K = W.K) (cf : ClF W c) (hf : (W.flds c)[j]? = some f) (hN : X.N[0]? = some x) (hv : Vis X.env.scope x) (hd : (x == ("__debug__" : Str)) = false) (hcd : (x == ("__classdict__" : Str)) = false)
    (he : PE X e (den W Wx F d)) (hs : swapsWith e (some (.Attribute (.Name x p0) f pos')) pos.line X.env = pure false := by rfl) : PS X (.Assign [.Attribute (.Name x p0) f pos'] e pos) (denS W Wx F (dSetF c j d)) := by
  refine PS.imp (ps_fld (pe_var hN hv hd hcd) he hs) fun D σ H q => ?_
  rw [hK]
  obtain ⟨g0, own, g, fr, ks, S, cc, q⟩ := q
  refine den_then (kk := fun y fr1 => match getS fr1 0 with | .self c' fs => (match Nat.beq c' c && Nat.beq fs.length j with | true => ks.nx (setS fr1 0 (.self c' (fs ++ [y]))) | false => false) | _ => false) S cc.kx.at q fun own1 g1 fr1 H1 y u S1 t1 r1 q1 => ?_
  cases z : getS fr1 0 with
  | self c' fs =>
    simp only [z] at q1
    cases z2 : Nat.beq c' c && Nat.beq fs.length j with
    | false => simp only [z2] at q1; cases q1
    | true =>
      simp only [z2] at q1
      obtain ⟨e1, e2⟩ := Bool.and_eq_true_iff.mp z2
      have e1 := Nat.eq_of_beq_eq_true e1
      have e2 := Nat.eq_of_beq_eq_true e2
      subst e1; subst e2
      obtain ⟨p, dx, l, h1, h2, h3, S2, t2⟩ := S1.selfPut cf z r1 hf
      refine ⟨.ref p, h1, p, _, dx, l, rfl, h2, cf.cl, cf.na f (List.mem_of_getElem? hf), h3, ?_⟩
      exact cc.nx own1 g1 _ σ _ S2 (t1.trans t2) q1
  | none => rw [z] at q1; cases q1
  | v _ => rw [z] at q1; cases q1
  | own _ => rw [z] at q1; cases q1
end
end Ev

/-! Calls by positional promises; operators and comparisons of own classes; methods; making. -/
namespace PySem.W
open PySem PySem.Calls PyProof.Rows Builtin
theorem ne_bind (self : Value) : bindSpecial (.builtin "object.__ne__") self = pure (.builtin "object.__ne__", [self]) :=
  (Slot.of (T := "object") (name := "__ne__") (owner := "object") (n := "__ne__") (by rw [typeLookup_type, builtinLookup_eq_fast]; kernel_rfl) (by decide +kernel) (by decide +kernel) (by decide +kernel)
    (.inl (by decide +kernel)) (by rw [isSubtype_type]; kernel_rfl)).bind self
theorem ifBound_B {M : Model} {A : Around} {E : Value → Shared → Prop} {s : Shared} {K : Frag} {x C : Addr} {ox : Obj} {od : Option Obj} {name : Str} {id : String} {args : List Value} {Q : Option Value → Shared → Prop} (X : K.In s.heap) (I : InstAt s.heap x ox C od)
    (hs : findIn K (.ref C) name = some (some (.builtin id))) (hb : ∀ self, bindSpecial (.builtin id) self = pure (.builtin id, [self]))
    (h : wpAny M A (call (.builtin id) (.ref x :: args)) (fun v => Q (some v)) E s) : wpAny M A (callSpecialIfBound? (.ref x) name args) Q E s := by
  simp only [callSpecialIfBound?, bindSpecialIfBound?]
  refine wpAny_holding (wpAny_bind (wpAny_bind (wpAny_bind (I.type.here ((looks_findIn X hs).here ?_)))))
  refine wpAny_bind (wpAny_askSetting (wpAny_ite ?_))
  have fin : wpAny M A (call (.builtin id) ([.ref x] ++ args) >>= fun v => pure (some v)) Q E s := wpAny_bind (wpAny_mono h (fun v s' h' => wpAny_pure h') fun _ _ h' => h')
  split
  · rw [hb]; exact wpAny_bind (wpAny_pure (wpAny_pure (by exact fin)))
  · rw [hb]; exact wpAny_tryCatch (wpAny_bind (wpAny_pure (wpAny_pure (by exact fin))))
theorem isObj_K {M : Model} {h : Heap} {K : Frag} {x C : Addr} {ox : Obj} {od : Option Obj} (X : K.In h) (I : InstAt h x ox C od) (hm : mroIn K C (.type "object") = some true) : Looks M h (isInstance (.ref x) (.type "object")) true :=
  I.type.andThen (looks_mroIn X hm)
/-- != where only __eq__ is the class's own -/
theorem neq_K {prog : Program} {w : World} {A : Around} {E : Value → Shared → Prop} {s : Shared} {K : Frag} {x C L f : Addr} {h₀ : Heap} {m : Str → Option Value} {ox : Obj} {od : Option Obj} {b tb : Value} {Q : Value → Shared → Prop} (hu : A.units + 1 < cLine) (F : Fr h₀ L s.heap m) (X₀ : K.In h₀) (I : InstAt s.heap x ox C od) (hb : Looks (model prog w) s.heap (typeOf b) tb) (hn : notFirst K C tb = true)
    (hs : findIn K (.ref C) "__ne__" = some (some (.builtin "object.__ne__"))) (he : findIn K (.ref C) "__eq__" = some (some (.ref f))) (hf : isFn K (.ref f) = true) (hm : mroIn K C (.type "object") = some true)
    (h : wpAny (model prog w) A.in1 (call (.ref f) [.ref x, b]) (fun v s' => ∃ c, v = .bool c ∧ Q (.bool (!c)) s') E s) : wpAny (model prog w) A (richCompare .NotEq (.ref x) b) Q E s := by
  have X := X₀.keeps F.keep
  have one : wpAny (model prog w) A (tryCompare (.ref x) "__ne__" b) (fun r s' => ∃ v, r = some v ∧ Q v s') E s := by
    unfold tryCompare
    refine wpAny_bind (ifBound_B X I hs ne_bind (wpAny_call (codeAny_call_builtin (by decide +kernel) PySem.F.cmpEntry_ne (check_slot PySem.F.cmpKind_ne PySem.F.cmpSplit_ne (isObj_K X I hm) (PySem.F.cmpArgs_ne _ _) ?_))))
    unfold Builtin.«object.__ne__»
    show wpAny (model prog w) A.in1 (slotArgs "__ne__" 1 ⟨[.ref x, b], []⟩ >>= _) _ _ s
    refine wpAny_bind (wpAny_pure (a := (Value.ref x, [b])) ?_)
    dsimp only
    refine wpAny_bind (wpAny_cRoomFor hu ?_)
    refine wpAny_bind (ifBound_K X I he hf (wpAny_mono h (fun v s' hv => ?_) fun _ _ e => e))
    obtain ⟨c, rfl, q⟩ := hv
    dsimp only
    refine wpAny_bind (wpAny_truthy_bool ?_)
    exact wpAny_pure (wpAny_pure ⟨_, rfl, q⟩)
  unfold richCompare
  simp only [oneThing_ref]
  refine wpAny_holding (wpAny_bind (wpAny_cRoomFor (Nat.lt_of_succ_lt hu) ?_))
  refine wpAny_bind (I.type.here (wpAny_bind (hb.here ?_)))
  split
  · rename_i q
    have e : subIn K tb (.ref C) = some false := by
      rcases Bool.or_eq_true_iff.mp hn with e | e
      · rw [beq_iff_eq.mp e] at q; simp at q
      · exact beq_iff_eq.mp e
    refine wpAny_bind ((looks_subIn X e).here ?_)
    simp only [Bool.false_eq_true, if_false]
    refine wpAny_bind (wpAny_mono one (fun r s' z => ?_) fun _ _ e => e)
    obtain ⟨v, rfl, hq⟩ := z
    exact wpAny_pure hq
  · refine wpAny_bind (wpAny_pure ?_)
    simp only [Bool.false_eq_true, if_false]
    refine wpAny_bind (wpAny_mono one (fun r s' z => ?_) fun _ _ e => e)
    obtain ⟨v, rfl, hq⟩ := z
    exact wpAny_pure hq
end PySem.W

/-! What a def promises, cold or while an exception is handled, with what is known of the texts under way. -/
namespace Ev
open PySem PySem.Spec PyProof.Rows L2

/-- the list or tuple whose text a code makes -/
def grd : Code → List Addr
  | .builtin _ ⟨.ref a :: _, _⟩ => [a]
  | _ => []
/-- texts under way: of lists that stand already; none of all, if tp -/
def GdOk (tp : Bool) (A : Around) (n : Nat) : Prop := ∃ gs, A.guards = some gs ∧ (tp = true → gs = []) ∧ ∀ c ∈ gs, ∀ a ∈ grd c, a < n
theorem GdOk.mono {tp : Bool} {A : Around} {n m : Nat} (h : GdOk tp A n) (l : n ≤ m) : GdOk tp A m := let ⟨gs, a, b, c⟩ := h; ⟨gs, a, b, fun d hd x hx => Nat.lt_of_lt_of_le (c d hd x hx) l⟩
theorem GdOk.less {tp tp' : Bool} {A : Around} {n : Nat} (h : GdOk tp A n) (l : tp' = true → tp = true) : GdOk tp' A n := let ⟨gs, a, b, c⟩ := h; ⟨gs, a, fun z => b (l z), c⟩
/-- nothing is handled; or one exception whose context is None -/
def HotA (hot : Bool) (A : Around) (outer : List Env) (H : Hp) (s : Shared) : Prop := match hot with
  | false => A.handled = none
  | true => ∃ p : Addr × Obj, L2H.Hot1 A p ∧ L2H.PinOk outer H s p
/-- a def's promise, however it is bound -/
structure FnG (P : Program) (w : World) (K : PySem.W.Frag) (mg : Str → Option Value) (base : Heap) (hot tp : Bool) (k : Nat) (f : Addr) (fd : FuncData) (ps : List Str) (sp : Sp) : Prop where
  len : ∀ vs H Q E, sp vs H Q E → vs.length = ps.length
  run : ∀ (A : Around) (outer : List Env) (s : Shared) (H : Hp) (args : Args) (us : List Value) (vs : List V) (Q : VK) (E : XK), L2H.RoomH k A → HotA hot A outer H s → GdOk tp A s.heap.objs.size → Env0 P w K mg base A outer s H → BindsTo s fd args (ps.zip us) → Vals vs us → sp vs H Q E →
    codeAny (model P w) A (.call (.ref f) args) (CR (L2N.CX P w) outer P w H s Q E) s
/-- by positional values -/
def FnP (P : Program) (w : World) (K : PySem.W.Frag) (mg : Str → Option Value) (base : Heap) (hot tp : Bool) (k : Nat) (f : Addr) (sp : Sp) : Prop :=
  ∀ (A : Around) (outer : List Env) (s : Shared) (H : Hp) (us : List Value) (vs : List V) (Q : VK) (E : XK), L2H.RoomH k A → HotA hot A outer H s → GdOk tp A s.heap.objs.size → Env0 P w K mg base A outer s H → Vals vs us → sp vs H Q E →
    codeAny (model P w) A (.call (.ref f) ⟨us, []⟩) (CR (L2N.CX P w) outer P w H s Q E) s
section
variable {P : Program} {w : World} {K : PySem.W.Frag} {mg : Str → Option Value} {base : Heap} {hot tp : Bool} {k : Nat} {f : Addr} {fd : FuncData} {ps : List Str} {sp : Sp}
theorem FnG.pos {ds : List Value} {dvs : List V} (F : FnG P w K mg base hot tp k f fd ps sp) (hb : Binds K fd ps ds) (hd : Vals dvs ds) : FnP P w K mg base hot tp k f (fun vs H Q E => sp (vs ++ dvs) H Q E) := by
  intro A outer s H us vs Q E hr hh hg e0 r h
  have r2 : Vals (vs ++ dvs) (us ++ ds) := r.append hd
  have hl : (us ++ ds).length = ps.length := r2.length.symm.trans (F.len _ _ _ _ h)
  exact F.run A outer s H ⟨us, []⟩ (us ++ ds) (vs ++ dvs) Q E hr hh hg e0 (hb s us (e0.mod.kin.keeps fun b o e => (e0.bs b o e).1) hl) r2 h
end
/-- the context of a body -/
def cxG (P : Program) (w : World) (K : PySem.W.Frag) (mg : Str → Option Value) (base : Heap) (N : List Str) (qual : Str) (scope : Scope) (f : Addr) (cd : Value) (A : Around) (outer : List Env) (s : Shared) (H : Hp) (E : XK) : Option (Addr × Obj) → Cx
  | none => cxOf (L2N.CX P w) P w K mg base N qual scope f cd A outer s H E
  | some p => L2H.cxH (L2N.CX P w) P w K mg base N qual scope f cd A outer s H E p
/-- what a body may lean on, beside its text -/
structure En (X : Cx) (W : Wd) (Wx : WX) (hot tp : Bool) (k : Nat) : Prop where
  hK : X.K = W.K
  tk : L2N.Takes X Wx
  rm : L2H.RoomH k X.A
  po : PassesOwn (model X.prog X.w) X.A X.env X.xe
  cold : hot = false → X.calm = true ∧ X.A.handled = none
  hotc : hot = true → L2H.HotC X
  gr : ∃ n L, GdOk tp X.A n ∧ L ∈ frs X.stack ∧ n ≤ L
def HotM (hot : Bool) (A : Around) (op : Option (Addr × Obj)) : Prop := match hot with
  | false => op = none ∧ A.handled = none
  | true => ∃ p, op = some p ∧ L2H.Hot1 A p
theorem deeper_guards (A : Around) (env : Env) : (A.deeper env).guards = A.guards := by first | rfl | simp [Around.deeper]
theorem GdOk.deeper {tp : Bool} {A : Around} {n : Nat} (h : GdOk tp A n) (env : Env) : GdOk tp (A.deeper env) n := let ⟨gs, a, b, c⟩ := h; ⟨gs, (deeper_guards A env).trans a, b, c⟩
section
variable {P : Program} {w : World} {K : PySem.W.Frag} {mg : Str → Option Value} {base : Heap} {hot tp : Bool} {k : Nat} {f : Addr} {name qual : Str} {params : Arguments} {body : List Stmt} {scope : Scope} {dvs : List V} {kws : List (Str × V)} {fd : FuncData} {N ps : List Str} {sp : Sp}
/-- a def by its body -/
theorem fn_ofG {W : Wd} (hW : W.K = K) (Fd : FunD K name qual params body scope dvs kws f fd) (S : FnScope N ps scope) (len : ∀ vs H Q E, sp vs H Q E → vs.length = ps.length)
    (hbody : ∀ (X : Cx) (A : Around) (outer : List Env) (s : Shared) (H : Hp) (vs : List V) (Q : VK) (E : XK), X.prog = P → X.w = w → X.K = K → X.mg = mg → X.base = base → X.N = N → X.env.scope = scope → (∀ x, X.fn x = true) → En X W (fun cls d _ H' => E cls d H') hot tp k → sp vs H Q E →
      ∃ t, PSs X body t ∧ t { nx := fun _ H' => Q .non H', rt := Q } (L2.start N vs) H) : FnG P w K mg base hot tp (k + 1) f fd ps sp := by
  obtain ⟨oc, od, dV, kV, doc, pm, an, cdv, ct, osl, rfl, lk, hcd, _, _⟩ := Fd.ex
  refine ⟨len, fun A outer s H args us vs Q E hr hh hg e0 hb r hsp => ?_⟩
  have KX : K.In s.heap := e0.mod.kin.keeps fun b o e => (e0.bs b o e).1
  have lim : s.heap.NoLimit := e0.mod.nolimit.keeps fun b o e => (e0.bs b o e).1
  have hkind : ∀ y ∈ ps.zip us, scope.names.lookup y.1 = some .local ∨ (scope.names.lookup y.1 = some .cell ∧ ((cellsFrom (s.heap.objs.size + 1) scope.names []).lookup y.1).isSome = true) := fun y hy =>
    (S.par y.1 (List.of_mem_zip (show (y.1, y.2) ∈ _ from hy)).1).elim (fun q => .inl q) fun q => .inr ⟨q, PySem.W.cellsFrom_some _ _ _ (.inl q)⟩
  have hl := len _ _ _ _ hsp
  obtain ⟨op, hop, hI⟩ : ∃ op : Option (Addr × Obj), HotM hot A op ∧ ∀ s1, InCallC s s.heap.objs.size (bindL (envOfC qual scope s.heap.objs.size f cdv).kindOf (ps.zip us) fun _ => none) (cellsFrom (s.heap.objs.size + 1) scope.names []) (bindC (envOfC qual scope s.heap.objs.size f cdv).kindOf (ps.zip us) fun _ => none) s1 →
      Inv (cxG P w K mg base N qual scope f cdv A outer s H E op) [] (L2.start N vs) H s1 := by
    cases hot with
    | false => exact ⟨none, ⟨rfl, hh⟩, fun s1 x => inv_start S hh e0 hl r x⟩
    | true => obtain ⟨p, h1, h2⟩ := hh; exact ⟨some p, ⟨p, rfl, h1⟩, fun s1 x => L2H.inv_startH S h2 e0 hl r x⟩
  have enX : ∀ op : Option (Addr × Obj), HotM hot A op → En (cxG P w K mg base N qual scope f cdv A outer s H E op) W (fun cls d _ H' => E cls d H') hot tp k := fun op hop => by
    have tkx : ∀ op, L2N.Takes (cxG P w K mg base N qual scope f cdv A outer s H E op) (fun cls d _ H' => E cls d H') := fun op => by cases op <;> exact L2N.takes_of rfl rfl rfl rfl
    have pox : ∀ op, PassesOwn (model P w) (A.deeper (envOfC qual scope s.heap.objs.size f cdv)) (envOfC qual scope s.heap.objs.size f cdv) (cxG P w K mg base N qual scope f cdv A outer s H E op).xe := fun op => by cases op <;> exact PassesOwn.leaving
    refine ⟨by cases op <;> exact hW.symm, tkx op, by cases op <;> exact hr.deeper _, by cases op <;> exact pox _, fun z => ?_, fun z => ?_, ⟨s.heap.objs.size, s.heap.objs.size, by cases op <;> exact hg.deeper _, by cases op <;> exact List.mem_cons_self, Nat.le_refl _⟩⟩
    · subst z
      obtain ⟨rfl, h⟩ := hop
      exact ⟨rfl, h⟩
    · subst z
      obtain ⟨p, rfl, h⟩ := hop
      exact ⟨p, h, List.mem_cons_self⟩
  refine codeAny_call_function hr.depth (KX _ _ lk) rfl S.co S.gen rfl (PySem.W.codeRec_of KX hcd) (hb _ _ _ _ ?_)
  refine wpAny_newFunctionEnv_cells S.kind hkind fun env he s1 x => ?_
  subst he
  refine ⟨lim.keeps x.toInCall.keep, codeAny_func ?_⟩
  obtain ⟨t, ht, hq⟩ := hbody (cxG P w K mg base N qual scope f cdv A outer s H E op) A outer s H vs Q E (by cases op <;> rfl) (by cases op <;> rfl) (by cases op <;> rfl) (by cases op <;> rfl) (by cases op <;> rfl) (by cases op <;> rfl) (by cases op <;> rfl) (by intro x; cases op <;> rfl) (enX op hop) hsp
  have fin : ∀ {fl : Flow} {s' : Shared}, SP (cxG P w K mg base N qual scope f cdv A outer s H E op) [] { nx := fun _ H' => Q .non H', rt := Q } fl s' → (match fl with | .ret u => CE outer P w H s Q u s' | .next => CE outer P w H s Q .none s' | _ => False) := fun {fl s'} hs => by
    cases op <;> (cases fl with
      | ret u => obtain ⟨v, σ', H', J, rv, q⟩ := hs; exact ⟨v, H', J.os, J.bare, J.base, J.hok, rv, q⟩
      | next => obtain ⟨σ', H', J, q⟩ := hs; exact ⟨.non, H', J.os, J.bare, J.base, J.hok, rfl, q⟩
      | brk => obtain ⟨_, _, _, q⟩ := hs; exact q
      | cont => obtain ⟨_, _, _, q⟩ := hs; exact q)
  have go := ht.run [] s1 (L2.start N vs) H _ (hI s1 x) hq
  cases op with
  | none => exact wpAny_mono go (fun fl s' hs => by have z := fin hs; cases fl <;> first | exact z | exact z.elim) fun e s' hs => hs
  | some p => exact wpAny_mono go (fun fl s' hs => by have z := fin hs; cases fl <;> first | exact z | exact z.elim) fun e s' hs => hs
end
end Ev

/-! Calls by positional promises; operators, comparisons, methods. -/
namespace Ev
open PySem PySem.Spec PyProof.Rows L2

/-- a callee's promise, by positional values; dvs: the defaults behind them -/
abbrev RawF (X : Cx) (W : Wd) (F : FT) (hot tp : Bool) (k n : Nat) (f : Addr) (dvs : List V) : Prop := FnP X.prog X.w X.K X.mg X.base hot tp k f (fun vs H Q E => spF W F n (vs ++ dvs) H Q E)
theorem roomH_in1 {k : Nat} {A : Around} (r : L2H.RoomH (k + 1) A) : L2H.RoomH k A.in1 :=
  ⟨by have := r.dp; show A.depth + 3 * k + 5 < _; omega, by have := r.un; show A.units + 1 + 16 * k + 200 < _; omega⟩
/-- a place from which a callee can be run -/
structure At (X : Cx) (hot tp : Bool) (k : Nat) (A : Around) (H : Hp) (s : Shared) : Prop where
  rm : L2H.RoomH k A
  hh : HotA hot A X.stack H s
  gr : GdOk tp A s.heap.objs.size
  e0 : Env0 X.prog X.w X.K X.mg X.base A X.stack s H
section
variable {X : Cx} {W : Wd} {Wx : WX} {F : FT} {hot tp tq : Bool} {k n : Nat} {f : Addr} {pins : List (Addr × Obj)} {σ : St} {H : Hp} {s : Shared}
theorem En.here {j : Nat} (en : En X W Wx hot tp k) (hj : j ≤ k) (ht : tq = true → tp = true) (I : Inv X pins σ H s) : At X hot tq j X.A H s := by
  obtain ⟨n, L, hn, hL, hl⟩ := en.gr
  have hLs : L < s.heap.objs.size := by
    obtain ⟨_, o, ho, _⟩ := I.stack.mem hL
    exact Heap.lt_size ho
  refine ⟨en.rm.mono hj, ?_, (hn.less ht).mono (Nat.le_trans hl (Nat.le_of_lt hLs)), I.env0⟩
  cases hot with
  | false => exact (en.cold rfl).2
  | true =>
    obtain ⟨p, h1, hp⟩ := en.hotc rfl
    have P1 := I.pin p (List.mem_append_left _ hp)
    exact ⟨p, h1, P1.1, P1.2.1, fun hm => (List.mem_cons.mp (I.stkSub p.1 hm)).elim P1.2.2.1 P1.2.2.2.1, P1.2.2.2.2⟩
theorem At.in1 {A : Around} (a : At X hot tp (k + 1) A H s) : At X hot tp k A.in1 H s := by
  refine ⟨roomH_in1 a.rm, ?_, a.gr, a.e0.in1⟩
  have h := a.hh
  cases hot with
  | false => exact h
  | true => obtain ⟨p, ⟨h1, h2⟩, h3⟩ := h; exact ⟨p, ⟨h1, h2⟩, h3⟩
theorem run_rawA {A : Around} {sp : Sp} {E : XK} {Q : VK} {us : List Value} {vs : List V} (R : FnP X.prog X.w X.K X.mg X.base hot tp k f sp) (a : At X hot tp k A H s)
    (hx : PassesAt (L2N.CX X.prog X.w) X σ E) (I : Inv X pins σ H s) (r : Vals vs us) (h : sp vs H Q E) : wpAny (model X.prog X.w) A (call (.ref f) us) (EP X pins σ Q) X.xe s := by
  refine wpAny_call (codeAny_mono (R A X.stack s H us vs Q E a.rm a.hh a.gr a.e0 r h) fun r s' hq => ?_)
  cases r with
  | error e => exact hx pins H s e s' I hq
  | ok fl =>
    cases fl with
    | ret u => exact I.after hq
    | next => exact False.elim hq
    | brk => exact False.elim hq
    | cont => exact False.elim hq
end
section
variable {X : Cx} {W : Wd} {Wx : WX} {F : FT} {hot tp tq : Bool} {k n : Nat} {f : Addr}
/-! ### f(e, ..) -/
theorem re_call {x : Str} {a : AD} {e : Expr} {es : List Expr} {p pos : Pos} {ds : List EV} {dvs : List V} (en : En X W Wx hot tp (k + 3)) (R : RawF X W F hot tq k n f dvs) (hq : tq = true → tp = true) (hd : ∀ g H, VRs W g H ds dvs) (hg : Gl X x) (hm : X.mg x = some (.ref f)) (hk : PySem.W.keepIn X.K (.ref f) = true)
    (ha : PA X (e :: es) (denA W Wx F a)) (hdb : (x == ("__debug__" : Str)) = false := by decide) (he : starEach (e :: es) X.env = (false, eval e X.env) :: starEach es X.env := by rfl) (hpl : (backTo pos (starEach es X.env)).any (·.1) = false := by rfl) :
    PE X (.Call (.Name x p) (e :: es) [] pos) (den W Wx F (dCallD n ds a)) := by
  refine ⟨fun pins s σ H Q I h => ?_⟩
  have h' := den_call hd h
  refine wpAny_Call_Name_kw (ld_glob I hg hm ?_ hdb)
  refine PySem.W.callWith_K (h₀ := X.base) I.ok.mod.kin hk (thn (ha.run pos pins s σ H _ I h') fun us s1 ⟨vs, H1, I1, r, q⟩ => ⟨I1.kIn, ?_⟩) he hpl
  exact run_rawA R (en.here (by omega) hq I1) (passAtN en.tk σ) I1 r q
theorem re_call0 {x : Str} {p pos : Pos} (en : En X W Wx hot tp (k + 3)) (R : RawF X W F hot tq k n f []) (hq : tq = true → tp = true) (hg : Gl X x) (hm : X.mg x = some (.ref f)) (hk : PySem.W.keepIn X.K (.ref f) = true) (hdb : (x == ("__debug__" : Str)) = false := by decide) :
    PE X (.Call (.Name x p) [] [] pos) (den W Wx F (dCallD n [] (dArgs []))) := by
  refine ⟨fun pins s σ H Q I h => ?_⟩
  obtain ⟨g0, own, g, fr, kk, kx, S, cx, ck, h⟩ := h
  refine wpAny_Call_Name_kw (ld_glob I hg hm ?_ hdb)
  refine PySem.W.callWith_K0 I.kIn hk ?_
  exact run_rawA (vs := []) (us := []) R (en.here (by omega) hq I) (passAtN en.tk σ) I .nil (den_callF (k := kk) (kx := kx) S cx .nil h fun x' g' H' r u S' T R q => ck own x' g' fr H' r u S' T R q)
/-! ### operators, with classes' own -/
def rightOk (c : Nat) : EV → Bool
  | .ins c' _ => Nat.beq c' c
  | .int _ => true
  | _ => false
def evO (o : EV → EV → Option RV) (tb : List (Nat × Nat)) (post : RV → Option RV) (F : FT) (x y : EV) (fr : Frm) (k : RV → Frm → Bool) (kx : KX) : Bool := match x with
  | .ins c _ => (match tabE tb c with
    | some n => (match rightOk c y with
      | true => F n [x, y] (fun r => match post r with
        | some v => k v fr
        | none => false) (fun z => kx z fr)
      | false => false)
    | none => false)
  | _ => (match o x y with
    | some v => k v fr
    | none => false)
def dBinO (o : EV → EV → Option RV) (tb : List (Nat × Nat)) (post : RV → Option RV) (a b : ED) : ED := fun F fr k kx => a F fr (fun r fr1 => b F fr1 (fun s fr2 => evO o tb post F r.ev s.ev fr2 k kx) kx) kx
def OpOk (X : Cx) (W : Wd) (Wx : WX) (F : FT) (f : Value → Value → Sem Value) (o : EV → EV → Option RV) (tb : List (Nat × Nat)) (post : RV → Option RV) : Prop :=
  ∀ (pins : List (Addr × Obj)) (s : Shared) (σ : St) (H : Hp) (x y : EV) (u w : V) (vu vw : Value) (g0 : Hp) (own : Nat → Option Addr) (g : Gs) (fr : Frm) (k : RV → Frm → Bool) (kx : KX) (Q : VK),
    Inv X pins σ H s → RelV u vu → RelV w vw → Sim W g0 own none g fr σ H → CoX W Wx g0 σ g H kx → VR W g H x u → VR W g H y w →
    (∀ x' g' H' r z, Sim W g0 own x' g' fr σ H' → Tr g H g' H' → RR W g' x' H' r z → k r fr = true → Q z H') → evO o tb post F x y fr k kx = true →
    wpAny (model X.prog X.w) X.A (f vu vw) (EP X pins σ Q) X.xe s
/-- what the text must have for an own operator -/
structure OpF (W : Wd) (nm : String) (c : Nat) (f : Addr) : Prop where
  hs : PySem.W.findIn W.K (.ref (W.cls c)) (PySem.dunder nm) = some (some (.ref f))
  fn : PySem.W.isFn W.K (.ref f) = true
  sf : PySem.W.selfFirst W.K (W.cls c) = true
  rc : ∃ rc, PySem.W.findIn W.K (.ref (W.cls c)) (dunderR nm) = some rc ∧ (rc = none ∨ ∃ g : Addr, rc = some (.ref g))
  fo : ∃ fo, PySem.W.findIn W.K (.type "int") (PySem.dunder nm) = some fo
  ro : ∃ ro, PySem.W.findIn W.K (.type "int") (dunderR nm) = some ro
  sb : PySem.W.subIn W.K (.type "int") (.ref (W.cls c)) = some false
/-- for an own __eq__ -/
structure EqF (W : Wd) (c : Nat) (f : Addr) : Prop where
  hs : PySem.W.findIn W.K (.ref (W.cls c)) "__eq__" = some (some (.ref f))
  ne : PySem.W.findIn W.K (.ref (W.cls c)) "__ne__" = some (some (.builtin "object.__ne__"))
  fn : PySem.W.isFn W.K (.ref f) = true
  sb : PySem.W.notFirst W.K (W.cls c) (.type "int") = true
theorem inst_of {pins : List (Addr × Obj)} {σ : St} {H : Hp} {s : Shared} {p C dx : Addr} {l : List (Str × V)} (I : Inv X pins σ H s) (e : H p = some (.ins C dx l)) : ∃ ox od, PySem.W.InstAt s.heap p ox C od := by
  obtain ⟨mA, O, _⟩ := ins_get I.hok e
  obtain ⟨od, J, _⟩ := O.look
  exact ⟨_, _, J⟩
/-- the right operand's type -/
theorem right_ty {c : Nat} {fs : List EV} {y : EV} {w : V} {vw : Value} {pins : List (Addr × Obj)} {σ : St} {g : Gs} {H : Hp} {s : Shared} (I : Inv X pins σ H s) (ry : VR W g H y w) (rw' : RelV w vw) (h : rightOk c y = true) :
    (PySem.W.Looks (model X.prog X.w) s.heap (typeOf vw) (.ref (W.cls c))) ∨ ∃ i t, vw = .int i t := by
  cases y with
  | ins c' fs' =>
    obtain ⟨p, dx, vs, rfl, ho, _⟩ := ry.insH
    have e : c' = c := Nat.eq_of_beq_eq_true h
    subst e
    cases rw'
    obtain ⟨ox, od, J⟩ := inst_of I ho
    exact .inl J.type
  | int i =>
    cases ry
    obtain ⟨t, rfl⟩ := rw'
    exact .inr ⟨i, t, rfl⟩
  | _ => cases h
theorem opOk_bin {op : Operator} {o : EV → EV → Option RV} {r : R2} {tb : List (Nat × Nat)} (ho : OpR X (binaryOp op) r) (ok : BinOk W r o) (en : En X W Wx hot tp (k + 3))
    (ht : ∀ q ∈ tb, ∃ f, OpF W op.info.2 q.1 f ∧ RawF X W F hot false k q.2 f []) : OpOk X W Wx F (binaryOp op) o tb some := by
  intro pins s σ H x y u w vu vw g0 own g fr kk kx Q I ru rw' S cx rx ry ck h
  have prim : (match o x y with | some v => kk v fr | none => false) = true → wpAny (model X.prog X.w) X.A (binaryOp op vu vw) (EP X pins σ Q) X.xe s := fun h => by
    cases q : o x y with
    | none => rw [q] at h; cases h
    | some v => rw [q] at h; exact ho pins s σ H u w vu vw Q I ru rw' (ok g0 own g fr σ H x y u w v Q S rx ry q fun x' g' H' z S' T R => ck x' g' H' v z S' T R h)
  cases x with
  | ins c fs =>
    simp only [evO] at h
    cases q : tabE tb c with
    | none => simp only [q] at h; cases h
    | some n' =>
      simp only [q] at h
      cases q2 : rightOk c y with
      | false => simp only [q2] at h; cases h
      | true =>
        simp only [q2] at h
        obtain ⟨f', O, R⟩ := ht _ (tabE_mem q)
        obtain ⟨p, dx, vs, rfl, hi, nS, rs, hl⟩ := rx.insH
        cases ru
        obtain ⟨ox, od, J⟩ := inst_of I hi
        obtain ⟨m, Fm⟩ := I.fr
        have call : wpAny (model X.prog X.w) X.A (call (.ref f') [.ref p, vw]) (PySem.W.CmpBack (EP X pins σ Q)) X.xe s := by
          refine wpAny_mono (run_rawA (vs := [.ref p, w]) R (en.here (by omega) (fun z => by cases z) I) (passAtN en.tk σ) I (.cons rfl (.cons rw' .nil)) (den_callF (k := fun r f => kk r f) (kx := kx) S cx (.cons rx (.cons ry .nil)) h fun x' g' H' r z S' T R q => ck x' g' H' r z S' T R q)) (fun v s' hv => ?_) fun _ _ z => z
          obtain ⟨z, H', I', rz, q⟩ := hv
          have back : EP X pins σ Q v s' := ⟨z, H', I', rz, q⟩
          cases v with
          | notImplemented => have e := L2.RelV.abs rz; cases e
          | _ => exact back
        rcases right_ty (c := c) (fs := fs) I ry rw' q2 with hy | ⟨i, t, rfl⟩
        · exact PySem.W.binop_K Fm I.ok.mod.kin J hy (by rw [en.hK]; exact O.sf) (by rw [en.hK]; exact O.hs) (by rw [en.hK]; exact O.fn) call
        · obtain ⟨rc, h1, h2⟩ := O.rc
          obtain ⟨fo, h3⟩ := O.fo
          obtain ⟨ro, h4⟩ := O.ro
          exact PySem.W.ksp_binT (T := "int") Fm I.ok.mod.kin J rfl (by rw [en.hK]; exact O.sf) (by rw [en.hK]; exact O.hs) (by rw [en.hK]; exact O.fn) (by rw [en.hK]; exact h1) h2 (by rw [en.hK]; exact h3) (by rw [en.hK]; exact h4) (by rw [en.hK]; exact O.sb) call
  | non => exact prim h
  | bl _ => exact prim h
  | int _ => exact prim h
  | str _ => exact prim h
  | tup _ => exact prim h
  | lst _ => exact prim h
  | pot => exact prim h
  | scr _ => exact prim h
/-- only bools -/
def boolP : RV → Option RV
  | .v (.bl b) => some (.v (.bl b))
  | _ => none
def notP : RV → Option RV
  | .v (.bl b) => some (.v (.bl (!b)))
  | _ => none
theorem opOk_eq {o : EV → EV → Option RV} {r : R2} {tb : List (Nat × Nat)} (ho : OpR X (compareOp .Eq) r) (ok : BinOk W r o) (en : En X W Wx hot tp (k + 3))
    (ht : ∀ q ∈ tb, ∃ f, EqF W q.1 f ∧ RawF X W F hot false k q.2 f []) : OpOk X W Wx F (compareOp .Eq) o tb boolP := by
  intro pins s σ H x y u w vu vw g0 own g fr kk kx Q I ru rw' S cx rx ry ck h
  have prim : (match o x y with | some v => kk v fr | none => false) = true → wpAny (model X.prog X.w) X.A (compareOp .Eq vu vw) (EP X pins σ Q) X.xe s := fun h => by
    cases q : o x y with
    | none => rw [q] at h; cases h
    | some v => rw [q] at h; exact ho pins s σ H u w vu vw Q I ru rw' (ok g0 own g fr σ H x y u w v Q S rx ry q fun x' g' H' z S' T R => ck x' g' H' v z S' T R h)
  cases x with
  | ins c fs =>
    simp only [evO] at h
    cases q : tabE tb c with
    | none => simp only [q] at h; cases h
    | some n' =>
      simp only [q] at h
      cases q2 : rightOk c y with
      | false => simp only [q2] at h; cases h
      | true =>
        simp only [q2] at h
        obtain ⟨f', O, R⟩ := ht _ (tabE_mem q)
        obtain ⟨p, dx, vs, rfl, hi, nS, rs, hl⟩ := rx.insH
        cases ru
        obtain ⟨ox, od, J⟩ := inst_of I hi
        obtain ⟨m, Fm⟩ := I.fr
        have call : wpAny (model X.prog X.w) X.A (call (.ref f') [.ref p, vw]) (PySem.W.CmpBack (EP X pins σ Q)) X.xe s := by
          refine wpAny_mono (run_rawA (vs := [.ref p, w]) (Q := Q) R (en.here (by omega) (fun z => by cases z) I) (passAtN en.tk σ) I (.cons rfl (.cons rw' .nil)) (den_callF (k := fun r f => match boolP r with | some v => kk v f | none => false) (kx := kx) S cx (.cons rx (.cons ry .nil)) h fun x' g' H' r z S' T R q => ?_)) (fun v s' hv => ?_) fun _ _ z => z
          · unfold boolP at q
            split at q
            · rename_i q0
              split at q0
              · cases q0; exact ck x' g' H' _ z S' T R q
              · cases q0
            · cases q
          obtain ⟨z, H', I', rz, q⟩ := hv
          have back : EP X pins σ Q v s' := ⟨z, H', I', rz, q⟩
          cases v with
          | notImplemented => have e := L2.RelV.abs rz; cases e
          | _ => exact back
        have hu : X.A.units < cLine := by have := en.rm.un; omega
        have nf : PySem.W.notFirst X.K (W.cls c) (.ref (W.cls c)) = true := by unfold PySem.W.notFirst; simp
        rcases right_ty (c := c) (fs := fs) I ry rw' q2 with hy | ⟨i, t, rfl⟩
        · exact PySem.W.cmp_ofEq (PySem.W.cmp_K hu Fm I.ok.mod.kin J hy nf (by rw [en.hK]; exact O.hs) (by rw [en.hK]; exact O.fn) call)
        · exact PySem.W.cmp_ofEq (PySem.W.cmp_K hu Fm I.ok.mod.kin J (tb := .type "int") (PySem.W.Looks.of_pure rfl) (by rw [en.hK]; exact O.sb) (by rw [en.hK]; exact O.hs) (by rw [en.hK]; exact O.fn) call)
  | non => exact prim h
  | bl _ => exact prim h
  | int _ => exact prim h
  | str _ => exact prim h
  | tup _ => exact prim h
  | lst _ => exact prim h
  | pot => exact prim h
  | scr _ => exact prim h
theorem opOk_ne {o : EV → EV → Option RV} {r : R2} {tb : List (Nat × Nat)} (ho : OpR X (compareOp .NotEq) r) (ok : BinOk W r o) (en : En X W Wx hot tp (k + 3))
    (ht : ∀ q ∈ tb, ∃ f, EqF W q.1 f ∧ ClF W q.1 ∧ RawF X W F hot false k q.2 f []) : OpOk X W Wx F (compareOp .NotEq) o tb notP := by
  intro pins s σ H x y u w vu vw g0 own g fr kk kx Q I ru rw' S cx rx ry ck h
  have prim : (match o x y with | some v => kk v fr | none => false) = true → wpAny (model X.prog X.w) X.A (compareOp .NotEq vu vw) (EP X pins σ Q) X.xe s := fun h => by
    cases q : o x y with
    | none => rw [q] at h; cases h
    | some v => rw [q] at h; exact ho pins s σ H u w vu vw Q I ru rw' (ok g0 own g fr σ H x y u w v Q S rx ry q fun x' g' H' z S' T R => ck x' g' H' v z S' T R h)
  cases x with
  | ins c fs =>
    simp only [evO] at h
    cases q : tabE tb c with
    | none => simp only [q] at h; cases h
    | some n' =>
      simp only [q] at h
      cases q2 : rightOk c y with
      | false => simp only [q2] at h; cases h
      | true =>
        simp only [q2] at h
        obtain ⟨f', O, cf, R⟩ := ht _ (tabE_mem q)
        obtain ⟨p, dx, vs, rfl, hi, nS, rs, hl⟩ := rx.insH
        cases ru
        obtain ⟨ox, od, J⟩ := inst_of I hi
        obtain ⟨m, Fm⟩ := I.fr
        have call : wpAny (model X.prog X.w) X.A.in1 (call (.ref f') [.ref p, vw]) (fun v s' => ∃ c, v = .bool c ∧ EP X pins σ Q (.bool (!c)) s') X.xe s := by
          refine wpAny_mono (run_rawA (vs := [.ref p, w]) (Q := fun z H' => ∃ c, z = .bl c ∧ Q (.bl (!c)) H') R (At.in1 (en.here (by omega) (fun z => by cases z) I)) (passAtN en.tk σ) I (.cons rfl (.cons rw' .nil)) (den_callF (k := fun r f => match notP r with | some v => kk v f | none => false) (kx := kx) S cx (.cons rx (.cons ry .nil)) h fun x' g' H' r z S' T R q => ?_)) (fun v s' hv => ?_) fun _ _ z => z
          · unfold notP at q
            split at q
            · rename_i q0
              split at q0
              · rename_i b
                cases q0
                obtain ⟨rx0, rb⟩ := R
                cases rb
                exact ⟨b, rfl, ck x' g' H' (.v (.bl (!b))) _ S' T ⟨rx0, .bl _⟩ q⟩
              · cases q0
            · cases q
          obtain ⟨z, H', I', rz, b, rfl, q⟩ := hv
          cases rz
          exact ⟨b, rfl, .bl (!b), H', I', rfl, q⟩
        have hu : X.A.units + 1 < cLine := by have := en.rm.un; omega
        have nf : PySem.W.notFirst X.K (W.cls c) (.ref (W.cls c)) = true := by unfold PySem.W.notFirst; simp
        rcases right_ty (c := c) (fs := fs) I ry rw' q2 with hy | ⟨i, t, rfl⟩
        · exact PySem.W.cmp_ofNotEq (PySem.W.neq_K hu Fm I.ok.mod.kin J hy nf (by rw [en.hK]; exact O.ne) (by rw [en.hK]; exact O.hs) (by rw [en.hK]; exact O.fn) (by rw [en.hK]; exact cf.hm) call)
        · exact PySem.W.cmp_ofNotEq (PySem.W.neq_K hu Fm I.ok.mod.kin J (tb := .type "int") (PySem.W.Looks.of_pure rfl) (by rw [en.hK]; exact O.sb) (by rw [en.hK]; exact O.ne) (by rw [en.hK]; exact O.hs) (by rw [en.hK]; exact O.fn) (by rw [en.hK]; exact cf.hm) call)
  | non => exact prim h
  | bl _ => exact prim h
  | int _ => exact prim h
  | str _ => exact prim h
  | tup _ => exact prim h
  | lst _ => exact prim h
  | pot => exact prim h
  | scr _ => exact prim h
theorem run_O {f : Value → Value → Sem Value} {o : EV → EV → Option RV} {tb : List (Nat × Nat)} {post : RV → Option RV} {a b : Expr} {da db : ED} (hf : OpOk X W Wx F f o tb post) (ha : PE X a (den W Wx F da)) (hb : PE X b (den W Wx F db)) {pins : List (Addr × Obj)} {s : Shared} {σ : St} {H : Hp} {Q : VK} (I : Inv X pins σ H s)
    (h : den W Wx F (dBinO o tb post da db) σ H Q) : wpAny (model X.prog X.w) X.A (eval a X.env) (fun v s₁ => wpAny (model X.prog X.w) X.A (eval b X.env) (fun u s₂ => wpAny (model X.prog X.w) X.A (f v u) (EP X pins σ Q) X.xe s₂) X.xe s₁) X.xe s := by
  obtain ⟨g0, own, g, fr, kk, kx, S, cx, ck, h⟩ := h
  refine binT ha hb (R := fun u w H2 => ∃ own2 g2 fr2 x y, Sim W g0 own2 none g2 fr2 σ H2 ∧ Tr g H g2 H2 ∧ VR W g2 H2 x u ∧ VR W g2 H2 y w ∧ evO o tb post F x y fr2 kk kx = true) I ?_ fun v u s2 x y H2 I2 rx ry ⟨own2, g2, fr2, x', y', S2, t2, r1, r2, q⟩ => ?_
  · refine den_then (kk := fun x fr1 => db F fr1 (fun s fr2 => evO o tb post F x s.ev fr2 kk kx) kx) S cx h fun own1 g1 fr1 H1 x u S1 t1 r1 h1 => ?_
    refine den_then (kk := fun y fr2 => evO o tb post F x y fr2 kk kx) S1 (cx.mono t1) h1 fun own2 g2 fr2 H2 y w S2 t2 r2 h2 => ?_
    exact ⟨own2, g2, fr2, x, y, S2, t1.trans t2, r1.mono t2, r2, h2⟩
  · exact hf pins s2 σ H2 x' y' x y v u g0 own2 g2 fr2 kk kx Q I2 rx ry S2 (cx.mono t2) r1 r2 (fun x'' g' H' r z S' T R q => ck own2 x'' g' fr2 H' r z S' (t2.trans T) R q) q
theorem re_binO {op : Operator} {o : EV → EV → Option RV} {tb : List (Nat × Nat)} {post : RV → Option RV} {a b : Expr} {da db : ED} {pos : Pos} (hf : OpOk X W Wx F (binaryOp op) o tb post) (ha : PE X a (den W Wx F da)) (hb : PE X b (den W Wx F db)) : PE X (.BinOp a op b pos) (den W Wx F (dBinO o tb post da db)) :=
  ⟨fun pins s σ H Q I h => wpAny_BinOp (run_O hf ha hb I h)⟩
theorem re_cmpO {op : CmpOp} {o : EV → EV → Option RV} {tb : List (Nat × Nat)} {post : RV → Option RV} {a b : Expr} {da db : ED} {pos : Pos} (hf : OpOk X W Wx F (compareOp op) o tb post) (ha : PE X a (den W Wx F da)) (hb : PE X b (den W Wx F db)) (hm : behindInMarks op b = false) : PE X (.Compare a [op] [b] pos) (den W Wx F (dBinO o tb post da db)) :=
  ⟨fun pins s σ H Q I h => wpAny_Compare1 (run_O hf ha hb I h) hm⟩
theorem rt_cmpO {op : CmpOp} {o : EV → EV → Option RV} {tb : List (Nat × Nat)} {post : RV → Option RV} {a b : Expr} {da db : ED} {pos : Pos} (hf : OpOk X W Wx F (compareOp op) o tb post) (ha : PE X a (den W Wx F da)) (hb : PE X b (den W Wx F db)) (hm : behindInMarks op b = false) : PT X (.Compare a [op] [b] pos) (denT W Wx F (dTb (dBinO o tb post da db))) := by
  refine ⟨fun pins s σ H Q I h => ?_⟩
  have h' := rt_b (t := fun _ _ _ => True) h
  refine wpAny_isTrue_Compare1 (thn (run_O hf ha hb I h') fun v s1 h1 => thn h1 fun u s2 h2 => thn h2 fun c s3 ⟨z, H3, I3, r3, k, e, q3⟩ => ?_) hm
  subst e
  cases r3
  exact wpAny_truthy_bool ⟨H3, I3, q3⟩
/-- comparisons and operators of built-in values alone -/
theorem opOk_of {f : Value → Value → Sem Value} {o : EV → EV → Option RV} {r : R2} (ho : OpR X f r) (ok : BinOk W r o) : OpOk X W Wx F f o [] some := by
  intro pins s σ H x y u w vu vw g0 own g fr kk kx Q I ru rw' S cx rx ry ck h
  have h' : (match o x y with | some v => kk v fr | none => false) = true ∨ False := by
    cases x with
    | ins c fs => simp only [evO, tabE] at h; cases h
    | _ => exact .inl h
  rcases h' with h | h
  · cases q : o x y with
    | none => rw [q] at h; cases h
    | some v => rw [q] at h; exact ho pins s σ H u w vu vw Q I ru rw' (ok g0 own g fr σ H x y u w v Q S rx ry q fun x' g' H' z S' T R => ck x' g' H' v z S' T R h)
  · exact h.elim
end
end Ev

/-! Methods, instances made, isinstance, calls with keywords; a def's promise from its body's reading. -/
namespace Ev
open PySem PySem.Spec PyProof.Rows L2

/-! ### a def's promise from its body's reading -/
def ksF (k : RV → Bool) (kx : XV → Bool) : KS := ⟨fun _ => k (.v .non), fun r _ => k r, fun _ => false, fun _ => false, fun z _ => kx z⟩
/-- what __init__ comes to: the instance, when all fields are there -/
def ksI (c nf : Nat) (k : RV → Bool) (kx : XV → Bool) : KS := ⟨fun fr => match getS fr 0 with
  | .self c' fs => (match Nat.beq c' c && Nat.beq fs.length nf with
    | true => k (.v (.ins c fs))
    | false => false)
  | _ => false, fun _ _ => false, fun _ => false, fun _ => false, fun z _ => kx z⟩
section
variable {W : Wd} {Wx : WX} {F : FT} {g0 : Hp} {g : Gs} {H : Hp} {k : RV → Bool} {kx : XV → Bool} {Q : VK} {E : XK}
theorem Co.body (c1 : ∀ x g' H' r u, Sim W g0 own0 x g' [] [] H' → Tr g H g' H' → RR W g' x H' r u → k r = true → Q u H')
    (c2 : ∀ g' H' z cls d, Sim W g0 own0 none g' [] [] H' → Tr g H g' H' → XR W g' H' z cls d → kx z = true → E cls d H') :
    Co W (fun cls d _ H' => E cls d H') g0 g H (ksF k kx) { nx := fun _ H' => Q .non H', rt := Q } := by
  refine ⟨fun own' g' fr' σ' H' S T q => ?_, fun own' x g' fr' σ' H' r u S T R q => ?_, fun own' g' fr' σ' H' S T q => (by cases q), fun own' g' fr' σ' H' S T q => (by cases q), fun own' g' fr' σ' H' z cls d S T R q => ?_⟩
  · obtain ⟨g1, S1, t⟩ := S.leave
    exact c1 none g1 H' (.v .non) .non S1 (T.trans t) ⟨rfl, .non⟩ q
  · obtain ⟨g1, S1, t⟩ := S.leave
    exact c1 x g1 H' r u S1 (T.trans t) (R.mono t) q
  · obtain ⟨g1, S1, t⟩ := S.leave
    exact c2 g1 H' z cls d S1 (T.trans t) (R.mono t) q
end
/-- an __init__'s promise: the instance is new, at hand -/
def spI (W : Wd) (F : FT) (n c : Nat) : Sp := fun vs H Q E => ∃ p us dx g0 g es k kx, vs = V.ref p :: us ∧ Sim W g0 own0 (some p) g [] [] H ∧ H p = some (.ins (W.cls c) dx []) ∧ VRs W g H es us ∧
  (∀ g' H' e, Sim W g0 own0 none g' [] [] H' → Tr g H g' H' → VR W g' H' e (.ref p) → k (.v e) = true → Q .non H') ∧
  (∀ g' H' z cls d, Sim W g0 own0 none g' [] [] H' → Tr g H g' H' → XR W g' H' z cls d → kx z = true → E cls d H') ∧ F n es k kx = true
/-- the frame of an __init__ -/
def own1 (p : Addr) : Nat → Option Addr := fun i => if i = 0 then some p else none
theorem Tr.me' {g g1 : Gs} {H H1 : Hp} {m m' : Option Addr} (h : Tr { g with me := m } H { g1 with me := m } H1) : Tr { g with me := m' } H { g1 with me := m' } H1 := ⟨h.keep, h.pots, rfl⟩
section
variable {W : Wd} {g0 : Hp} {own : Nat → Option Addr} {x : Option Addr} {g g1 : Gs} {fr : Frm} {σ : St} {H H1 : Hp} {p dx : Addr}
mutual
theorem VR.me (m : Option Addr) : ∀ {e : EV} {v : V}, VR W g H e v → VR W { g with me := m } H e v
  | _, _, .non => .non
  | _, _, .bl b => .bl b
  | _, _, .int i => .int i
  | _, _, .str x => .str x
  | _, _, .tup h n r => .tup h n (VRs.me m r)
  | _, _, .tupK h r => .tupK h (VRs.me m r)
  | _, _, .lst h n r => .lst h n (VRs.me m r)
  | _, _, .ins h n r z => .ins h n (VRs.me m r) z
  | _, _, .pot h => .pot h
  | _, _, .scr h r => .scr h (VRs.me m r)
theorem VRs.me (m : Option Addr) : ∀ {es : List EV} {vs : List V}, VRs W g H es vs → VRs W { g with me := m } H es vs
  | _, _, .nil => .nil
  | _, _, .cons h r => .cons (VR.me m h) (VRs.me m r)
end
theorem Sim.me0 (m : Option Addr) (S : Sim W g0 own0 x g [] [] H) : Sim W g0 own0 x { g with me := m } [] [] H :=
  ⟨S.s_iff, S.g0k, S.np, S.no, S.nx, S.inj, S.pot, S.len, fun i s h => by simp at h, S.out⟩
theorem XR.me (m : Option Addr) {z : XV} {cls : Value} {d : Option Addr} (h : XR W g H z cls d) : XR W { g with me := m } H z cls d := by
  obtain ⟨h1, h2⟩ := h
  refine ⟨h1, ?_⟩
  rcases h2 with h2 | ⟨dx, vs, h2, h3, h4, h5, h6⟩
  · exact .inl h2
  · exact .inr ⟨dx, vs, h2, h3, h4, h5.me m, h6⟩
theorem Sim.enterI {N : List Str} {c : Nat} {es : List EV} {us : List V} (S : Sim W g0 own0 (some p) g [] [] H) (h : H p = some (.ins (W.cls c) dx [])) (r : VRs W g H es us) (hl : es.length + 1 ≤ N.length) :
    Sim W g0 (own1 p) none { g with me := some p } (.self c [] :: frE es (N.length - 1)) (L2.start N (.ref p :: us)) H := by
  have hl2 := r.length
  have hN : L2.start N (.ref p :: us) = some (.ref p) :: (us.map some ++ List.replicate (N.length - 1 - us.length) none) := by
    unfold L2.start
    rw [List.map_cons, List.cons_append, List.length_cons]
    congr 3
    omega
  have o0 : own1 p 0 = some p := if_pos rfl
  have os : ∀ i, own1 p (i + 1) = none := fun i => if_neg (by omega)
  have oi : ∀ i q, own1 p i = some q → i = 0 ∧ q = p := fun i q e => by
    cases i with
    | zero => rw [o0] at e; exact ⟨rfl, (Option.some.inj e).symm⟩
    | succ i => rw [os] at e; cases e
  have nx := S.nx p rfl
  have npp : ¬ g.P p := fun z => (S.np p z).2.2 rfl
  refine ⟨fun q => ?_, S.g0k, fun q z => ⟨(S.np q z).1, fun i e => npp (by rw [← (oi i q e).2]; exact z), by simp⟩, fun i q e => ⟨by rw [(oi i q e).2]; exact nx.1, by simp⟩, fun q z => by simp at z, fun i j q a b => by rw [(oi i q a).1, (oi j q b).1], S.pot, ?_, fun i s e => ?_, fun i l => ?_⟩
  · show g.S q ↔ _
    rw [S.s_iff q]
    constructor
    · rintro (z | ⟨i, z⟩ | z | z)
      · exact .inl z
      · simp at z
      · exact .inr (.inl ⟨0, by rw [o0]; exact z⟩)
      · exact .inr (.inr (.inr z))
    · rintro (z | ⟨i, z⟩ | z | z)
      · exact .inl z
      · exact .inr (.inr (.inl (by rw [(oi i q z).2])))
      · simp at z
      · exact .inr (.inr (.inr z))
  · rw [hN, List.length_cons, List.length_cons, frE_eq _ _ (by omega)]; simp; omega
  · rw [hN]
    cases i with
    | zero =>
      have e' : Slot.self c [] = s := Option.some.inj (by simpa using e)
      subst e'
      exact ⟨p, dx, [], o0, rfl, rfl, by simpa using h, .nil, Nat.zero_le _⟩
    | succ i =>
      have e' : (frE es (N.length - 1))[i]? = some s := by simpa using e
      rw [frE_eq _ _ (by omega)] at e'
      by_cases l : i < es.length
      · rw [List.getElem?_append_left (by simpa using l), List.getElem?_map] at e'
        cases q : es[i]? with
        | none => rw [q] at e'; cases e'
        | some a =>
          rw [q] at e'
          cases e'
          obtain ⟨v, h1, h2⟩ := r.get q
          refine ⟨os i, v, ?_, h2.me _⟩
          rw [List.getElem?_cons_succ, List.getElem?_append_left (by simp; omega), List.getElem?_map, h1]
          rfl
      · rw [List.getElem?_append_right (by simpa using l), List.getElem?_replicate] at e'
        split at e'
        · cases e'; exact os i
        · cases e'
  · cases i with
    | zero => simp at l
    | succ i => exact os i
end
/-- the table's entries: how F comes from a body's reading -/
def IsFn (F : FT) (F' : FT) (n np nN : Nat) (D : SD) : Prop := ∀ es k kx, F n es k kx = true → es.length = np ∧ D F' (frE es nN) (ksF k kx) = true
def IsIn (F : FT) (F' : FT) (n c nf np nN : Nat) (D : SD) : Prop := ∀ es k kx, F n es k kx = true → es.length = np ∧ D F' (.self c [] :: frE es nN) (ksI c nf k kx) = true
section
variable {P : Program} {w : World} {K : PySem.W.Frag} {mg : Str → Option Value} {base : Heap} {hot tp : Bool} {k : Nat} {f : Addr} {name qual : Str} {params : Arguments} {body : List Stmt} {scope : Scope} {dvs : List V} {kws : List (Str × V)} {fd : FuncData} {N ps : List Str} {W : Wd} {F F' : FT} {n : Nat} {D : SD}
theorem pre_len (S : FnScope N ps scope) : ps.length ≤ N.length := by have := congrArg List.length S.pre; rw [List.length_take] at this; omega
theorem fn_ev (hW : W.K = K) (Fd : FunD K name qual params body scope dvs kws f fd) (S : FnScope N ps scope) (hF : IsFn F F' n ps.length N.length D)
    (hb : ∀ (X : Cx) (Wx : WX), X.prog = P → X.w = w → X.K = K → X.mg = mg → X.base = base → X.N = N → X.env.scope = scope → (∀ x, X.fn x = true) → En X W Wx hot tp k → PSs X body (denS W Wx F' D)) :
    FnG P w K mg base hot tp (k + 1) f fd ps (spF W F n) := by
  refine fn_ofG hW Fd S (spF_len fun es k kx q => (hF es k kx q).1) fun X A outer s H vs Q E h1 h2 h3 h4 h5 h6 h7 h8 en h => ⟨_, hb X _ h1 h2 h3 h4 h5 h6 h7 h8 en, ?_⟩
  obtain ⟨g0, g, es, k', kx', S0, r, c1, c2, q⟩ := h
  obtain ⟨hl, hD⟩ := hF es k' kx' q
  exact ⟨g0, own0, g, frE es N.length, ksF k' kx', S0.enter r (by rw [hl]; exact pre_len S), Co.body c1 c2, hD⟩
theorem init_ev {c : Nat} (hW : W.K = K) (Fd : FunD K name qual params body scope dvs kws f fd) (S : FnScope N ps scope) (hF : IsIn F F' n c (W.flds c).length (ps.length - 1) (N.length - 1) D) (hp : 1 ≤ ps.length)
    (hb : ∀ (X : Cx) (Wx : WX), X.prog = P → X.w = w → X.K = K → X.mg = mg → X.base = base → X.N = N → X.env.scope = scope → (∀ x, X.fn x = true) → En X W Wx hot tp k → PSs X body (denS W Wx F' D)) :
    FnG P w K mg base hot tp (k + 1) f fd ps (spI W F n c) := by
  refine fn_ofG hW Fd S (fun vs H Q E ⟨p, us, dx, g0, g, es, k', kx', e, S0, ho, r, c1, c2, q⟩ => ?_) fun X A outer s H vs Q E h1 h2 h3 h4 h5 h6 h7 h8 en h => ⟨_, hb X _ h1 h2 h3 h4 h5 h6 h7 h8 en, ?_⟩
  · have := (hF es k' kx' q).1
    rw [e, List.length_cons, ← r.length]; omega
  obtain ⟨p, us, dx, g0, g, es, k', kx', rfl, S0, ho, r, c1, c2, q⟩ := h
  obtain ⟨hl, hD⟩ := hF es k' kx' q
  have hpre := pre_len S
  refine ⟨g0, own1 p, { g with me := some p }, .self c [] :: frE es (N.length - 1), ksI c (W.flds c).length k' kx', S0.enterI ho r (by omega), ?_, hD⟩
  refine ⟨fun own' g' fr' σ' H' S T q => ?_, fun own' x g' fr' σ' H' r u S T R q => (by cases q), fun own' g' fr' σ' H' S T q => (by cases q), fun own' g' fr' σ' H' S T q => (by cases q), fun own' g' fr' σ' H' z cls d S T R q => ?_⟩
  · unfold ksI at q
    simp only at q
    cases z : getS fr' 0 with
    | self c' fs =>
      simp only [z] at q
      cases z2 : Nat.beq c' c && Nat.beq fs.length (W.flds c).length with
      | false => simp only [z2] at q; cases q
      | true =>
        simp only [z2] at q
        obtain ⟨e1, e2⟩ := Bool.and_eq_true_iff.mp z2
        have e1 := Nat.eq_of_beq_eq_true e1
        have e2 := Nat.eq_of_beq_eq_true e2
        subst e1
        have hne : getS fr' 0 ≠ .none := by rw [z]; simp
        have e0 := getS_of hne
        rw [z] at e0
        obtain ⟨p', dx', vs, k1, km, k2, k3, k4, k5⟩ := S.slot 0 _ e0
        have ep : p' = p := by have := T.me; rw [km] at this; exact Option.some.inj this
        subst ep
        obtain ⟨g1, S1, t⟩ := S.leave
        have nS : ¬ g1.S p' := fun z => by
          rcases (S1.s_iff p').mp z with y | ⟨i, y⟩ | y | y
          · exact y (S.no 0 p' k1).1
          · simp at y
          · simp at y
          · have hp1 : g'.P p' := by
              have z2 := S1.pot p' y
              obtain ⟨a, b, hh, _⟩ := z2
              rw [k3] at hh; cases hh
            exact (S.np p' hp1).2.1 0 k1
        have hv : VR W g1 H' (.ins c' fs) (.ref p') := by
          refine .ins (by rw [k3, List.take_of_length_le (by omega)]) nS (k4.mono t) e2
        have T1 : Tr { g with me := some p' } H g1 H' := T.trans t
        exact c1 { g1 with me := g.me } H' _ (S1.me0 _) ⟨T1.keep, T1.pots, rfl⟩ (hv.me _) q
    | none => simp only [z] at q; cases q
    | v _ => simp only [z] at q; cases q
    | own _ => simp only [z] at q; cases q
  · obtain ⟨g1, S1, t⟩ := S.leave
    have T1 : Tr { g with me := some p } H g1 H' := T.trans t
    exact c2 { g1 with me := g.me } H' z cls d (S1.me0 _) ⟨T1.keep, T1.pots, rfl⟩ ((R.mono t).me _) q
end
end Ev

/-! Instances made, methods, isinstance, calls with keywords. -/
namespace Ev
open PySem PySem.Spec PyProof.Rows L2
section
variable {X : Cx} {W : Wd} {Wx : WX} {F : FT} {hot tp tq : Bool} {k n c : Nat} {f : Addr} {pins : List (Addr × Obj)} {σ : St} {H : Hp} {s : Shared}
theorem make_guards {A : Around} {C : Addr} {us : List Value} {kw : List (Str × Value)} : (A.under (.builtin "type.__call__" ⟨.ref C :: us, kw⟩)).guards = A.guards := by
  have e : Code.guards (.builtin "type.__call__" ⟨.ref C :: us, kw⟩) = [] := by
    unfold Code.guards
    have : Code.isGuard (.builtin "type.__call__" ⟨.ref C :: us, kw⟩) = false := by
      show guardIds.contains "type.__call__" = false
      decide +kernel
    rw [this]; rfl
  obtain ⟨a1, a2, a3, a4, a5⟩ := A
  simp [Around.under, e, pushGuards]
theorem At.make {A : Around} (a : At X hot tp (k + 1) A H s) (C : Addr) (us : List Value) (kw : List (Str × Value)) : At X hot tp k (A.under (.builtin "type.__call__" ⟨.ref C :: us, kw⟩)) H s := by
  refine ⟨⟨?_, ?_⟩, ?_, ?_, a.e0.make C us kw⟩
  · have := a.rm.dp; rw [make_depth]; omega
  · have := a.rm.un; rw [make_units]; omega
  · have h := a.hh
    cases hot with
    | false => exact h
    | true => obtain ⟨p, ⟨h1, h2⟩, h3⟩ := h; exact ⟨p, ⟨h1, h2⟩, h3⟩
  · obtain ⟨gs, h1, h2, h3⟩ := a.gr
    exact ⟨gs, make_guards.trans h1, h2, h3⟩
/-- the callee's frame of a new instance -/
theorem den_new {g0 : Hp} {own : Nat → Option Addr} {g : Gs} {fr : Frm} {kk : RV → Frm → Bool} {kx : KX} {es : List EV} {vs : List V} {Q : VK} {p dx : Addr} (S : Sim W g0 own none g fr σ H) (cx : CoX W Wx g0 σ g H kx)
    (r : VRs W g H es vs) (hp : H p = none) (hd : H dx = none) (hne : dx ≠ p) (h : F n es (fun r => kk r fr) (fun z => kx z fr) = true) (ck : ∀ g' H' e u, Sim W g0 own none g' fr σ H' → Tr g H g' H' → VR W g' H' e u → kk (.v e) fr = true → Q u H') :
    spI W F n c (.ref p :: vs) (upd (upd H dx (.own p)) p (.ins (W.cls c) dx [])) (fun v H2 => v = .non ∧ Q (.ref p) H2) (WE Wx σ) := by
  obtain ⟨G, S0, back⟩ := S.call
  have hp2 : (upd H dx (.own p)) p = none := by rw [upd_ne (Ne.symm hne)]; exact hp
  obtain ⟨S1, t1⟩ := (S0.new hd (o := .own p)).fresh hp2 (o := .ins (W.cls c) dx [])
  have t0 : Tr g H _ _ := (Tr.new hd (o := .own p)).trans t1
  exact ⟨p, vs, dx, G, _, es, _, _, rfl, S1, upd_same, r.mono t0, fun g' H' e S' T R q => ⟨rfl, ck g' H' e _ (back none g' H' S' (t0.trans T)) (t0.trans T) R q⟩, fun g' H' z cls d S' T R q => cx own g' fr H' z cls d (back none g' H' S' (t0.trans T)) (t0.trans T) R q, h⟩
theorem run_newA {dvs : List V} {E : XK} {Q : VK} {us : List Value} {vs : List V} (en : En X W Wx hot tp (k + 3)) (M : L2.Mk X.K (W.cls c) f) (R : FnP X.prog X.w X.K X.mg X.base hot tq k f (fun vs H Q E => spI W F n c (vs ++ dvs) H Q E)) (hq : tq = true → tp = true)
    (hx : PassesAt (L2N.CX X.prog X.w) X σ E) (I : Inv X pins σ H s) (r : Vals vs us)
    (h : ∀ p dx, H p = none → H dx = none → dx ≠ p → spI W F n c (.ref p :: (vs ++ dvs)) (upd (upd H dx (.own p)) p (.ins (W.cls c) dx [])) (fun v H2 => v = .non ∧ Q (.ref p) H2) E) : wpAny (model X.prog X.w) X.A (call (.ref (W.cls c)) us) (EP X pins σ Q) X.xe s := by
  have hq' := h (s.heap.objs.size + 1) s.heap.objs.size (I.hok.fresh (Nat.le_succ _)) (I.hok.fresh (Nat.le_refl _)) (Nat.ne_of_lt (Nat.lt_succ_self _))
  have I2 := Inv.made (C := W.cls c) I
  have a2 := (en.here (tq := tq) (j := k + 1) (by omega) hq I2).make (W.cls c) us []
  have r2 : Vals (V.ref (s.heap.objs.size + 1) :: vs) (Value.ref (s.heap.objs.size + 1) :: us) := .cons rfl r
  refine wpAny_call (make_map (f := f) I.kIn M.makes M.init (beq_iff_eq.mp M.fn) (codeAny_mono (R _ X.stack _ _ _ _ _ E a2.rm a2.hh a2.gr a2.e0 r2 hq') fun r s' hr => ?_))
  cases r with
  | error e => exact hx pins _ _ e s' I2 hr
  | ok fl =>
    cases fl with
    | ret u =>
      obtain ⟨v, H', I3, rv, ev, q3⟩ := I2.after hr
      subst ev
      exact ⟨rv, V.ref (s.heap.objs.size + 1), H', I3, rfl, q3⟩
    | next => exact False.elim hr
    | brk => exact False.elim hr
    | cont => exact False.elim hr
/-- C(e, ..) -/
theorem re_new {x : Str} {a : AD} {e : Expr} {es : List Expr} {p pos : Pos} {ds : List EV} {dvs : List V} (en : En X W Wx hot tp (k + 3)) (M : L2.Mk X.K (W.cls c) f) (R : FnP X.prog X.w X.K X.mg X.base hot tq k f (fun vs H Q E => spI W F n c (vs ++ dvs) H Q E)) (hq : tq = true → tp = true)
    (hd : ∀ g H, VRs W g H ds dvs) (hg : Gl X x) (hm : X.mg x = some (.ref (W.cls c)))
    (ha : PA X (e :: es) (denA W Wx F a)) (hdb : (x == ("__debug__" : Str)) = false := by decide) (he : starEach (e :: es) X.env = (false, eval e X.env) :: starEach es X.env := by rfl) (hpl : (backTo pos (starEach es X.env)).any (·.1) = false := by rfl) :
    PE X (.Call (.Name x p) (e :: es) [] pos) (den W Wx F (dCallD n ds a)) := by
  refine ⟨fun pins s σ H Q I h => ?_⟩
  obtain ⟨g0, own, g, fr, kk, kx, S, cx, ck, h⟩ := h
  refine wpAny_Call_Name_kw (ld_glob I hg hm ?_ hdb)
  have h' : denA W Wx F a σ H (fun vs H1 => ∀ p dx, H1 p = none → H1 dx = none → dx ≠ p → spI W F n c (.ref p :: (vs ++ dvs)) (upd (upd H1 dx (.own p)) p (.ins (W.cls c) dx [])) (fun v H2 => v = .non ∧ Q (.ref p) H2) (WE Wx σ)) := by
    refine denA_then (kk := fun es fr1 => F n (es ++ ds) (fun r => kk r fr1) fun z => kx z fr1) S cx h fun own1 g1 fr1 H1 es us S1 t1 r1 h1 p dx hp hdx hne => ?_
    exact den_new S1 (cx.mono t1) (r1.app (hd g1 H1)) hp hdx hne h1 fun g' H' e u S' T R q => ck own1 none g' fr1 H' (.v e) u S' (t1.trans T) ⟨rfl, R⟩ q
  refine PySem.W.callWith_K (h₀ := X.base) I.ok.mod.kin M.kp (thn (ha.run pos pins s σ H _ I h') fun us s1 ⟨vs, H1, I1, r, q⟩ => ⟨I1.kIn, ?_⟩) he hpl
  exact run_newA en M R hq (passAtN en.tk σ) I1 r q
/-! ### methods -/
def dMeth (tb : List (Nat × Nat)) (o : ED) (a : AD) : ED := fun F fr k kx => o F fr (fun r fr1 => match r.ev with
  | .ins c fs => (match tabE tb c with
    | some n => a F fr1 (fun es fr2 => F n (.ins c fs :: es) (fun r => k r fr2) fun z => kx z fr2) kx
    | none => false)
  | _ => false) kx
/-- what the text must have of a method -/
structure MeF (W : Wd) (m : Str) (c : Nat) (f : Addr) : Prop where
  cf : ClF W c
  me : Meth W.K (W.cls c) m f
  nf : m ∉ W.flds c
theorem re_meth {o : Expr} {m : Str} {do_ : ED} {a : AD} {e : Expr} {es : List Expr} {tb : List (Nat × Nat)} {apos pos : Pos} {pl : Sem Bool} (en : En X W Wx hot tp (k + 3)) (ht : ∀ q ∈ tb, ∃ f, MeF W m q.1 f ∧ RawF X W F hot false k q.2 f []) (ho : PE X o (den W Wx F do_))
    (ha : PA X (e :: es) (denA W Wx F a)) (hst : starEach (e :: es) X.env = (false, eval e X.env) :: starEach es X.env := by rfl) (hpl : (backTo pos (starEach es X.env)).any (·.1) = false := by rfl)
    (hev : eval (.Call (.Attribute o m apos) (e :: es) [] pos) X.env = (do
      let ov ← eval o X.env
      standAt apos.atName
      let (f, first) ← holding [ov] (getMethod ov m pl)
      callWith pos f first (backTo pos (starEach (e :: es) X.env)) (backToKw pos (keywordEach [] X.env))) := by rfl) :
    PE X (.Call (.Attribute o m apos) (e :: es) [] pos) (den W Wx F (dMeth tb do_ a)) := by
  refine ⟨fun pins s σ H Q I h => ?_⟩
  obtain ⟨g0, own, g, fr, kk, kx, S, cx, ck, h⟩ := h
  have h' : den W Wx F do_ σ H (fun x H1 => ∃ p C dx l f n', x = .ref p ∧ H1 p = some (.ins C dx l) ∧ Cls W.K C ∧ Meth W.K C m f ∧ l.lookup m = none ∧ RawF X W F hot false k n' f [] ∧ denA W Wx F a σ H1 fun vs H2 => spF W F n' (.ref p :: vs) H2 Q (WE Wx σ)) := by
    refine den_then (kk := fun x fr1 => match x with | .ins c fs => (match tabE tb c with | some n => a F fr1 (fun es fr2 => F n (.ins c fs :: es) (fun r => kk r fr2) fun z => kx z fr2) kx | none => false) | _ => false) S cx h fun own1 g1 fr1 H1 x u S1 t1 r1 h1 => ?_
    cases x with
    | ins c fs =>
      simp only at h1
      cases q : tabE tb c with
      | none => simp only [q] at h1; cases h1
      | some n' =>
        simp only [q] at h1
        obtain ⟨f', M, R⟩ := ht _ (tabE_mem q)
        obtain ⟨p, dx, vs, rfl, hi, nS, rs, hl⟩ := r1.insH
        refine ⟨p, _, dx, _, f', n', rfl, hi, M.cf.cl, M.me, lookup_zip_none M.nf, R, ?_⟩
        refine denA_then (kk := fun es fr2 => F n' (.ins c fs :: es) (fun r => kk r fr2) fun z => kx z fr2) S1 (cx.mono t1) h1 fun own2 g2 fr2 H2 es us S2 t2 r2 h2 => ?_
        exact den_callF (k := kk) (kx := kx) S2 (cx.mono (t1.trans t2)) (.cons (r1.mono t2) r2) h2 fun x' g' H' r u S' T R q => ck own2 x' g' fr2 H' r u S' ((t1.trans t2).trans T) R q
    | _ => cases h1
  refine PySem.W.methodCall_KW (pl := pl) (thn (ho.run pins s σ H _ I h') fun u s1 ⟨x, H1, I1, rx, p, C, dx, l, f', n', ex, ea, c1, c2, c3, R, q⟩ => ?_) hev
  subst ex
  obtain rfl : u = Value.ref p := rx
  rw [← en.hK] at c1 c2
  refine getmeth_ok I1 ea c1 c2 c3 ?_
  refine PySem.W.callWith_K (first := [.ref p]) (h₀ := X.base) I.ok.mod.kin c2.kp (thn (ha.run pos pins s1 σ H1 _ I1 q) fun us s2 ⟨vs, H2, I2, r, q2⟩ => ⟨I2.kIn, ?_⟩) hst hpl
  exact run_rawA (us := .ref p :: us) (vs := .ref p :: vs) R (en.here (by omega) (fun z => by cases z) I2) (passAtN en.tk σ) I2 (.cons rfl r) (by rw [List.append_nil]; exact q2)
theorem re_meth0 {o : Expr} {m : Str} {do_ : ED} {tb : List (Nat × Nat)} {apos pos : Pos} {pl : Sem Bool} (en : En X W Wx hot tp (k + 3)) (ht : ∀ q ∈ tb, ∃ f, MeF W m q.1 f ∧ RawF X W F hot false k q.2 f []) (ho : PE X o (den W Wx F do_))
    (hev : eval (.Call (.Attribute o m apos) [] [] pos) X.env = (do
      let ov ← eval o X.env
      standAt apos.atName
      let (f, first) ← holding [ov] (getMethod ov m pl)
      callWith pos f first (backTo pos (starEach [] X.env)) (backToKw pos (keywordEach [] X.env))) := by rfl) :
    PE X (.Call (.Attribute o m apos) [] [] pos) (den W Wx F (dMeth tb do_ (dArgs []))) := by
  refine ⟨fun pins s σ H Q I h => ?_⟩
  obtain ⟨g0, own, g, fr, kk, kx, S, cx, ck, h⟩ := h
  have h' : den W Wx F do_ σ H (fun x H1 => ∃ p C dx l f n', x = .ref p ∧ H1 p = some (.ins C dx l) ∧ Cls W.K C ∧ Meth W.K C m f ∧ l.lookup m = none ∧ RawF X W F hot false k n' f [] ∧ spF W F n' [.ref p] H1 Q (WE Wx σ)) := by
    refine den_then (kk := fun x fr1 => match x with | .ins c fs => (match tabE tb c with | some n => dArgs [] F fr1 (fun es fr2 => F n (.ins c fs :: es) (fun r => kk r fr2) fun z => kx z fr2) kx | none => false) | _ => false) S cx h fun own1 g1 fr1 H1 x u S1 t1 r1 h1 => ?_
    cases x with
    | ins c fs =>
      simp only at h1
      cases q : tabE tb c with
      | none => simp only [q] at h1; cases h1
      | some n' =>
        simp only [q] at h1
        obtain ⟨f', M, R⟩ := ht _ (tabE_mem q)
        obtain ⟨p, dx, vs, rfl, hi, nS, rs, hl⟩ := r1.insH
        refine ⟨p, _, dx, _, f', n', rfl, hi, M.cf.cl, M.me, lookup_zip_none M.nf, R, ?_⟩
        exact den_callF (k := kk) (kx := kx) S1 (cx.mono t1) (.cons r1 .nil) h1 fun x' g' H' r u S' T R q => ck own1 x' g' fr1 H' r u S' (t1.trans T) R q
    | _ => cases h1
  refine PySem.W.methodCall_KW (pl := pl) (thn (ho.run pins s σ H _ I h') fun u s1 ⟨x, H1, I1, rx, p, C, dx, l, f', n', ex, ea, c1, c2, c3, R, q⟩ => ?_) hev
  subst ex
  obtain rfl : u = Value.ref p := rx
  rw [← en.hK] at c1 c2
  refine getmeth_ok I1 ea c1 c2 c3 ?_
  exact PySem.W.callWith_K0 (first := [.ref p]) I1.kIn c2.kp (run_rawA (us := [.ref p]) (vs := [.ref p]) R (en.here (by omega) (fun z => by cases z) I1) (passAtN en.tk σ) I1 (.cons rfl .nil) q)
/-! ### isinstance -/
structure IsiD where
  non : Bool
  bl : Bool
  int : Bool
  str : Bool
  tup : Bool
  lst : Bool
  own : List (Nat × Bool)
def ownE : List (Nat × Bool) → Nat → Option Bool
  | [], _ => none
  | (a, b) :: r, c => match Nat.beq a c with
    | true => some b
    | false => ownE r c
theorem ownE_mem : ∀ {t : List (Nat × Bool)} {c : Nat} {n : Bool}, ownE t c = some n → (c, n) ∈ t
  | (a, b) :: r, c, n, h => by
    unfold ownE at h
    split at h
    · cases h
      rename_i e
      have := Nat.eq_of_beq_eq_true e
      subst this
      exact List.mem_cons_self
    · exact List.mem_cons_of_mem _ (ownE_mem h)
def isiE (d : IsiD) : EV → Option RV
  | .non => some (.v (.bl d.non))
  | .bl _ => some (.v (.bl d.bl))
  | .int _ => some (.v (.bl d.int))
  | .str _ => some (.v (.bl d.str))
  | .tup _ => some (.v (.bl d.tup))
  | .lst _ => some (.v (.bl d.lst))
  | .ins c _ => match ownE d.own c with
    | some b => some (.v (.bl b))
    | none => none
  | _ => none
/-- the table is right for an answer by types -/
structure IsiOk (W : Wd) (ans : Value → Option Bool) (d : IsiD) : Prop where
  non : ans (.type "NoneType") = some d.non
  bl : ans (.type "bool") = some d.bl
  int : ans (.type "int") = some d.int
  str : ans (.type "str") = some d.str
  tup : ans (.type "tuple") = some d.tup
  lst : ans (.type "list") = some d.lst
  own : ∀ q ∈ d.own, ClF W q.1 ∧ ans (.ref (W.cls q.1)) = some q.2
theorem isi_ok {ans : Value → Option Bool} {d : IsiD} {g : Gs} {x : EV} {u : V} {v : RV} (ok : IsiOk W ans d) (r : VR W g H x u) (h : isiE d x = some v) : ∃ t b, TyX W.K H u t ∧ ans t = some b ∧ v = .v (.bl b) := by
  cases r with
  | non => cases h; exact ⟨_, _, .base .non, ok.non, rfl⟩
  | bl b => cases h; exact ⟨_, _, .base (.bl b), ok.bl, rfl⟩
  | int i => cases h; exact ⟨_, _, .base (.int i), ok.int, rfl⟩
  | str x => cases h; exact ⟨_, _, .base (.str x), ok.str, rfl⟩
  | tup ho n r => cases h; exact ⟨_, _, .base (.tup ho), ok.tup, rfl⟩
  | tupK ho r => cases h; obtain ⟨o, its, n, e1, e2, _⟩ := ho; exact ⟨_, _, .kTuple e1 e2, ok.tup, rfl⟩
  | lst ho n r => cases h; exact ⟨_, _, .base (.lst ho), ok.lst, rfl⟩
  | @ins p dx vs c fs ho n r z =>
    unfold isiE at h
    cases q : ownE d.own c with
    | none => simp only [q] at h; cases h
    | some b =>
      simp only [q] at h
      cases h
      obtain ⟨cf, e⟩ := ok.own _ (ownE_mem q)
      exact ⟨_, _, .base (.ins ho cf.cl cf.ha cf.hn cf.ht cf.hm), e, rfl⟩
  | pot h1 => cases h
  | scr h1 r1 => cases h
/-- isinstance(e, C) -/
theorem re_isi {e ce : Expr} {da : ED} {d : IsiD} {cv : V} {cu : Value} {p pos : Pos} (hK : X.K = W.K) (ok : IsiOk W (fun t => PySem.W.kitOne W.K t cu) d) (hc : ClsV cv cu) (hg : Gl X "isinstance") (hm : X.mg "isinstance" = none) (he : PE X e (den W Wx F da)) (hce : PE X ce (tC cv))
    (hs1 : starEach [e, ce] X.env = (false, eval e X.env) :: starEach [ce] X.env := by rfl) (hs2 : starEach [ce] X.env = (false, eval ce X.env) :: starEach [] X.env := by rfl) (hpl : (backTo pos (starEach [ce] X.env)).any (·.1) = false := by rfl) : PE X (.Call (.Name "isinstance" p) [e, ce] [] pos) (den W Wx F (dUn (isiE d) da)) := by
  refine Ev.PE.imp (pe_callB call_isi hg hm boot_isinstance (pa_cons he (pa_cons hce pa_nil hs2) hs1) (hpl := hpl) (he := hs1)) fun σ H Q h => ?_
  rw [hK]
  obtain ⟨g0, own, g, fr, k, kx, S, cx, ck, h⟩ := h
  refine den_then (kk := fun x fr1 => match isiE d x with | some v => k v fr1 | none => false) S cx h fun own1 g1 fr1 H1 x u S1 t1 r1 h1 => ?_
  cases q : isiE d x with
  | none => rw [q] at h1; cases h1
  | some v =>
    rw [q] at h1
    obtain ⟨t, b, ty, e1, rfl⟩ := isi_ok ok r1 q
    exact ⟨u, cv, t, cu, b, rfl, hc, ty, e1, ck own1 none g1 fr1 H1 _ _ S1 t1 (RR.val (.bl b)) h1⟩
/-- isinstance(e, (C, ..)) -/
theorem re_isiT {e : Expr} {ces : List Expr} {da : ED} {d : IsiD} {cvs : List V} {cus : List Value} {tct : TA} {x1} {p pos tpos : Pos} (hK : X.K = W.K) (ok : IsiOk W (fun t => PySem.W.kitAny W.K t cus) d) (hc : Paired ClsV cvs cus) (hl : cvs.length ≤ sizeLine) (hg : Gl X "isinstance") (hm : X.mg "isinstance" = none) (he : PE X e (den W Wx F da)) (hce : PA X ces tct)
    (ht : ∀ σ H Q, Q cvs H → tct σ H Q)
    (hs1 : starEach [e, .Tuple ces x1 tpos] X.env = (false, eval e X.env) :: starEach [.Tuple ces x1 tpos] X.env := by rfl) (hs2 : starEach [.Tuple ces x1 tpos] X.env = (false, eval (.Tuple ces x1 tpos) X.env) :: starEach [] X.env := by rfl) (hpl : (backTo pos (starEach [.Tuple ces x1 tpos] X.env)).any (·.1) = false := by rfl) :
    PE X (.Call (.Name "isinstance" p) [e, .Tuple ces x1 tpos] [] pos) (den W Wx F (dUn (isiE d) da)) := by
  refine Ev.PE.imp (pe_callB call_isiT hg hm boot_isinstance (pa_cons he (pa_cons (pe_tup hce) pa_nil hs2) hs1) (hpl := hpl) (he := hs1)) fun σ H Q h => ?_
  rw [hK]
  obtain ⟨g0, own, g, fr, k, kx, S, cx, ck, h⟩ := h
  refine den_then (kk := fun x fr1 => match isiE d x with | some v => k v fr1 | none => false) S cx h fun own1 g1 fr1 H1 x u S1 t1 r1 h1 => ?_
  cases q : isiE d x with
  | none => rw [q] at h1; cases h1
  | some v =>
    rw [q] at h1
    refine ht _ _ _ ⟨hl, fun tpa hp => ?_⟩
    have S2 := S1.new (o := .tup cvs) hp
    have t2 : Tr g1 H1 g1 (upd H1 tpa (.tup cvs)) := Tr.new hp
    obtain ⟨t, b, ty, e1, rfl⟩ := isi_ok ok (r1.mono t2) q
    exact ⟨u, tpa, cvs, t, cus, b, rfl, upd_same, hc, ty, e1, ck own1 none g1 fr1 _ _ _ S2 (t1.trans t2) (RR.val (.bl b)) h1⟩
end
end Ev

/-! Texts: f-strings, join, str. -/
namespace Ev
open PySem PySem.Spec PyProof.Rows L2
def log1920 (i : Int) : Bool := Nat.blt i.natAbs.log2 1920
def fmtE : EV → Option RV
  | .str y => match fits y.length with
    | true => some (.v (.str y))
    | false => none
  | .int i => match log1920 i with
    | true => some (.v (.str (toString i)))
    | false => none
  | _ => none
/-- the parts of an f-string, one behind another -/
def dJs : List ED → Str → ED
  | [], acc => fun _ fr k _ => k (.v (.str acc)) fr
  | d :: ds, acc => fun F fr k kx => d F fr (fun r fr1 => match r.ev with
    | .str y => (match fits (acc ++ y).length with
      | true => dJs ds (acc ++ y) F fr1 k kx
      | false => false)
    | _ => false) kx
def strsE : List EV → Option (List Str)
  | [] => some []
  | .str x :: r => match strsE r with
    | some l => some (x :: l)
    | none => none
  | _ => none
def joinFits (a : Str) (ys : List Str) : Bool := Nat.ble ((ys.map (·.length)).sum + ys.length * a.length) 16777216
def joinE (a : Str) : EV → Option RV
  | .lst l => match strsE l with
    | some ys => (match joinFits a ys with
      | true => some (.v (.str (Txt.join a ys)))
      | false => none)
    | none => none
  | _ => none
def dJoin (d1 d2 : ED) : ED := fun F fr k kx => d1 F fr (fun r fr1 => match r.ev with
  | .str a => d2 F fr1 (fun s fr2 => match joinE a s.ev with
    | some v => k v fr2
    | none => false) kx
  | _ => false) kx
theorem strsE_ok : ∀ {l : List EV} {is : List Str}, strsE l = some is → l = is.map EV.str
  | [], is, h => by cases h; rfl
  | e :: r, is, h => by
    cases e with
    | str i =>
      have h' : (match strsE r with | some l => some (i :: l) | none => none) = some is := h
      cases q : strsE r with
      | none => rw [q] at h'; cases h'
      | some l => rw [q] at h'; cases h'; rw [strsE_ok q]; rfl
    | _ => cases h
theorem VRs.strs {W : Wd} {g : Gs} {H : Hp} : ∀ {is : List Str} {vs : List V}, VRs W g H (is.map EV.str) vs → vs = is.map V.str
  | [], _, .nil => rfl
  | i :: is, _, .cons h r => by
    cases h
    rw [VRs.strs r]; rfl
section
variable {X : Cx} {W : Wd} {Wx : WX} {F : FT} {hot tp : Bool} {k : Nat}
theorem re_fmt {e : Expr} {d : ED} {pos : Pos} (he : PE X e (den W Wx F d)) : PE X (.FormattedValue e (-1) none pos) (den W Wx F (dUn fmtE d)) := by
  refine Ev.PE.imp (pe_fmt he) fun σ H Q h => ?_
  obtain ⟨g0, own, g, fr, k, kx, S, cx, ck, h⟩ := h
  refine den_then (kk := fun x fr1 => match fmtE x with | some v => k v fr1 | none => false) S cx h fun own1 g1 fr1 H1 x u S1 t1 r1 h1 => ?_
  cases r1 with
  | str y =>
    simp only [fmtE] at h1
    cases q : fits y.length with
    | false => simp only [q] at h1; cases h1
    | true => simp only [q] at h1; exact .inl ⟨y, rfl, fits_ok q, ck own1 none g1 fr1 H1 _ _ S1 t1 (RR.val (.str y)) h1⟩
  | int i =>
    simp only [fmtE] at h1
    cases q : log1920 i with
    | false => simp only [q] at h1; cases h1
    | true => simp only [q] at h1; exact .inr ⟨i, rfl, Nat.le_of_ble_eq_true q, ck own1 none g1 fr1 H1 _ _ S1 t1 (RR.val (.str _)) h1⟩
  | _ => cases h1
theorem re_js_aux : ∀ (ds : List ED) (acc : Str) {σ : St} {H : Hp} {Q : VK}, den W Wx F (dJs ds acc) σ H Q → tJs (ds.map fun d => den W Wx F d) acc σ H (fun out H1 => Q (.str out) H1)
  | [], acc, σ, H, Q, h => by
    obtain ⟨g0, own, g, fr, k, kx, S, cx, ck, h⟩ := h
    exact ck own none g fr H _ _ S .refl (RR.val (.str acc)) h
  | d :: ds, acc, σ, H, Q, h => by
    obtain ⟨g0, own, g, fr, k, kx, S, cx, ck, h⟩ := h
    refine den_then (kk := fun x fr1 => match x with | .str y => (match fits (acc ++ y).length with | true => dJs ds (acc ++ y) F fr1 k kx | false => false) | _ => false) S cx h fun own1 g1 fr1 H1 x u S1 t1 r1 h1 => ?_
    cases r1 with
    | str y =>
      simp only at h1
      cases q : fits (acc ++ y).length with
      | false => simp only [q] at h1; cases h1
      | true =>
        simp only [q] at h1
        exact ⟨y, rfl, fits_ok q, re_js_aux ds (acc ++ y) ⟨g0, own1, g1, fr1, k, kx, S1, cx.mono t1, fun own' x g' fr' H' r u S' T R q => ck own' x g' fr' H' r u S' (t1.trans T) R q, h1⟩⟩
    | _ => cases h1
theorem re_joined {v1 v2 : Expr} {rest : List Expr} {ds : List ED} {pos : Pos} (h : PJ X (v1 :: v2 :: rest) (ds.map fun d => den W Wx F d)) : PE X (.JoinedStr (v1 :: v2 :: rest) pos) (den W Wx F (dJs ds Str.empty)) :=
  Ev.PE.imp (pe_joined h) fun σ H Q h => re_js_aux ds Str.empty h
theorem re_joined1 {e : Expr} {d : ED} {pos : Pos} (he : PE X e (den W Wx F d)) : PE X (.JoinedStr [e] pos) (den W Wx F d) := pe_joined1 he
theorem re_join {o e : Expr} {d1 d2 : ED} {apos pos : Pos} (hK : X.K = W.K) (ho : PE X o (den W Wx F d1)) (he : PE X e (den W Wx F d2)) (hs : starEach [e] X.env = [(false, eval e X.env)] := by rfl) (hbase : attributeBase o "join" X.env (eval o X.env) = eval o X.env := by rfl) (hline : (apos.endLine == pos.line) = true := by rfl) :
    PE X (.Call (.Attribute o "join" apos) [e] [] pos) (den W Wx F (dJoin d1 d2)) := by
  refine Ev.PE.imp (pe_join ho he hs hbase hline) fun σ H Q h => ?_
  rw [hK]
  obtain ⟨g0, own, g, fr, k, kx, S, cx, ck, h⟩ := h
  refine den_then (kk := fun x fr1 => match x with | .str a => d2 F fr1 (fun s fr2 => match joinE a s.ev with | some v => k v fr2 | none => false) kx | _ => false) S cx h fun own1 g1 fr1 H1 x u S1 t1 r1 h1 => ?_
  cases r1 with
  | str a =>
    refine ⟨⟨a, rfl⟩, ?_⟩
    refine den_then (kk := fun y fr2 => match joinE a y with | some v => k v fr2 | none => false) S1 (cx.mono t1) h1 fun own2 g2 fr2 H2 y w S2 t2 r2 h2 => ?_
    cases q : joinE a y with
    | none => rw [q] at h2; cases h2
    | some v =>
      rw [q] at h2
      unfold joinE at q
      split at q
      · rename_i l
        split at q
        · rename_i ys hys
          split at q
          · rename_i hf
            cases q
            obtain ⟨p, vs, rfl, hq, rs⟩ := r2.sqL
            have hl := strsE_ok hys
            subst hl
            have hv := rs.strs
            subst hv
            exact ⟨a, p, ys, rfl, rfl, .inl hq, Nat.le_of_ble_eq_true hf, ck own2 none g2 fr2 H2 _ _ S2 (t1.trans t2) (RR.val (.str _)) h2⟩
          · cases q
        · cases q
      · cases q
  | _ => cases h1
/-! ### str(x) -/
def strOfE (tb : List (Nat × Nat)) (F : FT) (x : EV) (fr : Frm) (k : RV → Frm → Bool) (kx : KX) : Bool := match x with
  | .ins c fs => (match tabE tb c with
    | some n => F n [.ins c fs] (fun r => match r with
      | .v (.str y) => k (.v (.str y)) fr
      | _ => false) (fun z => kx z fr)
    | none => false)
  | .int i => (match log1920 i with
    | true => k (.v (.str (toString i))) fr
    | false => false)
  | _ => false
def dStr (tb : List (Nat × Nat)) (d : ED) : ED := fun F fr k kx => d F fr (fun r fr1 => strOfE tb F r.ev fr1 k kx) kx
/-- an own __str__, __repr__ -/
structure SpF (W : Wd) (m : Str) (c : Nat) (f : Addr) : Prop where
  hs : PySem.W.findIn W.K (.ref (W.cls c)) m = some (some (.ref f))
  fn : PySem.W.isFn W.K (.ref f) = true
theorem strBack {pins : List (Addr × Obj)} {σ : St} {Q : VK} {v : Value} {s' : Shared} (h : EP X pins σ (fun z H => ∃ y, z = .str y ∧ Q z H) v s') : PySem.W.StrBack (EP X pins σ Q) v s' := by
  obtain ⟨z, H', I', rz, y, rfl, q⟩ := h
  obtain ⟨t, rfl⟩ := rz
  exact ⟨.str y, H', I', ⟨t, rfl⟩, q⟩
theorem re_str {e : Expr} {d : ED} {tb : List (Nat × Nat)} {p pos : Pos} (en : En X W Wx hot tp (k + 3)) (ht : ∀ q ∈ tb, ∃ f, SpF W "__str__" q.1 f ∧ RawF X W F hot false k q.2 f []) (hg : Gl X "str") (hm : X.mg "str" = none) (ha : PA X [e] (denA W Wx F (dArgs [d])))
    (he : starEach [e] X.env = (false, eval e X.env) :: starEach [] X.env := by rfl) (hpl : (backTo pos (starEach [] X.env)).any (·.1) = false := by rfl) : PE X (.Call (.Name "str" p) [e] [] pos) (den W Wx F (dStr tb d)) := by
  refine ⟨fun pins s σ H Q I h => ?_⟩
  obtain ⟨g0, own, g, fr, kk, kx, S, cx, ck, h⟩ := h
  have h' : denA W Wx F (dArgs [d]) σ H (fun us H1 => ∃ own1 g1 fr1 x u, us = [u] ∧ Sim W g0 own1 none g1 fr1 σ H1 ∧ Tr g H g1 H1 ∧ VR W g1 H1 x u ∧ strOfE tb F x fr1 kk kx = true) := by
    refine denA_then (kk := fun es fr1 => match es with | [x] => strOfE tb F x fr1 kk kx | _ => false) S cx h fun own1 g1 fr1 H1 es us S1 t1 r1 h1 => ?_
    match es, h1 with
    | [x], h1 =>
      obtain ⟨u, rfl, r⟩ := r1.one
      exact ⟨own1, g1, fr1, x, u, rfl, S1, t1, r, h1⟩
  refine wpAny_Call_Name_kw (ld_blt I hg hm PyProof.Rows.boot_str ?_)
  refine PyProof.Rows.callWith_type1 (thn (ha.run pos pins s σ H _ I h') fun us s1 ⟨vs, H1, I1, r1, own1, g1, fr1, x, u, ev, S1, t1, rx, q⟩ => ?_) he hpl
  subst ev
  obtain ⟨vu, rfl, ru⟩ : ∃ w, us = [w] ∧ RelV u w := by
    cases r1 with
    | cons a b => cases b; exact ⟨_, rfl, a⟩
  cases x with
  | ins c fs =>
    simp only [strOfE] at q
    cases z : tabE tb c with
    | none => simp only [z] at q; cases q
    | some n' =>
      simp only [z] at q
      obtain ⟨f', O, R⟩ := ht _ (tabE_mem z)
      obtain ⟨pa, dx, vs, rfl, hi, nS, rs, hl⟩ := rx.insH
      cases ru
      obtain ⟨ox, od, J⟩ := inst_of I1 hi
      have a2 : At X hot false k X.A.in1.in1 H1 s1 := (en.here (tq := false) (j := k + 1 + 1) (by omega) (fun z => by cases z) I1).in1.in1
      refine PySem.W.kso_call (by have := a2.rm.un; omega) I1.kIn J (by rw [en.hK]; exact O.hs) (by rw [en.hK]; exact O.fn) (wpAny_mono (run_rawA (vs := [.ref pa]) (Q := fun z H => ∃ y, z = .str y ∧ Q z H) R a2 (passAtN en.tk σ) I1 (.cons rfl .nil) (den_callF (k := fun r f => match r with | .v (.str y) => kk (.v (.str y)) f | _ => false) (kx := kx) S1 (cx.mono t1) (.cons rx .nil) q fun x' g' H' r z S' T R q => ?_)) (fun v s' hv => strBack hv) fun _ _ z => z)
      split at q
      · rename_i y
        obtain ⟨e1, e2⟩ := R
        cases e2
        exact ⟨y, rfl, ck own1 x' g' fr1 H' (.v (.str y)) (.str y) S' (t1.trans T) ⟨e1, .str y⟩ q⟩
      · cases q
  | int i =>
    simp only [strOfE] at q
    cases rx
    cases z : log1920 i with
    | false => simp only [z] at q; cases q
    | true =>
      simp only [z] at q
      exact call_str_int pins s1 σ H1 [.int i] [vu] Q I1 (.cons ru .nil) ⟨i, rfl, Nat.le_of_ble_eq_true z, ck own1 none g1 fr1 H1 _ _ S1 t1 (RR.val (.str _)) q⟩
  | _ => cases q
end
end Ev

/-! repr of leaves, of instances, of lists of such. -/
namespace PySem
open Builtin
theorem repU_own {prog : Program} {w : World} {A : Around} {E : Value → Shared → Prop} {s : Shared} {K : PySem.W.Frag} {x C f : Addr} {ox : Obj} {od : Option Obj} {b : Nat} {Q : Str → Shared → Prop} (hb : b ≤ sizeLine) (hu : A.units < cLine) (X : K.In s.heap) (I : PySem.W.InstAt s.heap x ox C od)
    (hs : PySem.W.findIn K (.ref C) "__repr__" = some (some (.ref f))) (hf : PySem.W.isFn K (.ref f) = true) (h : wpAny (model prog w) A (call (.ref f) [.ref x]) (fun v s' => ∃ y u, v = .str y u ∧ Q y s') E s) : wpAny (model prog w) A (pyReprUnder b (.ref x)) Q E s := by
  refine wpAny_pyReprUnder_ref hb ?_
  unfold pyReprObjUnder pyReprObjBy
  refine wpAny_bind (wpAny_cRoomFor hu ?_)
  refine wpAny_bind (wpAny_bind (I.type.here ((PySem.W.looks_findIn X hs).here ?_)))
  rw [if_neg (by simp)]
  refine wpAny_bind (m := callSpecialIfBoundBy? _ (.ref x) (Str.ofString "__repr__")) ?_
  simp only [callSpecialIfBoundBy?, bindSpecialIfBound?]
  refine wpAny_holding (wpAny_bind (wpAny_bind (wpAny_bind (I.type.here ((PySem.W.looks_findIn X hs).here ?_)))))
  have back : wpAny (model prog w) A (call (.ref f) ([.ref x] ++ []) >>= fun v => pure (some v)) (fun r s' => wpAny (model prog w) A (match r with | some r => (do if (← isInstance r (.type "str")) = true then pure r else raiseError "TypeError" s!"__repr__ returned non-string (type {← typeNameOf r})") | none => unsupported "repr:special-get-raises") (fun v s'' => ∃ y u, v = .str y u ∧ Q y s'') E s') E s := by
    refine wpAny_bind (wpAny_mono h (fun v s' hv => wpAny_pure ?_) fun _ _ z => z)
    obtain ⟨y, u, rfl, q⟩ := hv
    exact wpAny_bind (wpAny_isInstance (T := "str") (b := true) rfl isSubtype_str_str (wpAny_pure ⟨y, u, rfl, q⟩))
  refine wpAny_bind (wpAny_askSetting (wpAny_ite ?_))
  split
  · exact wpAny_bind ((PySem.W.bind_fn X _ (beq_iff_eq.mp hf)).here (wpAny_pure (by exact back)))
  · exact wpAny_tryCatch (wpAny_bind ((PySem.W.bind_fn X _ (beq_iff_eq.mp hf)).here (wpAny_pure (by exact back))))
end PySem
namespace Ev
open PySem PySem.Spec PyProof.Rows L2 Builtin Builtin.List
/-- an item's text -/
def rpI (tb : List (Nat × Nat)) (F : FT) (b : Nat) (e : EV) (k : Str → Bool) : Bool := match e with
  | .non => (match fits (b + 4) with
    | true => k "None"
    | false => false)
  | .bl c => (match fits (b + 5) with
    | true => k (if c then "True" else "False")
    | false => false)
  | .int i => (match log1920 i && fits (b + (toString i : Str).length) with
    | true => k (toString i)
    | false => false)
  | .str x => (match fits (b + (reprText x).length) with
    | true => k (reprText x)
    | false => false)
  | .ins c fs => (match tabE tb c with
    | some n => (match fits b with
      | true => F n [.ins c fs] (fun r => match r with
        | .v (.str y) => (match fits (b + y.length) with
          | true => k y
          | false => false)
        | _ => false) (fun _ => false)
      | false => false)
    | none => false)
  | _ => false
def rpL (tb : List (Nat × Nat)) (F : FT) (k : Str → Bool) : List Str → List EV → Bool
  | done, [] => (match fits (listText done).length with
    | true => k (listText done)
    | false => false)
  | done, e :: es => rpI tb F (piled done + 1) e fun t => rpL tb F k (done ++ [t]) es
section
variable {X : Cx} {W : Wd} {Wx : WX} {F : FT} {hot tp : Bool} {k : Nat} {tb : List (Nat × Nat)} {g0 : Hp} {own : Nat → Option Addr} {fr : Frm} {σ : St}
theorem item_ok {A : Around} {pins : List (Addr × Obj)} {g : Gs} {H : Hp} {s : Shared} {e : EV} {u : V} {v : Value} {b : Nat} {kk : Str → Bool} {Wx : WX} (tk : L2N.Takes X Wx) (hK : X.K = W.K) (ht : ∀ q ∈ tb, ∃ f, SpF W "__repr__" q.1 f ∧ RawF X W F hot false k q.2 f []) (a : At X hot false k A H s)
    (I : Inv X pins σ H s) (S : Sim W g0 own none g fr σ H) (r : VR W g H e u) (rv : RelV u v) (h : rpI tb F b e kk = true) :
    wpAny (model X.prog X.w) A (pyReprUnder b v) (fun t s' => ∃ g' H', Inv X pins σ H' s' ∧ Sim W g0 own none g' fr σ H' ∧ Tr g H g' H' ∧ b + t.length ≤ sizeLine ∧ kk t = true) X.xe s := by
  have here : ∀ {t : Str} (_ : b + t.length ≤ sizeLine) (_ : kk t = true) (tk : Nat), ∃ g' H', Inv X pins σ H' { s with toks := tk } ∧ Sim W g0 own none g' fr σ H' ∧ Tr g H g' H' ∧ b + t.length ≤ sizeLine ∧ kk t = true := fun hb q tk => ⟨g, H, I.tok tk, S, .refl, hb, q⟩
  cases r with
  | non =>
    simp only [rpI] at h
    cases q : fits (b + 4) with
    | false => simp only [q] at h; cases h
    | true =>
      simp only [q] at h
      cases rv
      have hb : b + ("None" : Str).length ≤ sizeLine := fits_ok q
      exact ReprIs.none b hb A _ s _ fun tk => here hb h tk
  | bl c =>
    simp only [rpI] at h
    cases q : fits (b + 5) with
    | false => simp only [q] at h; cases h
    | true =>
      simp only [q] at h
      cases rv
      have hb : b + (if c then ("True" : Str) else "False").length ≤ sizeLine := by
        have z := fits_ok q
        cases c
        · exact z
        · exact Nat.le_trans (show b + 4 ≤ b + 5 by omega) z
      have h' : kk (if c then ("True" : Str) else "False") = true := by cases c <;> exact h
      exact ReprIs.bool c b hb A _ s _ fun tk => here hb h' tk
  | int i =>
    simp only [rpI] at h
    cases q : log1920 i && fits (b + (toString i : Str).length) with
    | false => simp only [q] at h; cases h
    | true =>
      simp only [q] at h
      obtain ⟨q1, q2⟩ := Bool.and_eq_true_iff.mp q
      obtain ⟨t, rfl⟩ := rv
      have hb : b + (toString i : Str).length ≤ sizeLine := fits_ok q2
      exact ReprIs.int t (Nat.le_of_ble_eq_true q1) b hb A _ s _ fun tk => here hb h tk
  | str x =>
    simp only [rpI] at h
    cases q : fits (b + (reprText x).length) with
    | false => simp only [q] at h; cases h
    | true =>
      simp only [q] at h
      obtain ⟨t, rfl⟩ := rv
      have hb := fits_ok q
      exact ReprIs.str x t (by omega) b hb A _ s _ fun tk => here hb h tk
  | @ins p dx vs c fs ho n rs z =>
    simp only [rpI] at h
    cases q : tabE tb c with
    | none => simp only [q] at h; cases h
    | some n' =>
      simp only [q] at h
      cases q1 : fits b with
      | false => simp only [q1] at h; cases h
      | true =>
        simp only [q1] at h
        obtain ⟨f', O, R⟩ := ht _ (tabE_mem q)
        cases rv
        obtain ⟨ox, od, J⟩ := inst_of I ho
        refine repU_own (fits_ok q1) (by have := a.rm.un; omega) I.kIn J (by rw [hK]; exact O.hs) (by rw [hK]; exact O.fn) ?_
        refine wpAny_mono (run_rawA (vs := [.ref p]) (Q := fun z H' => ∃ y g', z = .str y ∧ Sim W g0 own none g' fr σ H' ∧ Tr g H g' H' ∧ b + y.length ≤ sizeLine ∧ kk y = true) R a (passAtN tk σ) I (.cons rfl .nil) (den_callF (k := fun r _ => match r with | .v (.str y) => (match fits (b + y.length) with | true => kk y | false => false) | _ => false) (kx := fun _ _ => false) S (fun _ _ _ _ _ _ _ _ _ _ z => by cases z) (.cons (.ins ho n rs z) .nil) h fun x' g' H' r z S' T R q => ?_)) (fun v s' hv => ?_) fun _ _ z => z
        · split at q
          · rename_i y
            split at q
            · rename_i qf
              obtain ⟨e1, e2⟩ := R
              subst e1
              cases e2
              exact ⟨y, g', rfl, S', T, fits_ok qf, q⟩
            · cases q
          · cases q
        · obtain ⟨z, H', I', rz, y, g', rfl, S', T, hb, q⟩ := hv
          obtain ⟨t, rfl⟩ := rz
          exact ⟨y, t, rfl, g', H', I', S', T, hb, q⟩
  | _ => cases h
theorem loop_depth (A : Around) (args : Args) : (A.under (.builtin "list.__repr__.loop" args)).depth = A.depth + 1 := by
  first | rfl | simp [Around.under, Code.weight, Code.isCreation, Code.isGuard, Code.isCaller, Code.frames, Code.isFrame, guardIds]
theorem loop_units (A : Around) (args : Args) : (A.under (.builtin "list.__repr__.loop" args)).units = A.units + 1 := by
  first | rfl | simp [Around.under, Code.cUnits, Code.frames, Code.isFrame]
theorem loop_guards (A : Around) (args : Args) : (A.under (.builtin "list.__repr__.loop" args)).guards = A.guards.map fun gs => .builtin "list.__repr__.loop" args :: gs := by
  obtain ⟨a1, a2, a3, a4, a5⟩ := A
  have e : Code.isGuard (.builtin "list.__repr__.loop" args) = true := by
    show guardIds.contains "list.__repr__.loop" = true
    decide +kernel
  cases a4 <;> simp [Around.under, Code.guards, e, pushGuards]
theorem At.loop {A : Around} {H : Hp} {s : Shared} {p : Addr} {rest : List Value} (a : At X hot tp (k + 1) A H s) (hp : p < s.heap.objs.size) : At X hot false k (A.under (.builtin "list.__repr__.loop" ⟨.ref p :: rest, []⟩)) H s := by
  refine ⟨⟨?_, ?_⟩, ?_, ?_, ⟨?_, a.e0.mod, a.e0.bs, a.e0.bsz, a.e0.funs, a.e0.frf, a.e0.hok, a.e0.bare⟩⟩
  · have := a.rm.dp; rw [loop_depth]; omega
  · have := a.rm.un; rw [loop_units]; omega
  · have h := a.hh
    cases hot with
    | false => exact h
    | true => obtain ⟨p, ⟨h1, h2⟩, h3⟩ := h; exact ⟨p, ⟨h1, h2⟩, h3⟩
  · obtain ⟨gs, h1, h2, h3⟩ := a.gr
    refine ⟨_ :: gs, by rw [loop_guards, h1]; rfl, fun z => (by cases z), fun c hc x hx => ?_⟩
    rcases List.mem_cons.mp hc with rfl | hc
    · have : x = p := by simpa [grd] using hx
      rw [this]; exact hp
    · exact h3 c hc x hx
  · have h := a.e0.frames
    first
    | exact h
    | (simpa [Around.under, Code.envs, Code.isFrame, pushEnvs] using h)
theorem txt_le (ts : List Str) (t : Str) : t ∈ ts → t.length ≤ (listText ts).length := fun h => by
  have h1 := (textFrom_len ts 0 "[").2.1 t h
  show t.length ≤ (textFrom 0 "[" ts ++ "]").length
  rw [strLen_append]; omega
/-- the loop of a list's repr; P its parts -/
theorem loop_ok {A : Around} {pins : List (Addr × Obj)} {p P : Addr} {vs : List V} {kk : Str → Bool} {Wx : WX} {R : Result → Shared → Prop} {g1 : Gs} {H1 : Hp} (tk : L2N.Takes X Wx) (hK : X.K = W.K) (ht : ∀ q ∈ tb, ∃ f, SpF W "__repr__" q.1 f ∧ RawF X W F hot false k q.2 f [])
    (hpP : p ≠ P) (hE : ∀ e s', X.xe e s' → R (.error e) s') (aa : ∀ pins' H s, Inv X pins' σ H s → At X hot tp (k + 1) A H s)
    (hR : ∀ g' H' t u s', Inv X pins σ H' s' → Sim W g0 own none g' fr σ H' → Tr g1 H1 g' H' → kk t = true → R (.ok (.ret (.str t u))) s') :
    ∀ (es : List EV) (i : Nat) (s : Shared) (g : Gs) (H : Hp) (acc : Array Value) (c : Nat) (done : List (Str × Tok)), i + es.length = vs.length → Inv X pins σ H s → Sim W g0 own none g fr σ H → Tr g1 H1 g H → H p = some (.lst vs) → ¬ g.S p → VRs W g H es (vs.drop i) → FpOk X pins H P →
      s.heap.get? P = some { cls := .type "list", dict := none, data := .seq acc c, slots := #[] } → acc.toList = strValues done → done.length = i → rpL tb F kk (done.map (·.1)) es = true →
      codeAny (model X.prog X.w) A (.builtin "list.__repr__.loop" ⟨[.ref p, rawInt i, .ref P, rawInt ((piled (done.map (·.1)) : Nat) : Int)], []⟩) R s
  | [], i, s, g, H, acc, c, done, hl, I, S, T, hp, nS, r, fp, hP, hacc, hdl, h => by
    refine codeAny_builtin PySem.F.entry_list_repr_loop ?_
    show wpAny _ _ («list.__repr__.loop» ⟨[.ref p, .int i 0, .ref P, .int ((piled (done.map (·.1)) : Nat) : Int) 0], []⟩) _ _ s
    rw [repr_loop_tree]
    obtain ⟨_, its, nn, rv, hg⟩ := (show ObjOk X.prog X.w H s.heap p (.lst vs) from I.hok p _ hp)
    refine wpAny_bind (wpAny_listItems hg rfl ?_)
    have hnone : its.toArray[(i : Int).toNat]? = none := by
      have := rv.length
      simp at hl
      simp; omega
    simp only [hnone]
    unfold reprEnd
    refine wpAny_bind (wpAny_listItems hP rfl ?_)
    rw [hacc, repr_fold]
    refine wpAny_bind (wpAny_pure ?_)
    unfold rpL at h
    cases q : fits (listText (done.map (·.1))).length with
    | false => simp only [q] at h; cases h
    | true =>
      simp only [q] at h
      refine wpAny_bind (wpAny_mkStr (wpAny_pure ?_) (fits_ok q))
      exact hR g H _ _ _ (I.tok _) S T h
  | e :: es, i, s, g, H, acc, c, done, hl, I, S, T, hp, nS, r, fp, hP, hacc, hdl, h => by
    refine codeAny_builtin PySem.F.entry_list_repr_loop ?_
    show wpAny _ _ («list.__repr__.loop» ⟨[.ref p, .int i 0, .ref P, .int ((piled (done.map (·.1)) : Nat) : Int) 0], []⟩) _ _ s
    rw [repr_loop_tree]
    obtain ⟨hsz, its, nn, rv, hg⟩ := (show ObjOk X.prog X.w H s.heap p (.lst vs) from I.hok p _ hp)
    refine wpAny_bind (wpAny_listItems hg rfl ?_)
    have hlt : i < vs.length := by simp at hl; omega
    have hd := List.drop_eq_getElem_cons hlt
    rw [hd] at r
    cases r with
    | cons r1 r2 =>
    obtain ⟨x, hx, rx⟩ := rv.get (List.getElem?_eq_getElem hlt)
    have hsome : its.toArray[(i : Int).toNat]? = some x := by simpa using hx
    simp only [hsome]
    rw [Int.toNat_natCast]
    have hob : ∀ b ∈ [P], ∃ o, s.heap.get? b = some o ∧ ∀ v, o.data ≠ .cell v := fun b hb => by
      have e : b = P := by simpa using hb
      subst e
      exact ⟨_, hP, fun v z => by cases z⟩
    have hfp : ∀ b ∈ [P], FpOk X pins H b := fun b hb => by
      have e : b = P := by simpa using hb
      subst e
      exact fp
    have Ip := I.pinned (fp := [P]) hfp hob
    have a1 := (aa _ _ _ Ip).loop (rest := [rawInt i, .ref P, rawInt ((piled (done.map (·.1)) : Nat) : Int)]) (Heap.lt_size hg)
    unfold rpL at h
    refine wpAny_bind (wpAny_holding (wpAny_mono (item_ok tk hK ht a1 Ip S r1 rx h) (fun t s2 ht2 => ?_) fun e s' z => hE e s' z))
    obtain ⟨g2, H2, I2, S2, T2, hb, q⟩ := ht2
    refine wpAny_bind (wpAny_mkStr ?_ (by omega))
    refine wpAny_bind ?_
    show wpAny _ _ (updateSeq P _) _ _ _
    have P2 := I2.pin (P, _) (List.mem_append_right _ (List.mem_append_right _ (mem_pinsAt (fp := [P]) (by simp) hP)))
    have fp2 : FpOk X pins H2 P := ⟨P2.2.1, fp.2⟩
    obtain ⟨f0, f1, f2, f3, f4, f5⟩ := fp2
    have hasz : acc.size ≤ sizeLine := by
      have e1 : acc.toList.length = acc.size := by simp
      have e2 : (strValues done).length = done.length := by simp [strValues]
      rw [hacc] at e1; omega
    have hpush : (acc.push (.str t s2.toks)).size ≤ sizeLine + 1 := by rw [Array.size_push]; omega
    refine wpAny_updateSeq (f := fun z => z.push (.str t s2.toks)) P2.1 rfl (wpAny_pure ⟨PySem.F.quiet_list_repr_loop _, ?_⟩) hasz hpush
    have I3 : Inv X pins σ H2 { s2 with heap := s2.heap.update P (Obj.mapSeq fun z => z.push (.str t s2.toks)), toks := s2.toks + 1 } := (I2.unpinned).turned (it := P) (fun b o hb e => (Heap.get?_update_other _ _ (fun h : P = b => hb h.symm)).trans e) f0 f1 f3 f4 f5
    have e1 : ((i : Int) + 1) = ((i + 1 : Nat) : Int) := by omega
    have e2 : piled (done.map (·.1)) + (t.length + 2) = piled ((done ++ [(t, s2.toks)]).map (·.1)) := by rw [List.map_append, piled_append]; simp [piled]
    rw [e1, e2]
    refine loop_ok tk hK ht hpP hE aa hR es (i + 1) _ g2 H2 (acc.push (.str t s2.toks)) _ (done ++ [(t, s2.toks)]) (by simp at hl; omega) I3 S2 (T.trans T2) (T2.keep p _ hp (fun _ z => by cases z) nS).1 (T2.keep p _ hp (fun _ z => by cases z) nS).2 (r2.mono T2) ⟨f0, f1, f2, f3, f4, f5⟩ (Heap.get?_update_self _ P2.1 rfl) (by simp [hacc, strValues]) (by simp [hdl]) ?_
    rw [List.map_append]; exact q
end
end Ev

/-! repr(x). -/
namespace Ev
open PySem PySem.Spec PyProof.Rows L2 Builtin Builtin.List
def reprE (tb : List (Nat × Nat)) (F : FT) (x : EV) (fr : Frm) (k : RV → Frm → Bool) (kx : KX) : Bool := match x with
  | .ins c fs => (match tabE tb c with
    | some n => F n [.ins c fs] (fun r => match r with
      | .v (.str y) => k (.v (.str y)) fr
      | _ => false) (fun z => kx z fr)
    | none => false)
  | .lst (e :: es) => rpL tb F (fun t => k (.v (.str t)) fr) [] (e :: es)
  | _ => false
def dRepr (tb : List (Nat × Nat)) (d : ED) : ED := fun F fr k kx => d F fr (fun r fr1 => reprE tb F r.ev fr1 k kx) kx
section
variable {X : Cx} {W : Wd} {Wx : WX} {F : FT} {hot : Bool} {k : Nat}
theorem reprL_ok {pins : List (Addr × Obj)} {σ : St} {H : Hp} {s : Shared} {g0 : Hp} {own : Nat → Option Addr} {g : Gs} {fr : Frm} {kk : Str → Bool} {Q : VK} {p : Addr} {vs : List V} {e : EV} {es : List EV} {tb : List (Nat × Nat)} (en : En X W Wx hot true (k + 3)) (ht : ∀ q ∈ tb, ∃ f, SpF W "__repr__" q.1 f ∧ RawF X W F hot false k q.2 f [])
    (I : Inv X pins σ H s) (S : Sim W g0 own none g fr σ H) (hp : H p = some (.lst vs)) (nS : ¬ g.S p) (r : VRs W g H (e :: es) vs) (h : rpL tb F kk [] (e :: es) = true) (ck : ∀ g' H' t, Sim W g0 own none g' fr σ H' → Tr g H g' H' → kk t = true → Q (.str t) H') :
    wpAny (model X.prog X.w) X.A (call (.builtin "repr") [.ref p]) (EP X pins σ Q) X.xe s := by
  obtain ⟨_, its, nn, rv, hg⟩ := (show ObjOk X.prog X.w H s.heap p (.lst vs) from I.hok p _ hp)
  have hTy : s.TypeIs (.ref p) "list" := ⟨_, hg, rfl⟩
  have hu1 : X.A.in1.units < cLine := by have := en.rm.un; show X.A.units + 1 < _; omega
  obtain ⟨_, _, ⟨gs, hgs, htop, _⟩, _, _⟩ := en.gr
  have hgs0 : gs = [] := htop rfl
  subst hgs0
  refine Calls.call_function_entry PySem.F.kind_repr PySem.F.plain_repr PySem.F.entry_repr (PySem.F.args_repr1 _) ?_
  unfold Builtin.«repr»
  refine wpAny_bind (m := oneArg "repr" _) (wpAny_pure ?_)
  refine wpAny_bind (wpAny_cRoomFor hu1 ?_)
  refine wpAny_bind (wpAny_specialOf (name := Str.ofString "__repr__") hTy PySem.F.slot_list_repr.lookup ?_)
  rw [if_neg (by simp)]
  obtain ⟨x0, l0, hits⟩ : ∃ x l, its = x :: l := by
    have h1 := rv.length
    have h2 := r.length
    cases its with
    | nil => simp at h1; rw [h1] at h2; simp at h2
    | cons x l => exact ⟨x, l, rfl⟩
  subst hits
  have aa : ∀ pins' H s, Inv X pins' σ H s → At X hot true (k + 1) X.A.in1 H s := fun pins' H s I' => (en.here (tq := true) (j := k + 1 + 1) (by omega) (fun z => z) I').in1
  refine wpAny_bind (m := callSpecialIfBound? (.ref p) (Str.ofString "__repr__") _) (wpAny_callSpecialIfBound?_slot (name := Str.ofString "__repr__") hTy PySem.F.slot_list_repr ?_)
  refine wpAny_call (codeAny_call_builtin PySem.F.slot_list_repr.plain PySem.F.entry_list_repr (PySem.F.slot_list_repr.check _ _ _ _ _ _ _ _ hTy (PySem.F.args_list_repr_1 _) ?_))
  refine wpAny_list_repr_head (g := []) (show X.A.in1.in1.guards = some [] from hgs) (fun v rest kw m => by simp at m) hg rfl ?_
  refine wpAny_bind (m := newList []) (wpAny_newObj_type ?_)
  refine wpAny_pure ⟨PySem.F.quiet_list_repr_loop _, ?_⟩
  have hlt := Heap.lt_size hg
  have I1 : Inv X pins σ H { s with heap := s.heap.push { cls := .type "list", data := .seq [].toArray } } := I.kept (t' := s.toks) fun b o e => Heap.get?_push_of_some _ e
  have z := loop_ok (kk := kk) (P := s.heap.objs.size) (A := X.A.in1) (R := fun r s' => match r with | .ok (.ret v) => (∃ t u, v = .str t u ∧ EP X pins σ Q v s') | .ok _ => False | .error e => X.xe e s') (tb := tb) (pins := pins) (g1 := g) (H1 := H) en.tk en.hK ht (Nat.ne_of_lt hlt) (fun e s' z => z) aa
    (fun g' H' t u s' I' S' T q => ⟨t, u, rfl, .str t, H', I', ⟨u, rfl⟩, ck g' H' t S' T q⟩) (e :: es) 0 { s with heap := s.heap.push { cls := .type "list", data := .seq [].toArray } } g H #[] 0 [] (by have := r.length; simpa using this) I1 S .refl hp nS (by simpa using r) (I.fpOk (Nat.le_refl _) (I.hok.fresh (Nat.le_refl _))) (Heap.get?_push_size _ rfl) rfl rfl h
  refine codeAny_mono z fun r s' hr => ?_
  cases r with
  | error e => exact hr
  | ok fl =>
    cases fl with
    | ret v =>
      obtain ⟨t, u, rfl, q⟩ := hr
      refine wpAny_bind (wpAny_isInstance (typeIs_str _ _ _) isSubtype_str_str ?_)
      first
        | exact wpAny_pure ⟨_, rfl, q⟩
        | (rw [if_pos rfl]; exact wpAny_pure ⟨_, rfl, q⟩)
        | (simp only [if_true]; exact wpAny_pure ⟨_, rfl, q⟩)
    | next => exact False.elim hr
    | brk => exact False.elim hr
    | cont => exact False.elim hr
theorem re_repr {e : Expr} {d : ED} {tb : List (Nat × Nat)} {p pos : Pos} (en : En X W Wx hot true (k + 3)) (ht : ∀ q ∈ tb, ∃ f, SpF W "__repr__" q.1 f ∧ RawF X W F hot false k q.2 f []) (hg : Gl X "repr") (hm : X.mg "repr" = none) (ha : PA X [e] (denA W Wx F (dArgs [d])))
    (he : starEach [e] X.env = (false, eval e X.env) :: starEach [] X.env := by rfl) (hpl : (backTo pos (starEach [] X.env)).any (·.1) = false := by rfl) : PE X (.Call (.Name "repr" p) [e] [] pos) (den W Wx F (dRepr tb d)) := by
  refine ⟨fun pins s σ H Q I h => ?_⟩
  obtain ⟨g0, own, g, fr, kk, kx, S, cx, ck, h⟩ := h
  have h' : denA W Wx F (dArgs [d]) σ H (fun us H1 => ∃ own1 g1 fr1 x u, us = [u] ∧ Sim W g0 own1 none g1 fr1 σ H1 ∧ Tr g H g1 H1 ∧ VR W g1 H1 x u ∧ reprE tb F x fr1 kk kx = true) := by
    refine denA_then (kk := fun es fr1 => match es with | [x] => reprE tb F x fr1 kk kx | _ => false) S cx h fun own1 g1 fr1 H1 es us S1 t1 r1 h1 => ?_
    match es, h1 with
    | [x], h1 =>
      obtain ⟨u, rfl, r⟩ := r1.one
      exact ⟨own1, g1, fr1, x, u, rfl, S1, t1, r, h1⟩
  refine wpAny_Call_Name_kw (ld_blt I hg hm PyProof.Rows.boot_repr ?_)
  refine PyProof.Rows.callWith_builtin1 (thn (ha.run pos pins s σ H _ I h') fun us s1 ⟨vs, H1, I1, r1, own1, g1, fr1, x, u, ev, S1, t1, rx, q⟩ => ?_) he hpl
  subst ev
  obtain ⟨vu, rfl, ru⟩ : ∃ w, us = [w] ∧ RelV u w := by
    cases r1 with
    | cons a b => cases b; exact ⟨_, rfl, a⟩
  cases x with
  | ins c fs =>
    simp only [reprE] at q
    cases z : tabE tb c with
    | none => simp only [z] at q; cases q
    | some n' =>
      simp only [z] at q
      obtain ⟨f', O, R⟩ := ht _ (tabE_mem z)
      obtain ⟨pa, dx, vs, rfl, hi, nS, rs, hl⟩ := rx.insH
      cases ru
      obtain ⟨ox, od, J⟩ := inst_of I1 hi
      obtain ⟨m, Fm⟩ := I1.fr
      have a2 : At X hot false k X.A.in1 H1 s1 := (en.here (tq := false) (j := k + 1) (by omega) (fun z => by cases z) I1).in1
      refine PySem.W.repr_K (by have := a2.rm.un; omega) Fm I1.ok.mod.kin J (by rw [en.hK]; exact O.hs) (by rw [en.hK]; exact O.fn) (wpAny_mono (run_rawA (vs := [.ref pa]) (Q := fun z H => ∃ y, z = .str y ∧ Q z H) R a2 (passAtN en.tk σ) I1 (.cons rfl .nil) (den_callF (k := fun r f => match r with | .v (.str y) => kk (.v (.str y)) f | _ => false) (kx := kx) S1 (cx.mono t1) (.cons rx .nil) q fun x' g' H' r z S' T R q => ?_)) (fun v s' hv => strBack hv) fun _ _ z => z)
      split at q
      · rename_i y
        obtain ⟨e1, e2⟩ := R
        cases e2
        exact ⟨y, rfl, ck own1 x' g' fr1 H' (.v (.str y)) (.str y) S' (t1.trans T) ⟨e1, .str y⟩ q⟩
      · cases q
  | lst l =>
    cases l with
    | nil => cases q
    | cons e es =>
      obtain ⟨pa, vs, rfl, hp, nS, r⟩ := rx.lstH
      cases ru
      exact reprL_ok (kk := fun t => kk (.v (.str t)) fr1) en ht I1 S1 hp nS r q fun g' H' t S' T q => ck own1 none g' fr1 H' (.v (.str t)) (.str t) S' (t1.trans T) (RR.val (.str t)) q
  | _ => cases q
end
end Ev

/-! Calls by keywords alone; calls of built-ins. -/
namespace Ev
open PySem PySem.Spec PyProof.Rows L2
def pickL {α : Type} : List Nat → List α → List α
  | [], _ => []
  | i :: r, l => match l[i]? with
    | some x => x :: pickL r l
    | none => pickL r l
def pickE : List Nat → List EV → List EV
  | [], _ => []
  | i :: r, l => match nth l i with
    | some x => x :: pickE r l
    | none => pickE r l
theorem pickE_eq : ∀ (ix : List Nat) (l : List EV), pickE ix l = pickL ix l
  | [], _ => rfl
  | i :: r, l => by
    unfold pickE pickL
    rw [nth_eq, pickE_eq r l]
    cases l[i]? <;> rfl
theorem pick_vrs {W : Wd} {g : Gs} {H : Hp} {es : List EV} {vs : List V} (r : VRs W g H es vs) : ∀ ix : List Nat, VRs W g H (pickL ix es) (pickL ix vs)
  | [] => .nil
  | i :: ix => by
    unfold pickL
    cases q : es[i]? with
    | some e =>
      obtain ⟨v, h1, h2⟩ := r.get q
      rw [h1]
      exact .cons h2 (pick_vrs r ix)
    | none =>
      have : vs[i]? = none := by
        rw [List.getElem?_eq_none_iff] at q ⊢
        rw [← r.length]; exact q
      rw [this]
      exact pick_vrs r ix
theorem pick_vals {vs : List V} {us : List Value} (r : Vals vs us) : ∀ ix : List Nat, Vals (pickL ix vs) (pickL ix us)
  | [] => .nil
  | i :: ix => by
    unfold pickL
    cases q : vs[i]? with
    | some e =>
      obtain ⟨v, h1, h2⟩ := r.get q
      rw [h1]
      exact .cons h2 (pick_vals r ix)
    | none =>
      rw [r.none_of q]
      exact pick_vals r ix
def dCallK (n : Nat) (ix : List Nat) (a : AD) : ED := fun F fr k kx => a F fr (fun es fr1 => F n (pickE ix es) (fun r => k r fr1) fun z => kx z fr1) kx
/-- what binds keywords -/
def KwB (K : PySem.W.Frag) (fd : FuncData) (ps ks : List Str) (ix : List Nat) : Prop := ∀ (s : Shared) (ws : List Value), K.In s.heap → ws.length = ks.length → BindsTo s fd ⟨[], ks.zip ws⟩ (ps.zip (pickL ix ws))
section
variable {X : Cx} {W : Wd} {Wx : WX} {F : FT} {hot tp tq : Bool} {k n : Nat} {f : Addr} {fd : FuncData} {ps ks : List Str} {ix : List Nat}
theorem rk_args : ∀ {es : List Keyword} {ds : List ED}, Paired (fun (e : Keyword) d => ∃ nm v p, e = ⟨nm, v, p⟩ ∧ PE X v (den W Wx F d)) es ds → PK X es (denA W Wx F (dArgs ds))
  | _, _, .nil => ⟨fun pos pins s σ H Q I h => by
    obtain ⟨g0, own, g, fr, k, kx, S, cx, ck, h⟩ := h
    exact pk_nil.run pos pins s σ H Q I (ck own g fr H [] [] S .refl .nil h)⟩
  | _, _, .cons (a := e) (b := d) ⟨nm, v, p, he, h⟩ r => by
    subst he
    refine ⟨fun pos pins s σ H Q I q => (pk_cons h (rk_args r)).run pos pins s σ H Q I ?_⟩
    obtain ⟨g0, own, g, fr, k, kx, S, cx, ck, q⟩ := q
    refine den_then (kk := fun x fr1 => dArgs _ F fr1 (fun es fr2 => k (x :: es) fr2) kx) S cx q fun own1 g1 fr1 H1 x u S1 t1 r1 h1 => ?_
    refine denA_then S1 (cx.mono t1) h1 fun own2 g2 fr2 H2 es us S2 t2 r2 h2 => ?_
    exact ck own2 g2 fr2 H2 _ _ S2 (t1.trans t2) (.cons (r1.mono t2) r2) h2
theorem run_kwA {sp : Sp} {E : XK} {Q : VK} {ws : List Value} {vs : List V} {pins : List (Addr × Obj)} {σ : St} {H : Hp} {s : Shared} {A : Around} (R : FnG X.prog X.w X.K X.mg X.base hot tp k f fd ps sp) (a : At X hot tp k A H s) (hb : KwB X.K fd ps ks ix)
    (hx : PassesAt (L2N.CX X.prog X.w) X σ E) (I : Inv X pins σ H s) (r : Vals vs ws) (hl : vs.length = ks.length) (h : sp (pickL ix vs) H Q E) : wpAny (model X.prog X.w) A (call (.ref f) [] (ks.zip ws)) (EP X pins σ Q) X.xe s := by
  refine wpAny_call (codeAny_mono (R.run A X.stack s H ⟨[], ks.zip ws⟩ (pickL ix ws) (pickL ix vs) Q E a.rm a.hh a.gr a.e0 (hb s ws I.kIn (r.length.symm.trans hl)) (pick_vals r ix) h) fun r s' hq => ?_)
  cases r with
  | error e => exact hx pins H s e s' I hq
  | ok fl =>
    cases fl with
    | ret u => exact I.after hq
    | next => exact False.elim hq
    | brk => exact False.elim hq
    | cont => exact False.elim hq
/-- the list has the length of its parts -/
theorem den_len : ∀ (ds : List ED) {g0 : Hp} {own : Nat → Option Addr} {g : Gs} {fr : Frm} {σ : St} {H : Hp} {Q : List V → Hp → Prop} {kk : List EV → Frm → Bool} {kx : KX}, Sim W g0 own none g fr σ H → CoX W Wx g0 σ g H kx → dArgs ds F fr kk kx = true →
    (∀ own1 g1 fr1 H1 es us, Sim W g0 own1 none g1 fr1 σ H1 → Tr g H g1 H1 → VRs W g1 H1 es us → us.length = ds.length → kk es fr1 = true → Q us H1) → denA W Wx F (dArgs ds) σ H Q := by
  intro ds g0 own g fr σ H Q kk kx S c h nxt
  have key : ∀ (ds : List ED) (fr : Frm) (kk : List EV → Frm → Bool), dArgs ds F fr kk kx = dArgs ds F fr (fun es fr1 => match Nat.beq es.length ds.length with | true => kk es fr1 | false => kk es fr1) kx := fun ds fr kk => by
    congr 1
    funext es fr1
    cases Nat.beq es.length ds.length <;> rfl
  have key2 : ∀ (ds : List ED) (fr : Frm) (kk : List EV → Frm → Bool), dArgs ds F fr kk kx = dArgs ds F fr (fun es fr1 => match Nat.beq es.length ds.length with | true => kk es fr1 | false => false) kx := by
    intro ds
    induction ds with
    | nil => intro fr kk; rfl
    | cons d ds ih =>
      intro fr kk
      show d F fr (fun r fr1 => dArgs ds F fr1 (fun es fr2 => kk (r.ev :: es) fr2) kx) kx = d F fr (fun r fr1 => dArgs ds F fr1 (fun es fr2 => _) kx) kx
      congr 1
      funext r fr1
      rw [ih fr1]
      rfl
  rw [key2] at h
  refine denA_then S c h fun own1 g1 fr1 H1 es us S1 t1 r1 h1 => ?_
  cases q : Nat.beq es.length ds.length with
  | false => rw [q] at h1; cases h1
  | true =>
    rw [q] at h1
    exact nxt own1 g1 fr1 H1 es us S1 t1 r1 (by rw [← r1.length]; exact Nat.eq_of_beq_eq_true q) h1
theorem re_callK {x : Str} {kws : List Keyword} {ds : List ED} {p pos : Pos} (en : En X W Wx hot tp (k + 3)) (R : FnG X.prog X.w X.K X.mg X.base hot tq k f fd ps (spF W F n)) (hq : tq = true → tp = true) (hb : KwB X.K fd ps ks ix) (hg : Gl X x) (hm : X.mg x = some (.ref f)) (hk : PySem.W.keepIn X.K (.ref f) = true)
    (hkw : Paired (fun (e : Keyword) d => ∃ nm v p, e = ⟨nm, v, p⟩ ∧ PE X v (den W Wx F d)) kws ds) (hl : ds.length = ks.length) (hall : (backToKw pos (keywordEach kws X.env)).all (·.1.isSome) = true := by rfl) (hks : (backToKw pos (keywordEach kws X.env)).filterMap (·.1) = ks := by rfl)
    (hdb : (x == ("__debug__" : Str)) = false := by decide) (hpl : ((backTo pos (starEach [] X.env)).any (·.1) || (backToKw pos (keywordEach kws X.env)).any (·.1.isNone)) = false := by rfl) :
    PE X (.Call (.Name x p) [] kws pos) (den W Wx F (dCallK n ix (dArgs ds))) := by
  refine ⟨fun pins s σ H Q I h => ?_⟩
  obtain ⟨g0, own, g, fr, kk, kx, S, cx, ck, h⟩ := h
  have h' : denA W Wx F (dArgs ds) σ H (fun us H1 => us.length = ds.length ∧ spF W F n (pickL ix us) H1 Q (WE Wx σ)) := by
    refine den_len (kk := fun es fr1 => F n (pickE ix es) (fun r => kk r fr1) fun z => kx z fr1) ds S cx h fun own1 g1 fr1 H1 es us S1 t1 r1 l1 h1 => ⟨l1, ?_⟩
    rw [pickE_eq] at h1
    exact den_callF (k := kk) (kx := kx) S1 (cx.mono t1) (pick_vrs r1 ix) h1 fun x' g' H' r u S' T R q => ck own1 x' g' fr1 H' r u S' (t1.trans T) R q
  refine wpAny_Call_Name_kw (ld_glob I hg hm ?_ hdb)
  refine PySem.W.callWith_KW0 (h₀ := X.base) I.ok.mod.kin hk hall (thn ((rk_args hkw).run pos pins s σ H _ I h') fun ws s1 ⟨vs, H1, I1, r, hl2, q⟩ => ⟨I1.kIn, ?_⟩) hpl
  rw [hks]
  exact run_kwA R (en.here (by omega) hq I1) hb (passAtN en.tk σ) I1 r (hl2.trans hl) q
/-! ### built-ins -/
theorem re_bltF {x : Str} {a : AD} {o : List EV → Option RV} {r : List V → Hp → VK → Prop} {id : String} {e : Expr} {es : List Expr} {p pos : Pos} (ok : AOk W r o) (hc : CallR X (.builtin id) r) (hg : Gl X x) (hm : X.mg x = none) (hv : bootBuiltins x = some (.builtin id)) (ha : PA X (e :: es) (denA W Wx F a)) (hn : x ≠ "__name__" := by decide)
    (hdb : (x == ("__debug__" : Str)) = false := by decide) (he : starEach (e :: es) X.env = (false, eval e X.env) :: starEach es X.env := by rfl) (hpl : (backTo pos (starEach es X.env)).any (·.1) = false := by rfl) : PE X (.Call (.Name x p) (e :: es) [] pos) (den W Wx F (dBlt o a)) :=
  Ev.PE.imp (pe_callB hc hg hm hv ha hn hdb he hpl) fun σ H Q h => re_blt ok h
theorem re_bltT {x : Str} {a : AD} {o : List EV → Option RV} {r : List V → Hp → VK → Prop} {T : String} {e : Expr} {es : List Expr} {p pos : Pos} (ok : AOk W r o) (hc : CallR X (.type T) r) (hg : Gl X x) (hm : X.mg x = none) (hv : bootBuiltins x = some (.type T)) (ha : PA X (e :: es) (denA W Wx F a)) (hn : x ≠ "__name__" := by decide)
    (hdb : (x == ("__debug__" : Str)) = false := by decide) (he : starEach (e :: es) X.env = (false, eval e X.env) :: starEach es X.env := by rfl) (hpl : (backTo pos (starEach es X.env)).any (·.1) = false := by rfl) : PE X (.Call (.Name x p) (e :: es) [] pos) (den W Wx F (dBlt o a)) :=
  Ev.PE.imp (pe_callTy hc hg hm hv ha hn hdb he hpl) fun σ H Q h => re_blt ok h
/-- a module's function (from math) -/
theorem re_bltM {x : Str} {a : AD} {o : List EV → Option RV} {r : List V → Hp → VK → Prop} {id : String} {e : Expr} {es : List Expr} {p pos : Pos} (ok : AOk W r o) (hc : CallR X (.builtin id) r) (hg : Gl X x) (hm : X.mg x = some (.builtin id)) (ha : PA X (e :: es) (denA W Wx F a))
    (hdb : (x == ("__debug__" : Str)) = false := by decide) (he : starEach (e :: es) X.env = (false, eval e X.env) :: starEach es X.env := by rfl) (hpl : (backTo pos (starEach es X.env)).any (·.1) = false := by rfl) : PE X (.Call (.Name x p) (e :: es) [] pos) (den W Wx F (dBlt o a)) :=
  Ev.PE.imp (pe_callBfun hc hg hm ha hdb he hpl) fun σ H Q h => re_blt ok h
end
/-! ### lcm -/
theorem log_of {n k : Nat} (hk : 0 < k) (h : n.log2 < k) : n < 2 ^ k := by
  by_cases h0 : n = 0
  · rw [h0]; exact Nat.two_pow_pos k
  · exact (Nat.log2_lt h0).mp h
theorem log_to {n k : Nat} (hk : 0 < k) (h : n < 2 ^ k) : n.log2 < k := by
  by_cases h0 : n = 0
  · rw [h0, Nat.log2_zero]; exact hk
  · exact (Nat.log2_lt h0).mpr h
def rLcm : List V → Hp → VK → Prop := fun vs H Q => ∃ a b : Int, vs = [.int a, .int b] ∧ a.natAbs.log2 < 6000 ∧ b.natAbs.log2 < 6000 ∧ Q (.int ((Nat.lcm a.natAbs b.natAbs : Nat) : Int)) H
theorem cr_lcm {X : Cx} : CallR X (.builtin "math.lcm") rLcm := by
  intro pins s σ H vs us Q I r h
  obtain ⟨a, b, rfl, ha, hb, q⟩ := h
  obtain ⟨t, u, rfl⟩ := Vals.int2 r
  have ha' := log_of (by decide) ha
  have hb' := log_of (by decide) hb
  have one : (1 : Nat) < 2 ^ 6000 := Nat.one_lt_two_pow (by decide)
  have e : Nat.lcm 1 a.natAbs = a.natAbs := Nat.lcm_one_left _
  have h1 : (max 1 a.natAbs).log2 < 6000 := log_to (by decide) (Nat.max_lt.mpr ⟨one, ha'⟩)
  have h2 : (max a.natAbs b.natAbs).log2 < 6000 := log_to (by decide) (Nat.max_lt.mpr ⟨ha', hb'⟩)
  have hl : (Nat.lcm a.natAbs b.natAbs) < 2 ^ 12000 := by
    refine Nat.lt_of_le_of_lt (Nat.div_le_self _ _) ?_
    have := Nat.mul_lt_mul'' ha' hb'
    rw [← Nat.pow_add] at this
    exact this
  have hsz : ((((Nat.lcm 1 a.natAbs).lcm b.natAbs : Nat) : Int)).natAbs.log2 < bitsLine := by
    rw [e, Int.natAbs_natCast]
    exact Nat.lt_of_lt_of_le (log_to (by decide) hl) (by decide)
  have z := (PySem.W.mg_run_lcm a t b u (by omega) (by omega) hsz).meets
  rw [e] at z
  exact PySem.call_function_meets PySem.W.MGF.kind_lcm PySem.W.MGF.plain_lcm PySem.W.MGF.entry_lcm (PySem.W.MGF.args_lcm _ _) z ⟨.int _, H, I.tok _, ⟨_, rfl⟩, q⟩
theorem ok_lcm {W : Wd} : AOk W rLcm oLcm := by
  intro g0 own g fr σ H xs us v Q S rs e q
  unfold oLcm at e
  split at e
  · split at e
    · rename_i hf
      cases e
      obtain ⟨u, w, rfl, r, r2⟩ := rs.two
      cases r; cases r2
      obtain ⟨h1, h2⟩ := Bool.and_eq_true_iff.mp hf
      exact ⟨_, _, rfl, Nat.le_of_ble_eq_true h1, Nat.le_of_ble_eq_true h2, end_v S (.int _) q⟩
    · cases e
  · cases e
end Ev

/-! Names and blocks. -/
namespace Ev
open PySem PySem.Spec PyProof.Rows L2
/-- the context of a body or a block: N its names, S its scope -/
structure Nm (X : Cx) (N : List Str) (S : Scope) : Prop where
  n : X.N = N
  s : X.env.scope = S
section
variable {X : Cx} {W : Wd} {Wx : WX} {F : FT} {hot tp : Bool} {k : Nat} {N : List Str} {S : Scope} {x : Str} {i : Nat}
/-- how a name stands in a scope: 0 local, 1 cell, 2 free -/
def nameK (S : Scope) (x : Str) : Option NameKind := S.names.lookup x
theorem Nm.at (nm : Nm X N S) (h : N[i]? = some x) : X.N[i]? = some x := by rw [nm.n]; exact h
theorem Nm.vis (nm : Nm X N S) (h : S.names.lookup x = some .local ∨ S.names.lookup x = some .cell ∨ S.names.lookup x = some .free) : Vis X.env.scope x := by unfold Vis; rw [nm.s]; exact h
theorem Nm.loc (nm : Nm X N S) (h : S.names.lookup x = some .local ∨ S.names.lookup x = some .cell) : L2.Loc X.env.scope x := by unfold L2.Loc; rw [nm.s]; exact h
theorem Nm.isL (nm : Nm X N S) (h : S.names.lookup x = some .local) : X.env.scope.names.lookup x = some .local := by rw [nm.s]; exact h
theorem Nm.gl (nm : Nm X N S) (h : S.names.lookup x = some .globalImplicit) : Gl X x := by unfold Gl Env.kindOf; rw [nm.s]; exact h
theorem Nm.nd (nm : Nm X N S) (h : N.Nodup) : X.N.Nodup := by rw [nm.n]; exact h
/-- a block's names -/
theorem Nm.blk (nm : Nm X N S) (cs : Scope) (s : Shared) (H : Hp) (C : Addr) (cl : List (Str × Addr)) (fp : List Addr) : Nm (X.blk s H cs (compEnvC cs cl C X.env) fp) N (relS cs S) :=
  ⟨nm.n, by show relS cs X.env.scope = _; rw [nm.s]⟩
theorem Nm.blkOk {cs : Scope} {own : List (Str × Nat)} (nm : Nm X N S) (h : BlkOk N S cs own) : BlkOk X.N X.env.scope cs own := by rw [nm.n, nm.s]; exact h
theorem En.blk (en : En X W Wx false tp k) (cs : Scope) (s : Shared) (H : Hp) (C : Addr) (cl : List (Str × Addr)) (fp : List Addr) : En (X.blk s H cs (compEnvC cs cl C X.env) fp) W Wx0 false tp k :=
  ⟨en.hK, fun u s' x => by obtain ⟨_, _, _, _, _, _, _, _, _, _, _, _, _, _, _, _, z⟩ := x; exact z.elim, en.rm, PassesOwn.never, en.cold, fun z => (by cases z), en.gr⟩
theorem En.calm (en : En X W Wx false tp k) : X.calm = true := (en.cold rfl).1
/-- a name's value -/
theorem n_var (nm : Nm X N S) (h : N[i]? = some x) (hv : S.names.lookup x = some .local ∨ S.names.lookup x = some .cell ∨ S.names.lookup x = some .free) {pos : Pos} (hd : (x == ("__debug__" : Str)) = false := by decide +kernel) (hcd : (x == ("__classdict__" : Str)) = false := by decide +kernel) : PE X (.Name x pos) (den W Wx F (dVar i)) :=
  re_var (nm.at h) (nm.vis hv) hd hcd
/-- numbers, texts -/
theorem n_int {j : Int} {kd : Nat} {pos : Pos} : PE X (.Constant (.int j) kd pos) (den W Wx F (dC (.int j))) := re_con pe_int fun _ _ => .int j
theorem n_bl {b : Bool} {kd : Nat} {pos : Pos} : PE X (.Constant (.bool b) kd pos) (den W Wx F (dC (.bl b))) := re_con pe_bl fun _ _ => .bl b
theorem n_non {kd : Nat} {pos : Pos} : PE X (.Constant .none kd pos) (den W Wx F (dC .non)) := re_con pe_non fun _ _ => .non
theorem n_str {y : Str} {kd : Nat} {pos : Pos} : PE X (.Constant (.str y) kd pos) (den W Wx F (dC (.str y))) := re_con pe_str fun _ _ => .str y
/-- arguments, one behind another -/
theorem n_nil : PA X [] (denA W Wx F (dArgs [])) := re_args .nil
theorem n_cons {e : Expr} {es : List Expr} {d : ED} {ds : List ED} (h : PE X e (den W Wx F d)) (r : PA X es (denA W Wx F (dArgs ds))) (hs : starEach (e :: es) X.env = (false, eval e X.env) :: starEach es X.env := by rfl) : PA X (e :: es) (denA W Wx F (dArgs (d :: ds))) := by
  refine Ev.PA.imp (pa_cons h r hs) fun σ H Q q => ?_
  obtain ⟨g0, own, g, fr, k, kx, S, cx, ck, q⟩ := q
  refine den_then (kk := fun x fr1 => dArgs _ F fr1 (fun es fr2 => k (x :: es) fr2) kx) S cx q fun own1 g1 fr1 H1 x u S1 t1 r1 h1 => ?_
  refine denA_then S1 (cx.mono t1) h1 fun own2 g2 fr2 H2 es us S2 t2 r2 h2 => ?_
  exact ck own2 g2 fr2 H2 _ _ S2 (t1.trans t2) (.cons (r1.mono t2) r2) h2
/-- built-in operators -/
theorem n_bin {op : Operator} {r : R2} {o : EV → EV → Option RV} {a b : Expr} {da db : ED} {pos : Pos} (ho : OpR X (binaryOp op) r) (ok : BinOk W r o) (ha : PE X a (den W Wx F da)) (hb : PE X b (den W Wx F db)) : PE X (.BinOp a op b pos) (den W Wx F (dBin o da db)) := Ev.PE.imp (pe_op ho ha hb) fun _ _ _ h => den_bin ok h
theorem n_un {op : UnaryOp} {r : V → Hp → VK → Prop} {o : EV → Option RV} {a : Expr} {da : ED} {pos : Pos} (ho : UnR X (unaryOp op) r) (ok : UnOk W r o) (ha : PE X a (den W Wx F da)) : PE X (.UnaryOp op a pos) (den W Wx F (dUn o da)) := Ev.PE.imp (pe_un ho ha) fun _ _ _ h => den_un ok h
theorem n_cmp {op : CmpOp} {r : R2} {o : EV → EV → Option RV} {a b : Expr} {da db : ED} {pos : Pos} (ho : OpR X (compareOp op) r) (ok : BinOk W r o) (ha : PE X a (den W Wx F da)) (hb : PE X b (den W Wx F db)) (hm : behindInMarks op b = false) : PE X (.Compare a [op] [b] pos) (den W Wx F (dBin o da db)) := Ev.PE.imp (pe_cmpR ho ha hb hm) fun _ _ _ h => den_bin ok h
theorem n_ix {a b : Expr} {da db : ED} {pos : Pos} (hK : X.K = W.K) (ha : PE X a (den W Wx F da)) (hb : PE X b (den W Wx F db)) (hs : PlainIx b := by intros _ _; rfl) : PE X (.Subscript a b pos) (den W Wx F (dBin bIx da db)) :=
  Ev.PE.imp (pe_ix ix_seq ha hb hs) fun _ _ _ q => by rw [hK]; exact den_bin ok_ix q
theorem n_tup {es : List Expr} {ds : List ED} {x1} {pos : Pos} (h : PA X es (denA W Wx F (dArgs ds))) : PE X (.Tuple es x1 pos) (den W Wx F (dTup (dArgs ds))) := Ev.PE.imp (pe_tup h) fun _ _ _ q => re_tup q
theorem n_lst {es : List Expr} {ds : List ED} {pos : Pos} (h : PA X es (denA W Wx F (dArgs ds))) : PE X (.List es pos) (den W Wx F (dLst (dArgs ds))) := Ev.PE.imp (pe_lst h) fun _ _ _ q => re_lst q
theorem n_ife {c a b : Expr} {t : TD} {da db : ED} {pos : Pos} (hc : PT X c (denT W Wx F t)) (ha : PE X a (den W Wx F da)) (hb : PE X b (den W Wx F db)) : PE X (.IfExp c a b pos) (den W Wx F (dIfE t da db)) := Ev.PE.imp (pe_ifExp hc ha hb) fun _ _ _ q => re_ife q
theorem n_one {op} {a : Expr} {d : ED} {pos : Pos} (h : PE X a (den W Wx F d)) : PE X (.BoolOp op [a] pos) (den W Wx F d) := pe_one h
theorem n_and {a b : Expr} {rest : List Expr} {da db : ED} {pos : Pos} (ha : PE X a (den W Wx F da)) (hb : PE X (.BoolOp .And (b :: rest) pos) (den W Wx F db)) : PE X (.BoolOp .And (a :: b :: rest) pos) (den W Wx F (dAndV da db)) := Ev.PE.imp (pe_and ha hb) fun _ _ _ q => re_andV q
theorem n_or {a b : Expr} {rest : List Expr} {da db : ED} {pos : Pos} (ha : PE X a (den W Wx F da)) (hb : PE X (.BoolOp .Or (b :: rest) pos) (den W Wx F db)) : PE X (.BoolOp .Or (a :: b :: rest) pos) (den W Wx F (dOrV da db)) := Ev.PE.imp (pe_or ha hb) fun _ _ _ q => re_orV q
theorem n_not {a : Expr} {d : ED} {pos : Pos} (h : PE X a (den W Wx F d)) : PE X (.UnaryOp .Not a pos) (den W Wx F (dNotV d)) := Ev.PE.imp (pe_not h) fun _ _ _ q => re_notV q
/-- tests -/
theorem t_val {e : Expr} {d : ED} (h : PE X e (den W Wx F d)) (he : ∀ whole, isTrue e X.env whole = (do let v ← whole; standAt e.pos; holding [v] (truthy v)) := by intro _; rfl) : PT X e (denT W Wx F (dTb d)) := Ev.PT.imp (pt_val h he) fun _ _ _ q => rt_b (t := fun _ _ _ => True) q
theorem t_tru {e : Expr} {d : ED} (hK : X.K = W.K) (h : PE X e (den W Wx F d)) (he : ∀ whole, isTrue e X.env whole = (do let v ← whole; standAt e.pos; holding [v] (truthy v)) := by intro _; rfl) : PT X e (denT W Wx F (dTt d)) := Ev.PT.imp (pt_truth h he) fun _ _ _ q => by rw [hK]; exact rt_t q
theorem t_cmp {op : CmpOp} {r : R2} {o : EV → EV → Option RV} {a b : Expr} {da db : ED} {pos : Pos} (ho : OpR X (compareOp op) r) (ok : BinOk W r o) (ha : PE X a (den W Wx F da)) (hb : PE X b (den W Wx F db)) (hm : behindInMarks op b = false) : PT X (.Compare a [op] [b] pos) (denT W Wx F (dTb (dBin o da db))) :=
  Ev.PT.imp (pt_cmpR ho ha hb hm) fun _ _ _ q => by
    have z := rt_b (t := fun _ _ _ => True) q
    obtain ⟨g0, own, g, fr, k, kx, S, cx, ck, h⟩ := z
    exact den_bin ok ⟨g0, own, g, fr, k, kx, S, cx, ck, h⟩
theorem t_not {a : Expr} {t : TD} {pos : Pos} (h : PT X a (denT W Wx F t)) : PT X (.UnaryOp .Not a pos) (denT W Wx F (dTnot t)) := Ev.PT.imp (pt_not h) fun _ _ _ q => rt_not q
theorem w_and1 {a : Expr} {t : TD} {pos : Pos} (h : PT X a (denT W Wx F t)) : PW X (.BoolOp .And [a] pos) (denT W Wx F t) := pw_and1 h
theorem w_or1 {a : Expr} {t : TD} {pos : Pos} (h : PT X a (denT W Wx F t)) : PW X (.BoolOp .Or [a] pos) (denT W Wx F t) := pw_or1 h
theorem w_and {a b : Expr} {rest : List Expr} {t u : TD} {pos : Pos} (h : PT X a (denT W Wx F t)) (h2 : PW X (.BoolOp .And (b :: rest) pos) (denT W Wx F u)) : PW X (.BoolOp .And (a :: b :: rest) pos) (denT W Wx F (dTand t u)) := Ev.PW.imp (pw_and h h2) fun _ _ _ q => rt_and q
theorem w_or {a b : Expr} {rest : List Expr} {t u : TD} {pos : Pos} (h : PT X a (denT W Wx F t)) (h2 : PW X (.BoolOp .Or (b :: rest) pos) (denT W Wx F u)) : PW X (.BoolOp .Or (a :: b :: rest) pos) (denT W Wx F (dTor t u)) := Ev.PW.imp (pw_or h h2) fun _ _ _ q => rt_or q
end
end Ev

/-! What printed walks use. -/
namespace Ev
open PySem PySem.Spec PyProof.Rows L2
def fnE (np nN : Nat) (D : SD) (F' : FT) : List EV → (RV → Bool) → (XV → Bool) → Bool := fun es k kx => match Nat.beq es.length np with
  | true => D F' (frE es nN) (ksF k kx)
  | false => false
def inE (c nf np nN : Nat) (D : SD) (F' : FT) : List EV → (RV → Bool) → (XV → Bool) → Bool := fun es k kx => match Nat.beq es.length np with
  | true => D F' (.self c [] :: frE es nN) (ksI c nf k kx)
  | false => false
theorem isFn_of {F F' : FT} {n np nN : Nat} {D : SD} (h : F n = fnE np nN D F') : IsFn F F' n np nN D := fun es k kx q => by
  rw [h] at q
  unfold fnE at q
  cases z : Nat.beq es.length np with
  | false => simp only [z] at q; cases q
  | true => simp only [z] at q; exact ⟨Nat.eq_of_beq_eq_true z, q⟩
theorem isIn_of {F F' : FT} {n c nf np nN : Nat} {D : SD} (h : F n = inE c nf np nN D F') : IsIn F F' n c nf np nN D := fun es k kx q => by
  rw [h] at q
  unfold inE at q
  cases z : Nat.beq es.length np with
  | false => simp only [z] at q; cases q
  | true => simp only [z] at q; exact ⟨Nat.eq_of_beq_eq_true z, q⟩
/-- all that may be drawn -/
def allN : Nat → (Nat → Bool) → Bool
  | 0, _ => true
  | n + 1, p => match p n with
    | true => allN n p
    | false => false
theorem allN_iff : ∀ {n : Nat} {p : Nat → Bool}, allN n p = true ↔ ∀ d, d < n → p d = true
  | 0, p => ⟨fun _ d h => absurd h (Nat.not_lt_zero _), fun _ => rfl⟩
  | n + 1, p => by
    unfold allN
    constructor
    · intro h d hd
      cases q : p n with
      | false => rw [q] at h; cases h
      | true =>
        rw [q] at h
        rcases Nat.lt_or_ge d n with l | l
        · exact allN_iff.mp h d l
        · have : d = n := by omega
          subst this; exact q
    · intro h
      rw [h n (Nat.lt_succ_self _)]
      exact allN_iff.mpr fun d hd => h d (Nat.lt_succ_of_lt hd)
def drawE (m : Int) (k : RV → Bool) : Bool := match m with
  | .ofNat m => Nat.blt 0 m && (Nat.blt m 100000 && allN m fun d => k (.v (.int (.ofNat d))))
  | .negSucc _ => false
/-- an environment that shows its scope alone -/
def envS (S : Scope) : Env := { scope := S, locals := 0, globals := 0, cells := [], qual := Str.empty, func := none, code := .none, frame := none, builtins := 0 }
theorem swap_of {ts : List Expr} {v : Expr} {env : Env} {S : Scope} {r : Sem (Option (List Str))} (h : env.scope = S) (e : swappedStores ts v (envS S) = r) : swappedStores ts v env = r := by
  rw [← e]
  unfold swappedStores Env.kindOf Env.blockKind
  rw [h]
  rfl
section
variable {X : Cx} {W : Wd} {Wx : WX} {F : FT} {hot tp : Bool} {k : Nat} {N : List Str} {S : Scope} {x : Str} {i : Nat}
/-- an own local (or cell) as a target -/
theorem tgN (nm : Nm X N S) (h : N[i]? = some x) (hv : S.names.lookup x = some .local) : X.N[i]? = some x ∧ L2.Loc X.env.scope x ∧ (X.fn x = true ∨ X.env.scope.names.lookup x = some .local) := ⟨nm.at h, nm.loc (.inl hv), .inr (nm.isL hv)⟩
theorem tgOne (nm : Nm X N S) (h : N[i]? = some x) (hv : S.names.lookup x = some .local) {pos : Pos} : TgOk X (.Name x pos) (.one i) := .one (nm.at h) (nm.loc (.inl hv)) (.inr (nm.isL hv))
/-- i, j, l = a, b, c -/
def dPar3 (i j l : Nat) (a b c : ED) : SD := fun F fr ks => a F fr (fun r fr1 => b F fr1 (fun s fr2 => c F fr2 (fun t fr3 => ks.nx (setS (setS (setS fr3 i (.v r.ev)) j (.v s.ev)) l (.v t.ev))) ks.kx) ks.kx) ks.kx
theorem VRs.three {W : Wd} {g : Gs} {H : Hp} {e f h : EV} {vs : List V} (r : VRs W g H [e, f, h] vs) : ∃ v u w, vs = [v, u, w] ∧ VR W g H e v ∧ VR W g H f u ∧ VR W g H h w := by
  cases r with
  | cons a b => obtain ⟨u, w, rfl, q1, q2⟩ := b.two; exact ⟨_, _, _, rfl, a, q1, q2⟩
theorem rs_par3 {i j l : Nat} {x y z : Str} {a b c : Expr} {da db dc : ED} {px py pz pt pos : Pos} {kt k2 pt2} (en : En X W Wx false tp k) (nm : Nm X N S) (hN : X.N.Nodup) (hi : N[i]? = some x) (hj : N[j]? = some y) (hl : N[l]? = some z) (hij : i ≠ j) (hil : i ≠ l) (hjl : j ≠ l)
    (hx : S.names.lookup x = some .local) (hy : S.names.lookup y = some .local) (hz : S.names.lookup z = some .local) (ha : PA X [a, b, c] (denA W Wx F (dArgs [da, db, dc])))
    (hw : swappedStores [.Tuple [.Name x px, .Name y py, .Name z pz] kt pt] (.Tuple [a, b, c] k2 pt2) X.env = pure (some [x, y, z]))
    (hs : swapsWithSole [.Tuple [.Name x px, .Name y py, .Name z pz] kt pt] (.Tuple [a, b, c] k2 pt2) pos.line X.env = pure false := by rfl) :
    PS X (.Assign [.Tuple [.Name x px, .Name y py, .Name z pz] kt pt] (.Tuple [a, b, c] k2 pt2) pos) (denS W Wx F (dPar3 i j l da db dc)) := Ev.PS.imp (ps_par3 en.calm hN (nm.at hi) (nm.at hj) (nm.at hl) hij hil hjl (nm.isL hx) (nm.isL hy) (nm.isL hz) ha hw hs) fun D σ H q => by
  obtain ⟨g0, own, g, fr, ks, S0, c, q⟩ := q
  refine ⟨g0, own, g, fr, fun es fr2 => (match es with | [r, s, t] => ks.nx (setS (setS (setS fr2 i (.v r)) j (.v s)) l (.v t)) | _ => false), ks.kx, S0, c.kx.at, fun own' g' fr' H' es us S' T R q => ?_, q⟩
  match es, q with
  | [r, s, t], q =>
    obtain ⟨v, w, u, rfl, r1, r2, r3⟩ := R.three
    obtain ⟨own1, g1, S1, t1⟩ := S'.putV r1 i
    obtain ⟨own2, g2, S2, t2⟩ := S1.putV (r2.mono t1) j
    obtain ⟨own3, g3, S3, t3⟩ := S2.putV (r3.mono (t1.trans t2)) l
    exact ⟨v, w, u, rfl, c.nx own3 g3 _ _ H' S3 (((T.trans t1).trans t2).trans t3) q⟩
/-- a body that is not come to -/
theorem rs_neverS {body : List Stmt} : PSs X body (denS W Wx F dNever) := ⟨fun pins s σ H D I q => by
  obtain ⟨g0, own, g, fr, ks, S, c, q⟩ := q
  cases q⟩
/-- a global number, a global tuple -/
theorem g_int {i : Int} {pos : Pos} (h : ∃ t, X.mg x = some (.int i t)) (hg : Gl X x) (hd : (x == ("__debug__" : Str)) = false := by decide +kernel) : PE X (.Name x pos) (den W Wx F (dC (.int i))) := by
  obtain ⟨t, h⟩ := h
  exact re_con (pe_glob (v := .int i) hg h ⟨t, rfl⟩ hd) fun _ _ => .int i
theorem vrs_ints {g : Gs} {H : Hp} : ∀ is : List Int, VRs W g H (is.map EV.int) (is.map V.int)
  | [] => .nil
  | i :: is => .cons (.int i) (vrs_ints is)
theorem g_tup {is : List Int} {a : Addr} {pos : Pos} (h : X.mg x = some (.ref a)) (ht : StT W.K a (is.map V.int)) (hg : Gl X x) (hd : (x == ("__debug__" : Str)) = false := by decide +kernel) : PE X (.Name x pos) (den W Wx F (dC (.tup (is.map EV.int)))) :=
  re_con (pe_glob (v := .ref a) hg h rfl hd) fun g H => .tupK ht (vrs_ints is)
/-- a comprehension, its block's names and place at hand -/
theorem re_lcN {elt tg iter : Expr} {scope : Scope} {own : List (Str × Nat)} {pos : Pos} {it : ID} {t : Tgt} {te : ED} (nm : Nm X N S) (en : En X W Wx false tp k) (hN : N.Nodup) (hi : PI X tg iter (denI W Wx F it)) (ok : BlkOk N S scope own)
    (hg : ∀ (s : Shared) (H : Hp) (C : Addr) (cl : List (Str × Addr)) (fp : List Addr), Nm (X.blk s H scope (compEnvC scope cl C X.env) fp) N (relS scope S) → TgOk (X.blk s H scope (compEnvC scope cl C X.env) fp) tg t) (hv : ∀ j ∈ t.ins, j ∈ own.map (·.2))
    (he : ∀ (s : Shared) (H : Hp) (C : Addr) (cl : List (Str × Addr)) (fp : List Addr), Nm (X.blk s H scope (compEnvC scope cl C X.env) fp) N (relS scope S) → En (X.blk s H scope (compEnvC scope cl C X.env) fp) W Wx0 false tp k → PE (X.blk s H scope (compEnvC scope cl C X.env) fp) elt (den W Wx0 F te))
    (hs : ∀ x, foldedSetIterable iter X.env x = pure x := by intro _; rfl) :
    PE X (.ListComp elt [⟨tg, iter, [], 0⟩] scope pos) (den W Wx F (dLc it t none te (own.map (·.2)))) :=
  re_lc en.calm (nm.nd hN) en.hK hi (nm.blkOk ok) (fun s H C cl fp => hg s H C cl fp (nm.blk scope s H C cl fp)) hv (fun s H C cl fp => he s H C cl fp (nm.blk scope s H C cl fp) (en.blk scope s H C cl fp)) hs
theorem re_lcIfN {elt tg iter c : Expr} {scope : Scope} {own : List (Str × Nat)} {pos : Pos} {it : ID} {t : Tgt} {tt : TD} {te : ED} (nm : Nm X N S) (en : En X W Wx false tp k) (hN : N.Nodup) (hi : PI X tg iter (denI W Wx F it)) (ok : BlkOk N S scope own)
    (hg : ∀ (s : Shared) (H : Hp) (C : Addr) (cl : List (Str × Addr)) (fp : List Addr), Nm (X.blk s H scope (compEnvC scope cl C X.env) fp) N (relS scope S) → TgOk (X.blk s H scope (compEnvC scope cl C X.env) fp) tg t) (hv : ∀ j ∈ t.ins, j ∈ own.map (·.2))
    (ht : ∀ (s : Shared) (H : Hp) (C : Addr) (cl : List (Str × Addr)) (fp : List Addr), Nm (X.blk s H scope (compEnvC scope cl C X.env) fp) N (relS scope S) → En (X.blk s H scope (compEnvC scope cl C X.env) fp) W Wx0 false tp k → PT (X.blk s H scope (compEnvC scope cl C X.env) fp) c (denT W Wx0 F tt))
    (he : ∀ (s : Shared) (H : Hp) (C : Addr) (cl : List (Str × Addr)) (fp : List Addr), Nm (X.blk s H scope (compEnvC scope cl C X.env) fp) N (relS scope S) → En (X.blk s H scope (compEnvC scope cl C X.env) fp) W Wx0 false tp k → PE (X.blk s H scope (compEnvC scope cl C X.env) fp) elt (den W Wx0 F te))
    (hs : ∀ x, foldedSetIterable iter X.env x = pure x := by intro _; rfl) :
    PE X (.ListComp elt [⟨tg, iter, [c], 0⟩] scope pos) (den W Wx F (dLc it t (some tt) te (own.map (·.2)))) :=
  re_lcIf en.calm (nm.nd hN) en.hK hi (nm.blkOk ok) (fun s H C cl fp => hg s H C cl fp (nm.blk scope s H C cl fp)) hv (fun s H C cl fp => ht s H C cl fp (nm.blk scope s H C cl fp) (en.blk scope s H C cl fp)) (fun s H C cl fp => he s H C cl fp (nm.blk scope s H C cl fp) (en.blk scope s H C cl fp)) hs
theorem allM_nil {α : Type} {p : α → Prop} : ∀ q ∈ ([] : List α), p q := fun q h => by cases h
theorem allM_cons {α : Type} {p : α → Prop} {a : α} {l : List α} (h : p a) (r : ∀ q ∈ l, p q) : ∀ q ∈ a :: l, p q := fun q hq => by
  cases hq with
  | head => exact h
  | tail _ hq => exact r q hq
/-- a promise where F does nothing -/
theorem fn_no {P : Program} {w : World} {K : PySem.W.Frag} {mg : Str → Option Value} {base : Heap} {k n : Nat} {f : Addr} {fd : FuncData} {ps : List Str} (h : ∀ es k kx, F n es k kx = true → False) : FnG P w K mg base hot tp k f fd ps (spF W F n) :=
  ⟨fun vs H Q E ⟨_, _, _, _, _, _, _, _, _, q⟩ => (h _ _ _ q).elim, fun A outer s H args us vs Q E _ _ _ _ _ _ ⟨_, _, _, _, _, _, _, _, _, q⟩ => (h _ _ _ q).elim⟩
theorem in_no {P : Program} {w : World} {K : PySem.W.Frag} {mg : Str → Option Value} {base : Heap} {k n c : Nat} {f : Addr} {fd : FuncData} {ps : List Str} (h : ∀ es k kx, F n es k kx = true → False) : FnG P w K mg base hot tp k f fd ps (spI W F n c) :=
  ⟨fun vs H Q E ⟨_, _, _, _, _, _, _, _, _, _, _, _, _, _, q⟩ => (h _ _ _ q).elim, fun A outer s H args us vs Q E _ _ _ _ _ _ ⟨_, _, _, _, _, _, _, _, _, _, _, _, _, _, q⟩ => (h _ _ _ q).elim⟩
end
end Ev

/-! A draw from a pot: any number below its size. -/
namespace Ev
open PySem PySem.Spec PyProof.Rows L2
abbrev rGt0 : R2 := rI0 fun i j => .bl (decide (j < i))
abbrev rMod0 : R2 := rI (fun _ j => 0 < j) fun i j => .int (i % j)
abbrev rDiv0 : R2 := rI CDiv fun i j => .int (i / j)
abbrev rMul0 : R2 := rI CMul fun i j => .int (i * j)
abbrev rAdd0 : R2 := rI0 fun i j => .int (i + j)
abbrev rInt0 : List V → Hp → VK → Prop := fun xs H Q => (∃ i, xs = [.int i] ∧ Q (.int i) H) ∨ ∃ k, xs = [.bl k] ∧ Q (.int (if k then 1 else 0)) H
abbrev rDm0 : List V → Hp → VK → Prop := fun xs H Q => ∃ i j, xs = [.int i, .int j] ∧ CDiv i j ∧ ∀ p, H p = none → Q (.ref p) (upd H p (.tup [.int (i / j), .int (i % j)]))
def tPx (K : PySem.W.Frag) (i : Int) : TE := tOp (rIx K) (tVar 0) (tC (.int i))
def tDrawA (K : PySem.W.Frag) : TS := tSeq (tAsg (tCB rDm0 (tCons (tPx K 0) (tCons (tVar 1) tNil))) (gTup K 2 (gCons (gSub (tVar 0) (tC (.int 0)) rSetL) (gCons (gName 2) gNil)))) (tRet (tVar 2))
def tI (i : Bool) (t : TE) : TE := match i with
  | true => tCB rInt0 (tCons t tNil)
  | false => t
def tDrawB (K : PySem.W.Frag) (ib : Bool) (c1 c2 m1 m2 q : Int) : TS := tSeq (tAsg (tOp rMod0 (tI ib (tOp rAdd0 (tOp rMul0 (tPx K 1) (tC (.int c1))) (tC (.int c2)))) (tC (.int m1))) (gSub (tVar 0) (tC (.int 1)) rSetL))
  (tRet (tOp rMod0 (tI ib (tOp rDiv0 (tOp rMod0 (tI ib (tOp rMul0 (tPx K 1) (tPx K 1))) (tC (.int m2))) (tC (.int q)))) (tVar 1)))
def tDraw (K : PySem.W.Frag) (ib : Bool) (c1 c2 m1 m2 q : Int) : TS := tSeq (tIfS (tTest (tOp rGt0 (tPx K 0) (tC (.int 0)))) (tDrawA K) tNext) (tDrawB K ib c1 c2 m1 m2 q)
section
variable {W : Wd} {g0 : Hp} {own : Nat → Option Addr} {x : Option Addr} {g : Gs} {fr : Frm} {σ : L2.St} {H : Hp} {p : Addr} {a b : Int}
theorem Sim.potS (S : Sim W g0 own x g fr σ H) (hp : g.P p) (ok : PotOk a b) : Sim W g0 own x g fr σ (upd H p (.lst [.int a, .int b])) ∧ Tr g H g (upd H p (.lst [.int a, .int b])) := by
  obtain ⟨n1, n2, n3⟩ := S.np p hp
  have sp : g.S p := (S.s_iff p).mpr (.inr (.inr (.inr hp)))
  have t : Tr g H g (upd H p (.lst [.int a, .int b])) := ⟨fun q u e _ n => ⟨by rw [upd_ne (fun z => n (by rw [z]; exact sp))]; exact e, n⟩, fun _ h => h, rfl⟩
  refine ⟨⟨S.s_iff, fun q u e => ?_, S.np, S.no, fun q e => ⟨(S.nx q e).1, ?_⟩, S.inj, fun q e => ?_, S.len, fun i s e => ?_, S.out⟩, t⟩
  · rw [upd_ne (fun z => by rw [z, n1] at e; cases e)]; exact S.g0k q u e
  · rw [upd_ne (fun z => n3 (by rw [← z]; exact e))]; exact (S.nx q e).2
  · by_cases z : q = p
    · subst z; exact ⟨a, b, upd_same, ok⟩
    · obtain ⟨c, d, h1, h2⟩ := S.pot q e
      exact ⟨c, d, by rw [upd_ne z]; exact h1, h2⟩
  · exact slot_mono t (fun q u o e => by rw [upd_ne (fun z => n2 i (by rw [← z]; exact o))]; exact e) (S.slot i s e)
end
theorem px_ok {K : PySem.W.Frag} {σ : L2.St} {H : Hp} {Q : VK} {p : Addr} {vs : List V} {i : Int} {v : V} (h0 : σ[0]? = some (some (.ref p))) (hp : H p = some (.lst vs)) (hv : atI vs i = some v) (q : Q v H) : tPx K i σ H Q :=
  ⟨_, h0, .inl ⟨p, vs, i, v, rfl, rfl, .of hp, hv, q⟩⟩
theorem ti_ok {ib : Bool} {t : TE} {σ : L2.St} {H : Hp} {Q : VK} (h : t σ H fun v H1 => ∃ i, v = .int i ∧ Q (.int i) H1) (hm : ∀ {R R' : VK}, (∀ v H, R v H → R' v H) → t σ H R → t σ H R') : tI ib t σ H Q := by
  cases ib with
  | true => exact hm (fun v H1 ⟨i, e, q⟩ => .inl ⟨i, by rw [e], q⟩) h
  | false => exact hm (fun v H1 ⟨i, e, q⟩ => by rw [e]; exact q) h
theorem rIx_mono {K : PySem.W.Frag} {x y : V} {H : Hp} {R R' : VK} (h : ∀ v H, R v H → R' v H) (q : rIx K x y H R) : rIx K x y H R' := by
  rcases q with ⟨p, xs, i, v, a, b, c, d, q⟩ | ⟨p, xs, i, v, a, b, c, d, q⟩ | ⟨p, i, c, a, b, d, e, q⟩
  · exact .inl ⟨p, xs, i, v, a, b, c, d, h _ _ q⟩
  · exact .inr (.inl ⟨p, xs, i, v, a, b, c, d, h _ _ q⟩)
  · exact .inr (.inr ⟨p, i, c, a, b, d, e, h _ _ q⟩)
theorem px_mono {K : PySem.W.Frag} {i : Int} {σ : L2.St} {H : Hp} {R R' : VK} (h : ∀ v H, R v H → R' v H) (q : tPx K i σ H R) : tPx K i σ H R' := by
  obtain ⟨v, e, q⟩ := q
  exact ⟨v, e, rIx_mono h q⟩
theorem pow_big {n m : Nat} (h : 2 ^ n ≤ 2 ^ m) : (2 : Int) ^ n ≤ 2 ^ m := by exact_mod_cast h
theorem draw_pure {W : Wd} {g0 : Hp} {g : Gs} {H : Hp} {p : Addr} {m : Int} {D : Ends} {ib : Bool} {c1 c2 m1 m2 q : Int} (S : Sim W g0 own0 none g [] [] H) (hp : g.P p) (h0 : 0 < m) (h1 : m < 100000) (k1 : 0 < c1) (k1' : c1 < 100000) (k2 : 0 ≤ c2) (k2' : c2 < 100000) (k3 : 0 < m1) (k3' : m1 < 2 ^ 32) (k4 : 0 < m2) (k4' : m2 < 2 ^ 32) (k5 : 0 < q) (k5' : q < 100000)
    (c : ∀ H' d, Sim W g0 own0 none g [] [] H' → Tr g H g H' → 0 ≤ d → d < m → D.rt (.int d) H') : tDraw W.K ib c1 c2 m1 m2 q D [some (.ref p), some (.int m), none] H := by
  obtain ⟨a, b, hH, hab⟩ := S.pot p hp
  obtain ⟨a0, b0⟩ := hab
  show tTest _ _ _ _
  refine px_ok rfl hH rfl ⟨a, 0, rfl, rfl, ?_⟩
  show ∃ b, _ ∧ _
  refine ⟨_, rfl, ?_⟩
  show if decide (0 < a) = true then _ else _
  by_cases ha : 0 < a
  · rw [if_pos (decide_eq_true ha)]
    show tCB _ _ _ _ _
    refine px_ok rfl hH rfl ⟨_, rfl, a, m, rfl, ⟨h0, by omega⟩, fun t ht => ?_⟩
    have np : p ≠ t := fun e => by rw [e, ht] at hH; cases hH
    refine ⟨t, _, rfl, .of upd_same, rfl, _, _, rfl, ⟨_, rfl, p, [.int a, .int b], 0, 0, rfl, rfl, by rw [upd_ne np]; exact hH, rfl, _, _, rfl, rfl, ?_⟩⟩
    refine ⟨_, rfl, ?_⟩
    have S1 := S.new (o := .tup [.int (a / m), .int (a % m)]) ht
    have ok : PotOk (a / m) b := ⟨Int.ediv_nonneg a0 (by omega), b0⟩
    obtain ⟨S2, t2⟩ := S1.potS hp ok
    exact c _ (a % m) S2 ((Tr.new ht).trans t2) (Int.emod_nonneg _ (by omega)) (Int.emod_lt_of_pos _ h0)
  · rw [if_neg (by simpa using ha)]
    show tOp _ _ _ _ _ _
    refine ti_ok (t := tOp rAdd0 (tOp rMul0 (tPx W.K 1) (tC (.int c1))) (tC (.int c2))) ?_ ?_
    · refine px_ok rfl hH rfl ⟨b, c1, rfl, rfl, .inr ⟨by omega, by omega⟩, b * c1, c2, rfl, rfl, _, rfl, ?_⟩
      refine ⟨b * c1 + c2, m1, rfl, rfl, k3, ?_⟩
      have e0 : 0 ≤ (b * c1 + c2) % m1 := Int.emod_nonneg _ (by omega)
      have e1 : (b * c1 + c2) % m1 < m1 := Int.emod_lt_of_pos _ k3
      show gSub (tVar 0) (tC (.int 1)) rSetL (V.int ((b * c1 + c2) % m1)) _ _ _
      generalize (b * c1 + c2) % m1 = b' at e0 e1 ⊢
      refine ⟨_, rfl, p, [.int a, .int b], 1, 1, rfl, rfl, hH, rfl, ?_⟩
      have ok : PotOk a b' := ⟨a0, e0⟩
      obtain ⟨S2, t2⟩ := S.potS hp ok
      have hH2 : (upd H p (.lst [.int a, .int b'])) p = some (.lst [.int a, .int b']) := upd_same
      have mm : ∀ {σ H} {R R' : VK}, (∀ v H, R v H → R' v H) → tI ib (tOp rMul0 (tPx W.K 1) (tPx W.K 1)) σ H R → tI ib (tOp rMul0 (tPx W.K 1) (tPx W.K 1)) σ H R' := fun {σ H R R'} h q => by
        cases ib with
        | true =>
          refine px_mono (fun v H q => px_mono (fun u H q => ?_) q) q
          obtain ⟨i, j, a, b, c, q⟩ := q
          refine ⟨i, j, a, b, c, ?_⟩
          rcases q with ⟨i, e, q⟩ | ⟨k, e, q⟩
          · exact .inl ⟨i, e, h _ _ q⟩
          · exact .inr ⟨k, e, h _ _ q⟩
        | false =>
          refine px_mono (fun v H q => px_mono (fun u H q => ?_) q) q
          obtain ⟨i, j, a, b, c, q⟩ := q
          exact ⟨i, j, a, b, c, h _ _ q⟩
      show tI ib (tOp rDiv0 (tOp rMod0 (tI ib (tOp rMul0 (tPx W.K 1) (tPx W.K 1))) (tC (.int m2))) (tC (.int q))) _ _ _
      refine ti_ok (t := tOp rDiv0 (tOp rMod0 (tI ib (tOp rMul0 (tPx W.K 1) (tPx W.K 1))) (tC (.int m2))) (tC (.int q))) ?_ ?_
      · show tI ib (tOp rMul0 (tPx W.K 1) (tPx W.K 1)) _ _ _
        refine ti_ok (t := tOp rMul0 (tPx W.K 1) (tPx W.K 1)) ?_ ?_
        · refine px_ok rfl hH2 rfl (px_ok rfl hH2 rfl ⟨b', b', rfl, rfl, .inl ⟨by omega, by omega⟩, _, rfl, ?_⟩)
          refine ⟨_, m2, rfl, rfl, k4, _, q, rfl, rfl, ⟨k5, by omega⟩, ?_⟩
          refine ⟨_, rfl, _, rfl, _, m, rfl, rfl, h0, ?_⟩
          exact c _ _ S2 t2 (Int.emod_nonneg _ (by omega)) (Int.emod_lt_of_pos _ h0)
        · rintro R R' h q
          refine px_mono (fun v H q => px_mono (fun u H q => ?_) q) q
          obtain ⟨i, j, a, b, c, q⟩ := q
          exact ⟨i, j, a, b, c, h _ _ q⟩
      · rintro R R' h q
        refine mm (fun v H q => ?_) q
        obtain ⟨i, j, a, b, c, i', j', a', b', c', q⟩ := q
        exact ⟨i, j, a, b, c, i', j', a', b', c', h _ _ q⟩
    · rintro R R' h q
      refine px_mono (fun v H q => ?_) q
      obtain ⟨i, j, a, b, c, i', j', a', b', q⟩ := q
      exact ⟨i, j, a, b, c, i', j', a', b', h _ _ q⟩

section
variable {P : Program} {w : World} {K : PySem.W.Frag} {mg : Str → Option Value} {base : Heap} {hot tp : Bool} {k n : Nat} {f : Addr} {name qual : Str} {params : Arguments} {body : List Stmt} {scope : Scope} {fd : FuncData} {ps : List Str} {x y z : Str} {W : Wd} {F : FT} {ib : Bool} {c1 c2 m1 m2 q : Int}
theorem drawE_spec {m : Int} {kk : RV → Bool} (h : drawE m kk = true) : 0 < m ∧ m < 100000 ∧ ∀ d : Int, 0 ≤ d → d < m → kk (.v (.int d)) = true := by
  cases m with
  | negSucc m => cases h
  | ofNat m =>
    obtain ⟨h1, h2⟩ := Bool.and_eq_true_iff.mp (show (Nat.blt 0 m && (Nat.blt m 100000 && allN m fun d => kk (.v (.int (.ofNat d))))) = true from h)
    obtain ⟨h2, h3⟩ := Bool.and_eq_true_iff.mp h2
    have h1 := Nat.le_of_ble_eq_true h1
    have h2 := Nat.le_of_ble_eq_true h2
    refine ⟨Int.ofNat_lt.mpr h1, by show (m : Int) < 100000; omega, fun d d0 d1 => ?_⟩
    obtain ⟨e, rfl⟩ := Int.eq_ofNat_of_zero_le d0
    exact allN_iff.mp h3 e (Int.ofNat_lt.mp d1)
theorem draw_fn (hW : W.K = K) (Fd : FunD K name qual params body scope [] [] f fd) (S : FnScope [x, y, z] [x, y] scope) (hF : ∀ es kk kx, F n es kk kx = true → ∃ m : Int, es = [.pot, .int m] ∧ drawE m kk = true)
    (k1 : 0 < c1) (k1' : c1 < 100000) (k2 : 0 ≤ c2) (k2' : c2 < 100000) (k3 : 0 < m1) (k3' : m1 < 2 ^ 32) (k4 : 0 < m2) (k4' : m2 < 2 ^ 32) (k5 : 0 < q) (k5' : q < 100000)
    (hb : ∀ (X : Cx) (Wx : WX), X.prog = P → X.w = w → X.K = K → X.mg = mg → X.base = base → X.N = [x, y, z] → X.env.scope = scope → (∀ x, X.fn x = true) → En X W Wx hot tp k → PSs X body (tDraw K ib c1 c2 m1 m2 q)) :
    FnG P w K mg base hot tp (k + 1) f fd [x, y] (spF W F n) := by
  refine fn_ofG hW Fd S (fun vs H Q E ⟨g0, g, es, kk, kx, S0, r, c1, c2, h⟩ => ?_) fun X A outer s H vs Q E h1 h2 h3 h4 h5 h6 h7 h8 en h => ⟨_, hb X _ h1 h2 h3 h4 h5 h6 h7 h8 en, ?_⟩
  · obtain ⟨m, rfl, _⟩ := hF es kk kx h
    exact r.length.symm
  obtain ⟨g0, g, es, kk, kx, S0, r, c1, c2, h⟩ := h
  obtain ⟨m, rfl, hd⟩ := hF es kk kx h
  obtain ⟨h0, h1, hk⟩ := drawE_spec hd
  obtain ⟨u, v, rfl, r1, r2⟩ := r.two
  cases r2
  cases r1 with
  | pot hp =>
    subst hW
    exact draw_pure S0 hp h0 h1 k1 k1' k2 k2' k3 k3' k4 k4' k5 k5' fun H' d S' T d0 d1 => c1 none g H' (.v (.int d)) (.int d) S' T (RR.val (.int d)) (hk d d0 d1)
end
section
variable {X : Cx} {W : Wd} {Wx : WX} {hot tp : Bool} {k : Nat} {N : List Str} {S : Scope}
/-- pot[i] -/
theorem pe_px {x : Str} {i : Int} {kd : Nat} {p p2 p3 : Pos} (nm : Nm X N S) (h : N[0]? = some x) (hv : S.names.lookup x = some .local) (hd : (x == ("__debug__" : Str)) = false := by decide +kernel) (hcd : (x == ("__classdict__" : Str)) = false := by decide +kernel) : PE X (.Subscript (.Name x p) (.Constant (.int i) kd p2) p3) (tPx X.K i) :=
  pe_ix ix_seq (pe_var (nm.at h) (nm.vis (.inl hv)) hd hcd) pe_int (by intros _ _; rfl)
end
end Ev
namespace Ev
open PySem PySem.Spec PyProof.Rows L2
/-! ### a new pot -/
def potB : Int → Int → Bool
  | .ofNat _, .ofNat _ => true
  | _, _ => false
theorem potB_ok {a b : Int} (h : potB a b = true) : PotOk a b := by
  unfold potB at h
  split at h
  · exact ⟨Int.natCast_nonneg _, Int.natCast_nonneg _⟩
  · cases h
/-- a new list of two numbers is made a pot -/
def dPot (d : ED) : ED := fun F fr k kx => d F fr (fun r fr1 => match r with
  | .fr [.int a, .int b] => (match potB a b with
    | true => k (.v .pot) fr1
    | false => false)
  | _ => false) kx
section
variable {X : Cx} {W : Wd} {Wx : WX} {F : FT}
theorem Sim.mkPot {g0 : Hp} {own : Nat → Option Addr} {g : Gs} {fr : Frm} {σ : L2.St} {H : Hp} {p : Addr} {a b : Int} (S : Sim W g0 own (some p) g fr σ H) (h : H p = some (.lst [.int a, .int b])) (ok : PotOk a b) :
    Sim W g0 own none ⟨g.S, fun q => g.P q ∨ q = p, g.me⟩ fr σ H ∧ Tr g H ⟨g.S, fun q => g.P q ∨ q = p, g.me⟩ H := by
  have t : Tr g H ⟨g.S, fun q => g.P q ∨ q = p, g.me⟩ H := ⟨fun q u e _ n => ⟨e, n⟩, fun _ h => .inl h, rfl⟩
  have nx := S.nx p rfl
  refine ⟨⟨fun q => ?_, S.g0k, fun q e => ?_, fun i q e => ⟨(S.no i q e).1, by simp⟩, fun q e => by simp at e, S.inj, fun q e => ?_, S.len, fun i s e => slot_mono t (fun _ _ _ z => z) (S.slot i s e), S.out⟩, t⟩
  · show g.S q ↔ _
    rw [S.s_iff q]
    constructor
    · rintro (z | z | z | z)
      · exact .inl z
      · exact .inr (.inl z)
      · exact .inr (.inr (.inr (.inr (Option.some.inj z).symm)))
      · exact .inr (.inr (.inr (.inl z)))
    · rintro (z | z | z | z | z)
      · exact .inl z
      · exact .inr (.inl z)
      · simp at z
      · exact .inr (.inr (.inr z))
      · exact .inr (.inr (.inl (by rw [z])))
  · rcases e with e | e
    · exact ⟨(S.np q e).1, (S.np q e).2.1, by simp⟩
    · subst e
      exact ⟨nx.1, fun i z => (S.no i q z).2 rfl, by simp⟩
  · rcases e with e | e
    · exact S.pot q e
    · subst e; exact ⟨a, b, h, ok⟩
theorem re_pot {e : Expr} {d : ED} (he : PE X e (den W Wx F d)) : PE X e (den W Wx F (dPot d)) := Ev.PE.imp he fun σ H Q h => by
  obtain ⟨g0, own, g, fr, k, kx, S, cx, ck, h⟩ := h
  refine ⟨g0, own, g, fr, _, kx, S, cx, fun own' x g' fr' H' r u S' T R q => ?_, h⟩
  match r, R, q with
  | .fr [.int a, .int b], R, q =>
    cases z : potB a b with
    | false => simp only [z] at q; cases q
    | true =>
      simp only [z] at q
      obtain ⟨p, vs, rfl, rfl, h1, h2⟩ := R
      obtain ⟨v1, v2, rfl, r1, r2⟩ := h2.two
      cases r1; cases r2
      obtain ⟨S2, t2⟩ := S'.mkPot h1 (potB_ok z)
      exact ck own' none _ fr' H' (.v .pot) (.ref p) S2 (T.trans t2) (RR.val (.pot (.inr rfl))) q
end
end Ev
namespace Ev
open PySem PySem.Spec PyProof.Rows L2
def drawF : List EV → (RV → Bool) → (XV → Bool) → Bool := fun es k _ => match es with
  | [.pot, .int m] => drawE m k
  | _ => false
theorem draw_look {es : List EV} {k : RV → Bool} {kx : XV → Bool} (h : drawF es k kx = true) : ∃ m : Int, es = [.pot, .int m] ∧ drawE m k = true := by
  unfold drawF at h
  split at h
  · exact ⟨_, rfl, h⟩
  · cases h
section
variable {P : Program} {w : World} {K : PySem.W.Frag} {mg : Str → Option Value} {base : Heap} {hot tp : Bool} {k n c : Nat} {f : Addr} {W : Wd} {F : FT} {dvs : List V}
theorem fn_noP (h : ∀ es k kx, F n es k kx = true → False) : FnP P w K mg base hot tp k f (fun vs H Q E => spF W F n (vs ++ dvs) H Q E) := fun A outer s H us vs Q E _ _ _ _ _ ⟨_, _, _, _, _, _, _, _, _, q⟩ => (h _ _ _ q).elim
theorem in_noP (h : ∀ es k kx, F n es k kx = true → False) : FnP P w K mg base hot tp k f (fun vs H Q E => spI W F n c (vs ++ dvs) H Q E) := fun A outer s H us vs Q E _ _ _ _ _ ⟨_, _, _, _, _, _, _, _, _, _, _, _, _, _, q⟩ => (h _ _ _ q).elim
end
end Ev

/-! The law's call, at the heap behind the top. -/
namespace Ev
open PySem PySem.Spec PyProof.Rows L2
/-- the law's call comes to True -/
def isT : RV → Bool
  | .v (.bl b) => b
  | _ => false
section
variable {P : Program} {w : World} {K : PySem.W.Frag} {mg mb : Str → Option Value} {k n : Nat} {fa a : Addr} {s₁ : Shared} {vs : List Value} {ns : List Int} {W : Wd} {F : FT} {H : Hp}
/-- the state at the law's call, nothing tracked but the script -/
theorem env_end (kin : K.In s₁.heap) (gl : s₁.heap.Ns mainGlobals mg) (bu : s₁.heap.Ns builtinsNs mb) (boot : ∀ x : Str, x ≠ "__name__" → mb x = bootBuiltins x) (lim : s₁.heap.NoLimit) (ge : s₁.gens = #[])
    (sc : s₁.heap.get? a = some { cls := .type "list", data := .seq vs.toArray }) (ok : HOk P w H s₁.heap) (own : ∀ b, H b ≠ none → b = a ∧ K.lookup a = none) :
    Env0 P w K mg (hidT s₁.heap H) callerA [] s₁ H ∧ K.In (hidT s₁.heap H) ∧ (hidT s₁.heap H).Ns mainGlobals mg := by
  have dictNo : ∀ {b : Addr} {o : Obj} {es : Array DictEntry} {ep : Nat}, s₁.heap.get? b = some o → o.data = .dict es ep → H b = none := fun {b o es ep} e d => Classical.byContradiction fun z => by
    obtain ⟨rfl, _⟩ := own b z
    rw [sc] at e
    cases e
    cases d
  have nsOf : ∀ {b : Addr} {m : Str → Option Value}, s₁.heap.Ns b m → (hidT s₁.heap H).Ns b m := fun {b m} x => by
    obtain ⟨o, es, ep, e, d, r⟩ := x
    exact ⟨o, es, ep, hidT_get e (dictNo e d), d, r⟩
  have kin' : K.In (hidT s₁.heap H) := fun b o e => hidT_get (kin b o e) (Classical.byContradiction fun z => by
    obtain ⟨rfl, y⟩ := own b z
    rw [y] at e; cases e)
  refine ⟨?_, kin', nsOf gl⟩
  refine { frames := rfl, mod := ⟨kin', nsOf gl, ⟨mb, nsOf bu, boot⟩, ?_⟩, bs := fun b o e => of_hidT e, bsz := Nat.le_of_eq (hidT_size _ _), funs := trivial, frf := fun b hb => (nomatch hb), hok := ok, bare := .of_eq ge }
  obtain ⟨mc, h1, h2⟩ := lim
  exact ⟨mc, nsOf h1, h2⟩
theorem vrs_map {g : Gs} : ∀ is : List Int, VRs W g H (is.map EV.int) (is.map V.int)
  | [] => .nil
  | i :: is => .cons (.int i) (vrs_map is)
/-- nothing is owned -/
def gs0 : Gs := ⟨fun _ => False, fun _ => False, none⟩
theorem sim0 : Sim W (fun _ => none) own0 none gs0 [] [] H := by
  refine ⟨fun p => ⟨fun z => z.elim, ?_⟩, fun p o h => (by cases h), fun p h => h.elim, fun i p h => (by cases h), fun p h => (by cases h), fun i j p h => (by cases h), fun p h => h.elim, rfl, fun i s h => (by simp at h), fun i _ => rfl⟩
  rintro (z | ⟨i, z⟩ | z | z)
  · exact (z rfl).elim
  · cases z
  · cases z
  · exact z
theorem law_end (kin : K.In s₁.heap) (gl : s₁.heap.Ns mainGlobals mg) (bu : s₁.heap.Ns builtinsNs mb) (boot : ∀ x : Str, x ≠ "__name__" → mb x = bootBuiltins x) (lim : s₁.heap.NoLimit) (ge : s₁.gens = #[])
    (sc : s₁.heap.get? a = some { cls := .type "list", data := .seq vs.toArray }) (hi : IntsAre vs ns) (hl : ns.length ≤ sizeLine) (hr : L2H.RoomH k callerA) (hW : W.K = K)
    (R : ∀ base : Heap, K.In base → base.Ns mainGlobals mg → FnP P w K mg base false true k fa (fun vs H Q E => spF W F n (vs ++ []) H Q E)) (run : F n [.scr (ns.map EV.int)] isT (fun _ => false) = true) :
    codeAny (model P w) callerA (.call (.ref fa) ⟨[.ref a], []⟩) (fun r s' => r = .ok (.ret (.bool true)) ∧ OldK s₁.heap s'.heap ∧ s'.os = s₁.os ∧ AllBare s'.gens) s₁ := by
  have rv := vals_ints hi
  have len := hi.length
  have main : ∀ H : Hp, HOk P w H s₁.heap → (∀ b, H b ≠ none → b = a ∧ K.lookup a = none) → (∀ b, H b = none ∨ ∃ o xs, H b = some (.frz o (.lst xs))) → ScrAt K gs0 H a (ns.map V.int) →
      codeAny (model P w) callerA (.call (.ref fa) ⟨[.ref a], []⟩) (fun r s' => r = .ok (.ret (.bool true)) ∧ OldK s₁.heap s'.heap ∧ s'.os = s₁.os ∧ AllBare s'.gens) s₁ := by
    intro H ok own fz scr
    obtain ⟨e0, kb, nb⟩ := env_end kin gl bu boot lim ge sc ok own
    have sp : spF W F n [.ref a] H (fun v _ => v = .bl true) fun _ _ _ => False := by
      refine ⟨fun _ => none, gs0, [.scr (ns.map EV.int)], isT, fun _ => false, sim0, .cons (.scr (by rw [hW]; exact scr) (vrs_map ns)) .nil, fun x g' H' r u S' T rr q => ?_, fun g' H' z cls d S' T xr q => (by cases q), run⟩
      match r, rr, q with
      | .v (.bl true), rr, _ => exact (by cases rr.2; rfl)
    refine codeAny_mono (R _ kb nb callerA [] s₁ H [.ref a] [.ref a] _ _ hr rfl ⟨[], rfl, fun _ => rfl, fun c hc => (nomatch hc)⟩ e0 (.cons rfl .nil) sp) fun r s' h => ?_
    cases r with
    | error e =>
      obtain ⟨_, _, _, _, _, _, _, _, _, _, _, _, z⟩ := (show L2N.CX P w [] H s₁ (fun _ _ _ => False) e s' from h)
      exact z.elim
    | ok fl =>
      cases fl with
      | ret u =>
        obtain ⟨v, H', os, bare, un, ok', ru, q⟩ := (show CE [] P w H s₁ _ u s' from h)
        subst q
        cases ru
        refine ⟨rfl, OldK.of_keep fun b o e => ?_, os, bare⟩
        rcases fz b with z | ⟨ob, xs, z⟩
        · exact un.keep b o e z (fun y => (nomatch y)) (fun y => (nomatch y))
        · obtain ⟨e1, _⟩ := ok b _ z
          obtain ⟨e2, _⟩ := ok' b _ (un.frzs b ob _ z)
          rw [e] at e1
          cases e1
          exact e2
      | next => exact h.elim
      | brk => exact h.elim
      | cont => exact h.elim
  cases hk : K.lookup a with
  | some o =>
    have e := kin a o hk
    rw [sc] at e
    cases e
    exact main (fun _ => none) (fun b u z => by cases z) (fun b z => (z rfl).elim) (fun _ => .inl rfl) (.inr ⟨_, vs.toArray, _, hk, rfl, rfl, rfl, by rw [List.size_toArray, len]; exact hl, by simpa using rv⟩)
  | none =>
    refine main (fun b => if b = a then some (.frz { cls := .type "list", data := .seq vs.toArray } (.lst (ns.map V.int))) else none) (fun b u z => ?_) (fun b z => ⟨Classical.byContradiction fun y => z (if_neg y), hk⟩) (fun b => ?_) (.inl ⟨_, if_pos rfl, fun z => z⟩)
    · by_cases y : b = a
      · have z2 := (if_pos y).symm.trans z
        cases z2
        subst y
        exact ⟨sc, by rw [List.length_map]; exact hl, vs, _, rv, sc⟩
      · have z2 := (if_neg y).symm.trans z
        cases z2
    · by_cases y : b = a
      · exact .inr ⟨_, _, if_pos y⟩
      · exact .inl (if_neg y)
end
/-- the head's goal, from the law's promise and the reckoning -/
theorem walk_ev {l : PySem.W.OpenLaw} {m k n : Nat} {q : Program} {loose : List Str} {XP : (Str → Option Value) → Heap → Prop} {YP : World → Heap → Prop} {d : DefRec} {F : FT}
    (hm : l.most = some m) (hm2 : m ≤ sizeLine) (hd : d.params.defaults = []) (hr : L2H.RoomH k callerA) (run : ∀ ns : List Int, F n [.scr (ns.map EV.int)] isT (fun _ => false) = true)
    (R : ∀ (w : World) (mg : Str → Option Value) (fa : Addr) (h : Heap), YP w h → h.Ns mainGlobals mg → mg d.name = some (.ref fa) →
      ∃ (K : PySem.W.Frag) (W : Wd), K.In h ∧ W.K = K ∧ ∀ base : Heap, K.In base → base.Ns mainGlobals mg → FnP l.prog w K mg base false true k fa (fun vs H Q E => spF W F n (vs ++ []) H Q E)) :
    PySem.W.WalkO q loose XP YP l.row.toRowW d [] (fun f vs => PySem.call f vs) := by
  refine Att.attach_call hm hd fun w s₀ s₁ mg mb fa o pm cd doc a vs ns G Y ho hf hcd hmg hobj hints hlen hg => ?_
  obtain ⟨K, W, KX, hW, hR⟩ := R w mg fa _ Y G.T.g hmg
  exact law_end KX G.T.g G.T.b G.T.builtins G.T.nolimit hg hobj hints (Nat.le_trans hlen hm2) hr hW hR (run ns)
end Ev

/-! The head's looks: a part of the heap by names, and what is asked of it. -/
namespace Ev
open PySem PySem.Spec PyProof.Rows L2
/-! ### a part of the heap, by the module's names -/
def refsE (o : Obj) : List Addr := (match o.data with
  | .seq its _ => its.toList.flatMap He.refV
  | .dict es _ => es.toList.flatMap fun e => He.refV e.val
  | .func fd => He.refV fd.code ++ (He.refV fd.defaults ++ He.refV fd.kwdefaults)
  | .cls cd => cd.ns :: cd.mro.flatMap He.refV
  | _ => [])
def stepE (g : Addr → Option Obj) (as : List Addr) : List Addr := as.flatMap fun a => match g a with
  | some o => refsE o
  | none => []
def addE (a : Addr) : List Addr → List Addr
  | [] => [a]
  | b :: r => match Nat.beq a b with
    | true => b :: r
    | false => b :: addE a r
def uniqE : List Addr → List Addr → List Addr
  | [], acc => acc
  | a :: r, acc => uniqE r (addE a acc)
def namedE (g : Addr → Option Obj) (names : List Str) : List Addr := match g mainGlobals with
  | some ⟨_, _, .dict es _, _⟩ => es.toList.flatMap fun e => match e.key with
    | .str x _ => (match names.contains x with
      | true => He.refV e.val
      | false => [])
    | _ => []
  | _ => []
def asE (g : Addr → Option Obj) (names : List Str) : List Addr :=
  let l1 := uniqE (namedE g names) []
  let l2 := uniqE (stepE g l1) []
  let l3 := uniqE (stepE g l2) []
  let l4 := uniqE (stepE g l3) []
  let l5 := uniqE (stepE g l4) []
  uniqE (mainGlobals :: (l1 ++ (l2 ++ (l3 ++ (l4 ++ l5))))) []
/-! ### the Hook -/
abbrev Ck : Type := PySem.W.Frag → Bool
def obsN (cs : List Ck) (fn : List He.DefD) (K : PySem.W.Frag) : He.AlD := ((cs.all fun c => c K) && fn.all fun d => d.ok K, fn.map fun d => He.fnW K d.at_)
def SaysN (cs : List Ck) (fn : List He.DefD) (K : PySem.W.Frag) : Prop := obsN cs fn K = He.valD fn
def obsNG (names : List Str) (cs : List Ck) (fn : List He.DefD) (g : Addr → Option Obj) : He.AlD := obsN cs fn (He.frG g (asE g names))
def hookN (names : List Str) (cs : List Ck) (fn : List He.DefD) : PySem.W.Hook where
  α := He.AlD
  obs s := obsNG names cs fn s.heap.get?
  val _ := He.valD fn
  says _ h := ∃ K : PySem.W.Frag, K.In h ∧ SaysN cs fn K
  of _ _ e := ⟨_, He.frG_in, e⟩
  keeps := by rintro _ _ _ ⟨K, hK, c⟩ k; exact ⟨K, PySem.W.Frag.In.keeps hK k, c⟩
theorem obsNG_eq {names : List Str} {cs : List Ck} {fn : List He.DefD} {g : Addr → Option Obj} {s : Shared} (h : ∀ a, g a = s.heap.get? a) : obsNG names cs fn g = (hookN names cs fn).obs s := by
  obtain rfl : g = s.heap.get? := funext h
  rfl
theorem opt3 {α β γ δ : Type} {o : Option α} {f : α → β} {g : α → γ} {h : α → δ} {a : β} {b : γ} {c : δ} (h1 : o.map f = some a) (h2 : o.map g = some b) (h3 : o.map h = some c) : o.map (fun s => (f s, g s, h s)) = some (a, b, c) := by
  cases o with
  | none => cases h1
  | some s => cases h1; cases h2; cases h3; rfl
theorem and1 {a b : Bool} (h : (a && b) = true) : a = true := (Bool.and_eq_true_iff.mp h).1
theorem and2 {a b : Bool} (h : (a && b) = true) : b = true := (Bool.and_eq_true_iff.mp h).2
section
variable {cs : List Ck} {fn : List He.DefD} {K : PySem.W.Frag}
theorem SaysN.ck (c : SaysN cs fn K) (i : Nat) {f : Ck} (h : cs[i]? = some f := by rfl) : f K = true :=
  List.all_eq_true.mp (and1 (show ((cs.all fun c => c K) && fn.all fun d => d.ok K) = true from congrArg Prod.fst c)) f (List.mem_of_getElem? h)
theorem SaysN.df (c : SaysN cs fn K) (i : Nat) {d : He.DefD} (h : fn[i]? = some d := by rfl) : ∃ fd, FunD K d.name d.qual d.params d.body d.scope (d.dvs K) (d.kws K) (He.fAd K d.at_) fd := by
  have c2 := and2 (show ((cs.all fun c => c K) && fn.all fun d => d.ok K) = true from congrArg Prod.fst c)
  have e : (fn.map fun d => He.fnW K d.at_)[i]? = (fn.map He.DefD.val)[i]? := congrArg (fun z : He.AlD => z.2[i]?) c
  simp only [List.getElem?_map, h, Option.map_some] at e
  exact He.DefD.funD (Option.some.inj e) (List.all_eq_true.mp c2 d (List.mem_of_getElem? h))
end
/-! ### what is asked -/
def eqB (a b : Option Bool) : Bool := decide (a = b)
theorem eqB_ok {a b : Option Bool} (h : eqB a b = true) : a = b := of_decide_eq_true h
def eqW (a b : Option (Option Value)) : Bool := decide (a = b)
theorem eqW_ok {a b : Option (Option Value)} (h : eqW a b = true) : a = b := of_decide_eq_true h
def ckGlo (x : Str) : Ck := fun K => (He.Fa.glo x).ok K && PySem.W.keepIn K (.ref (He.ga K x))
def ckFree (x : Str) : Ck := fun K => (He.Fa.free x).ok K
def ckInt (x : Str) (i : Int) : Ck := fun K => (He.Fa.int x i).ok K
def ckBlt (x : Str) (id : String) : Ck := fun K => eqW (PySem.W.nsIn K mainGlobals x) (some (some (.builtin id)))
def tupK (K : PySem.W.Frag) (a : Addr) (is : List Int) : Bool := match K.lookup a with
  | some ⟨.type c, _, .seq its _, _⟩ => decide (c = "tuple") && (decide (its.size ≤ sizeLine) && He.relAll (is.map V.int) its.toList)
  | _ => false
def ckTup (x : Str) (is : List Int) : Ck := fun K => (He.Fa.glo x).ok K && tupK K (He.ga K x) is
def ckDt (a : PySem.W.Frag → Addr) (is : List Int) : Ck := fun K => tupK K (a K) is
def ckCls (x : Str) (fs : List Str) : Ck := fun K => (He.Fa.cls x).ok K && (eqW (PySem.W.findIn K (.ref (He.ga K x)) "__class__") (some (some (.builtin "object.__class__"))) && (eqW (PySem.W.specialIn K (.builtin "object.__class__") "__get__") (some (some (.builtin "getset_descriptor.__get__"))) &&
  (eqB (PySem.W.takesIn K (.builtin "object.__class__")) (some true) && (eqB (PySem.W.mroIn K (He.ga K x) (.type "object")) (some true) && fs.all fun f => eqW (PySem.W.findIn K (.ref (He.ga K x)) f) (some none)))))
def ckMk (x : Str) : Ck := fun K => (He.Fa.mkr x).ok K
def ckMeth (x m : Str) : Ck := fun K => (He.Fa.meth x m).ok K
def ckEq (x : Str) : Ck := fun K => (He.Fa.meth x "__eq__").ok K && (eqW (PySem.W.findIn K (.ref (He.ga K x)) "__ne__") (some (some (.builtin "object.__ne__"))) && PySem.W.notFirst K (He.ga K x) (.type "int"))
def ckOp (x m : Str) (nm : String) : Ck := fun K => (He.Fa.meth x m).ok K && (decide (PySem.dunder nm = m) && (PySem.W.selfFirst K (He.ga K x) && ((match PySem.W.findIn K (.ref (He.ga K x)) (dunderR nm) with
    | some none => true
    | some (some (.ref _)) => true
    | _ => false) && ((PySem.W.findIn K (.type "int") (PySem.dunder nm)).isSome && ((PySem.W.findIn K (.type "int") (dunderR nm)).isSome && eqB (PySem.W.subIn K (.type "int") (.ref (He.ga K x))) (some false))))))
def ckIsi (ans : PySem.W.Frag → Value → Option Bool) (d : IsiD) (cls : PySem.W.Frag → Nat → Addr) : Ck := fun K => eqB (ans K (.type "NoneType")) (some d.non) && (eqB (ans K (.type "bool")) (some d.bl) && (eqB (ans K (.type "int")) (some d.int) && (eqB (ans K (.type "str")) (some d.str) &&
  (eqB (ans K (.type "tuple")) (some d.tup) && (eqB (ans K (.type "list")) (some d.lst) && d.own.all fun q => eqB (ans K (.ref (cls K q.1))) (some q.2))))))
section
variable {K : PySem.W.Frag} {h : Heap} {mg : Str → Option Value} {x m : Str} {W : Wd} {c : Nat} {fs : List Str} {is : List Int} {a : Addr}
theorem ckGlo_g (X : K.In h) (G : h.Ns mainGlobals mg) (z : ckGlo x K = true) : mg x = some (.ref (He.ga K x)) := He.glo_ok X G (and1 z)
theorem ckGlo_k (z : ckGlo x K = true) : PySem.W.keepIn K (.ref (He.ga K x)) = true := and2 z
theorem ckBlt_ok {id : String} (X : K.In h) (G : h.Ns mainGlobals mg) (z : ckBlt x id K = true) : mg x = some (.builtin id) := PySem.W.mg_of X G (eqW_ok z)
theorem tupK_ok (z : tupK K a is = true) : StT K a (is.map V.int) := by
  unfold tupK at z
  split at z
  · rename_i oc od its n sl q
    exact ⟨_, its, n, q, congrArg Value.type (of_decide_eq_true (and1 z)), rfl, of_decide_eq_true (and1 (and2 z)), He.relAll_ok (and2 (and2 z))⟩
  · cases z
theorem ckTup_ok (X : K.In h) (G : h.Ns mainGlobals mg) (z : ckTup x is K = true) : mg x = some (.ref (He.ga K x)) ∧ StT K (He.ga K x) (is.map V.int) := ⟨He.glo_ok X G (and1 z), tupK_ok (and2 z)⟩
theorem ckCls_ok (z : ckCls x fs K = true) (hW : W.K = K) (hc : W.cls c = He.ga K x) (hf : W.flds c = fs) (nd : fs.Nodup) (sz : fs.length < 1000) : ClF W c := by
  subst hW
  subst hf
  refine ⟨?_, ?_, ?_, ?_, ?_, fun f hm => ?_, nd, sz⟩ <;> rw [hc] at *
  · exact He.cls_ok (and1 z)
  · exact eqW_ok (and1 (and2 z))
  · exact eqW_ok (and1 (and2 (and2 z)))
  · exact eqB_ok (and1 (and2 (and2 (and2 z))))
  · exact eqB_ok (and1 (and2 (and2 (and2 (and2 z)))))
  · exact eqW_ok (List.all_eq_true.mp (and2 (and2 (and2 (and2 (and2 z))))) f hm)
theorem ckEq_ok (z : ckEq x K = true) (hW : W.K = K) (hc : W.cls c = He.ga K x) : EqF W c (He.ma K (W.cls c) "__eq__") := by
  subst hW
  obtain ⟨q1, q2, q3⟩ := He.meth_ok (and1 z)
  refine ⟨?_, ?_, ?_, ?_⟩ <;> rw [hc]
  · exact q1
  · exact eqW_ok (and1 (and2 z))
  · exact q2
  · exact and2 (and2 z)
theorem ckOp_ok {nm : String} (z : ckOp x m nm K = true) (hW : W.K = K) (hc : W.cls c = He.ga K x) : OpF W nm c (He.ma K (W.cls c) m) := by
  subst hW
  obtain ⟨q1, q2, q3⟩ := He.meth_ok (and1 z)
  have e : PySem.dunder nm = m := of_decide_eq_true (and1 (and2 z))
  refine ⟨?_, ?_, ?_, ?_, ?_, ?_, ?_⟩ <;> (try rw [hc])
  · rw [e]; exact q1
  · exact q2
  · exact and1 (and2 (and2 z))
  · have y := and1 (and2 (and2 (and2 z)))
    split at y
    · rename_i q; exact ⟨_, q, .inl rfl⟩
    · rename_i q; exact ⟨_, q, .inr ⟨_, rfl⟩⟩
    · cases y
  · exact Option.isSome_iff_exists.mp (and1 (and2 (and2 (and2 (and2 z)))))
  · exact Option.isSome_iff_exists.mp (and1 (and2 (and2 (and2 (and2 (and2 z))))))
  · exact eqB_ok (and2 (and2 (and2 (and2 (and2 (and2 z))))))
theorem ckSp_ok (z : ckMeth x m K = true) (hW : W.K = K) (hc : W.cls c = He.ga K x) : SpF W m c (He.ma K (W.cls c) m) := by
  subst hW
  obtain ⟨q1, q2, q3⟩ := He.meth_ok z
  exact ⟨by rw [hc]; exact q1, by rw [hc]; exact q2⟩
theorem ckMe_ok (z : ckMeth x m K = true) (hW : W.K = K) (hc : W.cls c = He.ga K x) (cf : ClF W c) (nf : m ∉ W.flds c) : MeF W m c (He.ma K (W.cls c) m) := by
  subst hW
  exact ⟨cf, by rw [hc]; exact He.meth_ok z, nf⟩
theorem ckIsi_ok {ans : PySem.W.Frag → Value → Option Bool} {d : IsiD} {cls : PySem.W.Frag → Nat → Addr} (z : ckIsi ans d cls K = true) (hc : W.cls = cls K) (cf : ∀ q ∈ d.own, ClF W q.1) : IsiOk W (ans K) d :=
  ⟨eqB_ok (and1 z), eqB_ok (and1 (and2 z)), eqB_ok (and1 (and2 (and2 z))), eqB_ok (and1 (and2 (and2 (and2 z)))), eqB_ok (and1 (and2 (and2 (and2 (and2 z))))), eqB_ok (and1 (and2 (and2 (and2 (and2 (and2 z)))))),
    fun q hq => ⟨cf q hq, by rw [hc]; exact eqB_ok (List.all_eq_true.mp (and2 (and2 (and2 (and2 (and2 (and2 z)))))) q hq)⟩⟩
end
end Ev

/-! The head of a text that begins with imports: the opening, too, as a run over a tree. -/
noncomputable section
namespace Ev
open PySem PySem.W PySem.Calls PyProof.Rows HandSHeadRun
/-- the opening, to its end -/
def goI (st : SharedT → Thread → Option (SharedT × Thread)) : Nat → SharedT → Thread → Option SharedT
  | 0, _, _ => none
  | m + 1, s, t => match t.atExitBegin with
    | some [] => some s
    | some (_ :: _) => none
    | none => match st s t with
      | some r => (match r with
        | (s2, t2) => frS s2 fun s2 => goI st m s2 t2)
      | none => none
theorem goI_ok {tb : String → Option Builtin} {p : Program} {w : World} : ∀ {m : Nat} {s s' : SharedT} {t : Thread}, goI (stepT (denote tb) p w) m s t = some s' → importEnds tb p w m s.abs t = some s'.abs
  | 0, _, _, _, h => by cases h
  | m + 1, s, s', t, h => by
    unfold goI at h
    unfold importEnds
    cases ht : t.atExitBegin with
    | some l =>
      rw [ht] at h
      cases l with
      | nil => cases h; rfl
      | cons => cases h
    | none =>
      rw [ht] at h
      simp only at h ⊢
      cases hs : stepT (denote tb) p w s t with
      | none => rw [hs] at h; cases h
      | some r =>
        obtain ⟨s2, t2⟩ := r
        rw [hs] at h
        simp only [frS_eq] at h
        rw [stepT_spec hs]
        exact goI_ok h
/-- nothing stands yet -/
def startT (p : Program) : SharedT := match (start p).1 with
  | ⟨h, gs, d, k, os⟩ => ⟨.nil, 0, h.life, gs, d, k, os⟩
theorem startT_abs (p : Program) : (startT p).abs = (start p).1 := rfl
def frOpt {α β : Type} (o : Option α) (k : Option α → β) : β := match o with
  | none => k none
  | some v => k (some v)
theorem frOpt_eq {α β : Type} (o : Option α) (k : Option α → β) : frOpt o k = k o := by
  cases o <;> rfl
def frB {α : Type} (b : Bool) (k : Option α) : Option α := match b with
  | true => k
  | false => none
/-- the state ahead of the top as a tree, and the one behind it -/
def topM (st : SharedT → Thread → Option (SharedT × Thread)) (p : Program) (M : Nat) (b : Shared) : Option (SharedT × SharedT) := match putAll b.heap.objs.toList .nil 0 with
  | some r => (match r with
    | (t, n) => frNat n fun n => frB (b.heap.isNs mainGlobals && b.gens.size == 0) (frOpt (b.heap.nsMap mainGlobals "__annotations__") fun ann =>
      (goF st n ann M ⟨t, n, b.heap.life, b.gens, b.drawn, b.toks, b.os⟩ (topStub p)).map fun s => (⟨t, n, b.heap.life, b.gens, b.drawn, b.toks, b.os⟩, s)))
  | none => none
def endM (st1 st2 : SharedT → Thread → Option (SharedT × Thread)) (p : Program) (N M : Nat) : Option (SharedT × SharedT) := match goI st1 N (startT (opening p)) (start (opening p)).2 with
  | some a => (match fenceModules? p a.abs with
    | some b => topM st2 p M b
    | none => none)
  | none => none
theorem topM_ok {tb : String → Option Builtin} {p : Program} {w : World} {M : Nat} {b : Shared} {bT s : SharedT} (h : topM (stepT (denote tb) p w) p M b = some (bT, s)) :
    bT.abs = b ∧ (b.heap.isNs mainGlobals && b.gens.size == 0) = true ∧ topRun tb p w b.heap.objs.size (b.heap.nsMap mainGlobals "__annotations__") M b (topStub p) = some s.abs := by
  unfold topM at h
  cases e : putAll b.heap.objs.toList .nil 0 with
  | none => rw [e] at h; cases h
  | some r =>
    obtain ⟨t, n⟩ := r
    rw [e] at h
    simp only [frNat_eq, frOpt_eq] at h
    cases g : (b.heap.isNs mainGlobals && b.gens.size == 0) with
    | false => rw [g] at h; cases h
    | true =>
      rw [g] at h
      obtain ⟨s', h1, h2⟩ := Option.map_eq_some_iff.mp (show Option.map _ _ = some (bT, s) from h)
      cases h2
      have eh := putAll_heap e
      have ab : (⟨t, n, b.heap.life, b.gens, b.drawn, b.toks, b.os⟩ : SharedT).abs = b := by
        show (⟨absHeap t n b.heap.life, b.gens, b.drawn, b.toks, b.os⟩ : Shared) = b
        rw [eh]
      have en : b.heap.objs.size = n := by rw [← eh]; exact absHeap_size t n _
      refine ⟨ab, rfl, ?_⟩
      have q := goF_ok h1
      rw [ab] at q
      rw [en]
      exact q
theorem endM_ok {tb : String → Option Builtin} {p : Program} {w : World} {N M : Nat} {bT s : SharedT} (h : endM (stepT (denote tb) (opening p) w) (stepT (denote tb) p w) p N M = some (bT, s)) :
    fencedOpening tb p w N = some bT.abs ∧ (bT.abs.heap.isNs mainGlobals && bT.abs.gens.size == 0) = true ∧ topRun tb p w bT.abs.heap.objs.size (bT.abs.heap.nsMap mainGlobals "__annotations__") M bT.abs (topStub p) = some s.abs := by
  unfold endM at h
  cases e : goI (stepT (denote tb) (opening p) w) N (startT (opening p)) (start (opening p)).2 with
  | none => rw [e] at h; cases h
  | some a =>
    rw [e] at h
    simp only at h
    have q := goI_ok e
    rw [startT_abs] at q
    cases f : fenceModules? p a.abs with
    | none => rw [f] at h; cases h
    | some b =>
      rw [f] at h
      obtain ⟨h1, h2, h3⟩ := topM_ok h
      subst h1
      exact ⟨by unfold fencedOpening; rw [q]; exact f, h2, h3⟩
/-- the run's equation -/
def RunM (r : OpenRow) (q : Program) (H : Hook) (ob : SharedT → H.α) (N M : Nat) (loose : List PySem.Str) (w : World) : Prop :=
  (endM (stepQ (denQ tabQ) (opening r.prog) w) (stepQ (denQ tabQ) r.prog w) r.prog N M).map (fun z => (looksF r.prog z.1.abs.heap z.2.abs, seenQ q loose (importedModules r.prog.main.body) (fun s => xlAt q [] s && recOk r.toRowW.records s) z.2.abs, ob z.2)) = some (true, openGood q loose, H.val w)
theorem left_imp {p q : Program} {loose : List Str} {Xt : Shared → Bool} {α : Type} {Yf : Shared → α} {Ya : World → α} {N M : Nat} (le : M ≤ N)
    (run : ∀ w : World, (endM (stepT (denote treeTable) (opening p) w) (stepT (denote treeTable) p w) p N M).map (fun z => (looksF p z.1.abs.heap z.2.abs, openSeen q loose (importedModules p.main.body) Xt true z.2.abs, Yf z.2.abs)) = some (true, openGood q loose, Ya w)) :
    LeftO p q loose Xt Yf Ya N true := fun w => by
  obtain ⟨⟨b, s⟩, e, v⟩ := Option.map_eq_some_iff.mp (run w)
  simp only [Prod.mk.injEq] at v
  obtain ⟨v1, v2, v3⟩ := v
  obtain ⟨h1, h2, h3⟩ := endM_ok e
  have t := topRun_mono (N - M) _ _ _ _ h3
  rw [show M + (N - M) = N by omega] at t
  unfold openEnds
  rw [h1]
  show (topFrom treeTable p w N b.abs).map _ = _
  unfold topFrom
  rw [h2]
  simp only
  rw [t]
  have v1' : (staticsOk (importedModules p.main.body) b.abs.heap s.abs.heap && namesBound p s.abs.heap && gensDone s.abs && laidKept b.abs.heap s.abs.heap) = true := v1
  simp only [Option.bind_some, v1', Option.map_some]
  rw [v2, v3]
theorem head_imp {r : OpenRow} {q : Program} {H : Hook} {ob : SharedT → H.α} {N M : Nat} {loose : List PySem.Str} {d : DefRec} {kwd : List (PySem.Str × PySem.Expr)} (ho : ∀ s : SharedT, ob s = H.obs s.abs) (le : M ≤ N) (run : ∀ w, RunM r q H ob N M loose w)
    (hdef : defOf q r.name = some (d, kwd)) (hp : r.prog.theDef r.name = some (d.params, d.body, d.scope)) (hk : kwWritten? d.params.kwonlyargs d.params.kw_defaults = some kwd)
    (hwr : (!r.writes || r.records.isEmpty) = true) (k1 : r.wellSaid = true) (ok : (chainsOk q && opensWell r.prog && (frees r.toRowW && r.within.isEmpty)) = true) (hb : r.prog.bare) (hw : r.toRowW.promised)
    (call : WalkO q loose (XL q []) H.says r.toRowW d kwd fun f vs => PySem.call f vs) : r.Holds := by
  have left : LeftO r.prog q loose (fun s => xlAt q [] s && recOk r.toRowW.records s) H.obs H.val N true := left_imp le fun w => by
    have z := run w
    have eo : ob = fun s => H.obs s.abs := funext ho
    unfold RunM at z
    rw [eo] at z
    rw [stepQ_eq, denQ_eq, tabQ_eq]
    simp only [seenQ_eq]
    exact z
  refine holds_open (r := r) (q := q) (loose := loose) (XP := XL q []) (YP := H.says) (d := d) (kwd := kwd) left H.of H.keeps (fun s z => xl_of s ?_) XL.keeps hdef hp hk (fun s z => recFacts_of ?_) hwr k1 ok hb hw call
  · exact (Bool.and_eq_true_iff.mp z).1
  · exact (Bool.and_eq_true_iff.mp z).2
end Ev

/-! What a reading comes to, as equations: for evaluation by unification. -/
namespace Ev
open PySem PySem.Spec PyProof.Rows L2

structure V1 (d : ED) (F : FT) (fr : Frm) (r : RV) (fr' : Frm) : Prop where
  run : ∀ k kx, d F fr k kx = k r fr'
structure VA (d : AD) (F : FT) (fr : Frm) (es : List EV) (fr' : Frm) : Prop where
  run : ∀ k kx, d F fr k kx = k es fr'
structure VT (d : TD) (F : FT) (fr : Frm) (b : Bool) (fr' : Frm) : Prop where
  run : ∀ k kx, d F fr k kx = k b fr'
structure VI (d : ID) (F : FT) (fr : Frm) (es : List EV) (fr' : Frm) : Prop where
  run : ∀ k kx, d F fr k kx = k es fr'
inductive Out where
  | nx (fr : Frm) | rt (r : RV) (fr : Frm) | bk (fr : Frm) | ct (fr : Frm)
def Out.app : Out → KS → Bool
  | .nx f, ks => ks.nx f
  | .rt r f, ks => ks.rt r f
  | .bk f, ks => ks.bk f
  | .ct f, ks => ks.ct f
structure S1 (d : SD) (F : FT) (fr : Frm) (o : Out) : Prop where
  run : ∀ ks, d F fr ks = o.app ks
structure Fv (n : Nat) (F : FT) (es : List EV) (r : RV) : Prop where
  run : ∀ k kx, F n es k kx = k r
section
variable {F : FT} {fr fr1 fr2 fr3 : Frm} {r s t v : RV}
theorem yv_var {i : Nat} {e : EV} (h : getS fr i = .v e) : V1 (dVar i) F fr (.v e) fr := .mk fun k kx => by unfold dVar; rw [h]
theorem yv_varO {i : Nat} {l : List EV} (h : getS fr i = .own l) (e : setS fr i (.v (.lst l)) = fr1) : V1 (dVar i) F fr (.v (.lst l)) fr1 := .mk fun k kx => by subst e; unfold dVar; rw [h]
theorem yv_c {e : EV} : V1 (dC e) F fr (.v e) fr := .mk fun _ _ => rfl
theorem yva_nil : VA (dArgs []) F fr [] fr := .mk fun _ _ => rfl
theorem yva_cons {d : ED} {ds : List ED} {es : List EV} (h : V1 d F fr r fr1) (g : VA (dArgs ds) F fr1 es fr2) : VA (dArgs (d :: ds)) F fr (r.ev :: es) fr2 := .mk fun k kx => (h.run _ _).trans (g.run _ _)
theorem yv_bin {o : EV → EV → Option RV} {a b : ED} (ha : V1 a F fr r fr1) (hb : V1 b F fr1 s fr2) (ho : o r.ev s.ev = some v) : V1 (dBin o a b) F fr v fr2 := .mk fun k kx => (ha.run _ _).trans ((hb.run _ _).trans (by rw [ho]))
theorem yv_un {o : EV → Option RV} {a : ED} (ha : V1 a F fr r fr1) (ho : o r.ev = some v) : V1 (dUn o a) F fr v fr1 := .mk fun k kx => (ha.run _ _).trans (by rw [ho])
def isIns : EV → Bool
  | .ins _ _ => true
  | _ => false
theorem yv_binO {o : EV → EV → Option RV} {tb : List (Nat × Nat)} {post : RV → Option RV} {a b : ED} (ha : V1 a F fr r fr1) (hb : V1 b F fr1 s fr2) (hi : isIns r.ev = false) (ho : o r.ev s.ev = some v) : V1 (dBinO o tb post a b) F fr v fr2 := .mk fun k kx => (ha.run _ _).trans ((hb.run _ _).trans (by
  unfold evO
  cases e : r.ev with
  | ins c fs => rw [e] at hi; cases hi
  | _ => rw [e] at ho; simp only [ho]))
theorem yv_binI {o : EV → EV → Option RV} {tb : List (Nat × Nat)} {post : RV → Option RV} {a b : ED} {c n : Nat} {fs : List EV} {w : RV} (ha : V1 a F fr r fr1) (hb : V1 b F fr1 s fr2) (hi : r.ev = .ins c fs) (ht : tabE tb c = some n) (hr : rightOk c s.ev = true) (hf : Fv n F [.ins c fs, s.ev] w) (hp : post w = some v) : V1 (dBinO o tb post a b) F fr v fr2 := .mk fun k kx => (ha.run _ _).trans ((hb.run _ _).trans (by
  unfold evO
  simp only [hi, ht, hr]
  rw [hf.run, hp]))
theorem yv_blt {o : List EV → Option RV} {a : AD} {es : List EV} (ha : VA a F fr es fr1) (ho : o es = some v) : V1 (dBlt o a) F fr v fr1 := .mk fun k kx => (ha.run _ _).trans (by rw [ho])
theorem yv_call {n : Nat} {ds : List EV} {a : AD} {es : List EV} (ha : VA a F fr es fr1) (hf : Fv n F (es ++ ds) v) : V1 (dCallD n ds a) F fr v fr1 := .mk fun k kx => (ha.run _ _).trans (hf.run _ _)
theorem yv_callK {n : Nat} {ix : List Nat} {a : AD} {es : List EV} (ha : VA a F fr es fr1) (hf : Fv n F (pickE ix es) v) : V1 (dCallK n ix a) F fr v fr1 := .mk fun k kx => (ha.run _ _).trans (hf.run _ _)
theorem yv_meth {tb : List (Nat × Nat)} {o : ED} {a : AD} {c n : Nat} {fs : List EV} {es : List EV} (ho : V1 o F fr r fr1) (hi : r.ev = .ins c fs) (ht : tabE tb c = some n) (ha : VA a F fr1 es fr2) (hf : Fv n F (.ins c fs :: es) v) : V1 (dMeth tb o a) F fr v fr2 := .mk fun k kx => (ho.run _ _).trans (by
  simp only [hi, ht]
  exact (ha.run _ _).trans (hf.run _ _))
theorem yv_tup {a : AD} {es : List EV} (ha : VA a F fr es fr1) (hf : fits es.length = true) : V1 (dTup a) F fr (.v (.tup es)) fr1 := .mk fun k kx => (ha.run _ _).trans (by rw [hf])
theorem yv_lst {a : AD} {es : List EV} (ha : VA a F fr es fr1) (hf : fits es.length = true) : V1 (dLst a) F fr (.fr es) fr1 := .mk fun k kx => (ha.run _ _).trans (by rw [hf])
theorem yv_sl0 {a : ED} {j : Int} {h : ED} (ha : V1 a F fr r fr1) (hh : V1 h F fr1 s fr2) (hj : s.ev = .int j) (ho : slE r.ev none (some j) = some v) : V1 (dSl a none (some h)) F fr v fr2 := .mk fun k kx => (ha.run _ _).trans ((hh.run _ _).trans (by simp only [hj, ho]))
theorem yv_sl1 {a : ED} {j : Int} {h : ED} (ha : V1 a F fr r fr1) (hh : V1 h F fr1 s fr2) (hj : s.ev = .int j) (ho : slE r.ev (some j) none = some v) : V1 (dSl a (some h) none) F fr v fr2 := .mk fun k kx => (ha.run _ _).trans ((hh.run _ _).trans (by simp only [hj, ho]))
theorem yv_sl2 {a : ED} {i j : Int} {l h : ED} (ha : V1 a F fr r fr1) (hl : V1 l F fr1 t fr2) (hi : t.ev = .int i) (hh : V1 h F fr2 s fr3) (hj : s.ev = .int j) (ho : slE r.ev (some i) (some j) = some v) : V1 (dSl a (some l) (some h)) F fr v fr3 := .mk fun k kx => (ha.run _ _).trans ((hl.run _ _).trans (by
  simp only [hi]
  exact (hh.run _ _).trans (by simp only [hj, ho])))
theorem yv_sl {a : ED} (ha : V1 a F fr r fr1) (ho : slE r.ev none none = some v) : V1 (dSl a none none) F fr v fr1 := .mk fun k kx => (ha.run _ _).trans (by simp only [ho])
/-! tests -/
theorem yvt_b {d : ED} {b : Bool} (h : V1 d F fr r fr1) (e : r.ev = .bl b) : VT (dTb d) F fr b fr1 := .mk fun k kx => (h.run _ _).trans (by simp only [e])
theorem yvt_t {d : ED} {b : Bool} (h : V1 d F fr r fr1) (e : truE r.ev = some b) : VT (dTt d) F fr b fr1 := .mk fun k kx => (h.run _ _).trans (by simp only [e])
theorem yvt_not {a : TD} {b : Bool} (h : VT a F fr b fr1) : VT (dTnot a) F fr (!b) fr1 := .mk fun k kx => h.run _ _
/-- a decision -/
@[reducible] def Dc (c b : Bool) : Prop := c = b
def AndT (c : Bool) (b : TD) (F : FT) (fr : Frm) (d : Bool) (fr' : Frm) : Prop := match c with
  | true => VT b F fr d fr'
  | false => d = false ∧ fr' = fr
def OrT (c : Bool) (b : TD) (F : FT) (fr : Frm) (d : Bool) (fr' : Frm) : Prop := match c with
  | false => VT b F fr d fr'
  | true => d = true ∧ fr' = fr
theorem yvt_and {a b : TD} {c c' d : Bool} (h : VT a F fr c fr1) (e : Dc c c') (g : AndT c' b F fr1 d fr2) : VT (dTand a b) F fr d fr2 := .mk fun k kx => (h.run _ _).trans (by
  cases e
  cases c with
  | true => exact VT.run g _ _
  | false => obtain ⟨rfl, rfl⟩ := g; rfl)
theorem yvt_or {a b : TD} {c c' d : Bool} (h : VT a F fr c fr1) (e : Dc c c') (g : OrT c' b F fr1 d fr2) : VT (dTor a b) F fr d fr2 := .mk fun k kx => (h.run _ _).trans (by
  cases e
  cases c with
  | false => exact VT.run g _ _
  | true => obtain ⟨rfl, rfl⟩ := g; rfl)
def AndV (c : Bool) (b : ED) (F : FT) (fr : Frm) (d : RV) (fr' : Frm) : Prop := match c with
  | true => V1 b F fr d fr'
  | false => d = .v (.bl false) ∧ fr' = fr
def OrV (c : Bool) (b : ED) (F : FT) (fr : Frm) (d : RV) (fr' : Frm) : Prop := match c with
  | false => V1 b F fr d fr'
  | true => d = .v (.bl true) ∧ fr' = fr
theorem yv_and {a b : ED} {c c' : Bool} (h : V1 a F fr r fr1) (hr : r.ev = .bl c) (e : Dc c c') (g : AndV c' b F fr1 v fr2) : V1 (dAndV a b) F fr v fr2 := .mk fun k kx => (h.run _ _).trans (by
  cases e
  rw [hr]
  cases c with
  | true => exact V1.run g _ _
  | false => obtain ⟨rfl, rfl⟩ := g; rfl)
theorem yv_or {a b : ED} {c c' : Bool} (h : V1 a F fr r fr1) (hr : r.ev = .bl c) (e : Dc c c') (g : OrV c' b F fr1 v fr2) : V1 (dOrV a b) F fr v fr2 := .mk fun k kx => (h.run _ _).trans (by
  cases e
  rw [hr]
  cases c with
  | false => exact V1.run g _ _
  | true => obtain ⟨rfl, rfl⟩ := g; rfl)
theorem yv_not {a : ED} {c : Bool} (h : V1 a F fr r fr1) (hr : r.ev = .bl c) : V1 (dNotV a) F fr (.v (.bl (!c))) fr1 := .mk fun k kx => (h.run _ _).trans (by rw [hr])
theorem yv_ife {t : TD} {a b : ED} {c c' : Bool} (h : VT t F fr c fr1) (e : Dc c c') (g : V1 (cond c' a b) F fr1 v fr2) : V1 (dIfE t a b) F fr v fr2 := .mk fun k kx => (h.run _ _).trans (by
  cases e
  cases c with
  | true => exact g.run _ _
  | false => exact g.run _ _)
/-! statements -/
theorem ys_set {i : Nat} {d : ED} (h : V1 d F fr r fr1) (e : setS fr1 i (slotOf r) = fr2) : S1 (dSet i d) F fr (.nx fr2) := .mk fun ks => e ▸ h.run _ _
theorem ys_ret {d : ED} (h : V1 d F fr r fr1) : S1 (dRet d) F fr (.rt r fr1) := .mk fun ks => h.run _ _
theorem ys_drop {d : ED} (h : V1 d F fr r fr1) : S1 (dDrop d) F fr (.nx fr1) := .mk fun ks => h.run _ _
theorem ys_next : S1 dNext F fr (.nx fr) := .mk fun _ => rfl
theorem ys_break : S1 dBreak F fr (.bk fr) := .mk fun _ => rfl
theorem ys_cont : S1 dCont F fr (.ct fr) := .mk fun _ => rfl
theorem ys_retN : S1 dRetN F fr (.rt (.v .non) fr) := .mk fun _ => rfl
def Con (o : Out) (b : SD) (F : FT) (out : Out) : Prop := match o with
  | .nx f => S1 b F f out
  | .rt r f => out = .rt r f
  | .bk f => out = .bk f
  | .ct f => out = .ct f
theorem ys_seq {a b : SD} {o out : Out} (h : S1 a F fr o) (g : Con o b F out) : S1 (dSeq a b) F fr out := .mk fun ks => (h.run _).trans (by
  cases o with
  | nx f => exact S1.run g _
  | rt r f => cases g; rfl
  | bk f => cases g; rfl
  | ct f => cases g; rfl)
theorem yc_nx {b : SD} {out : Out} (h : S1 b F fr out) : Con (.nx fr) b F out := h
theorem yc_rt {b : SD} : Con (.rt r fr) b F (.rt r fr) := rfl
theorem yc_bk {b : SD} : Con (.bk fr) b F (.bk fr) := rfl
theorem yc_ct {b : SD} : Con (.ct fr) b F (.ct fr) := rfl
theorem ys_if {t : TD} {a b : SD} {c c' : Bool} {out : Out} (h : VT t F fr c fr1) (e : Dc c c') (g : S1 (cond c' a b) F fr1 out) : S1 (dIf t a b) F fr out := .mk fun ks => (h.run _ _).trans (by
  cases e
  cases c with
  | true => exact g.run _
  | false => exact g.run _)
theorem ys_unp {is : List Nat} {d : ED} (h : V1 d F fr r fr1) (e : tgE (.many is) r.ev fr1 = some fr2) : S1 (dUnp is d) F fr (.nx fr2) := .mk fun ks => (h.run _ _).trans (by rw [e]; rfl)
theorem ys_par {i j : Nat} {a b : ED} (h : V1 a F fr r fr1) (g : V1 b F fr1 s fr2) (e : setS (setS fr2 i (.v r.ev)) j (.v s.ev) = fr3) : S1 (dPar i j a b) F fr (.nx fr3) := .mk fun ks => e ▸ (h.run _ _).trans (g.run _ _)
theorem ys_par3 {fr4 : Frm} {i j l : Nat} {a b c : ED} (h : V1 a F fr r fr1) (g : V1 b F fr1 s fr2) (q : V1 c F fr2 t fr3) (e : setS (setS (setS fr3 i (.v r.ev)) j (.v s.ev)) l (.v t.ev) = fr4) : S1 (dPar3 i j l a b c) F fr (.nx fr4) := .mk fun ks => e ▸ (h.run _ _).trans ((g.run _ _).trans (q.run _ _))
theorem ys_setF {c j : Nat} {d : ED} {fs : List EV} (h : V1 d F fr r fr1) (e : getS fr1 0 = .self c fs) (hl : Nat.beq fs.length j = true) (e' : setS fr1 0 (.self c (fs ++ [r.ev])) = fr2) : S1 (dSetF c j d) F fr (.nx fr2) := .mk fun ks => e' ▸ (h.run _ _).trans (by
  have hc : Nat.beq c c = true := Nat.beq_refl c
  simp only [e, hl, hc, Bool.and_self]
  rfl)
/-! walks -/
theorem yvi_seq {d : ED} {es : List EV} (h : V1 d F fr r fr1) (e : seqE r.ev = some es) : VI (dISeq d) F fr es fr1 := .mk fun k kx => (h.run _ _).trans (by rw [e])
theorem yvi_a {o : List EV → Option (List EV)} {a : AD} {es l : List EV} (h : VA a F fr es fr1) (e : o es = some l) : VI (dIA o a) F fr l fr1 := .mk fun k kx => (h.run _ _).trans (by rw [e])
/-- a comprehension's turns -/
structure LC (tg : Tgt) (te : ED) (vs : List Nat) (F : FT) (acc es : List EV) (fr : Frm) (out : List EV) (frx : Frm) : Prop where
  run : ∀ fr0 k, lcL tg none te vs F fr0 k acc es fr = k (.fr out) (backF fr0 frx vs)
theorem ylc_nil {tg : Tgt} {te : ED} {vs : List Nat} {acc out : List EV} (h : acc.reverse = out) : LC tg te vs F acc [] fr out fr := .mk fun fr0 k => by unfold lcL; rw [h]
theorem ylc_cons {tg : Tgt} {te : ED} {vs : List Nat} {acc es out : List EV} {e : EV} {fr4 : Frm} (ht : tgE tg e fr = some fr1) (h : V1 te F fr1 r fr2) (hp : plainS fr2 vs = true) (hw : wipeF fr2 vs = fr4) (g : LC tg te vs F (r.ev :: acc) es fr4 out fr3) : LC tg te vs F acc (e :: es) fr out fr3 := .mk fun fr0 k => by
  subst hw
  unfold lcL
  rw [ht]
  exact (h.run _ _).trans (by rw [hp]; exact g.run _ _)
theorem yv_lc {it : ID} {tg : Tgt} {te : ED} {vs : List Nat} {es out : List EV} {frx : Frm} (h : VI it F fr es fr1) (hp : plainS fr1 vs = true) (hf : fits es.length = true) (hw : wipeF fr1 vs = fr2) (g : LC tg te vs F [] es fr2 out frx) (hb : backF fr1 frx vs = fr3) : V1 (dLc it tg none te vs) F fr (.fr out) fr3 := .mk fun k kx => (h.run _ _).trans (by
  subst hw hb
  rw [hp, hf]
  exact g.run _ _)
/-- a loop's turns -/
structure FL (tg : Tgt) (b : SD) (F : FT) (es : List EV) (fr : Frm) (out : Out) : Prop where
  run : ∀ ks, forL tg b F ks es fr = out.app ks
theorem yfl_nil {tg : Tgt} {b : SD} : FL tg b F [] fr (.nx fr) := .mk fun _ => rfl
def FCon (o : Out) (tg : Tgt) (b : SD) (F : FT) (es : List EV) (out : Out) : Prop := match o with
  | .nx f => FL tg b F es f out
  | .ct f => FL tg b F es f out
  | .bk f => out = .nx f
  | .rt r f => out = .rt r f
theorem yfc_nx {tg : Tgt} {b : SD} {es : List EV} {out : Out} (h : FL tg b F es fr out) : FCon (.nx fr) tg b F es out := h
theorem yfc_ct {tg : Tgt} {b : SD} {es : List EV} {out : Out} (h : FL tg b F es fr out) : FCon (.ct fr) tg b F es out := h
theorem yfc_bk {tg : Tgt} {b : SD} {es : List EV} : FCon (.bk fr) tg b F es (.nx fr) := rfl
theorem yfc_rt {tg : Tgt} {b : SD} {es : List EV} : FCon (.rt r fr) tg b F es (.rt r fr) := rfl
theorem yfl_cons {tg : Tgt} {b : SD} {e : EV} {es : List EV} {o out : Out} (ht : tgE tg e fr = some fr1) (h : S1 b F fr1 o) (g : FCon o tg b F es out) : FL tg b F (e :: es) fr out := .mk fun ks => by
  unfold forL
  rw [ht]
  exact (h.run _).trans (by
    cases o with
    | nx f => exact FL.run g _
    | ct f => exact FL.run g _
    | bk f => cases g; rfl
    | rt r f => cases g; rfl)
theorem ys_for {it : ID} {tg : Tgt} {b : SD} {es : List EV} {out : Out} (h : VI it F fr es fr1) (g : FL tg b F es fr1 out) : S1 (dFor it tg b) F fr out := .mk fun ks => (h.run _ _).trans (g.run _)
/-- a while's turns -/
theorem ys_while0 {n : Nat} {t : TD} {b : SD} (h : VT t F fr false fr1) : S1 (dWhile (n + 1) t b) F fr (.nx fr1) := .mk fun ks => by
  unfold dWhile whlL
  exact h.run _ _
theorem ys_while1 {n : Nat} {t : TD} {b : SD} {out : Out} (h : VT t F fr true fr1) (g : S1 b F fr1 (.nx fr2)) (q : S1 (dWhile n t b) F fr2 out) : S1 (dWhile (n + 1) t b) F fr out := .mk fun ks => by
  unfold dWhile whlL
  refine (h.run _ _).trans ?_
  refine (g.run _).trans ?_
  exact q.run ks
/-! calls -/
theorem yfv_fn {F' : FT} {n np nN : Nat} {D : SD} {es : List EV} (h : F n = fnE np nN D F') (hl : Nat.beq es.length np = true) (hf : frE es nN = fr1) (g : S1 D F' fr1 (.rt r fr)) (e : r = s) : Fv n F es s := .mk fun k kx => by
  subst hf e
  rw [h]; unfold fnE; rw [hl]; exact g.run _
theorem yfv_fnN {F' : FT} {n np nN : Nat} {D : SD} {es : List EV} (h : F n = fnE np nN D F') (hl : Nat.beq es.length np = true) (hf : frE es nN = fr1) (g : S1 D F' fr1 (.nx fr)) : Fv n F es (.v .non) := .mk fun k kx => by
  subst hf
  rw [h]; unfold fnE; rw [hl]; exact g.run _
theorem yfv_in {F' : FT} {n c nf np nN : Nat} {D : SD} {es fs : List EV} (h : F n = inE c nf np nN D F') (hl : Nat.beq es.length np = true) (hf0 : frE es nN = fr1) (g : S1 D F' (.self c [] :: fr1) (.nx fr)) (e : getS fr 0 = .self c fs) (hf : Nat.beq fs.length nf = true) : Fv n F es (.v (.ins c fs)) := .mk fun k kx => by
  subst hf0
  rw [h]; unfold inE; rw [hl]
  refine (g.run _).trans ?_
  have hc : Nat.beq c c = true := Nat.beq_refl c
  simp only [Out.app, ksI, e, hf, hc, Bool.and_self]
/-- on towards True -/
theorem V1.go {d : ED} {k : RV → Frm → Bool} {kx : KX} (h : V1 d F fr r fr1) (g : k r fr1 = true) : d F fr k kx = true := (h.run _ _).trans g
theorem VT.go {d : TD} {b : Bool} {k : Bool → Frm → Bool} {kx : KX} (h : VT d F fr b fr1) (g : k b fr1 = true) : d F fr k kx = true := (h.run _ _).trans g
theorem VA.go {d : AD} {es : List EV} {k : List EV → Frm → Bool} {kx : KX} (h : VA d F fr es fr1) (g : k es fr1 = true) : d F fr k kx = true := (h.run _ _).trans g
theorem S1.go {d : SD} {o : Out} {ks : KS} (h : S1 d F fr o) (g : o.app ks = true) : d F fr ks = true := (h.run _).trans g
end
/-! operators on numbers -/
theorem yo_mul {u v : EV} {x y : Int} (hu : u = .int x) (hv : v = .int y) (h : mulFits x y = true) : bMul u v = some (.v (.int (x * y))) := by subst hu hv; unfold bMul; simp only [h]
theorem yo_add {u v : EV} {x y : Int} (hu : u = .int x) (hv : v = .int y) : bAdd u v = some (.v (.int (x + y))) := by subst hu hv; rfl
theorem yo_sub {u v : EV} {x y : Int} (hu : u = .int x) (hv : v = .int y) : bSub u v = some (.v (.int (x - y))) := by subst hu hv; rfl
theorem yo_div {u v : EV} {x y : Int} (hu : u = .int x) (hv : v = .int y) (h : divFits y = true) : bDiv u v = some (.v (.int (x.fdiv y))) := by subst hu hv; unfold bDiv; simp only [h]
/-! sizes: at most n bits -/
class Bd (x : Int) (n : outParam Nat) : Prop where
  h : x.natAbs < 2 ^ n
theorem Bd.le {x : Int} {n m : Nat} (h : Bd x n) (l : n ≤ m) : Bd x m := ⟨Nat.lt_of_lt_of_le h.h (Nat.pow_le_pow_right (by decide) l)⟩
instance Bd.add {x y : Int} {m n : Nat} [a : Bd x m] [b : Bd y n] : Bd (x + y) (m + n + 1) := ⟨by
  have h1 := a.h; have h2 := b.h
  have p1 : 2 ^ m ≤ 2 ^ (m + n) := Nat.pow_le_pow_right (by decide) (by omega)
  have p2 : 2 ^ n ≤ 2 ^ (m + n) := Nat.pow_le_pow_right (by decide) (by omega)
  rw [Nat.pow_succ]; omega⟩
instance Bd.sub {x y : Int} {m n : Nat} [a : Bd x m] [b : Bd y n] : Bd (x - y) (m + n + 1) := ⟨by
  have h1 := a.h; have h2 := b.h
  have p1 : 2 ^ m ≤ 2 ^ (m + n) := Nat.pow_le_pow_right (by decide) (by omega)
  have p2 : 2 ^ n ≤ 2 ^ (m + n) := Nat.pow_le_pow_right (by decide) (by omega)
  rw [Nat.pow_succ]; omega⟩
instance Bd.neg {x : Int} {m : Nat} [a : Bd x m] : Bd (-x) m := ⟨by rw [Int.natAbs_neg]; exact a.h⟩
instance Bd.mul {x y : Int} {m n : Nat} [a : Bd x m] [b : Bd y n] : Bd (x * y) (m + n) := ⟨by
  rw [Int.natAbs_mul, Nat.pow_add]
  exact Nat.mul_lt_mul'' a.h b.h⟩
instance Bd.lit {k : Nat} : Bd (OfNat.ofNat k : Int) (k.log2 + 1) := ⟨by
  show k < _
  exact Nat.lt_log2_self⟩
theorem Bd.div {x y : Int} {m : Nat} (a : Bd x m) : Bd (x / y) m := ⟨by
  have h := a.h
  by_cases hy : y = 0
  · subst hy; simp only [Int.ediv_zero, Int.natAbs_zero]; omega
  · by_cases h0 : 0 ≤ x
    · have := Int.natAbs_ediv_le_natAbs x y
      omega
    · have := Int.natAbs_ediv_le_natAbs x y
      omega⟩
theorem log2_lt {k n : Nat} (h : n < 2 ^ k) : n.log2 ≤ k := by
  by_cases h0 : n = 0
  · subst h0; simp
  · have := (Nat.log2_lt h0).mpr h
    omega
theorem mulF {x y : Int} {m n : Nat} [a : Bd x m] [b : Bd y n] (h : Nat.blt (m + n) 1000000 = true) : mulFits x y = true := by
  unfold mulFits
  have h1 := log2_lt a.h
  have h2 := log2_lt b.h
  have h := Nat.le_of_ble_eq_true h
  exact Nat.ble_eq_true_of_le (by omega)
end Ev

/-! More for evaluation: decisions, comparisons, signs, comprehensions of any length. -/
namespace Ev
open PySem PySem.Spec PyProof.Rows L2
section
variable {F : FT} {fr fr1 fr2 fr3 : Frm} {r s t v : RV}
theorem yandV_t {b : ED} (h : V1 b F fr v fr1) : AndV true b F fr v fr1 := h
theorem yandV_f {b : ED} : AndV false b F fr (.v (.bl false)) fr := ⟨rfl, rfl⟩
theorem yorV_t {b : ED} : OrV true b F fr (.v (.bl true)) fr := ⟨rfl, rfl⟩
theorem yorV_f {b : ED} (h : V1 b F fr v fr1) : OrV false b F fr v fr1 := h
theorem yandT_t {b : TD} {d : Bool} (h : VT b F fr d fr1) : AndT true b F fr d fr1 := h
theorem yandT_f {b : TD} : AndT false b F fr false fr := ⟨rfl, rfl⟩
theorem yorT_t {b : TD} : OrT true b F fr true fr := ⟨rfl, rfl⟩
theorem yorT_f {b : TD} {d : Bool} (h : VT b F fr d fr1) : OrT false b F fr d fr1 := h
theorem ycondV_t {a b : ED} (h : V1 a F fr v fr1) : V1 (cond true a b) F fr v fr1 := h
theorem ycondV_f {a b : ED} (h : V1 b F fr v fr1) : V1 (cond false a b) F fr v fr1 := h
theorem ycondS_t {a b : SD} {o : Out} (h : S1 a F fr o) : S1 (cond true a b) F fr o := h
theorem ycondS_f {a b : SD} {o : Out} (h : S1 b F fr o) : S1 (cond false a b) F fr o := h
/-- a decision by a fact -/
theorem ydc {c b : Bool} (h : c = b) : Dc c b := h
/-- comprehensions of any length -/
theorem ylc_map {α : Type} {tg : Tgt} {te : ED} {vs : List Nat} {f g : α → EV} : ∀ (l : List α) (acc : List EV), (∀ x ∈ l, ∃ fr1 r fr2, tgE tg (f x) fr = some fr1 ∧ V1 te F fr1 r fr2 ∧ r.ev = g x ∧ plainS fr2 vs = true ∧ wipeF fr2 vs = fr) → LC tg te vs F acc (l.map f) fr (acc.reverse ++ l.map g) fr
  | [], acc, _ => ylc_nil (by simp)
  | x :: l, acc, h => by
    obtain ⟨fr1, r, fr2, h1, h2, h3, h4, h5⟩ := h x List.mem_cons_self
    have q := ylc_map l (r.ev :: acc) fun y hy => h y (List.mem_cons_of_mem _ hy)
    rw [h3] at q
    have e : (g x :: acc).reverse ++ l.map g = acc.reverse ++ (x :: l).map g := by simp
    rw [e] at q
    exact ylc_cons h1 h2 h4 h5 (h3 ▸ q)
theorem yv_lcMap {α : Type} {it : ID} {tg : Tgt} {te : ED} {vs : List Nat} {f g : α → EV} {l : List α} {es : List EV} {frx : Frm} (hi : VI it F fr es fr1) (he : es = l.map f) (hp : plainS fr1 vs = true) (hf : l.length ≤ 1000000) (hw : wipeF fr1 vs = fr2)
    (ht : ∀ x ∈ l, ∃ fr3 r fr4, tgE tg (f x) fr2 = some fr3 ∧ V1 te F fr3 r fr4 ∧ r.ev = g x ∧ plainS fr4 vs = true ∧ wipeF fr4 vs = fr2) (hb : backF fr1 fr2 vs = frx) : V1 (dLc it tg none te vs) F fr (.fr (l.map g)) frx := by
  subst he
  refine yv_lc hi hp ?_ hw (ylc_map l [] ht) hb
  unfold fits
  rw [List.length_map]
  exact Nat.ble_eq_true_of_le hf
end
/-! comparisons -/
theorem eqv_int (x y : Int) : PyData.eqv (.int x) (.int y) = decide (x = y) := by
  unfold PyData.eqv
  rw [Bool.eq_iff_iff]; simp
theorem eqI {x y : Int} : eqE (.int x) (.int y) = some (decide (x = y)) := by
  show some (PyData.eqv (.int x) (.int y)) = _
  rw [eqv_int]
theorem yo_eq {u v : EV} {x y : Int} (hu : u = .int x) (hv : v = .int y) : bEq u v = some (.v (.bl (decide (x = y)))) := by subst hu hv; unfold bEq; rw [eqI]
theorem yo_ne {u v : EV} {x y : Int} (hu : u = .int x) (hv : v = .int y) : bNe u v = some (.v (.bl (!decide (x = y)))) := by subst hu hv; unfold bNe; rw [eqI]
theorem datL_ints : ∀ l : List Int, datL (l.map EV.int) = some (l.map PyData.int)
  | [] => rfl
  | x :: l => by
    show datL (.int x :: l.map EV.int) = _
    unfold datL
    rw [datL_ints l]
    rfl
theorem eqvAll_ints : ∀ l m : List Int, PyData.eqvAll (l.map PyData.int) (m.map PyData.int) = decide (l = m)
  | [], [] => rfl
  | [], _ :: _ => rfl
  | _ :: _, [] => rfl
  | x :: l, y :: m => by
    show PyData.eqvAll (.int x :: l.map PyData.int) (.int y :: m.map PyData.int) = _
    unfold PyData.eqvAll
    rw [eqv_int, eqvAll_ints l m]
    rw [Bool.eq_iff_iff]; simp
theorem canLay_ints : ∀ l : List Int, PyData.canLayAll0 (l.map PyData.int) = true
  | [] => rfl
  | x :: l => by
    show PyData.canLayAll0 (.int x :: l.map PyData.int) = true
    unfold PyData.canLayAll0
    rw [canLay_ints l]
    rfl
theorem depth_ints : ∀ l : List Int, PyData.depthAll (l.map PyData.int) = 0
  | [] => rfl
  | x :: l => by
    show PyData.depthAll (.int x :: l.map PyData.int) = 0
    unfold PyData.depthAll
    rw [depth_ints l]
    rfl
theorem shaped_ints (l : List Int) : SeqAt.shaped (.tuple (l.map PyData.int)) = true := by
  unfold SeqAt.shaped PyData.canLay0 PyData.depth
  rw [canLay_ints, depth_ints]
  rfl
theorem eqE_tups (l m : List Int) : eqE (.tup (l.map EV.int)) (.tup (m.map EV.int)) = some (decide (l = m)) := by
  have e : ∀ l : List Int, datE (.tup (l.map EV.int)) = some (.tuple (l.map PyData.int)) := fun l => by unfold datE; rw [datL_ints]
  unfold eqE
  rw [e l, e m]
  simp only [shaped_ints, Bool.and_self]
  rw [show PyData.eqv (.tuple (l.map PyData.int)) (.tuple (m.map PyData.int)) = PyData.eqvAll (l.map PyData.int) (m.map PyData.int) by rw [PyData.eqv]]
  rw [eqvAll_ints]
theorem yo_eqT {u v : EV} {l m : List Int} (hu : u = .tup (l.map EV.int)) (hv : v = .tup (m.map EV.int)) : bEq u v = some (.v (.bl (decide (l = m)))) := by subst hu hv; unfold bEq; rw [eqE_tups]
theorem yo_neT {u v : EV} {l m : List Int} (hu : u = .tup (l.map EV.int)) (hv : v = .tup (m.map EV.int)) : bNe u v = some (.v (.bl (!decide (l = m)))) := by subst hu hv; unfold bNe; rw [eqE_tups]
theorem yo_lt {u v : EV} {x y : Int} (hu : u = .int x) (hv : v = .int y) : bLt u v = some (.v (.bl (decide (x < y)))) := by subst hu hv; show some (RV.v (EV.bl (ltI x y))) = _; rw [ltI_eq]
theorem yo_ge {u v : EV} {x y : Int} (hu : u = .int x) (hv : v = .int y) : bGe u v = some (.v (.bl (decide (y ≤ x)))) := by subst hu hv; show some (RV.v (EV.bl (leI y x))) = _; rw [leI_eq]
theorem yo_gt {u v : EV} {x y : Int} (hu : u = .int x) (hv : v = .int y) : bGt u v = some (.v (.bl (decide (y < x)))) := by subst hu hv; show some (RV.v (EV.bl (ltI y x))) = _; rw [ltI_eq]
theorem yo_le {u v : EV} {x y : Int} (hu : u = .int x) (hv : v = .int y) : bLe u v = some (.v (.bl (decide (x ≤ y)))) := by subst hu hv; show some (RV.v (EV.bl (leI x y))) = _; rw [leI_eq]
section
variable {a b c d e f g h : EV}
theorem cut04 : slE (.tup [a, b, c, d, e, f, g, h]) none (some 4) = some (.v (.tup [a, b, c, d])) := rfl
theorem cut48 : slE (.tup [a, b, c, d, e, f, g, h]) (some 4) none = some (.v (.tup [e, f, g, h])) := rfl
theorem cut14 : slE (.tup [a, b, c, d, e, f, g, h]) (some 1) (some 4) = some (.v (.tup [b, c, d])) := rfl
theorem cut58 : slE (.tup [a, b, c, d, e, f, g, h]) (some 5) none = some (.v (.tup [f, g, h])) := rfl
theorem yo_mul1 {u v : EV} {x : Int} {n : Nat} [Bd x n] (hu : u = .int x) (hv : v = .int 1) (h : n < 900000) : bMul u v = some (.v (.int x)) := by
  have e : mulFits x 1 = true := mulF (n := 2) (b := ⟨by decide⟩) (Nat.ble_eq_true_of_le (by omega))
  subst hu hv
  unfold bMul
  simp only [e, Int.mul_one]
end
theorem yo_addT {u v : EV} {a b l : List EV} (hu : u = .tup a) (hv : v = .tup b) (hf : fits (a.length + b.length) = true) (e : a ++ b = l) : bAdd u v = some (.v (.tup l)) := by subst hu hv e; unfold bAdd; simp only [hf]
/-! above nought -/
class Ps (x : Int) : Prop where
  h : 0 < x
instance Ps.mul {x y : Int} [a : Ps x] [b : Ps y] : Ps (x * y) := ⟨Int.mul_pos a.h b.h⟩
instance Ps.lit {k : Nat} [h : NeZero k] : Ps (OfNat.ofNat k : Int) := ⟨by
  have := h.out
  show (0 : Int) < (k : Int)
  omega⟩
instance Ps.l1 : Ps 1 := ⟨by decide⟩
instance Ps.l2 : Ps 2 := ⟨by decide⟩
instance Ps.l3 : Ps 3 := ⟨by decide⟩
instance Ps.l4 : Ps 4 := ⟨by decide⟩
instance Bd.l0 : Bd 0 1 := ⟨by decide⟩
instance Bd.l1 : Bd 1 1 := ⟨by decide⟩
instance Bd.l2 : Bd 2 2 := ⟨by decide⟩
instance Bd.l3 : Bd 3 2 := ⟨by decide⟩
instance Bd.l4 : Bd 4 3 := ⟨by decide⟩
instance Bd.l5 : Bd 5 3 := ⟨by decide⟩
instance Bd.l6 : Bd 6 3 := ⟨by decide⟩
theorem Bd.n {n : Nat} {m : Nat} (h : n < 2 ^ m) : Bd (n : Int) m := ⟨h⟩
theorem mulFo {x y : Int} {m n : Nat} [a : Bd x m] [b : Bd y n] (h : m + n < 1000000) : mulFits x y = true := mulF (Nat.ble_eq_true_of_le h)
/-! greatest common parts -/
/-- the greatest common part of d and all of l -/
def gl : Int → List Int → Int
  | d, [] => d
  | d, x :: l => gl (Int.ofNat (Nat.gcd d.natAbs x.natAbs)) l
theorem gl_pos : ∀ {l : List Int} {d : Int}, 0 < d → 0 < gl d l
  | [], _, h => h
  | x :: l, d, h => gl_pos (l := l) (by
    have : 0 < Nat.gcd d.natAbs x.natAbs := Nat.gcd_pos_of_pos_left _ (by omega)
    show (0 : Int) < ((Nat.gcd d.natAbs x.natAbs : Nat) : Int)
    omega)
theorem gl_dvd : ∀ {l : List Int} {d : Int}, 0 < d → gl d l ∣ d ∧ ∀ x ∈ l, gl d l ∣ x
  | [], d, h => ⟨Int.dvd_refl d, fun x hx => by cases hx⟩
  | x :: l, d, h => by
    have hp : (0 : Int) < Int.ofNat (Nat.gcd d.natAbs x.natAbs) := by
      have : 0 < Nat.gcd d.natAbs x.natAbs := Nat.gcd_pos_of_pos_left _ (by omega)
      show (0 : Int) < ((Nat.gcd d.natAbs x.natAbs : Nat) : Int)
      omega
    obtain ⟨q1, q2⟩ := gl_dvd (l := l) hp
    have d1 : (Int.ofNat (Nat.gcd d.natAbs x.natAbs)) ∣ d := Int.ofNat_dvd_left.mpr (Nat.gcd_dvd_left _ _)
    have d2 : (Int.ofNat (Nat.gcd d.natAbs x.natAbs)) ∣ x := Int.ofNat_dvd_left.mpr (Nat.gcd_dvd_right _ _)
    refine ⟨Int.dvd_trans q1 d1, fun y hy => ?_⟩
    cases hy with
    | head => exact Int.dvd_trans q1 d2
    | tail _ hy => exact q2 y hy
theorem gl_one : ∀ {l : List Int}, gl 1 l = 1
  | [] => rfl
  | x :: l => by
    show gl (Int.ofNat (Nat.gcd (1 : Int).natAbs x.natAbs)) l = 1
    rw [show (1 : Int).natAbs = 1 from rfl, Nat.gcd_one_left]
    exact gl_one (l := l)
theorem gl_scale (k : Int) (hk : 0 < k) : ∀ (l : List Int) (d : Int), 0 < d → gl (k * d) (l.map (k * ·)) = k * gl d l
  | [], d, _ => rfl
  | x :: l, d, h => by
    show gl (Int.ofNat (Nat.gcd (k * d).natAbs (k * x).natAbs)) (l.map (k * ·)) = k * gl (Int.ofNat (Nat.gcd d.natAbs x.natAbs)) l
    have hp : (0 : Int) < Int.ofNat (Nat.gcd d.natAbs x.natAbs) := by
      have : 0 < Nat.gcd d.natAbs x.natAbs := Nat.gcd_pos_of_pos_left _ (by omega)
      show (0 : Int) < ((Nat.gcd d.natAbs x.natAbs : Nat) : Int)
      omega
    rw [← gl_scale k hk l _ hp]
    congr 1
    rw [Int.natAbs_mul, Int.natAbs_mul, Nat.gcd_mul_left]
    show ((k.natAbs * Nat.gcd d.natAbs x.natAbs : Nat) : Int) = k * ((Nat.gcd d.natAbs x.natAbs : Nat) : Int)
    rw [Int.natCast_mul, Int.natAbs_of_nonneg (Int.le_of_lt hk)]
theorem gl_le {l : List Int} {d : Int} (h : 0 < d) : gl d l ≤ d := Int.le_of_dvd h (gl_dvd h).1
/-- fractions of one bottom, told without common part -/
def red (b : Int) (l : List Int) : Int × List Int := (b / gl b l, l.map (· / gl b l))
theorem red_scale (k b : Int) (l : List Int) (hk : 0 < k) (hb : 0 < b) : red (k * b) (l.map (k * ·)) = red b l := by
  unfold red
  rw [gl_scale k hk l b hb]
  have e : ∀ x : Int, k * x / (k * gl b l) = x / gl b l := fun x => Int.mul_ediv_mul_of_pos x _ hk
  rw [e b, List.map_map]
  congr 1
  exact List.map_congr_left fun x _ => e x
theorem red_eq {b c : Int} {l m : List Int} (hb : 0 < b) (hc : 0 < c) (h : l.map (c * ·) = m.map (b * ·)) : red b l = red c m := by
  rw [← red_scale c b l hc hb, ← red_scale b c m hb hc, h, Int.mul_comm]
theorem red_ne {b c : Int} {l m : List Int} (hb : 0 < b) (hc : 0 < c) (h : red b l = red c m) : l.map (c * ·) = m.map (b * ·) := by
  unfold red at h
  obtain ⟨h1, h2⟩ := Prod.mk.inj h
  have p1 := gl_pos (l := l) hb
  have p2 := gl_pos (l := m) hc
  obtain ⟨d1, d2⟩ := gl_dvd (l := l) hb
  obtain ⟨e1, e2⟩ := gl_dvd (l := m) hc
  generalize gl b l = g at *
  generalize gl c m = k at *
  have eb : b = g * (b / g) := (Int.mul_ediv_cancel' d1).symm
  have ec : c = k * (c / k) := (Int.mul_ediv_cancel' e1).symm
  have el : l.map (c * ·) = (l.map (· / g)).map (fun x => c * (g * x)) := by
    rw [List.map_map]
    refine List.map_congr_left fun x hx => ?_
    show c * x = c * (g * (x / g))
    rw [Int.mul_ediv_cancel' (d2 x hx)]
  have em : m.map (b * ·) = (m.map (· / k)).map (fun x => b * (k * x)) := by
    rw [List.map_map]
    refine List.map_congr_left fun x hx => ?_
    show b * x = b * (k * (x / k))
    rw [Int.mul_ediv_cancel' (e2 x hx)]
  rw [el, em, h2]
  refine List.map_congr_left fun x _ => ?_
  have : c * g = b * k := by
    rw [eb, ec, h1]
    simp only [Int.mul_assoc, Int.mul_comm, Int.mul_left_comm]
  rw [← Int.mul_assoc, ← Int.mul_assoc, this]
end Ev

/-! Readings with draws: what is wished of all ends. -/
namespace Ev
open PySem PySem.Spec PyProof.Rows L2
structure WE (d : ED) (F : FT) (fr : Frm) (Q : RV → Frm → Prop) : Prop where
  run : ∀ k kx, (∀ r f, Q r f → k r f = true) → d F fr k kx = true
structure WA (d : AD) (F : FT) (fr : Frm) (Q : List EV → Frm → Prop) : Prop where
  run : ∀ k kx, (∀ r f, Q r f → k r f = true) → d F fr k kx = true
structure WS (d : SD) (F : FT) (fr : Frm) (Q : Out → Prop) : Prop where
  run : ∀ ks, (∀ o, Q o → o.app ks = true) → d F fr ks = true
structure Fp (n : Nat) (F : FT) (es : List EV) (P : RV → Prop) : Prop where
  run : ∀ k kx, (∀ r, P r → k r = true) → F n es k kx = true
section
variable {F : FT} {fr fr1 : Frm} {r v : RV} {Q : RV → Frm → Prop} {QA : List EV → Frm → Prop} {QS : Out → Prop}
theorem w_v {d : ED} (h : V1 d F fr r fr1) (q : Q r fr1) : WE d F fr Q := ⟨fun k kx c => (h.run _ _).trans (c _ _ q)⟩
theorem w_va {d : AD} {es : List EV} (h : VA d F fr es fr1) (q : QA es fr1) : WA d F fr QA := ⟨fun k kx c => (h.run _ _).trans (c _ _ q)⟩
theorem w_s {d : SD} {o : Out} (h : S1 d F fr o) (q : QS o) : WS d F fr QS := ⟨fun ks c => (h.run _).trans (c _ q)⟩
theorem w_bin {o : EV → EV → Option RV} {a b : ED} (h : WE a F fr fun r f => WE b F f fun s g => ∃ v, o r.ev s.ev = some v ∧ Q v g) : WE (dBin o a b) F fr Q :=
  ⟨fun k kx c => h.run _ _ fun r f h1 => h1.run _ _ fun s g ⟨v, e, q⟩ => by rw [e]; exact c _ _ q⟩
theorem w_nil (q : QA [] fr) : WA (dArgs []) F fr QA := ⟨fun k kx c => c _ _ q⟩
theorem w_cons {d : ED} {ds : List ED} (h : WE d F fr fun r f => WA (dArgs ds) F f fun es g => QA (r.ev :: es) g) : WA (dArgs (d :: ds)) F fr QA :=
  ⟨fun k kx c => h.run _ _ fun r f h1 => h1.run _ _ fun es g q => c _ _ q⟩
theorem w_tup {a : AD} (h : WA a F fr fun es f => fits es.length = true ∧ Q (.v (.tup es)) f) : WE (dTup a) F fr Q :=
  ⟨fun k kx c => h.run _ _ fun es f ⟨e, q⟩ => by rw [e]; exact c _ _ q⟩
theorem w_lst {a : AD} (h : WA a F fr fun es f => fits es.length = true ∧ Q (.fr es) f) : WE (dLst a) F fr Q :=
  ⟨fun k kx c => h.run _ _ fun es f ⟨e, q⟩ => by rw [e]; exact c _ _ q⟩
theorem w_call {n : Nat} {ds : List EV} {a : AD} (h : WA a F fr fun es f => Fp n F (es ++ ds) fun r => Q r f) : WE (dCallD n ds a) F fr Q :=
  ⟨fun k kx c => h.run _ _ fun es f h1 => h1.run _ _ fun r q => c _ _ q⟩
theorem w_blt {o : List EV → Option RV} {a : AD} (h : WA a F fr fun es f => ∃ v, o es = some v ∧ Q v f) : WE (dBlt o a) F fr Q :=
  ⟨fun k kx c => h.run _ _ fun es f ⟨v, e, q⟩ => by rw [e]; exact c _ _ q⟩
theorem w_mono {d : ED} {Q' : RV → Frm → Prop} (h : WE d F fr Q') (i : ∀ r f, Q' r f → Q r f) : WE d F fr Q := ⟨fun k kx c => h.run _ _ fun r f q => c _ _ (i _ _ q)⟩
theorem fp_mono {n : Nat} {es : List EV} {P P' : RV → Prop} (h : Fp n F es P') (i : ∀ r, P' r → P r) : Fp n F es P := ⟨fun k kx c => h.run _ _ fun r q => c _ (i _ q)⟩
theorem fp_v {n : Nat} {es : List EV} {P : RV → Prop} (h : Fv n F es r) (i : P r) : Fp n F es P := ⟨fun k kx c => (h.run _ _).trans (c _ i)⟩
theorem fp_draw {n : Nat} {m : Int} {P : RV → Prop} (hF : F n = drawF) (h0 : 0 < m) (h1 : m < 100000) (h : ∀ d : Int, 0 ≤ d → d < m → P (.v (.int d))) : Fp n F [.pot, .int m] P := ⟨fun k kx c => by
  rw [hF]
  obtain ⟨a, rfl⟩ := Int.eq_ofNat_of_zero_le (Int.le_of_lt h0)
  show (Nat.blt 0 a && (Nat.blt a 100000 && allN a fun d => k (.v (.int (.ofNat d))))) = true
  have e1 : Nat.blt 0 a = true := Nat.ble_eq_true_of_le (by omega)
  have e2 : Nat.blt a 100000 = true := Nat.ble_eq_true_of_le (by omega)
  rw [e1, e2, Bool.true_and, Bool.true_and]
  exact allN_iff.mpr fun d hd => c _ (h _ (Int.natCast_nonneg _) (Int.ofNat_lt.mpr hd))⟩
/-- what stands behind a statement -/
def Nxt (b : SD) (F : FT) (Q : Out → Prop) : Out → Prop
  | .nx f => WS b F f Q
  | o => Q o
theorem w_seq {a b : SD} (h : WS a F fr (Nxt b F QS)) : WS (dSeq a b) F fr QS := ⟨fun ks c => h.run _ fun o q => by
  cases o with
  | nx f => exact WS.run q _ c
  | rt r f => exact c _ q
  | bk f => exact c _ q
  | ct f => exact c _ q⟩
theorem w_set {i : Nat} {d : ED} (h : WE d F fr fun r f => QS (.nx (setS f i (slotOf r)))) : WS (dSet i d) F fr QS := ⟨fun ks c => h.run _ _ fun r f q => c _ q⟩
theorem w_ret {d : ED} (h : WE d F fr fun r f => QS (.rt r f)) : WS (dRet d) F fr QS := ⟨fun ks c => h.run _ _ fun r f q => c _ q⟩
theorem w_unp {is : List Nat} {d : ED} (h : WE d F fr fun r f => ∃ g, tgE (.many is) r.ev f = some g ∧ QS (.nx g)) : WS (dUnp is d) F fr QS := ⟨fun ks c => h.run _ _ fun r f ⟨g, e, q⟩ => by rw [e]; exact c _ q⟩
theorem w_par {i j : Nat} {a b : ED} (h : WE a F fr fun r f => WE b F f fun s g => QS (.nx (setS (setS g i (.v r.ev)) j (.v s.ev)))) : WS (dPar i j a b) F fr QS := ⟨fun ks c => h.run _ _ fun r f h1 => h1.run _ _ fun s g q => c _ q⟩
theorem w_par3 {i j l : Nat} {a b c : ED} (h : WE a F fr fun r f => WE b F f fun s g => WE c F g fun t e => QS (.nx (setS (setS (setS e i (.v r.ev)) j (.v s.ev)) l (.v t.ev)))) : WS (dPar3 i j l a b c) F fr QS := ⟨fun ks q => h.run _ _ fun r f h1 => h1.run _ _ fun s g h2 => h2.run _ _ fun t e h3 => q _ h3⟩
/-- a test that comes to c -/
theorem w_if {t : TD} {a b : SD} {c : Bool} (h : VT t F fr c fr1) (g : WS (cond c a b) F fr1 QS) : WS (dIf t a b) F fr QS := ⟨fun ks q => (h.run _ _).trans (by
  cases c with
  | true => exact g.run _ q
  | false => exact g.run _ q)⟩
theorem w_next (q : QS (.nx fr)) : WS dNext F fr QS := ⟨fun ks c => c _ q⟩
theorem fp_fn {F' : FT} {n np nN : Nat} {D : SD} {es : List EV} {P : RV → Prop} (h : F n = fnE np nN D F') (hl : Nat.beq es.length np = true) (hf : frE es nN = fr1) (g : WS D F' fr1 fun o => match o with | .rt r _ => P r | .nx _ => P (.v .non) | _ => False) : Fp n F es P := ⟨fun k kx c => by
  subst hf
  rw [h]; unfold fnE; rw [hl]
  refine g.run _ fun o q => ?_
  cases o with
  | nx f => exact c _ q
  | rt r f => exact c _ q
  | bk f => exact q.elim
  | ct f => exact q.elim⟩
theorem ws_cond_t {a b : SD} (h : WS a F fr QS) : WS (cond true a b) F fr QS := h
theorem ws_cond_f {a b : SD} (h : WS b F fr QS) : WS (cond false a b) F fr QS := h
end
end Ev

/-! Texts, for evaluation. -/
namespace Ev
open PySem PySem.Spec PyProof.Rows L2
section
variable {F : FT} {fr fr1 fr2 fr3 : Frm} {r s t v : RV}
theorem yv_jsN {acc : Str} : V1 (dJs [] acc) F fr (.v (.str acc)) fr := .mk fun _ _ => rfl
theorem yv_jsC {d : ED} {ds : List ED} {acc y : Str} (h : V1 d F fr r fr1) (e : r.ev = .str y) (hf : fits (acc ++ y).length = true) (g : V1 (dJs ds (acc ++ y)) F fr1 v fr2) : V1 (dJs (d :: ds) acc) F fr v fr2 := .mk fun k kx => (h.run _ _).trans (by
  simp only [e, hf]
  exact g.run _ _)
theorem yv_strI {tb : List (Nat × Nat)} {d : ED} {c n : Nat} {fs : List EV} {y : Str} (h : V1 d F fr r fr1) (e : r.ev = .ins c fs) (ht : tabE tb c = some n) (g : Fv n F [.ins c fs] (.v (.str y))) : V1 (dStr tb d) F fr (.v (.str y)) fr1 := .mk fun k kx => (h.run _ _).trans (by
  unfold strOfE
  simp only [e, ht]
  rw [g.run])
theorem yv_join {d1 d2 : ED} {a : Str} (h : V1 d1 F fr r fr1) (e : r.ev = .str a) (g : V1 d2 F fr1 s fr2) (q : joinE a s.ev = some v) : V1 (dJoin d1 d2) F fr v fr2 := .mk fun k kx => (h.run _ _).trans (by
  simp only [e]
  exact (g.run _ _).trans (by rw [q]))
theorem yo_fmtS {u : EV} {y : Str} (hu : u = .str y) (h : fits y.length = true) : fmtE u = some (.v (.str y)) := by subst hu; unfold fmtE; simp only [h]
theorem yo_fmtI {u : EV} {i : Int} (hu : u = .int i) (h : log1920 i = true) : fmtE u = some (.v (.str (toString i))) := by subst hu; unfold fmtE; simp only [h]
theorem yo_addS {u v : EV} {a b : Str} (hu : u = .str a) (hv : v = .str b) (hf : fits (a.length + b.length) = true) : bAdd u v = some (.v (.str (a ++ b))) := by subst hu hv; unfold bAdd; simp only [hf]
theorem strsE_map : ∀ l : List Str, strsE (l.map EV.str) = some l
  | [] => rfl
  | x :: l => by
    show strsE (.str x :: l.map EV.str) = _
    unfold strsE
    rw [strsE_map l]
theorem yo_join {a : Str} {u : EV} {l : List Str} (hu : u = .lst (l.map EV.str)) (h : joinFits a l = true) : joinE a u = some (.v (.str (Txt.join a l))) := by
  subst hu
  unfold joinE
  simp only [strsE_map, h]
/-- a list's text -/
structure RL (tb : List (Nat × Nat)) (F : FT) (done : List Str) (es : List EV) (t : Str) : Prop where
  run : ∀ k, rpL tb F k done es = k t
theorem rl_nil {tb : List (Nat × Nat)} {done : List Str} (h : fits (listText done).length = true) : RL tb F done [] (listText done) := ⟨fun k => by unfold rpL; simp only [h]⟩
theorem rl_ins {tb : List (Nat × Nat)} {done : List Str} {c n : Nat} {fs es : List EV} {y t : Str} (ht : tabE tb c = some n) (h1 : fits (piled done + 1) = true) (g : Fv n F [.ins c fs] (.v (.str y))) (h2 : fits (piled done + 1 + y.length) = true) (q : RL tb F (done ++ [y]) es t) : RL tb F done (.ins c fs :: es) t := ⟨fun k => by
  unfold rpL rpI
  simp only [ht, h1]
  rw [g.run]
  simp only [h2]
  exact q.run k⟩
theorem yv_reprL {tb : List (Nat × Nat)} {d : ED} {e : EV} {es : List EV} {y : Str} (h : V1 d F fr r fr1) (hr : r.ev = .lst (e :: es)) (g : RL tb F [] (e :: es) y) : V1 (dRepr tb d) F fr (.v (.str y)) fr1 := .mk fun k kx => (h.run _ _).trans (by
  unfold reprE
  simp only [hr]
  exact g.run _)
theorem yv_reprI {tb : List (Nat × Nat)} {d : ED} {c n : Nat} {fs : List EV} {y : Str} (h : V1 d F fr r fr1) (e : r.ev = .ins c fs) (ht : tabE tb c = some n) (g : Fv n F [.ins c fs] (.v (.str y))) : V1 (dRepr tb d) F fr (.v (.str y)) fr1 := .mk fun k kx => (h.run _ _).trans (by
  unfold reprE
  simp only [e, ht]
  rw [g.run])
end
theorem fits_le {n : Nat} (h : n ≤ 1000000) : fits n = true := Nat.ble_eq_true_of_le h
theorem textFrom_le : ∀ (ts : List Str) (k : Nat) (acc : Str) (B : Nat), (∀ t ∈ ts, t.length ≤ B) → (textFrom k acc ts).length ≤ acc.length + ts.length * (B + 2)
  | [], k, acc, B, _ => by show acc.length ≤ _; simp
  | t :: r, k, acc, B, h => by
    have q := textFrom_le r (k + 1) (acc ++ (if k > 0 then ", " else "" : String) ++ t) B fun u hu => h u (List.mem_cons_of_mem _ hu)
    have e : (acc ++ (if k > 0 then ", " else "" : String) ++ t).length = acc.length + (if k > 0 then 2 else 0) + t.length := by
      rw [strLen_append, strLen_append]
      split <;> rfl
    rw [e] at q
    have b := h t List.mem_cons_self
    have e2 : (if k > 0 then 2 else 0 : Nat) ≤ 2 := by split <;> omega
    generalize (if k > 0 then 2 else 0 : Nat) = z at *
    show (textFrom (k + 1) _ r).length ≤ _
    rw [List.length_cons, Nat.succ_mul]
    omega
theorem listText_le {ts : List Str} {B : Nat} (h : ∀ t ∈ ts, t.length ≤ B) : (listText ts).length ≤ 2 + ts.length * (B + 2) := by
  unfold listText
  rw [strLen_append]
  have := textFrom_le ts 0 "[" B h
  have e1 : ("[" : Str).length = 1 := rfl
  have e2 : ("]" : Str).length = 1 := rfl
  rw [e1] at this
  rw [e2]
  omega
/-! texts that can be compared -/
theorem ok_app (a b : Str) : PyData.strOk (a ++ b) = (PyData.strOk a && PyData.strOk b) := by
  unfold PyData.strOk
  rw [Str.cps_append, Array.all_append]
theorem okl1 : PyData.strOk (Str.ofString ", ") = true := by decide +kernel
theorem okl2 : PyData.strOk (Str.ofString "") = true := by decide +kernel
theorem okl3 : PyData.strOk (Str.ofString "[") = true := by decide +kernel
theorem okl4 : PyData.strOk (Str.ofString "]") = true := by decide +kernel
theorem ok_textFrom : ∀ (ts : List Str) (k : Nat) (acc : Str), PyData.strOk acc = true → (∀ t ∈ ts, PyData.strOk t = true) → PyData.strOk (textFrom k acc ts) = true
  | [], k, acc, h, _ => h
  | t :: r, k, acc, h, q => by
    refine ok_textFrom r (k + 1) _ ?_ fun u hu => q u (List.mem_cons_of_mem _ hu)
    rw [ok_app, ok_app, h, q t List.mem_cons_self]
    split
    · rw [okl1]; rfl
    · rw [okl2]; rfl
theorem ok_listText {ts : List Str} (q : ∀ t ∈ ts, PyData.strOk t = true) : PyData.strOk (listText ts) = true := by
  unfold listText
  rw [ok_app, ok_textFrom ts 0 "[" okl3 q, okl4]
  rfl
theorem ok_join4 (g a b c d : Str) (hg : PyData.strOk g = true) (ha : PyData.strOk a = true) (hb : PyData.strOk b = true) (hc : PyData.strOk c = true) (hd : PyData.strOk d = true) : PyData.strOk (Txt.join g [a, b, c, d]) = true := by
  have e : Txt.join g [a, b, c, d] = a ++ g ++ b ++ g ++ c ++ g ++ d := rfl
  rw [e]
  simp only [ok_app, hg, ha, hb, hc, hd, Bool.and_self]
theorem yo_eqS {u v : EV} {x : Str} (hu : u = .str x) (hv : v = .str x) (h : PyData.strOk x = true) : bEq u v = some (.v (.bl true)) := by
  subst hu hv
  have e : SeqAt.shaped (.str x) = true := by
    unfold SeqAt.shaped PyData.canLay0
    rw [h]
    rfl
  show (match eqE (.str x) (.str x) with | some b => some (RV.v (.bl b)) | none => none) = _
  have e2 : eqE (.str x) (.str x) = some true := by
    show (match SeqAt.shaped (.str x) && SeqAt.shaped (.str x) with | true => some (PyData.eqv (.str x) (.str x)) | false => none) = _
    rw [e]
    show some (PyData.eqv (.str x) (.str x)) = _
    rw [show PyData.eqv (.str x) (.str x) = (x == x) by unfold PyData.eqv; rfl]
    simp
  rw [e2]
/-! operators, own or not -/
inductive BinX (o : EV → EV → Option RV) (tb : List (Nat × Nat)) (post : RV → Option RV) (F : FT) : EV → EV → RV → Prop where
  | prim {x y : EV} {v : RV} (hi : isIns x = false) (ho : o x y = some v) : BinX o tb post F x y v
  | own {x y : EV} {c n : Nat} {fs : List EV} {w v : RV} (hx : x = .ins c fs) (ht : tabE tb c = some n) (hr : rightOk c y = true) (hf : Fv n F [.ins c fs, y] w) (hp : post w = some v) : BinX o tb post F x y v
section
variable {F : FT} {fr fr1 fr2 : Frm} {r s v : RV} {o : EV → EV → Option RV} {tb : List (Nat × Nat)} {post : RV → Option RV}
theorem BinX.run {x y : EV} (h : BinX o tb post F x y v) (k : RV → Frm → Bool) (kx : KX) : evO o tb post F x y fr k kx = k v fr := by
  cases h with
  | prim hi ho =>
    unfold evO
    cases x with
    | ins c fs => cases hi
    | _ => simp only [ho]
  | own hx ht hr hf hp =>
    subst hx
    unfold evO
    simp only [ht, hr]
    rw [hf.run, hp]
theorem yv_binX {a b : ED} (ha : V1 a F fr r fr1) (hb : V1 b F fr1 s fr2) (h : BinX o tb post F r.ev s.ev v) : V1 (dBinO o tb post a b) F fr v fr2 := .mk fun k kx => (ha.run _ _).trans ((hb.run _ _).trans (h.run _ _))
theorem w_binX {a b : ED} {Q : RV → Frm → Prop} (h : WE a F fr fun r f => WE b F f fun s g => ∃ v, BinX o tb post F r.ev s.ev v ∧ Q v g) : WE (dBinO o tb post a b) F fr Q :=
  ⟨fun k kx c => h.run _ _ fun r f h1 => h1.run _ _ fun s g ⟨v, e, q⟩ => (e.run _ _).trans (c _ _ q)⟩
theorem w_meth {tb : List (Nat × Nat)} {d : ED} {a : AD} {c n : Nat} {fs : List EV} {Q : RV → Frm → Prop} (ho : V1 d F fr r fr1) (hi : r.ev = .ins c fs) (ht : tabE tb c = some n) (h : WA a F fr1 fun es f => Fp n F (.ins c fs :: es) fun r => Q r f) : WE (dMeth tb d a) F fr Q := ⟨fun k kx c => (ho.run _ _).trans (by
  simp only [hi, ht]
  exact h.run _ _ fun es f h1 => h1.run _ _ fun r q => c _ _ q)⟩
end
end Ev

/-! Laws that draw from pots: comprehensions over draws, pots. -/
namespace Ev
open PySem PySem.Spec PyProof.Rows L2
section
variable {F : FT} {fr fr1 fr2 : Frm} {r v : RV} {Q : RV → Frm → Prop}
theorem wlc {tg : Tgt} {te : ED} {vs : List Nat} {P : EV → Prop} {k : RV → Frm → Bool} {fr0 : Frm} : ∀ (es acc : List EV), (∀ e ∈ es, ∃ fr3, tgE tg e fr2 = some fr3 ∧ WE te F fr3 fun r f => P r.ev ∧ plainS f vs = true ∧ wipeF f vs = fr2) →
    (∀ out, (∀ x ∈ out, x ∈ acc ∨ P x) → k (.fr out) (backF fr0 fr2 vs) = true) → lcL tg none te vs F fr0 k acc es fr2 = true
  | [], acc, _, c => by
    unfold lcL
    exact c _ fun x hx => .inl (List.mem_reverse.mp hx)
  | e :: es, acc, h, c => by
    obtain ⟨fr3, h1, h2⟩ := h e List.mem_cons_self
    unfold lcL
    rw [h1]
    refine h2.run _ _ fun r f ⟨p, q1, q2⟩ => ?_
    rw [q1, q2]
    refine wlc es (r.ev :: acc) (fun e he => h e (List.mem_cons_of_mem _ he)) fun out ho => c out fun x hx => ?_
    rcases ho x hx with q | q
    · rcases List.mem_cons.mp q with q | q
      · exact .inr (q ▸ p)
      · exact .inl q
    · exact .inr q
theorem w_lc {it : ID} {tg : Tgt} {te : ED} {vs : List Nat} {es : List EV} {P : EV → Prop} (hi : VI it F fr es fr1) (hp : plainS fr1 vs = true) (hf : fits es.length = true) (hw : wipeF fr1 vs = fr2) (ht : ∀ e ∈ es, ∃ fr3, tgE tg e fr2 = some fr3 ∧ WE te F fr3 fun r f => P r.ev ∧ plainS f vs = true ∧ wipeF f vs = fr2)
    (q : ∀ out, (∀ x ∈ out, P x) → Q (.fr out) (backF fr1 fr2 vs)) : WE (dLc it tg none te vs) F fr Q := ⟨fun k kx c => by
  refine (hi.run _ _).trans ?_
  subst hw
  rw [hp, hf]
  refine wlc (P := P) es [] ht fun out ho => c _ _ (q out fun x hx => (ho x hx).elim (fun z => by cases z) id)⟩
theorem all_true : ∀ {out : List EV}, (∀ x ∈ out, x = .bl true) → ∃ bs, blsE out = some bs ∧ bs.all id = true
  | [], _ => ⟨[], rfl, rfl⟩
  | x :: out, h => by
    obtain ⟨bs, h1, h2⟩ := all_true (out := out) fun y hy => h y (List.mem_cons_of_mem _ hy)
    have hx := h x List.mem_cons_self
    subst hx
    refine ⟨true :: bs, ?_, by simp [h2]⟩
    unfold blsE
    rw [h1]
theorem yo_all {out : List EV} (h : ∀ x ∈ out, x = .bl true) : oAll [.lst out] = some (.v (.bl true)) := by
  obtain ⟨bs, h1, h2⟩ := all_true h
  unfold oAll
  simp only [h1, h2]
theorem w_pot {d : ED} (h : WE d F fr fun r f => ∃ a b : Int, r = .fr [.int a, .int b] ∧ 0 ≤ a ∧ 0 ≤ b ∧ Q (.v .pot) f) : WE (dPot d) F fr Q := ⟨fun k kx c => h.run _ _ fun r f ⟨a, b, e, ha, hb, q⟩ => by
  subst e
  obtain ⟨a, rfl⟩ := Int.eq_ofNat_of_zero_le ha
  obtain ⟨b, rfl⟩ := Int.eq_ofNat_of_zero_le hb
  exact c _ _ q⟩
end
/-- a number's size, as abs tells it -/
theorem abs_nn (i : Int) : 0 ≤ (match i with | .ofNat n => Int.ofNat n | .negSucc n => Int.ofNat (n + 1)) := by
  cases i <;> exact Int.natCast_nonneg _
theorem max0_nn (d : Int) : 0 ≤ (match ltI 0 d with | true => d | false => 0) := by
  rw [ltI_eq]
  by_cases h : 0 < d
  · rw [decide_eq_true h]; exact Int.le_of_lt h
  · rw [decide_eq_false h]; exact Int.le_refl 0
theorem ix_scr {ns : List Int} {k : Nat} (h : k < ns.length) : ∃ i, bIx (.scr (ns.map .int)) (.int (Int.ofNat k)) = some (.v (.int i)) := by
  refine ⟨ns[k], ?_⟩
  have e1 : Nat.blt k (ns.map EV.int).length = true := Nat.ble_eq_true_of_le (by rw [List.length_map]; exact h)
  show (match itemE (ns.map EV.int) (Int.ofNat k) with | some e => some (RV.v e) | none => none) = _
  have e2 : itemE (ns.map EV.int) (Int.ofNat k) = some (.int ns[k]) := by
    unfold itemE ixE
    simp only [e1, nth_eq]
    rw [List.getElem?_map, List.getElem?_eq_getElem h]
    rfl
  rw [e2]
theorem bd_fmod {c m : Int} {n : Nat} (h0 : 0 < m) (h : m < 2 ^ n) : Bd (c.fmod m) n := ⟨by
  have h1 := Int.fmod_nonneg_of_pos c h0
  have h2 := Int.fmod_lt_of_pos c h0
  have h3 : ((2 ^ n : Nat) : Int) = 2 ^ n := by simp
  omega⟩
/-- how many cells are asked: one to most -/
theorem cells {l : Nat} (most : Int) (h : 1 ≤ most) : ∃ m : Int, (1 ≤ m ∧ m ≤ most) ∧ ∃ q : Int, oMin [.int most, .int (l : Int)] = some (.v (.int q)) ∧ oMax [.int 1, .int q] = some (.v (.int m)) := by
  by_cases c1 : (l : Int) < most
  · by_cases c2 : (1 : Int) < l
    · refine ⟨l, ⟨by omega, by omega⟩, l, ?_, ?_⟩
      · unfold oMin; simp only [ltI_eq, decide_eq_true c1]
      · unfold oMax; simp only [ltI_eq, decide_eq_true c2]
    · refine ⟨1, ⟨by omega, by omega⟩, l, ?_, ?_⟩
      · unfold oMin; simp only [ltI_eq, decide_eq_true c1]
      · unfold oMax; simp only [ltI_eq, decide_eq_false c2]
  · by_cases c2 : 1 < most
    · refine ⟨most, ⟨by omega, by omega⟩, most, ?_, ?_⟩
      · unfold oMin; simp only [ltI_eq, decide_eq_false c1]
      · unfold oMax; simp only [ltI_eq, decide_eq_true c2]
    · refine ⟨1, ⟨by omega, by omega⟩, most, ?_, ?_⟩
      · unfold oMin; simp only [ltI_eq, decide_eq_false c1]
      · unfold oMax; simp only [ltI_eq, decide_eq_false c2]
/-- the items of a short range from nought -/
theorem rng_short {m : Int} (h : 1 ≤ m) (h2 : m ≤ 3) : ∃ es : List EV, oRng1 [.int m] = some es ∧ fits es.length = true ∧ ∀ e ∈ es, ∃ k : Nat, k ≤ 2 ∧ e = .int (Int.ofNat k) := by
  have c : m = 1 ∨ m = 2 ∨ m = 3 := by omega
  rcases c with rfl | rfl | rfl
  · exact ⟨[.int 0], rfl, rfl, by intro e he; simp only [List.mem_cons, List.not_mem_nil, or_false] at he; subst he; exact ⟨0, by omega, rfl⟩⟩
  · exact ⟨[.int 0, .int 1], rfl, rfl, by intro e he; simp only [List.mem_cons, List.not_mem_nil, or_false] at he; rcases he with rfl | rfl; exact ⟨0, by omega, rfl⟩; exact ⟨1, by omega, rfl⟩⟩
  · exact ⟨[.int 0, .int 1, .int 2], rfl, rfl, by intro e he; simp only [List.mem_cons, List.not_mem_nil, or_false] at he; rcases he with rfl | rfl | rfl; exact ⟨0, by omega, rfl⟩; exact ⟨1, by omega, rfl⟩; exact ⟨2, by omega, rfl⟩⟩
end Ev

namespace K81
open PySem PySem.Spec PyProof.Rows L2 Ev
def top (i : Nat) : Stmt := PySem.Challenge.pw_pathshapes_k81_whole_between_of_poses.main.body.getD i (.Pass ⟨0, 0, 0, 0⟩)
abbrev s0 : Stmt := top 13
abbrev s1 : Stmt := top 14
abbrev s2 : Stmt := top 17
abbrev s3 : Stmt := top 18
abbrev s4 : Stmt := inClass (top 19) 0
abbrev s5 : Stmt := inClass (top 19) 10
abbrev s6 : Stmt := inClass (top 19) 17
abbrev s7 : Stmt := inClass (top 19) 18
abbrev s8 : Stmt := top 20
abbrev s9 : Stmt := top 21
abbrev s10 : Stmt := top 22
abbrev s11 : Stmt := top 23
abbrev s12 : Stmt := top 24
abbrev s13 : Stmt := top 26
abbrev s14 : Stmt := top 27
abbrev s15 : Stmt := top 28
abbrev s16 : Stmt := top 29
abbrev s17 : Stmt := top 30
abbrev s18 : Stmt := top 31
abbrev s19 : Stmt := top 33
abbrev s20 : Stmt := top 34
abbrev s21 : Stmt := top 35
abbrev s22 : Stmt := inClass (top 38) 0
abbrev s23 : Stmt := top 39
abbrev s24 : Stmt := top 40
abbrev s25 : Stmt := inClass (top 41) 0
abbrev s26 : Stmt := inClass (top 41) 3
abbrev s27 : Stmt := inClass (top 41) 8
abbrev s28 : Stmt := inClass (top 41) 12
abbrev s29 : Stmt := inClass (top 41) 13
abbrev s30 : Stmt := inClass (top 41) 14
abbrev s31 : Stmt := top 42
abbrev s32 : Stmt := top 43
abbrev s33 : Stmt := top 44
abbrev s34 : Stmt := top 45
abbrev s35 : Stmt := top 49
abbrev s36 : Stmt := top 52
abbrev s37 : Stmt := top 53
abbrev s38 : Stmt := top 54
abbrev s39 : Stmt := top 56
abbrev s40 : Stmt := top 57
abbrev s41 : Stmt := top 58
abbrev s42 : Stmt := top 60
abbrev s43 : Stmt := top 61
abbrev s44 : Stmt := top 65
abbrev s45 : Stmt := top 66
abbrev s46 : Stmt := top 67
abbrev s47 : Stmt := top 68
abbrev s48 : Stmt := top 69
abbrev s49 : Stmt := top 70
abbrev s50 : Stmt := top 71
abbrev s51 : Stmt := top 72
abbrev s52 : Stmt := top 73
abbrev s53 : Stmt := top 74
abbrev s54 : Stmt := top 75
abbrev s55 : Stmt := top 76
abbrev s56 : Stmt := top 63
abbrev s57 : Stmt := top 77
abbrev s58 : Stmt := top 64
abbrev N0 : List Str := [PySem.Str.ofString "value"]
abbrev N1 : List Str := [PySem.Str.ofString "value"]
abbrev N2 : List Str := [PySem.Str.ofString "number", PySem.Str.ofString "sign", PySem.Str.ofString "left", PySem.Str.ofString "told", PySem.Str.ofString "part"]
abbrev N3 : List Str := [PySem.Str.ofString "one", PySem.Str.ofString "other"]
abbrev N4 : List Str := [PySem.Str.ofString "self", PySem.Str.ofString "top", PySem.Str.ofString "bottom", PySem.Str.ofString "common"]
abbrev N5 : List Str := [PySem.Str.ofString "self", PySem.Str.ofString "other", PySem.Str.ofString "top", PySem.Str.ofString "bottom"]
abbrev N6 : List Str := [PySem.Str.ofString "self", PySem.Str.ofString "other"]
abbrev N7 : List Str := [PySem.Str.ofString "self"]
abbrev N8 : List Str := [PySem.Str.ofString "value"]
abbrev N9 : List Str := [PySem.Str.ofString "value"]
abbrev N10 : List Str := [PySem.Str.ofString "number"]
abbrev N11 : List Str := [PySem.Str.ofString "value"]
abbrev N12 : List Str := [PySem.Str.ofString "ratios", PySem.Str.ofString "bottom", PySem.Str.ofString "ratio"]
abbrev N13 : List Str := [PySem.Str.ofString "value", PySem.Str.ofString "many", PySem.Str.ofString "number"]
abbrev N14 : List Str := [PySem.Str.ofString "value"]
abbrev N15 : List Str := [PySem.Str.ofString "value"]
abbrev N16 : List Str := [PySem.Str.ofString "value", PySem.Str.ofString "number"]
abbrev N17 : List Str := [PySem.Str.ofString "value", PySem.Str.ofString "number"]
abbrev N18 : List Str := [PySem.Str.ofString "one", PySem.Str.ofString "other", PySem.Str.ofString "first", PySem.Str.ofString "second", PySem.Str.ofString "third", PySem.Str.ofString "a", PySem.Str.ofString "b", PySem.Str.ofString "c", PySem.Str.ofString "d", PySem.Str.ofString "p", PySem.Str.ofString "q", PySem.Str.ofString "r", PySem.Str.ofString "s"]
abbrev N19 : List Str := [PySem.Str.ofString "one", PySem.Str.ofString "other", PySem.Str.ofString "near", PySem.Str.ofString "far"]
abbrev N20 : List Str := [PySem.Str.ofString "tops", PySem.Str.ofString "bottom", PySem.Str.ofString "top"]
abbrev N21 : List Str := [PySem.Str.ofString "four", PySem.Str.ofString "bottom", PySem.Str.ofString "numbers"]
abbrev N22 : List Str := [PySem.Str.ofString "self", PySem.Str.ofString "bottom", PySem.Str.ofString "numbers"]
abbrev N23 : List Str := [PySem.Str.ofString "bottom", PySem.Str.ofString "numbers", PySem.Str.ofString "divisor", PySem.Str.ofString "number"]
abbrev N24 : List Str := [PySem.Str.ofString "first", PySem.Str.ofString "second", PySem.Str.ofString "near", PySem.Str.ofString "far", PySem.Str.ofString "bottom", PySem.Str.ofString "numbers"]
abbrev N25 : List Str := [PySem.Str.ofString "self", PySem.Str.ofString "first", PySem.Str.ofString "second", PySem.Str.ofString "told"]
abbrev N26 : List Str := [PySem.Str.ofString "self"]
abbrev N27 : List Str := [PySem.Str.ofString "self", PySem.Str.ofString "number"]
abbrev N28 : List Str := [PySem.Str.ofString "self", PySem.Str.ofString "other"]
abbrev N29 : List Str := [PySem.Str.ofString "self", PySem.Str.ofString "other"]
abbrev N30 : List Str := [PySem.Str.ofString "self", PySem.Str.ofString "first", PySem.Str.ofString "second"]
abbrev N31 : List Str := [PySem.Str.ofString "numbers", PySem.Str.ofString "bottom", PySem.Str.ofString "number"]
abbrev N32 : List Str := [PySem.Str.ofString "bottom", PySem.Str.ofString "numbers"]
abbrev N33 : List Str := [PySem.Str.ofString "one", PySem.Str.ofString "other", PySem.Str.ofString "near", PySem.Str.ofString "far", PySem.Str.ofString "low", PySem.Str.ofString "deep", PySem.Str.ofString "left", PySem.Str.ofString "right", PySem.Str.ofString "number", PySem.Str.ofString "more"]
abbrev N34 : List Str := [PySem.Str.ofString "one", PySem.Str.ofString "other"]
abbrev N35 : List Str := [PySem.Str.ofString "eight", PySem.Str.ofString "ratio", PySem.Str.ofString "number"]
abbrev N36 : List Str := [PySem.Str.ofString "numbers"]
abbrev N37 : List Str := [PySem.Str.ofString "value"]
abbrev N38 : List Str := [PySem.Str.ofString "value"]
abbrev N39 : List Str := [PySem.Str.ofString "value"]
abbrev N40 : List Str := [PySem.Str.ofString "four", PySem.Str.ofString "bottom", PySem.Str.ofString "numbers"]
abbrev N41 : List Str := [PySem.Str.ofString "point", PySem.Str.ofString "bottom", PySem.Str.ofString "numbers"]
abbrev N42 : List Str := [PySem.Str.ofString "one", PySem.Str.ofString "other", PySem.Str.ofString "near", PySem.Str.ofString "far"]
abbrev N43 : List Str := [PySem.Str.ofString "pose", PySem.Str.ofString "other"]
abbrev N44 : List Str := [PySem.Str.ofString "pot", PySem.Str.ofString "some"]
abbrev N45 : List Str := [PySem.Str.ofString "one", PySem.Str.ofString "other", PySem.Str.ofString "a", PySem.Str.ofString "b", PySem.Str.ofString "c", PySem.Str.ofString "d", PySem.Str.ofString "e", PySem.Str.ofString "f", PySem.Str.ofString "g", PySem.Str.ofString "h"]
abbrev N46 : List Str := [PySem.Str.ofString "one", PySem.Str.ofString "other", PySem.Str.ofString "near", PySem.Str.ofString "far"]
abbrev N47 : List Str := [PySem.Str.ofString "one", PySem.Str.ofString "number", PySem.Str.ofString "entry"]
abbrev N48 : List Str := [PySem.Str.ofString "one", PySem.Str.ofString "other"]
abbrev N49 : List Str := [PySem.Str.ofString "one"]
abbrev N50 : List Str := [PySem.Str.ofString "pot", PySem.Str.ofString "turn", PySem.Str.ofString "way"]
abbrev N51 : List Str := [PySem.Str.ofString "one", PySem.Str.ofString "other", PySem.Str.ofString "at"]
abbrev N52 : List Str := [PySem.Str.ofString "one", PySem.Str.ofString "other"]
abbrev N53 : List Str := [PySem.Str.ofString "pot", PySem.Str.ofString "direction", PySem.Str.ofString "point"]
abbrev N54 : List Str := [PySem.Str.ofString "one", PySem.Str.ofString "entry"]
abbrev N55 : List Str := [PySem.Str.ofString "pot", PySem.Str.ofString "shown", PySem.Str.ofString "hinge", PySem.Str.ofString "turn", PySem.Str.ofString "way", PySem.Str.ofString "direction", PySem.Str.ofString "screw", PySem.Str.ofString "a", PySem.Str.ofString "b", PySem.Str.ofString "left", PySem.Str.ofString "right", PySem.Str.ofString "near", PySem.Str.ofString "far", PySem.Str.ofString "due", PySem.Str.ofString "number", PySem.Str.ofString "more", PySem.Str.ofString "one", PySem.Str.ofString "two"]
abbrev N56 : List Str := [PySem.Str.ofString "script", PySem.Str.ofString "k", PySem.Str.ofString "cell"]
abbrev N57 : List Str := [PySem.Str.ofString "script", PySem.Str.ofString "k"]
abbrev N58 : List Str := [PySem.Str.ofString "pot", PySem.Str.ofString "many", PySem.Str.ofString "digit"]
def clsA (K : PySem.W.Frag) : Nat → Addr
  | 0 => He.ga K (PySem.Str.ofString "Ratio")
  | 1 => He.ga K (PySem.Str.ofString "Told")
  | 2 => He.ga K (PySem.Str.ofString "Eight")
  | _ => 0
def fldsA : Nat → List Str
  | 0 => [PySem.Str.ofString "own_top", PySem.Str.ofString "own_bottom"]
  | 1 => [PySem.Str.ofString "told_bottom", PySem.Str.ofString "told_numbers"]
  | 2 => [PySem.Str.ofString "own_bottom", PySem.Str.ofString "own_numbers"]
  | _ => []
abbrev WW (K : PySem.W.Frag) : Wd := ⟨K, clsA K, fldsA, fun _ => 0, fun _ => []⟩
def F_own_top : List (Nat × Nat) := [(0, 0)]
def F_own_bottom : List (Nat × Nat) := [(0, 1), (2, 0)]
def F_told_bottom : List (Nat × Nat) := [(1, 0)]
def F_told_numbers : List (Nat × Nat) := [(1, 1)]
def F_own_numbers : List (Nat × Nat) := [(2, 1)]
def TMul : List (Nat × Nat) := [(0, 5), (2, 28)]
def TEq : List (Nat × Nat) := [(0, 6), (2, 29)]
def TStr : List (Nat × Nat) := [(0, 7)]
def TRepr : List (Nat × Nat) := [(2, 30)]
def M_first : List (Nat × Nat) := [(2, 26)]
def M_times : List (Nat × Nat) := [(2, 27)]
def I_Eight : IsiD := ⟨false, false, false, false, false, false, [(0, false), (1, false), (2, true)]⟩
def I_Ratio : IsiD := ⟨false, false, false, false, false, false, [(0, true), (1, false), (2, false)]⟩
def I_Told : IsiD := ⟨false, false, false, false, false, false, [(0, false), (1, true), (2, false)]⟩
def I_bool : IsiD := ⟨false, true, false, false, false, false, [(0, false), (1, false), (2, false)]⟩
def I_int : IsiD := ⟨false, true, true, false, false, false, [(0, false), (1, false), (2, false)]⟩
def I_list_tuple : IsiD := ⟨false, false, false, false, true, true, [(0, false), (1, false), (2, false)]⟩
def D0 : SD := dRet (dAndV (dUn (isiE I_int) (dVar 0)) (dNotV (dUn (isiE I_bool) (dVar 0))))
def D1 : SD := dRet (dUn (isiE I_list_tuple) (dVar 0))
def D2 : SD := dSeq (dPar 2 3 (dIfE (dTb (dBin bGe (dVar 0) (dC (.int 0)))) (dVar 0) (dBin bSub (dC (.int 0)) (dVar 0))) (dC (.str (PySem.Str.ofString ""))))
    (dSeq (dWhile 1000 (dTb (dBin bGe (dVar 2) (dC (.int (1000000000000000000000000000000000000000000000000000000000000))))) (dNever))
    (dSeq (dSet 1 (dIfE (dTb (dBin bLt (dVar 0) (dC (.int 0)))) (dC (.str (PySem.Str.ofString "-"))) (dC (.str (PySem.Str.ofString "")))))
    (dRet (dJs [dUn fmtE (dVar 1), dUn fmtE (dVar 2), dUn fmtE (dVar 3)] Str.empty))))
def D3 : SD := dRet (dBlt oGcd (dArgs [dVar 0, dVar 1]))
def D4 : SD := dSeq (dIf (dTnot (dTb (dCallD 0 [] (dArgs [dVar 1])))) (dNever) (dNext))
    (dSeq (dIf (dTor (dTnot (dTb (dCallD 0 [] (dArgs [dVar 2])))) (dTb (dBinO bEq TEq boolP (dVar 2) (dC (.int 0))))) (dNever) (dNext))
    (dSeq (dSet 3 (dCallD 3 [] (dArgs [dVar 1, dVar 2])))
    (dSeq (dIf (dTb (dBin bLt (dVar 2) (dC (.int 0)))) (dSet 3 (dBin bSub (dC (.int 0)) (dVar 3))) (dNext))
    (dSeq (dSetF 0 0 (dBin bDiv (dVar 1) (dVar 3)))
    (dSetF 0 1 (dBin bDiv (dVar 2) (dVar 3)))))))
def D5 : SD := dSeq (dUnp [2, 3] (dCallD 8 [] (dArgs [dVar 1])))
    (dRet (dCallD 4 [] (dArgs [dBinO bMul TMul some (dUn (fldE F_own_top) (dVar 0)) (dVar 2), dBinO bMul TMul some (dUn (fldE F_own_bottom) (dVar 0)) (dVar 3)])))
def D6 : SD := dSeq (dIf (dTnot (dTb (dUn (isiE I_Ratio) (dVar 1)))) (dRet (dC (.bl false))) (dNext))
    (dRet (dAndV (dBinO bEq TEq boolP (dUn (fldE F_own_top) (dVar 0)) (dUn (fldE F_own_top) (dVar 1))) (dBinO bEq TEq boolP (dUn (fldE F_own_bottom) (dVar 0)) (dUn (fldE F_own_bottom) (dVar 1)))))
def D7 : SD := dSeq (dIf (dTb (dBinO bEq TEq boolP (dUn (fldE F_own_bottom) (dVar 0)) (dC (.int 1)))) (dRet (dUn fmtE (dCallD 2 [] (dArgs [dUn (fldE F_own_top) (dVar 0)])))) (dNext))
    (dRet (dJs [dUn fmtE (dCallD 2 [] (dArgs [dUn (fldE F_own_top) (dVar 0)])), dC (.str (PySem.Str.ofString "/")), dUn fmtE (dCallD 2 [] (dArgs [dUn (fldE F_own_bottom) (dVar 0)]))] Str.empty))
def D8 : SD := dSeq (dIf (dTb (dUn (isiE I_Ratio) (dVar 0))) (dRet (dTup (dArgs [dUn (fldE F_own_top) (dVar 0), dUn (fldE F_own_bottom) (dVar 0)]))) (dNext))
    (dSeq (dIf (dTnot (dTb (dCallD 0 [] (dArgs [dVar 0])))) (dNever) (dNext))
    (dRet (dTup (dArgs [dVar 0, dC (.int 1)]))))
def D9 : SD := dRet (dOrV (dCallD 0 [] (dArgs [dVar 0])) (dUn (isiE I_Ratio) (dVar 0)))
def D10 : SD := dRet (dIfE (dTb (dUn (isiE I_Ratio) (dVar 0))) (dVar 0) (dCallD 4 [(.int (1))] (dArgs [dVar 0])))
def D11 : SD := dSeq (dIf (dTnot (dTb (dCallD 9 [] (dArgs [dVar 0])))) (dNever) (dNext))
    (dRet (dCallD 10 [] (dArgs [dVar 0])))
def D12 : SD := dSeq (dSet 1 (dC (.int 1)))
    (dSeq (dFor (dISeq (dVar 0)) (.one 2) (dSet 1 (dBlt oLcm (dArgs [dVar 1, dUn (fldE F_own_bottom) (dVar 2)]))))
    (dRet (dTup (dArgs [dVar 1, dLc (dISeq (dVar 0)) (.one 2) none (dBinO bMul TMul some (dUn (fldE F_own_top) (dVar 2)) (dBin bDiv (dVar 1) (dUn (fldE F_own_bottom) (dVar 2)))) [2]]))))
def D13 : SD := dRet (dAndV (dCallD 1 [] (dArgs [dVar 0])) (dAndV (dBinO bEq TEq boolP (dBlt oLen (dArgs [dVar 0])) (dVar 1)) (dBlt oAll (dArgs [dLc (dISeq (dVar 0)) (.one 2) none (dCallD 9 [] (dArgs [dVar 2])) [2]]))))
def D14 : SD := dRet (dCallD 13 [] (dArgs [dVar 0, dC (.int 4)]))
def D15 : SD := dRet (dCallD 13 [] (dArgs [dVar 0, dC (.int 3)]))
def D16 : SD := dSeq (dIf (dTnot (dTb (dCallD 14 [] (dArgs [dVar 0])))) (dNever) (dNext))
    (dRet (dBlt oTuple (dArgs [dLc (dISeq (dVar 0)) (.one 1) none (dCallD 10 [] (dArgs [dVar 1])) [1]])))
def D17 : SD := dSeq (dIf (dTnot (dTb (dCallD 15 [] (dArgs [dVar 0])))) (dNever) (dNext))
    (dRet (dBlt oTuple (dArgs [dLc (dISeq (dVar 0)) (.one 1) none (dCallD 10 [] (dArgs [dVar 1])) [1]])))
def D18 : SD := dSeq (dUnp [5, 6, 7, 8] (dVar 0))
    (dSeq (dUnp [9, 10, 11, 12] (dVar 1))
    (dSeq (dSet 2 (dBin bSub (dBin bSub (dBin bSub (dBinO bMul TMul some (dVar 5) (dVar 9)) (dBinO bMul TMul some (dVar 6) (dVar 10))) (dBinO bMul TMul some (dVar 7) (dVar 11))) (dBinO bMul TMul some (dVar 8) (dVar 12))))
    (dSeq (dSet 3 (dBin bSub (dBin bAdd (dBin bAdd (dBinO bMul TMul some (dVar 5) (dVar 10)) (dBinO bMul TMul some (dVar 6) (dVar 9))) (dBinO bMul TMul some (dVar 7) (dVar 12))) (dBinO bMul TMul some (dVar 8) (dVar 11))))
    (dSeq (dSet 4 (dBin bAdd (dBin bAdd (dBin bSub (dBinO bMul TMul some (dVar 5) (dVar 11)) (dBinO bMul TMul some (dVar 6) (dVar 12))) (dBinO bMul TMul some (dVar 7) (dVar 9))) (dBinO bMul TMul some (dVar 8) (dVar 10))))
    (dRet (dTup (dArgs [dVar 2, dVar 3, dVar 4, dBin bAdd (dBin bSub (dBin bAdd (dBinO bMul TMul some (dVar 5) (dVar 12)) (dBinO bMul TMul some (dVar 6) (dVar 11))) (dBinO bMul TMul some (dVar 7) (dVar 10))) (dBinO bMul TMul some (dVar 8) (dVar 9))])))))))
def D19 : SD := dRet (dBlt oSum (dArgs [dLc (dIA oZip (dArgs [dVar 0, dVar 1])) (.many [2, 3]) none (dBinO bMul TMul some (dVar 2) (dVar 3)) [2, 3]]))
def D20 : SD := dRet (dBlt oTuple (dArgs [dLc (dISeq (dVar 0)) (.one 2) none (dCallD 4 [] (dArgs [dVar 2, dVar 1])) [2]]))
def D21 : SD := dSeq (dUnp [1, 2] (dCallD 12 [] (dArgs [dCallD 16 [] (dArgs [dVar 0])])))
    (dRet (dCallD 4 [] (dArgs [dCallD 19 [] (dArgs [dVar 2, dVar 2]), dBinO bMul TMul some (dVar 1) (dVar 1)])))
def D22 : SD := dSeq (dSetF 1 0 (dVar 1))
    (dSetF 1 1 (dVar 2))
def D23 : SD := dSeq (dSet 2 (dVar 0))
    (dSeq (dFor (dISeq (dVar 1)) (.one 3) (dSeq (dIf (dTb (dBinO bEq TEq boolP (dVar 2) (dC (.int 1)))) (dRet (dCallD 22 [] (dArgs [dVar 0, dBlt oTuple (dArgs [dVar 1])]))) (dNext))
    (dSet 2 (dBlt oGcd (dArgs [dVar 2, dVar 3])))))
    (dRet (dCallD 22 [] (dArgs [dBin bDiv (dVar 0) (dVar 2), dBlt oTuple (dArgs [dLc (dISeq (dVar 1)) (.one 3) none (dBin bDiv (dVar 3) (dVar 2)) [3]])]))))
def D24 : SD := dSeq (dIf (dTb (dUn (isiE I_Told) (dVar 0))) (dRet (dVar 0)) (dNext))
    (dSeq (dPar 2 3 (dCallD 16 [] (dArgs [dVar 0])) (dCallD 16 [] (dArgs [dVar 1])))
    (dSeq (dUnp [4, 5] (dCallD 12 [] (dArgs [dBin bAdd (dVar 2) (dVar 3)])))
    (dRet (dCallD 23 [] (dArgs [dVar 4, dVar 5])))))
def D25 : SD := dSeq (dSet 3 (dCallD 24 [] (dArgs [dVar 1, dVar 2])))
    (dSeq (dSetF 2 0 (dUn (fldE F_told_bottom) (dVar 3)))
    (dSetF 2 1 (dUn (fldE F_told_numbers) (dVar 3))))
def D26 : SD := dRet (dCallD 20 [] (dArgs [dSl (dUn (fldE F_own_numbers) (dVar 0)) none (some (dC (.int 4))), dUn (fldE F_own_bottom) (dVar 0)]))
def D27 : SD := dRet (dCallD 35 [] (dArgs [dVar 0, dCallD 11 [] (dArgs [dVar 1])]))
def D28 : SD := dSeq (dDrop (dCallD 37 [] (dArgs [dVar 1])))
    (dRet (dCallD 34 [] (dArgs [dVar 0, dVar 1])))
def D29 : SD := dSeq (dIf (dTnot (dTb (dUn (isiE I_Eight) (dVar 1)))) (dRet (dC (.bl false))) (dNext))
    (dRet (dAndV (dBinO bEq TEq boolP (dUn (fldE F_own_bottom) (dVar 0)) (dUn (fldE F_own_bottom) (dVar 1))) (dBinO bEq TEq boolP (dUn (fldE F_own_numbers) (dVar 0)) (dUn (fldE F_own_numbers) (dVar 1)))))
def D30 : SD := dSeq (dPar 1 2 (dSl (dUn (fldE F_own_numbers) (dVar 0)) none (some (dC (.int 4)))) (dSl (dUn (fldE F_own_numbers) (dVar 0)) (some (dC (.int 4))) none))
    (dRet (dJs [dC (.str (PySem.Str.ofString "Eight(")), dUn fmtE (dCallD 31 [] (dArgs [dVar 1, dUn (fldE F_own_bottom) (dVar 0)])), dC (.str (PySem.Str.ofString ", ")), dUn fmtE (dCallD 31 [] (dArgs [dVar 2, dUn (fldE F_own_bottom) (dVar 0)])), dC (.str (PySem.Str.ofString ")"))] Str.empty))
def D31 : SD := dRet (dBin bAdd (dBin bAdd (dC (.str (PySem.Str.ofString "("))) (dJoin (dC (.str (PySem.Str.ofString ", "))) (dLc (dISeq (dCallD 20 [] (dArgs [dVar 0, dVar 1]))) (.one 2) none (dStr TStr (dVar 2)) [2]))) (dC (.str (PySem.Str.ofString ")"))))
def D32 : SD := dRet (dCallD 25 [(.tup [(.int (0)), (.int (0)), (.int (0)), (.int (0))])] (dArgs [dCallD 23 [] (dArgs [dVar 0, dVar 1])]))
def D33 : SD := dSeq (dUnp [2, 3, 4, 5] (dTup (dArgs [dSl (dVar 0) none (some (dC (.int 4))), dSl (dVar 0) (some (dC (.int 4))) none, dSl (dVar 1) none (some (dC (.int 4))), dSl (dVar 1) (some (dC (.int 4))) none])))
    (dSeq (dPar 6 7 (dCallD 18 [] (dArgs [dVar 2, dVar 5])) (dCallD 18 [] (dArgs [dVar 3, dVar 4])))
    (dRet (dBin bAdd (dCallD 18 [] (dArgs [dVar 2, dVar 4])) (dBlt oTuple (dArgs [dLc (dIA oZip (dArgs [dVar 6, dVar 7])) (.many [8, 9]) none (dBin bAdd (dVar 8) (dVar 9)) [8, 9]])))))
def D34 : SD := dRet (dCallD 32 [] (dArgs [dBinO bMul TMul some (dUn (fldE F_own_bottom) (dVar 0)) (dUn (fldE F_own_bottom) (dVar 1)), dCallD 33 [] (dArgs [dUn (fldE F_own_numbers) (dVar 0), dUn (fldE F_own_numbers) (dVar 1)])]))
def D35 : SD := dRet (dCallD 32 [] (dArgs [dBinO bMul TMul some (dUn (fldE F_own_bottom) (dVar 0)) (dUn (fldE F_own_bottom) (dVar 1)), dLc (dISeq (dUn (fldE F_own_numbers) (dVar 0))) (.one 2) none (dBinO bMul TMul some (dVar 2) (dUn (fldE F_own_top) (dVar 1))) [2]]))
def D36 : SD := dRet (dAndV (dBinO bNe TEq notP (dSl (dVar 0) none (some (dC (.int 4)))) (dC (.tup [(.int (0)), (.int (0)), (.int (0)), (.int (0))]))) (dBinO bEq TEq boolP (dCallD 19 [] (dArgs [dSl (dVar 0) none (some (dC (.int 4))), dSl (dVar 0) (some (dC (.int 4))) none])) (dC (.int 0))))
def D37 : SD := dIf (dTnot (dTb (dUn (isiE I_Eight) (dVar 0)))) (dNever) (dNext)
def D38 : SD := dRet (dAndV (dUn (isiE I_Eight) (dVar 0)) (dCallD 36 [] (dArgs [dUn (fldE F_own_numbers) (dVar 0)])))
def D39 : SD := dIf (dTnot (dTb (dCallD 38 [] (dArgs [dVar 0])))) (dNever) (dNext)
def D40 : SD := dSeq (dUnp [1, 2] (dCallD 12 [] (dArgs [dCallD 16 [] (dArgs [dVar 0])])))
    (dSeq (dIf (dTb (dBinO bEq TEq boolP (dBlt oTuple (dArgs [dVar 2])) (dC (.tup [(.int (0)), (.int (0)), (.int (0)), (.int (0))])))) (dNever) (dNext))
    (dRet (dCallD 32 [] (dArgs [dVar 1, dBin bAdd (dBlt oTuple (dArgs [dVar 2])) (dC (.tup [(.int (0)), (.int (0)), (.int (0)), (.int (0))]))]))))
def D41 : SD := dSeq (dUnp [1, 2] (dCallD 12 [] (dArgs [dCallD 17 [] (dArgs [dVar 0])])))
    (dRet (dCallD 32 [] (dArgs [dBinO bMul TMul some (dC (.int 2)) (dVar 1), dBin bAdd (dTup (dArgs [dBinO bMul TMul some (dC (.int 2)) (dVar 1), dC (.int 0), dC (.int 0), dC (.int 0), dC (.int 0)])) (dBlt oTuple (dArgs [dVar 2]))])))
def D42 : SD := dSeq (dPar 2 3 (dUn (fldE F_own_numbers) (dVar 0)) (dUn (fldE F_own_numbers) (dVar 1)))
    (dRet (dCallD 4 [] (dArgs [dBin bAdd (dCallD 19 [] (dArgs [dSl (dVar 2) none (some (dC (.int 4))), dSl (dVar 3) (some (dC (.int 4))) none])) (dCallD 19 [] (dArgs [dSl (dVar 2) (some (dC (.int 4))) none, dSl (dVar 3) none (some (dC (.int 4)))])), dBinO bMul TMul some (dUn (fldE F_own_bottom) (dVar 0)) (dUn (fldE F_own_bottom) (dVar 1))])))
def D43 : SD := dSeq (dDrop (dCallD 39 [] (dArgs [dVar 0])))
    (dSeq (dDrop (dCallD 39 [] (dArgs [dVar 1])))
    (dRet (dCallD 42 [] (dArgs [dVar 0, dVar 1]))))
def D44 : SD := dRet (dBin bIx (dVar 1) (dCallD 58 [] (dArgs [dVar 0, dBlt oLen (dArgs [dVar 1])])))
def D45 : SD := dSeq (dUnp [2, 3, 4, 5] (dVar 0))
    (dSeq (dUnp [6, 7, 8, 9] (dVar 1))
    (dRet (dTup (dArgs [dBin bSub (dBin bSub (dBin bSub (dBinO bMul TMul some (dVar 2) (dVar 6)) (dBinO bMul TMul some (dVar 3) (dVar 7))) (dBinO bMul TMul some (dVar 4) (dVar 8))) (dBinO bMul TMul some (dVar 5) (dVar 9)), dBin bSub (dBin bAdd (dBin bAdd (dBinO bMul TMul some (dVar 2) (dVar 7)) (dBinO bMul TMul some (dVar 3) (dVar 6))) (dBinO bMul TMul some (dVar 4) (dVar 9))) (dBinO bMul TMul some (dVar 5) (dVar 8)), dBin bAdd (dBin bAdd (dBin bSub (dBinO bMul TMul some (dVar 2) (dVar 8)) (dBinO bMul TMul some (dVar 3) (dVar 9))) (dBinO bMul TMul some (dVar 4) (dVar 6))) (dBinO bMul TMul some (dVar 5) (dVar 7)), dBin bAdd (dBin bSub (dBin bAdd (dBinO bMul TMul some (dVar 2) (dVar 9)) (dBinO bMul TMul some (dVar 3) (dVar 8))) (dBinO bMul TMul some (dVar 4) (dVar 7))) (dBinO bMul TMul some (dVar 5) (dVar 6))]))))
def D46 : SD := dRet (dBlt oTuple (dArgs [dLc (dIA oZip (dArgs [dVar 0, dVar 1])) (.many [2, 3]) none (dBin bAdd (dVar 2) (dVar 3)) [2, 3]]))
def D47 : SD := dRet (dBlt oTuple (dArgs [dLc (dISeq (dVar 0)) (.one 2) none (dBinO bMul TMul some (dVar 2) (dVar 1)) [2]]))
def D48 : SD := dRet (dBin bAdd (dCallD 45 [] (dArgs [dSl (dVar 0) none (some (dC (.int 4))), dSl (dVar 1) none (some (dC (.int 4)))])) (dCallD 46 [] (dArgs [dCallD 45 [] (dArgs [dSl (dVar 0) none (some (dC (.int 4))), dSl (dVar 1) (some (dC (.int 4))) none]), dCallD 45 [] (dArgs [dSl (dVar 0) (some (dC (.int 4))) none, dSl (dVar 1) none (some (dC (.int 4)))])])))
def D49 : SD := dRet (dCallD 25 [] (dArgs [dSl (dVar 0) none (some (dC (.int 4))), dSl (dVar 0) (some (dC (.int 4))) none]))
def D50 : SD := dSeq (dSet 1 (dTup (dArgs [dBin bSub (dCallD 58 [] (dArgs [dVar 0, dC (.int 4)])) (dC (.int 1)), dBin bSub (dCallD 58 [] (dArgs [dVar 0, dC (.int 4)])) (dC (.int 1)), dBin bSub (dCallD 58 [] (dArgs [dVar 0, dC (.int 3)])) (dC (.int 1)), dBin bSub (dCallD 58 [] (dArgs [dVar 0, dC (.int 3)])) (dC (.int 1))])))
    (dSeq (dIf (dTb (dBinO bEq TEq boolP (dVar 1) (dTup (dArgs [dC (.int 0), dC (.int 0), dC (.int 0), dC (.int 0)])))) (dSet 1 (dTup (dArgs [dC (.int 1), dC (.int 0), dC (.int 1), dC (.int 0)]))) (dNext))
    (dSeq (dSet 2 (dTup (dArgs [dC (.int 0), dBin bSub (dCallD 58 [] (dArgs [dVar 0, dC (.int 5)])) (dC (.int 2)), dBin bSub (dCallD 58 [] (dArgs [dVar 0, dC (.int 5)])) (dC (.int 2)), dBin bSub (dCallD 58 [] (dArgs [dVar 0, dC (.int 3)])) (dC (.int 1))])))
    (dRet (dBin bAdd (dVar 1) (dCallD 45 [] (dArgs [dVar 2, dVar 1]))))))
def D51 : SD := dRet (dBlt oSum (dArgs [dLc (dIA oRng1 (dArgs [dC (.int 4)])) (.one 2) none (dBin bAdd (dBinO bMul TMul some (dBin bIx (dVar 0) (dVar 2)) (dBin bIx (dVar 1) (dBin bAdd (dVar 2) (dC (.int 4))))) (dBinO bMul TMul some (dBin bIx (dVar 0) (dBin bAdd (dVar 2) (dC (.int 4)))) (dBin bIx (dVar 1) (dVar 2)))) [2]]))
def D52 : SD := dRet (dTup (dArgs [dBin bSub (dBinO bMul TMul some (dBin bIx (dVar 0) (dC (.int 1))) (dBin bIx (dVar 1) (dC (.int 2)))) (dBinO bMul TMul some (dBin bIx (dVar 0) (dC (.int 2))) (dBin bIx (dVar 1) (dC (.int 1)))), dBin bSub (dBinO bMul TMul some (dBin bIx (dVar 0) (dC (.int 2))) (dBin bIx (dVar 1) (dC (.int 0)))) (dBinO bMul TMul some (dBin bIx (dVar 0) (dC (.int 0))) (dBin bIx (dVar 1) (dC (.int 2)))), dBin bSub (dBinO bMul TMul some (dBin bIx (dVar 0) (dC (.int 0))) (dBin bIx (dVar 1) (dC (.int 1)))) (dBinO bMul TMul some (dBin bIx (dVar 0) (dC (.int 1))) (dBin bIx (dVar 1) (dC (.int 0))))]))
def D53 : SD := dSeq (dSet 1 (dCallD 44 [] (dArgs [dVar 0, dLst (dArgs [dTup (dArgs [dC (.int 1), dC (.int 0), dC (.int 0)]), dTup (dArgs [dC (.int 0), dC (.int 1), dC (.int 0)]), dTup (dArgs [dC (.int 0), dC (.int 0), dC (.int 1)]), dTup (dArgs [dC (.int 1), dC (.int 1), dC (.int 0)]), dTup (dArgs [dC (.int 0), dC (.int 1), dUn uNeg (dC (.int 1))]), dTup (dArgs [dC (.int 1), dC (.int 0), dC (.int 2)]), dTup (dArgs [dC (.int 1), dC (.int 2), dC (.int 2)]), dTup (dArgs [dC (.int 2), dC (.int 0), dC (.int 0)]), dTup (dArgs [dC (.int 1), dUn uNeg (dC (.int 1)), dC (.int 1)])])])))
    (dSeq (dSet 2 (dTup (dArgs [dBin bSub (dCallD 58 [] (dArgs [dVar 0, dC (.int 4)])) (dC (.int 1)), dBin bSub (dCallD 58 [] (dArgs [dVar 0, dC (.int 4)])) (dC (.int 1)), dBin bSub (dCallD 58 [] (dArgs [dVar 0, dC (.int 3)])) (dC (.int 1))])))
    (dRet (dBin bAdd (dBin bAdd (dBin bAdd (dTup (dArgs [dBin bSub (dCallD 58 [] (dArgs [dVar 0, dC (.int 5)])) (dC (.int 2))])) (dVar 1)) (dTup (dArgs [dC (.int 0)]))) (dCallD 52 [] (dArgs [dVar 2, dVar 1])))))
def D54 : SD := dRet (dBlt oSum (dArgs [dLc (dISeq (dSl (dVar 0) none (some (dC (.int 4))))) (.one 1) none (dBinO bMul TMul some (dVar 1) (dVar 1)) [1]]))
def D55 : SD := dSeq (dUnp [7, 8, 9, 10] (dTup (dArgs [dCallD 50 [] (dArgs [dVar 0]), dCallD 50 [] (dArgs [dVar 0]), dCallD 50 [] (dArgs [dVar 0]), dCallD 50 [] (dArgs [dVar 0])])))
    (dSeq (dPar3 11 12 13 (dCallD 49 [] (dArgs [dVar 7])) (dCallD 49 [] (dArgs [dVar 8])) (dCallD 4 [(.int (1))] (dArgs [dCallD 51 [] (dArgs [dVar 7, dVar 8])])))
    (dSeq (dIf (dTor (dTb (dBinO bNe TEq notP (dCallD 43 [] (dArgs [dVar 11, dVar 12])) (dVar 13))) (dTor (dTb (dBinO bNe TEq notP (dCallK 43 [1, 0] (dArgs [dVar 11, dVar 12])) (dVar 13))) (dTb (dBinO bNe TEq notP (dCallD 43 [] (dArgs [dVar 11, dVar 11])) (dCallD 4 [(.int (1))] (dArgs [dC (.int 0)])))))) (dRet (dC (.bl false))) (dNext))
    (dSeq (dSet 1 (dRepr TRepr (dLst (dArgs [dVar 11, dVar 12]))))
    (dSeq (dPar 14 15 (dCallD 44 [] (dArgs [dVar 0, dLst (dArgs [dC (.int 2), dUn uNeg (dC (.int 3)), dCallD 4 [] (dArgs [dC (.int 1), dC (.int 2)]), dUn uNeg (dC (.int 1))])])) (dCallD 44 [] (dArgs [dVar 0, dLst (dArgs [dC (.int 1), dUn uNeg (dC (.int 2)), dCallD 4 [] (dArgs [dC (.int 2), dC (.int 3)])])])))
    (dSeq (dIf (dTb (dBinO bNe TEq notP (dCallD 43 [] (dArgs [dMeth M_times (dVar 11) (dArgs [dVar 14]), dMeth M_times (dVar 12) (dArgs [dVar 15])])) (dBinO bMul TMul some (dBinO bMul TMul some (dVar 13) (dVar 14)) (dVar 15)))) (dRet (dC (.bl false))) (dNext))
    (dSeq (dPar 16 17 (dCallD 48 [] (dArgs [dCallD 48 [] (dArgs [dVar 9, dVar 7]), dVar 10])) (dCallD 48 [] (dArgs [dCallD 48 [] (dArgs [dVar 9, dVar 8]), dVar 10])))
    (dSeq (dIf (dTb (dBinO bNe TEq notP (dCallD 49 [] (dArgs [dVar 16])) (dBinO bMul TMul some (dBinO bMul TMul some (dCallD 49 [] (dArgs [dVar 9])) (dVar 11)) (dCallD 49 [] (dArgs [dVar 10]))))) (dRet (dC (.bl false))) (dNext))
    (dSeq (dIf (dTb (dBinO bNe TEq notP (dCallD 43 [] (dArgs [dCallD 49 [] (dArgs [dVar 16]), dCallD 49 [] (dArgs [dVar 17])])) (dBinO bMul TMul some (dVar 13) (dBinO bMul TMul some (dCallD 54 [] (dArgs [dVar 9])) (dCallD 54 [] (dArgs [dVar 10])))))) (dRet (dC (.bl false))) (dNext))
    (dSeq (dSet 2 (dCallD 53 [] (dArgs [dVar 0])))
    (dSeq (dSet 3 (dBinO bMul TMul some (dVar 11) (dCallD 49 [] (dArgs [dVar 2]))))
    (dSeq (dSet 4 (dTup (dArgs [dBin bSub (dCallD 58 [] (dArgs [dVar 0, dC (.int 5)])) (dC (.int 2)), dBin bSub (dCallD 58 [] (dArgs [dVar 0, dC (.int 5)])) (dC (.int 2)), dBin bAdd (dC (.int 1)) (dCallD 58 [] (dArgs [dVar 0, dC (.int 3)]))])))
    (dSeq (dIf (dTor (dTb (dBinO bNe TEq notP (dCallD 43 [] (dArgs [dVar 11, dVar 3])) (dCallD 4 [(.int (1))] (dArgs [dC (.int 0)])))) (dTor (dTb (dBinO bNe TEq notP (dCallD 43 [] (dArgs [dVar 3, dVar 11])) (dCallD 4 [(.int (1))] (dArgs [dC (.int 0)])))) (dTb (dBinO bNe TEq notP (dCallD 43 [] (dArgs [dVar 11, dBinO bMul TMul some (dVar 11) (dCallD 41 [] (dArgs [dVar 4]))])) (dCallD 4 [(.int (1))] (dArgs [dC (.int 0)])))))) (dRet (dC (.bl false))) (dNext))
    (dSeq (dIf (dTor (dTb (dBinO bNe TEq notP (dCallD 43 [] (dArgs [dBinO bMul TMul some (dCallD 41 [] (dArgs [dVar 4])) (dVar 11), dVar 11])) (dCallD 4 [(.int (1))] (dArgs [dC (.int 0)])))) (dTb (dBinO bNe TEq notP (dCallD 21 [] (dArgs [dMeth M_first (dVar 11) (dArgs [])])) (dCallD 4 [(.int (1))] (dArgs [dCallD 54 [] (dArgs [dVar 7])]))))) (dRet (dC (.bl false))) (dNext))
    (dSeq (dSet 5 (dSl (dVar 2) (some (dC (.int 1))) (some (dC (.int 4)))))
    (dSeq (dSet 6 (dBinO bMul TMul some (dCallD 41 [] (dArgs [dCallD 47 [] (dArgs [dVar 5, dBin bAdd (dC (.int 1)) (dCallD 58 [] (dArgs [dVar 0, dC (.int 3)]))])])) (dCallD 40 [] (dArgs [dBin bAdd (dTup (dArgs [dBin bSub (dCallD 58 [] (dArgs [dVar 0, dC (.int 5)])) (dC (.int 2))])) (dVar 5)]))))
    (dSeq (dIf (dTor (dTb (dBinO bEq TEq boolP (dCallD 43 [] (dArgs [dVar 11, dBinO bMul TMul some (dVar 11) (dVar 6)])) (dCallD 4 [(.int (1))] (dArgs [dC (.int 0)])))) (dTb (dBinO bEq TEq boolP (dCallD 43 [] (dArgs [dBinO bMul TMul some (dVar 6) (dVar 12), dVar 12])) (dCallD 4 [(.int (1))] (dArgs [dC (.int 0)]))))) (dRet (dC (.bl false))) (dNext))
    (dRet (dAndV (dBinO bEq TEq boolP (dCallK 43 [0, 1] (dArgs [dVar 11, dVar 12])) (dVar 13)) (dBinO bEq TEq boolP (dRepr TRepr (dLst (dArgs [dVar 11, dVar 12]))) (dVar 1))))))))))))))))))))
def D56 : SD := dSeq (dSet 2 (dIfE (dTb (dBin bLt (dVar 1) (dBlt oLen (dArgs [dVar 0])))) (dBlt oAbs (dArgs [dBin bIx (dVar 0) (dVar 1)])) (dBin bAdd (dBinO bMul TMul some (dC (.int 409)) (dVar 1)) (dC (.int 157)))))
    (dRet (dLst (dArgs [dBlt oMax (dArgs [dC (.int 0), dBin bSub (dVar 2) (dBin bPow (dC (.int 10)) (dC (.int 18)))]), dBin bAdd (dBin bMod (dBlt oInt (dArgs [dBin bAdd (dBin bAdd (dBinO bMul TMul some (dBin bMod (dBlt oInt (dArgs [dVar 2])) (dC (.int 2147483549))) (dC (.int 40014))) (dBinO bMul TMul some (dC (.int 6011)) (dVar 1))) (dC (.int 97))])) (dC (.int 2147483563))) (dC (.int 1))])))
def D57 : SD := dRet (dBlt oAll (dArgs [dLc (dIA oRng1 (dArgs [dBlt oMax (dArgs [dC (.int 1), dBlt oMin (dArgs [dC (.int 3), dBlt oLen (dArgs [dVar 0])])])])) (.one 1) none (dCallD 55 [] (dArgs [dPot (dCallD 56 [] (dArgs [dVar 0, dVar 1]))])) [1]]))
def runF : Nat → FT
  | 0 => fun _ _ _ _ => false
  | j + 1 => fun n => match n with
    | 0 => fnE 1 1 D0 (runF j)
    | 1 => fnE 1 1 D1 (runF j)
    | 2 => fnE 1 5 D2 (runF j)
    | 3 => fnE 2 2 D3 (runF j)
    | 4 => inE 0 2 2 3 D4 (runF j)
    | 5 => fnE 2 4 D5 (runF j)
    | 6 => fnE 2 2 D6 (runF j)
    | 7 => fnE 1 1 D7 (runF j)
    | 8 => fnE 1 1 D8 (runF j)
    | 9 => fnE 1 1 D9 (runF j)
    | 10 => fnE 1 1 D10 (runF j)
    | 11 => fnE 1 1 D11 (runF j)
    | 12 => fnE 1 3 D12 (runF j)
    | 13 => fnE 2 3 D13 (runF j)
    | 14 => fnE 1 1 D14 (runF j)
    | 15 => fnE 1 1 D15 (runF j)
    | 16 => fnE 1 2 D16 (runF j)
    | 17 => fnE 1 2 D17 (runF j)
    | 18 => fnE 2 13 D18 (runF j)
    | 19 => fnE 2 4 D19 (runF j)
    | 20 => fnE 2 3 D20 (runF j)
    | 21 => fnE 1 3 D21 (runF j)
    | 22 => inE 1 2 2 2 D22 (runF j)
    | 23 => fnE 2 4 D23 (runF j)
    | 24 => fnE 2 6 D24 (runF j)
    | 25 => inE 2 2 2 3 D25 (runF j)
    | 26 => fnE 1 1 D26 (runF j)
    | 27 => fnE 2 2 D27 (runF j)
    | 28 => fnE 2 2 D28 (runF j)
    | 29 => fnE 2 2 D29 (runF j)
    | 30 => fnE 1 3 D30 (runF j)
    | 31 => fnE 2 3 D31 (runF j)
    | 32 => fnE 2 2 D32 (runF j)
    | 33 => fnE 2 10 D33 (runF j)
    | 34 => fnE 2 2 D34 (runF j)
    | 35 => fnE 2 3 D35 (runF j)
    | 36 => fnE 1 1 D36 (runF j)
    | 37 => fnE 1 1 D37 (runF j)
    | 38 => fnE 1 1 D38 (runF j)
    | 39 => fnE 1 1 D39 (runF j)
    | 40 => fnE 1 3 D40 (runF j)
    | 41 => fnE 1 3 D41 (runF j)
    | 42 => fnE 2 4 D42 (runF j)
    | 43 => fnE 2 2 D43 (runF j)
    | 44 => fnE 2 2 D44 (runF j)
    | 45 => fnE 2 10 D45 (runF j)
    | 46 => fnE 2 4 D46 (runF j)
    | 47 => fnE 2 3 D47 (runF j)
    | 48 => fnE 2 2 D48 (runF j)
    | 49 => fnE 1 1 D49 (runF j)
    | 50 => fnE 1 3 D50 (runF j)
    | 51 => fnE 2 3 D51 (runF j)
    | 52 => fnE 2 2 D52 (runF j)
    | 53 => fnE 1 3 D53 (runF j)
    | 54 => fnE 1 2 D54 (runF j)
    | 55 => fnE 1 18 D55 (runF j)
    | 56 => fnE 2 3 D56 (runF j)
    | 57 => fnE 1 2 D57 (runF j)
    | 58 => drawF
    | _ => fun _ _ _ => false
/-- what the walk leans on of the text as it stands behind the top -/
structure Hy (K : PySem.W.Frag) (mg : Str → Option Value) : Prop where
  c_Ratio : ClF (WW K) 0
  c_Told : ClF (WW K) 1
  c_Eight : ClF (WW K) 2
  mk_Ratio : L2.Mk K (clsA K 0) (He.fAd K (PySem.Str.ofString "Ratio", some (PySem.Str.ofString "__init__")))
  mk_Told : L2.Mk K (clsA K 1) (He.fAd K (PySem.Str.ofString "Told", some (PySem.Str.ofString "__init__")))
  mk_Eight : L2.Mk K (clsA K 2) (He.fAd K (PySem.Str.ofString "Eight", some (PySem.Str.ofString "__init__")))
  g_Eight : mg (PySem.Str.ofString "Eight") = some (.ref (clsA K 2))
  g_NOUGHT : mg (PySem.Str.ofString "NOUGHT") = some (.ref (He.ga K (PySem.Str.ofString "NOUGHT"))) ∧ StT K (He.ga K (PySem.Str.ofString "NOUGHT")) [.int (0), .int (0), .int (0), .int (0)]
  g_PART : ∃ t, mg (PySem.Str.ofString "PART") = some (.int (1000000000000000000000000000000000000000000000000000000000000) t)
  g_Ratio : mg (PySem.Str.ofString "Ratio") = some (.ref (clsA K 0))
  g_Told : mg (PySem.Str.ofString "Told") = some (.ref (clsA K 1))
  g__law_between : mg (PySem.Str.ofString "_law_between") = some (.ref (He.ga K (PySem.Str.ofString "_law_between")))
  k__law_between : PySem.W.keepIn K (.ref (He.ga K (PySem.Str.ofString "_law_between"))) = true
  g__law_by : mg (PySem.Str.ofString "_law_by") = some (.ref (He.ga K (PySem.Str.ofString "_law_by")))
  k__law_by : PySem.W.keepIn K (.ref (He.ga K (PySem.Str.ofString "_law_by"))) = true
  g__law_cross : mg (PySem.Str.ofString "_law_cross") = some (.ref (He.ga K (PySem.Str.ofString "_law_cross")))
  k__law_cross : PySem.W.keepIn K (.ref (He.ga K (PySem.Str.ofString "_law_cross"))) = true
  g__law_draw : mg (PySem.Str.ofString "_law_draw") = some (.ref (He.ga K (PySem.Str.ofString "_law_draw")))
  k__law_draw : PySem.W.keepIn K (.ref (He.ga K (PySem.Str.ofString "_law_draw"))) = true
  g__law_eight : mg (PySem.Str.ofString "_law_eight") = some (.ref (He.ga K (PySem.Str.ofString "_law_eight")))
  k__law_eight : PySem.W.keepIn K (.ref (He.ga K (PySem.Str.ofString "_law_eight"))) = true
  g__law_four : mg (PySem.Str.ofString "_law_four") = some (.ref (He.ga K (PySem.Str.ofString "_law_four")))
  k__law_four : PySem.W.keepIn K (.ref (He.ga K (PySem.Str.ofString "_law_four"))) = true
  g__law_hinge : mg (PySem.Str.ofString "_law_hinge") = some (.ref (He.ga K (PySem.Str.ofString "_law_hinge")))
  k__law_hinge : PySem.W.keepIn K (.ref (He.ga K (PySem.Str.ofString "_law_hinge"))) = true
  g__law_pick : mg (PySem.Str.ofString "_law_pick") = some (.ref (He.ga K (PySem.Str.ofString "_law_pick")))
  k__law_pick : PySem.W.keepIn K (.ref (He.ga K (PySem.Str.ofString "_law_pick"))) = true
  g__law_plus : mg (PySem.Str.ofString "_law_plus") = some (.ref (He.ga K (PySem.Str.ofString "_law_plus")))
  k__law_plus : PySem.W.keepIn K (.ref (He.ga K (PySem.Str.ofString "_law_plus"))) = true
  g__law_pose : mg (PySem.Str.ofString "_law_pose") = some (.ref (He.ga K (PySem.Str.ofString "_law_pose")))
  k__law_pose : PySem.W.keepIn K (.ref (He.ga K (PySem.Str.ofString "_law_pose"))) = true
  g__law_pot : mg (PySem.Str.ofString "_law_pot") = some (.ref (He.ga K (PySem.Str.ofString "_law_pot")))
  k__law_pot : PySem.W.keepIn K (.ref (He.ga K (PySem.Str.ofString "_law_pot"))) = true
  g__law_right : mg (PySem.Str.ofString "_law_right") = some (.ref (He.ga K (PySem.Str.ofString "_law_right")))
  k__law_right : PySem.W.keepIn K (.ref (He.ga K (PySem.Str.ofString "_law_right"))) = true
  g__law_size : mg (PySem.Str.ofString "_law_size") = some (.ref (He.ga K (PySem.Str.ofString "_law_size")))
  k__law_size : PySem.W.keepIn K (.ref (He.ga K (PySem.Str.ofString "_law_size"))) = true
  g__law_times : mg (PySem.Str.ofString "_law_times") = some (.ref (He.ga K (PySem.Str.ofString "_law_times")))
  k__law_times : PySem.W.keepIn K (.ref (He.ga K (PySem.Str.ofString "_law_times"))) = true
  g_are_numbers : mg (PySem.Str.ofString "are_numbers") = some (.ref (He.ga K (PySem.Str.ofString "are_numbers")))
  k_are_numbers : PySem.W.keepIn K (.ref (He.ga K (PySem.Str.ofString "are_numbers"))) = true
  g_are_pose : mg (PySem.Str.ofString "are_pose") = some (.ref (He.ga K (PySem.Str.ofString "are_pose")))
  k_are_pose : PySem.W.keepIn K (.ref (He.ga K (PySem.Str.ofString "are_pose"))) = true
  g_between : mg (PySem.Str.ofString "between") = some (.ref (He.ga K (PySem.Str.ofString "between")))
  k_between : PySem.W.keepIn K (.ref (He.ga K (PySem.Str.ofString "between"))) = true
  g_between_of : mg (PySem.Str.ofString "between_of") = some (.ref (He.ga K (PySem.Str.ofString "between_of")))
  k_between_of : PySem.W.keepIn K (.ref (He.ga K (PySem.Str.ofString "between_of"))) = true
  g_by_ratio : mg (PySem.Str.ofString "by_ratio") = some (.ref (He.ga K (PySem.Str.ofString "by_ratio")))
  k_by_ratio : PySem.W.keepIn K (.ref (He.ga K (PySem.Str.ofString "by_ratio"))) = true
  g_common_part : mg (PySem.Str.ofString "common_part") = some (.ref (He.ga K (PySem.Str.ofString "common_part")))
  k_common_part : PySem.W.keepIn K (.ref (He.ga K (PySem.Str.ofString "common_part"))) = true
  g_digits_of : mg (PySem.Str.ofString "digits_of") = some (.ref (He.ga K (PySem.Str.ofString "digits_of")))
  k_digits_of : PySem.W.keepIn K (.ref (He.ga K (PySem.Str.ofString "digits_of"))) = true
  g_dot : mg (PySem.Str.ofString "dot") = some (.ref (He.ga K (PySem.Str.ofString "dot")))
  k_dot : PySem.W.keepIn K (.ref (He.ga K (PySem.Str.ofString "dot"))) = true
  g_eight_by : mg (PySem.Str.ofString "eight_by") = some (.ref (He.ga K (PySem.Str.ofString "eight_by")))
  k_eight_by : PySem.W.keepIn K (.ref (He.ga K (PySem.Str.ofString "eight_by"))) = true
  g_four_product : mg (PySem.Str.ofString "four_product") = some (.ref (He.ga K (PySem.Str.ofString "four_product")))
  k_four_product : PySem.W.keepIn K (.ref (He.ga K (PySem.Str.ofString "four_product"))) = true
  g_four_text : mg (PySem.Str.ofString "four_text") = some (.ref (He.ga K (PySem.Str.ofString "four_text")))
  k_four_text : PySem.W.keepIn K (.ref (He.ga K (PySem.Str.ofString "four_text"))) = true
  g_gcd : mg (PySem.Str.ofString "gcd") = some (.builtin "math.gcd")
  g_go_pose : mg (PySem.Str.ofString "go_pose") = some (.ref (He.ga K (PySem.Str.ofString "go_pose")))
  k_go_pose : PySem.W.keepIn K (.ref (He.ga K (PySem.Str.ofString "go_pose"))) = true
  g_is_four : mg (PySem.Str.ofString "is_four") = some (.ref (He.ga K (PySem.Str.ofString "is_four")))
  k_is_four : PySem.W.keepIn K (.ref (He.ga K (PySem.Str.ofString "is_four"))) = true
  g_is_integer : mg (PySem.Str.ofString "is_integer") = some (.ref (He.ga K (PySem.Str.ofString "is_integer")))
  k_is_integer : PySem.W.keepIn K (.ref (He.ga K (PySem.Str.ofString "is_integer"))) = true
  g_is_list : mg (PySem.Str.ofString "is_list") = some (.ref (He.ga K (PySem.Str.ofString "is_list")))
  k_is_list : PySem.W.keepIn K (.ref (He.ga K (PySem.Str.ofString "is_list"))) = true
  g_is_number : mg (PySem.Str.ofString "is_number") = some (.ref (He.ga K (PySem.Str.ofString "is_number")))
  k_is_number : PySem.W.keepIn K (.ref (He.ga K (PySem.Str.ofString "is_number"))) = true
  g_is_point : mg (PySem.Str.ofString "is_point") = some (.ref (He.ga K (PySem.Str.ofString "is_point")))
  k_is_point : PySem.W.keepIn K (.ref (He.ga K (PySem.Str.ofString "is_point"))) = true
  g_is_pose_eight : mg (PySem.Str.ofString "is_pose_eight") = some (.ref (He.ga K (PySem.Str.ofString "is_pose_eight")))
  k_is_pose_eight : PySem.W.keepIn K (.ref (He.ga K (PySem.Str.ofString "is_pose_eight"))) = true
  g_lcm : mg (PySem.Str.ofString "lcm") = some (.builtin "math.lcm")
  g_lowest : mg (PySem.Str.ofString "lowest") = some (.ref (He.ga K (PySem.Str.ofString "lowest")))
  k_lowest : PySem.W.keepIn K (.ref (He.ga K (PySem.Str.ofString "lowest"))) = true
  g_norm_four : mg (PySem.Str.ofString "norm_four") = some (.ref (He.ga K (PySem.Str.ofString "norm_four")))
  k_norm_four : PySem.W.keepIn K (.ref (He.ga K (PySem.Str.ofString "norm_four"))) = true
  g_numbers_product : mg (PySem.Str.ofString "numbers_product") = some (.ref (He.ga K (PySem.Str.ofString "numbers_product")))
  k_numbers_product : PySem.W.keepIn K (.ref (He.ga K (PySem.Str.ofString "numbers_product"))) = true
  g_product_of_eights : mg (PySem.Str.ofString "product_of_eights") = some (.ref (He.ga K (PySem.Str.ofString "product_of_eights")))
  k_product_of_eights : PySem.W.keepIn K (.ref (He.ga K (PySem.Str.ofString "product_of_eights"))) = true
  g_ratio_of : mg (PySem.Str.ofString "ratio_of") = some (.ref (He.ga K (PySem.Str.ofString "ratio_of")))
  k_ratio_of : PySem.W.keepIn K (.ref (He.ga K (PySem.Str.ofString "ratio_of"))) = true
  g_told_eight : mg (PySem.Str.ofString "told_eight") = some (.ref (He.ga K (PySem.Str.ofString "told_eight")))
  k_told_eight : PySem.W.keepIn K (.ref (He.ga K (PySem.Str.ofString "told_eight"))) = true
  g_told_pair : mg (PySem.Str.ofString "told_pair") = some (.ref (He.ga K (PySem.Str.ofString "told_pair")))
  k_told_pair : PySem.W.keepIn K (.ref (He.ga K (PySem.Str.ofString "told_pair"))) = true
  g_told_row : mg (PySem.Str.ofString "told_row") = some (.ref (He.ga K (PySem.Str.ofString "told_row")))
  k_told_row : PySem.W.keepIn K (.ref (He.ga K (PySem.Str.ofString "told_row"))) = true
  g_turn_pose : mg (PySem.Str.ofString "turn_pose") = some (.ref (He.ga K (PySem.Str.ofString "turn_pose")))
  k_turn_pose : PySem.W.keepIn K (.ref (He.ga K (PySem.Str.ofString "turn_pose"))) = true
  g_want_eight : mg (PySem.Str.ofString "want_eight") = some (.ref (He.ga K (PySem.Str.ofString "want_eight")))
  k_want_eight : PySem.W.keepIn K (.ref (He.ga K (PySem.Str.ofString "want_eight"))) = true
  g_want_four : mg (PySem.Str.ofString "want_four") = some (.ref (He.ga K (PySem.Str.ofString "want_four")))
  k_want_four : PySem.W.keepIn K (.ref (He.ga K (PySem.Str.ofString "want_four"))) = true
  g_want_number : mg (PySem.Str.ofString "want_number") = some (.ref (He.ga K (PySem.Str.ofString "want_number")))
  k_want_number : PySem.W.keepIn K (.ref (He.ga K (PySem.Str.ofString "want_number"))) = true
  g_want_point : mg (PySem.Str.ofString "want_point") = some (.ref (He.ga K (PySem.Str.ofString "want_point")))
  k_want_point : PySem.W.keepIn K (.ref (He.ga K (PySem.Str.ofString "want_point"))) = true
  g_want_pose : mg (PySem.Str.ofString "want_pose") = some (.ref (He.ga K (PySem.Str.ofString "want_pose")))
  k_want_pose : PySem.W.keepIn K (.ref (He.ga K (PySem.Str.ofString "want_pose"))) = true
  g_wholes : mg (PySem.Str.ofString "wholes") = some (.ref (He.ga K (PySem.Str.ofString "wholes")))
  k_wholes : PySem.W.keepIn K (.ref (He.ga K (PySem.Str.ofString "wholes"))) = true
  fr_abs : mg (PySem.Str.ofString "abs") = none
  fr_all : mg (PySem.Str.ofString "all") = none
  fr_bool : mg (PySem.Str.ofString "bool") = none
  fr_divmod : mg (PySem.Str.ofString "divmod") = none
  fr_int : mg (PySem.Str.ofString "int") = none
  fr_isinstance : mg (PySem.Str.ofString "isinstance") = none
  fr_len : mg (PySem.Str.ofString "len") = none
  fr_list : mg (PySem.Str.ofString "list") = none
  fr_max : mg (PySem.Str.ofString "max") = none
  fr_min : mg (PySem.Str.ofString "min") = none
  fr_range : mg (PySem.Str.ofString "range") = none
  fr_repr : mg (PySem.Str.ofString "repr") = none
  fr_str : mg (PySem.Str.ofString "str") = none
  fr_sum : mg (PySem.Str.ofString "sum") = none
  fr_tuple : mg (PySem.Str.ofString "tuple") = none
  fr_zip : mg (PySem.Str.ofString "zip") = none
  o_Mul_Ratio : OpF (WW K) "mul" 0 (He.ma K (clsA K 0) (PySem.Str.ofString "__mul__"))
  o_Mul_Eight : OpF (WW K) "mul" 2 (He.ma K (clsA K 2) (PySem.Str.ofString "__mul__"))
  o_Eq_Ratio : EqF (WW K) 0 (He.ma K (clsA K 0) (PySem.Str.ofString "__eq__"))
  o_Eq_Eight : EqF (WW K) 2 (He.ma K (clsA K 2) (PySem.Str.ofString "__eq__"))
  o_Str_Ratio : SpF (WW K) (PySem.Str.ofString "__str__") 0 (He.ma K (clsA K 0) (PySem.Str.ofString "__str__"))
  o_Repr_Eight : SpF (WW K) (PySem.Str.ofString "__repr__") 2 (He.ma K (clsA K 2) (PySem.Str.ofString "__repr__"))
  m_first_Eight : MeF (WW K) (PySem.Str.ofString "first") 2 (He.ma K (clsA K 2) (PySem.Str.ofString "first"))
  m_times_Eight : MeF (WW K) (PySem.Str.ofString "times") 2 (He.ma K (clsA K 2) (PySem.Str.ofString "times"))
  i_Eight : IsiOk (WW K) (fun t => PySem.W.kitOne K t (.ref (clsA K 2))) I_Eight
  i_Ratio : IsiOk (WW K) (fun t => PySem.W.kitOne K t (.ref (clsA K 0))) I_Ratio
  i_Told : IsiOk (WW K) (fun t => PySem.W.kitOne K t (.ref (clsA K 1))) I_Told
  i_bool : IsiOk (WW K) (fun t => PySem.W.kitOne K t (.type "bool")) I_bool
  i_int : IsiOk (WW K) (fun t => PySem.W.kitOne K t (.type "int")) I_int
  i_list_tuple : IsiOk (WW K) (fun t => PySem.W.kitAny K t [.type "list", .type "tuple"]) I_list_tuple
  d0 : ∃ fd, FunD K (PySem.Str.ofString "is_integer") (PySem.Str.ofString "is_integer") (defArgs s0) (defBody s0) (defScope s0) [] [] (He.fAd K (PySem.Str.ofString "is_integer", none)) fd
  d1 : ∃ fd, FunD K (PySem.Str.ofString "is_list") (PySem.Str.ofString "is_list") (defArgs s1) (defBody s1) (defScope s1) [] [] (He.fAd K (PySem.Str.ofString "is_list", none)) fd
  d2 : ∃ fd, FunD K (PySem.Str.ofString "digits_of") (PySem.Str.ofString "digits_of") (defArgs s2) (defBody s2) (defScope s2) [] [] (He.fAd K (PySem.Str.ofString "digits_of", none)) fd
  d3 : ∃ fd, FunD K (PySem.Str.ofString "common_part") (PySem.Str.ofString "common_part") (defArgs s3) (defBody s3) (defScope s3) [] [] (He.fAd K (PySem.Str.ofString "common_part", none)) fd
  d4 : ∃ fd, FunD K (PySem.Str.ofString "__init__") (PySem.Str.ofString "Ratio.__init__") (defArgs s4) (defBody s4) (defScope s4) [.int (1)] [] (He.fAd K (PySem.Str.ofString "Ratio", some (PySem.Str.ofString "__init__"))) fd
  d5 : ∃ fd, FunD K (PySem.Str.ofString "__mul__") (PySem.Str.ofString "Ratio.__mul__") (defArgs s5) (defBody s5) (defScope s5) [] [] (He.fAd K (PySem.Str.ofString "Ratio", some (PySem.Str.ofString "__mul__"))) fd
  d6 : ∃ fd, FunD K (PySem.Str.ofString "__eq__") (PySem.Str.ofString "Ratio.__eq__") (defArgs s6) (defBody s6) (defScope s6) [] [] (He.fAd K (PySem.Str.ofString "Ratio", some (PySem.Str.ofString "__eq__"))) fd
  d7 : ∃ fd, FunD K (PySem.Str.ofString "__str__") (PySem.Str.ofString "Ratio.__str__") (defArgs s7) (defBody s7) (defScope s7) [] [] (He.fAd K (PySem.Str.ofString "Ratio", some (PySem.Str.ofString "__str__"))) fd
  d8 : ∃ fd, FunD K (PySem.Str.ofString "told_pair") (PySem.Str.ofString "told_pair") (defArgs s8) (defBody s8) (defScope s8) [] [] (He.fAd K (PySem.Str.ofString "told_pair", none)) fd
  d9 : ∃ fd, FunD K (PySem.Str.ofString "is_number") (PySem.Str.ofString "is_number") (defArgs s9) (defBody s9) (defScope s9) [] [] (He.fAd K (PySem.Str.ofString "is_number", none)) fd
  d10 : ∃ fd, FunD K (PySem.Str.ofString "ratio_of") (PySem.Str.ofString "ratio_of") (defArgs s10) (defBody s10) (defScope s10) [] [] (He.fAd K (PySem.Str.ofString "ratio_of", none)) fd
  d11 : ∃ fd, FunD K (PySem.Str.ofString "want_number") (PySem.Str.ofString "want_number") (defArgs s11) (defBody s11) (defScope s11) [] [] (He.fAd K (PySem.Str.ofString "want_number", none)) fd
  d12 : ∃ fd, FunD K (PySem.Str.ofString "wholes") (PySem.Str.ofString "wholes") (defArgs s12) (defBody s12) (defScope s12) [] [] (He.fAd K (PySem.Str.ofString "wholes", none)) fd
  d13 : ∃ fd, FunD K (PySem.Str.ofString "are_numbers") (PySem.Str.ofString "are_numbers") (defArgs s13) (defBody s13) (defScope s13) [] [] (He.fAd K (PySem.Str.ofString "are_numbers", none)) fd
  d14 : ∃ fd, FunD K (PySem.Str.ofString "is_four") (PySem.Str.ofString "is_four") (defArgs s14) (defBody s14) (defScope s14) [] [] (He.fAd K (PySem.Str.ofString "is_four", none)) fd
  d15 : ∃ fd, FunD K (PySem.Str.ofString "is_point") (PySem.Str.ofString "is_point") (defArgs s15) (defBody s15) (defScope s15) [] [] (He.fAd K (PySem.Str.ofString "is_point", none)) fd
  d16 : ∃ fd, FunD K (PySem.Str.ofString "want_four") (PySem.Str.ofString "want_four") (defArgs s16) (defBody s16) (defScope s16) [] [] (He.fAd K (PySem.Str.ofString "want_four", none)) fd
  d17 : ∃ fd, FunD K (PySem.Str.ofString "want_point") (PySem.Str.ofString "want_point") (defArgs s17) (defBody s17) (defScope s17) [] [] (He.fAd K (PySem.Str.ofString "want_point", none)) fd
  d18 : ∃ fd, FunD K (PySem.Str.ofString "four_product") (PySem.Str.ofString "four_product") (defArgs s18) (defBody s18) (defScope s18) [] [] (He.fAd K (PySem.Str.ofString "four_product", none)) fd
  d19 : ∃ fd, FunD K (PySem.Str.ofString "dot") (PySem.Str.ofString "dot") (defArgs s19) (defBody s19) (defScope s19) [] [] (He.fAd K (PySem.Str.ofString "dot", none)) fd
  d20 : ∃ fd, FunD K (PySem.Str.ofString "told_row") (PySem.Str.ofString "told_row") (defArgs s20) (defBody s20) (defScope s20) [] [] (He.fAd K (PySem.Str.ofString "told_row", none)) fd
  d21 : ∃ fd, FunD K (PySem.Str.ofString "norm_four") (PySem.Str.ofString "norm_four") (defArgs s21) (defBody s21) (defScope s21) [] [] (He.fAd K (PySem.Str.ofString "norm_four", none)) fd
  d22 : ∃ fd, FunD K (PySem.Str.ofString "__init__") (PySem.Str.ofString "Told.__init__") (defArgs s22) (defBody s22) (defScope s22) [] [] (He.fAd K (PySem.Str.ofString "Told", some (PySem.Str.ofString "__init__"))) fd
  d23 : ∃ fd, FunD K (PySem.Str.ofString "lowest") (PySem.Str.ofString "lowest") (defArgs s23) (defBody s23) (defScope s23) [] [] (He.fAd K (PySem.Str.ofString "lowest", none)) fd
  d24 : ∃ fd, FunD K (PySem.Str.ofString "told_eight") (PySem.Str.ofString "told_eight") (defArgs s24) (defBody s24) (defScope s24) [] [] (He.fAd K (PySem.Str.ofString "told_eight", none)) fd
  d25 : ∃ fd, FunD K (PySem.Str.ofString "__init__") (PySem.Str.ofString "Eight.__init__") (defArgs s25) (defBody s25) (defScope s25) [.ref (He.dflAt (PySem.Str.ofString "Eight", some (PySem.Str.ofString "__init__")) 0 K)] [] (He.fAd K (PySem.Str.ofString "Eight", some (PySem.Str.ofString "__init__"))) fd
  dt25_0 : StT K (He.dflAt (PySem.Str.ofString "Eight", some (PySem.Str.ofString "__init__")) 0 K) [.int (0), .int (0), .int (0), .int (0)]
  d26 : ∃ fd, FunD K (PySem.Str.ofString "first") (PySem.Str.ofString "Eight.first") (defArgs s26) (defBody s26) (defScope s26) [] [] (He.fAd K (PySem.Str.ofString "Eight", some (PySem.Str.ofString "first"))) fd
  d27 : ∃ fd, FunD K (PySem.Str.ofString "times") (PySem.Str.ofString "Eight.times") (defArgs s27) (defBody s27) (defScope s27) [] [] (He.fAd K (PySem.Str.ofString "Eight", some (PySem.Str.ofString "times"))) fd
  d28 : ∃ fd, FunD K (PySem.Str.ofString "__mul__") (PySem.Str.ofString "Eight.__mul__") (defArgs s28) (defBody s28) (defScope s28) [] [] (He.fAd K (PySem.Str.ofString "Eight", some (PySem.Str.ofString "__mul__"))) fd
  d29 : ∃ fd, FunD K (PySem.Str.ofString "__eq__") (PySem.Str.ofString "Eight.__eq__") (defArgs s29) (defBody s29) (defScope s29) [] [] (He.fAd K (PySem.Str.ofString "Eight", some (PySem.Str.ofString "__eq__"))) fd
  d30 : ∃ fd, FunD K (PySem.Str.ofString "__repr__") (PySem.Str.ofString "Eight.__repr__") (defArgs s30) (defBody s30) (defScope s30) [] [] (He.fAd K (PySem.Str.ofString "Eight", some (PySem.Str.ofString "__repr__"))) fd
  d31 : ∃ fd, FunD K (PySem.Str.ofString "four_text") (PySem.Str.ofString "four_text") (defArgs s31) (defBody s31) (defScope s31) [] [] (He.fAd K (PySem.Str.ofString "four_text", none)) fd
  d32 : ∃ fd, FunD K (PySem.Str.ofString "eight_by") (PySem.Str.ofString "eight_by") (defArgs s32) (defBody s32) (defScope s32) [] [] (He.fAd K (PySem.Str.ofString "eight_by", none)) fd
  d33 : ∃ fd, FunD K (PySem.Str.ofString "numbers_product") (PySem.Str.ofString "numbers_product") (defArgs s33) (defBody s33) (defScope s33) [] [] (He.fAd K (PySem.Str.ofString "numbers_product", none)) fd
  d34 : ∃ fd, FunD K (PySem.Str.ofString "product_of_eights") (PySem.Str.ofString "product_of_eights") (defArgs s34) (defBody s34) (defScope s34) [] [] (He.fAd K (PySem.Str.ofString "product_of_eights", none)) fd
  d35 : ∃ fd, FunD K (PySem.Str.ofString "by_ratio") (PySem.Str.ofString "by_ratio") (defArgs s35) (defBody s35) (defScope s35) [] [] (He.fAd K (PySem.Str.ofString "by_ratio", none)) fd
  d36 : ∃ fd, FunD K (PySem.Str.ofString "are_pose") (PySem.Str.ofString "are_pose") (defArgs s36) (defBody s36) (defScope s36) [] [] (He.fAd K (PySem.Str.ofString "are_pose", none)) fd
  d37 : ∃ fd, FunD K (PySem.Str.ofString "want_eight") (PySem.Str.ofString "want_eight") (defArgs s37) (defBody s37) (defScope s37) [] [] (He.fAd K (PySem.Str.ofString "want_eight", none)) fd
  d38 : ∃ fd, FunD K (PySem.Str.ofString "is_pose_eight") (PySem.Str.ofString "is_pose_eight") (defArgs s38) (defBody s38) (defScope s38) [] [] (He.fAd K (PySem.Str.ofString "is_pose_eight", none)) fd
  d39 : ∃ fd, FunD K (PySem.Str.ofString "want_pose") (PySem.Str.ofString "want_pose") (defArgs s39) (defBody s39) (defScope s39) [] [] (He.fAd K (PySem.Str.ofString "want_pose", none)) fd
  d40 : ∃ fd, FunD K (PySem.Str.ofString "turn_pose") (PySem.Str.ofString "turn_pose") (defArgs s40) (defBody s40) (defScope s40) [] [] (He.fAd K (PySem.Str.ofString "turn_pose", none)) fd
  d41 : ∃ fd, FunD K (PySem.Str.ofString "go_pose") (PySem.Str.ofString "go_pose") (defArgs s41) (defBody s41) (defScope s41) [] [] (He.fAd K (PySem.Str.ofString "go_pose", none)) fd
  d42 : ∃ fd, FunD K (PySem.Str.ofString "between_of") (PySem.Str.ofString "between_of") (defArgs s42) (defBody s42) (defScope s42) [] [] (He.fAd K (PySem.Str.ofString "between_of", none)) fd
  d43 : ∃ fd, FunD K (PySem.Str.ofString "between") (PySem.Str.ofString "between") (defArgs s43) (defBody s43) (defScope s43) [] [] (He.fAd K (PySem.Str.ofString "between", none)) fd
  d44 : ∃ fd, FunD K (PySem.Str.ofString "_law_pick") (PySem.Str.ofString "_law_pick") (defArgs s44) (defBody s44) (defScope s44) [] [] (He.fAd K (PySem.Str.ofString "_law_pick", none)) fd
  d45 : ∃ fd, FunD K (PySem.Str.ofString "_law_four") (PySem.Str.ofString "_law_four") (defArgs s45) (defBody s45) (defScope s45) [] [] (He.fAd K (PySem.Str.ofString "_law_four", none)) fd
  d46 : ∃ fd, FunD K (PySem.Str.ofString "_law_plus") (PySem.Str.ofString "_law_plus") (defArgs s46) (defBody s46) (defScope s46) [] [] (He.fAd K (PySem.Str.ofString "_law_plus", none)) fd
  d47 : ∃ fd, FunD K (PySem.Str.ofString "_law_by") (PySem.Str.ofString "_law_by") (defArgs s47) (defBody s47) (defScope s47) [] [] (He.fAd K (PySem.Str.ofString "_law_by", none)) fd
  d48 : ∃ fd, FunD K (PySem.Str.ofString "_law_times") (PySem.Str.ofString "_law_times") (defArgs s48) (defBody s48) (defScope s48) [] [] (He.fAd K (PySem.Str.ofString "_law_times", none)) fd
  d49 : ∃ fd, FunD K (PySem.Str.ofString "_law_eight") (PySem.Str.ofString "_law_eight") (defArgs s49) (defBody s49) (defScope s49) [] [] (He.fAd K (PySem.Str.ofString "_law_eight", none)) fd
  d50 : ∃ fd, FunD K (PySem.Str.ofString "_law_pose") (PySem.Str.ofString "_law_pose") (defArgs s50) (defBody s50) (defScope s50) [] [] (He.fAd K (PySem.Str.ofString "_law_pose", none)) fd
  d51 : ∃ fd, FunD K (PySem.Str.ofString "_law_between") (PySem.Str.ofString "_law_between") (defArgs s51) (defBody s51) (defScope s51) [] [] (He.fAd K (PySem.Str.ofString "_law_between", none)) fd
  d52 : ∃ fd, FunD K (PySem.Str.ofString "_law_cross") (PySem.Str.ofString "_law_cross") (defArgs s52) (defBody s52) (defScope s52) [] [] (He.fAd K (PySem.Str.ofString "_law_cross", none)) fd
  d53 : ∃ fd, FunD K (PySem.Str.ofString "_law_hinge") (PySem.Str.ofString "_law_hinge") (defArgs s53) (defBody s53) (defScope s53) [] [] (He.fAd K (PySem.Str.ofString "_law_hinge", none)) fd
  d54 : ∃ fd, FunD K (PySem.Str.ofString "_law_size") (PySem.Str.ofString "_law_size") (defArgs s54) (defBody s54) (defScope s54) [] [] (He.fAd K (PySem.Str.ofString "_law_size", none)) fd
  d55 : ∃ fd, FunD K (PySem.Str.ofString "_law_right") (PySem.Str.ofString "_law_right") (defArgs s55) (defBody s55) (defScope s55) [] [] (He.fAd K (PySem.Str.ofString "_law_right", none)) fd
  d56 : ∃ fd, FunD K (PySem.Str.ofString "_law_pot") (PySem.Str.ofString "_law_pot") (defArgs s56) (defBody s56) (defScope s56) [] [] (He.fAd K (PySem.Str.ofString "_law_pot", none)) fd
  d57 : ∃ fd, FunD K (PySem.Str.ofString "law") (PySem.Str.ofString "law") (defArgs s57) (defBody s57) (defScope s57) [] [] (He.fAd K (PySem.Str.ofString "law", none)) fd
  d58 : ∃ fd, FunD K (PySem.Str.ofString "_law_draw") (PySem.Str.ofString "_law_draw") (defArgs s58) (defBody s58) (defScope s58) [] [] (He.fAd K (PySem.Str.ofString "_law_draw", none)) fd
structure Tab (P : Program) (w : World) (K : PySem.W.Frag) (mg : Str → Option Value) (base : Heap) (j : Nat) : Prop where
  r_0 : FnP P w K mg base false false (4 * j) (He.fAd K (PySem.Str.ofString "is_integer", none)) (fun vs H Q E => spF (WW K) (runF j) 0 (vs ++ []) H Q E)
  r_1 : FnP P w K mg base false false (4 * j) (He.fAd K (PySem.Str.ofString "is_list", none)) (fun vs H Q E => spF (WW K) (runF j) 1 (vs ++ []) H Q E)
  r_2 : FnP P w K mg base false false (4 * j) (He.fAd K (PySem.Str.ofString "digits_of", none)) (fun vs H Q E => spF (WW K) (runF j) 2 (vs ++ []) H Q E)
  r_3 : FnP P w K mg base false false (4 * j) (He.fAd K (PySem.Str.ofString "common_part", none)) (fun vs H Q E => spF (WW K) (runF j) 3 (vs ++ []) H Q E)
  r_4 : FnP P w K mg base false false (4 * j) (He.fAd K (PySem.Str.ofString "Ratio", some (PySem.Str.ofString "__init__"))) (fun vs H Q E => spI (WW K) (runF j) 4 0 (vs ++ []) H Q E)
  r_4d1 : FnP P w K mg base false false (4 * j) (He.fAd K (PySem.Str.ofString "Ratio", some (PySem.Str.ofString "__init__"))) (fun vs H Q E => spI (WW K) (runF j) 4 0 (vs ++ [.int (1)]) H Q E)
  r_5 : FnP P w K mg base false false (4 * j) (He.fAd K (PySem.Str.ofString "Ratio", some (PySem.Str.ofString "__mul__"))) (fun vs H Q E => spF (WW K) (runF j) 5 (vs ++ []) H Q E)
  r_6 : FnP P w K mg base false false (4 * j) (He.fAd K (PySem.Str.ofString "Ratio", some (PySem.Str.ofString "__eq__"))) (fun vs H Q E => spF (WW K) (runF j) 6 (vs ++ []) H Q E)
  r_7 : FnP P w K mg base false false (4 * j) (He.fAd K (PySem.Str.ofString "Ratio", some (PySem.Str.ofString "__str__"))) (fun vs H Q E => spF (WW K) (runF j) 7 (vs ++ []) H Q E)
  r_8 : FnP P w K mg base false false (4 * j) (He.fAd K (PySem.Str.ofString "told_pair", none)) (fun vs H Q E => spF (WW K) (runF j) 8 (vs ++ []) H Q E)
  r_9 : FnP P w K mg base false false (4 * j) (He.fAd K (PySem.Str.ofString "is_number", none)) (fun vs H Q E => spF (WW K) (runF j) 9 (vs ++ []) H Q E)
  r_10 : FnP P w K mg base false false (4 * j) (He.fAd K (PySem.Str.ofString "ratio_of", none)) (fun vs H Q E => spF (WW K) (runF j) 10 (vs ++ []) H Q E)
  r_11 : FnP P w K mg base false false (4 * j) (He.fAd K (PySem.Str.ofString "want_number", none)) (fun vs H Q E => spF (WW K) (runF j) 11 (vs ++ []) H Q E)
  r_12 : FnP P w K mg base false false (4 * j) (He.fAd K (PySem.Str.ofString "wholes", none)) (fun vs H Q E => spF (WW K) (runF j) 12 (vs ++ []) H Q E)
  r_13 : FnP P w K mg base false false (4 * j) (He.fAd K (PySem.Str.ofString "are_numbers", none)) (fun vs H Q E => spF (WW K) (runF j) 13 (vs ++ []) H Q E)
  r_14 : FnP P w K mg base false false (4 * j) (He.fAd K (PySem.Str.ofString "is_four", none)) (fun vs H Q E => spF (WW K) (runF j) 14 (vs ++ []) H Q E)
  r_15 : FnP P w K mg base false false (4 * j) (He.fAd K (PySem.Str.ofString "is_point", none)) (fun vs H Q E => spF (WW K) (runF j) 15 (vs ++ []) H Q E)
  r_16 : FnP P w K mg base false false (4 * j) (He.fAd K (PySem.Str.ofString "want_four", none)) (fun vs H Q E => spF (WW K) (runF j) 16 (vs ++ []) H Q E)
  r_17 : FnP P w K mg base false false (4 * j) (He.fAd K (PySem.Str.ofString "want_point", none)) (fun vs H Q E => spF (WW K) (runF j) 17 (vs ++ []) H Q E)
  r_18 : FnP P w K mg base false false (4 * j) (He.fAd K (PySem.Str.ofString "four_product", none)) (fun vs H Q E => spF (WW K) (runF j) 18 (vs ++ []) H Q E)
  r_19 : FnP P w K mg base false false (4 * j) (He.fAd K (PySem.Str.ofString "dot", none)) (fun vs H Q E => spF (WW K) (runF j) 19 (vs ++ []) H Q E)
  r_20 : FnP P w K mg base false false (4 * j) (He.fAd K (PySem.Str.ofString "told_row", none)) (fun vs H Q E => spF (WW K) (runF j) 20 (vs ++ []) H Q E)
  r_21 : FnP P w K mg base false false (4 * j) (He.fAd K (PySem.Str.ofString "norm_four", none)) (fun vs H Q E => spF (WW K) (runF j) 21 (vs ++ []) H Q E)
  r_22 : FnP P w K mg base false false (4 * j) (He.fAd K (PySem.Str.ofString "Told", some (PySem.Str.ofString "__init__"))) (fun vs H Q E => spI (WW K) (runF j) 22 1 (vs ++ []) H Q E)
  r_23 : FnP P w K mg base false false (4 * j) (He.fAd K (PySem.Str.ofString "lowest", none)) (fun vs H Q E => spF (WW K) (runF j) 23 (vs ++ []) H Q E)
  r_24 : FnP P w K mg base false false (4 * j) (He.fAd K (PySem.Str.ofString "told_eight", none)) (fun vs H Q E => spF (WW K) (runF j) 24 (vs ++ []) H Q E)
  r_25 : FnP P w K mg base false false (4 * j) (He.fAd K (PySem.Str.ofString "Eight", some (PySem.Str.ofString "__init__"))) (fun vs H Q E => spI (WW K) (runF j) 25 2 (vs ++ []) H Q E)
  r_25d1 : FnP P w K mg base false false (4 * j) (He.fAd K (PySem.Str.ofString "Eight", some (PySem.Str.ofString "__init__"))) (fun vs H Q E => spI (WW K) (runF j) 25 2 (vs ++ [.ref (He.dflAt (PySem.Str.ofString "Eight", some (PySem.Str.ofString "__init__")) 0 K)]) H Q E)
  r_26 : FnP P w K mg base false false (4 * j) (He.fAd K (PySem.Str.ofString "Eight", some (PySem.Str.ofString "first"))) (fun vs H Q E => spF (WW K) (runF j) 26 (vs ++ []) H Q E)
  r_27 : FnP P w K mg base false false (4 * j) (He.fAd K (PySem.Str.ofString "Eight", some (PySem.Str.ofString "times"))) (fun vs H Q E => spF (WW K) (runF j) 27 (vs ++ []) H Q E)
  r_28 : FnP P w K mg base false false (4 * j) (He.fAd K (PySem.Str.ofString "Eight", some (PySem.Str.ofString "__mul__"))) (fun vs H Q E => spF (WW K) (runF j) 28 (vs ++ []) H Q E)
  r_29 : FnP P w K mg base false false (4 * j) (He.fAd K (PySem.Str.ofString "Eight", some (PySem.Str.ofString "__eq__"))) (fun vs H Q E => spF (WW K) (runF j) 29 (vs ++ []) H Q E)
  r_30 : FnP P w K mg base false false (4 * j) (He.fAd K (PySem.Str.ofString "Eight", some (PySem.Str.ofString "__repr__"))) (fun vs H Q E => spF (WW K) (runF j) 30 (vs ++ []) H Q E)
  r_31 : FnP P w K mg base false false (4 * j) (He.fAd K (PySem.Str.ofString "four_text", none)) (fun vs H Q E => spF (WW K) (runF j) 31 (vs ++ []) H Q E)
  r_32 : FnP P w K mg base false false (4 * j) (He.fAd K (PySem.Str.ofString "eight_by", none)) (fun vs H Q E => spF (WW K) (runF j) 32 (vs ++ []) H Q E)
  r_33 : FnP P w K mg base false false (4 * j) (He.fAd K (PySem.Str.ofString "numbers_product", none)) (fun vs H Q E => spF (WW K) (runF j) 33 (vs ++ []) H Q E)
  r_34 : FnP P w K mg base false false (4 * j) (He.fAd K (PySem.Str.ofString "product_of_eights", none)) (fun vs H Q E => spF (WW K) (runF j) 34 (vs ++ []) H Q E)
  r_35 : FnP P w K mg base false false (4 * j) (He.fAd K (PySem.Str.ofString "by_ratio", none)) (fun vs H Q E => spF (WW K) (runF j) 35 (vs ++ []) H Q E)
  r_36 : FnP P w K mg base false false (4 * j) (He.fAd K (PySem.Str.ofString "are_pose", none)) (fun vs H Q E => spF (WW K) (runF j) 36 (vs ++ []) H Q E)
  r_37 : FnP P w K mg base false false (4 * j) (He.fAd K (PySem.Str.ofString "want_eight", none)) (fun vs H Q E => spF (WW K) (runF j) 37 (vs ++ []) H Q E)
  r_38 : FnP P w K mg base false false (4 * j) (He.fAd K (PySem.Str.ofString "is_pose_eight", none)) (fun vs H Q E => spF (WW K) (runF j) 38 (vs ++ []) H Q E)
  r_39 : FnP P w K mg base false false (4 * j) (He.fAd K (PySem.Str.ofString "want_pose", none)) (fun vs H Q E => spF (WW K) (runF j) 39 (vs ++ []) H Q E)
  r_40 : FnP P w K mg base false false (4 * j) (He.fAd K (PySem.Str.ofString "turn_pose", none)) (fun vs H Q E => spF (WW K) (runF j) 40 (vs ++ []) H Q E)
  r_41 : FnP P w K mg base false false (4 * j) (He.fAd K (PySem.Str.ofString "go_pose", none)) (fun vs H Q E => spF (WW K) (runF j) 41 (vs ++ []) H Q E)
  r_42 : FnP P w K mg base false false (4 * j) (He.fAd K (PySem.Str.ofString "between_of", none)) (fun vs H Q E => spF (WW K) (runF j) 42 (vs ++ []) H Q E)
  r_43 : FnP P w K mg base false false (4 * j) (He.fAd K (PySem.Str.ofString "between", none)) (fun vs H Q E => spF (WW K) (runF j) 43 (vs ++ []) H Q E)
  r_44 : FnP P w K mg base false false (4 * j) (He.fAd K (PySem.Str.ofString "_law_pick", none)) (fun vs H Q E => spF (WW K) (runF j) 44 (vs ++ []) H Q E)
  r_45 : FnP P w K mg base false false (4 * j) (He.fAd K (PySem.Str.ofString "_law_four", none)) (fun vs H Q E => spF (WW K) (runF j) 45 (vs ++ []) H Q E)
  r_46 : FnP P w K mg base false false (4 * j) (He.fAd K (PySem.Str.ofString "_law_plus", none)) (fun vs H Q E => spF (WW K) (runF j) 46 (vs ++ []) H Q E)
  r_47 : FnP P w K mg base false false (4 * j) (He.fAd K (PySem.Str.ofString "_law_by", none)) (fun vs H Q E => spF (WW K) (runF j) 47 (vs ++ []) H Q E)
  r_48 : FnP P w K mg base false false (4 * j) (He.fAd K (PySem.Str.ofString "_law_times", none)) (fun vs H Q E => spF (WW K) (runF j) 48 (vs ++ []) H Q E)
  r_49 : FnP P w K mg base false false (4 * j) (He.fAd K (PySem.Str.ofString "_law_eight", none)) (fun vs H Q E => spF (WW K) (runF j) 49 (vs ++ []) H Q E)
  r_50 : FnP P w K mg base false false (4 * j) (He.fAd K (PySem.Str.ofString "_law_pose", none)) (fun vs H Q E => spF (WW K) (runF j) 50 (vs ++ []) H Q E)
  r_51 : FnP P w K mg base false false (4 * j) (He.fAd K (PySem.Str.ofString "_law_between", none)) (fun vs H Q E => spF (WW K) (runF j) 51 (vs ++ []) H Q E)
  r_52 : FnP P w K mg base false false (4 * j) (He.fAd K (PySem.Str.ofString "_law_cross", none)) (fun vs H Q E => spF (WW K) (runF j) 52 (vs ++ []) H Q E)
  r_53 : FnP P w K mg base false false (4 * j) (He.fAd K (PySem.Str.ofString "_law_hinge", none)) (fun vs H Q E => spF (WW K) (runF j) 53 (vs ++ []) H Q E)
  r_54 : FnP P w K mg base false false (4 * j) (He.fAd K (PySem.Str.ofString "_law_size", none)) (fun vs H Q E => spF (WW K) (runF j) 54 (vs ++ []) H Q E)
  r_55 : FnP P w K mg base false true (4 * j) (He.fAd K (PySem.Str.ofString "_law_right", none)) (fun vs H Q E => spF (WW K) (runF j) 55 (vs ++ []) H Q E)
  r_56 : FnP P w K mg base false false (4 * j) (He.fAd K (PySem.Str.ofString "_law_pot", none)) (fun vs H Q E => spF (WW K) (runF j) 56 (vs ++ []) H Q E)
  r_58 : FnP P w K mg base false false (4 * j) (He.fAd K (PySem.Str.ofString "_law_draw", none)) (fun vs H Q E => spF (WW K) (runF j) 58 (vs ++ []) H Q E)
  k_between_other_pose : ∃ fd, FnG P w K mg base false false (4 * j) (He.fAd K (PySem.Str.ofString "between", none)) fd [PySem.Str.ofString "pose", PySem.Str.ofString "other"] (spF (WW K) (runF j) 43) ∧ KwB K fd [PySem.Str.ofString "pose", PySem.Str.ofString "other"] [PySem.Str.ofString "other", PySem.Str.ofString "pose"] [1, 0]
  k_between_pose_other : ∃ fd, FnG P w K mg base false false (4 * j) (He.fAd K (PySem.Str.ofString "between", none)) fd [PySem.Str.ofString "pose", PySem.Str.ofString "other"] (spF (WW K) (runF j) 43) ∧ KwB K fd [PySem.Str.ofString "pose", PySem.Str.ofString "other"] [PySem.Str.ofString "pose", PySem.Str.ofString "other"] [0, 1]
section
variable {X : Cx} {Wx : WX} {j k : Nat} {tp : Bool} {F : FT}
theorem g_NOUGHT (H : Hy X.K X.mg) (hK : X.K = (WW X.K).K) (hg : Gl X (PySem.Str.ofString "NOUGHT")) {pos : Pos} : PE X (.Name (PySem.Str.ofString "NOUGHT") pos) (den (WW X.K) Wx F (dC (.tup [(.int (0)), (.int (0)), (.int (0)), (.int (0))]))) := g_tup (W := WW X.K) (is := [0, 0, 0, 0]) H.g_NOUGHT.1 H.g_NOUGHT.2 hg
theorem g_PART (H : Hy X.K X.mg) (hK : X.K = (WW X.K).K) (hg : Gl X (PySem.Str.ofString "PART")) {pos : Pos} : PE X (.Name (PySem.Str.ofString "PART") pos) (den (WW X.K) Wx F (dC (.int (1000000000000000000000000000000000000000000000000000000000000)))) := g_int (W := WW X.K) H.g_PART hg
theorem f_own_top (H : Hy X.K X.mg) : FldT (WW X.K) (PySem.Str.ofString "own_top") F_own_top := allM_cons ⟨H.c_Ratio, rfl⟩ (allM_nil)
theorem f_own_bottom (H : Hy X.K X.mg) : FldT (WW X.K) (PySem.Str.ofString "own_bottom") F_own_bottom := allM_cons ⟨H.c_Ratio, rfl⟩ (allM_cons ⟨H.c_Eight, rfl⟩ (allM_nil))
theorem f_told_bottom (H : Hy X.K X.mg) : FldT (WW X.K) (PySem.Str.ofString "told_bottom") F_told_bottom := allM_cons ⟨H.c_Told, rfl⟩ (allM_nil)
theorem f_told_numbers (H : Hy X.K X.mg) : FldT (WW X.K) (PySem.Str.ofString "told_numbers") F_told_numbers := allM_cons ⟨H.c_Told, rfl⟩ (allM_nil)
theorem f_own_numbers (H : Hy X.K X.mg) : FldT (WW X.K) (PySem.Str.ofString "own_numbers") F_own_numbers := allM_cons ⟨H.c_Eight, rfl⟩ (allM_nil)
theorem m_first (H : Hy X.K X.mg) (T : Tab X.prog X.w X.K X.mg X.base j) : ∀ q ∈ M_first, ∃ f, MeF (WW X.K) (PySem.Str.ofString "first") q.1 f ∧ RawF X (WW X.K) (runF j) false false (4 * j) q.2 f [] := allM_cons ⟨_, H.m_first_Eight, T.r_26⟩ (allM_nil)
theorem m_times (H : Hy X.K X.mg) (T : Tab X.prog X.w X.K X.mg X.base j) : ∀ q ∈ M_times, ∃ f, MeF (WW X.K) (PySem.Str.ofString "times") q.1 f ∧ RawF X (WW X.K) (runF j) false false (4 * j) q.2 f [] := allM_cons ⟨_, H.m_times_Eight, T.r_27⟩ (allM_nil)
theorem tMul (H : Hy X.K X.mg) (T : Tab X.prog X.w X.K X.mg X.base j) : ∀ q ∈ TMul, ∃ f, OpF (WW X.K) "mul" q.1 f ∧ RawF X (WW X.K) (runF j) false false (4 * j) q.2 f [] := allM_cons ⟨_, H.o_Mul_Ratio, T.r_5⟩ (allM_cons ⟨_, H.o_Mul_Eight, T.r_28⟩ (allM_nil))
theorem hu64 {hot : Bool} {W : Wd} (en : En X W Wx hot tp (4 * j + 3)) : X.A.units + 64 < cLine := by have := en.rm.un; omega
theorem opEq (H : Hy X.K X.mg) (T : Tab X.prog X.w X.K X.mg X.base j) (en : En X (WW X.K) Wx false tp (4 * j + 3)) : OpOk X (WW X.K) Wx (runF j) (compareOp .Eq) bEq TEq boolP := opOk_eq (op_eqD (hu64 en)) ok_eq en (allM_cons ⟨_, H.o_Eq_Ratio, T.r_6⟩ (allM_cons ⟨_, H.o_Eq_Eight, T.r_29⟩ (allM_nil)))
theorem opNe (H : Hy X.K X.mg) (T : Tab X.prog X.w X.K X.mg X.base j) (en : En X (WW X.K) Wx false tp (4 * j + 3)) : OpOk X (WW X.K) Wx (runF j) (compareOp .NotEq) bNe TEq notP := opOk_ne (op_neD (hu64 en)) ok_ne en (allM_cons ⟨_, H.o_Eq_Ratio, H.c_Ratio, T.r_6⟩ (allM_cons ⟨_, H.o_Eq_Eight, H.c_Eight, T.r_29⟩ (allM_nil)))
theorem tStr (H : Hy X.K X.mg) (T : Tab X.prog X.w X.K X.mg X.base j) : ∀ q ∈ TStr, ∃ f, SpF (WW X.K) (PySem.Str.ofString "__str__") q.1 f ∧ RawF X (WW X.K) (runF j) false false (4 * j) q.2 f [] := allM_cons ⟨_, H.o_Str_Ratio, T.r_7⟩ (allM_nil)
theorem tRepr (H : Hy X.K X.mg) (T : Tab X.prog X.w X.K X.mg X.base j) : ∀ q ∈ TRepr, ∃ f, SpF (WW X.K) (PySem.Str.ofString "__repr__") q.1 f ∧ RawF X (WW X.K) (runF j) false false (4 * j) q.2 f [] := allM_cons ⟨_, H.o_Repr_Eight, T.r_30⟩ (allM_nil)
theorem dv_is_integer (H : Hy X.K X.mg) : ∀ g h, VRs (WW X.K) g h [] [] := fun _ _ => .nil
theorem dv_is_list (H : Hy X.K X.mg) : ∀ g h, VRs (WW X.K) g h [] [] := fun _ _ => .nil
theorem dv_digits_of (H : Hy X.K X.mg) : ∀ g h, VRs (WW X.K) g h [] [] := fun _ _ => .nil
theorem dv_common_part (H : Hy X.K X.mg) : ∀ g h, VRs (WW X.K) g h [] [] := fun _ _ => .nil
theorem dv_Ratio (H : Hy X.K X.mg) : ∀ g h, VRs (WW X.K) g h [] [] := fun _ _ => .nil
theorem dv_Ratiod1 (H : Hy X.K X.mg) : ∀ g h, VRs (WW X.K) g h [(.int (1))] [.int (1)] := fun _ _ => (.cons (.int _) .nil)
theorem dv_told_pair (H : Hy X.K X.mg) : ∀ g h, VRs (WW X.K) g h [] [] := fun _ _ => .nil
theorem dv_is_number (H : Hy X.K X.mg) : ∀ g h, VRs (WW X.K) g h [] [] := fun _ _ => .nil
theorem dv_ratio_of (H : Hy X.K X.mg) : ∀ g h, VRs (WW X.K) g h [] [] := fun _ _ => .nil
theorem dv_want_number (H : Hy X.K X.mg) : ∀ g h, VRs (WW X.K) g h [] [] := fun _ _ => .nil
theorem dv_wholes (H : Hy X.K X.mg) : ∀ g h, VRs (WW X.K) g h [] [] := fun _ _ => .nil
theorem dv_are_numbers (H : Hy X.K X.mg) : ∀ g h, VRs (WW X.K) g h [] [] := fun _ _ => .nil
theorem dv_is_four (H : Hy X.K X.mg) : ∀ g h, VRs (WW X.K) g h [] [] := fun _ _ => .nil
theorem dv_is_point (H : Hy X.K X.mg) : ∀ g h, VRs (WW X.K) g h [] [] := fun _ _ => .nil
theorem dv_want_four (H : Hy X.K X.mg) : ∀ g h, VRs (WW X.K) g h [] [] := fun _ _ => .nil
theorem dv_want_point (H : Hy X.K X.mg) : ∀ g h, VRs (WW X.K) g h [] [] := fun _ _ => .nil
theorem dv_four_product (H : Hy X.K X.mg) : ∀ g h, VRs (WW X.K) g h [] [] := fun _ _ => .nil
theorem dv_dot (H : Hy X.K X.mg) : ∀ g h, VRs (WW X.K) g h [] [] := fun _ _ => .nil
theorem dv_told_row (H : Hy X.K X.mg) : ∀ g h, VRs (WW X.K) g h [] [] := fun _ _ => .nil
theorem dv_norm_four (H : Hy X.K X.mg) : ∀ g h, VRs (WW X.K) g h [] [] := fun _ _ => .nil
theorem dv_Told (H : Hy X.K X.mg) : ∀ g h, VRs (WW X.K) g h [] [] := fun _ _ => .nil
theorem dv_lowest (H : Hy X.K X.mg) : ∀ g h, VRs (WW X.K) g h [] [] := fun _ _ => .nil
theorem dv_told_eight (H : Hy X.K X.mg) : ∀ g h, VRs (WW X.K) g h [] [] := fun _ _ => .nil
theorem dv_Eight (H : Hy X.K X.mg) : ∀ g h, VRs (WW X.K) g h [] [] := fun _ _ => .nil
theorem dv_Eightd1 (H : Hy X.K X.mg) : ∀ g h, VRs (WW X.K) g h [(.tup [(.int (0)), (.int (0)), (.int (0)), (.int (0))])] [.ref (He.dflAt (PySem.Str.ofString "Eight", some (PySem.Str.ofString "__init__")) 0 X.K)] := fun _ _ => (.cons (.tupK H.dt25_0 (vrs_ints [0, 0, 0, 0])) .nil)
theorem dv_four_text (H : Hy X.K X.mg) : ∀ g h, VRs (WW X.K) g h [] [] := fun _ _ => .nil
theorem dv_eight_by (H : Hy X.K X.mg) : ∀ g h, VRs (WW X.K) g h [] [] := fun _ _ => .nil
theorem dv_numbers_product (H : Hy X.K X.mg) : ∀ g h, VRs (WW X.K) g h [] [] := fun _ _ => .nil
theorem dv_product_of_eights (H : Hy X.K X.mg) : ∀ g h, VRs (WW X.K) g h [] [] := fun _ _ => .nil
theorem dv_by_ratio (H : Hy X.K X.mg) : ∀ g h, VRs (WW X.K) g h [] [] := fun _ _ => .nil
theorem dv_are_pose (H : Hy X.K X.mg) : ∀ g h, VRs (WW X.K) g h [] [] := fun _ _ => .nil
theorem dv_want_eight (H : Hy X.K X.mg) : ∀ g h, VRs (WW X.K) g h [] [] := fun _ _ => .nil
theorem dv_is_pose_eight (H : Hy X.K X.mg) : ∀ g h, VRs (WW X.K) g h [] [] := fun _ _ => .nil
theorem dv_want_pose (H : Hy X.K X.mg) : ∀ g h, VRs (WW X.K) g h [] [] := fun _ _ => .nil
theorem dv_turn_pose (H : Hy X.K X.mg) : ∀ g h, VRs (WW X.K) g h [] [] := fun _ _ => .nil
theorem dv_go_pose (H : Hy X.K X.mg) : ∀ g h, VRs (WW X.K) g h [] [] := fun _ _ => .nil
theorem dv_between_of (H : Hy X.K X.mg) : ∀ g h, VRs (WW X.K) g h [] [] := fun _ _ => .nil
theorem dv_between (H : Hy X.K X.mg) : ∀ g h, VRs (WW X.K) g h [] [] := fun _ _ => .nil
theorem dv__law_pick (H : Hy X.K X.mg) : ∀ g h, VRs (WW X.K) g h [] [] := fun _ _ => .nil
theorem dv__law_four (H : Hy X.K X.mg) : ∀ g h, VRs (WW X.K) g h [] [] := fun _ _ => .nil
theorem dv__law_plus (H : Hy X.K X.mg) : ∀ g h, VRs (WW X.K) g h [] [] := fun _ _ => .nil
theorem dv__law_by (H : Hy X.K X.mg) : ∀ g h, VRs (WW X.K) g h [] [] := fun _ _ => .nil
theorem dv__law_times (H : Hy X.K X.mg) : ∀ g h, VRs (WW X.K) g h [] [] := fun _ _ => .nil
theorem dv__law_eight (H : Hy X.K X.mg) : ∀ g h, VRs (WW X.K) g h [] [] := fun _ _ => .nil
theorem dv__law_pose (H : Hy X.K X.mg) : ∀ g h, VRs (WW X.K) g h [] [] := fun _ _ => .nil
theorem dv__law_between (H : Hy X.K X.mg) : ∀ g h, VRs (WW X.K) g h [] [] := fun _ _ => .nil
theorem dv__law_cross (H : Hy X.K X.mg) : ∀ g h, VRs (WW X.K) g h [] [] := fun _ _ => .nil
theorem dv__law_hinge (H : Hy X.K X.mg) : ∀ g h, VRs (WW X.K) g h [] [] := fun _ _ => .nil
theorem dv__law_size (H : Hy X.K X.mg) : ∀ g h, VRs (WW X.K) g h [] [] := fun _ _ => .nil
theorem dv__law_right (H : Hy X.K X.mg) : ∀ g h, VRs (WW X.K) g h [] [] := fun _ _ => .nil
theorem dv__law_pot (H : Hy X.K X.mg) : ∀ g h, VRs (WW X.K) g h [] [] := fun _ _ => .nil
theorem dv_law (H : Hy X.K X.mg) : ∀ g h, VRs (WW X.K) g h [] [] := fun _ _ => .nil
theorem dv__law_draw (H : Hy X.K X.mg) : ∀ g h, VRs (WW X.K) g h [] [] := fun _ _ => .nil
end
theorem b0 {X : Cx} {Wx : WX} {j : Nat} (nm : Nm X N0 (defScope s0)) (en : En X (WW X.K) Wx false false (4 * j + 3)) (hfn : ∀ x, X.fn x = true) (H : Hy X.K X.mg) (T : Tab X.prog X.w X.K X.mg X.base j) : PSs X (defBody s0) (denS (WW X.K) Wx (runF j) D0) :=
  rs_one (rs_ret (n_and (re_isi en.hK H.i_int (.ty _) (nm.gl (by decide +kernel)) (H.fr_isinstance ) (n_var nm (i := 0) rfl (by decide +kernel)) (pe_bltn (v := .ty "int") (nm.gl (by decide +kernel)) (H.fr_int ) boot_int rfl (by decide +kernel) (by decide +kernel))) (n_one (n_not (re_isi en.hK H.i_bool (.ty _) (nm.gl (by decide +kernel)) (H.fr_isinstance ) (n_var nm (i := 0) rfl (by decide +kernel)) (pe_bltn (v := .ty "bool") (nm.gl (by decide +kernel)) (H.fr_bool ) boot_bool rfl (by decide +kernel) (by decide +kernel)))))))
theorem b1 {X : Cx} {Wx : WX} {j : Nat} (nm : Nm X N1 (defScope s1)) (en : En X (WW X.K) Wx false false (4 * j + 3)) (hfn : ∀ x, X.fn x = true) (H : Hy X.K X.mg) (T : Tab X.prog X.w X.K X.mg X.base j) : PSs X (defBody s1) (denS (WW X.K) Wx (runF j) D1) :=
  rs_one (rs_ret (re_isiT en.hK H.i_list_tuple (.cons (.ty _) (.cons (.ty _) .nil)) (by decide +kernel) (nm.gl (by decide +kernel)) (H.fr_isinstance ) (n_var nm (i := 0) rfl (by decide +kernel)) (pa_cons (pe_bltn (v := .ty "list") (nm.gl (by decide +kernel)) (H.fr_list ) boot_list rfl (by decide +kernel) (by decide +kernel)) (pa_cons (pe_bltn (v := .ty "tuple") (nm.gl (by decide +kernel)) (H.fr_tuple ) boot_tuple rfl (by decide +kernel) (by decide +kernel)) (pa_nil))) (fun _ _ _ q => q)))
theorem b2 {X : Cx} {Wx : WX} {j : Nat} (nm : Nm X N2 (defScope s2)) (en : En X (WW X.K) Wx false false (4 * j + 3)) (hfn : ∀ x, X.fn x = true) (H : Hy X.K X.mg) (T : Tab X.prog X.w X.K X.mg X.base j) : PSs X (defBody s2) (denS (WW X.K) Wx (runF j) D2) :=
  rs_cons (rs_par (i := 2) (j := 3) en.calm (nm.nd (by decide +kernel)) (nm.at rfl) (nm.at rfl) (by decide) (nm.isL (by decide +kernel)) (nm.isL (by decide +kernel)) (n_cons (n_ife (t_cmp op_ge ok_ge (n_var nm (i := 0) rfl (by decide +kernel)) (n_int) (nomark _)) (n_var nm (i := 0) rfl (by decide +kernel)) (n_bin (op_sub) ok_sub (n_int) (n_var nm (i := 0) rfl (by decide +kernel)))) (n_cons (n_str) n_nil)) (swap_of (Nm.s nm) (by rfl)))
    (rs_cons (rs_while 1000 en.po (t_cmp op_ge ok_ge (n_var nm (i := 2) rfl (by decide +kernel)) (g_PART H en.hK (nm.gl (by decide +kernel))) (nomark _)) (rs_neverS))
    (rs_cons (rs_set (i := 1) (nm.nd (by decide +kernel)) (nm.at rfl) (nm.loc (by decide +kernel)) (n_ife (t_cmp op_lt ok_lt (n_var nm (i := 0) rfl (by decide +kernel)) (n_int) (nomark _)) (n_str) (n_str)) rfl (.inl (hfn _)))
    (rs_one (rs_ret (re_joined (ds := [dUn fmtE (dVar 1), dUn fmtE (dVar 2), dUn fmtE (dVar 3)]) (.cons (re_fmt (n_var nm (i := 1) rfl (by decide +kernel))) (.cons (re_fmt (n_var nm (i := 2) rfl (by decide +kernel))) (.cons (re_fmt (n_var nm (i := 3) rfl (by decide +kernel))) .nil))))))))
theorem b3 {X : Cx} {Wx : WX} {j : Nat} (nm : Nm X N3 (defScope s3)) (en : En X (WW X.K) Wx false false (4 * j + 3)) (hfn : ∀ x, X.fn x = true) (H : Hy X.K X.mg) (T : Tab X.prog X.w X.K X.mg X.base j) : PSs X (defBody s3) (denS (WW X.K) Wx (runF j) D3) :=
  rs_one (rs_ret (re_bltM ok_gcd cr_gcd (nm.gl (by decide +kernel)) (H.g_gcd ) (n_cons (n_var nm (i := 0) rfl (by decide +kernel)) (n_cons (n_var nm (i := 1) rfl (by decide +kernel)) (n_nil)))))
theorem b4 {X : Cx} {Wx : WX} {j : Nat} (nm : Nm X N4 (defScope s4)) (en : En X (WW X.K) Wx false false (4 * j + 3)) (hfn : ∀ x, X.fn x = true) (H : Hy X.K X.mg) (T : Tab X.prog X.w X.K X.mg X.base j) : PSs X (defBody s4) (denS (WW X.K) Wx (runF j) D4) :=
  rs_cons (rs_if (t_not (t_val (re_call en (T.r_0 ) (fun z => by cases z) (dv_is_integer H ) (nm.gl (by decide +kernel)) (H.g_is_integer ) (H.k_is_integer ) (n_cons (n_var nm (i := 1) rfl (by decide +kernel)) (n_nil))))) (rs_one (rs_never)) (rs_next pss_nil))
    (rs_cons (rs_if (PW.pt (w_or (t_not (t_val (re_call en (T.r_0 ) (fun z => by cases z) (dv_is_integer H ) (nm.gl (by decide +kernel)) (H.g_is_integer ) (H.k_is_integer ) (n_cons (n_var nm (i := 2) rfl (by decide +kernel)) (n_nil))))) (w_or1 (rt_cmpO (opEq H T  en) (n_var nm (i := 2) rfl (by decide +kernel)) (n_int) (nomark _))))) (rs_one (rs_never)) (rs_next pss_nil))
    (rs_cons (rs_set (i := 3) (nm.nd (by decide +kernel)) (nm.at rfl) (nm.loc (by decide +kernel)) (re_call en (T.r_3 ) (fun z => by cases z) (dv_common_part H ) (nm.gl (by decide +kernel)) (H.g_common_part ) (H.k_common_part ) (n_cons (n_var nm (i := 1) rfl (by decide +kernel)) (n_cons (n_var nm (i := 2) rfl (by decide +kernel)) (n_nil)))) rfl (.inl (hfn _)))
    (rs_cons (rs_if (t_cmp op_lt ok_lt (n_var nm (i := 2) rfl (by decide +kernel)) (n_int) (nomark _)) (rs_one (rs_set (i := 3) (nm.nd (by decide +kernel)) (nm.at rfl) (nm.loc (by decide +kernel)) (n_bin (op_sub) ok_sub (n_int) (n_var nm (i := 3) rfl (by decide +kernel))) rfl (.inl (hfn _)))) (rs_next pss_nil))
    (rs_cons (rs_setF en.hK H.c_Ratio rfl (nm.at (i := 0) rfl) (nm.vis (by decide +kernel)) (by decide +kernel) (by decide +kernel) (n_bin (op_divA) ok_div (n_var nm (i := 1) rfl (by decide +kernel)) (n_var nm (i := 3) rfl (by decide +kernel))))
    (rs_one (rs_setF en.hK H.c_Ratio rfl (nm.at (i := 0) rfl) (nm.vis (by decide +kernel)) (by decide +kernel) (by decide +kernel) (n_bin (op_divA) ok_div (n_var nm (i := 2) rfl (by decide +kernel)) (n_var nm (i := 3) rfl (by decide +kernel)))))))))
theorem b5 {X : Cx} {Wx : WX} {j : Nat} (nm : Nm X N5 (defScope s5)) (en : En X (WW X.K) Wx false false (4 * j + 3)) (hfn : ∀ x, X.fn x = true) (H : Hy X.K X.mg) (T : Tab X.prog X.w X.K X.mg X.base j) : PSs X (defBody s5) (denS (WW X.K) Wx (runF j) D5) :=
  rs_cons (rs_unp en.calm (nm.nd (by decide +kernel)) en.hK (.many (.cons ⟨_, _, rfl, tgN nm (i := 2) rfl (by decide +kernel)⟩ (.cons ⟨_, _, rfl, tgN nm (i := 3) rfl (by decide +kernel)⟩ .nil))) (re_call en (T.r_8 ) (fun z => by cases z) (dv_told_pair H ) (nm.gl (by decide +kernel)) (H.g_told_pair ) (H.k_told_pair ) (n_cons (n_var nm (i := 1) rfl (by decide +kernel)) (n_nil))))
    (rs_one (rs_ret (re_new en (H.mk_Ratio ) (T.r_4 ) (fun z => by cases z) (dv_Ratio H ) (nm.gl (by decide +kernel)) (H.g_Ratio ) (n_cons (re_binO (opOk_bin (op_mulA en.hK) ok_mul en (tMul H T )) (re_fld en.hK (f_own_top H ) (n_var nm (i := 0) rfl (by decide +kernel))) (n_var nm (i := 2) rfl (by decide +kernel))) (n_cons (re_binO (opOk_bin (op_mulA en.hK) ok_mul en (tMul H T )) (re_fld en.hK (f_own_bottom H ) (n_var nm (i := 0) rfl (by decide +kernel))) (n_var nm (i := 3) rfl (by decide +kernel))) (n_nil))))))
theorem b6 {X : Cx} {Wx : WX} {j : Nat} (nm : Nm X N6 (defScope s6)) (en : En X (WW X.K) Wx false false (4 * j + 3)) (hfn : ∀ x, X.fn x = true) (H : Hy X.K X.mg) (T : Tab X.prog X.w X.K X.mg X.base j) : PSs X (defBody s6) (denS (WW X.K) Wx (runF j) D6) :=
  rs_cons (rs_if (t_not (t_val (re_isi en.hK H.i_Ratio (.own _) (nm.gl (by decide +kernel)) (H.fr_isinstance ) (n_var nm (i := 1) rfl (by decide +kernel)) (pe_glob (v := .ref (clsA X.K 0)) (nm.gl (by decide +kernel)) (H.g_Ratio ) rfl (by decide +kernel))))) (rs_one (rs_ret (n_bl))) (rs_next pss_nil))
    (rs_one (rs_ret (n_and (re_cmpO (opEq H T  en) (re_fld en.hK (f_own_top H ) (n_var nm (i := 0) rfl (by decide +kernel))) (re_fld en.hK (f_own_top H ) (n_var nm (i := 1) rfl (by decide +kernel))) (nomark _)) (n_one (re_cmpO (opEq H T  en) (re_fld en.hK (f_own_bottom H ) (n_var nm (i := 0) rfl (by decide +kernel))) (re_fld en.hK (f_own_bottom H ) (n_var nm (i := 1) rfl (by decide +kernel))) (nomark _))))))
theorem b7 {X : Cx} {Wx : WX} {j : Nat} (nm : Nm X N7 (defScope s7)) (en : En X (WW X.K) Wx false false (4 * j + 3)) (hfn : ∀ x, X.fn x = true) (H : Hy X.K X.mg) (T : Tab X.prog X.w X.K X.mg X.base j) : PSs X (defBody s7) (denS (WW X.K) Wx (runF j) D7) :=
  rs_cons (rs_if (rt_cmpO (opEq H T  en) (re_fld en.hK (f_own_bottom H ) (n_var nm (i := 0) rfl (by decide +kernel))) (n_int) (nomark _)) (rs_one (rs_ret (re_joined1 (re_fmt (re_call en (T.r_2 ) (fun z => by cases z) (dv_digits_of H ) (nm.gl (by decide +kernel)) (H.g_digits_of ) (H.k_digits_of ) (n_cons (re_fld en.hK (f_own_top H ) (n_var nm (i := 0) rfl (by decide +kernel))) (n_nil))))))) (rs_next pss_nil))
    (rs_one (rs_ret (re_joined (ds := [dUn fmtE (dCallD 2 [] (dArgs [dUn (fldE F_own_top) (dVar 0)])), dC (.str (PySem.Str.ofString "/")), dUn fmtE (dCallD 2 [] (dArgs [dUn (fldE F_own_bottom) (dVar 0)]))]) (.cons (re_fmt (re_call en (T.r_2 ) (fun z => by cases z) (dv_digits_of H ) (nm.gl (by decide +kernel)) (H.g_digits_of ) (H.k_digits_of ) (n_cons (re_fld en.hK (f_own_top H ) (n_var nm (i := 0) rfl (by decide +kernel))) (n_nil)))) (.cons (n_str) (.cons (re_fmt (re_call en (T.r_2 ) (fun z => by cases z) (dv_digits_of H ) (nm.gl (by decide +kernel)) (H.g_digits_of ) (H.k_digits_of ) (n_cons (re_fld en.hK (f_own_bottom H ) (n_var nm (i := 0) rfl (by decide +kernel))) (n_nil)))) .nil))))))
theorem b8 {X : Cx} {Wx : WX} {j : Nat} (nm : Nm X N8 (defScope s8)) (en : En X (WW X.K) Wx false false (4 * j + 3)) (hfn : ∀ x, X.fn x = true) (H : Hy X.K X.mg) (T : Tab X.prog X.w X.K X.mg X.base j) : PSs X (defBody s8) (denS (WW X.K) Wx (runF j) D8) :=
  rs_cons (rs_if (t_val (re_isi en.hK H.i_Ratio (.own _) (nm.gl (by decide +kernel)) (H.fr_isinstance ) (n_var nm (i := 0) rfl (by decide +kernel)) (pe_glob (v := .ref (clsA X.K 0)) (nm.gl (by decide +kernel)) (H.g_Ratio ) rfl (by decide +kernel)))) (rs_one (rs_ret (n_tup (n_cons (re_fld en.hK (f_own_top H ) (n_var nm (i := 0) rfl (by decide +kernel))) (n_cons (re_fld en.hK (f_own_bottom H ) (n_var nm (i := 0) rfl (by decide +kernel))) (n_nil)))))) (rs_next pss_nil))
    (rs_cons (rs_if (t_not (t_val (re_call en (T.r_0 ) (fun z => by cases z) (dv_is_integer H ) (nm.gl (by decide +kernel)) (H.g_is_integer ) (H.k_is_integer ) (n_cons (n_var nm (i := 0) rfl (by decide +kernel)) (n_nil))))) (rs_one (rs_never)) (rs_next pss_nil))
    (rs_one (rs_ret (n_tup (n_cons (n_var nm (i := 0) rfl (by decide +kernel)) (n_cons (n_int) (n_nil)))))))
theorem b9 {X : Cx} {Wx : WX} {j : Nat} (nm : Nm X N9 (defScope s9)) (en : En X (WW X.K) Wx false false (4 * j + 3)) (hfn : ∀ x, X.fn x = true) (H : Hy X.K X.mg) (T : Tab X.prog X.w X.K X.mg X.base j) : PSs X (defBody s9) (denS (WW X.K) Wx (runF j) D9) :=
  rs_one (rs_ret (n_or (re_call en (T.r_0 ) (fun z => by cases z) (dv_is_integer H ) (nm.gl (by decide +kernel)) (H.g_is_integer ) (H.k_is_integer ) (n_cons (n_var nm (i := 0) rfl (by decide +kernel)) (n_nil))) (n_one (re_isi en.hK H.i_Ratio (.own _) (nm.gl (by decide +kernel)) (H.fr_isinstance ) (n_var nm (i := 0) rfl (by decide +kernel)) (pe_glob (v := .ref (clsA X.K 0)) (nm.gl (by decide +kernel)) (H.g_Ratio ) rfl (by decide +kernel))))))
theorem b10 {X : Cx} {Wx : WX} {j : Nat} (nm : Nm X N10 (defScope s10)) (en : En X (WW X.K) Wx false false (4 * j + 3)) (hfn : ∀ x, X.fn x = true) (H : Hy X.K X.mg) (T : Tab X.prog X.w X.K X.mg X.base j) : PSs X (defBody s10) (denS (WW X.K) Wx (runF j) D10) :=
  rs_one (rs_ret (n_ife (t_val (re_isi en.hK H.i_Ratio (.own _) (nm.gl (by decide +kernel)) (H.fr_isinstance ) (n_var nm (i := 0) rfl (by decide +kernel)) (pe_glob (v := .ref (clsA X.K 0)) (nm.gl (by decide +kernel)) (H.g_Ratio ) rfl (by decide +kernel)))) (n_var nm (i := 0) rfl (by decide +kernel)) (re_new en (H.mk_Ratio ) (T.r_4d1 ) (fun z => by cases z) (dv_Ratiod1 H ) (nm.gl (by decide +kernel)) (H.g_Ratio ) (n_cons (n_var nm (i := 0) rfl (by decide +kernel)) (n_nil)))))
theorem b11 {X : Cx} {Wx : WX} {j : Nat} (nm : Nm X N11 (defScope s11)) (en : En X (WW X.K) Wx false false (4 * j + 3)) (hfn : ∀ x, X.fn x = true) (H : Hy X.K X.mg) (T : Tab X.prog X.w X.K X.mg X.base j) : PSs X (defBody s11) (denS (WW X.K) Wx (runF j) D11) :=
  rs_cons (rs_if (t_not (t_val (re_call en (T.r_9 ) (fun z => by cases z) (dv_is_number H ) (nm.gl (by decide +kernel)) (H.g_is_number ) (H.k_is_number ) (n_cons (n_var nm (i := 0) rfl (by decide +kernel)) (n_nil))))) (rs_one (rs_never)) (rs_next pss_nil))
    (rs_one (rs_ret (re_call en (T.r_10 ) (fun z => by cases z) (dv_ratio_of H ) (nm.gl (by decide +kernel)) (H.g_ratio_of ) (H.k_ratio_of ) (n_cons (n_var nm (i := 0) rfl (by decide +kernel)) (n_nil)))))
theorem b12 {X : Cx} {Wx : WX} {j : Nat} (nm : Nm X N12 (defScope s12)) (en : En X (WW X.K) Wx false false (4 * j + 3)) (hfn : ∀ x, X.fn x = true) (H : Hy X.K X.mg) (T : Tab X.prog X.w X.K X.mg X.base j) : PSs X (defBody s12) (denS (WW X.K) Wx (runF j) D12) :=
  rs_cons (rs_set (i := 1) (nm.nd (by decide +kernel)) (nm.at rfl) (nm.loc (by decide +kernel)) (n_int) rfl (.inl (hfn _)))
    (rs_cons (rs_for en.po en.calm (nm.nd (by decide +kernel)) en.hK (tgOne nm (i := 2) rfl (by decide +kernel)) (ri_seq en.hK (n_var nm (i := 0) rfl (by decide +kernel))) (rs_one (rs_set (i := 1) (nm.nd (by decide +kernel)) (nm.at rfl) (nm.loc (by decide +kernel)) (re_bltM ok_lcm cr_lcm (nm.gl (by decide +kernel)) (H.g_lcm ) (n_cons (n_var nm (i := 1) rfl (by decide +kernel)) (n_cons (re_fld en.hK (f_own_bottom H ) (n_var nm (i := 2) rfl (by decide +kernel))) (n_nil)))) rfl (.inl (hfn _)))))
    (rs_one (rs_ret (n_tup (n_cons (n_var nm (i := 1) rfl (by decide +kernel)) (n_cons (re_lcN nm en (by decide +kernel) (ri_seq en.hK (n_var nm (i := 0) rfl (by decide +kernel))) (own := [(PySem.Str.ofString "ratio", 2)]) ⟨by decide +kernel, by decide +kernel, by decide +kernel, by decide +kernel, by decide +kernel⟩ (fun s1 h1 c1 l1 p1 nm1 => tgOne nm1 (i := 2) rfl (by decide +kernel)) (by decide) (fun s1 h1 c1 l1 p1 nm1 en1 => re_binO (opOk_bin (op_mulA en1.hK) ok_mul en1 (tMul H T )) (re_fld en1.hK (f_own_top H ) (n_var nm1 (i := 2) rfl (by decide +kernel))) (n_bin (op_divA) ok_div (n_var nm1 (i := 1) rfl (by decide +kernel)) (re_fld en1.hK (f_own_bottom H ) (n_var nm1 (i := 2) rfl (by decide +kernel)))))) (n_nil)))))))
theorem b13 {X : Cx} {Wx : WX} {j : Nat} (nm : Nm X N13 (defScope s13)) (en : En X (WW X.K) Wx false false (4 * j + 3)) (hfn : ∀ x, X.fn x = true) (H : Hy X.K X.mg) (T : Tab X.prog X.w X.K X.mg X.base j) : PSs X (defBody s13) (denS (WW X.K) Wx (runF j) D13) :=
  rs_one (rs_ret (n_and (re_call en (T.r_1 ) (fun z => by cases z) (dv_is_list H ) (nm.gl (by decide +kernel)) (H.g_is_list ) (H.k_is_list ) (n_cons (n_var nm (i := 0) rfl (by decide +kernel)) (n_nil))) (n_and (re_cmpO (opEq H T  en) (re_bltF (ok_len (W := WW X.K)) (call_len) (nm.gl (by decide +kernel)) (H.fr_len ) boot_len (n_cons (n_var nm (i := 0) rfl (by decide +kernel)) (n_nil))) (n_var nm (i := 1) rfl (by decide +kernel)) (nomark _)) (n_one (re_bltF (ok_all (W := WW X.K)) (cr_all en.calm) (nm.gl (by decide +kernel)) (H.fr_all ) boot_all (n_cons (re_lcN nm en (by decide +kernel) (ri_seq en.hK (n_var nm (i := 0) rfl (by decide +kernel))) (own := [(PySem.Str.ofString "number", 2)]) ⟨by decide +kernel, by decide +kernel, by decide +kernel, by decide +kernel, by decide +kernel⟩ (fun s1 h1 c1 l1 p1 nm1 => tgOne nm1 (i := 2) rfl (by decide +kernel)) (by decide) (fun s1 h1 c1 l1 p1 nm1 en1 => re_call en1 (T.r_9 ) (fun z => by cases z) (dv_is_number H ) (nm1.gl (by decide +kernel)) (H.g_is_number ) (H.k_is_number ) (n_cons (n_var nm1 (i := 2) rfl (by decide +kernel)) (n_nil)))) (n_nil)))))))
theorem b14 {X : Cx} {Wx : WX} {j : Nat} (nm : Nm X N14 (defScope s14)) (en : En X (WW X.K) Wx false false (4 * j + 3)) (hfn : ∀ x, X.fn x = true) (H : Hy X.K X.mg) (T : Tab X.prog X.w X.K X.mg X.base j) : PSs X (defBody s14) (denS (WW X.K) Wx (runF j) D14) :=
  rs_one (rs_ret (re_call en (T.r_13 ) (fun z => by cases z) (dv_are_numbers H ) (nm.gl (by decide +kernel)) (H.g_are_numbers ) (H.k_are_numbers ) (n_cons (n_var nm (i := 0) rfl (by decide +kernel)) (n_cons (n_int) (n_nil)))))
theorem b15 {X : Cx} {Wx : WX} {j : Nat} (nm : Nm X N15 (defScope s15)) (en : En X (WW X.K) Wx false false (4 * j + 3)) (hfn : ∀ x, X.fn x = true) (H : Hy X.K X.mg) (T : Tab X.prog X.w X.K X.mg X.base j) : PSs X (defBody s15) (denS (WW X.K) Wx (runF j) D15) :=
  rs_one (rs_ret (re_call en (T.r_13 ) (fun z => by cases z) (dv_are_numbers H ) (nm.gl (by decide +kernel)) (H.g_are_numbers ) (H.k_are_numbers ) (n_cons (n_var nm (i := 0) rfl (by decide +kernel)) (n_cons (n_int) (n_nil)))))
theorem b16 {X : Cx} {Wx : WX} {j : Nat} (nm : Nm X N16 (defScope s16)) (en : En X (WW X.K) Wx false false (4 * j + 3)) (hfn : ∀ x, X.fn x = true) (H : Hy X.K X.mg) (T : Tab X.prog X.w X.K X.mg X.base j) : PSs X (defBody s16) (denS (WW X.K) Wx (runF j) D16) :=
  rs_cons (rs_if (t_not (t_val (re_call en (T.r_14 ) (fun z => by cases z) (dv_is_four H ) (nm.gl (by decide +kernel)) (H.g_is_four ) (H.k_is_four ) (n_cons (n_var nm (i := 0) rfl (by decide +kernel)) (n_nil))))) (rs_one (rs_never)) (rs_next pss_nil))
    (rs_one (rs_ret (re_bltT (ok_tuple (W := WW X.K)) (call_tuple_of) (nm.gl (by decide +kernel)) (H.fr_tuple ) boot_tuple (n_cons (re_lcN nm en (by decide +kernel) (ri_seq en.hK (n_var nm (i := 0) rfl (by decide +kernel))) (own := [(PySem.Str.ofString "number", 1)]) ⟨by decide +kernel, by decide +kernel, by decide +kernel, by decide +kernel, by decide +kernel⟩ (fun s1 h1 c1 l1 p1 nm1 => tgOne nm1 (i := 1) rfl (by decide +kernel)) (by decide) (fun s1 h1 c1 l1 p1 nm1 en1 => re_call en1 (T.r_10 ) (fun z => by cases z) (dv_ratio_of H ) (nm1.gl (by decide +kernel)) (H.g_ratio_of ) (H.k_ratio_of ) (n_cons (n_var nm1 (i := 1) rfl (by decide +kernel)) (n_nil)))) (n_nil)))))
theorem b17 {X : Cx} {Wx : WX} {j : Nat} (nm : Nm X N17 (defScope s17)) (en : En X (WW X.K) Wx false false (4 * j + 3)) (hfn : ∀ x, X.fn x = true) (H : Hy X.K X.mg) (T : Tab X.prog X.w X.K X.mg X.base j) : PSs X (defBody s17) (denS (WW X.K) Wx (runF j) D17) :=
  rs_cons (rs_if (t_not (t_val (re_call en (T.r_15 ) (fun z => by cases z) (dv_is_point H ) (nm.gl (by decide +kernel)) (H.g_is_point ) (H.k_is_point ) (n_cons (n_var nm (i := 0) rfl (by decide +kernel)) (n_nil))))) (rs_one (rs_never)) (rs_next pss_nil))
    (rs_one (rs_ret (re_bltT (ok_tuple (W := WW X.K)) (call_tuple_of) (nm.gl (by decide +kernel)) (H.fr_tuple ) boot_tuple (n_cons (re_lcN nm en (by decide +kernel) (ri_seq en.hK (n_var nm (i := 0) rfl (by decide +kernel))) (own := [(PySem.Str.ofString "number", 1)]) ⟨by decide +kernel, by decide +kernel, by decide +kernel, by decide +kernel, by decide +kernel⟩ (fun s1 h1 c1 l1 p1 nm1 => tgOne nm1 (i := 1) rfl (by decide +kernel)) (by decide) (fun s1 h1 c1 l1 p1 nm1 en1 => re_call en1 (T.r_10 ) (fun z => by cases z) (dv_ratio_of H ) (nm1.gl (by decide +kernel)) (H.g_ratio_of ) (H.k_ratio_of ) (n_cons (n_var nm1 (i := 1) rfl (by decide +kernel)) (n_nil)))) (n_nil)))))
theorem b18 {X : Cx} {Wx : WX} {j : Nat} (nm : Nm X N18 (defScope s18)) (en : En X (WW X.K) Wx false false (4 * j + 3)) (hfn : ∀ x, X.fn x = true) (H : Hy X.K X.mg) (T : Tab X.prog X.w X.K X.mg X.base j) : PSs X (defBody s18) (denS (WW X.K) Wx (runF j) D18) :=
  rs_cons (rs_unp en.calm (nm.nd (by decide +kernel)) en.hK (.many (.cons ⟨_, _, rfl, tgN nm (i := 5) rfl (by decide +kernel)⟩ (.cons ⟨_, _, rfl, tgN nm (i := 6) rfl (by decide +kernel)⟩ (.cons ⟨_, _, rfl, tgN nm (i := 7) rfl (by decide +kernel)⟩ (.cons ⟨_, _, rfl, tgN nm (i := 8) rfl (by decide +kernel)⟩ .nil))))) (n_var nm (i := 0) rfl (by decide +kernel)))
    (rs_cons (rs_unp en.calm (nm.nd (by decide +kernel)) en.hK (.many (.cons ⟨_, _, rfl, tgN nm (i := 9) rfl (by decide +kernel)⟩ (.cons ⟨_, _, rfl, tgN nm (i := 10) rfl (by decide +kernel)⟩ (.cons ⟨_, _, rfl, tgN nm (i := 11) rfl (by decide +kernel)⟩ (.cons ⟨_, _, rfl, tgN nm (i := 12) rfl (by decide +kernel)⟩ .nil))))) (n_var nm (i := 1) rfl (by decide +kernel)))
    (rs_cons (rs_set (i := 2) (nm.nd (by decide +kernel)) (nm.at rfl) (nm.loc (by decide +kernel)) (n_bin (op_sub) ok_sub (n_bin (op_sub) ok_sub (n_bin (op_sub) ok_sub (re_binO (opOk_bin (op_mulA en.hK) ok_mul en (tMul H T )) (n_var nm (i := 5) rfl (by decide +kernel)) (n_var nm (i := 9) rfl (by decide +kernel))) (re_binO (opOk_bin (op_mulA en.hK) ok_mul en (tMul H T )) (n_var nm (i := 6) rfl (by decide +kernel)) (n_var nm (i := 10) rfl (by decide +kernel)))) (re_binO (opOk_bin (op_mulA en.hK) ok_mul en (tMul H T )) (n_var nm (i := 7) rfl (by decide +kernel)) (n_var nm (i := 11) rfl (by decide +kernel)))) (re_binO (opOk_bin (op_mulA en.hK) ok_mul en (tMul H T )) (n_var nm (i := 8) rfl (by decide +kernel)) (n_var nm (i := 12) rfl (by decide +kernel)))) rfl (.inl (hfn _)))
    (rs_cons (rs_set (i := 3) (nm.nd (by decide +kernel)) (nm.at rfl) (nm.loc (by decide +kernel)) (n_bin (op_sub) ok_sub (n_bin (op_addA en.hK) ok_add (n_bin (op_addA en.hK) ok_add (re_binO (opOk_bin (op_mulA en.hK) ok_mul en (tMul H T )) (n_var nm (i := 5) rfl (by decide +kernel)) (n_var nm (i := 10) rfl (by decide +kernel))) (re_binO (opOk_bin (op_mulA en.hK) ok_mul en (tMul H T )) (n_var nm (i := 6) rfl (by decide +kernel)) (n_var nm (i := 9) rfl (by decide +kernel)))) (re_binO (opOk_bin (op_mulA en.hK) ok_mul en (tMul H T )) (n_var nm (i := 7) rfl (by decide +kernel)) (n_var nm (i := 12) rfl (by decide +kernel)))) (re_binO (opOk_bin (op_mulA en.hK) ok_mul en (tMul H T )) (n_var nm (i := 8) rfl (by decide +kernel)) (n_var nm (i := 11) rfl (by decide +kernel)))) rfl (.inl (hfn _)))
    (rs_cons (rs_set (i := 4) (nm.nd (by decide +kernel)) (nm.at rfl) (nm.loc (by decide +kernel)) (n_bin (op_addA en.hK) ok_add (n_bin (op_addA en.hK) ok_add (n_bin (op_sub) ok_sub (re_binO (opOk_bin (op_mulA en.hK) ok_mul en (tMul H T )) (n_var nm (i := 5) rfl (by decide +kernel)) (n_var nm (i := 11) rfl (by decide +kernel))) (re_binO (opOk_bin (op_mulA en.hK) ok_mul en (tMul H T )) (n_var nm (i := 6) rfl (by decide +kernel)) (n_var nm (i := 12) rfl (by decide +kernel)))) (re_binO (opOk_bin (op_mulA en.hK) ok_mul en (tMul H T )) (n_var nm (i := 7) rfl (by decide +kernel)) (n_var nm (i := 9) rfl (by decide +kernel)))) (re_binO (opOk_bin (op_mulA en.hK) ok_mul en (tMul H T )) (n_var nm (i := 8) rfl (by decide +kernel)) (n_var nm (i := 10) rfl (by decide +kernel)))) rfl (.inl (hfn _)))
    (rs_one (rs_ret (n_tup (n_cons (n_var nm (i := 2) rfl (by decide +kernel)) (n_cons (n_var nm (i := 3) rfl (by decide +kernel)) (n_cons (n_var nm (i := 4) rfl (by decide +kernel)) (n_cons (n_bin (op_addA en.hK) ok_add (n_bin (op_sub) ok_sub (n_bin (op_addA en.hK) ok_add (re_binO (opOk_bin (op_mulA en.hK) ok_mul en (tMul H T )) (n_var nm (i := 5) rfl (by decide +kernel)) (n_var nm (i := 12) rfl (by decide +kernel))) (re_binO (opOk_bin (op_mulA en.hK) ok_mul en (tMul H T )) (n_var nm (i := 6) rfl (by decide +kernel)) (n_var nm (i := 11) rfl (by decide +kernel)))) (re_binO (opOk_bin (op_mulA en.hK) ok_mul en (tMul H T )) (n_var nm (i := 7) rfl (by decide +kernel)) (n_var nm (i := 10) rfl (by decide +kernel)))) (re_binO (opOk_bin (op_mulA en.hK) ok_mul en (tMul H T )) (n_var nm (i := 8) rfl (by decide +kernel)) (n_var nm (i := 9) rfl (by decide +kernel)))) (n_nil))))))))))))
theorem b19 {X : Cx} {Wx : WX} {j : Nat} (nm : Nm X N19 (defScope s19)) (en : En X (WW X.K) Wx false false (4 * j + 3)) (hfn : ∀ x, X.fn x = true) (H : Hy X.K X.mg) (T : Tab X.prog X.w X.K X.mg X.base j) : PSs X (defBody s19) (denS (WW X.K) Wx (runF j) D19) :=
  rs_one (rs_ret (re_bltF (ok_sum (W := WW X.K)) (cr_sum en.calm) (nm.gl (by decide +kernel)) (H.fr_sum ) boot_sum (n_cons (re_lcN nm en (by decide +kernel) (ri_zip en.hK (nm.gl (by decide +kernel)) (H.fr_zip ) (n_cons (n_var nm (i := 0) rfl (by decide +kernel)) (n_cons (n_var nm (i := 1) rfl (by decide +kernel)) (n_nil)))) (own := [(PySem.Str.ofString "near", 2), (PySem.Str.ofString "far", 3)]) ⟨by decide +kernel, by decide +kernel, by decide +kernel, by decide +kernel, by decide +kernel⟩ (fun s1 h1 c1 l1 p1 nm1 => .many (.cons ⟨_, _, rfl, tgN nm1 (i := 2) rfl (by decide +kernel)⟩ (.cons ⟨_, _, rfl, tgN nm1 (i := 3) rfl (by decide +kernel)⟩ .nil))) (by decide) (fun s1 h1 c1 l1 p1 nm1 en1 => re_binO (opOk_bin (op_mulA en1.hK) ok_mul en1 (tMul H T )) (n_var nm1 (i := 2) rfl (by decide +kernel)) (n_var nm1 (i := 3) rfl (by decide +kernel)))) (n_nil))))
theorem b20 {X : Cx} {Wx : WX} {j : Nat} (nm : Nm X N20 (defScope s20)) (en : En X (WW X.K) Wx false false (4 * j + 3)) (hfn : ∀ x, X.fn x = true) (H : Hy X.K X.mg) (T : Tab X.prog X.w X.K X.mg X.base j) : PSs X (defBody s20) (denS (WW X.K) Wx (runF j) D20) :=
  rs_one (rs_ret (re_bltT (ok_tuple (W := WW X.K)) (call_tuple_of) (nm.gl (by decide +kernel)) (H.fr_tuple ) boot_tuple (n_cons (re_lcN nm en (by decide +kernel) (ri_seq en.hK (n_var nm (i := 0) rfl (by decide +kernel))) (own := [(PySem.Str.ofString "top", 2)]) ⟨by decide +kernel, by decide +kernel, by decide +kernel, by decide +kernel, by decide +kernel⟩ (fun s1 h1 c1 l1 p1 nm1 => tgOne nm1 (i := 2) rfl (by decide +kernel)) (by decide) (fun s1 h1 c1 l1 p1 nm1 en1 => re_new en1 (H.mk_Ratio ) (T.r_4 ) (fun z => by cases z) (dv_Ratio H ) (nm1.gl (by decide +kernel)) (H.g_Ratio ) (n_cons (n_var nm1 (i := 2) rfl (by decide +kernel)) (n_cons (n_var nm1 (i := 1) rfl (by decide +kernel)) (n_nil))))) (n_nil))))
theorem b21 {X : Cx} {Wx : WX} {j : Nat} (nm : Nm X N21 (defScope s21)) (en : En X (WW X.K) Wx false false (4 * j + 3)) (hfn : ∀ x, X.fn x = true) (H : Hy X.K X.mg) (T : Tab X.prog X.w X.K X.mg X.base j) : PSs X (defBody s21) (denS (WW X.K) Wx (runF j) D21) :=
  rs_cons (rs_unp en.calm (nm.nd (by decide +kernel)) en.hK (.many (.cons ⟨_, _, rfl, tgN nm (i := 1) rfl (by decide +kernel)⟩ (.cons ⟨_, _, rfl, tgN nm (i := 2) rfl (by decide +kernel)⟩ .nil))) (re_call en (T.r_12 ) (fun z => by cases z) (dv_wholes H ) (nm.gl (by decide +kernel)) (H.g_wholes ) (H.k_wholes ) (n_cons (re_call en (T.r_16 ) (fun z => by cases z) (dv_want_four H ) (nm.gl (by decide +kernel)) (H.g_want_four ) (H.k_want_four ) (n_cons (n_var nm (i := 0) rfl (by decide +kernel)) (n_nil))) (n_nil))))
    (rs_one (rs_ret (re_new en (H.mk_Ratio ) (T.r_4 ) (fun z => by cases z) (dv_Ratio H ) (nm.gl (by decide +kernel)) (H.g_Ratio ) (n_cons (re_call en (T.r_19 ) (fun z => by cases z) (dv_dot H ) (nm.gl (by decide +kernel)) (H.g_dot ) (H.k_dot ) (n_cons (n_var nm (i := 2) rfl (by decide +kernel)) (n_cons (n_var nm (i := 2) rfl (by decide +kernel)) (n_nil)))) (n_cons (re_binO (opOk_bin (op_mulA en.hK) ok_mul en (tMul H T )) (n_var nm (i := 1) rfl (by decide +kernel)) (n_var nm (i := 1) rfl (by decide +kernel))) (n_nil))))))
theorem b22 {X : Cx} {Wx : WX} {j : Nat} (nm : Nm X N22 (defScope s22)) (en : En X (WW X.K) Wx false false (4 * j + 3)) (hfn : ∀ x, X.fn x = true) (H : Hy X.K X.mg) (T : Tab X.prog X.w X.K X.mg X.base j) : PSs X (defBody s22) (denS (WW X.K) Wx (runF j) D22) :=
  rs_cons (rs_setF en.hK H.c_Told rfl (nm.at (i := 0) rfl) (nm.vis (by decide +kernel)) (by decide +kernel) (by decide +kernel) (n_var nm (i := 1) rfl (by decide +kernel)))
    (rs_one (rs_setF en.hK H.c_Told rfl (nm.at (i := 0) rfl) (nm.vis (by decide +kernel)) (by decide +kernel) (by decide +kernel) (n_var nm (i := 2) rfl (by decide +kernel))))
theorem b23 {X : Cx} {Wx : WX} {j : Nat} (nm : Nm X N23 (defScope s23)) (en : En X (WW X.K) Wx false false (4 * j + 3)) (hfn : ∀ x, X.fn x = true) (H : Hy X.K X.mg) (T : Tab X.prog X.w X.K X.mg X.base j) : PSs X (defBody s23) (denS (WW X.K) Wx (runF j) D23) :=
  rs_cons (rs_set (i := 2) (nm.nd (by decide +kernel)) (nm.at rfl) (nm.loc (by decide +kernel)) (n_var nm (i := 0) rfl (by decide +kernel)) rfl (.inl (hfn _)))
    (rs_cons (rs_for en.po en.calm (nm.nd (by decide +kernel)) en.hK (tgOne nm (i := 3) rfl (by decide +kernel)) (ri_seq en.hK (n_var nm (i := 1) rfl (by decide +kernel))) (rs_cons (rs_if (rt_cmpO (opEq H T  en) (n_var nm (i := 2) rfl (by decide +kernel)) (n_int) (nomark _)) (rs_one (rs_ret (re_new en (H.mk_Told ) (T.r_22 ) (fun z => by cases z) (dv_Told H ) (nm.gl (by decide +kernel)) (H.g_Told ) (n_cons (n_var nm (i := 0) rfl (by decide +kernel)) (n_cons (re_bltT (ok_tuple (W := WW X.K)) (call_tuple_of) (nm.gl (by decide +kernel)) (H.fr_tuple ) boot_tuple (n_cons (n_var nm (i := 1) rfl (by decide +kernel)) (n_nil))) (n_nil)))))) (rs_next pss_nil))
    (rs_one (rs_set (i := 2) (nm.nd (by decide +kernel)) (nm.at rfl) (nm.loc (by decide +kernel)) (re_bltM ok_gcd cr_gcd (nm.gl (by decide +kernel)) (H.g_gcd ) (n_cons (n_var nm (i := 2) rfl (by decide +kernel)) (n_cons (n_var nm (i := 3) rfl (by decide +kernel)) (n_nil)))) rfl (.inl (hfn _))))))
    (rs_one (rs_ret (re_new en (H.mk_Told ) (T.r_22 ) (fun z => by cases z) (dv_Told H ) (nm.gl (by decide +kernel)) (H.g_Told ) (n_cons (n_bin (op_divA) ok_div (n_var nm (i := 0) rfl (by decide +kernel)) (n_var nm (i := 2) rfl (by decide +kernel))) (n_cons (re_bltT (ok_tuple (W := WW X.K)) (call_tuple_of) (nm.gl (by decide +kernel)) (H.fr_tuple ) boot_tuple (n_cons (re_lcN nm en (by decide +kernel) (ri_seq en.hK (n_var nm (i := 1) rfl (by decide +kernel))) (own := [(PySem.Str.ofString "number", 3)]) ⟨by decide +kernel, by decide +kernel, by decide +kernel, by decide +kernel, by decide +kernel⟩ (fun s1 h1 c1 l1 p1 nm1 => tgOne nm1 (i := 3) rfl (by decide +kernel)) (by decide) (fun s1 h1 c1 l1 p1 nm1 en1 => n_bin (op_divA) ok_div (n_var nm1 (i := 3) rfl (by decide +kernel)) (n_var nm1 (i := 2) rfl (by decide +kernel)))) (n_nil))) (n_nil)))))))
theorem b24 {X : Cx} {Wx : WX} {j : Nat} (nm : Nm X N24 (defScope s24)) (en : En X (WW X.K) Wx false false (4 * j + 3)) (hfn : ∀ x, X.fn x = true) (H : Hy X.K X.mg) (T : Tab X.prog X.w X.K X.mg X.base j) : PSs X (defBody s24) (denS (WW X.K) Wx (runF j) D24) :=
  rs_cons (rs_if (t_val (re_isi en.hK H.i_Told (.own _) (nm.gl (by decide +kernel)) (H.fr_isinstance ) (n_var nm (i := 0) rfl (by decide +kernel)) (pe_glob (v := .ref (clsA X.K 1)) (nm.gl (by decide +kernel)) (H.g_Told ) rfl (by decide +kernel)))) (rs_one (rs_ret (n_var nm (i := 0) rfl (by decide +kernel)))) (rs_next pss_nil))
    (rs_cons (rs_par (i := 2) (j := 3) en.calm (nm.nd (by decide +kernel)) (nm.at rfl) (nm.at rfl) (by decide) (nm.isL (by decide +kernel)) (nm.isL (by decide +kernel)) (n_cons (re_call en (T.r_16 ) (fun z => by cases z) (dv_want_four H ) (nm.gl (by decide +kernel)) (H.g_want_four ) (H.k_want_four ) (n_cons (n_var nm (i := 0) rfl (by decide +kernel)) (n_nil))) (n_cons (re_call en (T.r_16 ) (fun z => by cases z) (dv_want_four H ) (nm.gl (by decide +kernel)) (H.g_want_four ) (H.k_want_four ) (n_cons (n_var nm (i := 1) rfl (by decide +kernel)) (n_nil))) n_nil)) (swap_of (Nm.s nm) (by rfl)))
    (rs_cons (rs_unp en.calm (nm.nd (by decide +kernel)) en.hK (.many (.cons ⟨_, _, rfl, tgN nm (i := 4) rfl (by decide +kernel)⟩ (.cons ⟨_, _, rfl, tgN nm (i := 5) rfl (by decide +kernel)⟩ .nil))) (re_call en (T.r_12 ) (fun z => by cases z) (dv_wholes H ) (nm.gl (by decide +kernel)) (H.g_wholes ) (H.k_wholes ) (n_cons (n_bin (op_addA en.hK) ok_add (n_var nm (i := 2) rfl (by decide +kernel)) (n_var nm (i := 3) rfl (by decide +kernel))) (n_nil))))
    (rs_one (rs_ret (re_call en (T.r_23 ) (fun z => by cases z) (dv_lowest H ) (nm.gl (by decide +kernel)) (H.g_lowest ) (H.k_lowest ) (n_cons (n_var nm (i := 4) rfl (by decide +kernel)) (n_cons (n_var nm (i := 5) rfl (by decide +kernel)) (n_nil))))))))
theorem b25 {X : Cx} {Wx : WX} {j : Nat} (nm : Nm X N25 (defScope s25)) (en : En X (WW X.K) Wx false false (4 * j + 3)) (hfn : ∀ x, X.fn x = true) (H : Hy X.K X.mg) (T : Tab X.prog X.w X.K X.mg X.base j) : PSs X (defBody s25) (denS (WW X.K) Wx (runF j) D25) :=
  rs_cons (rs_set (i := 3) (nm.nd (by decide +kernel)) (nm.at rfl) (nm.loc (by decide +kernel)) (re_call en (T.r_24 ) (fun z => by cases z) (dv_told_eight H ) (nm.gl (by decide +kernel)) (H.g_told_eight ) (H.k_told_eight ) (n_cons (n_var nm (i := 1) rfl (by decide +kernel)) (n_cons (n_var nm (i := 2) rfl (by decide +kernel)) (n_nil)))) rfl (.inl (hfn _)))
    (rs_cons (rs_setF en.hK H.c_Eight rfl (nm.at (i := 0) rfl) (nm.vis (by decide +kernel)) (by decide +kernel) (by decide +kernel) (re_fld en.hK (f_told_bottom H ) (n_var nm (i := 3) rfl (by decide +kernel))))
    (rs_one (rs_setF en.hK H.c_Eight rfl (nm.at (i := 0) rfl) (nm.vis (by decide +kernel)) (by decide +kernel) (by decide +kernel) (re_fld en.hK (f_told_numbers H ) (n_var nm (i := 3) rfl (by decide +kernel))))))
theorem b26 {X : Cx} {Wx : WX} {j : Nat} (nm : Nm X N26 (defScope s26)) (en : En X (WW X.K) Wx false false (4 * j + 3)) (hfn : ∀ x, X.fn x = true) (H : Hy X.K X.mg) (T : Tab X.prog X.w X.K X.mg X.base j) : PSs X (defBody s26) (denS (WW X.K) Wx (runF j) D26) :=
  rs_one (rs_ret (re_call en (T.r_20 ) (fun z => by cases z) (dv_told_row H ) (nm.gl (by decide +kernel)) (H.g_told_row ) (H.k_told_row ) (n_cons (re_sl en.hK (re_fld en.hK (f_own_numbers H ) (n_var nm (i := 0) rfl (by decide +kernel))) True.intro (n_int)) (n_cons (re_fld en.hK (f_own_bottom H ) (n_var nm (i := 0) rfl (by decide +kernel))) (n_nil)))))
theorem b27 {X : Cx} {Wx : WX} {j : Nat} (nm : Nm X N27 (defScope s27)) (en : En X (WW X.K) Wx false false (4 * j + 3)) (hfn : ∀ x, X.fn x = true) (H : Hy X.K X.mg) (T : Tab X.prog X.w X.K X.mg X.base j) : PSs X (defBody s27) (denS (WW X.K) Wx (runF j) D27) :=
  rs_one (rs_ret (re_call en (T.r_35 ) (fun z => by cases z) (dv_by_ratio H ) (nm.gl (by decide +kernel)) (H.g_by_ratio ) (H.k_by_ratio ) (n_cons (n_var nm (i := 0) rfl (by decide +kernel)) (n_cons (re_call en (T.r_11 ) (fun z => by cases z) (dv_want_number H ) (nm.gl (by decide +kernel)) (H.g_want_number ) (H.k_want_number ) (n_cons (n_var nm (i := 1) rfl (by decide +kernel)) (n_nil))) (n_nil)))))
theorem b28 {X : Cx} {Wx : WX} {j : Nat} (nm : Nm X N28 (defScope s28)) (en : En X (WW X.K) Wx false false (4 * j + 3)) (hfn : ∀ x, X.fn x = true) (H : Hy X.K X.mg) (T : Tab X.prog X.w X.K X.mg X.base j) : PSs X (defBody s28) (denS (WW X.K) Wx (runF j) D28) :=
  rs_cons (rs_drop (re_call en (T.r_37 ) (fun z => by cases z) (dv_want_eight H ) (nm.gl (by decide +kernel)) (H.g_want_eight ) (H.k_want_eight ) (n_cons (n_var nm (i := 1) rfl (by decide +kernel)) (n_nil))))
    (rs_one (rs_ret (re_call en (T.r_34 ) (fun z => by cases z) (dv_product_of_eights H ) (nm.gl (by decide +kernel)) (H.g_product_of_eights ) (H.k_product_of_eights ) (n_cons (n_var nm (i := 0) rfl (by decide +kernel)) (n_cons (n_var nm (i := 1) rfl (by decide +kernel)) (n_nil))))))
theorem b29 {X : Cx} {Wx : WX} {j : Nat} (nm : Nm X N29 (defScope s29)) (en : En X (WW X.K) Wx false false (4 * j + 3)) (hfn : ∀ x, X.fn x = true) (H : Hy X.K X.mg) (T : Tab X.prog X.w X.K X.mg X.base j) : PSs X (defBody s29) (denS (WW X.K) Wx (runF j) D29) :=
  rs_cons (rs_if (t_not (t_val (re_isi en.hK H.i_Eight (.own _) (nm.gl (by decide +kernel)) (H.fr_isinstance ) (n_var nm (i := 1) rfl (by decide +kernel)) (pe_glob (v := .ref (clsA X.K 2)) (nm.gl (by decide +kernel)) (H.g_Eight ) rfl (by decide +kernel))))) (rs_one (rs_ret (n_bl))) (rs_next pss_nil))
    (rs_one (rs_ret (n_and (re_cmpO (opEq H T  en) (re_fld en.hK (f_own_bottom H ) (n_var nm (i := 0) rfl (by decide +kernel))) (re_fld en.hK (f_own_bottom H ) (n_var nm (i := 1) rfl (by decide +kernel))) (nomark _)) (n_one (re_cmpO (opEq H T  en) (re_fld en.hK (f_own_numbers H ) (n_var nm (i := 0) rfl (by decide +kernel))) (re_fld en.hK (f_own_numbers H ) (n_var nm (i := 1) rfl (by decide +kernel))) (nomark _))))))
theorem b30 {X : Cx} {Wx : WX} {j : Nat} (nm : Nm X N30 (defScope s30)) (en : En X (WW X.K) Wx false false (4 * j + 3)) (hfn : ∀ x, X.fn x = true) (H : Hy X.K X.mg) (T : Tab X.prog X.w X.K X.mg X.base j) : PSs X (defBody s30) (denS (WW X.K) Wx (runF j) D30) :=
  rs_cons (rs_par (i := 1) (j := 2) en.calm (nm.nd (by decide +kernel)) (nm.at rfl) (nm.at rfl) (by decide) (nm.isL (by decide +kernel)) (nm.isL (by decide +kernel)) (n_cons (re_sl en.hK (re_fld en.hK (f_own_numbers H ) (n_var nm (i := 0) rfl (by decide +kernel))) True.intro (n_int)) (n_cons (re_sl en.hK (re_fld en.hK (f_own_numbers H ) (n_var nm (i := 0) rfl (by decide +kernel))) (n_int) True.intro) n_nil)) (swap_of (Nm.s nm) (by rfl)))
    (rs_one (rs_ret (re_joined (ds := [dC (.str (PySem.Str.ofString "Eight(")), dUn fmtE (dCallD 31 [] (dArgs [dVar 1, dUn (fldE F_own_bottom) (dVar 0)])), dC (.str (PySem.Str.ofString ", ")), dUn fmtE (dCallD 31 [] (dArgs [dVar 2, dUn (fldE F_own_bottom) (dVar 0)])), dC (.str (PySem.Str.ofString ")"))]) (.cons (n_str) (.cons (re_fmt (re_call en (T.r_31 ) (fun z => by cases z) (dv_four_text H ) (nm.gl (by decide +kernel)) (H.g_four_text ) (H.k_four_text ) (n_cons (n_var nm (i := 1) rfl (by decide +kernel)) (n_cons (re_fld en.hK (f_own_bottom H ) (n_var nm (i := 0) rfl (by decide +kernel))) (n_nil))))) (.cons (n_str) (.cons (re_fmt (re_call en (T.r_31 ) (fun z => by cases z) (dv_four_text H ) (nm.gl (by decide +kernel)) (H.g_four_text ) (H.k_four_text ) (n_cons (n_var nm (i := 2) rfl (by decide +kernel)) (n_cons (re_fld en.hK (f_own_bottom H ) (n_var nm (i := 0) rfl (by decide +kernel))) (n_nil))))) (.cons (n_str) .nil))))))))
theorem b31 {X : Cx} {Wx : WX} {j : Nat} (nm : Nm X N31 (defScope s31)) (en : En X (WW X.K) Wx false false (4 * j + 3)) (hfn : ∀ x, X.fn x = true) (H : Hy X.K X.mg) (T : Tab X.prog X.w X.K X.mg X.base j) : PSs X (defBody s31) (denS (WW X.K) Wx (runF j) D31) :=
  rs_one (rs_ret (n_bin (op_addA en.hK) ok_add (n_bin (op_addA en.hK) ok_add (n_str) (re_join en.hK (n_str) (re_lcN nm en (by decide +kernel) (ri_seq en.hK (re_call en (T.r_20 ) (fun z => by cases z) (dv_told_row H ) (nm.gl (by decide +kernel)) (H.g_told_row ) (H.k_told_row ) (n_cons (n_var nm (i := 0) rfl (by decide +kernel)) (n_cons (n_var nm (i := 1) rfl (by decide +kernel)) (n_nil))))) (own := [(PySem.Str.ofString "number", 2)]) ⟨by decide +kernel, by decide +kernel, by decide +kernel, by decide +kernel, by decide +kernel⟩ (fun s1 h1 c1 l1 p1 nm1 => tgOne nm1 (i := 2) rfl (by decide +kernel)) (by decide) (fun s1 h1 c1 l1 p1 nm1 en1 => re_str en1 (tStr H T ) (nm1.gl (by decide +kernel)) (H.fr_str ) (n_cons (n_var nm1 (i := 2) rfl (by decide +kernel)) (n_nil)))))) (n_str)))
theorem b32 {X : Cx} {Wx : WX} {j : Nat} (nm : Nm X N32 (defScope s32)) (en : En X (WW X.K) Wx false false (4 * j + 3)) (hfn : ∀ x, X.fn x = true) (H : Hy X.K X.mg) (T : Tab X.prog X.w X.K X.mg X.base j) : PSs X (defBody s32) (denS (WW X.K) Wx (runF j) D32) :=
  rs_one (rs_ret (re_new en (H.mk_Eight ) (T.r_25d1 ) (fun z => by cases z) (dv_Eightd1 H ) (nm.gl (by decide +kernel)) (H.g_Eight ) (n_cons (re_call en (T.r_23 ) (fun z => by cases z) (dv_lowest H ) (nm.gl (by decide +kernel)) (H.g_lowest ) (H.k_lowest ) (n_cons (n_var nm (i := 0) rfl (by decide +kernel)) (n_cons (n_var nm (i := 1) rfl (by decide +kernel)) (n_nil)))) (n_nil))))
theorem b33 {X : Cx} {Wx : WX} {j : Nat} (nm : Nm X N33 (defScope s33)) (en : En X (WW X.K) Wx false false (4 * j + 3)) (hfn : ∀ x, X.fn x = true) (H : Hy X.K X.mg) (T : Tab X.prog X.w X.K X.mg X.base j) : PSs X (defBody s33) (denS (WW X.K) Wx (runF j) D33) :=
  rs_cons (rs_unp en.calm (nm.nd (by decide +kernel)) en.hK (.many (.cons ⟨_, _, rfl, tgN nm (i := 2) rfl (by decide +kernel)⟩ (.cons ⟨_, _, rfl, tgN nm (i := 3) rfl (by decide +kernel)⟩ (.cons ⟨_, _, rfl, tgN nm (i := 4) rfl (by decide +kernel)⟩ (.cons ⟨_, _, rfl, tgN nm (i := 5) rfl (by decide +kernel)⟩ .nil))))) (n_tup (n_cons (re_sl en.hK (n_var nm (i := 0) rfl (by decide +kernel)) True.intro (n_int)) (n_cons (re_sl en.hK (n_var nm (i := 0) rfl (by decide +kernel)) (n_int) True.intro) (n_cons (re_sl en.hK (n_var nm (i := 1) rfl (by decide +kernel)) True.intro (n_int)) (n_cons (re_sl en.hK (n_var nm (i := 1) rfl (by decide +kernel)) (n_int) True.intro) (n_nil)))))))
    (rs_cons (rs_par (i := 6) (j := 7) en.calm (nm.nd (by decide +kernel)) (nm.at rfl) (nm.at rfl) (by decide) (nm.isL (by decide +kernel)) (nm.isL (by decide +kernel)) (n_cons (re_call en (T.r_18 ) (fun z => by cases z) (dv_four_product H ) (nm.gl (by decide +kernel)) (H.g_four_product ) (H.k_four_product ) (n_cons (n_var nm (i := 2) rfl (by decide +kernel)) (n_cons (n_var nm (i := 5) rfl (by decide +kernel)) (n_nil)))) (n_cons (re_call en (T.r_18 ) (fun z => by cases z) (dv_four_product H ) (nm.gl (by decide +kernel)) (H.g_four_product ) (H.k_four_product ) (n_cons (n_var nm (i := 3) rfl (by decide +kernel)) (n_cons (n_var nm (i := 4) rfl (by decide +kernel)) (n_nil)))) n_nil)) (swap_of (Nm.s nm) (by rfl)))
    (rs_one (rs_ret (n_bin (op_addA en.hK) ok_add (re_call en (T.r_18 ) (fun z => by cases z) (dv_four_product H ) (nm.gl (by decide +kernel)) (H.g_four_product ) (H.k_four_product ) (n_cons (n_var nm (i := 2) rfl (by decide +kernel)) (n_cons (n_var nm (i := 4) rfl (by decide +kernel)) (n_nil)))) (re_bltT (ok_tuple (W := WW X.K)) (call_tuple_of) (nm.gl (by decide +kernel)) (H.fr_tuple ) boot_tuple (n_cons (re_lcN nm en (by decide +kernel) (ri_zip en.hK (nm.gl (by decide +kernel)) (H.fr_zip ) (n_cons (n_var nm (i := 6) rfl (by decide +kernel)) (n_cons (n_var nm (i := 7) rfl (by decide +kernel)) (n_nil)))) (own := [(PySem.Str.ofString "number", 8), (PySem.Str.ofString "more", 9)]) ⟨by decide +kernel, by decide +kernel, by decide +kernel, by decide +kernel, by decide +kernel⟩ (fun s1 h1 c1 l1 p1 nm1 => .many (.cons ⟨_, _, rfl, tgN nm1 (i := 8) rfl (by decide +kernel)⟩ (.cons ⟨_, _, rfl, tgN nm1 (i := 9) rfl (by decide +kernel)⟩ .nil))) (by decide) (fun s1 h1 c1 l1 p1 nm1 en1 => n_bin (op_addA en1.hK) ok_add (n_var nm1 (i := 8) rfl (by decide +kernel)) (n_var nm1 (i := 9) rfl (by decide +kernel)))) (n_nil)))))))
theorem b34 {X : Cx} {Wx : WX} {j : Nat} (nm : Nm X N34 (defScope s34)) (en : En X (WW X.K) Wx false false (4 * j + 3)) (hfn : ∀ x, X.fn x = true) (H : Hy X.K X.mg) (T : Tab X.prog X.w X.K X.mg X.base j) : PSs X (defBody s34) (denS (WW X.K) Wx (runF j) D34) :=
  rs_one (rs_ret (re_call en (T.r_32 ) (fun z => by cases z) (dv_eight_by H ) (nm.gl (by decide +kernel)) (H.g_eight_by ) (H.k_eight_by ) (n_cons (re_binO (opOk_bin (op_mulA en.hK) ok_mul en (tMul H T )) (re_fld en.hK (f_own_bottom H ) (n_var nm (i := 0) rfl (by decide +kernel))) (re_fld en.hK (f_own_bottom H ) (n_var nm (i := 1) rfl (by decide +kernel)))) (n_cons (re_call en (T.r_33 ) (fun z => by cases z) (dv_numbers_product H ) (nm.gl (by decide +kernel)) (H.g_numbers_product ) (H.k_numbers_product ) (n_cons (re_fld en.hK (f_own_numbers H ) (n_var nm (i := 0) rfl (by decide +kernel))) (n_cons (re_fld en.hK (f_own_numbers H ) (n_var nm (i := 1) rfl (by decide +kernel))) (n_nil)))) (n_nil)))))
theorem b35 {X : Cx} {Wx : WX} {j : Nat} (nm : Nm X N35 (defScope s35)) (en : En X (WW X.K) Wx false false (4 * j + 3)) (hfn : ∀ x, X.fn x = true) (H : Hy X.K X.mg) (T : Tab X.prog X.w X.K X.mg X.base j) : PSs X (defBody s35) (denS (WW X.K) Wx (runF j) D35) :=
  rs_one (rs_ret (re_call en (T.r_32 ) (fun z => by cases z) (dv_eight_by H ) (nm.gl (by decide +kernel)) (H.g_eight_by ) (H.k_eight_by ) (n_cons (re_binO (opOk_bin (op_mulA en.hK) ok_mul en (tMul H T )) (re_fld en.hK (f_own_bottom H ) (n_var nm (i := 0) rfl (by decide +kernel))) (re_fld en.hK (f_own_bottom H ) (n_var nm (i := 1) rfl (by decide +kernel)))) (n_cons (re_lcN nm en (by decide +kernel) (ri_seq en.hK (re_fld en.hK (f_own_numbers H ) (n_var nm (i := 0) rfl (by decide +kernel)))) (own := [(PySem.Str.ofString "number", 2)]) ⟨by decide +kernel, by decide +kernel, by decide +kernel, by decide +kernel, by decide +kernel⟩ (fun s1 h1 c1 l1 p1 nm1 => tgOne nm1 (i := 2) rfl (by decide +kernel)) (by decide) (fun s1 h1 c1 l1 p1 nm1 en1 => re_binO (opOk_bin (op_mulA en1.hK) ok_mul en1 (tMul H T )) (n_var nm1 (i := 2) rfl (by decide +kernel)) (re_fld en1.hK (f_own_top H ) (n_var nm1 (i := 1) rfl (by decide +kernel))))) (n_nil)))))
theorem b36 {X : Cx} {Wx : WX} {j : Nat} (nm : Nm X N36 (defScope s36)) (en : En X (WW X.K) Wx false false (4 * j + 3)) (hfn : ∀ x, X.fn x = true) (H : Hy X.K X.mg) (T : Tab X.prog X.w X.K X.mg X.base j) : PSs X (defBody s36) (denS (WW X.K) Wx (runF j) D36) :=
  rs_one (rs_ret (n_and (re_cmpO (opNe H T  en) (re_sl en.hK (n_var nm (i := 0) rfl (by decide +kernel)) True.intro (n_int)) (g_NOUGHT H en.hK (nm.gl (by decide +kernel))) (nomark _)) (n_one (re_cmpO (opEq H T  en) (re_call en (T.r_19 ) (fun z => by cases z) (dv_dot H ) (nm.gl (by decide +kernel)) (H.g_dot ) (H.k_dot ) (n_cons (re_sl en.hK (n_var nm (i := 0) rfl (by decide +kernel)) True.intro (n_int)) (n_cons (re_sl en.hK (n_var nm (i := 0) rfl (by decide +kernel)) (n_int) True.intro) (n_nil)))) (n_int) (nomark _)))))
theorem b37 {X : Cx} {Wx : WX} {j : Nat} (nm : Nm X N37 (defScope s37)) (en : En X (WW X.K) Wx false false (4 * j + 3)) (hfn : ∀ x, X.fn x = true) (H : Hy X.K X.mg) (T : Tab X.prog X.w X.K X.mg X.base j) : PSs X (defBody s37) (denS (WW X.K) Wx (runF j) D37) :=
  rs_one (rs_if (t_not (t_val (re_isi en.hK H.i_Eight (.own _) (nm.gl (by decide +kernel)) (H.fr_isinstance ) (n_var nm (i := 0) rfl (by decide +kernel)) (pe_glob (v := .ref (clsA X.K 2)) (nm.gl (by decide +kernel)) (H.g_Eight ) rfl (by decide +kernel))))) (rs_one (rs_never)) (rs_next pss_nil))
theorem b38 {X : Cx} {Wx : WX} {j : Nat} (nm : Nm X N38 (defScope s38)) (en : En X (WW X.K) Wx false false (4 * j + 3)) (hfn : ∀ x, X.fn x = true) (H : Hy X.K X.mg) (T : Tab X.prog X.w X.K X.mg X.base j) : PSs X (defBody s38) (denS (WW X.K) Wx (runF j) D38) :=
  rs_one (rs_ret (n_and (re_isi en.hK H.i_Eight (.own _) (nm.gl (by decide +kernel)) (H.fr_isinstance ) (n_var nm (i := 0) rfl (by decide +kernel)) (pe_glob (v := .ref (clsA X.K 2)) (nm.gl (by decide +kernel)) (H.g_Eight ) rfl (by decide +kernel))) (n_one (re_call en (T.r_36 ) (fun z => by cases z) (dv_are_pose H ) (nm.gl (by decide +kernel)) (H.g_are_pose ) (H.k_are_pose ) (n_cons (re_fld en.hK (f_own_numbers H ) (n_var nm (i := 0) rfl (by decide +kernel))) (n_nil))))))
theorem b39 {X : Cx} {Wx : WX} {j : Nat} (nm : Nm X N39 (defScope s39)) (en : En X (WW X.K) Wx false false (4 * j + 3)) (hfn : ∀ x, X.fn x = true) (H : Hy X.K X.mg) (T : Tab X.prog X.w X.K X.mg X.base j) : PSs X (defBody s39) (denS (WW X.K) Wx (runF j) D39) :=
  rs_one (rs_if (t_not (t_val (re_call en (T.r_38 ) (fun z => by cases z) (dv_is_pose_eight H ) (nm.gl (by decide +kernel)) (H.g_is_pose_eight ) (H.k_is_pose_eight ) (n_cons (n_var nm (i := 0) rfl (by decide +kernel)) (n_nil))))) (rs_one (rs_never)) (rs_next pss_nil))
theorem b40 {X : Cx} {Wx : WX} {j : Nat} (nm : Nm X N40 (defScope s40)) (en : En X (WW X.K) Wx false false (4 * j + 3)) (hfn : ∀ x, X.fn x = true) (H : Hy X.K X.mg) (T : Tab X.prog X.w X.K X.mg X.base j) : PSs X (defBody s40) (denS (WW X.K) Wx (runF j) D40) :=
  rs_cons (rs_unp en.calm (nm.nd (by decide +kernel)) en.hK (.many (.cons ⟨_, _, rfl, tgN nm (i := 1) rfl (by decide +kernel)⟩ (.cons ⟨_, _, rfl, tgN nm (i := 2) rfl (by decide +kernel)⟩ .nil))) (re_call en (T.r_12 ) (fun z => by cases z) (dv_wholes H ) (nm.gl (by decide +kernel)) (H.g_wholes ) (H.k_wholes ) (n_cons (re_call en (T.r_16 ) (fun z => by cases z) (dv_want_four H ) (nm.gl (by decide +kernel)) (H.g_want_four ) (H.k_want_four ) (n_cons (n_var nm (i := 0) rfl (by decide +kernel)) (n_nil))) (n_nil))))
    (rs_cons (rs_if (rt_cmpO (opEq H T  en) (re_bltT (ok_tuple (W := WW X.K)) (call_tuple_of) (nm.gl (by decide +kernel)) (H.fr_tuple ) boot_tuple (n_cons (n_var nm (i := 2) rfl (by decide +kernel)) (n_nil))) (g_NOUGHT H en.hK (nm.gl (by decide +kernel))) (nomark _)) (rs_one (rs_never)) (rs_next pss_nil))
    (rs_one (rs_ret (re_call en (T.r_32 ) (fun z => by cases z) (dv_eight_by H ) (nm.gl (by decide +kernel)) (H.g_eight_by ) (H.k_eight_by ) (n_cons (n_var nm (i := 1) rfl (by decide +kernel)) (n_cons (n_bin (op_addA en.hK) ok_add (re_bltT (ok_tuple (W := WW X.K)) (call_tuple_of) (nm.gl (by decide +kernel)) (H.fr_tuple ) boot_tuple (n_cons (n_var nm (i := 2) rfl (by decide +kernel)) (n_nil))) (g_NOUGHT H en.hK (nm.gl (by decide +kernel)))) (n_nil)))))))
theorem b41 {X : Cx} {Wx : WX} {j : Nat} (nm : Nm X N41 (defScope s41)) (en : En X (WW X.K) Wx false false (4 * j + 3)) (hfn : ∀ x, X.fn x = true) (H : Hy X.K X.mg) (T : Tab X.prog X.w X.K X.mg X.base j) : PSs X (defBody s41) (denS (WW X.K) Wx (runF j) D41) :=
  rs_cons (rs_unp en.calm (nm.nd (by decide +kernel)) en.hK (.many (.cons ⟨_, _, rfl, tgN nm (i := 1) rfl (by decide +kernel)⟩ (.cons ⟨_, _, rfl, tgN nm (i := 2) rfl (by decide +kernel)⟩ .nil))) (re_call en (T.r_12 ) (fun z => by cases z) (dv_wholes H ) (nm.gl (by decide +kernel)) (H.g_wholes ) (H.k_wholes ) (n_cons (re_call en (T.r_17 ) (fun z => by cases z) (dv_want_point H ) (nm.gl (by decide +kernel)) (H.g_want_point ) (H.k_want_point ) (n_cons (n_var nm (i := 0) rfl (by decide +kernel)) (n_nil))) (n_nil))))
    (rs_one (rs_ret (re_call en (T.r_32 ) (fun z => by cases z) (dv_eight_by H ) (nm.gl (by decide +kernel)) (H.g_eight_by ) (H.k_eight_by ) (n_cons (re_binO (opOk_bin (op_mulA en.hK) ok_mul en (tMul H T )) (n_int) (n_var nm (i := 1) rfl (by decide +kernel))) (n_cons (n_bin (op_addA en.hK) ok_add (n_tup (n_cons (re_binO (opOk_bin (op_mulA en.hK) ok_mul en (tMul H T )) (n_int) (n_var nm (i := 1) rfl (by decide +kernel))) (n_cons (n_int) (n_cons (n_int) (n_cons (n_int) (n_cons (n_int) (n_nil))))))) (re_bltT (ok_tuple (W := WW X.K)) (call_tuple_of) (nm.gl (by decide +kernel)) (H.fr_tuple ) boot_tuple (n_cons (n_var nm (i := 2) rfl (by decide +kernel)) (n_nil)))) (n_nil))))))
theorem b42 {X : Cx} {Wx : WX} {j : Nat} (nm : Nm X N42 (defScope s42)) (en : En X (WW X.K) Wx false false (4 * j + 3)) (hfn : ∀ x, X.fn x = true) (H : Hy X.K X.mg) (T : Tab X.prog X.w X.K X.mg X.base j) : PSs X (defBody s42) (denS (WW X.K) Wx (runF j) D42) :=
  rs_cons (rs_par (i := 2) (j := 3) en.calm (nm.nd (by decide +kernel)) (nm.at rfl) (nm.at rfl) (by decide) (nm.isL (by decide +kernel)) (nm.isL (by decide +kernel)) (n_cons (re_fld en.hK (f_own_numbers H ) (n_var nm (i := 0) rfl (by decide +kernel))) (n_cons (re_fld en.hK (f_own_numbers H ) (n_var nm (i := 1) rfl (by decide +kernel))) n_nil)) (swap_of (Nm.s nm) (by rfl)))
    (rs_one (rs_ret (re_new en (H.mk_Ratio ) (T.r_4 ) (fun z => by cases z) (dv_Ratio H ) (nm.gl (by decide +kernel)) (H.g_Ratio ) (n_cons (n_bin (op_addA en.hK) ok_add (re_call en (T.r_19 ) (fun z => by cases z) (dv_dot H ) (nm.gl (by decide +kernel)) (H.g_dot ) (H.k_dot ) (n_cons (re_sl en.hK (n_var nm (i := 2) rfl (by decide +kernel)) True.intro (n_int)) (n_cons (re_sl en.hK (n_var nm (i := 3) rfl (by decide +kernel)) (n_int) True.intro) (n_nil)))) (re_call en (T.r_19 ) (fun z => by cases z) (dv_dot H ) (nm.gl (by decide +kernel)) (H.g_dot ) (H.k_dot ) (n_cons (re_sl en.hK (n_var nm (i := 2) rfl (by decide +kernel)) (n_int) True.intro) (n_cons (re_sl en.hK (n_var nm (i := 3) rfl (by decide +kernel)) True.intro (n_int)) (n_nil))))) (n_cons (re_binO (opOk_bin (op_mulA en.hK) ok_mul en (tMul H T )) (re_fld en.hK (f_own_bottom H ) (n_var nm (i := 0) rfl (by decide +kernel))) (re_fld en.hK (f_own_bottom H ) (n_var nm (i := 1) rfl (by decide +kernel)))) (n_nil))))))
theorem b43 {X : Cx} {Wx : WX} {j : Nat} (nm : Nm X N43 (defScope s43)) (en : En X (WW X.K) Wx false false (4 * j + 3)) (hfn : ∀ x, X.fn x = true) (H : Hy X.K X.mg) (T : Tab X.prog X.w X.K X.mg X.base j) : PSs X (defBody s43) (denS (WW X.K) Wx (runF j) D43) :=
  rs_cons (rs_drop (re_call en (T.r_39 ) (fun z => by cases z) (dv_want_pose H ) (nm.gl (by decide +kernel)) (H.g_want_pose ) (H.k_want_pose ) (n_cons (n_var nm (i := 0) rfl (by decide +kernel)) (n_nil))))
    (rs_cons (rs_drop (re_call en (T.r_39 ) (fun z => by cases z) (dv_want_pose H ) (nm.gl (by decide +kernel)) (H.g_want_pose ) (H.k_want_pose ) (n_cons (n_var nm (i := 1) rfl (by decide +kernel)) (n_nil))))
    (rs_one (rs_ret (re_call en (T.r_42 ) (fun z => by cases z) (dv_between_of H ) (nm.gl (by decide +kernel)) (H.g_between_of ) (H.k_between_of ) (n_cons (n_var nm (i := 0) rfl (by decide +kernel)) (n_cons (n_var nm (i := 1) rfl (by decide +kernel)) (n_nil)))))))
theorem b44 {X : Cx} {Wx : WX} {j : Nat} (nm : Nm X N44 (defScope s44)) (en : En X (WW X.K) Wx false false (4 * j + 3)) (hfn : ∀ x, X.fn x = true) (H : Hy X.K X.mg) (T : Tab X.prog X.w X.K X.mg X.base j) : PSs X (defBody s44) (denS (WW X.K) Wx (runF j) D44) :=
  rs_one (rs_ret (n_ix en.hK (n_var nm (i := 1) rfl (by decide +kernel)) (re_call en (T.r_58 ) (fun z => by cases z) (dv__law_draw H ) (nm.gl (by decide +kernel)) (H.g__law_draw ) (H.k__law_draw ) (n_cons (n_var nm (i := 0) rfl (by decide +kernel)) (n_cons (re_bltF (ok_len (W := WW X.K)) (call_len) (nm.gl (by decide +kernel)) (H.fr_len ) boot_len (n_cons (n_var nm (i := 1) rfl (by decide +kernel)) (n_nil))) (n_nil))))))
theorem b45 {X : Cx} {Wx : WX} {j : Nat} (nm : Nm X N45 (defScope s45)) (en : En X (WW X.K) Wx false false (4 * j + 3)) (hfn : ∀ x, X.fn x = true) (H : Hy X.K X.mg) (T : Tab X.prog X.w X.K X.mg X.base j) : PSs X (defBody s45) (denS (WW X.K) Wx (runF j) D45) :=
  rs_cons (rs_unp en.calm (nm.nd (by decide +kernel)) en.hK (.many (.cons ⟨_, _, rfl, tgN nm (i := 2) rfl (by decide +kernel)⟩ (.cons ⟨_, _, rfl, tgN nm (i := 3) rfl (by decide +kernel)⟩ (.cons ⟨_, _, rfl, tgN nm (i := 4) rfl (by decide +kernel)⟩ (.cons ⟨_, _, rfl, tgN nm (i := 5) rfl (by decide +kernel)⟩ .nil))))) (n_var nm (i := 0) rfl (by decide +kernel)))
    (rs_cons (rs_unp en.calm (nm.nd (by decide +kernel)) en.hK (.many (.cons ⟨_, _, rfl, tgN nm (i := 6) rfl (by decide +kernel)⟩ (.cons ⟨_, _, rfl, tgN nm (i := 7) rfl (by decide +kernel)⟩ (.cons ⟨_, _, rfl, tgN nm (i := 8) rfl (by decide +kernel)⟩ (.cons ⟨_, _, rfl, tgN nm (i := 9) rfl (by decide +kernel)⟩ .nil))))) (n_var nm (i := 1) rfl (by decide +kernel)))
    (rs_one (rs_ret (n_tup (n_cons (n_bin (op_sub) ok_sub (n_bin (op_sub) ok_sub (n_bin (op_sub) ok_sub (re_binO (opOk_bin (op_mulA en.hK) ok_mul en (tMul H T )) (n_var nm (i := 2) rfl (by decide +kernel)) (n_var nm (i := 6) rfl (by decide +kernel))) (re_binO (opOk_bin (op_mulA en.hK) ok_mul en (tMul H T )) (n_var nm (i := 3) rfl (by decide +kernel)) (n_var nm (i := 7) rfl (by decide +kernel)))) (re_binO (opOk_bin (op_mulA en.hK) ok_mul en (tMul H T )) (n_var nm (i := 4) rfl (by decide +kernel)) (n_var nm (i := 8) rfl (by decide +kernel)))) (re_binO (opOk_bin (op_mulA en.hK) ok_mul en (tMul H T )) (n_var nm (i := 5) rfl (by decide +kernel)) (n_var nm (i := 9) rfl (by decide +kernel)))) (n_cons (n_bin (op_sub) ok_sub (n_bin (op_addA en.hK) ok_add (n_bin (op_addA en.hK) ok_add (re_binO (opOk_bin (op_mulA en.hK) ok_mul en (tMul H T )) (n_var nm (i := 2) rfl (by decide +kernel)) (n_var nm (i := 7) rfl (by decide +kernel))) (re_binO (opOk_bin (op_mulA en.hK) ok_mul en (tMul H T )) (n_var nm (i := 3) rfl (by decide +kernel)) (n_var nm (i := 6) rfl (by decide +kernel)))) (re_binO (opOk_bin (op_mulA en.hK) ok_mul en (tMul H T )) (n_var nm (i := 4) rfl (by decide +kernel)) (n_var nm (i := 9) rfl (by decide +kernel)))) (re_binO (opOk_bin (op_mulA en.hK) ok_mul en (tMul H T )) (n_var nm (i := 5) rfl (by decide +kernel)) (n_var nm (i := 8) rfl (by decide +kernel)))) (n_cons (n_bin (op_addA en.hK) ok_add (n_bin (op_addA en.hK) ok_add (n_bin (op_sub) ok_sub (re_binO (opOk_bin (op_mulA en.hK) ok_mul en (tMul H T )) (n_var nm (i := 2) rfl (by decide +kernel)) (n_var nm (i := 8) rfl (by decide +kernel))) (re_binO (opOk_bin (op_mulA en.hK) ok_mul en (tMul H T )) (n_var nm (i := 3) rfl (by decide +kernel)) (n_var nm (i := 9) rfl (by decide +kernel)))) (re_binO (opOk_bin (op_mulA en.hK) ok_mul en (tMul H T )) (n_var nm (i := 4) rfl (by decide +kernel)) (n_var nm (i := 6) rfl (by decide +kernel)))) (re_binO (opOk_bin (op_mulA en.hK) ok_mul en (tMul H T )) (n_var nm (i := 5) rfl (by decide +kernel)) (n_var nm (i := 7) rfl (by decide +kernel)))) (n_cons (n_bin (op_addA en.hK) ok_add (n_bin (op_sub) ok_sub (n_bin (op_addA en.hK) ok_add (re_binO (opOk_bin (op_mulA en.hK) ok_mul en (tMul H T )) (n_var nm (i := 2) rfl (by decide +kernel)) (n_var nm (i := 9) rfl (by decide +kernel))) (re_binO (opOk_bin (op_mulA en.hK) ok_mul en (tMul H T )) (n_var nm (i := 3) rfl (by decide +kernel)) (n_var nm (i := 8) rfl (by decide +kernel)))) (re_binO (opOk_bin (op_mulA en.hK) ok_mul en (tMul H T )) (n_var nm (i := 4) rfl (by decide +kernel)) (n_var nm (i := 7) rfl (by decide +kernel)))) (re_binO (opOk_bin (op_mulA en.hK) ok_mul en (tMul H T )) (n_var nm (i := 5) rfl (by decide +kernel)) (n_var nm (i := 6) rfl (by decide +kernel)))) (n_nil)))))))))
theorem b46 {X : Cx} {Wx : WX} {j : Nat} (nm : Nm X N46 (defScope s46)) (en : En X (WW X.K) Wx false false (4 * j + 3)) (hfn : ∀ x, X.fn x = true) (H : Hy X.K X.mg) (T : Tab X.prog X.w X.K X.mg X.base j) : PSs X (defBody s46) (denS (WW X.K) Wx (runF j) D46) :=
  rs_one (rs_ret (re_bltT (ok_tuple (W := WW X.K)) (call_tuple_of) (nm.gl (by decide +kernel)) (H.fr_tuple ) boot_tuple (n_cons (re_lcN nm en (by decide +kernel) (ri_zip en.hK (nm.gl (by decide +kernel)) (H.fr_zip ) (n_cons (n_var nm (i := 0) rfl (by decide +kernel)) (n_cons (n_var nm (i := 1) rfl (by decide +kernel)) (n_nil)))) (own := [(PySem.Str.ofString "near", 2), (PySem.Str.ofString "far", 3)]) ⟨by decide +kernel, by decide +kernel, by decide +kernel, by decide +kernel, by decide +kernel⟩ (fun s1 h1 c1 l1 p1 nm1 => .many (.cons ⟨_, _, rfl, tgN nm1 (i := 2) rfl (by decide +kernel)⟩ (.cons ⟨_, _, rfl, tgN nm1 (i := 3) rfl (by decide +kernel)⟩ .nil))) (by decide) (fun s1 h1 c1 l1 p1 nm1 en1 => n_bin (op_addA en1.hK) ok_add (n_var nm1 (i := 2) rfl (by decide +kernel)) (n_var nm1 (i := 3) rfl (by decide +kernel)))) (n_nil))))
theorem b47 {X : Cx} {Wx : WX} {j : Nat} (nm : Nm X N47 (defScope s47)) (en : En X (WW X.K) Wx false false (4 * j + 3)) (hfn : ∀ x, X.fn x = true) (H : Hy X.K X.mg) (T : Tab X.prog X.w X.K X.mg X.base j) : PSs X (defBody s47) (denS (WW X.K) Wx (runF j) D47) :=
  rs_one (rs_ret (re_bltT (ok_tuple (W := WW X.K)) (call_tuple_of) (nm.gl (by decide +kernel)) (H.fr_tuple ) boot_tuple (n_cons (re_lcN nm en (by decide +kernel) (ri_seq en.hK (n_var nm (i := 0) rfl (by decide +kernel))) (own := [(PySem.Str.ofString "entry", 2)]) ⟨by decide +kernel, by decide +kernel, by decide +kernel, by decide +kernel, by decide +kernel⟩ (fun s1 h1 c1 l1 p1 nm1 => tgOne nm1 (i := 2) rfl (by decide +kernel)) (by decide) (fun s1 h1 c1 l1 p1 nm1 en1 => re_binO (opOk_bin (op_mulA en1.hK) ok_mul en1 (tMul H T )) (n_var nm1 (i := 2) rfl (by decide +kernel)) (n_var nm1 (i := 1) rfl (by decide +kernel)))) (n_nil))))
theorem b48 {X : Cx} {Wx : WX} {j : Nat} (nm : Nm X N48 (defScope s48)) (en : En X (WW X.K) Wx false false (4 * j + 3)) (hfn : ∀ x, X.fn x = true) (H : Hy X.K X.mg) (T : Tab X.prog X.w X.K X.mg X.base j) : PSs X (defBody s48) (denS (WW X.K) Wx (runF j) D48) :=
  rs_one (rs_ret (n_bin (op_addA en.hK) ok_add (re_call en (T.r_45 ) (fun z => by cases z) (dv__law_four H ) (nm.gl (by decide +kernel)) (H.g__law_four ) (H.k__law_four ) (n_cons (re_sl en.hK (n_var nm (i := 0) rfl (by decide +kernel)) True.intro (n_int)) (n_cons (re_sl en.hK (n_var nm (i := 1) rfl (by decide +kernel)) True.intro (n_int)) (n_nil)))) (re_call en (T.r_46 ) (fun z => by cases z) (dv__law_plus H ) (nm.gl (by decide +kernel)) (H.g__law_plus ) (H.k__law_plus ) (n_cons (re_call en (T.r_45 ) (fun z => by cases z) (dv__law_four H ) (nm.gl (by decide +kernel)) (H.g__law_four ) (H.k__law_four ) (n_cons (re_sl en.hK (n_var nm (i := 0) rfl (by decide +kernel)) True.intro (n_int)) (n_cons (re_sl en.hK (n_var nm (i := 1) rfl (by decide +kernel)) (n_int) True.intro) (n_nil)))) (n_cons (re_call en (T.r_45 ) (fun z => by cases z) (dv__law_four H ) (nm.gl (by decide +kernel)) (H.g__law_four ) (H.k__law_four ) (n_cons (re_sl en.hK (n_var nm (i := 0) rfl (by decide +kernel)) (n_int) True.intro) (n_cons (re_sl en.hK (n_var nm (i := 1) rfl (by decide +kernel)) True.intro (n_int)) (n_nil)))) (n_nil))))))
theorem b49 {X : Cx} {Wx : WX} {j : Nat} (nm : Nm X N49 (defScope s49)) (en : En X (WW X.K) Wx false false (4 * j + 3)) (hfn : ∀ x, X.fn x = true) (H : Hy X.K X.mg) (T : Tab X.prog X.w X.K X.mg X.base j) : PSs X (defBody s49) (denS (WW X.K) Wx (runF j) D49) :=
  rs_one (rs_ret (re_new en (H.mk_Eight ) (T.r_25 ) (fun z => by cases z) (dv_Eight H ) (nm.gl (by decide +kernel)) (H.g_Eight ) (n_cons (re_sl en.hK (n_var nm (i := 0) rfl (by decide +kernel)) True.intro (n_int)) (n_cons (re_sl en.hK (n_var nm (i := 0) rfl (by decide +kernel)) (n_int) True.intro) (n_nil)))))
theorem b50 {X : Cx} {Wx : WX} {j : Nat} (nm : Nm X N50 (defScope s50)) (en : En X (WW X.K) Wx false false (4 * j + 3)) (hfn : ∀ x, X.fn x = true) (H : Hy X.K X.mg) (T : Tab X.prog X.w X.K X.mg X.base j) : PSs X (defBody s50) (denS (WW X.K) Wx (runF j) D50) :=
  rs_cons (rs_set (i := 1) (nm.nd (by decide +kernel)) (nm.at rfl) (nm.loc (by decide +kernel)) (n_tup (n_cons (n_bin (op_sub) ok_sub (re_call en (T.r_58 ) (fun z => by cases z) (dv__law_draw H ) (nm.gl (by decide +kernel)) (H.g__law_draw ) (H.k__law_draw ) (n_cons (n_var nm (i := 0) rfl (by decide +kernel)) (n_cons (n_int) (n_nil)))) (n_int)) (n_cons (n_bin (op_sub) ok_sub (re_call en (T.r_58 ) (fun z => by cases z) (dv__law_draw H ) (nm.gl (by decide +kernel)) (H.g__law_draw ) (H.k__law_draw ) (n_cons (n_var nm (i := 0) rfl (by decide +kernel)) (n_cons (n_int) (n_nil)))) (n_int)) (n_cons (n_bin (op_sub) ok_sub (re_call en (T.r_58 ) (fun z => by cases z) (dv__law_draw H ) (nm.gl (by decide +kernel)) (H.g__law_draw ) (H.k__law_draw ) (n_cons (n_var nm (i := 0) rfl (by decide +kernel)) (n_cons (n_int) (n_nil)))) (n_int)) (n_cons (n_bin (op_sub) ok_sub (re_call en (T.r_58 ) (fun z => by cases z) (dv__law_draw H ) (nm.gl (by decide +kernel)) (H.g__law_draw ) (H.k__law_draw ) (n_cons (n_var nm (i := 0) rfl (by decide +kernel)) (n_cons (n_int) (n_nil)))) (n_int)) (n_nil)))))) rfl (.inl (hfn _)))
    (rs_cons (rs_if (rt_cmpO (opEq H T  en) (n_var nm (i := 1) rfl (by decide +kernel)) (n_tup (n_cons (n_int) (n_cons (n_int) (n_cons (n_int) (n_cons (n_int) (n_nil)))))) (nomark _)) (rs_one (rs_set (i := 1) (nm.nd (by decide +kernel)) (nm.at rfl) (nm.loc (by decide +kernel)) (n_tup (n_cons (n_int) (n_cons (n_int) (n_cons (n_int) (n_cons (n_int) (n_nil)))))) rfl (.inl (hfn _)))) (rs_next pss_nil))
    (rs_cons (rs_set (i := 2) (nm.nd (by decide +kernel)) (nm.at rfl) (nm.loc (by decide +kernel)) (n_tup (n_cons (n_int) (n_cons (n_bin (op_sub) ok_sub (re_call en (T.r_58 ) (fun z => by cases z) (dv__law_draw H ) (nm.gl (by decide +kernel)) (H.g__law_draw ) (H.k__law_draw ) (n_cons (n_var nm (i := 0) rfl (by decide +kernel)) (n_cons (n_int) (n_nil)))) (n_int)) (n_cons (n_bin (op_sub) ok_sub (re_call en (T.r_58 ) (fun z => by cases z) (dv__law_draw H ) (nm.gl (by decide +kernel)) (H.g__law_draw ) (H.k__law_draw ) (n_cons (n_var nm (i := 0) rfl (by decide +kernel)) (n_cons (n_int) (n_nil)))) (n_int)) (n_cons (n_bin (op_sub) ok_sub (re_call en (T.r_58 ) (fun z => by cases z) (dv__law_draw H ) (nm.gl (by decide +kernel)) (H.g__law_draw ) (H.k__law_draw ) (n_cons (n_var nm (i := 0) rfl (by decide +kernel)) (n_cons (n_int) (n_nil)))) (n_int)) (n_nil)))))) rfl (.inl (hfn _)))
    (rs_one (rs_ret (n_bin (op_addA en.hK) ok_add (n_var nm (i := 1) rfl (by decide +kernel)) (re_call en (T.r_45 ) (fun z => by cases z) (dv__law_four H ) (nm.gl (by decide +kernel)) (H.g__law_four ) (H.k__law_four ) (n_cons (n_var nm (i := 2) rfl (by decide +kernel)) (n_cons (n_var nm (i := 1) rfl (by decide +kernel)) (n_nil)))))))))
theorem b51 {X : Cx} {Wx : WX} {j : Nat} (nm : Nm X N51 (defScope s51)) (en : En X (WW X.K) Wx false false (4 * j + 3)) (hfn : ∀ x, X.fn x = true) (H : Hy X.K X.mg) (T : Tab X.prog X.w X.K X.mg X.base j) : PSs X (defBody s51) (denS (WW X.K) Wx (runF j) D51) :=
  rs_one (rs_ret (re_bltF (ok_sum (W := WW X.K)) (cr_sum en.calm) (nm.gl (by decide +kernel)) (H.fr_sum ) boot_sum (n_cons (re_lcN nm en (by decide +kernel) (ri_rng1 (nm.gl (by decide +kernel)) (H.fr_range ) (n_cons (n_int) (n_nil))) (own := [(PySem.Str.ofString "at", 2)]) ⟨by decide +kernel, by decide +kernel, by decide +kernel, by decide +kernel, by decide +kernel⟩ (fun s1 h1 c1 l1 p1 nm1 => tgOne nm1 (i := 2) rfl (by decide +kernel)) (by decide) (fun s1 h1 c1 l1 p1 nm1 en1 => n_bin (op_addA en1.hK) ok_add (re_binO (opOk_bin (op_mulA en1.hK) ok_mul en1 (tMul H T )) (n_ix en1.hK (n_var nm1 (i := 0) rfl (by decide +kernel)) (n_var nm1 (i := 2) rfl (by decide +kernel))) (n_ix en1.hK (n_var nm1 (i := 1) rfl (by decide +kernel)) (n_bin (op_addA en1.hK) ok_add (n_var nm1 (i := 2) rfl (by decide +kernel)) (n_int)))) (re_binO (opOk_bin (op_mulA en1.hK) ok_mul en1 (tMul H T )) (n_ix en1.hK (n_var nm1 (i := 0) rfl (by decide +kernel)) (n_bin (op_addA en1.hK) ok_add (n_var nm1 (i := 2) rfl (by decide +kernel)) (n_int))) (n_ix en1.hK (n_var nm1 (i := 1) rfl (by decide +kernel)) (n_var nm1 (i := 2) rfl (by decide +kernel)))))) (n_nil))))
theorem b52 {X : Cx} {Wx : WX} {j : Nat} (nm : Nm X N52 (defScope s52)) (en : En X (WW X.K) Wx false false (4 * j + 3)) (hfn : ∀ x, X.fn x = true) (H : Hy X.K X.mg) (T : Tab X.prog X.w X.K X.mg X.base j) : PSs X (defBody s52) (denS (WW X.K) Wx (runF j) D52) :=
  rs_one (rs_ret (n_tup (n_cons (n_bin (op_sub) ok_sub (re_binO (opOk_bin (op_mulA en.hK) ok_mul en (tMul H T )) (n_ix en.hK (n_var nm (i := 0) rfl (by decide +kernel)) (n_int)) (n_ix en.hK (n_var nm (i := 1) rfl (by decide +kernel)) (n_int))) (re_binO (opOk_bin (op_mulA en.hK) ok_mul en (tMul H T )) (n_ix en.hK (n_var nm (i := 0) rfl (by decide +kernel)) (n_int)) (n_ix en.hK (n_var nm (i := 1) rfl (by decide +kernel)) (n_int)))) (n_cons (n_bin (op_sub) ok_sub (re_binO (opOk_bin (op_mulA en.hK) ok_mul en (tMul H T )) (n_ix en.hK (n_var nm (i := 0) rfl (by decide +kernel)) (n_int)) (n_ix en.hK (n_var nm (i := 1) rfl (by decide +kernel)) (n_int))) (re_binO (opOk_bin (op_mulA en.hK) ok_mul en (tMul H T )) (n_ix en.hK (n_var nm (i := 0) rfl (by decide +kernel)) (n_int)) (n_ix en.hK (n_var nm (i := 1) rfl (by decide +kernel)) (n_int)))) (n_cons (n_bin (op_sub) ok_sub (re_binO (opOk_bin (op_mulA en.hK) ok_mul en (tMul H T )) (n_ix en.hK (n_var nm (i := 0) rfl (by decide +kernel)) (n_int)) (n_ix en.hK (n_var nm (i := 1) rfl (by decide +kernel)) (n_int))) (re_binO (opOk_bin (op_mulA en.hK) ok_mul en (tMul H T )) (n_ix en.hK (n_var nm (i := 0) rfl (by decide +kernel)) (n_int)) (n_ix en.hK (n_var nm (i := 1) rfl (by decide +kernel)) (n_int)))) (n_nil))))))
theorem b53 {X : Cx} {Wx : WX} {j : Nat} (nm : Nm X N53 (defScope s53)) (en : En X (WW X.K) Wx false false (4 * j + 3)) (hfn : ∀ x, X.fn x = true) (H : Hy X.K X.mg) (T : Tab X.prog X.w X.K X.mg X.base j) : PSs X (defBody s53) (denS (WW X.K) Wx (runF j) D53) :=
  rs_cons (rs_set (i := 1) (nm.nd (by decide +kernel)) (nm.at rfl) (nm.loc (by decide +kernel)) (re_call en (T.r_44 ) (fun z => by cases z) (dv__law_pick H ) (nm.gl (by decide +kernel)) (H.g__law_pick ) (H.k__law_pick ) (n_cons (n_var nm (i := 0) rfl (by decide +kernel)) (n_cons (n_lst (n_cons (n_tup (n_cons (n_int) (n_cons (n_int) (n_cons (n_int) (n_nil))))) (n_cons (n_tup (n_cons (n_int) (n_cons (n_int) (n_cons (n_int) (n_nil))))) (n_cons (n_tup (n_cons (n_int) (n_cons (n_int) (n_cons (n_int) (n_nil))))) (n_cons (n_tup (n_cons (n_int) (n_cons (n_int) (n_cons (n_int) (n_nil))))) (n_cons (n_tup (n_cons (n_int) (n_cons (n_int) (n_cons (n_un un_neg ok_neg (n_int)) (n_nil))))) (n_cons (n_tup (n_cons (n_int) (n_cons (n_int) (n_cons (n_int) (n_nil))))) (n_cons (n_tup (n_cons (n_int) (n_cons (n_int) (n_cons (n_int) (n_nil))))) (n_cons (n_tup (n_cons (n_int) (n_cons (n_int) (n_cons (n_int) (n_nil))))) (n_cons (n_tup (n_cons (n_int) (n_cons (n_un un_neg ok_neg (n_int)) (n_cons (n_int) (n_nil))))) (n_nil))))))))))) (n_nil)))) rfl (.inl (hfn _)))
    (rs_cons (rs_set (i := 2) (nm.nd (by decide +kernel)) (nm.at rfl) (nm.loc (by decide +kernel)) (n_tup (n_cons (n_bin (op_sub) ok_sub (re_call en (T.r_58 ) (fun z => by cases z) (dv__law_draw H ) (nm.gl (by decide +kernel)) (H.g__law_draw ) (H.k__law_draw ) (n_cons (n_var nm (i := 0) rfl (by decide +kernel)) (n_cons (n_int) (n_nil)))) (n_int)) (n_cons (n_bin (op_sub) ok_sub (re_call en (T.r_58 ) (fun z => by cases z) (dv__law_draw H ) (nm.gl (by decide +kernel)) (H.g__law_draw ) (H.k__law_draw ) (n_cons (n_var nm (i := 0) rfl (by decide +kernel)) (n_cons (n_int) (n_nil)))) (n_int)) (n_cons (n_bin (op_sub) ok_sub (re_call en (T.r_58 ) (fun z => by cases z) (dv__law_draw H ) (nm.gl (by decide +kernel)) (H.g__law_draw ) (H.k__law_draw ) (n_cons (n_var nm (i := 0) rfl (by decide +kernel)) (n_cons (n_int) (n_nil)))) (n_int)) (n_nil))))) rfl (.inl (hfn _)))
    (rs_one (rs_ret (n_bin (op_addA en.hK) ok_add (n_bin (op_addA en.hK) ok_add (n_bin (op_addA en.hK) ok_add (n_tup (n_cons (n_bin (op_sub) ok_sub (re_call en (T.r_58 ) (fun z => by cases z) (dv__law_draw H ) (nm.gl (by decide +kernel)) (H.g__law_draw ) (H.k__law_draw ) (n_cons (n_var nm (i := 0) rfl (by decide +kernel)) (n_cons (n_int) (n_nil)))) (n_int)) (n_nil))) (n_var nm (i := 1) rfl (by decide +kernel))) (n_tup (n_cons (n_int) (n_nil)))) (re_call en (T.r_52 ) (fun z => by cases z) (dv__law_cross H ) (nm.gl (by decide +kernel)) (H.g__law_cross ) (H.k__law_cross ) (n_cons (n_var nm (i := 2) rfl (by decide +kernel)) (n_cons (n_var nm (i := 1) rfl (by decide +kernel)) (n_nil))))))))
theorem b54 {X : Cx} {Wx : WX} {j : Nat} (nm : Nm X N54 (defScope s54)) (en : En X (WW X.K) Wx false false (4 * j + 3)) (hfn : ∀ x, X.fn x = true) (H : Hy X.K X.mg) (T : Tab X.prog X.w X.K X.mg X.base j) : PSs X (defBody s54) (denS (WW X.K) Wx (runF j) D54) :=
  rs_one (rs_ret (re_bltF (ok_sum (W := WW X.K)) (cr_sum en.calm) (nm.gl (by decide +kernel)) (H.fr_sum ) boot_sum (n_cons (re_lcN nm en (by decide +kernel) (ri_seq en.hK (re_sl en.hK (n_var nm (i := 0) rfl (by decide +kernel)) True.intro (n_int))) (own := [(PySem.Str.ofString "entry", 1)]) ⟨by decide +kernel, by decide +kernel, by decide +kernel, by decide +kernel, by decide +kernel⟩ (fun s1 h1 c1 l1 p1 nm1 => tgOne nm1 (i := 1) rfl (by decide +kernel)) (by decide) (fun s1 h1 c1 l1 p1 nm1 en1 => re_binO (opOk_bin (op_mulA en1.hK) ok_mul en1 (tMul H T )) (n_var nm1 (i := 1) rfl (by decide +kernel)) (n_var nm1 (i := 1) rfl (by decide +kernel)))) (n_nil))))
theorem b55 {X : Cx} {Wx : WX} {j : Nat} (nm : Nm X N55 (defScope s55)) (en : En X (WW X.K) Wx false true (4 * j + 3)) (hfn : ∀ x, X.fn x = true) (H : Hy X.K X.mg) (T : Tab X.prog X.w X.K X.mg X.base j) : PSs X (defBody s55) (denS (WW X.K) Wx (runF j) D55) :=
  rs_cons (rs_unp en.calm (nm.nd (by decide +kernel)) en.hK (.many (.cons ⟨_, _, rfl, tgN nm (i := 7) rfl (by decide +kernel)⟩ (.cons ⟨_, _, rfl, tgN nm (i := 8) rfl (by decide +kernel)⟩ (.cons ⟨_, _, rfl, tgN nm (i := 9) rfl (by decide +kernel)⟩ (.cons ⟨_, _, rfl, tgN nm (i := 10) rfl (by decide +kernel)⟩ .nil))))) (n_tup (n_cons (re_call en (T.r_50 ) (fun z => by cases z) (dv__law_pose H ) (nm.gl (by decide +kernel)) (H.g__law_pose ) (H.k__law_pose ) (n_cons (n_var nm (i := 0) rfl (by decide +kernel)) (n_nil))) (n_cons (re_call en (T.r_50 ) (fun z => by cases z) (dv__law_pose H ) (nm.gl (by decide +kernel)) (H.g__law_pose ) (H.k__law_pose ) (n_cons (n_var nm (i := 0) rfl (by decide +kernel)) (n_nil))) (n_cons (re_call en (T.r_50 ) (fun z => by cases z) (dv__law_pose H ) (nm.gl (by decide +kernel)) (H.g__law_pose ) (H.k__law_pose ) (n_cons (n_var nm (i := 0) rfl (by decide +kernel)) (n_nil))) (n_cons (re_call en (T.r_50 ) (fun z => by cases z) (dv__law_pose H ) (nm.gl (by decide +kernel)) (H.g__law_pose ) (H.k__law_pose ) (n_cons (n_var nm (i := 0) rfl (by decide +kernel)) (n_nil))) (n_nil)))))))
    (rs_cons (rs_par3 (i := 11) (j := 12) (l := 13) en nm (nm.nd (by decide +kernel)) rfl rfl rfl (by decide) (by decide) (by decide) (by decide +kernel) (by decide +kernel) (by decide +kernel) (n_cons (re_call en (T.r_49 ) (fun z => by cases z) (dv__law_eight H ) (nm.gl (by decide +kernel)) (H.g__law_eight ) (H.k__law_eight ) (n_cons (n_var nm (i := 7) rfl (by decide +kernel)) (n_nil))) (n_cons (re_call en (T.r_49 ) (fun z => by cases z) (dv__law_eight H ) (nm.gl (by decide +kernel)) (H.g__law_eight ) (H.k__law_eight ) (n_cons (n_var nm (i := 8) rfl (by decide +kernel)) (n_nil))) (n_cons (re_new en (H.mk_Ratio ) (T.r_4d1 ) (fun z => by cases z) (dv_Ratiod1 H ) (nm.gl (by decide +kernel)) (H.g_Ratio ) (n_cons (re_call en (T.r_51 ) (fun z => by cases z) (dv__law_between H ) (nm.gl (by decide +kernel)) (H.g__law_between ) (H.k__law_between ) (n_cons (n_var nm (i := 7) rfl (by decide +kernel)) (n_cons (n_var nm (i := 8) rfl (by decide +kernel)) (n_nil)))) (n_nil))) n_nil))) (swap_of (Nm.s nm) (by rfl)))
    (rs_cons (rs_if (PW.pt (w_or (rt_cmpO (opNe H T  en) (re_call en (T.r_43 ) (fun z => by cases z) (dv_between H ) (nm.gl (by decide +kernel)) (H.g_between ) (H.k_between ) (n_cons (n_var nm (i := 11) rfl (by decide +kernel)) (n_cons (n_var nm (i := 12) rfl (by decide +kernel)) (n_nil)))) (n_var nm (i := 13) rfl (by decide +kernel)) (nomark _)) (w_or (rt_cmpO (opNe H T  en) ((match T.k_between_other_pose with | ⟨_, R, B⟩ => re_callK en R (fun z => by cases z) B (nm.gl (by decide +kernel)) (H.g_between ) (H.k_between ) (.cons ⟨_, _, _, rfl, n_var nm (i := 11) rfl (by decide +kernel)⟩ (.cons ⟨_, _, _, rfl, n_var nm (i := 12) rfl (by decide +kernel)⟩ .nil)) rfl)) (n_var nm (i := 13) rfl (by decide +kernel)) (nomark _)) (w_or1 (rt_cmpO (opNe H T  en) (re_call en (T.r_43 ) (fun z => by cases z) (dv_between H ) (nm.gl (by decide +kernel)) (H.g_between ) (H.k_between ) (n_cons (n_var nm (i := 11) rfl (by decide +kernel)) (n_cons (n_var nm (i := 11) rfl (by decide +kernel)) (n_nil)))) (re_new en (H.mk_Ratio ) (T.r_4d1 ) (fun z => by cases z) (dv_Ratiod1 H ) (nm.gl (by decide +kernel)) (H.g_Ratio ) (n_cons (n_int) (n_nil))) (nomark _)))))) (rs_one (rs_ret (n_bl))) (rs_next pss_nil))
    (rs_cons (rs_set (i := 1) (nm.nd (by decide +kernel)) (nm.at rfl) (nm.loc (by decide +kernel)) (re_repr en (tRepr H T ) (nm.gl (by decide +kernel)) (H.fr_repr ) (n_cons (n_lst (n_cons (n_var nm (i := 11) rfl (by decide +kernel)) (n_cons (n_var nm (i := 12) rfl (by decide +kernel)) (n_nil)))) (n_nil))) rfl (.inl (hfn _)))
    (rs_cons (rs_par (i := 14) (j := 15) en.calm (nm.nd (by decide +kernel)) (nm.at rfl) (nm.at rfl) (by decide) (nm.isL (by decide +kernel)) (nm.isL (by decide +kernel)) (n_cons (re_call en (T.r_44 ) (fun z => by cases z) (dv__law_pick H ) (nm.gl (by decide +kernel)) (H.g__law_pick ) (H.k__law_pick ) (n_cons (n_var nm (i := 0) rfl (by decide +kernel)) (n_cons (n_lst (n_cons (n_int) (n_cons (n_un un_neg ok_neg (n_int)) (n_cons (re_new en (H.mk_Ratio ) (T.r_4 ) (fun z => by cases z) (dv_Ratio H ) (nm.gl (by decide +kernel)) (H.g_Ratio ) (n_cons (n_int) (n_cons (n_int) (n_nil)))) (n_cons (n_un un_neg ok_neg (n_int)) (n_nil)))))) (n_nil)))) (n_cons (re_call en (T.r_44 ) (fun z => by cases z) (dv__law_pick H ) (nm.gl (by decide +kernel)) (H.g__law_pick ) (H.k__law_pick ) (n_cons (n_var nm (i := 0) rfl (by decide +kernel)) (n_cons (n_lst (n_cons (n_int) (n_cons (n_un un_neg ok_neg (n_int)) (n_cons (re_new en (H.mk_Ratio ) (T.r_4 ) (fun z => by cases z) (dv_Ratio H ) (nm.gl (by decide +kernel)) (H.g_Ratio ) (n_cons (n_int) (n_cons (n_int) (n_nil)))) (n_nil))))) (n_nil)))) n_nil)) (swap_of (Nm.s nm) (by rfl)))
    (rs_cons (rs_if (rt_cmpO (opNe H T  en) (re_call en (T.r_43 ) (fun z => by cases z) (dv_between H ) (nm.gl (by decide +kernel)) (H.g_between ) (H.k_between ) (n_cons (re_meth en (m_times H T ) (n_var nm (i := 11) rfl (by decide +kernel)) (n_cons (n_var nm (i := 14) rfl (by decide +kernel)) (n_nil))) (n_cons (re_meth en (m_times H T ) (n_var nm (i := 12) rfl (by decide +kernel)) (n_cons (n_var nm (i := 15) rfl (by decide +kernel)) (n_nil))) (n_nil)))) (re_binO (opOk_bin (op_mulA en.hK) ok_mul en (tMul H T )) (re_binO (opOk_bin (op_mulA en.hK) ok_mul en (tMul H T )) (n_var nm (i := 13) rfl (by decide +kernel)) (n_var nm (i := 14) rfl (by decide +kernel))) (n_var nm (i := 15) rfl (by decide +kernel))) (nomark _)) (rs_one (rs_ret (n_bl))) (rs_next pss_nil))
    (rs_cons (rs_par (i := 16) (j := 17) en.calm (nm.nd (by decide +kernel)) (nm.at rfl) (nm.at rfl) (by decide) (nm.isL (by decide +kernel)) (nm.isL (by decide +kernel)) (n_cons (re_call en (T.r_48 ) (fun z => by cases z) (dv__law_times H ) (nm.gl (by decide +kernel)) (H.g__law_times ) (H.k__law_times ) (n_cons (re_call en (T.r_48 ) (fun z => by cases z) (dv__law_times H ) (nm.gl (by decide +kernel)) (H.g__law_times ) (H.k__law_times ) (n_cons (n_var nm (i := 9) rfl (by decide +kernel)) (n_cons (n_var nm (i := 7) rfl (by decide +kernel)) (n_nil)))) (n_cons (n_var nm (i := 10) rfl (by decide +kernel)) (n_nil)))) (n_cons (re_call en (T.r_48 ) (fun z => by cases z) (dv__law_times H ) (nm.gl (by decide +kernel)) (H.g__law_times ) (H.k__law_times ) (n_cons (re_call en (T.r_48 ) (fun z => by cases z) (dv__law_times H ) (nm.gl (by decide +kernel)) (H.g__law_times ) (H.k__law_times ) (n_cons (n_var nm (i := 9) rfl (by decide +kernel)) (n_cons (n_var nm (i := 8) rfl (by decide +kernel)) (n_nil)))) (n_cons (n_var nm (i := 10) rfl (by decide +kernel)) (n_nil)))) n_nil)) (swap_of (Nm.s nm) (by rfl)))
    (rs_cons (rs_if (rt_cmpO (opNe H T  en) (re_call en (T.r_49 ) (fun z => by cases z) (dv__law_eight H ) (nm.gl (by decide +kernel)) (H.g__law_eight ) (H.k__law_eight ) (n_cons (n_var nm (i := 16) rfl (by decide +kernel)) (n_nil))) (re_binO (opOk_bin (op_mulA en.hK) ok_mul en (tMul H T )) (re_binO (opOk_bin (op_mulA en.hK) ok_mul en (tMul H T )) (re_call en (T.r_49 ) (fun z => by cases z) (dv__law_eight H ) (nm.gl (by decide +kernel)) (H.g__law_eight ) (H.k__law_eight ) (n_cons (n_var nm (i := 9) rfl (by decide +kernel)) (n_nil))) (n_var nm (i := 11) rfl (by decide +kernel))) (re_call en (T.r_49 ) (fun z => by cases z) (dv__law_eight H ) (nm.gl (by decide +kernel)) (H.g__law_eight ) (H.k__law_eight ) (n_cons (n_var nm (i := 10) rfl (by decide +kernel)) (n_nil)))) (nomark _)) (rs_one (rs_ret (n_bl))) (rs_next pss_nil))
    (rs_cons (rs_if (rt_cmpO (opNe H T  en) (re_call en (T.r_43 ) (fun z => by cases z) (dv_between H ) (nm.gl (by decide +kernel)) (H.g_between ) (H.k_between ) (n_cons (re_call en (T.r_49 ) (fun z => by cases z) (dv__law_eight H ) (nm.gl (by decide +kernel)) (H.g__law_eight ) (H.k__law_eight ) (n_cons (n_var nm (i := 16) rfl (by decide +kernel)) (n_nil))) (n_cons (re_call en (T.r_49 ) (fun z => by cases z) (dv__law_eight H ) (nm.gl (by decide +kernel)) (H.g__law_eight ) (H.k__law_eight ) (n_cons (n_var nm (i := 17) rfl (by decide +kernel)) (n_nil))) (n_nil)))) (re_binO (opOk_bin (op_mulA en.hK) ok_mul en (tMul H T )) (n_var nm (i := 13) rfl (by decide +kernel)) (re_binO (opOk_bin (op_mulA en.hK) ok_mul en (tMul H T )) (re_call en (T.r_54 ) (fun z => by cases z) (dv__law_size H ) (nm.gl (by decide +kernel)) (H.g__law_size ) (H.k__law_size ) (n_cons (n_var nm (i := 9) rfl (by decide +kernel)) (n_nil))) (re_call en (T.r_54 ) (fun z => by cases z) (dv__law_size H ) (nm.gl (by decide +kernel)) (H.g__law_size ) (H.k__law_size ) (n_cons (n_var nm (i := 10) rfl (by decide +kernel)) (n_nil))))) (nomark _)) (rs_one (rs_ret (n_bl))) (rs_next pss_nil))
    (rs_cons (rs_set (i := 2) (nm.nd (by decide +kernel)) (nm.at rfl) (nm.loc (by decide +kernel)) (re_call en (T.r_53 ) (fun z => by cases z) (dv__law_hinge H ) (nm.gl (by decide +kernel)) (H.g__law_hinge ) (H.k__law_hinge ) (n_cons (n_var nm (i := 0) rfl (by decide +kernel)) (n_nil))) rfl (.inl (hfn _)))
    (rs_cons (rs_set (i := 3) (nm.nd (by decide +kernel)) (nm.at rfl) (nm.loc (by decide +kernel)) (re_binO (opOk_bin (op_mulA en.hK) ok_mul en (tMul H T )) (n_var nm (i := 11) rfl (by decide +kernel)) (re_call en (T.r_49 ) (fun z => by cases z) (dv__law_eight H ) (nm.gl (by decide +kernel)) (H.g__law_eight ) (H.k__law_eight ) (n_cons (n_var nm (i := 2) rfl (by decide +kernel)) (n_nil)))) rfl (.inl (hfn _)))
    (rs_cons (rs_set (i := 4) (nm.nd (by decide +kernel)) (nm.at rfl) (nm.loc (by decide +kernel)) (n_tup (n_cons (n_bin (op_sub) ok_sub (re_call en (T.r_58 ) (fun z => by cases z) (dv__law_draw H ) (nm.gl (by decide +kernel)) (H.g__law_draw ) (H.k__law_draw ) (n_cons (n_var nm (i := 0) rfl (by decide +kernel)) (n_cons (n_int) (n_nil)))) (n_int)) (n_cons (n_bin (op_sub) ok_sub (re_call en (T.r_58 ) (fun z => by cases z) (dv__law_draw H ) (nm.gl (by decide +kernel)) (H.g__law_draw ) (H.k__law_draw ) (n_cons (n_var nm (i := 0) rfl (by decide +kernel)) (n_cons (n_int) (n_nil)))) (n_int)) (n_cons (n_bin (op_addA en.hK) ok_add (n_int) (re_call en (T.r_58 ) (fun z => by cases z) (dv__law_draw H ) (nm.gl (by decide +kernel)) (H.g__law_draw ) (H.k__law_draw ) (n_cons (n_var nm (i := 0) rfl (by decide +kernel)) (n_cons (n_int) (n_nil))))) (n_nil))))) rfl (.inl (hfn _)))
    (rs_cons (rs_if (PW.pt (w_or (rt_cmpO (opNe H T  en) (re_call en (T.r_43 ) (fun z => by cases z) (dv_between H ) (nm.gl (by decide +kernel)) (H.g_between ) (H.k_between ) (n_cons (n_var nm (i := 11) rfl (by decide +kernel)) (n_cons (n_var nm (i := 3) rfl (by decide +kernel)) (n_nil)))) (re_new en (H.mk_Ratio ) (T.r_4d1 ) (fun z => by cases z) (dv_Ratiod1 H ) (nm.gl (by decide +kernel)) (H.g_Ratio ) (n_cons (n_int) (n_nil))) (nomark _)) (w_or (rt_cmpO (opNe H T  en) (re_call en (T.r_43 ) (fun z => by cases z) (dv_between H ) (nm.gl (by decide +kernel)) (H.g_between ) (H.k_between ) (n_cons (n_var nm (i := 3) rfl (by decide +kernel)) (n_cons (n_var nm (i := 11) rfl (by decide +kernel)) (n_nil)))) (re_new en (H.mk_Ratio ) (T.r_4d1 ) (fun z => by cases z) (dv_Ratiod1 H ) (nm.gl (by decide +kernel)) (H.g_Ratio ) (n_cons (n_int) (n_nil))) (nomark _)) (w_or1 (rt_cmpO (opNe H T  en) (re_call en (T.r_43 ) (fun z => by cases z) (dv_between H ) (nm.gl (by decide +kernel)) (H.g_between ) (H.k_between ) (n_cons (n_var nm (i := 11) rfl (by decide +kernel)) (n_cons (re_binO (opOk_bin (op_mulA en.hK) ok_mul en (tMul H T )) (n_var nm (i := 11) rfl (by decide +kernel)) (re_call en (T.r_41 ) (fun z => by cases z) (dv_go_pose H ) (nm.gl (by decide +kernel)) (H.g_go_pose ) (H.k_go_pose ) (n_cons (n_var nm (i := 4) rfl (by decide +kernel)) (n_nil)))) (n_nil)))) (re_new en (H.mk_Ratio ) (T.r_4d1 ) (fun z => by cases z) (dv_Ratiod1 H ) (nm.gl (by decide +kernel)) (H.g_Ratio ) (n_cons (n_int) (n_nil))) (nomark _)))))) (rs_one (rs_ret (n_bl))) (rs_next pss_nil))
    (rs_cons (rs_if (PW.pt (w_or (rt_cmpO (opNe H T  en) (re_call en (T.r_43 ) (fun z => by cases z) (dv_between H ) (nm.gl (by decide +kernel)) (H.g_between ) (H.k_between ) (n_cons (re_binO (opOk_bin (op_mulA en.hK) ok_mul en (tMul H T )) (re_call en (T.r_41 ) (fun z => by cases z) (dv_go_pose H ) (nm.gl (by decide +kernel)) (H.g_go_pose ) (H.k_go_pose ) (n_cons (n_var nm (i := 4) rfl (by decide +kernel)) (n_nil))) (n_var nm (i := 11) rfl (by decide +kernel))) (n_cons (n_var nm (i := 11) rfl (by decide +kernel)) (n_nil)))) (re_new en (H.mk_Ratio ) (T.r_4d1 ) (fun z => by cases z) (dv_Ratiod1 H ) (nm.gl (by decide +kernel)) (H.g_Ratio ) (n_cons (n_int) (n_nil))) (nomark _)) (w_or1 (rt_cmpO (opNe H T  en) (re_call en (T.r_21 ) (fun z => by cases z) (dv_norm_four H ) (nm.gl (by decide +kernel)) (H.g_norm_four ) (H.k_norm_four ) (n_cons (re_meth0 en (m_first H T ) (n_var nm (i := 11) rfl (by decide +kernel))) (n_nil))) (re_new en (H.mk_Ratio ) (T.r_4d1 ) (fun z => by cases z) (dv_Ratiod1 H ) (nm.gl (by decide +kernel)) (H.g_Ratio ) (n_cons (re_call en (T.r_54 ) (fun z => by cases z) (dv__law_size H ) (nm.gl (by decide +kernel)) (H.g__law_size ) (H.k__law_size ) (n_cons (n_var nm (i := 7) rfl (by decide +kernel)) (n_nil))) (n_nil))) (nomark _))))) (rs_one (rs_ret (n_bl))) (rs_next pss_nil))
    (rs_cons (rs_set (i := 5) (nm.nd (by decide +kernel)) (nm.at rfl) (nm.loc (by decide +kernel)) (re_sl en.hK (n_var nm (i := 2) rfl (by decide +kernel)) (n_int) (n_int)) rfl (.inl (hfn _)))
    (rs_cons (rs_set (i := 6) (nm.nd (by decide +kernel)) (nm.at rfl) (nm.loc (by decide +kernel)) (re_binO (opOk_bin (op_mulA en.hK) ok_mul en (tMul H T )) (re_call en (T.r_41 ) (fun z => by cases z) (dv_go_pose H ) (nm.gl (by decide +kernel)) (H.g_go_pose ) (H.k_go_pose ) (n_cons (re_call en (T.r_47 ) (fun z => by cases z) (dv__law_by H ) (nm.gl (by decide +kernel)) (H.g__law_by ) (H.k__law_by ) (n_cons (n_var nm (i := 5) rfl (by decide +kernel)) (n_cons (n_bin (op_addA en.hK) ok_add (n_int) (re_call en (T.r_58 ) (fun z => by cases z) (dv__law_draw H ) (nm.gl (by decide +kernel)) (H.g__law_draw ) (H.k__law_draw ) (n_cons (n_var nm (i := 0) rfl (by decide +kernel)) (n_cons (n_int) (n_nil))))) (n_nil)))) (n_nil))) (re_call en (T.r_40 ) (fun z => by cases z) (dv_turn_pose H ) (nm.gl (by decide +kernel)) (H.g_turn_pose ) (H.k_turn_pose ) (n_cons (n_bin (op_addA en.hK) ok_add (n_tup (n_cons (n_bin (op_sub) ok_sub (re_call en (T.r_58 ) (fun z => by cases z) (dv__law_draw H ) (nm.gl (by decide +kernel)) (H.g__law_draw ) (H.k__law_draw ) (n_cons (n_var nm (i := 0) rfl (by decide +kernel)) (n_cons (n_int) (n_nil)))) (n_int)) (n_nil))) (n_var nm (i := 5) rfl (by decide +kernel))) (n_nil)))) rfl (.inl (hfn _)))
    (rs_cons (rs_if (PW.pt (w_or (rt_cmpO (opEq H T  en) (re_call en (T.r_43 ) (fun z => by cases z) (dv_between H ) (nm.gl (by decide +kernel)) (H.g_between ) (H.k_between ) (n_cons (n_var nm (i := 11) rfl (by decide +kernel)) (n_cons (re_binO (opOk_bin (op_mulA en.hK) ok_mul en (tMul H T )) (n_var nm (i := 11) rfl (by decide +kernel)) (n_var nm (i := 6) rfl (by decide +kernel))) (n_nil)))) (re_new en (H.mk_Ratio ) (T.r_4d1 ) (fun z => by cases z) (dv_Ratiod1 H ) (nm.gl (by decide +kernel)) (H.g_Ratio ) (n_cons (n_int) (n_nil))) (nomark _)) (w_or1 (rt_cmpO (opEq H T  en) (re_call en (T.r_43 ) (fun z => by cases z) (dv_between H ) (nm.gl (by decide +kernel)) (H.g_between ) (H.k_between ) (n_cons (re_binO (opOk_bin (op_mulA en.hK) ok_mul en (tMul H T )) (n_var nm (i := 6) rfl (by decide +kernel)) (n_var nm (i := 12) rfl (by decide +kernel))) (n_cons (n_var nm (i := 12) rfl (by decide +kernel)) (n_nil)))) (re_new en (H.mk_Ratio ) (T.r_4d1 ) (fun z => by cases z) (dv_Ratiod1 H ) (nm.gl (by decide +kernel)) (H.g_Ratio ) (n_cons (n_int) (n_nil))) (nomark _))))) (rs_one (rs_ret (n_bl))) (rs_next pss_nil))
    (rs_one (rs_ret (n_and (re_cmpO (opEq H T  en) ((match T.k_between_pose_other with | ⟨_, R, B⟩ => re_callK en R (fun z => by cases z) B (nm.gl (by decide +kernel)) (H.g_between ) (H.k_between ) (.cons ⟨_, _, _, rfl, n_var nm (i := 11) rfl (by decide +kernel)⟩ (.cons ⟨_, _, _, rfl, n_var nm (i := 12) rfl (by decide +kernel)⟩ .nil)) rfl)) (n_var nm (i := 13) rfl (by decide +kernel)) (nomark _)) (n_one (re_cmpO (opEq H T  en) (re_repr en (tRepr H T ) (nm.gl (by decide +kernel)) (H.fr_repr ) (n_cons (n_lst (n_cons (n_var nm (i := 11) rfl (by decide +kernel)) (n_cons (n_var nm (i := 12) rfl (by decide +kernel)) (n_nil)))) (n_nil))) (n_var nm (i := 1) rfl (by decide +kernel)) (nomark _))))))))))))))))))))))
theorem b56 {X : Cx} {Wx : WX} {j : Nat} (nm : Nm X N56 (defScope s56)) (en : En X (WW X.K) Wx false false (4 * j + 3)) (hfn : ∀ x, X.fn x = true) (H : Hy X.K X.mg) (T : Tab X.prog X.w X.K X.mg X.base j) : PSs X (defBody s56) (denS (WW X.K) Wx (runF j) D56) :=
  rs_cons (rs_set (i := 2) (nm.nd (by decide +kernel)) (nm.at rfl) (nm.loc (by decide +kernel)) (n_ife (t_cmp op_lt ok_lt (n_var nm (i := 1) rfl (by decide +kernel)) (re_bltF (ok_len (W := WW X.K)) (call_len) (nm.gl (by decide +kernel)) (H.fr_len ) boot_len (n_cons (n_var nm (i := 0) rfl (by decide +kernel)) (n_nil))) (nomark _)) (re_bltF ok_abs (call_abs) (nm.gl (by decide +kernel)) (H.fr_abs ) boot_abs (n_cons (n_ix en.hK (n_var nm (i := 0) rfl (by decide +kernel)) (n_var nm (i := 1) rfl (by decide +kernel))) (n_nil))) (n_bin (op_addA en.hK) ok_add (re_binO (opOk_bin (op_mulA en.hK) ok_mul en (tMul H T )) (n_int) (n_var nm (i := 1) rfl (by decide +kernel))) (n_int))) rfl (.inl (hfn _)))
    (rs_one (rs_ret (n_lst (n_cons (re_bltF ok_max (call_max2 en.calm) (nm.gl (by decide +kernel)) (H.fr_max ) boot_max (n_cons (n_int) (n_cons (n_bin (op_sub) ok_sub (n_var nm (i := 2) rfl (by decide +kernel)) (n_bin (op_pow) ok_pow (n_int) (n_int))) (n_nil)))) (n_cons (n_bin (op_addA en.hK) ok_add (n_bin (op_modN) ok_mod (re_bltT ok_int (call_int1) (nm.gl (by decide +kernel)) (H.fr_int ) boot_int (n_cons (n_bin (op_addA en.hK) ok_add (n_bin (op_addA en.hK) ok_add (re_binO (opOk_bin (op_mulA en.hK) ok_mul en (tMul H T )) (n_bin (op_modN) ok_mod (re_bltT ok_int (call_int1) (nm.gl (by decide +kernel)) (H.fr_int ) boot_int (n_cons (n_var nm (i := 2) rfl (by decide +kernel)) (n_nil))) (n_int)) (n_int)) (re_binO (opOk_bin (op_mulA en.hK) ok_mul en (tMul H T )) (n_int) (n_var nm (i := 1) rfl (by decide +kernel)))) (n_int)) (n_nil))) (n_int)) (n_int)) (n_nil))))))
theorem b57 {X : Cx} {Wx : WX} {j : Nat} (nm : Nm X N57 (defScope s57)) (en : En X (WW X.K) Wx false true (4 * j + 3)) (hfn : ∀ x, X.fn x = true) (H : Hy X.K X.mg) (T : Tab X.prog X.w X.K X.mg X.base j) : PSs X (defBody s57) (denS (WW X.K) Wx (runF j) D57) :=
  rs_one (rs_ret (re_bltF (ok_all (W := WW X.K)) (cr_all en.calm) (nm.gl (by decide +kernel)) (H.fr_all ) boot_all (n_cons (re_lcN nm en (by decide +kernel) (ri_rng1 (nm.gl (by decide +kernel)) (H.fr_range ) (n_cons (re_bltF ok_max (call_max2 en.calm) (nm.gl (by decide +kernel)) (H.fr_max ) boot_max (n_cons (n_int) (n_cons (re_bltF ok_min (call_min2 en.calm) (nm.gl (by decide +kernel)) (H.fr_min ) boot_min (n_cons (n_int) (n_cons (re_bltF (ok_len (W := WW X.K)) (call_len) (nm.gl (by decide +kernel)) (H.fr_len ) boot_len (n_cons (n_var nm (i := 0) rfl (by decide +kernel)) (n_nil))) (n_nil)))) (n_nil)))) (n_nil))) (own := [(PySem.Str.ofString "k", 1)]) ⟨by decide +kernel, by decide +kernel, by decide +kernel, by decide +kernel, by decide +kernel⟩ (fun s1 h1 c1 l1 p1 nm1 => tgOne nm1 (i := 1) rfl (by decide +kernel)) (by decide) (fun s1 h1 c1 l1 p1 nm1 en1 => re_call en1 (T.r_55 ) (fun _ => rfl) (dv__law_right H ) (nm1.gl (by decide +kernel)) (H.g__law_right ) (H.k__law_right ) (n_cons (re_pot (re_call en1 (T.r_56 ) (fun z => by cases z) (dv__law_pot H ) (nm1.gl (by decide +kernel)) (H.g__law_pot ) (H.k__law_pot ) (n_cons (n_var nm1 (i := 0) rfl (by decide +kernel)) (n_cons (n_var nm1 (i := 1) rfl (by decide +kernel)) (n_nil))))) (n_nil)))) (n_nil))))
theorem sc0 : FnScope N0 [PySem.Str.ofString "value"] (defScope s0) := ⟨rfl, rfl, rfl, by decide +kernel, rfl, by decide +kernel, by decide +kernel⟩
theorem sc1 : FnScope N1 [PySem.Str.ofString "value"] (defScope s1) := ⟨rfl, rfl, rfl, by decide +kernel, rfl, by decide +kernel, by decide +kernel⟩
theorem sc2 : FnScope N2 [PySem.Str.ofString "number"] (defScope s2) := ⟨rfl, rfl, rfl, by decide +kernel, rfl, by decide +kernel, by decide +kernel⟩
theorem sc3 : FnScope N3 [PySem.Str.ofString "one", PySem.Str.ofString "other"] (defScope s3) := ⟨rfl, rfl, rfl, by decide +kernel, rfl, by decide +kernel, by decide +kernel⟩
theorem sc4 : FnScope N4 [PySem.Str.ofString "self", PySem.Str.ofString "top", PySem.Str.ofString "bottom"] (defScope s4) := ⟨rfl, rfl, rfl, by decide +kernel, rfl, by decide +kernel, by decide +kernel⟩
theorem sc5 : FnScope N5 [PySem.Str.ofString "self", PySem.Str.ofString "other"] (defScope s5) := ⟨rfl, rfl, rfl, by decide +kernel, rfl, by decide +kernel, by decide +kernel⟩
theorem sc6 : FnScope N6 [PySem.Str.ofString "self", PySem.Str.ofString "other"] (defScope s6) := ⟨rfl, rfl, rfl, by decide +kernel, rfl, by decide +kernel, by decide +kernel⟩
theorem sc7 : FnScope N7 [PySem.Str.ofString "self"] (defScope s7) := ⟨rfl, rfl, rfl, by decide +kernel, rfl, by decide +kernel, by decide +kernel⟩
theorem sc8 : FnScope N8 [PySem.Str.ofString "value"] (defScope s8) := ⟨rfl, rfl, rfl, by decide +kernel, rfl, by decide +kernel, by decide +kernel⟩
theorem sc9 : FnScope N9 [PySem.Str.ofString "value"] (defScope s9) := ⟨rfl, rfl, rfl, by decide +kernel, rfl, by decide +kernel, by decide +kernel⟩
theorem sc10 : FnScope N10 [PySem.Str.ofString "number"] (defScope s10) := ⟨rfl, rfl, rfl, by decide +kernel, rfl, by decide +kernel, by decide +kernel⟩
theorem sc11 : FnScope N11 [PySem.Str.ofString "value"] (defScope s11) := ⟨rfl, rfl, rfl, by decide +kernel, rfl, by decide +kernel, by decide +kernel⟩
theorem sc12 : FnScope N12 [PySem.Str.ofString "ratios"] (defScope s12) := ⟨rfl, rfl, rfl, by decide +kernel, rfl, by decide +kernel, by decide +kernel⟩
theorem sc13 : FnScope N13 [PySem.Str.ofString "value", PySem.Str.ofString "many"] (defScope s13) := ⟨rfl, rfl, rfl, by decide +kernel, rfl, by decide +kernel, by decide +kernel⟩
theorem sc14 : FnScope N14 [PySem.Str.ofString "value"] (defScope s14) := ⟨rfl, rfl, rfl, by decide +kernel, rfl, by decide +kernel, by decide +kernel⟩
theorem sc15 : FnScope N15 [PySem.Str.ofString "value"] (defScope s15) := ⟨rfl, rfl, rfl, by decide +kernel, rfl, by decide +kernel, by decide +kernel⟩
theorem sc16 : FnScope N16 [PySem.Str.ofString "value"] (defScope s16) := ⟨rfl, rfl, rfl, by decide +kernel, rfl, by decide +kernel, by decide +kernel⟩
theorem sc17 : FnScope N17 [PySem.Str.ofString "value"] (defScope s17) := ⟨rfl, rfl, rfl, by decide +kernel, rfl, by decide +kernel, by decide +kernel⟩
theorem sc18 : FnScope N18 [PySem.Str.ofString "one", PySem.Str.ofString "other"] (defScope s18) := ⟨rfl, rfl, rfl, by decide +kernel, rfl, by decide +kernel, by decide +kernel⟩
theorem sc19 : FnScope N19 [PySem.Str.ofString "one", PySem.Str.ofString "other"] (defScope s19) := ⟨rfl, rfl, rfl, by decide +kernel, rfl, by decide +kernel, by decide +kernel⟩
theorem sc20 : FnScope N20 [PySem.Str.ofString "tops", PySem.Str.ofString "bottom"] (defScope s20) := ⟨rfl, rfl, rfl, by decide +kernel, rfl, by decide +kernel, by decide +kernel⟩
theorem sc21 : FnScope N21 [PySem.Str.ofString "four"] (defScope s21) := ⟨rfl, rfl, rfl, by decide +kernel, rfl, by decide +kernel, by decide +kernel⟩
theorem sc22 : FnScope N22 [PySem.Str.ofString "self", PySem.Str.ofString "bottom", PySem.Str.ofString "numbers"] (defScope s22) := ⟨rfl, rfl, rfl, by decide +kernel, rfl, by decide +kernel, by decide +kernel⟩
theorem sc23 : FnScope N23 [PySem.Str.ofString "bottom", PySem.Str.ofString "numbers"] (defScope s23) := ⟨rfl, rfl, rfl, by decide +kernel, rfl, by decide +kernel, by decide +kernel⟩
theorem sc24 : FnScope N24 [PySem.Str.ofString "first", PySem.Str.ofString "second"] (defScope s24) := ⟨rfl, rfl, rfl, by decide +kernel, rfl, by decide +kernel, by decide +kernel⟩
theorem sc25 : FnScope N25 [PySem.Str.ofString "self", PySem.Str.ofString "first", PySem.Str.ofString "second"] (defScope s25) := ⟨rfl, rfl, rfl, by decide +kernel, rfl, by decide +kernel, by decide +kernel⟩
theorem sc26 : FnScope N26 [PySem.Str.ofString "self"] (defScope s26) := ⟨rfl, rfl, rfl, by decide +kernel, rfl, by decide +kernel, by decide +kernel⟩
theorem sc27 : FnScope N27 [PySem.Str.ofString "self", PySem.Str.ofString "number"] (defScope s27) := ⟨rfl, rfl, rfl, by decide +kernel, rfl, by decide +kernel, by decide +kernel⟩
theorem sc28 : FnScope N28 [PySem.Str.ofString "self", PySem.Str.ofString "other"] (defScope s28) := ⟨rfl, rfl, rfl, by decide +kernel, rfl, by decide +kernel, by decide +kernel⟩
theorem sc29 : FnScope N29 [PySem.Str.ofString "self", PySem.Str.ofString "other"] (defScope s29) := ⟨rfl, rfl, rfl, by decide +kernel, rfl, by decide +kernel, by decide +kernel⟩
theorem sc30 : FnScope N30 [PySem.Str.ofString "self"] (defScope s30) := ⟨rfl, rfl, rfl, by decide +kernel, rfl, by decide +kernel, by decide +kernel⟩
theorem sc31 : FnScope N31 [PySem.Str.ofString "numbers", PySem.Str.ofString "bottom"] (defScope s31) := ⟨rfl, rfl, rfl, by decide +kernel, rfl, by decide +kernel, by decide +kernel⟩
theorem sc32 : FnScope N32 [PySem.Str.ofString "bottom", PySem.Str.ofString "numbers"] (defScope s32) := ⟨rfl, rfl, rfl, by decide +kernel, rfl, by decide +kernel, by decide +kernel⟩
theorem sc33 : FnScope N33 [PySem.Str.ofString "one", PySem.Str.ofString "other"] (defScope s33) := ⟨rfl, rfl, rfl, by decide +kernel, rfl, by decide +kernel, by decide +kernel⟩
theorem sc34 : FnScope N34 [PySem.Str.ofString "one", PySem.Str.ofString "other"] (defScope s34) := ⟨rfl, rfl, rfl, by decide +kernel, rfl, by decide +kernel, by decide +kernel⟩
theorem sc35 : FnScope N35 [PySem.Str.ofString "eight", PySem.Str.ofString "ratio"] (defScope s35) := ⟨rfl, rfl, rfl, by decide +kernel, rfl, by decide +kernel, by decide +kernel⟩
theorem sc36 : FnScope N36 [PySem.Str.ofString "numbers"] (defScope s36) := ⟨rfl, rfl, rfl, by decide +kernel, rfl, by decide +kernel, by decide +kernel⟩
theorem sc37 : FnScope N37 [PySem.Str.ofString "value"] (defScope s37) := ⟨rfl, rfl, rfl, by decide +kernel, rfl, by decide +kernel, by decide +kernel⟩
theorem sc38 : FnScope N38 [PySem.Str.ofString "value"] (defScope s38) := ⟨rfl, rfl, rfl, by decide +kernel, rfl, by decide +kernel, by decide +kernel⟩
theorem sc39 : FnScope N39 [PySem.Str.ofString "value"] (defScope s39) := ⟨rfl, rfl, rfl, by decide +kernel, rfl, by decide +kernel, by decide +kernel⟩
theorem sc40 : FnScope N40 [PySem.Str.ofString "four"] (defScope s40) := ⟨rfl, rfl, rfl, by decide +kernel, rfl, by decide +kernel, by decide +kernel⟩
theorem sc41 : FnScope N41 [PySem.Str.ofString "point"] (defScope s41) := ⟨rfl, rfl, rfl, by decide +kernel, rfl, by decide +kernel, by decide +kernel⟩
theorem sc42 : FnScope N42 [PySem.Str.ofString "one", PySem.Str.ofString "other"] (defScope s42) := ⟨rfl, rfl, rfl, by decide +kernel, rfl, by decide +kernel, by decide +kernel⟩
theorem sc43 : FnScope N43 [PySem.Str.ofString "pose", PySem.Str.ofString "other"] (defScope s43) := ⟨rfl, rfl, rfl, by decide +kernel, rfl, by decide +kernel, by decide +kernel⟩
theorem sc44 : FnScope N44 [PySem.Str.ofString "pot", PySem.Str.ofString "some"] (defScope s44) := ⟨rfl, rfl, rfl, by decide +kernel, rfl, by decide +kernel, by decide +kernel⟩
theorem sc45 : FnScope N45 [PySem.Str.ofString "one", PySem.Str.ofString "other"] (defScope s45) := ⟨rfl, rfl, rfl, by decide +kernel, rfl, by decide +kernel, by decide +kernel⟩
theorem sc46 : FnScope N46 [PySem.Str.ofString "one", PySem.Str.ofString "other"] (defScope s46) := ⟨rfl, rfl, rfl, by decide +kernel, rfl, by decide +kernel, by decide +kernel⟩
theorem sc47 : FnScope N47 [PySem.Str.ofString "one", PySem.Str.ofString "number"] (defScope s47) := ⟨rfl, rfl, rfl, by decide +kernel, rfl, by decide +kernel, by decide +kernel⟩
theorem sc48 : FnScope N48 [PySem.Str.ofString "one", PySem.Str.ofString "other"] (defScope s48) := ⟨rfl, rfl, rfl, by decide +kernel, rfl, by decide +kernel, by decide +kernel⟩
theorem sc49 : FnScope N49 [PySem.Str.ofString "one"] (defScope s49) := ⟨rfl, rfl, rfl, by decide +kernel, rfl, by decide +kernel, by decide +kernel⟩
theorem sc50 : FnScope N50 [PySem.Str.ofString "pot"] (defScope s50) := ⟨rfl, rfl, rfl, by decide +kernel, rfl, by decide +kernel, by decide +kernel⟩
theorem sc51 : FnScope N51 [PySem.Str.ofString "one", PySem.Str.ofString "other"] (defScope s51) := ⟨rfl, rfl, rfl, by decide +kernel, rfl, by decide +kernel, by decide +kernel⟩
theorem sc52 : FnScope N52 [PySem.Str.ofString "one", PySem.Str.ofString "other"] (defScope s52) := ⟨rfl, rfl, rfl, by decide +kernel, rfl, by decide +kernel, by decide +kernel⟩
theorem sc53 : FnScope N53 [PySem.Str.ofString "pot"] (defScope s53) := ⟨rfl, rfl, rfl, by decide +kernel, rfl, by decide +kernel, by decide +kernel⟩
theorem sc54 : FnScope N54 [PySem.Str.ofString "one"] (defScope s54) := ⟨rfl, rfl, rfl, by decide +kernel, rfl, by decide +kernel, by decide +kernel⟩
theorem sc55 : FnScope N55 [PySem.Str.ofString "pot"] (defScope s55) := ⟨rfl, rfl, rfl, by decide +kernel, rfl, by decide +kernel, by decide +kernel⟩
theorem sc56 : FnScope N56 [PySem.Str.ofString "script", PySem.Str.ofString "k"] (defScope s56) := ⟨rfl, rfl, rfl, by decide +kernel, rfl, by decide +kernel, by decide +kernel⟩
theorem sc57 : FnScope N57 [PySem.Str.ofString "script"] (defScope s57) := ⟨rfl, rfl, rfl, by decide +kernel, rfl, by decide +kernel, by decide +kernel⟩
theorem sc58 : FnScope N58 [PySem.Str.ofString "pot", PySem.Str.ofString "many"] (defScope s58) := ⟨rfl, rfl, rfl, by decide +kernel, rfl, by decide +kernel, by decide +kernel⟩
section
variable {P : Program} {w : World} {K : PySem.W.Frag} {mg : Str → Option Value} {base : Heap} {j : Nat}
theorem g0 (H : Hy K mg) (T : Tab P w K mg base j) {fd : FuncData} (Fd : FunD K (PySem.Str.ofString "is_integer") (PySem.Str.ofString "is_integer") (defArgs s0) (defBody s0) (defScope s0) [] [] (He.fAd K (PySem.Str.ofString "is_integer", none)) fd) : FnG P w K mg base false false (4 * (j + 1)) (He.fAd K (PySem.Str.ofString "is_integer", none)) fd [PySem.Str.ofString "value"] (spF (WW K) (runF (j + 1)) 0) :=
  fn_ev (W := WW K) (N := N0) (D := D0) (F' := runF j) rfl Fd sc0 (isFn_of rfl) fun X Wx h1 h2 h3 h4 h5 h6 h7 h8 en => by subst h1 h2 h3 h4 h5; exact b0 ⟨h6, h7⟩ en h8 H T
theorem g1 (H : Hy K mg) (T : Tab P w K mg base j) {fd : FuncData} (Fd : FunD K (PySem.Str.ofString "is_list") (PySem.Str.ofString "is_list") (defArgs s1) (defBody s1) (defScope s1) [] [] (He.fAd K (PySem.Str.ofString "is_list", none)) fd) : FnG P w K mg base false false (4 * (j + 1)) (He.fAd K (PySem.Str.ofString "is_list", none)) fd [PySem.Str.ofString "value"] (spF (WW K) (runF (j + 1)) 1) :=
  fn_ev (W := WW K) (N := N1) (D := D1) (F' := runF j) rfl Fd sc1 (isFn_of rfl) fun X Wx h1 h2 h3 h4 h5 h6 h7 h8 en => by subst h1 h2 h3 h4 h5; exact b1 ⟨h6, h7⟩ en h8 H T
theorem g2 (H : Hy K mg) (T : Tab P w K mg base j) {fd : FuncData} (Fd : FunD K (PySem.Str.ofString "digits_of") (PySem.Str.ofString "digits_of") (defArgs s2) (defBody s2) (defScope s2) [] [] (He.fAd K (PySem.Str.ofString "digits_of", none)) fd) : FnG P w K mg base false false (4 * (j + 1)) (He.fAd K (PySem.Str.ofString "digits_of", none)) fd [PySem.Str.ofString "number"] (spF (WW K) (runF (j + 1)) 2) :=
  fn_ev (W := WW K) (N := N2) (D := D2) (F' := runF j) rfl Fd sc2 (isFn_of rfl) fun X Wx h1 h2 h3 h4 h5 h6 h7 h8 en => by subst h1 h2 h3 h4 h5; exact b2 ⟨h6, h7⟩ en h8 H T
theorem g3 (H : Hy K mg) (T : Tab P w K mg base j) {fd : FuncData} (Fd : FunD K (PySem.Str.ofString "common_part") (PySem.Str.ofString "common_part") (defArgs s3) (defBody s3) (defScope s3) [] [] (He.fAd K (PySem.Str.ofString "common_part", none)) fd) : FnG P w K mg base false false (4 * (j + 1)) (He.fAd K (PySem.Str.ofString "common_part", none)) fd [PySem.Str.ofString "one", PySem.Str.ofString "other"] (spF (WW K) (runF (j + 1)) 3) :=
  fn_ev (W := WW K) (N := N3) (D := D3) (F' := runF j) rfl Fd sc3 (isFn_of rfl) fun X Wx h1 h2 h3 h4 h5 h6 h7 h8 en => by subst h1 h2 h3 h4 h5; exact b3 ⟨h6, h7⟩ en h8 H T
theorem g4 (H : Hy K mg) (T : Tab P w K mg base j) {fd : FuncData} (Fd : FunD K (PySem.Str.ofString "__init__") (PySem.Str.ofString "Ratio.__init__") (defArgs s4) (defBody s4) (defScope s4) [.int (1)] [] (He.fAd K (PySem.Str.ofString "Ratio", some (PySem.Str.ofString "__init__"))) fd) : FnG P w K mg base false false (4 * (j + 1)) (He.fAd K (PySem.Str.ofString "Ratio", some (PySem.Str.ofString "__init__"))) fd [PySem.Str.ofString "self", PySem.Str.ofString "top", PySem.Str.ofString "bottom"] (spI (WW K) (runF (j + 1)) 4 0) :=
  init_ev (W := WW K) (N := N4) (D := D4) (F' := runF j) rfl Fd sc4 (isIn_of rfl) (by decide) fun X Wx h1 h2 h3 h4 h5 h6 h7 h8 en => by subst h1 h2 h3 h4 h5; exact b4 ⟨h6, h7⟩ en h8 H T
theorem g5 (H : Hy K mg) (T : Tab P w K mg base j) {fd : FuncData} (Fd : FunD K (PySem.Str.ofString "__mul__") (PySem.Str.ofString "Ratio.__mul__") (defArgs s5) (defBody s5) (defScope s5) [] [] (He.fAd K (PySem.Str.ofString "Ratio", some (PySem.Str.ofString "__mul__"))) fd) : FnG P w K mg base false false (4 * (j + 1)) (He.fAd K (PySem.Str.ofString "Ratio", some (PySem.Str.ofString "__mul__"))) fd [PySem.Str.ofString "self", PySem.Str.ofString "other"] (spF (WW K) (runF (j + 1)) 5) :=
  fn_ev (W := WW K) (N := N5) (D := D5) (F' := runF j) rfl Fd sc5 (isFn_of rfl) fun X Wx h1 h2 h3 h4 h5 h6 h7 h8 en => by subst h1 h2 h3 h4 h5; exact b5 ⟨h6, h7⟩ en h8 H T
theorem g6 (H : Hy K mg) (T : Tab P w K mg base j) {fd : FuncData} (Fd : FunD K (PySem.Str.ofString "__eq__") (PySem.Str.ofString "Ratio.__eq__") (defArgs s6) (defBody s6) (defScope s6) [] [] (He.fAd K (PySem.Str.ofString "Ratio", some (PySem.Str.ofString "__eq__"))) fd) : FnG P w K mg base false false (4 * (j + 1)) (He.fAd K (PySem.Str.ofString "Ratio", some (PySem.Str.ofString "__eq__"))) fd [PySem.Str.ofString "self", PySem.Str.ofString "other"] (spF (WW K) (runF (j + 1)) 6) :=
  fn_ev (W := WW K) (N := N6) (D := D6) (F' := runF j) rfl Fd sc6 (isFn_of rfl) fun X Wx h1 h2 h3 h4 h5 h6 h7 h8 en => by subst h1 h2 h3 h4 h5; exact b6 ⟨h6, h7⟩ en h8 H T
theorem g7 (H : Hy K mg) (T : Tab P w K mg base j) {fd : FuncData} (Fd : FunD K (PySem.Str.ofString "__str__") (PySem.Str.ofString "Ratio.__str__") (defArgs s7) (defBody s7) (defScope s7) [] [] (He.fAd K (PySem.Str.ofString "Ratio", some (PySem.Str.ofString "__str__"))) fd) : FnG P w K mg base false false (4 * (j + 1)) (He.fAd K (PySem.Str.ofString "Ratio", some (PySem.Str.ofString "__str__"))) fd [PySem.Str.ofString "self"] (spF (WW K) (runF (j + 1)) 7) :=
  fn_ev (W := WW K) (N := N7) (D := D7) (F' := runF j) rfl Fd sc7 (isFn_of rfl) fun X Wx h1 h2 h3 h4 h5 h6 h7 h8 en => by subst h1 h2 h3 h4 h5; exact b7 ⟨h6, h7⟩ en h8 H T
theorem g8 (H : Hy K mg) (T : Tab P w K mg base j) {fd : FuncData} (Fd : FunD K (PySem.Str.ofString "told_pair") (PySem.Str.ofString "told_pair") (defArgs s8) (defBody s8) (defScope s8) [] [] (He.fAd K (PySem.Str.ofString "told_pair", none)) fd) : FnG P w K mg base false false (4 * (j + 1)) (He.fAd K (PySem.Str.ofString "told_pair", none)) fd [PySem.Str.ofString "value"] (spF (WW K) (runF (j + 1)) 8) :=
  fn_ev (W := WW K) (N := N8) (D := D8) (F' := runF j) rfl Fd sc8 (isFn_of rfl) fun X Wx h1 h2 h3 h4 h5 h6 h7 h8 en => by subst h1 h2 h3 h4 h5; exact b8 ⟨h6, h7⟩ en h8 H T
theorem g9 (H : Hy K mg) (T : Tab P w K mg base j) {fd : FuncData} (Fd : FunD K (PySem.Str.ofString "is_number") (PySem.Str.ofString "is_number") (defArgs s9) (defBody s9) (defScope s9) [] [] (He.fAd K (PySem.Str.ofString "is_number", none)) fd) : FnG P w K mg base false false (4 * (j + 1)) (He.fAd K (PySem.Str.ofString "is_number", none)) fd [PySem.Str.ofString "value"] (spF (WW K) (runF (j + 1)) 9) :=
  fn_ev (W := WW K) (N := N9) (D := D9) (F' := runF j) rfl Fd sc9 (isFn_of rfl) fun X Wx h1 h2 h3 h4 h5 h6 h7 h8 en => by subst h1 h2 h3 h4 h5; exact b9 ⟨h6, h7⟩ en h8 H T
theorem g10 (H : Hy K mg) (T : Tab P w K mg base j) {fd : FuncData} (Fd : FunD K (PySem.Str.ofString "ratio_of") (PySem.Str.ofString "ratio_of") (defArgs s10) (defBody s10) (defScope s10) [] [] (He.fAd K (PySem.Str.ofString "ratio_of", none)) fd) : FnG P w K mg base false false (4 * (j + 1)) (He.fAd K (PySem.Str.ofString "ratio_of", none)) fd [PySem.Str.ofString "number"] (spF (WW K) (runF (j + 1)) 10) :=
  fn_ev (W := WW K) (N := N10) (D := D10) (F' := runF j) rfl Fd sc10 (isFn_of rfl) fun X Wx h1 h2 h3 h4 h5 h6 h7 h8 en => by subst h1 h2 h3 h4 h5; exact b10 ⟨h6, h7⟩ en h8 H T
theorem g11 (H : Hy K mg) (T : Tab P w K mg base j) {fd : FuncData} (Fd : FunD K (PySem.Str.ofString "want_number") (PySem.Str.ofString "want_number") (defArgs s11) (defBody s11) (defScope s11) [] [] (He.fAd K (PySem.Str.ofString "want_number", none)) fd) : FnG P w K mg base false false (4 * (j + 1)) (He.fAd K (PySem.Str.ofString "want_number", none)) fd [PySem.Str.ofString "value"] (spF (WW K) (runF (j + 1)) 11) :=
  fn_ev (W := WW K) (N := N11) (D := D11) (F' := runF j) rfl Fd sc11 (isFn_of rfl) fun X Wx h1 h2 h3 h4 h5 h6 h7 h8 en => by subst h1 h2 h3 h4 h5; exact b11 ⟨h6, h7⟩ en h8 H T
theorem g12 (H : Hy K mg) (T : Tab P w K mg base j) {fd : FuncData} (Fd : FunD K (PySem.Str.ofString "wholes") (PySem.Str.ofString "wholes") (defArgs s12) (defBody s12) (defScope s12) [] [] (He.fAd K (PySem.Str.ofString "wholes", none)) fd) : FnG P w K mg base false false (4 * (j + 1)) (He.fAd K (PySem.Str.ofString "wholes", none)) fd [PySem.Str.ofString "ratios"] (spF (WW K) (runF (j + 1)) 12) :=
  fn_ev (W := WW K) (N := N12) (D := D12) (F' := runF j) rfl Fd sc12 (isFn_of rfl) fun X Wx h1 h2 h3 h4 h5 h6 h7 h8 en => by subst h1 h2 h3 h4 h5; exact b12 ⟨h6, h7⟩ en h8 H T
theorem g13 (H : Hy K mg) (T : Tab P w K mg base j) {fd : FuncData} (Fd : FunD K (PySem.Str.ofString "are_numbers") (PySem.Str.ofString "are_numbers") (defArgs s13) (defBody s13) (defScope s13) [] [] (He.fAd K (PySem.Str.ofString "are_numbers", none)) fd) : FnG P w K mg base false false (4 * (j + 1)) (He.fAd K (PySem.Str.ofString "are_numbers", none)) fd [PySem.Str.ofString "value", PySem.Str.ofString "many"] (spF (WW K) (runF (j + 1)) 13) :=
  fn_ev (W := WW K) (N := N13) (D := D13) (F' := runF j) rfl Fd sc13 (isFn_of rfl) fun X Wx h1 h2 h3 h4 h5 h6 h7 h8 en => by subst h1 h2 h3 h4 h5; exact b13 ⟨h6, h7⟩ en h8 H T
theorem g14 (H : Hy K mg) (T : Tab P w K mg base j) {fd : FuncData} (Fd : FunD K (PySem.Str.ofString "is_four") (PySem.Str.ofString "is_four") (defArgs s14) (defBody s14) (defScope s14) [] [] (He.fAd K (PySem.Str.ofString "is_four", none)) fd) : FnG P w K mg base false false (4 * (j + 1)) (He.fAd K (PySem.Str.ofString "is_four", none)) fd [PySem.Str.ofString "value"] (spF (WW K) (runF (j + 1)) 14) :=
  fn_ev (W := WW K) (N := N14) (D := D14) (F' := runF j) rfl Fd sc14 (isFn_of rfl) fun X Wx h1 h2 h3 h4 h5 h6 h7 h8 en => by subst h1 h2 h3 h4 h5; exact b14 ⟨h6, h7⟩ en h8 H T
theorem g15 (H : Hy K mg) (T : Tab P w K mg base j) {fd : FuncData} (Fd : FunD K (PySem.Str.ofString "is_point") (PySem.Str.ofString "is_point") (defArgs s15) (defBody s15) (defScope s15) [] [] (He.fAd K (PySem.Str.ofString "is_point", none)) fd) : FnG P w K mg base false false (4 * (j + 1)) (He.fAd K (PySem.Str.ofString "is_point", none)) fd [PySem.Str.ofString "value"] (spF (WW K) (runF (j + 1)) 15) :=
  fn_ev (W := WW K) (N := N15) (D := D15) (F' := runF j) rfl Fd sc15 (isFn_of rfl) fun X Wx h1 h2 h3 h4 h5 h6 h7 h8 en => by subst h1 h2 h3 h4 h5; exact b15 ⟨h6, h7⟩ en h8 H T
theorem g16 (H : Hy K mg) (T : Tab P w K mg base j) {fd : FuncData} (Fd : FunD K (PySem.Str.ofString "want_four") (PySem.Str.ofString "want_four") (defArgs s16) (defBody s16) (defScope s16) [] [] (He.fAd K (PySem.Str.ofString "want_four", none)) fd) : FnG P w K mg base false false (4 * (j + 1)) (He.fAd K (PySem.Str.ofString "want_four", none)) fd [PySem.Str.ofString "value"] (spF (WW K) (runF (j + 1)) 16) :=
  fn_ev (W := WW K) (N := N16) (D := D16) (F' := runF j) rfl Fd sc16 (isFn_of rfl) fun X Wx h1 h2 h3 h4 h5 h6 h7 h8 en => by subst h1 h2 h3 h4 h5; exact b16 ⟨h6, h7⟩ en h8 H T
theorem g17 (H : Hy K mg) (T : Tab P w K mg base j) {fd : FuncData} (Fd : FunD K (PySem.Str.ofString "want_point") (PySem.Str.ofString "want_point") (defArgs s17) (defBody s17) (defScope s17) [] [] (He.fAd K (PySem.Str.ofString "want_point", none)) fd) : FnG P w K mg base false false (4 * (j + 1)) (He.fAd K (PySem.Str.ofString "want_point", none)) fd [PySem.Str.ofString "value"] (spF (WW K) (runF (j + 1)) 17) :=
  fn_ev (W := WW K) (N := N17) (D := D17) (F' := runF j) rfl Fd sc17 (isFn_of rfl) fun X Wx h1 h2 h3 h4 h5 h6 h7 h8 en => by subst h1 h2 h3 h4 h5; exact b17 ⟨h6, h7⟩ en h8 H T
theorem g18 (H : Hy K mg) (T : Tab P w K mg base j) {fd : FuncData} (Fd : FunD K (PySem.Str.ofString "four_product") (PySem.Str.ofString "four_product") (defArgs s18) (defBody s18) (defScope s18) [] [] (He.fAd K (PySem.Str.ofString "four_product", none)) fd) : FnG P w K mg base false false (4 * (j + 1)) (He.fAd K (PySem.Str.ofString "four_product", none)) fd [PySem.Str.ofString "one", PySem.Str.ofString "other"] (spF (WW K) (runF (j + 1)) 18) :=
  fn_ev (W := WW K) (N := N18) (D := D18) (F' := runF j) rfl Fd sc18 (isFn_of rfl) fun X Wx h1 h2 h3 h4 h5 h6 h7 h8 en => by subst h1 h2 h3 h4 h5; exact b18 ⟨h6, h7⟩ en h8 H T
theorem g19 (H : Hy K mg) (T : Tab P w K mg base j) {fd : FuncData} (Fd : FunD K (PySem.Str.ofString "dot") (PySem.Str.ofString "dot") (defArgs s19) (defBody s19) (defScope s19) [] [] (He.fAd K (PySem.Str.ofString "dot", none)) fd) : FnG P w K mg base false false (4 * (j + 1)) (He.fAd K (PySem.Str.ofString "dot", none)) fd [PySem.Str.ofString "one", PySem.Str.ofString "other"] (spF (WW K) (runF (j + 1)) 19) :=
  fn_ev (W := WW K) (N := N19) (D := D19) (F' := runF j) rfl Fd sc19 (isFn_of rfl) fun X Wx h1 h2 h3 h4 h5 h6 h7 h8 en => by subst h1 h2 h3 h4 h5; exact b19 ⟨h6, h7⟩ en h8 H T
theorem g20 (H : Hy K mg) (T : Tab P w K mg base j) {fd : FuncData} (Fd : FunD K (PySem.Str.ofString "told_row") (PySem.Str.ofString "told_row") (defArgs s20) (defBody s20) (defScope s20) [] [] (He.fAd K (PySem.Str.ofString "told_row", none)) fd) : FnG P w K mg base false false (4 * (j + 1)) (He.fAd K (PySem.Str.ofString "told_row", none)) fd [PySem.Str.ofString "tops", PySem.Str.ofString "bottom"] (spF (WW K) (runF (j + 1)) 20) :=
  fn_ev (W := WW K) (N := N20) (D := D20) (F' := runF j) rfl Fd sc20 (isFn_of rfl) fun X Wx h1 h2 h3 h4 h5 h6 h7 h8 en => by subst h1 h2 h3 h4 h5; exact b20 ⟨h6, h7⟩ en h8 H T
theorem g21 (H : Hy K mg) (T : Tab P w K mg base j) {fd : FuncData} (Fd : FunD K (PySem.Str.ofString "norm_four") (PySem.Str.ofString "norm_four") (defArgs s21) (defBody s21) (defScope s21) [] [] (He.fAd K (PySem.Str.ofString "norm_four", none)) fd) : FnG P w K mg base false false (4 * (j + 1)) (He.fAd K (PySem.Str.ofString "norm_four", none)) fd [PySem.Str.ofString "four"] (spF (WW K) (runF (j + 1)) 21) :=
  fn_ev (W := WW K) (N := N21) (D := D21) (F' := runF j) rfl Fd sc21 (isFn_of rfl) fun X Wx h1 h2 h3 h4 h5 h6 h7 h8 en => by subst h1 h2 h3 h4 h5; exact b21 ⟨h6, h7⟩ en h8 H T
theorem g22 (H : Hy K mg) (T : Tab P w K mg base j) {fd : FuncData} (Fd : FunD K (PySem.Str.ofString "__init__") (PySem.Str.ofString "Told.__init__") (defArgs s22) (defBody s22) (defScope s22) [] [] (He.fAd K (PySem.Str.ofString "Told", some (PySem.Str.ofString "__init__"))) fd) : FnG P w K mg base false false (4 * (j + 1)) (He.fAd K (PySem.Str.ofString "Told", some (PySem.Str.ofString "__init__"))) fd [PySem.Str.ofString "self", PySem.Str.ofString "bottom", PySem.Str.ofString "numbers"] (spI (WW K) (runF (j + 1)) 22 1) :=
  init_ev (W := WW K) (N := N22) (D := D22) (F' := runF j) rfl Fd sc22 (isIn_of rfl) (by decide) fun X Wx h1 h2 h3 h4 h5 h6 h7 h8 en => by subst h1 h2 h3 h4 h5; exact b22 ⟨h6, h7⟩ en h8 H T
theorem g23 (H : Hy K mg) (T : Tab P w K mg base j) {fd : FuncData} (Fd : FunD K (PySem.Str.ofString "lowest") (PySem.Str.ofString "lowest") (defArgs s23) (defBody s23) (defScope s23) [] [] (He.fAd K (PySem.Str.ofString "lowest", none)) fd) : FnG P w K mg base false false (4 * (j + 1)) (He.fAd K (PySem.Str.ofString "lowest", none)) fd [PySem.Str.ofString "bottom", PySem.Str.ofString "numbers"] (spF (WW K) (runF (j + 1)) 23) :=
  fn_ev (W := WW K) (N := N23) (D := D23) (F' := runF j) rfl Fd sc23 (isFn_of rfl) fun X Wx h1 h2 h3 h4 h5 h6 h7 h8 en => by subst h1 h2 h3 h4 h5; exact b23 ⟨h6, h7⟩ en h8 H T
theorem g24 (H : Hy K mg) (T : Tab P w K mg base j) {fd : FuncData} (Fd : FunD K (PySem.Str.ofString "told_eight") (PySem.Str.ofString "told_eight") (defArgs s24) (defBody s24) (defScope s24) [] [] (He.fAd K (PySem.Str.ofString "told_eight", none)) fd) : FnG P w K mg base false false (4 * (j + 1)) (He.fAd K (PySem.Str.ofString "told_eight", none)) fd [PySem.Str.ofString "first", PySem.Str.ofString "second"] (spF (WW K) (runF (j + 1)) 24) :=
  fn_ev (W := WW K) (N := N24) (D := D24) (F' := runF j) rfl Fd sc24 (isFn_of rfl) fun X Wx h1 h2 h3 h4 h5 h6 h7 h8 en => by subst h1 h2 h3 h4 h5; exact b24 ⟨h6, h7⟩ en h8 H T
theorem g25 (H : Hy K mg) (T : Tab P w K mg base j) {fd : FuncData} (Fd : FunD K (PySem.Str.ofString "__init__") (PySem.Str.ofString "Eight.__init__") (defArgs s25) (defBody s25) (defScope s25) [.ref (He.dflAt (PySem.Str.ofString "Eight", some (PySem.Str.ofString "__init__")) 0 K)] [] (He.fAd K (PySem.Str.ofString "Eight", some (PySem.Str.ofString "__init__"))) fd) : FnG P w K mg base false false (4 * (j + 1)) (He.fAd K (PySem.Str.ofString "Eight", some (PySem.Str.ofString "__init__"))) fd [PySem.Str.ofString "self", PySem.Str.ofString "first", PySem.Str.ofString "second"] (spI (WW K) (runF (j + 1)) 25 2) :=
  init_ev (W := WW K) (N := N25) (D := D25) (F' := runF j) rfl Fd sc25 (isIn_of rfl) (by decide) fun X Wx h1 h2 h3 h4 h5 h6 h7 h8 en => by subst h1 h2 h3 h4 h5; exact b25 ⟨h6, h7⟩ en h8 H T
theorem g26 (H : Hy K mg) (T : Tab P w K mg base j) {fd : FuncData} (Fd : FunD K (PySem.Str.ofString "first") (PySem.Str.ofString "Eight.first") (defArgs s26) (defBody s26) (defScope s26) [] [] (He.fAd K (PySem.Str.ofString "Eight", some (PySem.Str.ofString "first"))) fd) : FnG P w K mg base false false (4 * (j + 1)) (He.fAd K (PySem.Str.ofString "Eight", some (PySem.Str.ofString "first"))) fd [PySem.Str.ofString "self"] (spF (WW K) (runF (j + 1)) 26) :=
  fn_ev (W := WW K) (N := N26) (D := D26) (F' := runF j) rfl Fd sc26 (isFn_of rfl) fun X Wx h1 h2 h3 h4 h5 h6 h7 h8 en => by subst h1 h2 h3 h4 h5; exact b26 ⟨h6, h7⟩ en h8 H T
theorem g27 (H : Hy K mg) (T : Tab P w K mg base j) {fd : FuncData} (Fd : FunD K (PySem.Str.ofString "times") (PySem.Str.ofString "Eight.times") (defArgs s27) (defBody s27) (defScope s27) [] [] (He.fAd K (PySem.Str.ofString "Eight", some (PySem.Str.ofString "times"))) fd) : FnG P w K mg base false false (4 * (j + 1)) (He.fAd K (PySem.Str.ofString "Eight", some (PySem.Str.ofString "times"))) fd [PySem.Str.ofString "self", PySem.Str.ofString "number"] (spF (WW K) (runF (j + 1)) 27) :=
  fn_ev (W := WW K) (N := N27) (D := D27) (F' := runF j) rfl Fd sc27 (isFn_of rfl) fun X Wx h1 h2 h3 h4 h5 h6 h7 h8 en => by subst h1 h2 h3 h4 h5; exact b27 ⟨h6, h7⟩ en h8 H T
theorem g28 (H : Hy K mg) (T : Tab P w K mg base j) {fd : FuncData} (Fd : FunD K (PySem.Str.ofString "__mul__") (PySem.Str.ofString "Eight.__mul__") (defArgs s28) (defBody s28) (defScope s28) [] [] (He.fAd K (PySem.Str.ofString "Eight", some (PySem.Str.ofString "__mul__"))) fd) : FnG P w K mg base false false (4 * (j + 1)) (He.fAd K (PySem.Str.ofString "Eight", some (PySem.Str.ofString "__mul__"))) fd [PySem.Str.ofString "self", PySem.Str.ofString "other"] (spF (WW K) (runF (j + 1)) 28) :=
  fn_ev (W := WW K) (N := N28) (D := D28) (F' := runF j) rfl Fd sc28 (isFn_of rfl) fun X Wx h1 h2 h3 h4 h5 h6 h7 h8 en => by subst h1 h2 h3 h4 h5; exact b28 ⟨h6, h7⟩ en h8 H T
theorem g29 (H : Hy K mg) (T : Tab P w K mg base j) {fd : FuncData} (Fd : FunD K (PySem.Str.ofString "__eq__") (PySem.Str.ofString "Eight.__eq__") (defArgs s29) (defBody s29) (defScope s29) [] [] (He.fAd K (PySem.Str.ofString "Eight", some (PySem.Str.ofString "__eq__"))) fd) : FnG P w K mg base false false (4 * (j + 1)) (He.fAd K (PySem.Str.ofString "Eight", some (PySem.Str.ofString "__eq__"))) fd [PySem.Str.ofString "self", PySem.Str.ofString "other"] (spF (WW K) (runF (j + 1)) 29) :=
  fn_ev (W := WW K) (N := N29) (D := D29) (F' := runF j) rfl Fd sc29 (isFn_of rfl) fun X Wx h1 h2 h3 h4 h5 h6 h7 h8 en => by subst h1 h2 h3 h4 h5; exact b29 ⟨h6, h7⟩ en h8 H T
theorem g30 (H : Hy K mg) (T : Tab P w K mg base j) {fd : FuncData} (Fd : FunD K (PySem.Str.ofString "__repr__") (PySem.Str.ofString "Eight.__repr__") (defArgs s30) (defBody s30) (defScope s30) [] [] (He.fAd K (PySem.Str.ofString "Eight", some (PySem.Str.ofString "__repr__"))) fd) : FnG P w K mg base false false (4 * (j + 1)) (He.fAd K (PySem.Str.ofString "Eight", some (PySem.Str.ofString "__repr__"))) fd [PySem.Str.ofString "self"] (spF (WW K) (runF (j + 1)) 30) :=
  fn_ev (W := WW K) (N := N30) (D := D30) (F' := runF j) rfl Fd sc30 (isFn_of rfl) fun X Wx h1 h2 h3 h4 h5 h6 h7 h8 en => by subst h1 h2 h3 h4 h5; exact b30 ⟨h6, h7⟩ en h8 H T
theorem g31 (H : Hy K mg) (T : Tab P w K mg base j) {fd : FuncData} (Fd : FunD K (PySem.Str.ofString "four_text") (PySem.Str.ofString "four_text") (defArgs s31) (defBody s31) (defScope s31) [] [] (He.fAd K (PySem.Str.ofString "four_text", none)) fd) : FnG P w K mg base false false (4 * (j + 1)) (He.fAd K (PySem.Str.ofString "four_text", none)) fd [PySem.Str.ofString "numbers", PySem.Str.ofString "bottom"] (spF (WW K) (runF (j + 1)) 31) :=
  fn_ev (W := WW K) (N := N31) (D := D31) (F' := runF j) rfl Fd sc31 (isFn_of rfl) fun X Wx h1 h2 h3 h4 h5 h6 h7 h8 en => by subst h1 h2 h3 h4 h5; exact b31 ⟨h6, h7⟩ en h8 H T
theorem g32 (H : Hy K mg) (T : Tab P w K mg base j) {fd : FuncData} (Fd : FunD K (PySem.Str.ofString "eight_by") (PySem.Str.ofString "eight_by") (defArgs s32) (defBody s32) (defScope s32) [] [] (He.fAd K (PySem.Str.ofString "eight_by", none)) fd) : FnG P w K mg base false false (4 * (j + 1)) (He.fAd K (PySem.Str.ofString "eight_by", none)) fd [PySem.Str.ofString "bottom", PySem.Str.ofString "numbers"] (spF (WW K) (runF (j + 1)) 32) :=
  fn_ev (W := WW K) (N := N32) (D := D32) (F' := runF j) rfl Fd sc32 (isFn_of rfl) fun X Wx h1 h2 h3 h4 h5 h6 h7 h8 en => by subst h1 h2 h3 h4 h5; exact b32 ⟨h6, h7⟩ en h8 H T
theorem g33 (H : Hy K mg) (T : Tab P w K mg base j) {fd : FuncData} (Fd : FunD K (PySem.Str.ofString "numbers_product") (PySem.Str.ofString "numbers_product") (defArgs s33) (defBody s33) (defScope s33) [] [] (He.fAd K (PySem.Str.ofString "numbers_product", none)) fd) : FnG P w K mg base false false (4 * (j + 1)) (He.fAd K (PySem.Str.ofString "numbers_product", none)) fd [PySem.Str.ofString "one", PySem.Str.ofString "other"] (spF (WW K) (runF (j + 1)) 33) :=
  fn_ev (W := WW K) (N := N33) (D := D33) (F' := runF j) rfl Fd sc33 (isFn_of rfl) fun X Wx h1 h2 h3 h4 h5 h6 h7 h8 en => by subst h1 h2 h3 h4 h5; exact b33 ⟨h6, h7⟩ en h8 H T
theorem g34 (H : Hy K mg) (T : Tab P w K mg base j) {fd : FuncData} (Fd : FunD K (PySem.Str.ofString "product_of_eights") (PySem.Str.ofString "product_of_eights") (defArgs s34) (defBody s34) (defScope s34) [] [] (He.fAd K (PySem.Str.ofString "product_of_eights", none)) fd) : FnG P w K mg base false false (4 * (j + 1)) (He.fAd K (PySem.Str.ofString "product_of_eights", none)) fd [PySem.Str.ofString "one", PySem.Str.ofString "other"] (spF (WW K) (runF (j + 1)) 34) :=
  fn_ev (W := WW K) (N := N34) (D := D34) (F' := runF j) rfl Fd sc34 (isFn_of rfl) fun X Wx h1 h2 h3 h4 h5 h6 h7 h8 en => by subst h1 h2 h3 h4 h5; exact b34 ⟨h6, h7⟩ en h8 H T
theorem g35 (H : Hy K mg) (T : Tab P w K mg base j) {fd : FuncData} (Fd : FunD K (PySem.Str.ofString "by_ratio") (PySem.Str.ofString "by_ratio") (defArgs s35) (defBody s35) (defScope s35) [] [] (He.fAd K (PySem.Str.ofString "by_ratio", none)) fd) : FnG P w K mg base false false (4 * (j + 1)) (He.fAd K (PySem.Str.ofString "by_ratio", none)) fd [PySem.Str.ofString "eight", PySem.Str.ofString "ratio"] (spF (WW K) (runF (j + 1)) 35) :=
  fn_ev (W := WW K) (N := N35) (D := D35) (F' := runF j) rfl Fd sc35 (isFn_of rfl) fun X Wx h1 h2 h3 h4 h5 h6 h7 h8 en => by subst h1 h2 h3 h4 h5; exact b35 ⟨h6, h7⟩ en h8 H T
theorem g36 (H : Hy K mg) (T : Tab P w K mg base j) {fd : FuncData} (Fd : FunD K (PySem.Str.ofString "are_pose") (PySem.Str.ofString "are_pose") (defArgs s36) (defBody s36) (defScope s36) [] [] (He.fAd K (PySem.Str.ofString "are_pose", none)) fd) : FnG P w K mg base false false (4 * (j + 1)) (He.fAd K (PySem.Str.ofString "are_pose", none)) fd [PySem.Str.ofString "numbers"] (spF (WW K) (runF (j + 1)) 36) :=
  fn_ev (W := WW K) (N := N36) (D := D36) (F' := runF j) rfl Fd sc36 (isFn_of rfl) fun X Wx h1 h2 h3 h4 h5 h6 h7 h8 en => by subst h1 h2 h3 h4 h5; exact b36 ⟨h6, h7⟩ en h8 H T
theorem g37 (H : Hy K mg) (T : Tab P w K mg base j) {fd : FuncData} (Fd : FunD K (PySem.Str.ofString "want_eight") (PySem.Str.ofString "want_eight") (defArgs s37) (defBody s37) (defScope s37) [] [] (He.fAd K (PySem.Str.ofString "want_eight", none)) fd) : FnG P w K mg base false false (4 * (j + 1)) (He.fAd K (PySem.Str.ofString "want_eight", none)) fd [PySem.Str.ofString "value"] (spF (WW K) (runF (j + 1)) 37) :=
  fn_ev (W := WW K) (N := N37) (D := D37) (F' := runF j) rfl Fd sc37 (isFn_of rfl) fun X Wx h1 h2 h3 h4 h5 h6 h7 h8 en => by subst h1 h2 h3 h4 h5; exact b37 ⟨h6, h7⟩ en h8 H T
theorem g38 (H : Hy K mg) (T : Tab P w K mg base j) {fd : FuncData} (Fd : FunD K (PySem.Str.ofString "is_pose_eight") (PySem.Str.ofString "is_pose_eight") (defArgs s38) (defBody s38) (defScope s38) [] [] (He.fAd K (PySem.Str.ofString "is_pose_eight", none)) fd) : FnG P w K mg base false false (4 * (j + 1)) (He.fAd K (PySem.Str.ofString "is_pose_eight", none)) fd [PySem.Str.ofString "value"] (spF (WW K) (runF (j + 1)) 38) :=
  fn_ev (W := WW K) (N := N38) (D := D38) (F' := runF j) rfl Fd sc38 (isFn_of rfl) fun X Wx h1 h2 h3 h4 h5 h6 h7 h8 en => by subst h1 h2 h3 h4 h5; exact b38 ⟨h6, h7⟩ en h8 H T
theorem g39 (H : Hy K mg) (T : Tab P w K mg base j) {fd : FuncData} (Fd : FunD K (PySem.Str.ofString "want_pose") (PySem.Str.ofString "want_pose") (defArgs s39) (defBody s39) (defScope s39) [] [] (He.fAd K (PySem.Str.ofString "want_pose", none)) fd) : FnG P w K mg base false false (4 * (j + 1)) (He.fAd K (PySem.Str.ofString "want_pose", none)) fd [PySem.Str.ofString "value"] (spF (WW K) (runF (j + 1)) 39) :=
  fn_ev (W := WW K) (N := N39) (D := D39) (F' := runF j) rfl Fd sc39 (isFn_of rfl) fun X Wx h1 h2 h3 h4 h5 h6 h7 h8 en => by subst h1 h2 h3 h4 h5; exact b39 ⟨h6, h7⟩ en h8 H T
theorem g40 (H : Hy K mg) (T : Tab P w K mg base j) {fd : FuncData} (Fd : FunD K (PySem.Str.ofString "turn_pose") (PySem.Str.ofString "turn_pose") (defArgs s40) (defBody s40) (defScope s40) [] [] (He.fAd K (PySem.Str.ofString "turn_pose", none)) fd) : FnG P w K mg base false false (4 * (j + 1)) (He.fAd K (PySem.Str.ofString "turn_pose", none)) fd [PySem.Str.ofString "four"] (spF (WW K) (runF (j + 1)) 40) :=
  fn_ev (W := WW K) (N := N40) (D := D40) (F' := runF j) rfl Fd sc40 (isFn_of rfl) fun X Wx h1 h2 h3 h4 h5 h6 h7 h8 en => by subst h1 h2 h3 h4 h5; exact b40 ⟨h6, h7⟩ en h8 H T
theorem g41 (H : Hy K mg) (T : Tab P w K mg base j) {fd : FuncData} (Fd : FunD K (PySem.Str.ofString "go_pose") (PySem.Str.ofString "go_pose") (defArgs s41) (defBody s41) (defScope s41) [] [] (He.fAd K (PySem.Str.ofString "go_pose", none)) fd) : FnG P w K mg base false false (4 * (j + 1)) (He.fAd K (PySem.Str.ofString "go_pose", none)) fd [PySem.Str.ofString "point"] (spF (WW K) (runF (j + 1)) 41) :=
  fn_ev (W := WW K) (N := N41) (D := D41) (F' := runF j) rfl Fd sc41 (isFn_of rfl) fun X Wx h1 h2 h3 h4 h5 h6 h7 h8 en => by subst h1 h2 h3 h4 h5; exact b41 ⟨h6, h7⟩ en h8 H T
theorem g42 (H : Hy K mg) (T : Tab P w K mg base j) {fd : FuncData} (Fd : FunD K (PySem.Str.ofString "between_of") (PySem.Str.ofString "between_of") (defArgs s42) (defBody s42) (defScope s42) [] [] (He.fAd K (PySem.Str.ofString "between_of", none)) fd) : FnG P w K mg base false false (4 * (j + 1)) (He.fAd K (PySem.Str.ofString "between_of", none)) fd [PySem.Str.ofString "one", PySem.Str.ofString "other"] (spF (WW K) (runF (j + 1)) 42) :=
  fn_ev (W := WW K) (N := N42) (D := D42) (F' := runF j) rfl Fd sc42 (isFn_of rfl) fun X Wx h1 h2 h3 h4 h5 h6 h7 h8 en => by subst h1 h2 h3 h4 h5; exact b42 ⟨h6, h7⟩ en h8 H T
theorem g43 (H : Hy K mg) (T : Tab P w K mg base j) {fd : FuncData} (Fd : FunD K (PySem.Str.ofString "between") (PySem.Str.ofString "between") (defArgs s43) (defBody s43) (defScope s43) [] [] (He.fAd K (PySem.Str.ofString "between", none)) fd) : FnG P w K mg base false false (4 * (j + 1)) (He.fAd K (PySem.Str.ofString "between", none)) fd [PySem.Str.ofString "pose", PySem.Str.ofString "other"] (spF (WW K) (runF (j + 1)) 43) :=
  fn_ev (W := WW K) (N := N43) (D := D43) (F' := runF j) rfl Fd sc43 (isFn_of rfl) fun X Wx h1 h2 h3 h4 h5 h6 h7 h8 en => by subst h1 h2 h3 h4 h5; exact b43 ⟨h6, h7⟩ en h8 H T
theorem g44 (H : Hy K mg) (T : Tab P w K mg base j) {fd : FuncData} (Fd : FunD K (PySem.Str.ofString "_law_pick") (PySem.Str.ofString "_law_pick") (defArgs s44) (defBody s44) (defScope s44) [] [] (He.fAd K (PySem.Str.ofString "_law_pick", none)) fd) : FnG P w K mg base false false (4 * (j + 1)) (He.fAd K (PySem.Str.ofString "_law_pick", none)) fd [PySem.Str.ofString "pot", PySem.Str.ofString "some"] (spF (WW K) (runF (j + 1)) 44) :=
  fn_ev (W := WW K) (N := N44) (D := D44) (F' := runF j) rfl Fd sc44 (isFn_of rfl) fun X Wx h1 h2 h3 h4 h5 h6 h7 h8 en => by subst h1 h2 h3 h4 h5; exact b44 ⟨h6, h7⟩ en h8 H T
theorem g45 (H : Hy K mg) (T : Tab P w K mg base j) {fd : FuncData} (Fd : FunD K (PySem.Str.ofString "_law_four") (PySem.Str.ofString "_law_four") (defArgs s45) (defBody s45) (defScope s45) [] [] (He.fAd K (PySem.Str.ofString "_law_four", none)) fd) : FnG P w K mg base false false (4 * (j + 1)) (He.fAd K (PySem.Str.ofString "_law_four", none)) fd [PySem.Str.ofString "one", PySem.Str.ofString "other"] (spF (WW K) (runF (j + 1)) 45) :=
  fn_ev (W := WW K) (N := N45) (D := D45) (F' := runF j) rfl Fd sc45 (isFn_of rfl) fun X Wx h1 h2 h3 h4 h5 h6 h7 h8 en => by subst h1 h2 h3 h4 h5; exact b45 ⟨h6, h7⟩ en h8 H T
theorem g46 (H : Hy K mg) (T : Tab P w K mg base j) {fd : FuncData} (Fd : FunD K (PySem.Str.ofString "_law_plus") (PySem.Str.ofString "_law_plus") (defArgs s46) (defBody s46) (defScope s46) [] [] (He.fAd K (PySem.Str.ofString "_law_plus", none)) fd) : FnG P w K mg base false false (4 * (j + 1)) (He.fAd K (PySem.Str.ofString "_law_plus", none)) fd [PySem.Str.ofString "one", PySem.Str.ofString "other"] (spF (WW K) (runF (j + 1)) 46) :=
  fn_ev (W := WW K) (N := N46) (D := D46) (F' := runF j) rfl Fd sc46 (isFn_of rfl) fun X Wx h1 h2 h3 h4 h5 h6 h7 h8 en => by subst h1 h2 h3 h4 h5; exact b46 ⟨h6, h7⟩ en h8 H T
theorem g47 (H : Hy K mg) (T : Tab P w K mg base j) {fd : FuncData} (Fd : FunD K (PySem.Str.ofString "_law_by") (PySem.Str.ofString "_law_by") (defArgs s47) (defBody s47) (defScope s47) [] [] (He.fAd K (PySem.Str.ofString "_law_by", none)) fd) : FnG P w K mg base false false (4 * (j + 1)) (He.fAd K (PySem.Str.ofString "_law_by", none)) fd [PySem.Str.ofString "one", PySem.Str.ofString "number"] (spF (WW K) (runF (j + 1)) 47) :=
  fn_ev (W := WW K) (N := N47) (D := D47) (F' := runF j) rfl Fd sc47 (isFn_of rfl) fun X Wx h1 h2 h3 h4 h5 h6 h7 h8 en => by subst h1 h2 h3 h4 h5; exact b47 ⟨h6, h7⟩ en h8 H T
theorem g48 (H : Hy K mg) (T : Tab P w K mg base j) {fd : FuncData} (Fd : FunD K (PySem.Str.ofString "_law_times") (PySem.Str.ofString "_law_times") (defArgs s48) (defBody s48) (defScope s48) [] [] (He.fAd K (PySem.Str.ofString "_law_times", none)) fd) : FnG P w K mg base false false (4 * (j + 1)) (He.fAd K (PySem.Str.ofString "_law_times", none)) fd [PySem.Str.ofString "one", PySem.Str.ofString "other"] (spF (WW K) (runF (j + 1)) 48) :=
  fn_ev (W := WW K) (N := N48) (D := D48) (F' := runF j) rfl Fd sc48 (isFn_of rfl) fun X Wx h1 h2 h3 h4 h5 h6 h7 h8 en => by subst h1 h2 h3 h4 h5; exact b48 ⟨h6, h7⟩ en h8 H T
theorem g49 (H : Hy K mg) (T : Tab P w K mg base j) {fd : FuncData} (Fd : FunD K (PySem.Str.ofString "_law_eight") (PySem.Str.ofString "_law_eight") (defArgs s49) (defBody s49) (defScope s49) [] [] (He.fAd K (PySem.Str.ofString "_law_eight", none)) fd) : FnG P w K mg base false false (4 * (j + 1)) (He.fAd K (PySem.Str.ofString "_law_eight", none)) fd [PySem.Str.ofString "one"] (spF (WW K) (runF (j + 1)) 49) :=
  fn_ev (W := WW K) (N := N49) (D := D49) (F' := runF j) rfl Fd sc49 (isFn_of rfl) fun X Wx h1 h2 h3 h4 h5 h6 h7 h8 en => by subst h1 h2 h3 h4 h5; exact b49 ⟨h6, h7⟩ en h8 H T
theorem g50 (H : Hy K mg) (T : Tab P w K mg base j) {fd : FuncData} (Fd : FunD K (PySem.Str.ofString "_law_pose") (PySem.Str.ofString "_law_pose") (defArgs s50) (defBody s50) (defScope s50) [] [] (He.fAd K (PySem.Str.ofString "_law_pose", none)) fd) : FnG P w K mg base false false (4 * (j + 1)) (He.fAd K (PySem.Str.ofString "_law_pose", none)) fd [PySem.Str.ofString "pot"] (spF (WW K) (runF (j + 1)) 50) :=
  fn_ev (W := WW K) (N := N50) (D := D50) (F' := runF j) rfl Fd sc50 (isFn_of rfl) fun X Wx h1 h2 h3 h4 h5 h6 h7 h8 en => by subst h1 h2 h3 h4 h5; exact b50 ⟨h6, h7⟩ en h8 H T
theorem g51 (H : Hy K mg) (T : Tab P w K mg base j) {fd : FuncData} (Fd : FunD K (PySem.Str.ofString "_law_between") (PySem.Str.ofString "_law_between") (defArgs s51) (defBody s51) (defScope s51) [] [] (He.fAd K (PySem.Str.ofString "_law_between", none)) fd) : FnG P w K mg base false false (4 * (j + 1)) (He.fAd K (PySem.Str.ofString "_law_between", none)) fd [PySem.Str.ofString "one", PySem.Str.ofString "other"] (spF (WW K) (runF (j + 1)) 51) :=
  fn_ev (W := WW K) (N := N51) (D := D51) (F' := runF j) rfl Fd sc51 (isFn_of rfl) fun X Wx h1 h2 h3 h4 h5 h6 h7 h8 en => by subst h1 h2 h3 h4 h5; exact b51 ⟨h6, h7⟩ en h8 H T
theorem g52 (H : Hy K mg) (T : Tab P w K mg base j) {fd : FuncData} (Fd : FunD K (PySem.Str.ofString "_law_cross") (PySem.Str.ofString "_law_cross") (defArgs s52) (defBody s52) (defScope s52) [] [] (He.fAd K (PySem.Str.ofString "_law_cross", none)) fd) : FnG P w K mg base false false (4 * (j + 1)) (He.fAd K (PySem.Str.ofString "_law_cross", none)) fd [PySem.Str.ofString "one", PySem.Str.ofString "other"] (spF (WW K) (runF (j + 1)) 52) :=
  fn_ev (W := WW K) (N := N52) (D := D52) (F' := runF j) rfl Fd sc52 (isFn_of rfl) fun X Wx h1 h2 h3 h4 h5 h6 h7 h8 en => by subst h1 h2 h3 h4 h5; exact b52 ⟨h6, h7⟩ en h8 H T
theorem g53 (H : Hy K mg) (T : Tab P w K mg base j) {fd : FuncData} (Fd : FunD K (PySem.Str.ofString "_law_hinge") (PySem.Str.ofString "_law_hinge") (defArgs s53) (defBody s53) (defScope s53) [] [] (He.fAd K (PySem.Str.ofString "_law_hinge", none)) fd) : FnG P w K mg base false false (4 * (j + 1)) (He.fAd K (PySem.Str.ofString "_law_hinge", none)) fd [PySem.Str.ofString "pot"] (spF (WW K) (runF (j + 1)) 53) :=
  fn_ev (W := WW K) (N := N53) (D := D53) (F' := runF j) rfl Fd sc53 (isFn_of rfl) fun X Wx h1 h2 h3 h4 h5 h6 h7 h8 en => by subst h1 h2 h3 h4 h5; exact b53 ⟨h6, h7⟩ en h8 H T
theorem g54 (H : Hy K mg) (T : Tab P w K mg base j) {fd : FuncData} (Fd : FunD K (PySem.Str.ofString "_law_size") (PySem.Str.ofString "_law_size") (defArgs s54) (defBody s54) (defScope s54) [] [] (He.fAd K (PySem.Str.ofString "_law_size", none)) fd) : FnG P w K mg base false false (4 * (j + 1)) (He.fAd K (PySem.Str.ofString "_law_size", none)) fd [PySem.Str.ofString "one"] (spF (WW K) (runF (j + 1)) 54) :=
  fn_ev (W := WW K) (N := N54) (D := D54) (F' := runF j) rfl Fd sc54 (isFn_of rfl) fun X Wx h1 h2 h3 h4 h5 h6 h7 h8 en => by subst h1 h2 h3 h4 h5; exact b54 ⟨h6, h7⟩ en h8 H T
theorem g55 (H : Hy K mg) (T : Tab P w K mg base j) {fd : FuncData} (Fd : FunD K (PySem.Str.ofString "_law_right") (PySem.Str.ofString "_law_right") (defArgs s55) (defBody s55) (defScope s55) [] [] (He.fAd K (PySem.Str.ofString "_law_right", none)) fd) : FnG P w K mg base false true (4 * (j + 1)) (He.fAd K (PySem.Str.ofString "_law_right", none)) fd [PySem.Str.ofString "pot"] (spF (WW K) (runF (j + 1)) 55) :=
  fn_ev (W := WW K) (N := N55) (D := D55) (F' := runF j) rfl Fd sc55 (isFn_of rfl) fun X Wx h1 h2 h3 h4 h5 h6 h7 h8 en => by subst h1 h2 h3 h4 h5; exact b55 ⟨h6, h7⟩ en h8 H T
theorem g56 (H : Hy K mg) (T : Tab P w K mg base j) {fd : FuncData} (Fd : FunD K (PySem.Str.ofString "_law_pot") (PySem.Str.ofString "_law_pot") (defArgs s56) (defBody s56) (defScope s56) [] [] (He.fAd K (PySem.Str.ofString "_law_pot", none)) fd) : FnG P w K mg base false false (4 * (j + 1)) (He.fAd K (PySem.Str.ofString "_law_pot", none)) fd [PySem.Str.ofString "script", PySem.Str.ofString "k"] (spF (WW K) (runF (j + 1)) 56) :=
  fn_ev (W := WW K) (N := N56) (D := D56) (F' := runF j) rfl Fd sc56 (isFn_of rfl) fun X Wx h1 h2 h3 h4 h5 h6 h7 h8 en => by subst h1 h2 h3 h4 h5; exact b56 ⟨h6, h7⟩ en h8 H T
theorem g57 (H : Hy K mg) (T : Tab P w K mg base j) {fd : FuncData} (Fd : FunD K (PySem.Str.ofString "law") (PySem.Str.ofString "law") (defArgs s57) (defBody s57) (defScope s57) [] [] (He.fAd K (PySem.Str.ofString "law", none)) fd) : FnG P w K mg base false true (4 * (j + 1)) (He.fAd K (PySem.Str.ofString "law", none)) fd [PySem.Str.ofString "script"] (spF (WW K) (runF (j + 1)) 57) :=
  fn_ev (W := WW K) (N := N57) (D := D57) (F' := runF j) rfl Fd sc57 (isFn_of rfl) fun X Wx h1 h2 h3 h4 h5 h6 h7 h8 en => by subst h1 h2 h3 h4 h5; exact b57 ⟨h6, h7⟩ en h8 H T
theorem b58 {X : Cx} {Wx : WX} {k : Nat} (nm : Nm X N58 (defScope s58)) (en : En X (WW X.K) Wx false false k) (hfn : ∀ x, X.fn x = true) (H : Hy X.K X.mg) : PSs X (defBody s58) (tDraw X.K true 39373 8009 2147483587 2147483563 19) :=
  pss_cons (ps_if (pt_cmpR op_gt (pe_px nm rfl (by decide +kernel)) pe_int (nomark _)) (pss_cons (ps_asg (pe_callB call_divmod (nm.gl (by decide +kernel)) H.fr_divmod boot_divmod (pa_cons (pe_px nm rfl (by decide +kernel)) (pa_cons (pe_var (nm.at (i := 1) rfl) (nm.vis (by decide +kernel)) (by decide +kernel) (by decide +kernel)) pa_nil))) (pg_tup en.calm (pgs_cons (pg_sub (pe_var (nm.at (i := 0) rfl) (nm.vis (by decide +kernel)) (by decide +kernel) (by decide +kernel)) pe_int set_list) (pgs_cons (pg_name (nm.nd (by decide +kernel)) (nm.at (i := 2) rfl) (nm.loc (by decide +kernel)) (.inl (hfn _))) pgs_nil)))) (pss_one (ps_ret (pe_var (nm.at (i := 2) rfl) (nm.vis (by decide +kernel)) (by decide +kernel) (by decide +kernel))))) pss_nil) (pss_cons (ps_asg (pe_op op_mod (pe_callTy call_int1 (nm.gl (by decide +kernel)) H.fr_int boot_int (pa_cons (pe_op op_add (pe_op op_mul (pe_px nm rfl (by decide +kernel)) pe_int) pe_int) pa_nil)) pe_int) (pg_sub (pe_var (nm.at (i := 0) rfl) (nm.vis (by decide +kernel)) (by decide +kernel) (by decide +kernel)) pe_int set_list)) (pss_one (ps_ret (pe_op op_mod (pe_callTy call_int1 (nm.gl (by decide +kernel)) H.fr_int boot_int (pa_cons (pe_op op_fdiv (pe_op op_mod (pe_callTy call_int1 (nm.gl (by decide +kernel)) H.fr_int boot_int (pa_cons (pe_op op_mul (pe_px nm rfl (by decide +kernel)) (pe_px nm rfl (by decide +kernel))) pa_nil)) pe_int) pe_int) pa_nil)) (pe_var (nm.at (i := 1) rfl) (nm.vis (by decide +kernel)) (by decide +kernel) (by decide +kernel))))))
theorem g58 (H : Hy K mg) (T : Tab P w K mg base j) {fd : FuncData} (Fd : FunD K (PySem.Str.ofString "_law_draw") (PySem.Str.ofString "_law_draw") (defArgs s58) (defBody s58) (defScope s58) [] [] (He.fAd K (PySem.Str.ofString "_law_draw", none)) fd) : FnG P w K mg base false false (4 * (j + 1)) (He.fAd K (PySem.Str.ofString "_law_draw", none)) fd [PySem.Str.ofString "pot", PySem.Str.ofString "many"] (spF (WW K) (runF (j + 1)) 58) :=
  draw_fn (W := WW K) (ib := true) (c1 := 39373) (c2 := 8009) (m1 := 2147483587) (m2 := 2147483563) (q := 19) rfl Fd sc58 (fun es kk kx h => draw_look (kx := kx) h) (by decide) (by decide) (by decide) (by decide) (by decide) (by decide) (by decide) (by decide) (by decide) (by decide)
    fun X Wx h1 h2 h3 h4 h5 h6 h7 h8 en => by subst h1 h2 h3 h4 h5; exact b58 ⟨h6, h7⟩ en h8 H
end
section
variable {P : Program} {w : World} {K : PySem.W.Frag} {mg : Str → Option Value} {base : Heap} {j : Nat}
theorem p0 {fd : FuncData} (Fd : FunD K (PySem.Str.ofString "is_integer") (PySem.Str.ofString "is_integer") (defArgs s0) (defBody s0) (defScope s0) [] [] (He.fAd K (PySem.Str.ofString "is_integer", none)) fd) (F : FnG P w K mg base false false (4 * (j + 1)) (He.fAd K (PySem.Str.ofString "is_integer", none)) fd [PySem.Str.ofString "value"] (spF (WW K) (runF (j + 1)) 0)) : FnP P w K mg base false false (4 * (j + 1)) (He.fAd K (PySem.Str.ofString "is_integer", none)) (fun vs H Q E => spF (WW K) (runF (j + 1)) 0 (vs ++ []) H Q E) :=
  F.pos (Fd.bindsN (ps := [PySem.Str.ofString "value"]) fun _ _ _ _ _ _ us hl => match us, hl with | [_], _ => rfl) .nil
theorem p1 {fd : FuncData} (Fd : FunD K (PySem.Str.ofString "is_list") (PySem.Str.ofString "is_list") (defArgs s1) (defBody s1) (defScope s1) [] [] (He.fAd K (PySem.Str.ofString "is_list", none)) fd) (F : FnG P w K mg base false false (4 * (j + 1)) (He.fAd K (PySem.Str.ofString "is_list", none)) fd [PySem.Str.ofString "value"] (spF (WW K) (runF (j + 1)) 1)) : FnP P w K mg base false false (4 * (j + 1)) (He.fAd K (PySem.Str.ofString "is_list", none)) (fun vs H Q E => spF (WW K) (runF (j + 1)) 1 (vs ++ []) H Q E) :=
  F.pos (Fd.bindsN (ps := [PySem.Str.ofString "value"]) fun _ _ _ _ _ _ us hl => match us, hl with | [_], _ => rfl) .nil
theorem p2 {fd : FuncData} (Fd : FunD K (PySem.Str.ofString "digits_of") (PySem.Str.ofString "digits_of") (defArgs s2) (defBody s2) (defScope s2) [] [] (He.fAd K (PySem.Str.ofString "digits_of", none)) fd) (F : FnG P w K mg base false false (4 * (j + 1)) (He.fAd K (PySem.Str.ofString "digits_of", none)) fd [PySem.Str.ofString "number"] (spF (WW K) (runF (j + 1)) 2)) : FnP P w K mg base false false (4 * (j + 1)) (He.fAd K (PySem.Str.ofString "digits_of", none)) (fun vs H Q E => spF (WW K) (runF (j + 1)) 2 (vs ++ []) H Q E) :=
  F.pos (Fd.bindsN (ps := [PySem.Str.ofString "number"]) fun _ _ _ _ _ _ us hl => match us, hl with | [_], _ => rfl) .nil
theorem p3 {fd : FuncData} (Fd : FunD K (PySem.Str.ofString "common_part") (PySem.Str.ofString "common_part") (defArgs s3) (defBody s3) (defScope s3) [] [] (He.fAd K (PySem.Str.ofString "common_part", none)) fd) (F : FnG P w K mg base false false (4 * (j + 1)) (He.fAd K (PySem.Str.ofString "common_part", none)) fd [PySem.Str.ofString "one", PySem.Str.ofString "other"] (spF (WW K) (runF (j + 1)) 3)) : FnP P w K mg base false false (4 * (j + 1)) (He.fAd K (PySem.Str.ofString "common_part", none)) (fun vs H Q E => spF (WW K) (runF (j + 1)) 3 (vs ++ []) H Q E) :=
  F.pos (Fd.bindsN (ps := [PySem.Str.ofString "one", PySem.Str.ofString "other"]) fun _ _ _ _ _ _ us hl => match us, hl with | [_, _], _ => rfl) .nil
theorem p4 {fd : FuncData} (Fd : FunD K (PySem.Str.ofString "__init__") (PySem.Str.ofString "Ratio.__init__") (defArgs s4) (defBody s4) (defScope s4) [.int (1)] [] (He.fAd K (PySem.Str.ofString "Ratio", some (PySem.Str.ofString "__init__"))) fd) (F : FnG P w K mg base false false (4 * (j + 1)) (He.fAd K (PySem.Str.ofString "Ratio", some (PySem.Str.ofString "__init__"))) fd [PySem.Str.ofString "self", PySem.Str.ofString "top", PySem.Str.ofString "bottom"] (spI (WW K) (runF (j + 1)) 4 0)) : FnP P w K mg base false false (4 * (j + 1)) (He.fAd K (PySem.Str.ofString "Ratio", some (PySem.Str.ofString "__init__"))) (fun vs H Q E => spI (WW K) (runF (j + 1)) 4 0 (vs ++ []) H Q E) :=
  by obtain ⟨ds, h1, h2⟩ := Fd.binds1 (ps := [PySem.Str.ofString "self", PySem.Str.ofString "top", PySem.Str.ofString "bottom"]) 3 1 (by simp) (by rfl) (fun T kV doc pm an cdv ct us its h1 h2 => match us, h1, its, h2 with | [_, _, _], _, [_], _ => ⟨_, rfl, rfl⟩); exact F.pos h2 h1
theorem p4d1 {fd : FuncData} (Fd : FunD K (PySem.Str.ofString "__init__") (PySem.Str.ofString "Ratio.__init__") (defArgs s4) (defBody s4) (defScope s4) [.int (1)] [] (He.fAd K (PySem.Str.ofString "Ratio", some (PySem.Str.ofString "__init__"))) fd) (F : FnG P w K mg base false false (4 * (j + 1)) (He.fAd K (PySem.Str.ofString "Ratio", some (PySem.Str.ofString "__init__"))) fd [PySem.Str.ofString "self", PySem.Str.ofString "top", PySem.Str.ofString "bottom"] (spI (WW K) (runF (j + 1)) 4 0)) : FnP P w K mg base false false (4 * (j + 1)) (He.fAd K (PySem.Str.ofString "Ratio", some (PySem.Str.ofString "__init__"))) (fun vs H Q E => spI (WW K) (runF (j + 1)) 4 0 (vs ++ [.int (1)]) H Q E) :=
  by obtain ⟨ds, h1, h2⟩ := Fd.binds1 (ps := [PySem.Str.ofString "self", PySem.Str.ofString "top", PySem.Str.ofString "bottom"]) 2 0 (by simp) (by rfl) (fun T kV doc pm an cdv ct us its h1 h2 => match us, h1, its, h2 with | [_, _], _, [_], _ => ⟨_, rfl, rfl⟩); exact F.pos h2 h1
theorem p5 {fd : FuncData} (Fd : FunD K (PySem.Str.ofString "__mul__") (PySem.Str.ofString "Ratio.__mul__") (defArgs s5) (defBody s5) (defScope s5) [] [] (He.fAd K (PySem.Str.ofString "Ratio", some (PySem.Str.ofString "__mul__"))) fd) (F : FnG P w K mg base false false (4 * (j + 1)) (He.fAd K (PySem.Str.ofString "Ratio", some (PySem.Str.ofString "__mul__"))) fd [PySem.Str.ofString "self", PySem.Str.ofString "other"] (spF (WW K) (runF (j + 1)) 5)) : FnP P w K mg base false false (4 * (j + 1)) (He.fAd K (PySem.Str.ofString "Ratio", some (PySem.Str.ofString "__mul__"))) (fun vs H Q E => spF (WW K) (runF (j + 1)) 5 (vs ++ []) H Q E) :=
  F.pos (Fd.bindsN (ps := [PySem.Str.ofString "self", PySem.Str.ofString "other"]) fun _ _ _ _ _ _ us hl => match us, hl with | [_, _], _ => rfl) .nil
theorem p6 {fd : FuncData} (Fd : FunD K (PySem.Str.ofString "__eq__") (PySem.Str.ofString "Ratio.__eq__") (defArgs s6) (defBody s6) (defScope s6) [] [] (He.fAd K (PySem.Str.ofString "Ratio", some (PySem.Str.ofString "__eq__"))) fd) (F : FnG P w K mg base false false (4 * (j + 1)) (He.fAd K (PySem.Str.ofString "Ratio", some (PySem.Str.ofString "__eq__"))) fd [PySem.Str.ofString "self", PySem.Str.ofString "other"] (spF (WW K) (runF (j + 1)) 6)) : FnP P w K mg base false false (4 * (j + 1)) (He.fAd K (PySem.Str.ofString "Ratio", some (PySem.Str.ofString "__eq__"))) (fun vs H Q E => spF (WW K) (runF (j + 1)) 6 (vs ++ []) H Q E) :=
  F.pos (Fd.bindsN (ps := [PySem.Str.ofString "self", PySem.Str.ofString "other"]) fun _ _ _ _ _ _ us hl => match us, hl with | [_, _], _ => rfl) .nil
theorem p7 {fd : FuncData} (Fd : FunD K (PySem.Str.ofString "__str__") (PySem.Str.ofString "Ratio.__str__") (defArgs s7) (defBody s7) (defScope s7) [] [] (He.fAd K (PySem.Str.ofString "Ratio", some (PySem.Str.ofString "__str__"))) fd) (F : FnG P w K mg base false false (4 * (j + 1)) (He.fAd K (PySem.Str.ofString "Ratio", some (PySem.Str.ofString "__str__"))) fd [PySem.Str.ofString "self"] (spF (WW K) (runF (j + 1)) 7)) : FnP P w K mg base false false (4 * (j + 1)) (He.fAd K (PySem.Str.ofString "Ratio", some (PySem.Str.ofString "__str__"))) (fun vs H Q E => spF (WW K) (runF (j + 1)) 7 (vs ++ []) H Q E) :=
  F.pos (Fd.bindsN (ps := [PySem.Str.ofString "self"]) fun _ _ _ _ _ _ us hl => match us, hl with | [_], _ => rfl) .nil
theorem p8 {fd : FuncData} (Fd : FunD K (PySem.Str.ofString "told_pair") (PySem.Str.ofString "told_pair") (defArgs s8) (defBody s8) (defScope s8) [] [] (He.fAd K (PySem.Str.ofString "told_pair", none)) fd) (F : FnG P w K mg base false false (4 * (j + 1)) (He.fAd K (PySem.Str.ofString "told_pair", none)) fd [PySem.Str.ofString "value"] (spF (WW K) (runF (j + 1)) 8)) : FnP P w K mg base false false (4 * (j + 1)) (He.fAd K (PySem.Str.ofString "told_pair", none)) (fun vs H Q E => spF (WW K) (runF (j + 1)) 8 (vs ++ []) H Q E) :=
  F.pos (Fd.bindsN (ps := [PySem.Str.ofString "value"]) fun _ _ _ _ _ _ us hl => match us, hl with | [_], _ => rfl) .nil
theorem p9 {fd : FuncData} (Fd : FunD K (PySem.Str.ofString "is_number") (PySem.Str.ofString "is_number") (defArgs s9) (defBody s9) (defScope s9) [] [] (He.fAd K (PySem.Str.ofString "is_number", none)) fd) (F : FnG P w K mg base false false (4 * (j + 1)) (He.fAd K (PySem.Str.ofString "is_number", none)) fd [PySem.Str.ofString "value"] (spF (WW K) (runF (j + 1)) 9)) : FnP P w K mg base false false (4 * (j + 1)) (He.fAd K (PySem.Str.ofString "is_number", none)) (fun vs H Q E => spF (WW K) (runF (j + 1)) 9 (vs ++ []) H Q E) :=
  F.pos (Fd.bindsN (ps := [PySem.Str.ofString "value"]) fun _ _ _ _ _ _ us hl => match us, hl with | [_], _ => rfl) .nil
theorem p10 {fd : FuncData} (Fd : FunD K (PySem.Str.ofString "ratio_of") (PySem.Str.ofString "ratio_of") (defArgs s10) (defBody s10) (defScope s10) [] [] (He.fAd K (PySem.Str.ofString "ratio_of", none)) fd) (F : FnG P w K mg base false false (4 * (j + 1)) (He.fAd K (PySem.Str.ofString "ratio_of", none)) fd [PySem.Str.ofString "number"] (spF (WW K) (runF (j + 1)) 10)) : FnP P w K mg base false false (4 * (j + 1)) (He.fAd K (PySem.Str.ofString "ratio_of", none)) (fun vs H Q E => spF (WW K) (runF (j + 1)) 10 (vs ++ []) H Q E) :=
  F.pos (Fd.bindsN (ps := [PySem.Str.ofString "number"]) fun _ _ _ _ _ _ us hl => match us, hl with | [_], _ => rfl) .nil
theorem p11 {fd : FuncData} (Fd : FunD K (PySem.Str.ofString "want_number") (PySem.Str.ofString "want_number") (defArgs s11) (defBody s11) (defScope s11) [] [] (He.fAd K (PySem.Str.ofString "want_number", none)) fd) (F : FnG P w K mg base false false (4 * (j + 1)) (He.fAd K (PySem.Str.ofString "want_number", none)) fd [PySem.Str.ofString "value"] (spF (WW K) (runF (j + 1)) 11)) : FnP P w K mg base false false (4 * (j + 1)) (He.fAd K (PySem.Str.ofString "want_number", none)) (fun vs H Q E => spF (WW K) (runF (j + 1)) 11 (vs ++ []) H Q E) :=
  F.pos (Fd.bindsN (ps := [PySem.Str.ofString "value"]) fun _ _ _ _ _ _ us hl => match us, hl with | [_], _ => rfl) .nil
theorem p12 {fd : FuncData} (Fd : FunD K (PySem.Str.ofString "wholes") (PySem.Str.ofString "wholes") (defArgs s12) (defBody s12) (defScope s12) [] [] (He.fAd K (PySem.Str.ofString "wholes", none)) fd) (F : FnG P w K mg base false false (4 * (j + 1)) (He.fAd K (PySem.Str.ofString "wholes", none)) fd [PySem.Str.ofString "ratios"] (spF (WW K) (runF (j + 1)) 12)) : FnP P w K mg base false false (4 * (j + 1)) (He.fAd K (PySem.Str.ofString "wholes", none)) (fun vs H Q E => spF (WW K) (runF (j + 1)) 12 (vs ++ []) H Q E) :=
  F.pos (Fd.bindsN (ps := [PySem.Str.ofString "ratios"]) fun _ _ _ _ _ _ us hl => match us, hl with | [_], _ => rfl) .nil
theorem p13 {fd : FuncData} (Fd : FunD K (PySem.Str.ofString "are_numbers") (PySem.Str.ofString "are_numbers") (defArgs s13) (defBody s13) (defScope s13) [] [] (He.fAd K (PySem.Str.ofString "are_numbers", none)) fd) (F : FnG P w K mg base false false (4 * (j + 1)) (He.fAd K (PySem.Str.ofString "are_numbers", none)) fd [PySem.Str.ofString "value", PySem.Str.ofString "many"] (spF (WW K) (runF (j + 1)) 13)) : FnP P w K mg base false false (4 * (j + 1)) (He.fAd K (PySem.Str.ofString "are_numbers", none)) (fun vs H Q E => spF (WW K) (runF (j + 1)) 13 (vs ++ []) H Q E) :=
  F.pos (Fd.bindsN (ps := [PySem.Str.ofString "value", PySem.Str.ofString "many"]) fun _ _ _ _ _ _ us hl => match us, hl with | [_, _], _ => rfl) .nil
theorem p14 {fd : FuncData} (Fd : FunD K (PySem.Str.ofString "is_four") (PySem.Str.ofString "is_four") (defArgs s14) (defBody s14) (defScope s14) [] [] (He.fAd K (PySem.Str.ofString "is_four", none)) fd) (F : FnG P w K mg base false false (4 * (j + 1)) (He.fAd K (PySem.Str.ofString "is_four", none)) fd [PySem.Str.ofString "value"] (spF (WW K) (runF (j + 1)) 14)) : FnP P w K mg base false false (4 * (j + 1)) (He.fAd K (PySem.Str.ofString "is_four", none)) (fun vs H Q E => spF (WW K) (runF (j + 1)) 14 (vs ++ []) H Q E) :=
  F.pos (Fd.bindsN (ps := [PySem.Str.ofString "value"]) fun _ _ _ _ _ _ us hl => match us, hl with | [_], _ => rfl) .nil
theorem p15 {fd : FuncData} (Fd : FunD K (PySem.Str.ofString "is_point") (PySem.Str.ofString "is_point") (defArgs s15) (defBody s15) (defScope s15) [] [] (He.fAd K (PySem.Str.ofString "is_point", none)) fd) (F : FnG P w K mg base false false (4 * (j + 1)) (He.fAd K (PySem.Str.ofString "is_point", none)) fd [PySem.Str.ofString "value"] (spF (WW K) (runF (j + 1)) 15)) : FnP P w K mg base false false (4 * (j + 1)) (He.fAd K (PySem.Str.ofString "is_point", none)) (fun vs H Q E => spF (WW K) (runF (j + 1)) 15 (vs ++ []) H Q E) :=
  F.pos (Fd.bindsN (ps := [PySem.Str.ofString "value"]) fun _ _ _ _ _ _ us hl => match us, hl with | [_], _ => rfl) .nil
theorem p16 {fd : FuncData} (Fd : FunD K (PySem.Str.ofString "want_four") (PySem.Str.ofString "want_four") (defArgs s16) (defBody s16) (defScope s16) [] [] (He.fAd K (PySem.Str.ofString "want_four", none)) fd) (F : FnG P w K mg base false false (4 * (j + 1)) (He.fAd K (PySem.Str.ofString "want_four", none)) fd [PySem.Str.ofString "value"] (spF (WW K) (runF (j + 1)) 16)) : FnP P w K mg base false false (4 * (j + 1)) (He.fAd K (PySem.Str.ofString "want_four", none)) (fun vs H Q E => spF (WW K) (runF (j + 1)) 16 (vs ++ []) H Q E) :=
  F.pos (Fd.bindsN (ps := [PySem.Str.ofString "value"]) fun _ _ _ _ _ _ us hl => match us, hl with | [_], _ => rfl) .nil
theorem p17 {fd : FuncData} (Fd : FunD K (PySem.Str.ofString "want_point") (PySem.Str.ofString "want_point") (defArgs s17) (defBody s17) (defScope s17) [] [] (He.fAd K (PySem.Str.ofString "want_point", none)) fd) (F : FnG P w K mg base false false (4 * (j + 1)) (He.fAd K (PySem.Str.ofString "want_point", none)) fd [PySem.Str.ofString "value"] (spF (WW K) (runF (j + 1)) 17)) : FnP P w K mg base false false (4 * (j + 1)) (He.fAd K (PySem.Str.ofString "want_point", none)) (fun vs H Q E => spF (WW K) (runF (j + 1)) 17 (vs ++ []) H Q E) :=
  F.pos (Fd.bindsN (ps := [PySem.Str.ofString "value"]) fun _ _ _ _ _ _ us hl => match us, hl with | [_], _ => rfl) .nil
theorem p18 {fd : FuncData} (Fd : FunD K (PySem.Str.ofString "four_product") (PySem.Str.ofString "four_product") (defArgs s18) (defBody s18) (defScope s18) [] [] (He.fAd K (PySem.Str.ofString "four_product", none)) fd) (F : FnG P w K mg base false false (4 * (j + 1)) (He.fAd K (PySem.Str.ofString "four_product", none)) fd [PySem.Str.ofString "one", PySem.Str.ofString "other"] (spF (WW K) (runF (j + 1)) 18)) : FnP P w K mg base false false (4 * (j + 1)) (He.fAd K (PySem.Str.ofString "four_product", none)) (fun vs H Q E => spF (WW K) (runF (j + 1)) 18 (vs ++ []) H Q E) :=
  F.pos (Fd.bindsN (ps := [PySem.Str.ofString "one", PySem.Str.ofString "other"]) fun _ _ _ _ _ _ us hl => match us, hl with | [_, _], _ => rfl) .nil
theorem p19 {fd : FuncData} (Fd : FunD K (PySem.Str.ofString "dot") (PySem.Str.ofString "dot") (defArgs s19) (defBody s19) (defScope s19) [] [] (He.fAd K (PySem.Str.ofString "dot", none)) fd) (F : FnG P w K mg base false false (4 * (j + 1)) (He.fAd K (PySem.Str.ofString "dot", none)) fd [PySem.Str.ofString "one", PySem.Str.ofString "other"] (spF (WW K) (runF (j + 1)) 19)) : FnP P w K mg base false false (4 * (j + 1)) (He.fAd K (PySem.Str.ofString "dot", none)) (fun vs H Q E => spF (WW K) (runF (j + 1)) 19 (vs ++ []) H Q E) :=
  F.pos (Fd.bindsN (ps := [PySem.Str.ofString "one", PySem.Str.ofString "other"]) fun _ _ _ _ _ _ us hl => match us, hl with | [_, _], _ => rfl) .nil
theorem p20 {fd : FuncData} (Fd : FunD K (PySem.Str.ofString "told_row") (PySem.Str.ofString "told_row") (defArgs s20) (defBody s20) (defScope s20) [] [] (He.fAd K (PySem.Str.ofString "told_row", none)) fd) (F : FnG P w K mg base false false (4 * (j + 1)) (He.fAd K (PySem.Str.ofString "told_row", none)) fd [PySem.Str.ofString "tops", PySem.Str.ofString "bottom"] (spF (WW K) (runF (j + 1)) 20)) : FnP P w K mg base false false (4 * (j + 1)) (He.fAd K (PySem.Str.ofString "told_row", none)) (fun vs H Q E => spF (WW K) (runF (j + 1)) 20 (vs ++ []) H Q E) :=
  F.pos (Fd.bindsN (ps := [PySem.Str.ofString "tops", PySem.Str.ofString "bottom"]) fun _ _ _ _ _ _ us hl => match us, hl with | [_, _], _ => rfl) .nil
theorem p21 {fd : FuncData} (Fd : FunD K (PySem.Str.ofString "norm_four") (PySem.Str.ofString "norm_four") (defArgs s21) (defBody s21) (defScope s21) [] [] (He.fAd K (PySem.Str.ofString "norm_four", none)) fd) (F : FnG P w K mg base false false (4 * (j + 1)) (He.fAd K (PySem.Str.ofString "norm_four", none)) fd [PySem.Str.ofString "four"] (spF (WW K) (runF (j + 1)) 21)) : FnP P w K mg base false false (4 * (j + 1)) (He.fAd K (PySem.Str.ofString "norm_four", none)) (fun vs H Q E => spF (WW K) (runF (j + 1)) 21 (vs ++ []) H Q E) :=
  F.pos (Fd.bindsN (ps := [PySem.Str.ofString "four"]) fun _ _ _ _ _ _ us hl => match us, hl with | [_], _ => rfl) .nil
theorem p22 {fd : FuncData} (Fd : FunD K (PySem.Str.ofString "__init__") (PySem.Str.ofString "Told.__init__") (defArgs s22) (defBody s22) (defScope s22) [] [] (He.fAd K (PySem.Str.ofString "Told", some (PySem.Str.ofString "__init__"))) fd) (F : FnG P w K mg base false false (4 * (j + 1)) (He.fAd K (PySem.Str.ofString "Told", some (PySem.Str.ofString "__init__"))) fd [PySem.Str.ofString "self", PySem.Str.ofString "bottom", PySem.Str.ofString "numbers"] (spI (WW K) (runF (j + 1)) 22 1)) : FnP P w K mg base false false (4 * (j + 1)) (He.fAd K (PySem.Str.ofString "Told", some (PySem.Str.ofString "__init__"))) (fun vs H Q E => spI (WW K) (runF (j + 1)) 22 1 (vs ++ []) H Q E) :=
  F.pos (Fd.bindsN (ps := [PySem.Str.ofString "self", PySem.Str.ofString "bottom", PySem.Str.ofString "numbers"]) fun _ _ _ _ _ _ us hl => match us, hl with | [_, _, _], _ => rfl) .nil
theorem p23 {fd : FuncData} (Fd : FunD K (PySem.Str.ofString "lowest") (PySem.Str.ofString "lowest") (defArgs s23) (defBody s23) (defScope s23) [] [] (He.fAd K (PySem.Str.ofString "lowest", none)) fd) (F : FnG P w K mg base false false (4 * (j + 1)) (He.fAd K (PySem.Str.ofString "lowest", none)) fd [PySem.Str.ofString "bottom", PySem.Str.ofString "numbers"] (spF (WW K) (runF (j + 1)) 23)) : FnP P w K mg base false false (4 * (j + 1)) (He.fAd K (PySem.Str.ofString "lowest", none)) (fun vs H Q E => spF (WW K) (runF (j + 1)) 23 (vs ++ []) H Q E) :=
  F.pos (Fd.bindsN (ps := [PySem.Str.ofString "bottom", PySem.Str.ofString "numbers"]) fun _ _ _ _ _ _ us hl => match us, hl with | [_, _], _ => rfl) .nil
theorem p24 {fd : FuncData} (Fd : FunD K (PySem.Str.ofString "told_eight") (PySem.Str.ofString "told_eight") (defArgs s24) (defBody s24) (defScope s24) [] [] (He.fAd K (PySem.Str.ofString "told_eight", none)) fd) (F : FnG P w K mg base false false (4 * (j + 1)) (He.fAd K (PySem.Str.ofString "told_eight", none)) fd [PySem.Str.ofString "first", PySem.Str.ofString "second"] (spF (WW K) (runF (j + 1)) 24)) : FnP P w K mg base false false (4 * (j + 1)) (He.fAd K (PySem.Str.ofString "told_eight", none)) (fun vs H Q E => spF (WW K) (runF (j + 1)) 24 (vs ++ []) H Q E) :=
  F.pos (Fd.bindsN (ps := [PySem.Str.ofString "first", PySem.Str.ofString "second"]) fun _ _ _ _ _ _ us hl => match us, hl with | [_, _], _ => rfl) .nil
theorem p25 {fd : FuncData} (Fd : FunD K (PySem.Str.ofString "__init__") (PySem.Str.ofString "Eight.__init__") (defArgs s25) (defBody s25) (defScope s25) [.ref (He.dflAt (PySem.Str.ofString "Eight", some (PySem.Str.ofString "__init__")) 0 K)] [] (He.fAd K (PySem.Str.ofString "Eight", some (PySem.Str.ofString "__init__"))) fd) (F : FnG P w K mg base false false (4 * (j + 1)) (He.fAd K (PySem.Str.ofString "Eight", some (PySem.Str.ofString "__init__"))) fd [PySem.Str.ofString "self", PySem.Str.ofString "first", PySem.Str.ofString "second"] (spI (WW K) (runF (j + 1)) 25 2)) : FnP P w K mg base false false (4 * (j + 1)) (He.fAd K (PySem.Str.ofString "Eight", some (PySem.Str.ofString "__init__"))) (fun vs H Q E => spI (WW K) (runF (j + 1)) 25 2 (vs ++ []) H Q E) :=
  by obtain ⟨ds, h1, h2⟩ := Fd.binds1 (ps := [PySem.Str.ofString "self", PySem.Str.ofString "first", PySem.Str.ofString "second"]) 3 1 (by simp) (by rfl) (fun T kV doc pm an cdv ct us its h1 h2 => match us, h1, its, h2 with | [_, _, _], _, [_], _ => ⟨_, rfl, rfl⟩); exact F.pos h2 h1
theorem p25d1 {fd : FuncData} (Fd : FunD K (PySem.Str.ofString "__init__") (PySem.Str.ofString "Eight.__init__") (defArgs s25) (defBody s25) (defScope s25) [.ref (He.dflAt (PySem.Str.ofString "Eight", some (PySem.Str.ofString "__init__")) 0 K)] [] (He.fAd K (PySem.Str.ofString "Eight", some (PySem.Str.ofString "__init__"))) fd) (F : FnG P w K mg base false false (4 * (j + 1)) (He.fAd K (PySem.Str.ofString "Eight", some (PySem.Str.ofString "__init__"))) fd [PySem.Str.ofString "self", PySem.Str.ofString "first", PySem.Str.ofString "second"] (spI (WW K) (runF (j + 1)) 25 2)) : FnP P w K mg base false false (4 * (j + 1)) (He.fAd K (PySem.Str.ofString "Eight", some (PySem.Str.ofString "__init__"))) (fun vs H Q E => spI (WW K) (runF (j + 1)) 25 2 (vs ++ [.ref (He.dflAt (PySem.Str.ofString "Eight", some (PySem.Str.ofString "__init__")) 0 K)]) H Q E) :=
  by obtain ⟨ds, h1, h2⟩ := Fd.binds1 (ps := [PySem.Str.ofString "self", PySem.Str.ofString "first", PySem.Str.ofString "second"]) 2 0 (by simp) (by rfl) (fun T kV doc pm an cdv ct us its h1 h2 => match us, h1, its, h2 with | [_, _], _, [_], _ => ⟨_, rfl, rfl⟩); exact F.pos h2 h1
theorem p26 {fd : FuncData} (Fd : FunD K (PySem.Str.ofString "first") (PySem.Str.ofString "Eight.first") (defArgs s26) (defBody s26) (defScope s26) [] [] (He.fAd K (PySem.Str.ofString "Eight", some (PySem.Str.ofString "first"))) fd) (F : FnG P w K mg base false false (4 * (j + 1)) (He.fAd K (PySem.Str.ofString "Eight", some (PySem.Str.ofString "first"))) fd [PySem.Str.ofString "self"] (spF (WW K) (runF (j + 1)) 26)) : FnP P w K mg base false false (4 * (j + 1)) (He.fAd K (PySem.Str.ofString "Eight", some (PySem.Str.ofString "first"))) (fun vs H Q E => spF (WW K) (runF (j + 1)) 26 (vs ++ []) H Q E) :=
  F.pos (Fd.bindsN (ps := [PySem.Str.ofString "self"]) fun _ _ _ _ _ _ us hl => match us, hl with | [_], _ => rfl) .nil
theorem p27 {fd : FuncData} (Fd : FunD K (PySem.Str.ofString "times") (PySem.Str.ofString "Eight.times") (defArgs s27) (defBody s27) (defScope s27) [] [] (He.fAd K (PySem.Str.ofString "Eight", some (PySem.Str.ofString "times"))) fd) (F : FnG P w K mg base false false (4 * (j + 1)) (He.fAd K (PySem.Str.ofString "Eight", some (PySem.Str.ofString "times"))) fd [PySem.Str.ofString "self", PySem.Str.ofString "number"] (spF (WW K) (runF (j + 1)) 27)) : FnP P w K mg base false false (4 * (j + 1)) (He.fAd K (PySem.Str.ofString "Eight", some (PySem.Str.ofString "times"))) (fun vs H Q E => spF (WW K) (runF (j + 1)) 27 (vs ++ []) H Q E) :=
  F.pos (Fd.bindsN (ps := [PySem.Str.ofString "self", PySem.Str.ofString "number"]) fun _ _ _ _ _ _ us hl => match us, hl with | [_, _], _ => rfl) .nil
theorem p28 {fd : FuncData} (Fd : FunD K (PySem.Str.ofString "__mul__") (PySem.Str.ofString "Eight.__mul__") (defArgs s28) (defBody s28) (defScope s28) [] [] (He.fAd K (PySem.Str.ofString "Eight", some (PySem.Str.ofString "__mul__"))) fd) (F : FnG P w K mg base false false (4 * (j + 1)) (He.fAd K (PySem.Str.ofString "Eight", some (PySem.Str.ofString "__mul__"))) fd [PySem.Str.ofString "self", PySem.Str.ofString "other"] (spF (WW K) (runF (j + 1)) 28)) : FnP P w K mg base false false (4 * (j + 1)) (He.fAd K (PySem.Str.ofString "Eight", some (PySem.Str.ofString "__mul__"))) (fun vs H Q E => spF (WW K) (runF (j + 1)) 28 (vs ++ []) H Q E) :=
  F.pos (Fd.bindsN (ps := [PySem.Str.ofString "self", PySem.Str.ofString "other"]) fun _ _ _ _ _ _ us hl => match us, hl with | [_, _], _ => rfl) .nil
theorem p29 {fd : FuncData} (Fd : FunD K (PySem.Str.ofString "__eq__") (PySem.Str.ofString "Eight.__eq__") (defArgs s29) (defBody s29) (defScope s29) [] [] (He.fAd K (PySem.Str.ofString "Eight", some (PySem.Str.ofString "__eq__"))) fd) (F : FnG P w K mg base false false (4 * (j + 1)) (He.fAd K (PySem.Str.ofString "Eight", some (PySem.Str.ofString "__eq__"))) fd [PySem.Str.ofString "self", PySem.Str.ofString "other"] (spF (WW K) (runF (j + 1)) 29)) : FnP P w K mg base false false (4 * (j + 1)) (He.fAd K (PySem.Str.ofString "Eight", some (PySem.Str.ofString "__eq__"))) (fun vs H Q E => spF (WW K) (runF (j + 1)) 29 (vs ++ []) H Q E) :=
  F.pos (Fd.bindsN (ps := [PySem.Str.ofString "self", PySem.Str.ofString "other"]) fun _ _ _ _ _ _ us hl => match us, hl with | [_, _], _ => rfl) .nil
theorem p30 {fd : FuncData} (Fd : FunD K (PySem.Str.ofString "__repr__") (PySem.Str.ofString "Eight.__repr__") (defArgs s30) (defBody s30) (defScope s30) [] [] (He.fAd K (PySem.Str.ofString "Eight", some (PySem.Str.ofString "__repr__"))) fd) (F : FnG P w K mg base false false (4 * (j + 1)) (He.fAd K (PySem.Str.ofString "Eight", some (PySem.Str.ofString "__repr__"))) fd [PySem.Str.ofString "self"] (spF (WW K) (runF (j + 1)) 30)) : FnP P w K mg base false false (4 * (j + 1)) (He.fAd K (PySem.Str.ofString "Eight", some (PySem.Str.ofString "__repr__"))) (fun vs H Q E => spF (WW K) (runF (j + 1)) 30 (vs ++ []) H Q E) :=
  F.pos (Fd.bindsN (ps := [PySem.Str.ofString "self"]) fun _ _ _ _ _ _ us hl => match us, hl with | [_], _ => rfl) .nil
theorem p31 {fd : FuncData} (Fd : FunD K (PySem.Str.ofString "four_text") (PySem.Str.ofString "four_text") (defArgs s31) (defBody s31) (defScope s31) [] [] (He.fAd K (PySem.Str.ofString "four_text", none)) fd) (F : FnG P w K mg base false false (4 * (j + 1)) (He.fAd K (PySem.Str.ofString "four_text", none)) fd [PySem.Str.ofString "numbers", PySem.Str.ofString "bottom"] (spF (WW K) (runF (j + 1)) 31)) : FnP P w K mg base false false (4 * (j + 1)) (He.fAd K (PySem.Str.ofString "four_text", none)) (fun vs H Q E => spF (WW K) (runF (j + 1)) 31 (vs ++ []) H Q E) :=
  F.pos (Fd.bindsN (ps := [PySem.Str.ofString "numbers", PySem.Str.ofString "bottom"]) fun _ _ _ _ _ _ us hl => match us, hl with | [_, _], _ => rfl) .nil
theorem p32 {fd : FuncData} (Fd : FunD K (PySem.Str.ofString "eight_by") (PySem.Str.ofString "eight_by") (defArgs s32) (defBody s32) (defScope s32) [] [] (He.fAd K (PySem.Str.ofString "eight_by", none)) fd) (F : FnG P w K mg base false false (4 * (j + 1)) (He.fAd K (PySem.Str.ofString "eight_by", none)) fd [PySem.Str.ofString "bottom", PySem.Str.ofString "numbers"] (spF (WW K) (runF (j + 1)) 32)) : FnP P w K mg base false false (4 * (j + 1)) (He.fAd K (PySem.Str.ofString "eight_by", none)) (fun vs H Q E => spF (WW K) (runF (j + 1)) 32 (vs ++ []) H Q E) :=
  F.pos (Fd.bindsN (ps := [PySem.Str.ofString "bottom", PySem.Str.ofString "numbers"]) fun _ _ _ _ _ _ us hl => match us, hl with | [_, _], _ => rfl) .nil
theorem p33 {fd : FuncData} (Fd : FunD K (PySem.Str.ofString "numbers_product") (PySem.Str.ofString "numbers_product") (defArgs s33) (defBody s33) (defScope s33) [] [] (He.fAd K (PySem.Str.ofString "numbers_product", none)) fd) (F : FnG P w K mg base false false (4 * (j + 1)) (He.fAd K (PySem.Str.ofString "numbers_product", none)) fd [PySem.Str.ofString "one", PySem.Str.ofString "other"] (spF (WW K) (runF (j + 1)) 33)) : FnP P w K mg base false false (4 * (j + 1)) (He.fAd K (PySem.Str.ofString "numbers_product", none)) (fun vs H Q E => spF (WW K) (runF (j + 1)) 33 (vs ++ []) H Q E) :=
  F.pos (Fd.bindsN (ps := [PySem.Str.ofString "one", PySem.Str.ofString "other"]) fun _ _ _ _ _ _ us hl => match us, hl with | [_, _], _ => rfl) .nil
theorem p34 {fd : FuncData} (Fd : FunD K (PySem.Str.ofString "product_of_eights") (PySem.Str.ofString "product_of_eights") (defArgs s34) (defBody s34) (defScope s34) [] [] (He.fAd K (PySem.Str.ofString "product_of_eights", none)) fd) (F : FnG P w K mg base false false (4 * (j + 1)) (He.fAd K (PySem.Str.ofString "product_of_eights", none)) fd [PySem.Str.ofString "one", PySem.Str.ofString "other"] (spF (WW K) (runF (j + 1)) 34)) : FnP P w K mg base false false (4 * (j + 1)) (He.fAd K (PySem.Str.ofString "product_of_eights", none)) (fun vs H Q E => spF (WW K) (runF (j + 1)) 34 (vs ++ []) H Q E) :=
  F.pos (Fd.bindsN (ps := [PySem.Str.ofString "one", PySem.Str.ofString "other"]) fun _ _ _ _ _ _ us hl => match us, hl with | [_, _], _ => rfl) .nil
theorem p35 {fd : FuncData} (Fd : FunD K (PySem.Str.ofString "by_ratio") (PySem.Str.ofString "by_ratio") (defArgs s35) (defBody s35) (defScope s35) [] [] (He.fAd K (PySem.Str.ofString "by_ratio", none)) fd) (F : FnG P w K mg base false false (4 * (j + 1)) (He.fAd K (PySem.Str.ofString "by_ratio", none)) fd [PySem.Str.ofString "eight", PySem.Str.ofString "ratio"] (spF (WW K) (runF (j + 1)) 35)) : FnP P w K mg base false false (4 * (j + 1)) (He.fAd K (PySem.Str.ofString "by_ratio", none)) (fun vs H Q E => spF (WW K) (runF (j + 1)) 35 (vs ++ []) H Q E) :=
  F.pos (Fd.bindsN (ps := [PySem.Str.ofString "eight", PySem.Str.ofString "ratio"]) fun _ _ _ _ _ _ us hl => match us, hl with | [_, _], _ => rfl) .nil
theorem p36 {fd : FuncData} (Fd : FunD K (PySem.Str.ofString "are_pose") (PySem.Str.ofString "are_pose") (defArgs s36) (defBody s36) (defScope s36) [] [] (He.fAd K (PySem.Str.ofString "are_pose", none)) fd) (F : FnG P w K mg base false false (4 * (j + 1)) (He.fAd K (PySem.Str.ofString "are_pose", none)) fd [PySem.Str.ofString "numbers"] (spF (WW K) (runF (j + 1)) 36)) : FnP P w K mg base false false (4 * (j + 1)) (He.fAd K (PySem.Str.ofString "are_pose", none)) (fun vs H Q E => spF (WW K) (runF (j + 1)) 36 (vs ++ []) H Q E) :=
  F.pos (Fd.bindsN (ps := [PySem.Str.ofString "numbers"]) fun _ _ _ _ _ _ us hl => match us, hl with | [_], _ => rfl) .nil
theorem p37 {fd : FuncData} (Fd : FunD K (PySem.Str.ofString "want_eight") (PySem.Str.ofString "want_eight") (defArgs s37) (defBody s37) (defScope s37) [] [] (He.fAd K (PySem.Str.ofString "want_eight", none)) fd) (F : FnG P w K mg base false false (4 * (j + 1)) (He.fAd K (PySem.Str.ofString "want_eight", none)) fd [PySem.Str.ofString "value"] (spF (WW K) (runF (j + 1)) 37)) : FnP P w K mg base false false (4 * (j + 1)) (He.fAd K (PySem.Str.ofString "want_eight", none)) (fun vs H Q E => spF (WW K) (runF (j + 1)) 37 (vs ++ []) H Q E) :=
  F.pos (Fd.bindsN (ps := [PySem.Str.ofString "value"]) fun _ _ _ _ _ _ us hl => match us, hl with | [_], _ => rfl) .nil
theorem p38 {fd : FuncData} (Fd : FunD K (PySem.Str.ofString "is_pose_eight") (PySem.Str.ofString "is_pose_eight") (defArgs s38) (defBody s38) (defScope s38) [] [] (He.fAd K (PySem.Str.ofString "is_pose_eight", none)) fd) (F : FnG P w K mg base false false (4 * (j + 1)) (He.fAd K (PySem.Str.ofString "is_pose_eight", none)) fd [PySem.Str.ofString "value"] (spF (WW K) (runF (j + 1)) 38)) : FnP P w K mg base false false (4 * (j + 1)) (He.fAd K (PySem.Str.ofString "is_pose_eight", none)) (fun vs H Q E => spF (WW K) (runF (j + 1)) 38 (vs ++ []) H Q E) :=
  F.pos (Fd.bindsN (ps := [PySem.Str.ofString "value"]) fun _ _ _ _ _ _ us hl => match us, hl with | [_], _ => rfl) .nil
theorem p39 {fd : FuncData} (Fd : FunD K (PySem.Str.ofString "want_pose") (PySem.Str.ofString "want_pose") (defArgs s39) (defBody s39) (defScope s39) [] [] (He.fAd K (PySem.Str.ofString "want_pose", none)) fd) (F : FnG P w K mg base false false (4 * (j + 1)) (He.fAd K (PySem.Str.ofString "want_pose", none)) fd [PySem.Str.ofString "value"] (spF (WW K) (runF (j + 1)) 39)) : FnP P w K mg base false false (4 * (j + 1)) (He.fAd K (PySem.Str.ofString "want_pose", none)) (fun vs H Q E => spF (WW K) (runF (j + 1)) 39 (vs ++ []) H Q E) :=
  F.pos (Fd.bindsN (ps := [PySem.Str.ofString "value"]) fun _ _ _ _ _ _ us hl => match us, hl with | [_], _ => rfl) .nil
theorem p40 {fd : FuncData} (Fd : FunD K (PySem.Str.ofString "turn_pose") (PySem.Str.ofString "turn_pose") (defArgs s40) (defBody s40) (defScope s40) [] [] (He.fAd K (PySem.Str.ofString "turn_pose", none)) fd) (F : FnG P w K mg base false false (4 * (j + 1)) (He.fAd K (PySem.Str.ofString "turn_pose", none)) fd [PySem.Str.ofString "four"] (spF (WW K) (runF (j + 1)) 40)) : FnP P w K mg base false false (4 * (j + 1)) (He.fAd K (PySem.Str.ofString "turn_pose", none)) (fun vs H Q E => spF (WW K) (runF (j + 1)) 40 (vs ++ []) H Q E) :=
  F.pos (Fd.bindsN (ps := [PySem.Str.ofString "four"]) fun _ _ _ _ _ _ us hl => match us, hl with | [_], _ => rfl) .nil
theorem p41 {fd : FuncData} (Fd : FunD K (PySem.Str.ofString "go_pose") (PySem.Str.ofString "go_pose") (defArgs s41) (defBody s41) (defScope s41) [] [] (He.fAd K (PySem.Str.ofString "go_pose", none)) fd) (F : FnG P w K mg base false false (4 * (j + 1)) (He.fAd K (PySem.Str.ofString "go_pose", none)) fd [PySem.Str.ofString "point"] (spF (WW K) (runF (j + 1)) 41)) : FnP P w K mg base false false (4 * (j + 1)) (He.fAd K (PySem.Str.ofString "go_pose", none)) (fun vs H Q E => spF (WW K) (runF (j + 1)) 41 (vs ++ []) H Q E) :=
  F.pos (Fd.bindsN (ps := [PySem.Str.ofString "point"]) fun _ _ _ _ _ _ us hl => match us, hl with | [_], _ => rfl) .nil
theorem p42 {fd : FuncData} (Fd : FunD K (PySem.Str.ofString "between_of") (PySem.Str.ofString "between_of") (defArgs s42) (defBody s42) (defScope s42) [] [] (He.fAd K (PySem.Str.ofString "between_of", none)) fd) (F : FnG P w K mg base false false (4 * (j + 1)) (He.fAd K (PySem.Str.ofString "between_of", none)) fd [PySem.Str.ofString "one", PySem.Str.ofString "other"] (spF (WW K) (runF (j + 1)) 42)) : FnP P w K mg base false false (4 * (j + 1)) (He.fAd K (PySem.Str.ofString "between_of", none)) (fun vs H Q E => spF (WW K) (runF (j + 1)) 42 (vs ++ []) H Q E) :=
  F.pos (Fd.bindsN (ps := [PySem.Str.ofString "one", PySem.Str.ofString "other"]) fun _ _ _ _ _ _ us hl => match us, hl with | [_, _], _ => rfl) .nil
theorem p43 {fd : FuncData} (Fd : FunD K (PySem.Str.ofString "between") (PySem.Str.ofString "between") (defArgs s43) (defBody s43) (defScope s43) [] [] (He.fAd K (PySem.Str.ofString "between", none)) fd) (F : FnG P w K mg base false false (4 * (j + 1)) (He.fAd K (PySem.Str.ofString "between", none)) fd [PySem.Str.ofString "pose", PySem.Str.ofString "other"] (spF (WW K) (runF (j + 1)) 43)) : FnP P w K mg base false false (4 * (j + 1)) (He.fAd K (PySem.Str.ofString "between", none)) (fun vs H Q E => spF (WW K) (runF (j + 1)) 43 (vs ++ []) H Q E) :=
  F.pos (Fd.bindsN (ps := [PySem.Str.ofString "pose", PySem.Str.ofString "other"]) fun _ _ _ _ _ _ us hl => match us, hl with | [_, _], _ => rfl) .nil
theorem p44 {fd : FuncData} (Fd : FunD K (PySem.Str.ofString "_law_pick") (PySem.Str.ofString "_law_pick") (defArgs s44) (defBody s44) (defScope s44) [] [] (He.fAd K (PySem.Str.ofString "_law_pick", none)) fd) (F : FnG P w K mg base false false (4 * (j + 1)) (He.fAd K (PySem.Str.ofString "_law_pick", none)) fd [PySem.Str.ofString "pot", PySem.Str.ofString "some"] (spF (WW K) (runF (j + 1)) 44)) : FnP P w K mg base false false (4 * (j + 1)) (He.fAd K (PySem.Str.ofString "_law_pick", none)) (fun vs H Q E => spF (WW K) (runF (j + 1)) 44 (vs ++ []) H Q E) :=
  F.pos (Fd.bindsN (ps := [PySem.Str.ofString "pot", PySem.Str.ofString "some"]) fun _ _ _ _ _ _ us hl => match us, hl with | [_, _], _ => rfl) .nil
theorem p45 {fd : FuncData} (Fd : FunD K (PySem.Str.ofString "_law_four") (PySem.Str.ofString "_law_four") (defArgs s45) (defBody s45) (defScope s45) [] [] (He.fAd K (PySem.Str.ofString "_law_four", none)) fd) (F : FnG P w K mg base false false (4 * (j + 1)) (He.fAd K (PySem.Str.ofString "_law_four", none)) fd [PySem.Str.ofString "one", PySem.Str.ofString "other"] (spF (WW K) (runF (j + 1)) 45)) : FnP P w K mg base false false (4 * (j + 1)) (He.fAd K (PySem.Str.ofString "_law_four", none)) (fun vs H Q E => spF (WW K) (runF (j + 1)) 45 (vs ++ []) H Q E) :=
  F.pos (Fd.bindsN (ps := [PySem.Str.ofString "one", PySem.Str.ofString "other"]) fun _ _ _ _ _ _ us hl => match us, hl with | [_, _], _ => rfl) .nil
theorem p46 {fd : FuncData} (Fd : FunD K (PySem.Str.ofString "_law_plus") (PySem.Str.ofString "_law_plus") (defArgs s46) (defBody s46) (defScope s46) [] [] (He.fAd K (PySem.Str.ofString "_law_plus", none)) fd) (F : FnG P w K mg base false false (4 * (j + 1)) (He.fAd K (PySem.Str.ofString "_law_plus", none)) fd [PySem.Str.ofString "one", PySem.Str.ofString "other"] (spF (WW K) (runF (j + 1)) 46)) : FnP P w K mg base false false (4 * (j + 1)) (He.fAd K (PySem.Str.ofString "_law_plus", none)) (fun vs H Q E => spF (WW K) (runF (j + 1)) 46 (vs ++ []) H Q E) :=
  F.pos (Fd.bindsN (ps := [PySem.Str.ofString "one", PySem.Str.ofString "other"]) fun _ _ _ _ _ _ us hl => match us, hl with | [_, _], _ => rfl) .nil
theorem p47 {fd : FuncData} (Fd : FunD K (PySem.Str.ofString "_law_by") (PySem.Str.ofString "_law_by") (defArgs s47) (defBody s47) (defScope s47) [] [] (He.fAd K (PySem.Str.ofString "_law_by", none)) fd) (F : FnG P w K mg base false false (4 * (j + 1)) (He.fAd K (PySem.Str.ofString "_law_by", none)) fd [PySem.Str.ofString "one", PySem.Str.ofString "number"] (spF (WW K) (runF (j + 1)) 47)) : FnP P w K mg base false false (4 * (j + 1)) (He.fAd K (PySem.Str.ofString "_law_by", none)) (fun vs H Q E => spF (WW K) (runF (j + 1)) 47 (vs ++ []) H Q E) :=
  F.pos (Fd.bindsN (ps := [PySem.Str.ofString "one", PySem.Str.ofString "number"]) fun _ _ _ _ _ _ us hl => match us, hl with | [_, _], _ => rfl) .nil
theorem p48 {fd : FuncData} (Fd : FunD K (PySem.Str.ofString "_law_times") (PySem.Str.ofString "_law_times") (defArgs s48) (defBody s48) (defScope s48) [] [] (He.fAd K (PySem.Str.ofString "_law_times", none)) fd) (F : FnG P w K mg base false false (4 * (j + 1)) (He.fAd K (PySem.Str.ofString "_law_times", none)) fd [PySem.Str.ofString "one", PySem.Str.ofString "other"] (spF (WW K) (runF (j + 1)) 48)) : FnP P w K mg base false false (4 * (j + 1)) (He.fAd K (PySem.Str.ofString "_law_times", none)) (fun vs H Q E => spF (WW K) (runF (j + 1)) 48 (vs ++ []) H Q E) :=
  F.pos (Fd.bindsN (ps := [PySem.Str.ofString "one", PySem.Str.ofString "other"]) fun _ _ _ _ _ _ us hl => match us, hl with | [_, _], _ => rfl) .nil
theorem p49 {fd : FuncData} (Fd : FunD K (PySem.Str.ofString "_law_eight") (PySem.Str.ofString "_law_eight") (defArgs s49) (defBody s49) (defScope s49) [] [] (He.fAd K (PySem.Str.ofString "_law_eight", none)) fd) (F : FnG P w K mg base false false (4 * (j + 1)) (He.fAd K (PySem.Str.ofString "_law_eight", none)) fd [PySem.Str.ofString "one"] (spF (WW K) (runF (j + 1)) 49)) : FnP P w K mg base false false (4 * (j + 1)) (He.fAd K (PySem.Str.ofString "_law_eight", none)) (fun vs H Q E => spF (WW K) (runF (j + 1)) 49 (vs ++ []) H Q E) :=
  F.pos (Fd.bindsN (ps := [PySem.Str.ofString "one"]) fun _ _ _ _ _ _ us hl => match us, hl with | [_], _ => rfl) .nil
theorem p50 {fd : FuncData} (Fd : FunD K (PySem.Str.ofString "_law_pose") (PySem.Str.ofString "_law_pose") (defArgs s50) (defBody s50) (defScope s50) [] [] (He.fAd K (PySem.Str.ofString "_law_pose", none)) fd) (F : FnG P w K mg base false false (4 * (j + 1)) (He.fAd K (PySem.Str.ofString "_law_pose", none)) fd [PySem.Str.ofString "pot"] (spF (WW K) (runF (j + 1)) 50)) : FnP P w K mg base false false (4 * (j + 1)) (He.fAd K (PySem.Str.ofString "_law_pose", none)) (fun vs H Q E => spF (WW K) (runF (j + 1)) 50 (vs ++ []) H Q E) :=
  F.pos (Fd.bindsN (ps := [PySem.Str.ofString "pot"]) fun _ _ _ _ _ _ us hl => match us, hl with | [_], _ => rfl) .nil
theorem p51 {fd : FuncData} (Fd : FunD K (PySem.Str.ofString "_law_between") (PySem.Str.ofString "_law_between") (defArgs s51) (defBody s51) (defScope s51) [] [] (He.fAd K (PySem.Str.ofString "_law_between", none)) fd) (F : FnG P w K mg base false false (4 * (j + 1)) (He.fAd K (PySem.Str.ofString "_law_between", none)) fd [PySem.Str.ofString "one", PySem.Str.ofString "other"] (spF (WW K) (runF (j + 1)) 51)) : FnP P w K mg base false false (4 * (j + 1)) (He.fAd K (PySem.Str.ofString "_law_between", none)) (fun vs H Q E => spF (WW K) (runF (j + 1)) 51 (vs ++ []) H Q E) :=
  F.pos (Fd.bindsN (ps := [PySem.Str.ofString "one", PySem.Str.ofString "other"]) fun _ _ _ _ _ _ us hl => match us, hl with | [_, _], _ => rfl) .nil
theorem p52 {fd : FuncData} (Fd : FunD K (PySem.Str.ofString "_law_cross") (PySem.Str.ofString "_law_cross") (defArgs s52) (defBody s52) (defScope s52) [] [] (He.fAd K (PySem.Str.ofString "_law_cross", none)) fd) (F : FnG P w K mg base false false (4 * (j + 1)) (He.fAd K (PySem.Str.ofString "_law_cross", none)) fd [PySem.Str.ofString "one", PySem.Str.ofString "other"] (spF (WW K) (runF (j + 1)) 52)) : FnP P w K mg base false false (4 * (j + 1)) (He.fAd K (PySem.Str.ofString "_law_cross", none)) (fun vs H Q E => spF (WW K) (runF (j + 1)) 52 (vs ++ []) H Q E) :=
  F.pos (Fd.bindsN (ps := [PySem.Str.ofString "one", PySem.Str.ofString "other"]) fun _ _ _ _ _ _ us hl => match us, hl with | [_, _], _ => rfl) .nil
theorem p53 {fd : FuncData} (Fd : FunD K (PySem.Str.ofString "_law_hinge") (PySem.Str.ofString "_law_hinge") (defArgs s53) (defBody s53) (defScope s53) [] [] (He.fAd K (PySem.Str.ofString "_law_hinge", none)) fd) (F : FnG P w K mg base false false (4 * (j + 1)) (He.fAd K (PySem.Str.ofString "_law_hinge", none)) fd [PySem.Str.ofString "pot"] (spF (WW K) (runF (j + 1)) 53)) : FnP P w K mg base false false (4 * (j + 1)) (He.fAd K (PySem.Str.ofString "_law_hinge", none)) (fun vs H Q E => spF (WW K) (runF (j + 1)) 53 (vs ++ []) H Q E) :=
  F.pos (Fd.bindsN (ps := [PySem.Str.ofString "pot"]) fun _ _ _ _ _ _ us hl => match us, hl with | [_], _ => rfl) .nil
theorem p54 {fd : FuncData} (Fd : FunD K (PySem.Str.ofString "_law_size") (PySem.Str.ofString "_law_size") (defArgs s54) (defBody s54) (defScope s54) [] [] (He.fAd K (PySem.Str.ofString "_law_size", none)) fd) (F : FnG P w K mg base false false (4 * (j + 1)) (He.fAd K (PySem.Str.ofString "_law_size", none)) fd [PySem.Str.ofString "one"] (spF (WW K) (runF (j + 1)) 54)) : FnP P w K mg base false false (4 * (j + 1)) (He.fAd K (PySem.Str.ofString "_law_size", none)) (fun vs H Q E => spF (WW K) (runF (j + 1)) 54 (vs ++ []) H Q E) :=
  F.pos (Fd.bindsN (ps := [PySem.Str.ofString "one"]) fun _ _ _ _ _ _ us hl => match us, hl with | [_], _ => rfl) .nil
theorem p55 {fd : FuncData} (Fd : FunD K (PySem.Str.ofString "_law_right") (PySem.Str.ofString "_law_right") (defArgs s55) (defBody s55) (defScope s55) [] [] (He.fAd K (PySem.Str.ofString "_law_right", none)) fd) (F : FnG P w K mg base false true (4 * (j + 1)) (He.fAd K (PySem.Str.ofString "_law_right", none)) fd [PySem.Str.ofString "pot"] (spF (WW K) (runF (j + 1)) 55)) : FnP P w K mg base false true (4 * (j + 1)) (He.fAd K (PySem.Str.ofString "_law_right", none)) (fun vs H Q E => spF (WW K) (runF (j + 1)) 55 (vs ++ []) H Q E) :=
  F.pos (Fd.bindsN (ps := [PySem.Str.ofString "pot"]) fun _ _ _ _ _ _ us hl => match us, hl with | [_], _ => rfl) .nil
theorem p56 {fd : FuncData} (Fd : FunD K (PySem.Str.ofString "_law_pot") (PySem.Str.ofString "_law_pot") (defArgs s56) (defBody s56) (defScope s56) [] [] (He.fAd K (PySem.Str.ofString "_law_pot", none)) fd) (F : FnG P w K mg base false false (4 * (j + 1)) (He.fAd K (PySem.Str.ofString "_law_pot", none)) fd [PySem.Str.ofString "script", PySem.Str.ofString "k"] (spF (WW K) (runF (j + 1)) 56)) : FnP P w K mg base false false (4 * (j + 1)) (He.fAd K (PySem.Str.ofString "_law_pot", none)) (fun vs H Q E => spF (WW K) (runF (j + 1)) 56 (vs ++ []) H Q E) :=
  F.pos (Fd.bindsN (ps := [PySem.Str.ofString "script", PySem.Str.ofString "k"]) fun _ _ _ _ _ _ us hl => match us, hl with | [_, _], _ => rfl) .nil
theorem p58 {fd : FuncData} (Fd : FunD K (PySem.Str.ofString "_law_draw") (PySem.Str.ofString "_law_draw") (defArgs s58) (defBody s58) (defScope s58) [] [] (He.fAd K (PySem.Str.ofString "_law_draw", none)) fd) (F : FnG P w K mg base false false (4 * (j + 1)) (He.fAd K (PySem.Str.ofString "_law_draw", none)) fd [PySem.Str.ofString "pot", PySem.Str.ofString "many"] (spF (WW K) (runF (j + 1)) 58)) : FnP P w K mg base false false (4 * (j + 1)) (He.fAd K (PySem.Str.ofString "_law_draw", none)) (fun vs H Q E => spF (WW K) (runF (j + 1)) 58 (vs ++ []) H Q E) :=
  F.pos (Fd.bindsN (ps := [PySem.Str.ofString "pot", PySem.Str.ofString "many"]) fun _ _ _ _ _ _ us hl => match us, hl with | [_, _], _ => rfl) .nil
theorem kb_between_other_pose {fd : FuncData} (Fd : FunD K (PySem.Str.ofString "between") (PySem.Str.ofString "between") (defArgs s43) (defBody s43) (defScope s43) [] [] (He.fAd K (PySem.Str.ofString "between", none)) fd) : KwB K fd [PySem.Str.ofString "pose", PySem.Str.ofString "other"] [PySem.Str.ofString "other", PySem.Str.ofString "pose"] [1, 0] := by
  obtain ⟨oc, od, dV, kV, doc, pm, an, cdv, ct, osl, rfl, lk, hcd, hD, hK⟩ := Fd.ex
  rcases hD with ⟨_, rfl⟩ | ⟨e, _⟩
  · exact fun s ws _ hl => .of_eq (match ws, hl with | [_, _], _ => rfl)
  · exact absurd rfl e
theorem kb_between_pose_other {fd : FuncData} (Fd : FunD K (PySem.Str.ofString "between") (PySem.Str.ofString "between") (defArgs s43) (defBody s43) (defScope s43) [] [] (He.fAd K (PySem.Str.ofString "between", none)) fd) : KwB K fd [PySem.Str.ofString "pose", PySem.Str.ofString "other"] [PySem.Str.ofString "pose", PySem.Str.ofString "other"] [0, 1] := by
  obtain ⟨oc, od, dV, kV, doc, pm, an, cdv, ct, osl, rfl, lk, hcd, hD, hK⟩ := Fd.ex
  rcases hD with ⟨_, rfl⟩ | ⟨e, _⟩
  · exact fun s ws _ hl => .of_eq (match ws, hl with | [_, _], _ => rfl)
  · exact absurd rfl e
theorem tab_step (H : Hy K mg) (T : Tab P w K mg base j) : Tab P w K mg base (j + 1) where
  r_0 := let ⟨_, Fd⟩ := H.d0; p0 Fd (g0 H T Fd)
  r_1 := let ⟨_, Fd⟩ := H.d1; p1 Fd (g1 H T Fd)
  r_2 := let ⟨_, Fd⟩ := H.d2; p2 Fd (g2 H T Fd)
  r_3 := let ⟨_, Fd⟩ := H.d3; p3 Fd (g3 H T Fd)
  r_4 := let ⟨_, Fd⟩ := H.d4; p4 Fd (g4 H T Fd)
  r_4d1 := let ⟨_, Fd⟩ := H.d4; p4d1 Fd (g4 H T Fd)
  r_5 := let ⟨_, Fd⟩ := H.d5; p5 Fd (g5 H T Fd)
  r_6 := let ⟨_, Fd⟩ := H.d6; p6 Fd (g6 H T Fd)
  r_7 := let ⟨_, Fd⟩ := H.d7; p7 Fd (g7 H T Fd)
  r_8 := let ⟨_, Fd⟩ := H.d8; p8 Fd (g8 H T Fd)
  r_9 := let ⟨_, Fd⟩ := H.d9; p9 Fd (g9 H T Fd)
  r_10 := let ⟨_, Fd⟩ := H.d10; p10 Fd (g10 H T Fd)
  r_11 := let ⟨_, Fd⟩ := H.d11; p11 Fd (g11 H T Fd)
  r_12 := let ⟨_, Fd⟩ := H.d12; p12 Fd (g12 H T Fd)
  r_13 := let ⟨_, Fd⟩ := H.d13; p13 Fd (g13 H T Fd)
  r_14 := let ⟨_, Fd⟩ := H.d14; p14 Fd (g14 H T Fd)
  r_15 := let ⟨_, Fd⟩ := H.d15; p15 Fd (g15 H T Fd)
  r_16 := let ⟨_, Fd⟩ := H.d16; p16 Fd (g16 H T Fd)
  r_17 := let ⟨_, Fd⟩ := H.d17; p17 Fd (g17 H T Fd)
  r_18 := let ⟨_, Fd⟩ := H.d18; p18 Fd (g18 H T Fd)
  r_19 := let ⟨_, Fd⟩ := H.d19; p19 Fd (g19 H T Fd)
  r_20 := let ⟨_, Fd⟩ := H.d20; p20 Fd (g20 H T Fd)
  r_21 := let ⟨_, Fd⟩ := H.d21; p21 Fd (g21 H T Fd)
  r_22 := let ⟨_, Fd⟩ := H.d22; p22 Fd (g22 H T Fd)
  r_23 := let ⟨_, Fd⟩ := H.d23; p23 Fd (g23 H T Fd)
  r_24 := let ⟨_, Fd⟩ := H.d24; p24 Fd (g24 H T Fd)
  r_25 := let ⟨_, Fd⟩ := H.d25; p25 Fd (g25 H T Fd)
  r_25d1 := let ⟨_, Fd⟩ := H.d25; p25d1 Fd (g25 H T Fd)
  r_26 := let ⟨_, Fd⟩ := H.d26; p26 Fd (g26 H T Fd)
  r_27 := let ⟨_, Fd⟩ := H.d27; p27 Fd (g27 H T Fd)
  r_28 := let ⟨_, Fd⟩ := H.d28; p28 Fd (g28 H T Fd)
  r_29 := let ⟨_, Fd⟩ := H.d29; p29 Fd (g29 H T Fd)
  r_30 := let ⟨_, Fd⟩ := H.d30; p30 Fd (g30 H T Fd)
  r_31 := let ⟨_, Fd⟩ := H.d31; p31 Fd (g31 H T Fd)
  r_32 := let ⟨_, Fd⟩ := H.d32; p32 Fd (g32 H T Fd)
  r_33 := let ⟨_, Fd⟩ := H.d33; p33 Fd (g33 H T Fd)
  r_34 := let ⟨_, Fd⟩ := H.d34; p34 Fd (g34 H T Fd)
  r_35 := let ⟨_, Fd⟩ := H.d35; p35 Fd (g35 H T Fd)
  r_36 := let ⟨_, Fd⟩ := H.d36; p36 Fd (g36 H T Fd)
  r_37 := let ⟨_, Fd⟩ := H.d37; p37 Fd (g37 H T Fd)
  r_38 := let ⟨_, Fd⟩ := H.d38; p38 Fd (g38 H T Fd)
  r_39 := let ⟨_, Fd⟩ := H.d39; p39 Fd (g39 H T Fd)
  r_40 := let ⟨_, Fd⟩ := H.d40; p40 Fd (g40 H T Fd)
  r_41 := let ⟨_, Fd⟩ := H.d41; p41 Fd (g41 H T Fd)
  r_42 := let ⟨_, Fd⟩ := H.d42; p42 Fd (g42 H T Fd)
  r_43 := let ⟨_, Fd⟩ := H.d43; p43 Fd (g43 H T Fd)
  r_44 := let ⟨_, Fd⟩ := H.d44; p44 Fd (g44 H T Fd)
  r_45 := let ⟨_, Fd⟩ := H.d45; p45 Fd (g45 H T Fd)
  r_46 := let ⟨_, Fd⟩ := H.d46; p46 Fd (g46 H T Fd)
  r_47 := let ⟨_, Fd⟩ := H.d47; p47 Fd (g47 H T Fd)
  r_48 := let ⟨_, Fd⟩ := H.d48; p48 Fd (g48 H T Fd)
  r_49 := let ⟨_, Fd⟩ := H.d49; p49 Fd (g49 H T Fd)
  r_50 := let ⟨_, Fd⟩ := H.d50; p50 Fd (g50 H T Fd)
  r_51 := let ⟨_, Fd⟩ := H.d51; p51 Fd (g51 H T Fd)
  r_52 := let ⟨_, Fd⟩ := H.d52; p52 Fd (g52 H T Fd)
  r_53 := let ⟨_, Fd⟩ := H.d53; p53 Fd (g53 H T Fd)
  r_54 := let ⟨_, Fd⟩ := H.d54; p54 Fd (g54 H T Fd)
  r_55 := let ⟨_, Fd⟩ := H.d55; p55 Fd (g55 H T Fd)
  r_56 := let ⟨_, Fd⟩ := H.d56; p56 Fd (g56 H T Fd)
  r_58 := let ⟨_, Fd⟩ := H.d58; p58 Fd (g58 H T Fd)
  k_between_other_pose := let ⟨_, Fd⟩ := H.d43; ⟨_, g43 H T Fd, kb_between_other_pose Fd⟩
  k_between_pose_other := let ⟨_, Fd⟩ := H.d43; ⟨_, g43 H T Fd, kb_between_pose_other Fd⟩
theorem tab_zero (H : Hy K mg) : Tab P w K mg base 0 where
  r_0 := fn_noP fun _ _ _ h => by cases h
  r_1 := fn_noP fun _ _ _ h => by cases h
  r_2 := fn_noP fun _ _ _ h => by cases h
  r_3 := fn_noP fun _ _ _ h => by cases h
  r_4 := in_noP fun _ _ _ h => by cases h
  r_4d1 := in_noP fun _ _ _ h => by cases h
  r_5 := fn_noP fun _ _ _ h => by cases h
  r_6 := fn_noP fun _ _ _ h => by cases h
  r_7 := fn_noP fun _ _ _ h => by cases h
  r_8 := fn_noP fun _ _ _ h => by cases h
  r_9 := fn_noP fun _ _ _ h => by cases h
  r_10 := fn_noP fun _ _ _ h => by cases h
  r_11 := fn_noP fun _ _ _ h => by cases h
  r_12 := fn_noP fun _ _ _ h => by cases h
  r_13 := fn_noP fun _ _ _ h => by cases h
  r_14 := fn_noP fun _ _ _ h => by cases h
  r_15 := fn_noP fun _ _ _ h => by cases h
  r_16 := fn_noP fun _ _ _ h => by cases h
  r_17 := fn_noP fun _ _ _ h => by cases h
  r_18 := fn_noP fun _ _ _ h => by cases h
  r_19 := fn_noP fun _ _ _ h => by cases h
  r_20 := fn_noP fun _ _ _ h => by cases h
  r_21 := fn_noP fun _ _ _ h => by cases h
  r_22 := in_noP fun _ _ _ h => by cases h
  r_23 := fn_noP fun _ _ _ h => by cases h
  r_24 := fn_noP fun _ _ _ h => by cases h
  r_25 := in_noP fun _ _ _ h => by cases h
  r_25d1 := in_noP fun _ _ _ h => by cases h
  r_26 := fn_noP fun _ _ _ h => by cases h
  r_27 := fn_noP fun _ _ _ h => by cases h
  r_28 := fn_noP fun _ _ _ h => by cases h
  r_29 := fn_noP fun _ _ _ h => by cases h
  r_30 := fn_noP fun _ _ _ h => by cases h
  r_31 := fn_noP fun _ _ _ h => by cases h
  r_32 := fn_noP fun _ _ _ h => by cases h
  r_33 := fn_noP fun _ _ _ h => by cases h
  r_34 := fn_noP fun _ _ _ h => by cases h
  r_35 := fn_noP fun _ _ _ h => by cases h
  r_36 := fn_noP fun _ _ _ h => by cases h
  r_37 := fn_noP fun _ _ _ h => by cases h
  r_38 := fn_noP fun _ _ _ h => by cases h
  r_39 := fn_noP fun _ _ _ h => by cases h
  r_40 := fn_noP fun _ _ _ h => by cases h
  r_41 := fn_noP fun _ _ _ h => by cases h
  r_42 := fn_noP fun _ _ _ h => by cases h
  r_43 := fn_noP fun _ _ _ h => by cases h
  r_44 := fn_noP fun _ _ _ h => by cases h
  r_45 := fn_noP fun _ _ _ h => by cases h
  r_46 := fn_noP fun _ _ _ h => by cases h
  r_47 := fn_noP fun _ _ _ h => by cases h
  r_48 := fn_noP fun _ _ _ h => by cases h
  r_49 := fn_noP fun _ _ _ h => by cases h
  r_50 := fn_noP fun _ _ _ h => by cases h
  r_51 := fn_noP fun _ _ _ h => by cases h
  r_52 := fn_noP fun _ _ _ h => by cases h
  r_53 := fn_noP fun _ _ _ h => by cases h
  r_54 := fn_noP fun _ _ _ h => by cases h
  r_55 := fn_noP fun _ _ _ h => by cases h
  r_56 := fn_noP fun _ _ _ h => by cases h
  r_58 := fn_noP fun _ _ _ h => by cases h
  k_between_other_pose := let ⟨_, Fd⟩ := H.d43; ⟨_, fn_no (fun _ _ _ h => by cases h), kb_between_other_pose Fd⟩
  k_between_pose_other := let ⟨_, Fd⟩ := H.d43; ⟨_, fn_no (fun _ _ _ h => by cases h), kb_between_pose_other Fd⟩
theorem tab (H : Hy K mg) : ∀ j, Tab P w K mg base j
  | 0 => tab_zero H
  | j + 1 => tab_step H (tab H j)
end
end K81

namespace K81
open PySem PySem.Spec PyProof.Rows L2 Ev
def loose0 : List Str := [PySem.Str.ofString "gcd",
  PySem.Str.ofString "lcm",
  PySem.Str.ofString "_wall",
  PySem.Str.ofString "HingeError",
  PySem.Str.ofString "StateError",
  PySem.Str.ofString "InvalidEight",
  PySem.Str.ofString "InvalidFour",
  PySem.Str.ofString "InvalidNumber",
  PySem.Str.ofString "InvalidPoint",
  PySem.Str.ofString "InvalidPose",
  PySem.Str.ofString "DividedByZero",
  PySem.Str.ofString "NotUndone",
  PySem.Str.ofString "is_integer",
  PySem.Str.ofString "is_list",
  PySem.Str.ofString "PART",
  PySem.Str.ofString "digits_of",
  PySem.Str.ofString "common_part",
  PySem.Str.ofString "Ratio",
  PySem.Str.ofString "told_pair",
  PySem.Str.ofString "is_number"]
def loose1 : List Str := [PySem.Str.ofString "ratio_of",
  PySem.Str.ofString "want_number",
  PySem.Str.ofString "wholes",
  PySem.Str.ofString "are_numbers",
  PySem.Str.ofString "is_four",
  PySem.Str.ofString "is_point",
  PySem.Str.ofString "want_four",
  PySem.Str.ofString "want_point",
  PySem.Str.ofString "four_product",
  PySem.Str.ofString "four_conjugate",
  PySem.Str.ofString "dot",
  PySem.Str.ofString "told_row",
  PySem.Str.ofString "norm_four",
  PySem.Str.ofString "NOUGHT",
  PySem.Str.ofString "Told",
  PySem.Str.ofString "lowest",
  PySem.Str.ofString "told_eight",
  PySem.Str.ofString "Eight",
  PySem.Str.ofString "four_text",
  PySem.Str.ofString "eight_by"]
def loose2 : List Str := [PySem.Str.ofString "numbers_product",
  PySem.Str.ofString "product_of_eights",
  PySem.Str.ofString "mixed",
  PySem.Str.ofString "sum_of_eights",
  PySem.Str.ofString "less_of_eights",
  PySem.Str.ofString "by_ratio",
  PySem.Str.ofString "norm_numbers",
  PySem.Str.ofString "undone_of",
  PySem.Str.ofString "are_pose",
  PySem.Str.ofString "want_eight",
  PySem.Str.ofString "is_pose_eight",
  PySem.Str.ofString "want_pose",
  PySem.Str.ofString "turn_pose",
  PySem.Str.ofString "go_pose",
  PySem.Str.ofString "between_of",
  PySem.Str.ofString "between",
  PySem.Str.ofString "_law_pot",
  PySem.Str.ofString "_law_draw",
  PySem.Str.ofString "_law_pick",
  PySem.Str.ofString "_law_four"]
def loose3 : List Str := [PySem.Str.ofString "_law_plus",
  PySem.Str.ofString "_law_by",
  PySem.Str.ofString "_law_times",
  PySem.Str.ofString "_law_eight",
  PySem.Str.ofString "_law_pose",
  PySem.Str.ofString "_law_between",
  PySem.Str.ofString "_law_cross",
  PySem.Str.ofString "_law_hinge",
  PySem.Str.ofString "_law_size",
  PySem.Str.ofString "_law_right"]
def loose : List Str := loose0 ++ loose1 ++ loose2 ++ loose3
def wanted0 : List Str := [PySem.Str.ofString "is_integer",
  PySem.Str.ofString "is_list",
  PySem.Str.ofString "PART",
  PySem.Str.ofString "digits_of",
  PySem.Str.ofString "common_part",
  PySem.Str.ofString "Ratio",
  PySem.Str.ofString "told_pair",
  PySem.Str.ofString "is_number",
  PySem.Str.ofString "ratio_of",
  PySem.Str.ofString "want_number",
  PySem.Str.ofString "wholes",
  PySem.Str.ofString "are_numbers",
  PySem.Str.ofString "is_four",
  PySem.Str.ofString "is_point",
  PySem.Str.ofString "want_four",
  PySem.Str.ofString "want_point",
  PySem.Str.ofString "four_product",
  PySem.Str.ofString "dot",
  PySem.Str.ofString "told_row",
  PySem.Str.ofString "norm_four"]
def wanted1 : List Str := [PySem.Str.ofString "NOUGHT",
  PySem.Str.ofString "Told",
  PySem.Str.ofString "lowest",
  PySem.Str.ofString "told_eight",
  PySem.Str.ofString "Eight",
  PySem.Str.ofString "four_text",
  PySem.Str.ofString "eight_by",
  PySem.Str.ofString "numbers_product",
  PySem.Str.ofString "product_of_eights",
  PySem.Str.ofString "by_ratio",
  PySem.Str.ofString "are_pose",
  PySem.Str.ofString "want_eight",
  PySem.Str.ofString "is_pose_eight",
  PySem.Str.ofString "want_pose",
  PySem.Str.ofString "turn_pose",
  PySem.Str.ofString "go_pose",
  PySem.Str.ofString "between_of",
  PySem.Str.ofString "between",
  PySem.Str.ofString "_law_pot",
  PySem.Str.ofString "_law_draw"]
def wanted2 : List Str := [PySem.Str.ofString "_law_pick",
  PySem.Str.ofString "_law_four",
  PySem.Str.ofString "_law_plus",
  PySem.Str.ofString "_law_by",
  PySem.Str.ofString "_law_times",
  PySem.Str.ofString "_law_eight",
  PySem.Str.ofString "_law_pose",
  PySem.Str.ofString "_law_between",
  PySem.Str.ofString "_law_cross",
  PySem.Str.ofString "_law_hinge",
  PySem.Str.ofString "_law_size",
  PySem.Str.ofString "_law_right",
  PySem.Str.ofString "law"]
def wanted : List Str := wanted0 ++ wanted1 ++ wanted2
def cks0 : List Ck := [ckCls (PySem.Str.ofString "Ratio") [PySem.Str.ofString "own_top", PySem.Str.ofString "own_bottom"],
  ckCls (PySem.Str.ofString "Told") [PySem.Str.ofString "told_bottom", PySem.Str.ofString "told_numbers"],
  ckCls (PySem.Str.ofString "Eight") [PySem.Str.ofString "own_bottom", PySem.Str.ofString "own_numbers"],
  ckMk (PySem.Str.ofString "Ratio"),
  ckMk (PySem.Str.ofString "Told"),
  ckMk (PySem.Str.ofString "Eight"),
  ckGlo (PySem.Str.ofString "Eight"),
  ckTup (PySem.Str.ofString "NOUGHT") [0, 0, 0, 0],
  ckInt (PySem.Str.ofString "PART") (1000000000000000000000000000000000000000000000000000000000000),
  ckGlo (PySem.Str.ofString "Ratio"),
  ckGlo (PySem.Str.ofString "Told"),
  ckGlo (PySem.Str.ofString "_law_between"),
  ckGlo (PySem.Str.ofString "_law_by"),
  ckGlo (PySem.Str.ofString "_law_cross"),
  ckGlo (PySem.Str.ofString "_law_draw"),
  ckGlo (PySem.Str.ofString "_law_eight"),
  ckGlo (PySem.Str.ofString "_law_four"),
  ckGlo (PySem.Str.ofString "_law_hinge"),
  ckGlo (PySem.Str.ofString "_law_pick"),
  ckGlo (PySem.Str.ofString "_law_plus")]
def cks1 : List Ck := [ckGlo (PySem.Str.ofString "_law_pose"),
  ckGlo (PySem.Str.ofString "_law_pot"),
  ckGlo (PySem.Str.ofString "_law_right"),
  ckGlo (PySem.Str.ofString "_law_size"),
  ckGlo (PySem.Str.ofString "_law_times"),
  ckGlo (PySem.Str.ofString "are_numbers"),
  ckGlo (PySem.Str.ofString "are_pose"),
  ckGlo (PySem.Str.ofString "between"),
  ckGlo (PySem.Str.ofString "between_of"),
  ckGlo (PySem.Str.ofString "by_ratio"),
  ckGlo (PySem.Str.ofString "common_part"),
  ckGlo (PySem.Str.ofString "digits_of"),
  ckGlo (PySem.Str.ofString "dot"),
  ckGlo (PySem.Str.ofString "eight_by"),
  ckGlo (PySem.Str.ofString "four_product"),
  ckGlo (PySem.Str.ofString "four_text"),
  ckBlt (PySem.Str.ofString "gcd") "math.gcd",
  ckGlo (PySem.Str.ofString "go_pose"),
  ckGlo (PySem.Str.ofString "is_four"),
  ckGlo (PySem.Str.ofString "is_integer")]
def cks2 : List Ck := [ckGlo (PySem.Str.ofString "is_list"),
  ckGlo (PySem.Str.ofString "is_number"),
  ckGlo (PySem.Str.ofString "is_point"),
  ckGlo (PySem.Str.ofString "is_pose_eight"),
  ckBlt (PySem.Str.ofString "lcm") "math.lcm",
  ckGlo (PySem.Str.ofString "lowest"),
  ckGlo (PySem.Str.ofString "norm_four"),
  ckGlo (PySem.Str.ofString "numbers_product"),
  ckGlo (PySem.Str.ofString "product_of_eights"),
  ckGlo (PySem.Str.ofString "ratio_of"),
  ckGlo (PySem.Str.ofString "told_eight"),
  ckGlo (PySem.Str.ofString "told_pair"),
  ckGlo (PySem.Str.ofString "told_row"),
  ckGlo (PySem.Str.ofString "turn_pose"),
  ckGlo (PySem.Str.ofString "want_eight"),
  ckGlo (PySem.Str.ofString "want_four"),
  ckGlo (PySem.Str.ofString "want_number"),
  ckGlo (PySem.Str.ofString "want_point"),
  ckGlo (PySem.Str.ofString "want_pose"),
  ckGlo (PySem.Str.ofString "wholes")]
def cks3 : List Ck := [ckFree (PySem.Str.ofString "abs"),
  ckFree (PySem.Str.ofString "all"),
  ckFree (PySem.Str.ofString "bool"),
  ckFree (PySem.Str.ofString "divmod"),
  ckFree (PySem.Str.ofString "int"),
  ckFree (PySem.Str.ofString "isinstance"),
  ckFree (PySem.Str.ofString "len"),
  ckFree (PySem.Str.ofString "list"),
  ckFree (PySem.Str.ofString "max"),
  ckFree (PySem.Str.ofString "min"),
  ckFree (PySem.Str.ofString "range"),
  ckFree (PySem.Str.ofString "repr"),
  ckFree (PySem.Str.ofString "str"),
  ckFree (PySem.Str.ofString "sum"),
  ckFree (PySem.Str.ofString "tuple"),
  ckFree (PySem.Str.ofString "zip"),
  ckOp (PySem.Str.ofString "Ratio") (PySem.Str.ofString "__mul__") "mul",
  ckOp (PySem.Str.ofString "Eight") (PySem.Str.ofString "__mul__") "mul",
  ckEq (PySem.Str.ofString "Ratio"),
  ckEq (PySem.Str.ofString "Eight")]
def cks4 : List Ck := [ckMeth (PySem.Str.ofString "Ratio") (PySem.Str.ofString "__str__"),
  ckMeth (PySem.Str.ofString "Eight") (PySem.Str.ofString "__repr__"),
  ckMeth (PySem.Str.ofString "Eight") (PySem.Str.ofString "first"),
  ckMeth (PySem.Str.ofString "Eight") (PySem.Str.ofString "times"),
  ckIsi (fun K t => PySem.W.kitOne K t (.ref (clsA K 2))) I_Eight clsA,
  ckIsi (fun K t => PySem.W.kitOne K t (.ref (clsA K 0))) I_Ratio clsA,
  ckIsi (fun K t => PySem.W.kitOne K t (.ref (clsA K 1))) I_Told clsA,
  ckIsi (fun K t => PySem.W.kitOne K t (.type "bool")) I_bool clsA,
  ckIsi (fun K t => PySem.W.kitOne K t (.type "int")) I_int clsA,
  ckIsi (fun K t => PySem.W.kitAny K t [.type "list", .type "tuple"]) I_list_tuple clsA,
  ckDt (He.dflAt (PySem.Str.ofString "Eight", some (PySem.Str.ofString "__init__")) 0) [0, 0, 0, 0],
  ckGlo (PySem.Str.ofString "law")]
def cks : List Ck := cks0 ++ cks1 ++ cks2 ++ cks3 ++ cks4
def defs0 : List He.DefD := [⟨(PySem.Str.ofString "is_integer", none), PySem.Str.ofString "is_integer", PySem.Str.ofString "is_integer", defArgs s0, defBody s0, defScope s0, [], []⟩,
  ⟨(PySem.Str.ofString "is_list", none), PySem.Str.ofString "is_list", PySem.Str.ofString "is_list", defArgs s1, defBody s1, defScope s1, [], []⟩,
  ⟨(PySem.Str.ofString "digits_of", none), PySem.Str.ofString "digits_of", PySem.Str.ofString "digits_of", defArgs s2, defBody s2, defScope s2, [], []⟩,
  ⟨(PySem.Str.ofString "common_part", none), PySem.Str.ofString "common_part", PySem.Str.ofString "common_part", defArgs s3, defBody s3, defScope s3, [], []⟩,
  ⟨(PySem.Str.ofString "Ratio", some (PySem.Str.ofString "__init__")), PySem.Str.ofString "__init__", PySem.Str.ofString "Ratio.__init__", defArgs s4, defBody s4, defScope s4, [.int (1)], []⟩,
  ⟨(PySem.Str.ofString "Ratio", some (PySem.Str.ofString "__mul__")), PySem.Str.ofString "__mul__", PySem.Str.ofString "Ratio.__mul__", defArgs s5, defBody s5, defScope s5, [], []⟩,
  ⟨(PySem.Str.ofString "Ratio", some (PySem.Str.ofString "__eq__")), PySem.Str.ofString "__eq__", PySem.Str.ofString "Ratio.__eq__", defArgs s6, defBody s6, defScope s6, [], []⟩,
  ⟨(PySem.Str.ofString "Ratio", some (PySem.Str.ofString "__str__")), PySem.Str.ofString "__str__", PySem.Str.ofString "Ratio.__str__", defArgs s7, defBody s7, defScope s7, [], []⟩,
  ⟨(PySem.Str.ofString "told_pair", none), PySem.Str.ofString "told_pair", PySem.Str.ofString "told_pair", defArgs s8, defBody s8, defScope s8, [], []⟩,
  ⟨(PySem.Str.ofString "is_number", none), PySem.Str.ofString "is_number", PySem.Str.ofString "is_number", defArgs s9, defBody s9, defScope s9, [], []⟩,
  ⟨(PySem.Str.ofString "ratio_of", none), PySem.Str.ofString "ratio_of", PySem.Str.ofString "ratio_of", defArgs s10, defBody s10, defScope s10, [], []⟩,
  ⟨(PySem.Str.ofString "want_number", none), PySem.Str.ofString "want_number", PySem.Str.ofString "want_number", defArgs s11, defBody s11, defScope s11, [], []⟩,
  ⟨(PySem.Str.ofString "wholes", none), PySem.Str.ofString "wholes", PySem.Str.ofString "wholes", defArgs s12, defBody s12, defScope s12, [], []⟩,
  ⟨(PySem.Str.ofString "are_numbers", none), PySem.Str.ofString "are_numbers", PySem.Str.ofString "are_numbers", defArgs s13, defBody s13, defScope s13, [], []⟩,
  ⟨(PySem.Str.ofString "is_four", none), PySem.Str.ofString "is_four", PySem.Str.ofString "is_four", defArgs s14, defBody s14, defScope s14, [], []⟩,
  ⟨(PySem.Str.ofString "is_point", none), PySem.Str.ofString "is_point", PySem.Str.ofString "is_point", defArgs s15, defBody s15, defScope s15, [], []⟩,
  ⟨(PySem.Str.ofString "want_four", none), PySem.Str.ofString "want_four", PySem.Str.ofString "want_four", defArgs s16, defBody s16, defScope s16, [], []⟩,
  ⟨(PySem.Str.ofString "want_point", none), PySem.Str.ofString "want_point", PySem.Str.ofString "want_point", defArgs s17, defBody s17, defScope s17, [], []⟩,
  ⟨(PySem.Str.ofString "four_product", none), PySem.Str.ofString "four_product", PySem.Str.ofString "four_product", defArgs s18, defBody s18, defScope s18, [], []⟩,
  ⟨(PySem.Str.ofString "dot", none), PySem.Str.ofString "dot", PySem.Str.ofString "dot", defArgs s19, defBody s19, defScope s19, [], []⟩]
def defs1 : List He.DefD := [⟨(PySem.Str.ofString "told_row", none), PySem.Str.ofString "told_row", PySem.Str.ofString "told_row", defArgs s20, defBody s20, defScope s20, [], []⟩,
  ⟨(PySem.Str.ofString "norm_four", none), PySem.Str.ofString "norm_four", PySem.Str.ofString "norm_four", defArgs s21, defBody s21, defScope s21, [], []⟩,
  ⟨(PySem.Str.ofString "Told", some (PySem.Str.ofString "__init__")), PySem.Str.ofString "__init__", PySem.Str.ofString "Told.__init__", defArgs s22, defBody s22, defScope s22, [], []⟩,
  ⟨(PySem.Str.ofString "lowest", none), PySem.Str.ofString "lowest", PySem.Str.ofString "lowest", defArgs s23, defBody s23, defScope s23, [], []⟩,
  ⟨(PySem.Str.ofString "told_eight", none), PySem.Str.ofString "told_eight", PySem.Str.ofString "told_eight", defArgs s24, defBody s24, defScope s24, [], []⟩,
  ⟨(PySem.Str.ofString "Eight", some (PySem.Str.ofString "__init__")), PySem.Str.ofString "__init__", PySem.Str.ofString "Eight.__init__", defArgs s25, defBody s25, defScope s25, [.adr (He.dflAt (PySem.Str.ofString "Eight", some (PySem.Str.ofString "__init__")) 0)], []⟩,
  ⟨(PySem.Str.ofString "Eight", some (PySem.Str.ofString "first")), PySem.Str.ofString "first", PySem.Str.ofString "Eight.first", defArgs s26, defBody s26, defScope s26, [], []⟩,
  ⟨(PySem.Str.ofString "Eight", some (PySem.Str.ofString "times")), PySem.Str.ofString "times", PySem.Str.ofString "Eight.times", defArgs s27, defBody s27, defScope s27, [], []⟩,
  ⟨(PySem.Str.ofString "Eight", some (PySem.Str.ofString "__mul__")), PySem.Str.ofString "__mul__", PySem.Str.ofString "Eight.__mul__", defArgs s28, defBody s28, defScope s28, [], []⟩,
  ⟨(PySem.Str.ofString "Eight", some (PySem.Str.ofString "__eq__")), PySem.Str.ofString "__eq__", PySem.Str.ofString "Eight.__eq__", defArgs s29, defBody s29, defScope s29, [], []⟩,
  ⟨(PySem.Str.ofString "Eight", some (PySem.Str.ofString "__repr__")), PySem.Str.ofString "__repr__", PySem.Str.ofString "Eight.__repr__", defArgs s30, defBody s30, defScope s30, [], []⟩,
  ⟨(PySem.Str.ofString "four_text", none), PySem.Str.ofString "four_text", PySem.Str.ofString "four_text", defArgs s31, defBody s31, defScope s31, [], []⟩,
  ⟨(PySem.Str.ofString "eight_by", none), PySem.Str.ofString "eight_by", PySem.Str.ofString "eight_by", defArgs s32, defBody s32, defScope s32, [], []⟩,
  ⟨(PySem.Str.ofString "numbers_product", none), PySem.Str.ofString "numbers_product", PySem.Str.ofString "numbers_product", defArgs s33, defBody s33, defScope s33, [], []⟩,
  ⟨(PySem.Str.ofString "product_of_eights", none), PySem.Str.ofString "product_of_eights", PySem.Str.ofString "product_of_eights", defArgs s34, defBody s34, defScope s34, [], []⟩,
  ⟨(PySem.Str.ofString "by_ratio", none), PySem.Str.ofString "by_ratio", PySem.Str.ofString "by_ratio", defArgs s35, defBody s35, defScope s35, [], []⟩,
  ⟨(PySem.Str.ofString "are_pose", none), PySem.Str.ofString "are_pose", PySem.Str.ofString "are_pose", defArgs s36, defBody s36, defScope s36, [], []⟩,
  ⟨(PySem.Str.ofString "want_eight", none), PySem.Str.ofString "want_eight", PySem.Str.ofString "want_eight", defArgs s37, defBody s37, defScope s37, [], []⟩,
  ⟨(PySem.Str.ofString "is_pose_eight", none), PySem.Str.ofString "is_pose_eight", PySem.Str.ofString "is_pose_eight", defArgs s38, defBody s38, defScope s38, [], []⟩,
  ⟨(PySem.Str.ofString "want_pose", none), PySem.Str.ofString "want_pose", PySem.Str.ofString "want_pose", defArgs s39, defBody s39, defScope s39, [], []⟩]
def defs2 : List He.DefD := [⟨(PySem.Str.ofString "turn_pose", none), PySem.Str.ofString "turn_pose", PySem.Str.ofString "turn_pose", defArgs s40, defBody s40, defScope s40, [], []⟩,
  ⟨(PySem.Str.ofString "go_pose", none), PySem.Str.ofString "go_pose", PySem.Str.ofString "go_pose", defArgs s41, defBody s41, defScope s41, [], []⟩,
  ⟨(PySem.Str.ofString "between_of", none), PySem.Str.ofString "between_of", PySem.Str.ofString "between_of", defArgs s42, defBody s42, defScope s42, [], []⟩,
  ⟨(PySem.Str.ofString "between", none), PySem.Str.ofString "between", PySem.Str.ofString "between", defArgs s43, defBody s43, defScope s43, [], []⟩,
  ⟨(PySem.Str.ofString "_law_pick", none), PySem.Str.ofString "_law_pick", PySem.Str.ofString "_law_pick", defArgs s44, defBody s44, defScope s44, [], []⟩,
  ⟨(PySem.Str.ofString "_law_four", none), PySem.Str.ofString "_law_four", PySem.Str.ofString "_law_four", defArgs s45, defBody s45, defScope s45, [], []⟩,
  ⟨(PySem.Str.ofString "_law_plus", none), PySem.Str.ofString "_law_plus", PySem.Str.ofString "_law_plus", defArgs s46, defBody s46, defScope s46, [], []⟩,
  ⟨(PySem.Str.ofString "_law_by", none), PySem.Str.ofString "_law_by", PySem.Str.ofString "_law_by", defArgs s47, defBody s47, defScope s47, [], []⟩,
  ⟨(PySem.Str.ofString "_law_times", none), PySem.Str.ofString "_law_times", PySem.Str.ofString "_law_times", defArgs s48, defBody s48, defScope s48, [], []⟩,
  ⟨(PySem.Str.ofString "_law_eight", none), PySem.Str.ofString "_law_eight", PySem.Str.ofString "_law_eight", defArgs s49, defBody s49, defScope s49, [], []⟩,
  ⟨(PySem.Str.ofString "_law_pose", none), PySem.Str.ofString "_law_pose", PySem.Str.ofString "_law_pose", defArgs s50, defBody s50, defScope s50, [], []⟩,
  ⟨(PySem.Str.ofString "_law_between", none), PySem.Str.ofString "_law_between", PySem.Str.ofString "_law_between", defArgs s51, defBody s51, defScope s51, [], []⟩,
  ⟨(PySem.Str.ofString "_law_cross", none), PySem.Str.ofString "_law_cross", PySem.Str.ofString "_law_cross", defArgs s52, defBody s52, defScope s52, [], []⟩,
  ⟨(PySem.Str.ofString "_law_hinge", none), PySem.Str.ofString "_law_hinge", PySem.Str.ofString "_law_hinge", defArgs s53, defBody s53, defScope s53, [], []⟩,
  ⟨(PySem.Str.ofString "_law_size", none), PySem.Str.ofString "_law_size", PySem.Str.ofString "_law_size", defArgs s54, defBody s54, defScope s54, [], []⟩,
  ⟨(PySem.Str.ofString "_law_right", none), PySem.Str.ofString "_law_right", PySem.Str.ofString "_law_right", defArgs s55, defBody s55, defScope s55, [], []⟩,
  ⟨(PySem.Str.ofString "_law_pot", none), PySem.Str.ofString "_law_pot", PySem.Str.ofString "_law_pot", defArgs s56, defBody s56, defScope s56, [], []⟩,
  ⟨(PySem.Str.ofString "law", none), PySem.Str.ofString "law", PySem.Str.ofString "law", defArgs s57, defBody s57, defScope s57, [], []⟩,
  ⟨(PySem.Str.ofString "_law_draw", none), PySem.Str.ofString "_law_draw", PySem.Str.ofString "_law_draw", defArgs s58, defBody s58, defScope s58, [], []⟩]
def defs : List He.DefD := defs0 ++ defs1 ++ defs2
theorem nd_0 : (fldsA 0).Nodup := by decide +kernel
theorem sz_0 : (fldsA 0).length < 1000 := by decide
theorem nd_1 : (fldsA 1).Nodup := by decide +kernel
theorem sz_1 : (fldsA 1).length < 1000 := by decide
theorem nd_2 : (fldsA 2).Nodup := by decide +kernel
theorem sz_2 : (fldsA 2).length < 1000 := by decide
theorem hy_of {K : PySem.W.Frag} {h : Heap} {mg : Str → Option Value} (X : K.In h) (G : h.Ns mainGlobals mg) (c : SaysN cks defs K) : Hy K mg where
  c_Ratio := ckCls_ok (W := WW K) (c := 0) (c.ck 0) rfl rfl rfl nd_0 sz_0
  c_Told := ckCls_ok (W := WW K) (c := 1) (c.ck 1) rfl rfl rfl nd_1 sz_1
  c_Eight := ckCls_ok (W := WW K) (c := 2) (c.ck 2) rfl rfl rfl nd_2 sz_2
  mk_Ratio := He.mkr_ok (c.ck 3)
  mk_Told := He.mkr_ok (c.ck 4)
  mk_Eight := He.mkr_ok (c.ck 5)
  g_Eight := He.glo_ok X G (and1 (c.ck 6))
  g_NOUGHT := ckTup_ok (is := [0, 0, 0, 0]) X G (c.ck 7)
  g_PART := He.int_ok X G (c.ck 8)
  g_Ratio := He.glo_ok X G (and1 (c.ck 9))
  g_Told := He.glo_ok X G (and1 (c.ck 10))
  g__law_between := ckGlo_g X G (c.ck 11)
  k__law_between := ckGlo_k (c.ck 11)
  g__law_by := ckGlo_g X G (c.ck 12)
  k__law_by := ckGlo_k (c.ck 12)
  g__law_cross := ckGlo_g X G (c.ck 13)
  k__law_cross := ckGlo_k (c.ck 13)
  g__law_draw := ckGlo_g X G (c.ck 14)
  k__law_draw := ckGlo_k (c.ck 14)
  g__law_eight := ckGlo_g X G (c.ck 15)
  k__law_eight := ckGlo_k (c.ck 15)
  g__law_four := ckGlo_g X G (c.ck 16)
  k__law_four := ckGlo_k (c.ck 16)
  g__law_hinge := ckGlo_g X G (c.ck 17)
  k__law_hinge := ckGlo_k (c.ck 17)
  g__law_pick := ckGlo_g X G (c.ck 18)
  k__law_pick := ckGlo_k (c.ck 18)
  g__law_plus := ckGlo_g X G (c.ck 19)
  k__law_plus := ckGlo_k (c.ck 19)
  g__law_pose := ckGlo_g X G (c.ck 20)
  k__law_pose := ckGlo_k (c.ck 20)
  g__law_pot := ckGlo_g X G (c.ck 21)
  k__law_pot := ckGlo_k (c.ck 21)
  g__law_right := ckGlo_g X G (c.ck 22)
  k__law_right := ckGlo_k (c.ck 22)
  g__law_size := ckGlo_g X G (c.ck 23)
  k__law_size := ckGlo_k (c.ck 23)
  g__law_times := ckGlo_g X G (c.ck 24)
  k__law_times := ckGlo_k (c.ck 24)
  g_are_numbers := ckGlo_g X G (c.ck 25)
  k_are_numbers := ckGlo_k (c.ck 25)
  g_are_pose := ckGlo_g X G (c.ck 26)
  k_are_pose := ckGlo_k (c.ck 26)
  g_between := ckGlo_g X G (c.ck 27)
  k_between := ckGlo_k (c.ck 27)
  g_between_of := ckGlo_g X G (c.ck 28)
  k_between_of := ckGlo_k (c.ck 28)
  g_by_ratio := ckGlo_g X G (c.ck 29)
  k_by_ratio := ckGlo_k (c.ck 29)
  g_common_part := ckGlo_g X G (c.ck 30)
  k_common_part := ckGlo_k (c.ck 30)
  g_digits_of := ckGlo_g X G (c.ck 31)
  k_digits_of := ckGlo_k (c.ck 31)
  g_dot := ckGlo_g X G (c.ck 32)
  k_dot := ckGlo_k (c.ck 32)
  g_eight_by := ckGlo_g X G (c.ck 33)
  k_eight_by := ckGlo_k (c.ck 33)
  g_four_product := ckGlo_g X G (c.ck 34)
  k_four_product := ckGlo_k (c.ck 34)
  g_four_text := ckGlo_g X G (c.ck 35)
  k_four_text := ckGlo_k (c.ck 35)
  g_gcd := ckBlt_ok X G (c.ck 36)
  g_go_pose := ckGlo_g X G (c.ck 37)
  k_go_pose := ckGlo_k (c.ck 37)
  g_is_four := ckGlo_g X G (c.ck 38)
  k_is_four := ckGlo_k (c.ck 38)
  g_is_integer := ckGlo_g X G (c.ck 39)
  k_is_integer := ckGlo_k (c.ck 39)
  g_is_list := ckGlo_g X G (c.ck 40)
  k_is_list := ckGlo_k (c.ck 40)
  g_is_number := ckGlo_g X G (c.ck 41)
  k_is_number := ckGlo_k (c.ck 41)
  g_is_point := ckGlo_g X G (c.ck 42)
  k_is_point := ckGlo_k (c.ck 42)
  g_is_pose_eight := ckGlo_g X G (c.ck 43)
  k_is_pose_eight := ckGlo_k (c.ck 43)
  g_lcm := ckBlt_ok X G (c.ck 44)
  g_lowest := ckGlo_g X G (c.ck 45)
  k_lowest := ckGlo_k (c.ck 45)
  g_norm_four := ckGlo_g X G (c.ck 46)
  k_norm_four := ckGlo_k (c.ck 46)
  g_numbers_product := ckGlo_g X G (c.ck 47)
  k_numbers_product := ckGlo_k (c.ck 47)
  g_product_of_eights := ckGlo_g X G (c.ck 48)
  k_product_of_eights := ckGlo_k (c.ck 48)
  g_ratio_of := ckGlo_g X G (c.ck 49)
  k_ratio_of := ckGlo_k (c.ck 49)
  g_told_eight := ckGlo_g X G (c.ck 50)
  k_told_eight := ckGlo_k (c.ck 50)
  g_told_pair := ckGlo_g X G (c.ck 51)
  k_told_pair := ckGlo_k (c.ck 51)
  g_told_row := ckGlo_g X G (c.ck 52)
  k_told_row := ckGlo_k (c.ck 52)
  g_turn_pose := ckGlo_g X G (c.ck 53)
  k_turn_pose := ckGlo_k (c.ck 53)
  g_want_eight := ckGlo_g X G (c.ck 54)
  k_want_eight := ckGlo_k (c.ck 54)
  g_want_four := ckGlo_g X G (c.ck 55)
  k_want_four := ckGlo_k (c.ck 55)
  g_want_number := ckGlo_g X G (c.ck 56)
  k_want_number := ckGlo_k (c.ck 56)
  g_want_point := ckGlo_g X G (c.ck 57)
  k_want_point := ckGlo_k (c.ck 57)
  g_want_pose := ckGlo_g X G (c.ck 58)
  k_want_pose := ckGlo_k (c.ck 58)
  g_wholes := ckGlo_g X G (c.ck 59)
  k_wholes := ckGlo_k (c.ck 59)
  fr_abs := He.free_ok X G (c.ck 60)
  fr_all := He.free_ok X G (c.ck 61)
  fr_bool := He.free_ok X G (c.ck 62)
  fr_divmod := He.free_ok X G (c.ck 63)
  fr_int := He.free_ok X G (c.ck 64)
  fr_isinstance := He.free_ok X G (c.ck 65)
  fr_len := He.free_ok X G (c.ck 66)
  fr_list := He.free_ok X G (c.ck 67)
  fr_max := He.free_ok X G (c.ck 68)
  fr_min := He.free_ok X G (c.ck 69)
  fr_range := He.free_ok X G (c.ck 70)
  fr_repr := He.free_ok X G (c.ck 71)
  fr_str := He.free_ok X G (c.ck 72)
  fr_sum := He.free_ok X G (c.ck 73)
  fr_tuple := He.free_ok X G (c.ck 74)
  fr_zip := He.free_ok X G (c.ck 75)
  o_Mul_Ratio := ckOp_ok (W := WW K) (c := 0) (c.ck 76) rfl rfl
  o_Mul_Eight := ckOp_ok (W := WW K) (c := 2) (c.ck 77) rfl rfl
  o_Eq_Ratio := ckEq_ok (W := WW K) (c := 0) (c.ck 78) rfl rfl
  o_Eq_Eight := ckEq_ok (W := WW K) (c := 2) (c.ck 79) rfl rfl
  o_Str_Ratio := ckSp_ok (W := WW K) (c := 0) (c.ck 80) rfl rfl
  o_Repr_Eight := ckSp_ok (W := WW K) (c := 2) (c.ck 81) rfl rfl
  m_first_Eight := ckMe_ok (W := WW K) (c := 2) (c.ck 82) rfl rfl (ckCls_ok (W := WW K) (c := 2) (c.ck 2) rfl rfl rfl nd_2 sz_2) (show (PySem.Str.ofString "first") ∉ fldsA 2 by decide +kernel)
  m_times_Eight := ckMe_ok (W := WW K) (c := 2) (c.ck 83) rfl rfl (ckCls_ok (W := WW K) (c := 2) (c.ck 2) rfl rfl rfl nd_2 sz_2) (show (PySem.Str.ofString "times") ∉ fldsA 2 by decide +kernel)
  i_Eight := ckIsi_ok (W := WW K) (ans := fun K t => PySem.W.kitOne K t (.ref (clsA K 2))) (c.ck 84) rfl (allM_cons (ckCls_ok (W := WW K) (c := 0) (c.ck 0) rfl rfl rfl nd_0 sz_0) (allM_cons (ckCls_ok (W := WW K) (c := 1) (c.ck 1) rfl rfl rfl nd_1 sz_1) (allM_cons (ckCls_ok (W := WW K) (c := 2) (c.ck 2) rfl rfl rfl nd_2 sz_2) (allM_nil))))
  i_Ratio := ckIsi_ok (W := WW K) (ans := fun K t => PySem.W.kitOne K t (.ref (clsA K 0))) (c.ck 85) rfl (allM_cons (ckCls_ok (W := WW K) (c := 0) (c.ck 0) rfl rfl rfl nd_0 sz_0) (allM_cons (ckCls_ok (W := WW K) (c := 1) (c.ck 1) rfl rfl rfl nd_1 sz_1) (allM_cons (ckCls_ok (W := WW K) (c := 2) (c.ck 2) rfl rfl rfl nd_2 sz_2) (allM_nil))))
  i_Told := ckIsi_ok (W := WW K) (ans := fun K t => PySem.W.kitOne K t (.ref (clsA K 1))) (c.ck 86) rfl (allM_cons (ckCls_ok (W := WW K) (c := 0) (c.ck 0) rfl rfl rfl nd_0 sz_0) (allM_cons (ckCls_ok (W := WW K) (c := 1) (c.ck 1) rfl rfl rfl nd_1 sz_1) (allM_cons (ckCls_ok (W := WW K) (c := 2) (c.ck 2) rfl rfl rfl nd_2 sz_2) (allM_nil))))
  i_bool := ckIsi_ok (W := WW K) (ans := fun K t => PySem.W.kitOne K t (.type "bool")) (c.ck 87) rfl (allM_cons (ckCls_ok (W := WW K) (c := 0) (c.ck 0) rfl rfl rfl nd_0 sz_0) (allM_cons (ckCls_ok (W := WW K) (c := 1) (c.ck 1) rfl rfl rfl nd_1 sz_1) (allM_cons (ckCls_ok (W := WW K) (c := 2) (c.ck 2) rfl rfl rfl nd_2 sz_2) (allM_nil))))
  i_int := ckIsi_ok (W := WW K) (ans := fun K t => PySem.W.kitOne K t (.type "int")) (c.ck 88) rfl (allM_cons (ckCls_ok (W := WW K) (c := 0) (c.ck 0) rfl rfl rfl nd_0 sz_0) (allM_cons (ckCls_ok (W := WW K) (c := 1) (c.ck 1) rfl rfl rfl nd_1 sz_1) (allM_cons (ckCls_ok (W := WW K) (c := 2) (c.ck 2) rfl rfl rfl nd_2 sz_2) (allM_nil))))
  i_list_tuple := ckIsi_ok (W := WW K) (ans := fun K t => PySem.W.kitAny K t [.type "list", .type "tuple"]) (c.ck 89) rfl (allM_cons (ckCls_ok (W := WW K) (c := 0) (c.ck 0) rfl rfl rfl nd_0 sz_0) (allM_cons (ckCls_ok (W := WW K) (c := 1) (c.ck 1) rfl rfl rfl nd_1 sz_1) (allM_cons (ckCls_ok (W := WW K) (c := 2) (c.ck 2) rfl rfl rfl nd_2 sz_2) (allM_nil))))
  d0 := c.df 0
  d1 := c.df 1
  d2 := c.df 2
  d3 := c.df 3
  d4 := c.df 4
  d5 := c.df 5
  d6 := c.df 6
  d7 := c.df 7
  d8 := c.df 8
  d9 := c.df 9
  d10 := c.df 10
  d11 := c.df 11
  d12 := c.df 12
  d13 := c.df 13
  d14 := c.df 14
  d15 := c.df 15
  d16 := c.df 16
  d17 := c.df 17
  d18 := c.df 18
  d19 := c.df 19
  d20 := c.df 20
  d21 := c.df 21
  d22 := c.df 22
  d23 := c.df 23
  d24 := c.df 24
  d25 := c.df 25
  dt25_0 := tupK_ok (is := [0, 0, 0, 0]) (c.ck 90)
  d26 := c.df 26
  d27 := c.df 27
  d28 := c.df 28
  d29 := c.df 29
  d30 := c.df 30
  d31 := c.df 31
  d32 := c.df 32
  d33 := c.df 33
  d34 := c.df 34
  d35 := c.df 35
  d36 := c.df 36
  d37 := c.df 37
  d38 := c.df 38
  d39 := c.df 39
  d40 := c.df 40
  d41 := c.df 41
  d42 := c.df 42
  d43 := c.df 43
  d44 := c.df 44
  d45 := c.df 45
  d46 := c.df 46
  d47 := c.df 47
  d48 := c.df 48
  d49 := c.df 49
  d50 := c.df 50
  d51 := c.df 51
  d52 := c.df 52
  d53 := c.df 53
  d54 := c.df 54
  d55 := c.df 55
  d56 := c.df 56
  d57 := c.df 57
  d58 := c.df 58
abbrev R : PySem.W.OpenRow := PySem.W.OpenLaw.row PySem.Challenge.rw_pathshapes_k81_whole_between_of_poses
abbrev hk : PySem.W.Hook := hookN wanted cks defs
def ob (s : PySem.W.SharedT) : He.AlD := obsNG wanted cks defs (HandSHeadRun.getT s)
theorem ob_eq (s : PySem.W.SharedT) : ob s = hk.obs s.abs := obsNG_eq (HandSHeadRun.getT_eq s)
noncomputable abbrev rest (w : World) := endM (HandSHeadRun.stepQ (HandSHeadRun.denQ HandSHeadRun.tabQ) (PySem.W.opening R.prog) w) (HandSHeadRun.stepQ (HandSHeadRun.denQ HandSHeadRun.tabQ) R.prog w) R.prog 6000 6000
end K81

namespace K81
open PySem PySem.Spec PyProof.Rows L2 Ev
theorem run1 (w : World) : (rest w).map (fun z => HandSHeadRun.looksF R.prog z.1.abs.heap z.2.abs) = some true := by kernel_rfl
end K81

namespace K81
open PySem PySem.Spec PyProof.Rows L2 Ev
theorem run2 (w : World) : (rest w).map (fun z => HandSHeadRun.seenQ (PySem.W.view R.prog [77]) loose (PySem.importedModules R.prog.main.body) (fun s => PySem.W.xlAt (PySem.W.view R.prog [77]) [] s && PySem.W.recOk R.toRowW.records s) z.2.abs) = some (PySem.W.openGood (PySem.W.view R.prog [77]) loose) := by kernel_rfl
end K81

namespace K81
open PySem PySem.Spec PyProof.Rows L2 Ev
theorem run3 (w : World) : (rest w).map (fun z => ob z.2) = some (He.valD defs) := by kernel_rfl
end K81

namespace K81
open PySem PySem.Spec PyProof.Rows L2 Ev
theorem run (w : World) : RunM R (PySem.W.view R.prog [77]) hk ob 6000 6000 loose w := opt3 (run1 w) (run2 w) (run3 w)
theorem law_gives {w : World} {K : PySem.W.Frag} {h : Heap} {mg : Str → Option Value} {fa : Addr} (X : K.In h) (G : h.Ns mainGlobals mg) (c : SaysN cks defs K) (hm : mg (PySem.Str.ofString "law") = some (.ref fa)) (base : Heap) : FnP (PySem.Challenge.rw_pathshapes_k81_whole_between_of_poses).prog w K mg base false true (4 * 14) fa (fun vs H Q E => spF (WW K) (runF 14) 57 (vs ++ []) H Q E) := by
  have H := hy_of X G c
  have e := hm.symm.trans (He.glo_ok X G (and1 (c.ck 91)))
  cases e
  obtain ⟨fd, Fd⟩ := H.d57
  exact (g57 H (tab H 13) Fd).pos (Fd.bindsN (ps := [PySem.Str.ofString "script"]) fun _ _ _ _ _ _ us hl => match us, hl with | [_], _ => rfl) .nil
theorem law_name : (HandSHeadRun.topDef R.prog 77).name = (PySem.Str.ofString "law") := by kernel_rfl
end K81

namespace K81
open PySem PySem.Spec PyProof.Rows L2 Ev
local macro_rules | `(tactic| walk_at "op") => `(tactic| fail)
local macro_rules | `(tactic| walk_at "fv") => `(tactic| fail)
local macro_rules | `(tactic| walk_at "fr") => `(tactic| (simp only [setS, tgE, unpE, seqE, wipeF, backF, getS, frE, slotOf, RV.ev, oZip, zip2, zipE, oEnum, enumE]; exact rfl))
local macro_rules | `(tactic| walk_at "ln") => `(tactic| first | omega | (simp only [Str.length_append, List.length_cons, List.length_nil]; omega))
local macro_rules | `(tactic| walk_at "sz") => `(tactic| first | assumption | decide | omega)
local macro_rules | `(tactic| walk_at "dc") => `(tactic| first | with_reducible assumption | exact (Eq.refl true) | exact (Eq.refl false) | exact ydc (decide_eq_true rfl) | assumption)
local macro_rules | `(tactic| walk_at "ev1") => `(tactic| (first
  | with_reducible exact yv_c
  | with_reducible exact yva_nil
  | with_reducible apply yv_var
  | with_reducible apply yva_cons
  | with_reducible apply yv_call
  | with_reducible apply yv_bin
  | with_reducible apply yv_binO
  | with_reducible apply yv_un
  | with_reducible apply yv_blt
  | with_reducible apply yv_tup
  | with_reducible apply yv_lst
  | with_reducible apply yv_sl0
  | with_reducible apply yv_sl1
  | with_reducible apply yv_sl2
  | with_reducible apply yv_and
  | with_reducible apply yv_or
  | with_reducible apply yv_not
  | with_reducible apply yv_ife
  | with_reducible apply yv_callK
  | with_reducible apply yv_lc
  | with_reducible exact yv_jsN
  | with_reducible apply yv_jsC
  | with_reducible apply yv_strI
  | with_reducible apply yv_join
  | with_reducible apply yv_reprI
  | with_reducible apply yv_reprL
  | ((with_reducible show fmtE _ = _); first | exact yo_fmtS rfl (fits_le (by walk_at "ln")) | exact yo_fmtI rfl (by assumption))
  | (with_reducible refine fits_le ?_; walk_at "ln")
  | ((with_reducible show S1 (dWhile _ _ _) _ _ _); exact ys_while0 (yvt_b (yv_bin (yv_var rfl) yv_c (yo_ge rfl rfl)) (congrArg EV.bl (by assumption))))
  | with_reducible apply yandV_t
  | with_reducible exact yandV_f
  | with_reducible exact yorV_t
  | with_reducible apply yorV_f
  | with_reducible apply yandT_t
  | with_reducible exact yandT_f
  | with_reducible exact yorT_t
  | with_reducible apply yorT_f
  | with_reducible apply ycondV_t
  | with_reducible apply ycondV_f
  | with_reducible apply ycondS_t
  | with_reducible apply ycondS_f
  | with_reducible apply yvt_b
  | with_reducible apply yvt_not
  | with_reducible apply yvt_and
  | with_reducible apply yvt_or
  | with_reducible apply ys_unp
  | with_reducible apply ys_par3
  | with_reducible apply ys_par
  | with_reducible apply ys_set
  | with_reducible apply ys_setF
  | with_reducible apply ys_ret
  | with_reducible apply ys_drop
  | with_reducible exact ys_next
  | with_reducible apply ys_if
  | with_reducible apply ys_for
  | with_reducible apply ys_seq
  | with_reducible apply yc_nx
  | with_reducible exact yc_rt
  | with_reducible apply yvi_seq
  | with_reducible apply yvi_a
  | with_reducible exact ylc_nil rfl
  | with_reducible apply ylc_cons
  | with_reducible exact yfl_nil
  | with_reducible apply yfl_cons
  | with_reducible apply yfc_nx
  | with_reducible exact yfc_rt
  | walk_at "op"
  | with_reducible exact cut04
  | with_reducible exact cut48
  | with_reducible exact cut14
  | with_reducible exact cut58
  | with_reducible apply yo_sub
  | ((with_reducible show bMul _ _ = _); exact yo_mul1 rfl rfl (by walk_at "sz"))
  | with_reducible apply yo_mul
  | ((with_reducible show bAdd _ _ = _); first | exact yo_add rfl rfl | exact yo_addT rfl rfl rfl (by simp only [List.cons_append, List.nil_append]; exact rfl) | exact yo_addS rfl rfl (fits_le (by walk_at "ln")))
  | with_reducible apply yo_div
  | with_reducible apply yo_eq
  | with_reducible apply yo_lt
  | with_reducible apply yo_gt
  | with_reducible apply yo_ge
  | with_reducible apply yo_le
  | with_reducible exact mulFo (by walk_at "sz")
  | with_reducible (show divFits _ = true; assumption)
  | ((with_reducible show Dc _ _); walk_at "dc")
  | ((with_reducible show Fv _ _ _ _); walk_at "fv")
  | walk_at "fr"
  | with_reducible exact rfl
  | exact rfl))
local macro_rules | `(tactic| walk_at "ev") => `(tactic| repeat' (walk_at "ev1"))



/-! integers, ratios -/
theorem F_is_integer {j : Nat} {x : Int} : Fv 0 (runF (j + 1)) [.int x] (.v (.bl true)) := by
  apply yfv_fn (D := D0) rfl rfl
  case hf => walk_at "fr"
  case g => unfold D0; walk_at "ev"
  case e => exact rfl
theorem F_is_integer_R {j : Nat} {fs : List EV} : Fv 0 (runF (j + 1)) [.ins 0 fs] (.v (.bl false)) := by
  apply yfv_fn (D := D0) rfl rfl
  case hf => walk_at "fr"
  case g => unfold D0; walk_at "ev"
  case e => exact rfl
theorem F_is_list_t {j : Nat} {l : List EV} : Fv 1 (runF (j + 1)) [.tup l] (.v (.bl true)) := by
  apply yfv_fn (D := D1) rfl rfl
  case hf => walk_at "fr"
  case g => unfold D1; walk_at "ev"
  case e => exact rfl
theorem F_common_part {j : Nat} {x y : Int} : Fv 3 (runF (j + 1)) [.int x, .int y] (.v (.int (.ofNat (Nat.gcd x.natAbs y.natAbs)))) := by
  apply yfv_fn (D := D3) rfl rfl
  case hf => walk_at "fr"
  case g => unfold D3; walk_at "ev"
  case e => exact rfl
local macro_rules | `(tactic| walk_at "fv") => `(tactic| first | exact F_is_integer | exact F_is_integer_R | exact F_is_list_t | exact F_common_part)
/-- the ratio t / b -/
def RT (t b : Int) : EV := .ins 0 [.int (t / gl b [t]), .int (b / gl b [t])]
theorem divF {x : Int} {n : Nat} (hp : 0 < x) (hb : Bd x n) (h : n < 9000) : divFits x = true := by
  unfold divFits
  have h1 := log2_lt hb.h
  have h2 : Nat.beq x.natAbs 0 = false := by
    cases q : Nat.beq x.natAbs 0 with
    | false => rfl
    | true => have := Nat.eq_of_beq_eq_true q; omega
  rw [h2]
  exact Nat.ble_eq_true_of_le (by omega)
theorem Bd.gl {b : Int} {n : Nat} {l : List Int} (hp : 0 < b) (hb : Bd b n) : Bd (Ev.gl b l) n := ⟨by
  have h1 := gl_le (l := l) hp
  have h2 := gl_pos (l := l) hp
  have h3 := hb.h
  omega⟩
theorem fdiv_pos {x y : Int} (h : 0 < y) : x.fdiv y = x / y := Int.fdiv_eq_ediv_of_nonneg x (Int.le_of_lt h)
theorem F_Ratio {j : Nat} {t b : Int} {n : Nat} [B : Bd b n] [P : Ps b] (hn : n < 8000) : Fv 4 (runF (j + 2)) [.int t, .int b] (.v (RT t b)) := by
  have hp := P.h
  have h0 : decide (b = 0) = false := decide_eq_false (by omega)
  have h1 : decide (b < 0) = false := decide_eq_false (by omega)
  have eg : Int.ofNat (Nat.gcd t.natAbs b.natAbs) = gl b [t] := by rw [Nat.gcd_comm]; rfl
  have gp : 0 < gl b [t] := gl_pos hp
  have hd : divFits (Int.ofNat (Nat.gcd t.natAbs b.natAbs)) = true := by rw [eg]; exact divF gp (Bd.gl hp B) (by omega)
  apply yfv_in (D := D4) rfl rfl
  case hf0 => walk_at "fr"
  case g => unfold D4; walk_at "ev"
  case e =>
    simp only [getS, List.nil_append, List.cons_append]
    rw [eg, fdiv_pos gp, fdiv_pos gp]
  case hf => exact rfl
theorem RT_eq {t b u c : Int} (hb : 0 < b) (hc : 0 < c) (h : t * c = u * b) : RT t b = RT u c := by
  have e := red_eq (l := [t]) (m := [u]) hb hc (by simp only [List.map_cons, List.map_nil]; rw [Int.mul_comm c t, Int.mul_comm b u, h])
  unfold red at e
  obtain ⟨e1, e2⟩ := Prod.mk.inj e
  simp only [List.map_cons, List.map_nil] at e2
  unfold RT
  rw [e1, (List.cons.inj e2).1]
theorem RT_one (x : Int) : RT x 1 = .ins 0 [.int x, .int 1] := by
  unfold RT
  rw [gl_one, Int.ediv_one, Int.ediv_one]
theorem F_Ratio1 {j : Nat} {x : Int} : Fv 4 (runF (j + 2)) [.int x, .int 1] (.v (.ins 0 [.int x, .int 1])) := by
  rw [← RT_one]
  exact F_Ratio (by decide)
local macro_rules | `(tactic| walk_at "fv") => `(tactic| first | exact F_Ratio1 | exact F_Ratio (by walk_at "sz"))
/-! numbers as ratios -/
theorem F_told_pair {j : Nat} {t b : Int} : Fv 8 (runF (j + 2)) [.ins 0 [.int t, .int b]] (.v (.tup [.int t, .int b])) := by
  apply yfv_fn (D := D8) rfl rfl
  case hf => walk_at "fr"
  case g => unfold D8; walk_at "ev"
  case e => exact rfl
theorem F_told_pairI {j : Nat} {x : Int} : Fv 8 (runF (j + 2)) [.int x] (.v (.tup [.int x, .int 1])) := by
  apply yfv_fn (D := D8) rfl rfl
  case hf => walk_at "fr"
  case g => unfold D8; walk_at "ev"
  case e => exact rfl
theorem F_is_number {j : Nat} {x : Int} : Fv 9 (runF (j + 2)) [.int x] (.v (.bl true)) := by
  apply yfv_fn (D := D9) rfl rfl
  case hf => walk_at "fr"
  case g => unfold D9; walk_at "ev"
  case e => exact rfl
theorem F_is_numberR {j : Nat} {fs : List EV} : Fv 9 (runF (j + 2)) [.ins 0 fs] (.v (.bl true)) := by
  apply yfv_fn (D := D9) rfl rfl
  case hf => walk_at "fr"
  case g => unfold D9; walk_at "ev"
  case e => exact rfl
theorem F_ratio_of {j : Nat} {x : Int} : Fv 10 (runF (j + 3)) [.int x] (.v (.ins 0 [.int x, .int 1])) := by
  apply yfv_fn (D := D10) rfl rfl
  case hf => walk_at "fr"
  case g => unfold D10; walk_at "ev"
  case e => exact rfl
theorem F_ratio_ofR {j : Nat} {fs : List EV} : Fv 10 (runF (j + 3)) [.ins 0 fs] (.v (.ins 0 fs)) := by
  apply yfv_fn (D := D10) rfl rfl
  case hf => walk_at "fr"
  case g => unfold D10; walk_at "ev"
  case e => exact rfl
local macro_rules | `(tactic| walk_at "fv") => `(tactic| first | exact F_told_pair | exact F_told_pairI | exact F_is_number | exact F_is_numberR | exact F_ratio_of | exact F_ratio_ofR)
theorem F_want_number {j : Nat} {x : Int} : Fv 11 (runF (j + 4)) [.int x] (.v (.ins 0 [.int x, .int 1])) := by
  apply yfv_fn (D := D11) rfl rfl
  case hf => walk_at "fr"
  case g => unfold D11; walk_at "ev"
  case e => exact rfl
theorem F_want_numberR {j : Nat} {fs : List EV} : Fv 11 (runF (j + 4)) [.ins 0 fs] (.v (.ins 0 fs)) := by
  apply yfv_fn (D := D11) rfl rfl
  case hf => walk_at "fr"
  case g => unfold D11; walk_at "ev"
  case e => exact rfl
local macro_rules | `(tactic| walk_at "fv") => `(tactic| first | exact F_want_number | exact F_want_numberR)
/-! ratios: products, equality -/
theorem gl_div {b g : Int} (hb : 0 < b) (hd : g ∣ b) (hg : 0 < g) : 0 < b / g := Int.ediv_pos_of_pos_of_dvd hb (Int.le_of_lt hg) hd
theorem RT_cut {t b : Int} (hb : 0 < b) : ∃ g, 0 < g ∧ gl b [t] = g ∧ t = g * (t / g) ∧ b = g * (b / g) ∧ 0 < b / g := by
  obtain ⟨d1, d2⟩ := gl_dvd (l := [t]) hb
  have hp := gl_pos (l := [t]) hb
  exact ⟨_, hp, rfl, (Int.mul_ediv_cancel' (d2 t (by simp))).symm, (Int.mul_ediv_cancel' d1).symm, gl_div hb d1 hp⟩
theorem F_mul_raw {j : Nat} {a b c d : Int} {m n p q : Nat} [Bd a m] [Bd b n] [Bd c p] [Bd d q] [Ps b] [Ps d] (h : m + p ≤ 7000) (h2 : n + q ≤ 7000) : Fv 5 (runF (j + 3)) [.ins 0 [.int a, .int b], .ins 0 [.int c, .int d]] (.v (RT (a * c) (b * d))) := by
  apply yfv_fn (D := D5) rfl rfl
  case hf => walk_at "fr"
  case g => unfold D5; walk_at "ev"
  case e => exact rfl
theorem F_mul_rawI {j : Nat} {a b c : Int} {m n p : Nat} [Bd a m] [Bd b n] [Bd c p] [Ps b] (h : m + p ≤ 7000) (h2 : n ≤ 7000) : Fv 5 (runF (j + 3)) [.ins 0 [.int a, .int b], .int c] (.v (RT (a * c) b)) := by
  apply yfv_fn (D := D5) rfl rfl
  case hf => walk_at "fr"
  case g => unfold D5; walk_at "ev"
  case e => exact rfl
theorem F_mul_RR {j : Nat} {t b u c : Int} {m n p q : Nat} [B1 : Bd t m] [B2 : Bd b n] [B3 : Bd u p] [B4 : Bd c q] [P1 : Ps b] [P2 : Ps c] (h : m + p ≤ 7000) (h2 : n + q ≤ 7000) : Fv 5 (runF (j + 3)) [RT t b, RT u c] (.v (RT (t * u) (b * c))) := by
  obtain ⟨g, g0, eg, e1, e2, p1⟩ := RT_cut (t := t) P1.h
  obtain ⟨k, k0, ek, f1, f2, p2⟩ := RT_cut (t := u) P2.h
  have e : RT (t / g * (u / k)) (b / g * (c / k)) = RT (t * u) (b * c) := by
    refine RT_eq (Int.mul_pos p1 p2) (Int.mul_pos P1.h P2.h) ?_
    generalize t / g = t' at *
    generalize u / k = u' at *
    generalize b / g = b' at *
    generalize c / k = c' at *
    subst e1 e2 f1 f2
    simp only [Int.mul_assoc, Int.mul_comm, Int.mul_left_comm]
  rw [← e]
  unfold RT
  rw [eg, ek]
  haveI := B1.div (y := g); haveI := B2.div (y := g); haveI := B3.div (y := k); haveI := B4.div (y := k)
  haveI : Ps (b / g) := ⟨p1⟩
  haveI : Ps (c / k) := ⟨p2⟩
  exact F_mul_raw h h2
theorem F_mul_RI {j : Nat} {t b u : Int} {m n p : Nat} [B1 : Bd t m] [B2 : Bd b n] [B3 : Bd u p] [P1 : Ps b] (h : m + p ≤ 7000) (h2 : n ≤ 7000) : Fv 5 (runF (j + 3)) [RT t b, .int u] (.v (RT (t * u) b)) := by
  obtain ⟨g, g0, eg, e1, e2, p1⟩ := RT_cut (t := t) P1.h
  have e : RT (t / g * u) (b / g) = RT (t * u) b := by
    refine RT_eq p1 P1.h ?_
    generalize t / g = t' at *
    generalize b / g = b' at *
    subst e1 e2
    simp only [Int.mul_assoc, Int.mul_comm, Int.mul_left_comm]
  rw [← e]
  unfold RT
  rw [eg]
  haveI := B1.div (y := g); haveI := B2.div (y := g)
  haveI : Ps (b / g) := ⟨p1⟩
  exact F_mul_rawI h h2
theorem F_req {j : Nat} {t b : Int} : Fv 6 (runF (j + 1)) [.ins 0 [.int t, .int b], .ins 0 [.int t, .int b]] (.v (.bl true)) := by
  apply yfv_fn (D := D6) rfl rfl
  case hf => walk_at "fr"
  case g => unfold D6; walk_at "ev"
  case e => simp
theorem F_rne {j : Nat} {t b u c : Int} (h : decide (t = u) = false) : Fv 6 (runF (j + 1)) [.ins 0 [.int t, .int b], .ins 0 [.int u, .int c]] (.v (.bl false)) := by
  apply yfv_fn (D := D6) rfl rfl
  case hf => walk_at "fr"
  case g => unfold D6; walk_at "ev"
  case e => exact rfl




local macro_rules | `(tactic| walk_at "fv") => `(tactic| first | exact F_is_integer | exact F_is_integer_R | exact F_is_list_t | exact F_common_part | exact F_Ratio1 | exact F_Ratio (by walk_at "sz") | exact F_told_pair | exact F_told_pairI | exact F_is_number | exact F_is_numberR | exact F_ratio_of | exact F_ratio_ofR | exact F_want_number | exact F_want_numberR)
/-! fours -/
structure Q4 where (a b c d : Int)
@[reducible] def Q4.l (x : Q4) : List Int := [x.a, x.b, x.c, x.d]
@[reducible] def Q4.tup (x : Q4) : EV := .tup [.int x.a, .int x.b, .int x.c, .int x.d]
class B4 (x : Q4) (n : outParam Nat) : Prop where
  a : Bd x.a n
  b : Bd x.b n
  c : Bd x.c n
  d : Bd x.d n
instance B4.ia {x : Q4} {n : Nat} [h : B4 x n] : Bd x.a n := h.a
instance B4.ib {x : Q4} {n : Nat} [h : B4 x n] : Bd x.b n := h.b
instance B4.ic {x : Q4} {n : Nat} [h : B4 x n] : Bd x.c n := h.c
instance B4.id {x : Q4} {n : Nat} [h : B4 x n] : Bd x.d n := h.d
def mul4 (x y : Q4) : Q4 := ⟨x.a * y.a - x.b * y.b - x.c * y.c - x.d * y.d, x.a * y.b + x.b * y.a + x.c * y.d - x.d * y.c, x.a * y.c - x.b * y.d + x.c * y.a + x.d * y.b, x.a * y.d + x.b * y.c - x.c * y.b + x.d * y.a⟩
def add4 (x y : Q4) : Q4 := ⟨x.a + y.a, x.b + y.b, x.c + y.c, x.d + y.d⟩
theorem Bd.four {x y z w : Int} {n : Nat} (a : Bd x n) (b : Bd y n) (c : Bd z n) (d : Bd w n) : Bd (x + y + z + w) (n + 2) ∧ Bd (x - y - z - w) (n + 2) ∧ Bd (x + y + z - w) (n + 2) ∧ Bd (x - y + z + w) (n + 2) ∧ Bd (x + y - z + w) (n + 2) := by
  have h1 := a.h; have h2 := b.h; have h3 := c.h; have h4 := d.h
  refine ⟨⟨?_⟩, ⟨?_⟩, ⟨?_⟩, ⟨?_⟩, ⟨?_⟩⟩ <;> (rw [Nat.pow_add]; omega)
instance B4.mul {x y : Q4} {m n : Nat} [a : B4 x m] [b : B4 y n] : B4 (mul4 x y) (m + n + 2) :=
  ⟨(Bd.four (Bd.mul (x := x.a) (y := y.a)) (Bd.mul (x := x.b) (y := y.b)) (Bd.mul (x := x.c) (y := y.c)) (Bd.mul (x := x.d) (y := y.d))).2.1,
   (Bd.four (Bd.mul (x := x.a) (y := y.b)) (Bd.mul (x := x.b) (y := y.a)) (Bd.mul (x := x.c) (y := y.d)) (Bd.mul (x := x.d) (y := y.c))).2.2.1,
   (Bd.four (Bd.mul (x := x.a) (y := y.c)) (Bd.mul (x := x.b) (y := y.d)) (Bd.mul (x := x.c) (y := y.a)) (Bd.mul (x := x.d) (y := y.b))).2.2.2.1,
   (Bd.four (Bd.mul (x := x.a) (y := y.d)) (Bd.mul (x := x.b) (y := y.c)) (Bd.mul (x := x.c) (y := y.b)) (Bd.mul (x := x.d) (y := y.a))).2.2.2.2⟩
theorem Bd.two {x y : Int} {n : Nat} (a : Bd x n) (b : Bd y n) : Bd (x + y) (n + 1) := ⟨by
  have h1 := a.h; have h2 := b.h
  rw [Nat.pow_add]; omega⟩
theorem B4.add {x y : Q4} {n : Nat} (a : B4 x n) (b : B4 y n) : B4 (add4 x y) (n + 1) := ⟨Bd.two a.a b.a, Bd.two a.b b.b, Bd.two a.c b.c, Bd.two a.d b.d⟩
/-- the sum of the products -/
def dot4 (x y : Q4) : Int := x.a * y.a + x.b * y.b + x.c * y.c + x.d * y.d
instance Bd.dot4 {x y : Q4} {m n : Nat} [a : B4 x m] [b : B4 y n] : Bd (dot4 x y) (m + n + 2) := (Bd.four (Bd.mul (x := x.a) (y := y.a)) (Bd.mul (x := x.b) (y := y.b)) (Bd.mul (x := x.c) (y := y.c)) (Bd.mul (x := x.d) (y := y.d))).1
theorem F_four_product {j : Nat} {x y : Q4} {m n : Nat} [B4 x m] [B4 y n] (h : m + n < 1000000) : Fv 18 (runF (j + 1)) [x.tup, y.tup] (.v (mul4 x y).tup) := by
  apply yfv_fn (D := D18) rfl rfl
  case hf => walk_at "fr"
  case g => unfold D18; walk_at "ev"
  case e => exact rfl
theorem F_dot {j : Nat} {x y : Q4} {m n : Nat} [B4 x m] [B4 y n] (h : m + n < 1000000) : Fv 19 (runF (j + 1)) [x.tup, y.tup] (.v (.int (dot4 x y))) := by
  apply yfv_fn (D := D19) rfl rfl
  case hf => walk_at "fr"
  case g => unfold D19; walk_at "ev"
  case e => simp only [sumI, Int.zero_add]; rfl
theorem F_are4 {j : Nat} {a b c d : Int} : Fv 13 (runF (j + 3)) [.tup [.int a, .int b, .int c, .int d], .int 4] (.v (.bl true)) := by
  apply yfv_fn (D := D13) rfl rfl
  case hf => walk_at "fr"
  case g => unfold D13; walk_at "ev"
  case e => exact rfl
local macro_rules | `(tactic| walk_at "fv") => `(tactic| first | exact F_four_product (by walk_at "sz") | exact F_dot (by walk_at "sz") | exact F_are4)
theorem F_is_four {j : Nat} {a b c d : Int} : Fv 14 (runF (j + 4)) [.tup [.int a, .int b, .int c, .int d]] (.v (.bl true)) := by
  apply yfv_fn (D := D14) rfl rfl
  case hf => walk_at "fr"
  case g => unfold D14; walk_at "ev"
  case e => exact rfl
local macro_rules | `(tactic| walk_at "fv") => `(tactic| first | exact F_is_four)
/-- a whole number as a ratio -/
@[reducible] def RI (x : Int) : EV := .ins 0 [.int x, .int 1]
theorem F_want_four {j : Nat} {a b c d : Int} : Fv 16 (runF (j + 5)) [.tup [.int a, .int b, .int c, .int d]] (.v (.tup [RI a, RI b, RI c, RI d])) := by
  apply yfv_fn (D := D16) rfl rfl
  case hf => walk_at "fr"
  case g => unfold D16; walk_at "ev"
  case e => exact rfl
local macro_rules | `(tactic| walk_at "fv") => `(tactic| first | exact F_want_four)




local macro_rules | `(tactic| walk_at "fv") => `(tactic| first | exact F_four_product (by walk_at "sz") | exact F_dot (by walk_at "sz") | exact F_are4 | exact F_is_four | exact F_want_four)
theorem lcm11 : oLcm [.int 1, .int 1] = some (.v (.int 1)) := by rfl
theorem div11 : bDiv (.int 1) (.int 1) = some (.v (.int 1)) := by rfl
local macro_rules | `(tactic| walk_at "op") => `(tactic| first | with_reducible exact lcm11 | with_reducible exact div11)
theorem F_wholes4 {j : Nat} {a b c d : Int} {n : Nat} [Bd a n] [Bd b n] [Bd c n] [Bd d n] (h : n < 900000) : Fv 12 (runF (j + 1)) [.tup [RI a, RI b, RI c, RI d]] (.v (.tup [.int 1, .lst [.int a, .int b, .int c, .int d]])) := by
  apply yfv_fn (D := D12) rfl rfl
  case hf => walk_at "fr"
  case g => unfold D12; walk_at "ev"
  case e => exact rfl
theorem F_wholes3 {j : Nat} {a b c : Int} {n : Nat} [Bd a n] [Bd b n] [Bd c n] (h : n < 900000) : Fv 12 (runF (j + 1)) [.tup [RI a, RI b, RI c]] (.v (.tup [.int 1, .lst [.int a, .int b, .int c]])) := by
  apply yfv_fn (D := D12) rfl rfl
  case hf => walk_at "fr"
  case g => unfold D12; walk_at "ev"
  case e => exact rfl
theorem F_wholes8 {j : Nat} {a b c d e f g h : Int} {n : Nat} [Bd a n] [Bd b n] [Bd c n] [Bd d n] [Bd e n] [Bd f n] [Bd g n] [Bd h n] (hn : n < 900000) : Fv 12 (runF (j + 1)) [.tup [RI a, RI b, RI c, RI d, RI e, RI f, RI g, RI h]] (.v (.tup [.int 1, .lst [.int a, .int b, .int c, .int d, .int e, .int f, .int g, .int h]])) := by
  apply yfv_fn (D := D12) rfl rfl
  case hf => walk_at "fr"
  case g => unfold D12; walk_at "ev"
  case e => exact rfl
local macro_rules | `(tactic| walk_at "fv") => `(tactic| first | exact F_wholes4 (by walk_at "sz") | exact F_wholes3 (by walk_at "sz") | exact F_wholes8 (by walk_at "sz"))
theorem F_Told {j : Nat} {u v : EV} : Fv 22 (runF (j + 1)) [u, v] (.v (.ins 1 [u, v])) := by
  apply yfv_in (D := D22) rfl rfl
  case hf0 => walk_at "fr"
  case g => unfold D22; walk_at "ev"
  case e => exact rfl
  case hf => exact rfl
local macro_rules | `(tactic| walk_at "fv") => `(tactic| first | exact F_Told)
/-! lowest terms -/
def lowB : SD := dSeq (dIf (dTb (dBinO bEq TEq boolP (dVar 2) (dC (.int 1)))) (dRet (dCallD 22 [] (dArgs [dVar 0, dBlt oTuple (dArgs [dVar 1])]))) (dNext)) (dSet 2 (dBlt oGcd (dArgs [dVar 2, dVar 3])))
def lowE : SD := dRet (dCallD 22 [] (dArgs [dBin bDiv (dVar 0) (dVar 2), dBlt oTuple (dArgs [dLc (dISeq (dVar 1)) (.one 3) none (dBin bDiv (dVar 3) (dVar 2)) [3]])]))
theorem D_low : D23 = dSeq (dSet 2 (dVar 0)) (dSeq (dFor (dISeq (dVar 1)) (.one 3) lowB) lowE) := rfl
def pln : Slot → Bool
  | .none => true
  | .v _ => true
  | _ => false
theorem low_loop {j : Nat} {b : Int} {V : EV} {L : List Int} (hV : oTuple [V] = some (.v (.tup (L.map .int)))) : ∀ (ns : List Int) (d : Int) (s3 : Slot), pln s3 = true →
    (∃ s, pln s = true ∧ FL (.one 3) lowB (runF (j + 1)) (ns.map .int) [.v (.int b), .v V, .v (.int d), s3] (.nx [.v (.int b), .v V, .v (.int (gl d ns)), s])) ∨
    (gl d ns = 1 ∧ ∃ fr, FL (.one 3) lowB (runF (j + 1)) (ns.map .int) [.v (.int b), .v V, .v (.int d), s3] (.rt (.v (.ins 1 [.int b, .tup (L.map .int)])) fr))
  | [], d, s3, h => .inl ⟨s3, h, yfl_nil⟩
  | x :: ns, d, s3, h => by
    by_cases h1 : d = 1
    · subst h1
      refine .inr ⟨gl_one, ?_⟩
      apply Exists.intro
      apply yfl_cons
      · walk_at "fr"
      · unfold lowB
        repeat' (first | exact hV | walk_at "ev1")
      · exact yfc_rt
    · have h2 : decide (d = 1) = false := decide_eq_false h1
      have one : S1 lowB (runF (j + 1)) [.v (.int b), .v V, .v (.int d), .v (.int x)] (.nx [.v (.int b), .v V, .v (.int (Int.ofNat (Nat.gcd d.natAbs x.natAbs))), .v (.int x)]) := by
        unfold lowB
        apply ys_seq
        · walk_at "ev"
        · apply yc_nx
          apply ys_set
          · apply yv_blt
            · walk_at "ev"
            · exact rfl
          · exact rfl
      rcases low_loop hV ns (Int.ofNat (Nat.gcd d.natAbs x.natAbs)) (.v (.int x)) rfl with ⟨s, hs, q⟩ | ⟨q1, fr, q⟩
      · refine .inl ⟨s, hs, ?_⟩
        exact yfl_cons rfl one q
      · refine .inr ⟨q1, fr, ?_⟩
        exact yfl_cons rfl one q
theorem F_lowest {j : Nat} {b : Int} {V : EV} {L : List Int} {n : Nat} [B : Bd b n] [P : Ps b] (hn : n < 9000) (hV : oTuple [V] = some (.v (.tup (L.map .int)))) (hs : seqE V = some (L.map .int)) (hL : L.length ≤ 1000000) :
    Fv 23 (runF (j + 2)) [.int b, V] (.v (.ins 1 [.int (b / gl b L), .tup (L.map fun n => .int (n / gl b L))])) := by
  have hp := P.h
  have gp : 0 < gl b L := gl_pos hp
  have hd : divFits (gl b L) = true := divF gp (Bd.gl hp B) hn
  rcases low_loop (j := j) (b := b) hV L b .none rfl with ⟨s, hs', q⟩ | ⟨q1, fr, q⟩
  · apply yfv_fn (D := D23) rfl rfl
    case hf => walk_at "fr"
    case g =>
      rw [D_low]
      apply ys_seq
      · walk_at "ev"
      · apply yc_nx
        apply ys_seq
        · exact ys_for (yvi_seq (yv_var rfl) hs) q
        · apply yc_nx
          unfold lowE
          have hps : plainS [.v (.int b), .v V, .v (.int (gl b L)), s] [3] = true := by
            cases s with
            | none => rfl
            | v e => rfl
            | own l => cases hs'
            | self c f => cases hs'
          have lc : V1 (dLc (dISeq (dVar 1)) (.one 3) none (dBin bDiv (dVar 3) (dVar 2)) [3]) (runF (j + 1)) [.v (.int b), .v V, .v (.int (gl b L)), s] (.fr (L.map fun n => .int (n / gl b L))) [.v (.int b), .v V, .v (.int (gl b L)), s] := by
            refine yv_lcMap (f := EV.int) (fr2 := [.v (.int b), .v V, .v (.int (gl b L)), .none]) (yvi_seq (yv_var rfl) hs) rfl hps hL (by simp only [wipeF, setS]) (fun x hx => ?_) (by simp only [backF, setS, getS])
            refine ⟨[.v (.int b), .v V, .v (.int (gl b L)), .v (.int x)], .v (.int (x.fdiv (gl b L))), _, by simp only [tgE, setS], yv_bin (yv_var rfl) (yv_var rfl) (yo_div rfl rfl hd), ?_, rfl, by simp only [wipeF, setS]⟩
            show EV.int (x.fdiv (gl b L)) = EV.int (x / gl b L)
            rw [fdiv_pos gp]
          repeat' (first | exact lc | walk_at "ev1")
    case e =>
      rw [fdiv_pos gp]
  · apply yfv_fn (D := D23) rfl rfl
    case hf => walk_at "fr"
    case g =>
      rw [D_low]
      apply ys_seq
      · walk_at "ev"
      · apply yc_nx
        apply ys_seq
        · exact ys_for (yvi_seq (yv_var rfl) hs) q
        · exact yc_rt
    case e =>
      rw [q1, Int.ediv_one]
      simp only [Int.ediv_one]




local macro_rules | `(tactic| walk_at "fv") => `(tactic| first | exact F_wholes4 (by walk_at "sz") | exact F_wholes3 (by walk_at "sz") | exact F_wholes8 (by walk_at "sz") | exact F_Told)
/-! eights -/
structure Q8 where (p q : Q4)
@[reducible] def Q8.l (x : Q8) : List Int := [x.p.a, x.p.b, x.p.c, x.p.d, x.q.a, x.q.b, x.q.c, x.q.d]
@[reducible] def Q8.tup (x : Q8) : EV := .tup [.int x.p.a, .int x.p.b, .int x.p.c, .int x.p.d, .int x.q.a, .int x.q.b, .int x.q.c, .int x.q.d]
class B8 (x : Q8) (n : outParam Nat) : Prop where
  p : B4 x.p n
  q : B4 x.q n
instance B8.ip {x : Q8} {n : Nat} [h : B8 x n] : B4 x.p n := h.p
instance B8.iq {x : Q8} {n : Nat} [h : B8 x n] : B4 x.q n := h.q
def Q4.dv (x : Q4) (g : Int) : Q4 := ⟨x.a / g, x.b / g, x.c / g, x.d / g⟩
def Q8.dv (x : Q8) (g : Int) : Q8 := ⟨x.p.dv g, x.q.dv g⟩
/-- an eight as it stands -/
@[reducible] def E1 (b : Int) (x : Q8) : EV := .ins 2 [.int b, x.tup]
/-- the eight x / b -/
def EE (b : Int) (x : Q8) : EV := E1 (b / gl b x.l) (x.dv (gl b x.l))
theorem EE_one (x : Q8) : EE 1 x = E1 1 x := by
  unfold EE Q8.dv Q4.dv
  rw [gl_one]
  simp only [Int.ediv_one]
theorem F_low8 {j : Nat} {b : Int} {x : Q8} {n : Nat} [Bd b n] [Ps b] (hn : n < 9000) : Fv 23 (runF (j + 2)) [.int b, x.tup] (.v (.ins 1 [.int (b / gl b x.l), (x.dv (gl b x.l)).tup])) :=
  F_lowest (V := x.tup) (L := x.l) hn rfl rfl (show 8 ≤ 1000000 by decide)
theorem F_low8L {j : Nat} {b : Int} {x : Q8} {n : Nat} [Bd b n] [Ps b] (hn : n < 9000) : Fv 23 (runF (j + 2)) [.int b, .lst (x.l.map .int)] (.v (.ins 1 [.int (b / gl b x.l), (x.dv (gl b x.l)).tup])) :=
  F_lowest (V := .lst (x.l.map .int)) (L := x.l) hn rfl rfl (show 8 ≤ 1000000 by decide)
theorem F_low1 {j : Nat} {a b c d e f g h : Int} : Fv 23 (runF (j + 2)) [.int 1, .lst [.int a, .int b, .int c, .int d, .int e, .int f, .int g, .int h]] (.v (.ins 1 [.int 1, .tup [.int a, .int b, .int c, .int d, .int e, .int f, .int g, .int h]])) := by
  have q := F_low8L (j := j) (b := 1) (x := ⟨⟨a, b, c, d⟩, ⟨e, f, g, h⟩⟩) (by decide)
  rw [gl_one] at q
  unfold Q8.dv Q4.dv at q
  simp only [Int.ediv_one] at q
  exact q
theorem F_told_eight_T {j : Nat} {fs : List EV} {u : EV} : Fv 24 (runF (j + 1)) [.ins 1 fs, u] (.v (.ins 1 fs)) := by
  apply yfv_fn (D := D24) rfl rfl
  case hf => walk_at "fr"
  case g => unfold D24; walk_at "ev"
  case e => exact rfl
theorem F_Eight_T {j : Nat} {u v w : EV} : Fv 25 (runF (j + 2)) [.ins 1 [u, v], w] (.v (.ins 2 [u, v])) := by
  have h := F_told_eight_T (j := j) (fs := [u, v]) (u := w)
  apply yfv_in (D := D25) rfl rfl
  case hf0 => walk_at "fr"
  case g => unfold D25; repeat' (first | exact h | walk_at "ev1")
  case e => exact rfl
  case hf => exact rfl
theorem F_eight_by {j : Nat} {b : Int} {x : Q8} {n : Nat} [Bd b n] [Ps b] (hn : n < 9000) : Fv 32 (runF (j + 3)) [.int b, x.tup] (.v (EE b x)) := by
  have h1 := F_low8 (j := j) (b := b) (x := x) hn
  have h2 := F_Eight_T (j := j) (u := .int (b / gl b x.l)) (v := (x.dv (gl b x.l)).tup) (w := .tup [.int 0, .int 0, .int 0, .int 0])
  apply yfv_fn (D := D32) rfl rfl
  case hf => walk_at "fr"
  case g => unfold D32; repeat' (first | exact h1 | exact h2 | walk_at "ev1")
  case e => exact rfl
theorem F_eight_byL {j : Nat} {b : Int} {x : Q8} {n : Nat} [Bd b n] [Ps b] (hn : n < 9000) : Fv 32 (runF (j + 3)) [.int b, .lst (x.l.map .int)] (.v (EE b x)) := by
  have h1 := F_low8L (j := j) (b := b) (x := x) hn
  have h2 := F_Eight_T (j := j) (u := .int (b / gl b x.l)) (v := (x.dv (gl b x.l)).tup) (w := .tup [.int 0, .int 0, .int 0, .int 0])
  apply yfv_fn (D := D32) rfl rfl
  case hf => walk_at "fr"
  case g => unfold D32; repeat' (first | exact h1 | exact h2 | walk_at "ev1")
  case e => exact rfl
theorem F_told_eight {j : Nat} {a b c d e f g h : Int} {m : Nat} [Bd a m] [Bd b m] [Bd c m] [Bd d m] [Bd e m] [Bd f m] [Bd g m] [Bd h m] (hm : m < 9000) : Fv 24 (runF (j + 6)) [.tup [.int a, .int b, .int c, .int d], .tup [.int e, .int f, .int g, .int h]] (.v (.ins 1 [.int 1, .tup [.int a, .int b, .int c, .int d, .int e, .int f, .int g, .int h]])) := by
  have h1 := F_want_four (j := j) (a := a) (b := b) (c := c) (d := d)
  have h2 := F_want_four (j := j) (a := e) (b := f) (c := g) (d := h)
  have h3 := F_wholes8 (j := j + 4) (a := a) (b := b) (c := c) (d := d) (e := e) (f := f) (g := g) (h := h) (by omega)
  have h4 := F_low1 (j := j + 3) (a := a) (b := b) (c := c) (d := d) (e := e) (f := f) (g := g) (h := h)
  apply yfv_fn (D := D24) rfl rfl
  case hf => walk_at "fr"
  case g => unfold D24; repeat' (first | with_reducible exact h1 | with_reducible exact h2 | exact h3 | exact h4 | walk_at "ev1")
  case e => exact rfl
theorem F_Eight {j : Nat} {a b c d e f g h : Int} {m : Nat} [Bd a m] [Bd b m] [Bd c m] [Bd d m] [Bd e m] [Bd f m] [Bd g m] [Bd h m] (hm : m < 9000) : Fv 25 (runF (j + 7)) [.tup [.int a, .int b, .int c, .int d], .tup [.int e, .int f, .int g, .int h]] (.v (E1 1 ⟨⟨a, b, c, d⟩, ⟨e, f, g, h⟩⟩)) := by
  have h1 := F_told_eight (j := j) (a := a) (b := b) (c := c) (d := d) (e := e) (f := f) (g := g) (h := h) hm
  apply yfv_in (D := D25) rfl rfl
  case hf0 => walk_at "fr"
  case g => unfold D25; repeat' (first | exact h1 | walk_at "ev1")
  case e => exact rfl
  case hf => exact rfl




local macro_rules | `(tactic| walk_at "fv") => `(tactic| first | exact F_Eight_T | exact F_told_eight_T | exact F_eight_by (by walk_at "sz") | exact F_Eight (by walk_at "sz"))
/-! products of eights -/
def mul8 (x y : Q8) : Q8 := ⟨mul4 x.p y.p, add4 (mul4 x.p y.q) (mul4 x.q y.p)⟩
theorem B4.mono {x : Q4} {n m : Nat} (h : B4 x n) (l : n ≤ m) : B4 x m := ⟨h.a.le l, h.b.le l, h.c.le l, h.d.le l⟩
instance B8.mul {x y : Q8} {m n : Nat} [a : B8 x m] [b : B8 y n] : B8 (mul8 x y) (m + n + 3) :=
  ⟨(B4.mul (x := x.p) (y := y.p)).mono (by omega), B4.add (B4.mul (x := x.p) (y := y.q)) (B4.mul (x := x.q) (y := y.p))⟩
instance B8.dv {x : Q8} {g : Int} {m : Nat} [a : B8 x m] : B8 (x.dv g) m := ⟨⟨a.p.a.div, a.p.b.div, a.p.c.div, a.p.d.div⟩, ⟨a.q.a.div, a.q.b.div, a.q.c.div, a.q.d.div⟩⟩
theorem F_numbers_product {j : Nat} {x y : Q8} {m n : Nat} [B8 x m] [B8 y n] (h : m + n < 900000) : Fv 33 (runF (j + 2)) [x.tup, y.tup] (.v (mul8 x y).tup) := by
  have h1 := F_four_product (j := j) (x := x.p) (y := y.q) (by omega)
  have h2 := F_four_product (j := j) (x := x.q) (y := y.p) (by omega)
  have h3 := F_four_product (j := j) (x := x.p) (y := y.p) (by omega)
  apply yfv_fn (D := D33) rfl rfl
  case hf => walk_at "fr"
  case g => unfold D33; repeat' (first | exact h1 | exact h2 | exact h3 | walk_at "ev1")
  case e => exact rfl
theorem F_want_eight {j : Nat} {fs : List EV} : Fv 37 (runF (j + 1)) [.ins 2 fs] (.v .non) := by
  apply yfv_fnN (D := D37) rfl rfl
  case hf => walk_at "fr"
  case g => unfold D37; walk_at "ev"
theorem F_product {j : Nat} {b c : Int} {x y : Q8} {m n p q : Nat} [Bd b m] [Bd c n] [Ps b] [Ps c] [B8 x p] [B8 y q] (h : m + n < 9000) (h2 : p + q < 900000) : Fv 34 (runF (j + 4)) [E1 b x, E1 c y] (.v (EE (b * c) (mul8 x y))) := by
  have h1 := F_numbers_product (j := j + 1) (x := x) (y := y) h2
  apply yfv_fn (D := D34) rfl rfl
  case hf => walk_at "fr"
  case g => unfold D34; repeat' (first | exact h1 | walk_at "ev1")
  case e => exact rfl
theorem F_emul_raw {j : Nat} {b c : Int} {x y : Q8} {m n p q : Nat} [Bd b m] [Bd c n] [Ps b] [Ps c] [B8 x p] [B8 y q] (h : m + n < 9000) (h2 : p + q < 900000) : Fv 28 (runF (j + 5)) [E1 b x, E1 c y] (.v (EE (b * c) (mul8 x y))) := by
  have h1 := F_product (j := j) (b := b) (c := c) (x := x) (y := y) h h2
  have h3 := F_want_eight (j := j + 3) (fs := [.int c, y.tup])
  apply yfv_fn (D := D28) rfl rfl
  case hf => walk_at "fr"
  case g => unfold D28; repeat' (first | exact h1 | exact h3 | walk_at "ev1")
  case e => exact rfl
/-! scaling -/
def Q4.sc (k : Int) (x : Q4) : Q4 := ⟨k * x.a, k * x.b, k * x.c, k * x.d⟩
def Q8.sc (k : Int) (x : Q8) : Q8 := ⟨x.p.sc k, x.q.sc k⟩
theorem Q8.ext' {x y : Q8} (h : x.l = y.l) : x = y := by
  obtain ⟨⟨a, b, c, d⟩, ⟨e, f, g, h'⟩⟩ := x
  obtain ⟨⟨a', b', c', d'⟩, ⟨e', f', g', h''⟩⟩ := y
  simp only [Q8.l, List.cons.injEq, and_true] at h
  obtain ⟨rfl, rfl, rfl, rfl, rfl, rfl, rfl, rfl⟩ := h
  rfl
theorem EE_red (b : Int) (x : Q8) : EE b x = .ins 2 [.int (red b x.l).1, .tup ((red b x.l).2.map .int)] := rfl
theorem EE_eq {b c : Int} {x y : Q8} (hb : 0 < b) (hc : 0 < c) (h : x.sc c = y.sc b) : EE b x = EE c y := by
  rw [EE_red, EE_red, red_eq (l := x.l) (m := y.l) hb hc ?_]
  have := congrArg Q8.l h
  exact this
theorem mul8_sc (k m : Int) (x y : Q8) : mul8 (x.sc k) (y.sc m) = (mul8 x y).sc (k * m) := by
  simp only [mul8, mul4, add4, Q8.sc, Q4.sc, Q8.mk.injEq, Q4.mk.injEq]
  refine ⟨⟨?_, ?_, ?_, ?_⟩, ⟨?_, ?_, ?_, ?_⟩⟩ <;> grind
theorem sc_sc (k m : Int) (x : Q8) : (x.sc m).sc k = x.sc (k * m) := by
  simp only [Q8.sc, Q4.sc, Int.mul_assoc]
theorem EE_cut {b : Int} (x : Q8) (hb : 0 < b) : ∃ g c y, 0 < g ∧ 0 < c ∧ b = g * c ∧ x = y.sc g ∧ EE b x = E1 c y ∧ c = b / g ∧ y = x.dv g := by
  obtain ⟨d1, d2⟩ := gl_dvd (l := x.l) hb
  have hp := gl_pos (l := x.l) hb
  refine ⟨gl b x.l, b / gl b x.l, x.dv (gl b x.l), hp, gl_div hb d1 hp, (Int.mul_ediv_cancel' d1).symm, ?_, rfl, rfl, rfl⟩
  apply Q8.ext'
  simp only [Q8.l, Q8.sc, Q4.sc, Q8.dv, Q4.dv, List.cons.injEq, and_true]
  refine ⟨?_, ?_, ?_, ?_, ?_, ?_, ?_, ?_⟩ <;> (rw [Int.mul_ediv_cancel']; exact d2 _ (by simp [Q8.l]))
theorem F_emul {j : Nat} {b c : Int} {x y : Q8} {m n p q : Nat} [B1 : Bd b m] [B2 : Bd c n] [P1 : Ps b] [P2 : Ps c] [B3 : B8 x p] [B4 : B8 y q] (h : m + n < 9000) (h2 : p + q < 900000) : Fv 28 (runF (j + 5)) [EE b x, EE c y] (.v (EE (b * c) (mul8 x y))) := by
  obtain ⟨g, b', x', g0, b0, e1, e2, e3, e4, e5⟩ := EE_cut x P1.h
  obtain ⟨k, c', y', k0, c0, f1, f2, f3, f4, f5⟩ := EE_cut y P2.h
  have e : EE (b' * c') (mul8 x' y') = EE (b * c) (mul8 x y) := by
    refine EE_eq (Int.mul_pos b0 c0) (Int.mul_pos P1.h P2.h) ?_
    rw [e2, f2, mul8_sc, sc_sc, e1, f1]
    congr 1
    simp only [Int.mul_assoc, Int.mul_comm, Int.mul_left_comm]
  rw [e3, f3, ← e]
  haveI : Ps b' := ⟨b0⟩
  haveI : Ps c' := ⟨c0⟩
  haveI : Bd b' m := by rw [e4]; exact B1.div
  haveI : Bd c' n := by rw [f4]; exact B2.div
  haveI : B8 x' p := by rw [e5]; exact B8.dv
  haveI : B8 y' q := by rw [f5]; exact B8.dv
  exact F_emul_raw h h2
theorem F_eeq {j : Nat} {b : Int} {x : Q8} : Fv 29 (runF (j + 1)) [E1 b x, E1 b x] (.v (.bl true)) := by
  apply yfv_fn (D := D29) rfl rfl
  case hf => walk_at "fr"
  case g => unfold D29; repeat' (first | exact yo_eqT (l := x.l) (m := x.l) rfl rfl | walk_at "ev1")
  case e => simp
theorem F_eeqE {j : Nat} {b : Int} {x : Q8} : Fv 29 (runF (j + 1)) [EE b x, EE b x] (.v (.bl true)) := F_eeq




local macro_rules | `(tactic| walk_at "fv") => `(tactic| first | exact F_Eight_T | exact F_told_eight_T | exact F_eight_by (by walk_at "sz") | exact F_Eight (by walk_at "sz") | exact F_want_eight)
/-! an eight times a number -/
theorem F_by_ratio {j : Nat} {b t c : Int} {x : Q8} {m n p q : Nat} [Bd b m] [Bd t n] [Bd c p] [Ps b] [Ps c] [B8 x q] (h : m + p < 9000) (h2 : q + n < 900000) : Fv 35 (runF (j + 4)) [E1 b x, .ins 0 [.int t, .int c]] (.v (EE (b * c) (x.sc t))) := by
  have h1 := F_eight_byL (j := j) (b := b * c) (x := x.sc t) h
  have e : ∀ y : Int, t * y = y * t := fun y => Int.mul_comm _ _
  simp only [Q8.l, Q8.sc, Q4.sc, e, List.map_cons, List.map_nil] at h1
  apply yfv_fn (D := D35) rfl rfl
  case hf => walk_at "fr"
  case g => unfold D35; repeat' (first | exact h1 | walk_at "ev1")
  case e => simp only [Q8.l, Q8.sc, Q4.sc, e, List.map_cons, List.map_nil]
theorem F_times {j : Nat} {b t c : Int} {x : Q8} {m n p q : Nat} [Bd b m] [Bd t n] [Bd c p] [Ps b] [Ps c] [B8 x q] (h : m + p < 9000) (h2 : q + n < 900000) : Fv 27 (runF (j + 5)) [E1 b x, .ins 0 [.int t, .int c]] (.v (EE (b * c) (x.sc t))) := by
  have h1 := F_by_ratio (j := j) (b := b) (t := t) (c := c) (x := x) h h2
  have h3 := F_want_numberR (j := j) (fs := [.int t, .int c])
  apply yfv_fn (D := D27) rfl rfl
  case hf => walk_at "fr"
  case g => unfold D27; repeat' (first | exact h1 | exact h3 | walk_at "ev1")
  case e => exact rfl
theorem F_timesI {j : Nat} {b t : Int} {x : Q8} {m n q : Nat} [Bd b m] [Bd t n] [Ps b] [B8 x q] (h : m + 1 < 9000) (h2 : q + n < 900000) : Fv 27 (runF (j + 5)) [E1 b x, .int t] (.v (EE (b * 1) (x.sc t))) := by
  have h1 := F_by_ratio (j := j) (b := b) (t := t) (c := 1) (x := x) h h2
  have h3 := F_want_number (j := j) (x := t)
  apply yfv_fn (D := D27) rfl rfl
  case hf => walk_at "fr"
  case g => unfold D27; repeat' (first | exact h1 | exact h3 | walk_at "ev1")
  case e => exact rfl
/-! poses -/
def Pose (x : Q8) : Prop := x.p.l ≠ [0, 0, 0, 0] ∧ dot4 x.p x.q = 0
/-- the sum between -/
def bt (x y : Q8) : Int := dot4 x.p y.q + dot4 x.q y.p
theorem F_are_pose {j : Nat} {x : Q8} {n : Nat} [B8 x n] (hn : n + n < 900000) (P : Pose x) : Fv 36 (runF (j + 2)) [x.tup] (.v (.bl true)) := by
  have h1 : (!decide (x.p.l = [0, 0, 0, 0])) = true := by simp [P.1]
  have h2 : decide (dot4 x.p x.q = 0) = true := decide_eq_true P.2
  have h3 := F_dot (j := j) (x := x.p) (y := x.q) (by omega)
  apply yfv_fn (D := D36) rfl rfl
  case hf => walk_at "fr"
  case g => unfold D36; repeat' (first | exact h3 | exact yo_neT (l := x.p.l) (m := [0, 0, 0, 0]) rfl rfl | walk_at "ev1")
  case e => rw [h2]
theorem F_is_pose_eight {j : Nat} {b : Int} {x : Q8} {n : Nat} [B8 x n] (hn : n + n < 900000) (P : Pose x) : Fv 38 (runF (j + 3)) [E1 b x] (.v (.bl true)) := by
  have h3 := F_are_pose (j := j) (x := x) hn P
  apply yfv_fn (D := D38) rfl rfl
  case hf => walk_at "fr"
  case g => unfold D38; repeat' (first | exact h3 | walk_at "ev1")
  case e => exact rfl
theorem F_want_pose {j : Nat} {b : Int} {x : Q8} {n : Nat} [B8 x n] (hn : n + n < 900000) (P : Pose x) : Fv 39 (runF (j + 4)) [E1 b x] (.v .non) := by
  have h3 := F_is_pose_eight (j := j) (b := b) (x := x) hn P
  apply yfv_fnN (D := D39) rfl rfl
  case hf => walk_at "fr"
  case g => unfold D39; repeat' (first | exact h3 | walk_at "ev1")
theorem Bd.bt {x y : Q8} {m n : Nat} [a : B8 x m] [b : B8 y n] : Bd (bt x y) (m + n + 3) := Bd.two (Bd.dot4 (x := x.p) (y := y.q)) (Bd.dot4 (x := x.q) (y := y.p))
theorem F_between_of {j : Nat} {b c : Int} {x y : Q8} {m n p q : Nat} [Bd b m] [Bd c n] [Ps b] [Ps c] [B8 x p] [B8 y q] (h : m + n < 8000) (h2 : p + q < 900000) : Fv 42 (runF (j + 3)) [E1 b x, E1 c y] (.v (RT (bt x y) (b * c))) := by
  have h1 := F_dot (j := j + 1) (x := x.p) (y := y.q) (by omega)
  have h3 := F_dot (j := j + 1) (x := x.q) (y := y.p) (by omega)
  apply yfv_fn (D := D42) rfl rfl
  case hf => walk_at "fr"
  case g => unfold D42; repeat' (first | exact h1 | exact h3 | walk_at "ev1")
  case e => exact rfl
theorem F_between_raw {j : Nat} {b c : Int} {x y : Q8} {m n p q : Nat} [Bd b m] [Bd c n] [Ps b] [Ps c] [B8 x p] [B8 y q] (h : m + n < 8000) (h2 : p + q < 400000) (h5 : p < 400000) (h6 : q < 400000) (P : Pose x) (Q : Pose y) : Fv 43 (runF (j + 5)) [E1 b x, E1 c y] (.v (RT (bt x y) (b * c))) := by
  have h1 := F_between_of (j := j + 1) (b := b) (c := c) (x := x) (y := y) h (by omega)
  have h3 := F_want_pose (j := j) (b := b) (x := x) (by omega) P
  have h4 := F_want_pose (j := j) (b := c) (x := y) (by omega) Q
  apply yfv_fn (D := D43) rfl rfl
  case hf => walk_at "fr"
  case g => unfold D43; repeat' (first | exact h1 | exact h3 | exact h4 | walk_at "ev1")
  case e => exact rfl
theorem dot4_sc (k m : Int) (x y : Q4) : dot4 (x.sc k) (y.sc m) = k * m * dot4 x y := by
  simp only [dot4, Q4.sc]; grind
theorem bt_sc (k m : Int) (x y : Q8) : bt (x.sc k) (y.sc m) = k * m * bt x y := by
  simp only [bt, Q8.sc, dot4_sc]; grind
theorem Pose.of_sc {k : Int} {x : Q8} (hk : k ≠ 0) (h : Pose (x.sc k)) : Pose x := by
  obtain ⟨h1, h2⟩ := h
  constructor
  · intro e
    apply h1
    simp only [Q4.l, List.cons.injEq, and_true, Q8.sc, Q4.sc] at e ⊢
    obtain ⟨e1, e2, e3, e4⟩ := e
    rw [e1, e2, e3, e4]
    simp
  · have : k * k * dot4 x.p x.q = 0 := by rw [← dot4_sc]; exact h2
    rcases Int.mul_eq_zero.mp this with q | q
    · rcases Int.mul_eq_zero.mp q with q | q <;> exact absurd q hk
    · exact q
theorem F_between {j : Nat} {b c : Int} {x y : Q8} {m n p q : Nat} [B1 : Bd b m] [B2 : Bd c n] [P1 : Ps b] [P2 : Ps c] [B3 : B8 x p] [B4 : B8 y q] (h : m + n < 8000) (h2 : p + q < 400000) (P : Pose x) (Q : Pose y) : Fv 43 (runF (j + 5)) [EE b x, EE c y] (.v (RT (bt x y) (b * c))) := by
  obtain ⟨g, b', x', g0, b0, e1, e2, e3, e4, e5⟩ := EE_cut x P1.h
  obtain ⟨k, c', y', k0, c0, f1, f2, f3, f4, f5⟩ := EE_cut y P2.h
  have e : RT (bt x' y') (b' * c') = RT (bt x y) (b * c) := by
    refine RT_eq (Int.mul_pos b0 c0) (Int.mul_pos P1.h P2.h) ?_
    rw [e2, f2, bt_sc, e1, f1]
    simp only [Int.mul_assoc, Int.mul_comm, Int.mul_left_comm]
  rw [e2] at P
  rw [f2] at Q
  rw [e3, f3, ← e]
  haveI : Ps b' := ⟨b0⟩
  haveI : Ps c' := ⟨c0⟩
  haveI : Bd b' m := by rw [e4]; exact B1.div
  haveI : Bd c' n := by rw [f4]; exact B2.div
  haveI : B8 x' p := by rw [e5]; exact B8.dv
  haveI : B8 y' q := by rw [f5]; exact B8.dv
  exact F_between_raw h h2 (by omega) (by omega) (P.of_sc (by omega)) (Q.of_sc (by omega))
/-! turns, ways -/
theorem F_turn_pose {j : Nat} {a b c d : Int} {n : Nat} [Bd a n] [Bd b n] [Bd c n] [Bd d n] (hn : n < 900000) (h0 : decide ([a, b, c, d] = [0, 0, 0, 0]) = false) : Fv 40 (runF (j + 6)) [.tup [.int a, .int b, .int c, .int d]] (.v (EE 1 ⟨⟨a, b, c, d⟩, ⟨0, 0, 0, 0⟩⟩)) := by
  have h1 := F_eight_by (j := j + 2) (b := 1) (x := ⟨⟨a, b, c, d⟩, ⟨0, 0, 0, 0⟩⟩) (by decide)
  apply yfv_fn (D := D40) rfl rfl
  case hf => walk_at "fr"
  case g => unfold D40; repeat' (first | exact h1 | exact yo_eqT (l := [a, b, c, d]) (m := [0, 0, 0, 0]) rfl rfl | walk_at "ev1")
  case e => exact rfl
theorem F_are3 {j : Nat} {a b c : Int} : Fv 13 (runF (j + 3)) [.tup [.int a, .int b, .int c], .int 3] (.v (.bl true)) := by
  apply yfv_fn (D := D13) rfl rfl
  case hf => walk_at "fr"
  case g => unfold D13; walk_at "ev"
  case e => exact rfl
local macro_rules | `(tactic| walk_at "fv") => `(tactic| first | exact F_are3)
theorem F_is_point {j : Nat} {a b c : Int} : Fv 15 (runF (j + 4)) [.tup [.int a, .int b, .int c]] (.v (.bl true)) := by
  apply yfv_fn (D := D15) rfl rfl
  case hf => walk_at "fr"
  case g => unfold D15; walk_at "ev"
  case e => exact rfl
local macro_rules | `(tactic| walk_at "fv") => `(tactic| first | exact F_is_point)
theorem F_want_point {j : Nat} {a b c : Int} : Fv 17 (runF (j + 5)) [.tup [.int a, .int b, .int c]] (.v (.tup [RI a, RI b, RI c])) := by
  apply yfv_fn (D := D17) rfl rfl
  case hf => walk_at "fr"
  case g => unfold D17; walk_at "ev"
  case e => exact rfl
local macro_rules | `(tactic| walk_at "fv") => `(tactic| first | exact F_want_point)
theorem F_go_pose {j : Nat} {a b c : Int} {n : Nat} [Bd a n] [Bd b n] [Bd c n] (hn : n < 900000) : Fv 41 (runF (j + 6)) [.tup [.int a, .int b, .int c]] (.v (EE 2 ⟨⟨2, 0, 0, 0⟩, ⟨0, a, b, c⟩⟩)) := by
  have h1 := F_eight_by (j := j + 2) (b := 2) (x := ⟨⟨2, 0, 0, 0⟩, ⟨0, a, b, c⟩⟩) (by decide)
  apply yfv_fn (D := D41) rfl rfl
  case hf => walk_at "fr"
  case g => unfold D41; repeat' (first | exact h1 | walk_at "ev1")
  case e => exact rfl
/-! the first four, its norm -/
theorem F_told_row4 {j : Nat} {a b c d : Int} : Fv 20 (runF (j + 3)) [.tup [.int a, .int b, .int c, .int d], .int 1] (.v (.tup [RI a, RI b, RI c, RI d])) := by
  apply yfv_fn (D := D20) rfl rfl
  case hf => walk_at "fr"
  case g => unfold D20; walk_at "ev"
  case e => exact rfl
local macro_rules | `(tactic| walk_at "fv") => `(tactic| first | exact F_told_row4)
theorem F_first {j : Nat} {x : Q8} : Fv 26 (runF (j + 4)) [E1 1 x] (.v (.tup [RI x.p.a, RI x.p.b, RI x.p.c, RI x.p.d])) := by
  apply yfv_fn (D := D26) rfl rfl
  case hf => walk_at "fr"
  case g => unfold D26; walk_at "ev"
  case e => exact rfl
theorem F_are4R {j : Nat} {a b c d : List EV} : Fv 13 (runF (j + 3)) [.tup [.ins 0 a, .ins 0 b, .ins 0 c, .ins 0 d], .int 4] (.v (.bl true)) := by
  apply yfv_fn (D := D13) rfl rfl
  case hf => walk_at "fr"
  case g => unfold D13; walk_at "ev"
  case e => exact rfl
local macro_rules | `(tactic| walk_at "fv") => `(tactic| first | exact F_are4R)
theorem F_is_fourR {j : Nat} {a b c d : List EV} : Fv 14 (runF (j + 4)) [.tup [.ins 0 a, .ins 0 b, .ins 0 c, .ins 0 d]] (.v (.bl true)) := by
  apply yfv_fn (D := D14) rfl rfl
  case hf => walk_at "fr"
  case g => unfold D14; walk_at "ev"
  case e => exact rfl
local macro_rules | `(tactic| walk_at "fv") => `(tactic| first | exact F_is_fourR)
theorem F_want_fourR {j : Nat} {a b c d : List EV} : Fv 16 (runF (j + 5)) [.tup [.ins 0 a, .ins 0 b, .ins 0 c, .ins 0 d]] (.v (.tup [.ins 0 a, .ins 0 b, .ins 0 c, .ins 0 d])) := by
  apply yfv_fn (D := D16) rfl rfl
  case hf => walk_at "fr"
  case g => unfold D16; walk_at "ev"
  case e => exact rfl
local macro_rules | `(tactic| walk_at "fv") => `(tactic| first | exact F_want_fourR)
theorem F_dotL {j : Nat} {x y : Q4} {m n : Nat} [B4 x m] [B4 y n] (h : m + n < 1000000) : Fv 19 (runF (j + 1)) [.lst [.int x.a, .int x.b, .int x.c, .int x.d], .lst [.int y.a, .int y.b, .int y.c, .int y.d]] (.v (.int (dot4 x y))) := by
  apply yfv_fn (D := D19) rfl rfl
  case hf => walk_at "fr"
  case g => unfold D19; walk_at "ev"
  case e => simp only [sumI, Int.zero_add]; rfl
theorem F_norm_four {j : Nat} {x : Q4} {n : Nat} [B4 x n] (hn : n < 400000) : Fv 21 (runF (j + 6)) [.tup [RI x.a, RI x.b, RI x.c, RI x.d]] (.v (RI (dot4 x x))) := by
  have h1 := F_dotL (j := j + 4) (x := x) (y := x) (by omega)
  apply yfv_fn (D := D21) rfl rfl
  case hf => walk_at "fr"
  case g => unfold D21; repeat' (first | exact h1 | walk_at "ev1")
  case e => exact rfl




theorem dot_mul_left (l x y : Q4) : dot4 (mul4 l x) (mul4 l y) = dot4 l l * dot4 x y := by
  simp only [dot4, mul4]; grind
theorem dot_mul_right (l x y : Q4) : dot4 (mul4 x l) (mul4 y l) = dot4 l l * dot4 x y := by
  simp only [dot4, mul4]; grind
theorem dot_add_l (x y z : Q4) : dot4 (add4 x y) z = dot4 x z + dot4 y z := by simp only [dot4, add4]; grind
theorem dot_add_r (x y z : Q4) : dot4 z (add4 x y) = dot4 z x + dot4 z y := by simp only [dot4, add4]; grind
theorem dot_comm (x y : Q4) : dot4 x y = dot4 y x := by simp only [dot4]; grind
/-- the mixed sums of two products -/
theorem dot_mix (l m x y : Q4) : dot4 (mul4 l x) (mul4 m y) + dot4 (mul4 m x) (mul4 l y) = 2 * dot4 l m * dot4 x y := by
  simp only [dot4, mul4]; grind
theorem dot_mixr (l m x y : Q4) : dot4 (mul4 x l) (mul4 y m) + dot4 (mul4 x m) (mul4 y l) = 2 * dot4 l m * dot4 x y := by
  simp only [dot4, mul4]; grind
theorem mul4_assoc (x y z : Q4) : mul4 (mul4 x y) z = mul4 x (mul4 y z) := by
  simp only [mul4, Q4.mk.injEq]
  refine ⟨?_, ?_, ?_, ?_⟩ <;> grind
theorem mul4_add (x y z : Q4) : mul4 x (add4 y z) = add4 (mul4 x y) (mul4 x z) := by
  simp only [mul4, add4, Q4.mk.injEq]
  refine ⟨?_, ?_, ?_, ?_⟩ <;> grind
theorem add4_mul (x y z : Q4) : mul4 (add4 y z) x = add4 (mul4 y x) (mul4 z x) := by
  simp only [mul4, add4, Q4.mk.injEq]
  refine ⟨?_, ?_, ?_, ?_⟩ <;> grind
theorem bt_left (l x y : Q8) (h : dot4 l.p l.q = 0) : bt (mul8 l x) (mul8 l y) = dot4 l.p l.p * bt x y := by
  simp only [bt, mul8, dot_add_l, dot_add_r, dot_mul_left]
  have := dot_mix l.p l.q x.p y.p
  rw [h] at this
  grind
theorem bt_right (l x y : Q8) (h : dot4 l.p l.q = 0) : bt (mul8 x l) (mul8 y l) = dot4 l.p l.p * bt x y := by
  simp only [bt, mul8, dot_add_l, dot_add_r, dot_mul_right]
  have := dot_mixr l.p l.q x.p y.p
  rw [h] at this
  grind
theorem study_mul (x y : Q8) : dot4 (mul8 x y).p (mul8 x y).q = dot4 x.p x.p * dot4 y.p y.q + dot4 y.p y.p * dot4 x.p x.q := by
  simp only [mul8, dot_add_r, dot_mul_left, dot_mul_right]
theorem bt_comm (x y : Q8) : bt x y = bt y x := by
  simp only [bt]; rw [dot_comm x.p y.q, dot_comm x.q y.p]; omega
theorem msn (x : Int) : 0 ≤ x * x := by
  rcases Int.le_total 0 x with h | h
  · exact Int.mul_nonneg h h
  · exact Int.mul_nonneg_of_nonpos_of_nonpos h h
theorem size_pos {x : Q4} (h : x.l ≠ [0, 0, 0, 0]) : 0 < dot4 x x := by
  have a := msn x.a
  have b := msn x.b
  have c := msn x.c
  have d := msn x.d
  have e : dot4 x x = x.a * x.a + x.b * x.b + x.c * x.c + x.d * x.d := rfl
  rcases Int.lt_or_le 0 (dot4 x x) with q | q
  · exact q
  · exfalso
    apply h
    have a0 : x.a * x.a = 0 := by omega
    have b0 : x.b * x.b = 0 := by omega
    have c0 : x.c * x.c = 0 := by omega
    have d0 : x.d * x.d = 0 := by omega
    simp only [Int.mul_eq_zero, or_self] at a0 b0 c0 d0
    simp only [Q4.l, a0, b0, c0, d0]
theorem size_ne {x : Q4} (h : 0 < dot4 x x) : x.l ≠ [0, 0, 0, 0] := fun e => by
  simp only [Q4.l, List.cons.injEq, and_true] at e
  obtain ⟨a, b, c, d⟩ := e
  unfold dot4 at h
  rw [a, b, c, d] at h
  simp at h
theorem Pose.mul {x y : Q8} (a : Pose x) (b : Pose y) : Pose (mul8 x y) := by
  constructor
  · apply size_ne
    show 0 < dot4 (mul4 x.p y.p) (mul4 x.p y.p)
    rw [dot_mul_left]
    exact Int.mul_pos (size_pos a.1) (size_pos b.1)
  · rw [study_mul, a.2, b.2]; simp
theorem bt_self {x : Q8} (h : Pose x) : bt x x = 0 := by
  have := h.2
  simp only [bt]; rw [dot_comm x.q x.p, this]; rfl
def one8 : Q8 := ⟨⟨1, 0, 0, 0⟩, ⟨0, 0, 0, 0⟩⟩
theorem mul_one8 (x : Q8) : mul8 x one8 = x := by
  obtain ⟨⟨a, b, c, d⟩, ⟨e, f, g, h⟩⟩ := x
  simp [mul8, mul4, add4, one8]
theorem one_mul8 (x : Q8) : mul8 one8 x = x := by
  obtain ⟨⟨a, b, c, d⟩, ⟨e, f, g, h⟩⟩ := x
  simp [mul8, mul4, add4, one8]
theorem bt_one (x : Q8) : bt one8 x = x.q.a := by simp [bt, dot4, one8]
theorem bt_turn (x h : Q8) (P : Pose x) : bt x (mul8 x h) = dot4 x.p x.p * h.q.a := by
  have := bt_left x one8 h P.2
  rw [mul_one8, bt_one] at this
  exact this
theorem bt_turn' (x h : Q8) (P : Pose x) : bt (mul8 h x) x = dot4 x.p x.p * h.q.a := by
  have := bt_right x h one8 P.2
  rw [one_mul8, bt_comm h one8, bt_one] at this
  exact this
/-! the law's own functions -/
theorem F_lfour {j : Nat} {x y : Q4} {m n : Nat} [B4 x m] [B4 y n] (h : m + n < 1000000) : Fv 45 (runF (j + 1)) [x.tup, y.tup] (.v (mul4 x y).tup) := by
  apply yfv_fn (D := D45) rfl rfl
  case hf => walk_at "fr"
  case g => unfold D45; walk_at "ev"
  case e => exact rfl
theorem F_lplus {j : Nat} {x y : Q4} : Fv 46 (runF (j + 1)) [x.tup, y.tup] (.v (add4 x y).tup) := by
  apply yfv_fn (D := D46) rfl rfl
  case hf => walk_at "fr"
  case g => unfold D46; walk_at "ev"
  case e => exact rfl
theorem F_ltimes {j : Nat} {x y : Q8} {m n : Nat} [B8 x m] [B8 y n] (h : m + n < 900000) : Fv 48 (runF (j + 2)) [x.tup, y.tup] (.v (mul8 x y).tup) := by
  have h1 := F_lfour (j := j) (x := x.p) (y := y.q) (by omega)
  have h2 := F_lfour (j := j) (x := x.q) (y := y.p) (by omega)
  have h3 := F_lfour (j := j) (x := x.p) (y := y.p) (by omega)
  have h4 := F_lplus (j := j) (x := mul4 x.p y.q) (y := mul4 x.q y.p)
  apply yfv_fn (D := D48) rfl rfl
  case hf => walk_at "fr"
  case g => unfold D48; repeat' (first | exact h1 | exact h2 | exact h3 | exact h4 | walk_at "ev1")
  case e => exact rfl
theorem F_leight {j : Nat} {x : Q8} {n : Nat} [B8 x n] (hn : n < 9000) : Fv 49 (runF (j + 8)) [x.tup] (.v (E1 1 x)) := by
  have h1 := F_Eight (j := j) (a := x.p.a) (b := x.p.b) (c := x.p.c) (d := x.p.d) (e := x.q.a) (f := x.q.b) (g := x.q.c) (h := x.q.d) hn
  apply yfv_fn (D := D49) rfl rfl
  case hf => walk_at "fr"
  case g => unfold D49; repeat' (first | exact h1 | walk_at "ev1")
  case e => exact rfl
theorem rng4 : oRng1 [.int 4] = some [.int 0, .int 1, .int 2, .int 3] := rfl
section
variable {a b c d e f g h : EV}
theorem ix0 : bIx (.tup [a, b, c, d, e, f, g, h]) (.int 0) = some (.v a) := rfl
theorem ix1 : bIx (.tup [a, b, c, d, e, f, g, h]) (.int 1) = some (.v b) := rfl
theorem ix2 : bIx (.tup [a, b, c, d, e, f, g, h]) (.int 2) = some (.v c) := rfl
theorem ix3 : bIx (.tup [a, b, c, d, e, f, g, h]) (.int 3) = some (.v d) := rfl
theorem ix4 : bIx (.tup [a, b, c, d, e, f, g, h]) (.int (0 + 4)) = some (.v e) := rfl
theorem ix5 : bIx (.tup [a, b, c, d, e, f, g, h]) (.int (1 + 4)) = some (.v f) := rfl
theorem ix6 : bIx (.tup [a, b, c, d, e, f, g, h]) (.int (2 + 4)) = some (.v g) := rfl
theorem ix7 : bIx (.tup [a, b, c, d, e, f, g, h]) (.int (3 + 4)) = some (.v h) := rfl
end
theorem F_lbetween {j : Nat} {x y : Q8} {m n : Nat} [B8 x m] [B8 y n] (h : m + n < 900000) : Fv 51 (runF (j + 1)) [x.tup, y.tup] (.v (.int (bt x y))) := by
  apply yfv_fn (D := D51) rfl rfl
  case hf => walk_at "fr"
  case g => unfold D51; repeat' (first | with_reducible exact rng4 | with_reducible exact ix0 | with_reducible exact ix1 | with_reducible exact ix2 | with_reducible exact ix3 | with_reducible exact ix4 | with_reducible exact ix5 | with_reducible exact ix6 | with_reducible exact ix7 | walk_at "ev1")
  case e =>
    refine congrArg (fun z => RV.v (EV.int z)) ?_
    simp only [sumI, bt, dot4]
    omega
theorem F_lsize {j : Nat} {x : Q8} {m : Nat} [B8 x m] (h : m + m < 900000) : Fv 54 (runF (j + 1)) [x.tup] (.v (.int (dot4 x.p x.p))) := by
  apply yfv_fn (D := D54) rfl rfl
  case hf => walk_at "fr"
  case g => unfold D54; walk_at "ev"
  case e => simp only [sumI, Int.zero_add]; rfl
theorem F_lby {j : Nat} {a b c k : Int} {m n : Nat} [Bd a m] [Bd b m] [Bd c m] [Bd k n] (h : m + n < 900000) : Fv 47 (runF (j + 1)) [.tup [.int a, .int b, .int c], .int k] (.v (.tup [.int (a * k), .int (b * k), .int (c * k)])) := by
  apply yfv_fn (D := D47) rfl rfl
  case hf => walk_at "fr"
  case g => unfold D47; walk_at "ev"
  case e => exact rfl




/-! draws -/
theorem w_draw {j : Nat} {m : Int} {fr : Frm} {Q : RV → Frm → Prop} (hp : getS fr 0 = .v .pot) (h0 : 0 < m) (h1 : m < 100000) (q : ∀ d : Int, 0 ≤ d → d < m → Q (.v (.int d)) fr) : WE (dCallD 58 [] (dArgs [dVar 0, dC (.int m)])) (runF (j + 1)) fr Q :=
  w_call (w_va (yva_cons (yv_var hp) (yva_cons yv_c yva_nil)) (fp_draw rfl h0 h1 q))
theorem F_pick {j : Nat} {l : List EV} (h0 : 0 < l.length) (h1 : l.length < 100000) : Fp 44 (runF (j + 2)) [.pot, .lst l] (fun r => ∃ e ∈ l, r = .v e) := by
  apply fp_fn (D := D44) rfl rfl
  case hf => walk_at "fr"
  case g =>
    unfold D44
    apply w_ret
    apply w_bin
    apply w_v
    case h => exact yv_var rfl
    apply w_call
    apply w_va
    case h => walk_at "ev"
    refine fp_draw rfl (by show (0 : Int) < (l.length : Int); omega) (by show (l.length : Int) < 100000; omega) fun d d0 d1 => ?_
    obtain ⟨k, rfl⟩ := Int.eq_ofNat_of_zero_le d0
    have hk : k < l.length := Int.ofNat_lt.mp d1
    refine ⟨.v l[k], ?_, l[k], List.getElem_mem hk, rfl⟩
    show (match itemE l (Int.ofNat k) with | some e => some (RV.v e) | none => none) = _
    unfold itemE ixE
    have e1 : Nat.blt k l.length = true := Nat.ble_eq_true_of_le hk
    simp only [e1, nth_eq]
    rw [List.getElem?_eq_getElem hk]
theorem Bd.rng {x : Int} {m : Nat} (a : -(2 ^ m) < x) (b : x < 2 ^ m) : Bd x m := ⟨by
  have : ((2 ^ m : Nat) : Int) = 2 ^ m := by simp
  omega⟩
theorem bd6 {x : Int} (a : -64 < x) (b : x < 64) : Bd x 6 := ⟨by show x.natAbs < 64; omega⟩
theorem b4_mk {a b c d : Int} {n : Nat} (ha : Bd a n) (hb : Bd b n) (hc : Bd c n) (hd : Bd d n) : B4 ⟨a, b, c, d⟩ n := ⟨ha, hb, hc, hd⟩
theorem b8_mk {x y : Q4} {n : Nat} (ha : B4 x n) (hb : B4 y n) : B8 ⟨x, y⟩ n := ⟨ha, hb⟩
theorem pose_of {t0 t1 t2 t3 w1 w2 w3 : Int} (h0 : -1 ≤ t0 ∧ t0 ≤ 2) (h1 : -1 ≤ t1 ∧ t1 ≤ 2) (h2 : -1 ≤ t2 ∧ t2 ≤ 2) (h3 : -1 ≤ t3 ∧ t3 ≤ 2) (k1 : -2 ≤ w1 ∧ w1 ≤ 2) (k2 : -2 ≤ w2 ∧ w2 ≤ 2) (k3 : -2 ≤ w3 ∧ w3 ≤ 2) (hn : (⟨t0, t1, t2, t3⟩ : Q4).l ≠ [0, 0, 0, 0]) :
    B8 ⟨⟨t0, t1, t2, t3⟩, mul4 ⟨0, w1, w2, w3⟩ ⟨t0, t1, t2, t3⟩⟩ 6 ∧ Pose ⟨⟨t0, t1, t2, t3⟩, mul4 ⟨0, w1, w2, w3⟩ ⟨t0, t1, t2, t3⟩⟩ := by
  have pb : ∀ {w t : Int}, -2 ≤ w ∧ w ≤ 2 → -1 ≤ t ∧ t ≤ 2 → -4 ≤ w * t ∧ w * t ≤ 4 := fun {w t} hw ht => by
    have a : w = -2 ∨ w = -1 ∨ w = 0 ∨ w = 1 ∨ w = 2 := by omega
    rcases a with rfl | rfl | rfl | rfl | rfl <;> omega
  refine ⟨b8_mk (b4_mk (bd6 (by omega) (by omega)) (bd6 (by omega) (by omega)) (bd6 (by omega) (by omega)) (bd6 (by omega) (by omega))) ?_, hn, ?_⟩
  · have a10 := pb k1 h0; have a11 := pb k1 h1; have a12 := pb k1 h2; have a13 := pb k1 h3
    have a20 := pb k2 h0; have a21 := pb k2 h1; have a22 := pb k2 h2; have a23 := pb k2 h3
    have a30 := pb k3 h0; have a31 := pb k3 h1; have a32 := pb k3 h2; have a33 := pb k3 h3
    refine b4_mk (bd6 ?_ ?_) (bd6 ?_ ?_) (bd6 ?_ ?_) (bd6 ?_ ?_) <;> simp only [mul4, Int.zero_mul] <;> omega
  · simp only [dot4, mul4]; grind
/-- a pose that is drawn -/
def PoseR (r : RV) : Prop := ∃ x : Q8, r = .v x.tup ∧ B8 x 6 ∧ Pose x
theorem w_drawR {j : Nat} {m c : Int} {fr : Frm} {Q : RV → Frm → Prop} (hp : getS fr 0 = .v .pot) (h0 : 0 < m) (h1 : m < 100000) (q : ∀ d : Int, 0 ≤ d → d < m → Q (.v (.int (d - c))) fr) : WE (dBin bSub (dCallD 58 [] (dArgs [dVar 0, dC (.int m)])) (dC (.int c))) (runF (j + 1)) fr Q :=
  w_bin (w_draw hp h0 h1 fun d d0 d1 => w_v yv_c ⟨_, rfl, q d d0 d1⟩)
theorem F_lpose {j : Nat} : Fp 50 (runF (j + 2)) [.pot] PoseR := by
  apply fp_fn (D := D50) rfl rfl
  case hf => walk_at "fr"
  case g =>
    unfold D50
    apply w_seq
    apply w_set
    apply w_tup
    apply w_cons; refine w_drawR rfl (by decide) (by decide) fun d0 a0 b0 => ?_
    apply w_cons; refine w_drawR rfl (by decide) (by decide) fun d1 a1 b1 => ?_
    apply w_cons; refine w_drawR rfl (by decide) (by decide) fun d2 a2 b2 => ?_
    apply w_cons; refine w_drawR rfl (by decide) (by decide) fun d3 a3 b3 => ?_
    apply w_nil
    refine ⟨rfl, ?_⟩
    show WS _ _ _ _
    apply w_seq
    have fin : ∀ t0 t1 t2 t3 : Int, (-1 ≤ t0 ∧ t0 ≤ 2) → (-1 ≤ t1 ∧ t1 ≤ 2) → (-1 ≤ t2 ∧ t2 ≤ 2) → (-1 ≤ t3 ∧ t3 ≤ 2) → (⟨t0, t1, t2, t3⟩ : Q4).l ≠ [0, 0, 0, 0] →
        WS (dSeq (dSet 2 (dTup (dArgs [dC (.int 0), dBin bSub (dCallD 58 [] (dArgs [dVar 0, dC (.int 5)])) (dC (.int 2)), dBin bSub (dCallD 58 [] (dArgs [dVar 0, dC (.int 5)])) (dC (.int 2)), dBin bSub (dCallD 58 [] (dArgs [dVar 0, dC (.int 3)])) (dC (.int 1))])))
    (dRet (dBin bAdd (dVar 1) (dCallD 45 [] (dArgs [dVar 2, dVar 1]))))) (runF (j + 1)) [.v .pot, .v (.tup [.int t0, .int t1, .int t2, .int t3]), .none] (fun o => match o with | .rt r _ => PoseR r | .nx _ => PoseR (.v .non) | _ => False) := by
      intro t0 t1 t2 t3 h0 h1 h2 h3 hn
      apply w_seq
      apply w_set
      apply w_tup
      apply w_cons; apply w_v yv_c
      apply w_cons; refine w_drawR rfl (by decide) (by decide) fun e1 a1 b1 => ?_
      apply w_cons; refine w_drawR rfl (by decide) (by decide) fun e2 a2 b2 => ?_
      apply w_cons; refine w_drawR rfl (by decide) (by decide) fun e3 a3 b3 => ?_
      apply w_nil
      refine ⟨rfl, ?_⟩
      show WS _ _ _ _
      obtain ⟨c1, c2⟩ := pose_of h0 h1 h2 h3 (w1 := e1 - 2) (w2 := e2 - 2) (w3 := e3 - 1) ⟨by omega, by omega⟩ ⟨by omega, by omega⟩ ⟨by omega, by omega⟩ hn
      haveI z1 : B4 ⟨t0, t1, t2, t3⟩ 6 := c1.p
      haveI z2 : B4 ⟨0, e1 - 2, e2 - 2, e3 - 1⟩ 6 := b4_mk (bd6 (by omega) (by omega)) (bd6 (by omega) (by omega)) (bd6 (by omega) (by omega)) (bd6 (by omega) (by omega))
      have q := F_lfour (j := j) (x := ⟨0, e1 - 2, e2 - 2, e3 - 1⟩) (y := ⟨t0, t1, t2, t3⟩) (by decide)
      apply w_ret
      apply w_v
      case h => repeat' (first | exact q | walk_at "ev1")
      exact ⟨⟨⟨t0, t1, t2, t3⟩, mul4 ⟨0, e1 - 2, e2 - 2, e3 - 1⟩ ⟨t0, t1, t2, t3⟩⟩, rfl, c1, c2⟩
    by_cases hz : [d0 - 1, d1 - 1, d2 - 1, d3 - 1] = [0, 0, 0, 0]
    · apply w_if (c := true)
      · have e : decide ([d0 - 1, d1 - 1, d2 - 1, d3 - 1] = [0, 0, 0, 0]) = true := decide_eq_true hz
        rw [← e]
        apply yvt_b
        · apply yv_binO
          · exact yv_var rfl
          · walk_at "ev"
          · exact rfl
          · exact yo_eqT (l := [d0 - 1, d1 - 1, d2 - 1, d3 - 1]) (m := [0, 0, 0, 0]) rfl rfl
        · exact rfl
      · apply ws_cond_t
        apply w_s
        case h => walk_at "ev"
        exact fin 1 0 1 0 (by decide) (by decide) (by decide) (by decide) (by decide)
    · apply w_if (c := false)
      · have e : decide ([d0 - 1, d1 - 1, d2 - 1, d3 - 1] = [0, 0, 0, 0]) = false := decide_eq_false hz
        rw [← e]
        apply yvt_b
        · apply yv_binO
          · exact yv_var rfl
          · walk_at "ev"
          · exact rfl
          · exact yo_eqT (l := [d0 - 1, d1 - 1, d2 - 1, d3 - 1]) (m := [0, 0, 0, 0]) rfl rfl
        · exact rfl
      · apply ws_cond_f
        apply Ev.w_next
        exact fin (d0 - 1) (d1 - 1) (d2 - 1) (d3 - 1) (by omega) (by omega) (by omega) (by omega) hz
section
variable {a b c : EV}
theorem jx0 : bIx (.tup [a, b, c]) (.int 0) = some (.v a) := rfl
theorem jx1 : bIx (.tup [a, b, c]) (.int 1) = some (.v b) := rfl
theorem jx2 : bIx (.tup [a, b, c]) (.int 2) = some (.v c) := rfl
end
local macro_rules | `(tactic| walk_at "op") => `(tactic| first | with_reducible exact jx0 | with_reducible exact jx1 | with_reducible exact jx2)
theorem F_cross {j : Nat} {a b c d e f : Int} {m n : Nat} [Bd a m] [Bd b m] [Bd c m] [Bd d n] [Bd e n] [Bd f n] (h : m + n < 900000) : Fv 52 (runF (j + 1)) [.tup [.int a, .int b, .int c], .tup [.int d, .int e, .int f]] (.v (.tup [.int (b * f - c * e), .int (c * d - a * f), .int (a * e - b * d)])) := by
  apply yfv_fn (D := D52) rfl rfl
  case hf => walk_at "fr"
  case g => unfold D52; walk_at "ev"
  case e => exact rfl
/-- a hinge that is drawn -/
def HingeR (r : RV) : Prop := ∃ x : Q8, r = .v x.tup ∧ B8 x 6 ∧ Pose x ∧ x.q.a = 0 ∧ 0 < x.p.b * x.p.b + x.p.c * x.p.c + x.p.d * x.p.d
theorem hinge_of {h a b c p q s : Int} (h0 : -2 ≤ h ∧ h ≤ 2) (ha : -2 ≤ a ∧ a ≤ 2) (hb : -2 ≤ b ∧ b ≤ 2) (hc : -2 ≤ c ∧ c ≤ 2) (hp : -2 ≤ p ∧ p ≤ 2) (hq : -2 ≤ q ∧ q ≤ 2) (hs : -2 ≤ s ∧ s ≤ 2) (hn : 0 < a * a + b * b + c * c) :
    HingeR (.v (.tup [.int h, .int a, .int b, .int c, .int 0, .int (q * c - s * b), .int (s * a - p * c), .int (p * b - q * a)])) := by
  have pb : ∀ {w t : Int}, -2 ≤ w ∧ w ≤ 2 → -2 ≤ t ∧ t ≤ 2 → -4 ≤ w * t ∧ w * t ≤ 4 := fun {w t} hw ht => by
    have a : w = -2 ∨ w = -1 ∨ w = 0 ∨ w = 1 ∨ w = 2 := by omega
    rcases a with rfl | rfl | rfl | rfl | rfl <;> omega
  have a1 := pb hq hc; have a2 := pb hs hb; have a3 := pb hs ha; have a4 := pb hp hc; have a5 := pb hp hb; have a6 := pb hq ha
  refine ⟨⟨⟨h, a, b, c⟩, ⟨0, q * c - s * b, s * a - p * c, p * b - q * a⟩⟩, rfl, b8_mk (b4_mk (bd6 (by omega) (by omega)) (bd6 (by omega) (by omega)) (bd6 (by omega) (by omega)) (bd6 (by omega) (by omega))) (b4_mk (bd6 (by omega) (by omega)) (bd6 (by omega) (by omega)) (bd6 (by omega) (by omega)) (bd6 (by omega) (by omega))), ⟨?_, ?_⟩, rfl, hn⟩
  · apply size_ne
    have := msn h
    simp only [dot4]
    omega
  · simp only [dot4]; grind
theorem F_lhinge {j : Nat} : Fp 53 (runF (j + 3)) [.pot] HingeR := by
  apply fp_fn (D := D53) rfl rfl
  case hf => walk_at "fr"
  case g =>
    unfold D53
    apply w_seq
    apply w_set
    apply w_call
    apply w_va
    case h => walk_at "ev"
    refine fp_mono (F_pick (by decide) (by decide)) fun r hr => ?_
    obtain ⟨e, he, rfl⟩ := hr
    have hd : ∃ a b c : Int, e = .tup [.int a, .int b, .int c] ∧ (-2 ≤ a ∧ a ≤ 2) ∧ (-2 ≤ b ∧ b ≤ 2) ∧ (-2 ≤ c ∧ c ≤ 2) ∧ 0 < a * a + b * b + c * c := by
      simp only [RV.ev, List.mem_cons, List.not_mem_nil, or_false] at he
      rcases he with rfl | rfl | rfl | rfl | rfl | rfl | rfl | rfl | rfl <;> exact ⟨_, _, _, rfl, by decide, by decide, by decide, by decide⟩
    obtain ⟨a, b, c, rfl, ha, hb, hc, hn⟩ := hd
    show WS _ _ _ _
    apply w_seq
    apply w_set
    apply w_tup
    apply w_cons; refine w_drawR rfl (by decide) (by decide) fun d1 l1 u1 => ?_
    apply w_cons; refine w_drawR rfl (by decide) (by decide) fun d2 l2 u2 => ?_
    apply w_cons; refine w_drawR rfl (by decide) (by decide) fun d3 l3 u3 => ?_
    apply w_nil
    refine ⟨rfl, ?_⟩
    show WS _ _ _ _
    apply w_ret
    apply w_bin
    apply w_bin
    apply w_bin
    apply w_tup
    apply w_cons; refine w_drawR rfl (by decide) (by decide) fun d4 l4 u4 => ?_
    apply w_nil
    refine ⟨rfl, ?_⟩
    apply w_v (yv_var rfl)
    refine ⟨_, yo_addT rfl rfl rfl rfl, ?_⟩
    apply w_v
    case h => walk_at "ev"
    refine ⟨_, yo_addT rfl rfl rfl rfl, ?_⟩
    haveI i1 : Bd a 6 := bd6 (by omega) (by omega)
    haveI i2 : Bd b 6 := bd6 (by omega) (by omega)
    haveI i3 : Bd c 6 := bd6 (by omega) (by omega)
    haveI i4 : Bd (d1 - 1) 6 := bd6 (by omega) (by omega)
    haveI i5 : Bd (d2 - 1) 6 := bd6 (by omega) (by omega)
    haveI i6 : Bd (d3 - 1) 6 := bd6 (by omega) (by omega)
    have q := F_cross (j := j + 1) (a := d1 - 1) (b := d2 - 1) (c := d3 - 1) (d := a) (e := b) (f := c) (by decide)
    apply w_v
    case h => repeat' (first | exact q | walk_at "ev1")
    refine ⟨_, yo_addT rfl rfl rfl rfl, ?_⟩
    exact hinge_of (h := d4 - 2) (p := d1 - 1) (q := d2 - 1) (s := d3 - 1) (by omega) ha hb hc (by omega) (by omega) (by omega) hn




/-! texts of small eights -/
theorem small_text (k : Fin 64) : ((toString ((k.val : Nat) : Int)) : Str).length ≤ 2 ∧ log1920 ((k.val : Nat) : Int) = true ∧ PyData.strOk (toString ((k.val : Nat) : Int)) = true := by
  revert k
  decide +kernel
theorem small_textI {n : Int} (h0 : 0 ≤ n) (h1 : n < 64) : (toString n : Str).length ≤ 2 ∧ log1920 n = true ∧ PyData.strOk (toString n) = true := by
  obtain ⟨k, rfl⟩ := Int.eq_ofNat_of_zero_le h0
  exact small_text ⟨k, by omega⟩
theorem F_digits {j : Nat} {n : Int} (h : n.natAbs < 64) : ∃ y : Str, y.length ≤ 8 ∧ PyData.strOk y = true ∧ Fv 2 (runF (j + 1)) [.int n] (.v (.str y)) := by
  have e0 : (PySem.Str.ofString "").length = 0 := rfl
  have e1 : (PySem.Str.ofString "-").length = 1 := rfl
  have e2 : Str.empty.length = 0 := rfl
  have k0 : PyData.strOk (PySem.Str.ofString "") = true := by decide +kernel
  have k1 : PyData.strOk (PySem.Str.ofString "-") = true := by decide +kernel
  have k2 : PyData.strOk Str.empty = true := by decide +kernel
  by_cases hn : 0 ≤ n
  · obtain ⟨l1, l2, l3⟩ := small_textI hn (by omega)
    have d1 : decide (0 ≤ n) = true := decide_eq_true hn
    have d2 : decide (1000000000000000000000000000000000000000000000000000000000000 ≤ n) = false := decide_eq_false (by omega)
    have d3 : decide (n < 0) = false := decide_eq_false (by omega)
    refine ⟨Str.empty ++ PySem.Str.ofString "" ++ toString n ++ PySem.Str.ofString "", by simp only [Str.length_append, e0, e2]; omega, by simp only [ok_app, k0, k2, l3, Bool.and_self], ?_⟩
    apply yfv_fn (D := D2) rfl rfl
    case hf => walk_at "fr"
    case g => unfold D2; walk_at "ev"
    case e => exact rfl
  · obtain ⟨l1, l2, l3⟩ := small_textI (n := 0 - n) (by omega) (by omega)
    have d1 : decide (0 ≤ n) = false := decide_eq_false hn
    have d2 : decide (1000000000000000000000000000000000000000000000000000000000000 ≤ 0 - n) = false := decide_eq_false (by omega)
    have d3 : decide (n < 0) = true := decide_eq_true (by omega)
    refine ⟨Str.empty ++ PySem.Str.ofString "-" ++ toString (0 - n) ++ PySem.Str.ofString "", by simp only [Str.length_append, e0, e1, e2]; omega, by simp only [ok_app, k0, k1, k2, l3, Bool.and_self], ?_⟩
    apply yfv_fn (D := D2) rfl rfl
    case hf => walk_at "fr"
    case g => unfold D2; walk_at "ev"
    case e => exact rfl
theorem F_rstr {j : Nat} {n : Int} {y : Str} (hy : y.length ≤ 8) (h : Fv 2 (runF (j + 1)) [.int n] (.v (.str y))) : Fv 7 (runF (j + 2)) [RI n] (.v (.str y)) := by
  apply yfv_fn (D := D7) rfl rfl
  case hf => walk_at "fr"
  case g => unfold D7; repeat' (first | exact h | walk_at "ev1")
  case e => exact rfl
theorem join4_len (g a b c d : Str) : (Txt.join g [a, b, c, d]).length = a.length + b.length + c.length + d.length + 3 * g.length := by
  unfold Txt.join Builtin.Str.glued
  simp [Str.length, Array.size_append]
  omega
theorem F_four_text {j : Nat} {x : Q4} (h : B4 x 6) : ∃ y : Str, y.length ≤ 60 ∧ PyData.strOk y = true ∧ Fv 31 (runF (j + 4)) [x.tup, .int 1] (.v (.str y)) := by
  obtain ⟨ya, la, oa, fa⟩ := F_digits (j := j + 1) (n := x.a) (by have := h.a.h; omega)
  obtain ⟨yb, lb, ob, fb⟩ := F_digits (j := j + 1) (n := x.b) (by have := h.b.h; omega)
  obtain ⟨yc, lc, oc, fc⟩ := F_digits (j := j + 1) (n := x.c) (by have := h.c.h; omega)
  obtain ⟨yd, ld, od, fd⟩ := F_digits (j := j + 1) (n := x.d) (by have := h.d.h; omega)
  have ra := F_rstr la fa
  have rb := F_rstr lb fb
  have rc := F_rstr lc fc
  have rd := F_rstr ld fd
  have k1 : PyData.strOk (PySem.Str.ofString "(") = true := by decide +kernel
  have k2 : PyData.strOk (PySem.Str.ofString ", ") = true := by decide +kernel
  have k3 : PyData.strOk (PySem.Str.ofString ")") = true := by decide +kernel
  have l1 : (PySem.Str.ofString "(").length = 1 := rfl
  have l2 : (PySem.Str.ofString ", ").length = 2 := rfl
  have l3 : (PySem.Str.ofString ")").length = 1 := rfl
  have lj := join4_len (PySem.Str.ofString ", ") ya yb yc yd
  have t := F_told_row4 (j := j) (a := x.a) (b := x.b) (c := x.c) (d := x.d)
  have hj : joinFits (PySem.Str.ofString ", ") [ya, yb, yc, yd] = true := by
    unfold joinFits
    apply Nat.ble_eq_true_of_le
    simp only [List.map_cons, List.map_nil, List.sum_cons, List.sum_nil, List.length_cons, List.length_nil]
    rw [l2]; omega
  refine ⟨PySem.Str.ofString "(" ++ Txt.join (PySem.Str.ofString ", ") [ya, yb, yc, yd] ++ PySem.Str.ofString ")", by simp only [Str.length_append, l1, l3, lj, l2]; omega, by simp only [ok_app, k1, k3, ok_join4 _ _ _ _ _ k2 oa ob oc od, Bool.and_self], ?_⟩
  apply yfv_fn (D := D31) rfl rfl
  case hf => walk_at "fr"
  case g => unfold D31; repeat' (first | exact ra | exact rb | exact rc | exact rd | exact t | with_reducible refine yo_join (l := [ya, yb, yc, yd]) ?_ hj | walk_at "ev1")
  case e => exact rfl
theorem F_erepr {j : Nat} {x : Q8} (h : B8 x 6) : ∃ y : Str, y.length ≤ 200 ∧ PyData.strOk y = true ∧ Fv 30 (runF (j + 5)) [E1 1 x] (.v (.str y)) := by
  obtain ⟨ya, la, oa, fa⟩ := F_four_text (j := j) h.p
  obtain ⟨yb, lb, ob, fb⟩ := F_four_text (j := j) h.q
  have k1 : PyData.strOk (PySem.Str.ofString "Eight(") = true := by decide +kernel
  have k2 : PyData.strOk (PySem.Str.ofString ", ") = true := by decide +kernel
  have k3 : PyData.strOk (PySem.Str.ofString ")") = true := by decide +kernel
  have k0 : PyData.strOk Str.empty = true := by decide +kernel
  have l1 : (PySem.Str.ofString "Eight(").length = 6 := rfl
  have l2 : (PySem.Str.ofString ", ").length = 2 := rfl
  have l3 : (PySem.Str.ofString ")").length = 1 := rfl
  have l0 : Str.empty.length = 0 := rfl
  refine ⟨Str.empty ++ PySem.Str.ofString "Eight(" ++ ya ++ PySem.Str.ofString ", " ++ yb ++ PySem.Str.ofString ")", by simp only [Str.length_append, l1, l3, l2, l0]; omega, by simp only [ok_app, k0, k1, k2, k3, oa, ob, Bool.and_self], ?_⟩
  apply yfv_fn (D := D30) rfl rfl
  case hf => walk_at "fr"
  case g => unfold D30; repeat' (first | exact fa | exact fb | walk_at "ev1")
  case e => exact rfl





/-! the law -/
theorem b8w {x : Q8} {n m : Nat} (h : B8 x n) (l : n ≤ m) : B8 x m := ⟨h.p.mono l, h.q.mono l⟩
local macro_rules | `(tactic| walk_at "evx") => `(tactic| first | with_reducible apply yv_binX | ((with_reducible apply BinX.prim); focus exact rfl) | walk_at "ev1")
theorem EV_RT0 {b : Int} (hb : 0 < b) : RT 0 b = RI 0 := by
  rw [RT_eq (t := 0) (b := b) (u := 0) (c := 1) hb (by decide) (by simp), RT_one]
theorem RT_z {t b : Int} (ht : t = 0) (hb : 0 < b) : RT t b = RI 0 := by rw [ht]; exact EV_RT0 hb
theorem F_rne0 {j : Nat} {t b : Int} (hb : 0 < b) (ht : t ≠ 0) : Fv 6 (runF (j + 1)) [RT t b, RI 0] (.v (.bl false)) := by
  obtain ⟨g, g0, eg, e1, e2, p1⟩ := RT_cut (t := t) hb
  unfold RT
  rw [eg]
  exact F_rne (decide_eq_false fun e => ht (by rw [e1, e]; simp))
theorem F_reqT {j : Nat} {t b : Int} : Fv 6 (runF (j + 1)) [RT t b, RT t b] (.v (.bl true)) := F_req
theorem b8sc {x : Q8} {t : Int} (h : Bd t 3) (hx : B8 x 6) : B8 (x.sc t) 9 :=
  have q : ∀ {y : Int}, Bd y 6 → Bd (t * y) 9 := fun hy => ⟨Nat.lt_of_lt_of_le (Bd.mul (a := h) (b := hy)).h (by decide)⟩
  ⟨⟨q hx.p.a, q hx.p.b, q hx.p.c, q hx.p.d⟩, ⟨q hx.q.a, q hx.q.b, q hx.q.c, q hx.q.d⟩⟩
theorem Pose.to_sc {k : Int} {x : Q8} (hk : k ≠ 0) (h : Pose x) : Pose (x.sc k) := by
  refine ⟨size_ne ?_, ?_⟩
  · show 0 < dot4 (x.p.sc k) (x.p.sc k)
    rw [dot4_sc]
    refine Int.mul_pos ?_ (size_pos h.1)
    have := msn k
    rcases Int.lt_or_le 0 (k * k) with q | q
    · exact q
    · have : k * k = 0 := by omega
      rcases Int.mul_eq_zero.mp this with e | e <;> exact absurd e hk
  · show dot4 (x.p.sc k) (x.q.sc k) = 0
    rw [dot4_sc, h.2, Int.mul_zero]
/-- a number that is picked: t / c -/
structure NumF (e : EV) (t c : Int) : Prop where
  times : ∀ {x : Q8}, B8 x 6 → Fv 27 (runF 12) [E1 1 x, e] (.v (EE c (x.sc t)))
  mul : ∀ {u d : Int}, Bd u 100 → Bd d 10 → Ps d → Fv 5 (runF 12) [RT u d, e] (.v (RT (u * t) (d * c)))
  ok : rightOk 0 e = true
  bt : Bd t 3
  bc : Bd c 3
  ps : Ps c
  nz : t ≠ 0
theorem numI {t : Int} (h : Bd t 3) (hz : t ≠ 0) : NumF (.int t) t 1 where
  times := fun {x} hx => F_timesI (j := 7) (b := 1) (t := t) (x := x) (by decide) (by decide)
  mul := fun {u d} hu hd hp => by
    have q := F_mul_RI (j := 9) (t := u) (b := d) (u := t) (by decide) (by decide)
    rw [Int.mul_one]; exact q
  ok := rfl
  bt := h
  bc := ⟨by decide⟩
  ps := inferInstance
  nz := hz
theorem numR {t c : Int} (h : Bd t 3) (hz : t ≠ 0) (h2 : Bd c 3) (p : Ps c) (e : RT t c = .ins 0 [.int t, .int c]) : NumF (RT t c) t c where
  times := fun {x} hx => by
    have q := F_times (j := 7) (b := 1) (t := t) (c := c) (x := x) (by decide) (by decide)
    rw [e]; rw [Int.one_mul] at q; exact q
  mul := fun {u d} hu hd hp => F_mul_RR (j := 9) (t := u) (b := d) (u := t) (c := c) (by decide) (by decide)
  ok := rfl
  bt := h
  bc := h2
  ps := p
  nz := hz
theorem law_right : Fp 55 (runF 13) [.pot] (fun r => r = .v (.bl true)) := by
  apply fp_fn (D := D55) rfl rfl
  case hf => walk_at "fr"
  case g =>
    unfold D55
    apply w_seq
    apply w_unp
    apply w_tup
    apply w_cons; apply w_call; apply w_va
    case h => walk_at "ev"
    refine fp_mono (F_lpose (j := 10)) fun r hr => ?_
    obtain ⟨a, rfl, Ba, Pa⟩ := hr
    apply w_cons; apply w_call; apply w_va
    case h => walk_at "ev"
    refine fp_mono (F_lpose (j := 10)) fun r hr => ?_
    obtain ⟨b, rfl, Bb, Pb⟩ := hr
    apply w_cons; apply w_call; apply w_va
    case h => walk_at "ev"
    refine fp_mono (F_lpose (j := 10)) fun r hr => ?_
    obtain ⟨l, rfl, Bl, Pl⟩ := hr
    apply w_cons; apply w_call; apply w_va
    case h => walk_at "ev"
    refine fp_mono (F_lpose (j := 10)) fun r hr => ?_
    obtain ⟨m, rfl, Bm, Pm⟩ := hr
    apply w_nil
    refine ⟨rfl, [.v .pot, .none, .none, .none, .none, .none, .none, .v a.tup, .v b.tup, .v l.tup, .v m.tup, .none, .none, .none, .none, .none, .none, .none], rfl, ?_⟩
    show WS _ _ _ _
    have fa := F_leight (j := 4) (x := a) (by decide)
    have fb := F_leight (j := 4) (x := b) (by decide)
    have fd := F_lbetween (j := 11) (x := a) (y := b) (by decide)
    have one1 : (1 * 1 : Int) = 1 := rfl
    apply w_seq
    apply w_s
    case h => repeat' (first | exact fa | exact fb | exact fd | walk_at "ev1")
    show WS _ _ [.v .pot, .none, .none, .none, .none, .none, .none, .v a.tup, .v b.tup, .v l.tup, .v m.tup, .v (E1 1 a), .v (E1 1 b), .v (RI (bt a b)), .none, .none, .none, .none] _
    have q1 := F_between_raw (j := 7) (b := 1) (c := 1) (x := a) (y := b) (by decide) (by decide) (by decide) (by decide) Pa Pb
    rw [one1, RT_one] at q1
    have q2 := F_between_raw (j := 7) (b := 1) (c := 1) (x := b) (y := a) (by decide) (by decide) (by decide) (by decide) Pb Pa
    rw [one1, RT_one, bt_comm] at q2
    have q3 := F_between_raw (j := 7) (b := 1) (c := 1) (x := a) (y := a) (by decide) (by decide) (by decide) (by decide) Pa Pa
    rw [one1, RT_one, bt_self Pa] at q3
    have r1 := F_req (j := 11) (t := bt a b) (b := 1)
    have r0 := F_req (j := 11) (t := 0) (b := 1)
    apply w_seq
    apply w_s
    case h => repeat' (first | exact q1 | exact q2 | exact q3 | exact BinX.own rfl rfl rfl r1 rfl | exact BinX.own rfl rfl rfl r0 rfl | walk_at "evx")
    show WS _ _ _ _
    obtain ⟨ya, la, oa, ra⟩ := F_erepr (j := 7) Ba
    obtain ⟨yb, lb, ob, rb⟩ := F_erepr (j := 7) Bb
    have hS : ∀ f, getS f 11 = .v (E1 1 a) → getS f 12 = .v (E1 1 b) → V1 (dRepr TRepr (dLst (dArgs [dVar 11, dVar 12]))) (runF 12) f (.v (.str (listText [ya, yb]))) f := by
      intro f h1 h2
      refine yv_reprL (yv_lst (yva_cons (yv_var h1) (yva_cons (yv_var h2) yva_nil)) rfl) rfl ?_
      refine rl_ins rfl (by decide) ra (fits_le (by simp only [piled_nil]; omega)) ?_
      refine rl_ins rfl (fits_le ?_) rb (fits_le ?_) ?_
      · simp only [List.nil_append, piled_cons, piled_nil]; omega
      · simp only [List.nil_append, piled_cons, piled_nil]; omega
      · refine rl_nil (fits_le ?_)
        have := listText_le (ts := [ya, yb]) (B := 200) (by intro t ht; simp only [List.mem_cons, List.not_mem_nil, or_false] at ht; rcases ht with rfl | rfl <;> assumption)
        simp only [List.length_cons, List.length_nil] at this
        exact Nat.le_trans this (by decide)
    have okS : PyData.strOk (listText [ya, yb]) = true := ok_listText (by intro t ht; simp only [List.mem_cons, List.not_mem_nil, or_false] at ht; rcases ht with rfl | rfl <;> assumption)
    generalize listText [ya, yb] = sh at hS okS
    apply w_seq
    apply w_s
    case h => exact ys_set (hS _ rfl rfl) rfl
    show WS _ _ [.v .pot, .v (.str sh), .none, .none, .none, .none, .none, .v a.tup, .v b.tup, .v l.tup, .v m.tup, .v (E1 1 a), .v (E1 1 b), .v (RI (bt a b)), .none, .none, .none, .none] _
    apply w_seq
    apply w_par
    apply w_call
    apply w_va
    case h => walk_at "ev"
    refine fp_mono (F_pick (j := 10) (by decide) (by decide)) fun r hr => ?_
    obtain ⟨e1, he, rfl⟩ := hr
    have N1 : ∃ t c, NumF e1 t c := by
      simp only [RV.ev, List.mem_cons, List.not_mem_nil, or_false] at he
      rcases he with rfl | rfl | rfl | rfl
      · exact ⟨_, _, numI ⟨by decide⟩ (by decide)⟩
      · exact ⟨_, _, numI ⟨by decide⟩ (by decide)⟩
      · exact ⟨_, _, numR ⟨by decide⟩ (by decide) ⟨by decide⟩ inferInstance rfl⟩
      · exact ⟨_, _, numI ⟨by decide⟩ (by decide)⟩
    obtain ⟨t1, c1, N1⟩ := N1
    apply w_call
    apply w_va
    case h => walk_at "ev"
    refine fp_mono (F_pick (j := 10) (by decide) (by decide)) fun r hr => ?_
    obtain ⟨e2, he, rfl⟩ := hr
    have N2 : ∃ t c, NumF e2 t c := by
      simp only [RV.ev, List.mem_cons, List.not_mem_nil, or_false] at he
      rcases he with rfl | rfl | rfl
      · exact ⟨_, _, numI ⟨by decide⟩ (by decide)⟩
      · exact ⟨_, _, numI ⟨by decide⟩ (by decide)⟩
      · exact ⟨_, _, numR ⟨by decide⟩ (by decide) ⟨by decide⟩ inferInstance rfl⟩
    obtain ⟨t2, c2, N2⟩ := N2
    show WS _ _ [.v .pot, .v (.str sh), .none, .none, .none, .none, .none, .v a.tup, .v b.tup, .v l.tup, .v m.tup, .v (E1 1 a), .v (E1 1 b), .v (RI (bt a b)), .v e1, .v e2, .none, .none] _
    have m1 := N1.times Ba
    have m2 := N2.times Bb
    have d1 := N1.mul (u := bt a b) (d := 1) ⟨Nat.lt_of_lt_of_le Bd.bt.h (by decide)⟩ ⟨by decide⟩ inferInstance
    rw [RT_one] at d1
    haveI i1 := N1.bt; haveI i2 := N1.bc; haveI i3 := N1.ps; haveI i4 := N2.bt; haveI i5 := N2.bc; haveI i6 := N2.ps
    have d2 := N2.mul (u := bt a b * t1) (d := 1 * c1) ⟨Nat.lt_of_lt_of_le (Bd.mul (a := Bd.bt)).h (by decide)⟩ ⟨Nat.lt_of_lt_of_le Bd.mul.h (by decide)⟩ inferInstance
    haveI B1 : B8 (a.sc t1) 9 := b8sc N1.bt Ba
    haveI B2 : B8 (b.sc t2) 9 := b8sc N2.bt Bb
    have Pt : ∀ {x : Q8} {t : Int}, t ≠ 0 → Pose x → Pose (x.sc t) := fun ht h => h.to_sc ht
    have bw := F_between (j := 7) (b := c1) (c := c2) (x := a.sc t1) (y := b.sc t2) (by decide) (by decide) (Pt N1.nz Pa) (Pt N2.nz Pb)
    have ebw : RT (bt (a.sc t1) (b.sc t2)) (c1 * c2) = RT (bt a b * t1 * t2) (1 * c1 * c2) := RT_eq (Int.mul_pos i3.h i6.h) (Int.mul_pos (Int.mul_pos (by decide) i3.h) i6.h) (by rw [bt_sc]; simp only [Int.one_mul, Int.mul_one, Int.mul_assoc, Int.mul_comm, Int.mul_left_comm])
    rw [ebw] at bw
    have r2 := F_reqT (j := 11) (t := bt a b * t1 * t2) (b := 1 * c1 * c2)
    apply w_seq
    apply w_s
    case h => repeat' (first | exact m1 | exact m2 | exact bw | exact BinX.own rfl rfl N1.ok d1 rfl | exact BinX.own rfl rfl N2.ok d2 rfl | exact BinX.own rfl rfl rfl r2 rfl | (with_reducible apply yv_meth) | walk_at "evx")
    show WS _ _ _ _
    have f1 := F_ltimes (j := 10) (x := l) (y := a) (by decide)
    have f2 := F_ltimes (j := 10) (x := mul8 l a) (y := m) (by decide)
    have f3 := F_ltimes (j := 10) (x := l) (y := b) (by decide)
    have f4 := F_ltimes (j := 10) (x := mul8 l b) (y := m) (by decide)
    apply w_seq
    apply w_s
    case h => repeat' (first | exact f1 | exact f2 | exact f3 | exact f4 | walk_at "ev1")
    show WS _ _ [.v .pot, .v (.str sh), .none, .none, .none, .none, .none, .v a.tup, .v b.tup, .v l.tup, .v m.tup, .v (E1 1 a), .v (E1 1 b), .v (RI (bt a b)), .v e1, .v e2, .v (mul8 (mul8 l a) m).tup, .v (mul8 (mul8 l b) m).tup] _
    have fe1 := F_leight (j := 4) (x := mul8 (mul8 l a) m) (by decide)
    have fe2 := F_leight (j := 4) (x := mul8 (mul8 l b) m) (by decide)
    have fl := F_leight (j := 4) (x := l) (by decide)
    have fm := F_leight (j := 4) (x := m) (by decide)
    have p1 := F_emul_raw (j := 7) (b := 1) (c := 1) (x := l) (y := a) (by decide) (by decide)
    rw [one1, EE_one] at p1
    have p2 := F_emul_raw (j := 7) (b := 1) (c := 1) (x := mul8 l a) (y := m) (by decide) (by decide)
    rw [one1, EE_one] at p2
    have re := F_eeq (j := 11) (b := 1) (x := mul8 (mul8 l a) m)
    apply w_seq
    apply w_s
    case h => repeat' (first | exact fe1 | exact fl | exact fm | exact BinX.own rfl rfl rfl p1 rfl | exact BinX.own rfl rfl rfl p2 rfl | exact BinX.own rfl rfl rfl re rfl | walk_at "evx")
    show WS _ _ _ _
    have Po1 := (Pl.mul Pa).mul Pm
    have Po2 := (Pl.mul Pb).mul Pm
    have bw2 := F_between_raw (j := 7) (b := 1) (c := 1) (x := mul8 (mul8 l a) m) (y := mul8 (mul8 l b) m) (by decide) (by decide) (by decide) (by decide) Po1 Po2
    have ebt : bt (mul8 (mul8 l a) m) (mul8 (mul8 l b) m) = bt a b * (dot4 l.p l.p * dot4 m.p m.p) := by
      rw [bt_right m _ _ Pm.2, bt_left l _ _ Pl.2]
      simp only [Int.mul_assoc, Int.mul_comm, Int.mul_left_comm]
    rw [one1, RT_one, ebt] at bw2
    have s1 := F_lsize (j := 11) (x := l) (by decide)
    have s2 := F_lsize (j := 11) (x := m) (by decide)
    haveI ibt : Bd (bt a b) (6 + 6 + 3) := Bd.bt
    have d3 := F_mul_rawI (j := 9) (a := bt a b) (b := 1) (c := dot4 l.p l.p * dot4 m.p m.p) (by decide) (by decide)
    rw [RT_one] at d3
    have r3 := F_req (j := 11) (t := bt a b * (dot4 l.p l.p * dot4 m.p m.p)) (b := 1)
    apply w_seq
    apply w_s
    case h => repeat' (first | exact fe1 | exact fe2 | exact bw2 | exact s1 | exact s2 | exact BinX.own rfl rfl rfl d3 rfl | exact BinX.own rfl rfl rfl r3 rfl | walk_at "evx")
    show WS _ _ _ _
    apply w_seq
    apply w_set
    apply w_call
    apply w_va
    case h => walk_at "ev"
    refine fp_mono (F_lhinge (j := 9)) fun r hr => ?_
    obtain ⟨h, rfl, Bh, Ph, hz, hd⟩ := hr
    show WS _ _ [.v .pot, .v (.str sh), .v h.tup, .none, .none, .none, .none, .v a.tup, .v b.tup, .v l.tup, .v m.tup, .v (E1 1 a), .v (E1 1 b), .v (RI (bt a b)), .v e1, .v e2, .v (mul8 (mul8 l a) m).tup, .v (mul8 (mul8 l b) m).tup] _
    have fh := F_leight (j := 4) (x := h) (by decide)
    have p3 := F_emul_raw (j := 7) (b := 1) (c := 1) (x := a) (y := h) (by decide) (by decide)
    rw [one1, EE_one] at p3
    apply w_seq
    apply w_s
    case h => repeat' (first | exact fh | exact BinX.own rfl rfl rfl p3 rfl | walk_at "evx")
    show WS _ _ [.v .pot, .v (.str sh), .v h.tup, .v (E1 1 (mul8 a h)), .none, .none, .none, .v a.tup, .v b.tup, .v l.tup, .v m.tup, .v (E1 1 a), .v (E1 1 b), .v (RI (bt a b)), .v e1, .v e2, .v (mul8 (mul8 l a) m).tup, .v (mul8 (mul8 l b) m).tup] _
    apply w_seq
    apply w_set
    apply w_tup
    apply w_cons; refine w_drawR (j := 11) rfl (by decide) (by decide) fun v1 l1 u1 => ?_
    apply w_cons; refine w_drawR (j := 11) rfl (by decide) (by decide) fun v2 l2 u2 => ?_
    apply w_cons; apply w_bin; apply w_v yv_c; refine w_draw (j := 11) rfl (by decide) (by decide) fun v3 l3 u3 => ⟨_, rfl, ?_⟩
    apply w_nil
    refine ⟨rfl, ?_⟩
    show WS _ _ [.v .pot, .v (.str sh), .v h.tup, .v (E1 1 (mul8 a h)), .v (.tup [.int (v1 - 2), .int (v2 - 2), .int (1 + v3)]), .none, .none, .v a.tup, .v b.tup, .v l.tup, .v m.tup, .v (E1 1 a), .v (E1 1 b), .v (RI (bt a b)), .v e1, .v e2, .v (mul8 (mul8 l a) m).tup, .v (mul8 (mul8 l b) m).tup] _
    have w1 : ∃ w, w = v1 - 2 ∧ -2 ≤ w ∧ w ≤ 2 := ⟨_, rfl, by omega, by omega⟩
    obtain ⟨w1, e1', a1, b1⟩ := w1
    have w2 : ∃ w, w = v2 - 2 ∧ -2 ≤ w ∧ w ≤ 2 := ⟨_, rfl, by omega, by omega⟩
    obtain ⟨w2, e2', a2, b2⟩ := w2
    have w3 : ∃ w, w = 1 + v3 ∧ 1 ≤ w ∧ w ≤ 3 := ⟨_, rfl, by omega, by omega⟩
    obtain ⟨w3, e3', a3, b3⟩ := w3
    rw [← e1', ← e2', ← e3']
    haveI j1 : Bd w1 6 := bd6 (by omega) (by omega)
    haveI j2 : Bd w2 6 := bd6 (by omega) (by omega)
    haveI j3 : Bd w3 6 := bd6 (by omega) (by omega)
    have hg : ∃ g : Q8, g = ⟨⟨2, 0, 0, 0⟩, ⟨0, w1, w2, w3⟩⟩ := ⟨_, rfl⟩
    obtain ⟨g, eg⟩ := hg
    have g0 : g.q.a = 0 := by rw [eg]
    haveI Bg : B8 g 6 := by
      rw [eg]
      exact b8_mk (b4_mk (bd6 (by decide) (by decide)) (bd6 (by decide) (by decide)) (bd6 (by decide) (by decide)) (bd6 (by decide) (by decide))) (b4_mk (bd6 (by decide) (by decide)) j1 j2 j3)
    have Pg : Pose g := by
      rw [eg]
      refine ⟨by simp [Q4.l], ?_⟩
      simp [dot4]
    have go := F_go_pose (j := 6) (a := w1) (b := w2) (c := w3) (by decide)
    rw [← eg] at go
    have q4 := F_between_raw (j := 7) (b := 1) (c := 1) (x := a) (y := mul8 a h) (by decide) (by decide) (by decide) (by decide) Pa (Pa.mul Ph)
    rw [one1, RT_one, bt_turn a h Pa, hz, Int.mul_zero] at q4
    have q5 := F_between_raw (j := 7) (b := 1) (c := 1) (x := mul8 a h) (y := a) (by decide) (by decide) (by decide) (by decide) (Pa.mul Ph) Pa
    rw [one1, RT_one, bt_comm, bt_turn a h Pa, hz, Int.mul_zero] at q5
    have p4 := F_emul (j := 7) (b := 1) (c := 2) (x := a) (y := g) (by decide) (by decide)
    rw [EE_one a] at p4
    have q6 := F_between (j := 7) (b := 1) (c := 1 * 2) (x := a) (y := mul8 a g) (by decide) (by decide) Pa (Pa.mul Pg)
    rw [EE_one a, RT_z (by rw [bt_turn a g Pa, g0, Int.mul_zero]) (by decide)] at q6
    apply w_seq
    apply w_s
    case h => repeat' (first | exact q4 | exact q5 | exact q6 | exact go | exact BinX.own rfl rfl rfl p4 rfl | exact BinX.own rfl rfl rfl r0 rfl | walk_at "evx")
    show WS _ _ _ _
    have p5 := F_emul (j := 7) (b := 2) (c := 1) (x := g) (y := a) (by decide) (by decide)
    rw [EE_one a] at p5
    have q7 := F_between (j := 7) (b := 2 * 1) (c := 1) (x := mul8 g a) (y := a) (by decide) (by decide) (Pg.mul Pa) Pa
    rw [EE_one a, RT_z (by rw [bt_turn' a g Pa, g0, Int.mul_zero]) (by decide)] at q7
    have n1 := F_first (j := 8) (x := a)
    have n2 := F_norm_four (j := 6) (x := a.p) (by decide)
    have n3 := F_lsize (j := 11) (x := a) (by decide)
    have r4 := F_req (j := 11) (t := dot4 a.p a.p) (b := 1)
    apply w_seq
    apply w_s
    case h => repeat' (first | exact q7 | exact go | exact n1 | exact n2 | exact n3 | exact BinX.own rfl rfl rfl p5 rfl | exact BinX.own rfl rfl rfl r0 rfl | exact BinX.own rfl rfl rfl r4 rfl | (with_reducible apply yv_meth) | walk_at "evx")
    show WS _ _ _ _
    apply w_seq
    apply w_s
    case h => walk_at "ev"
    show WS _ _ [.v .pot, .v (.str sh), .v h.tup, .v (E1 1 (mul8 a h)), .v (.tup [.int w1, .int w2, .int w3]), .v (.tup [.int h.p.b, .int h.p.c, .int h.p.d]), .none, .v a.tup, .v b.tup, .v l.tup, .v m.tup, .v (E1 1 a), .v (E1 1 b), .v (RI (bt a b)), .v e1, .v e2, .v (mul8 (mul8 l a) m).tup, .v (mul8 (mul8 l b) m).tup] _
    apply w_seq
    apply w_set
    apply w_binX
    apply w_call
    apply w_cons
    apply w_call
    apply w_cons; apply w_v (yv_var rfl)
    apply w_cons; apply w_bin; apply w_v yv_c; refine w_draw (j := 11) rfl (by decide) (by decide) fun k kl ku => ⟨_, rfl, ?_⟩
    apply w_nil
    have k1 : ∃ w, w = 1 + k ∧ 1 ≤ w ∧ w ≤ 3 := ⟨_, rfl, by omega, by omega⟩
    obtain ⟨k1, ek, a4, b4⟩ := k1
    rw [← ek]
    haveI j4 : Bd k1 6 := bd6 (by omega) (by omega)
    have by1 := F_lby (j := 11) (a := h.p.b) (b := h.p.c) (c := h.p.d) (k := k1) (by decide)
    refine fp_v by1 ?_
    apply w_nil
    have hs : ∃ s : Q8, s = ⟨⟨2, 0, 0, 0⟩, ⟨0, h.p.b * k1, h.p.c * k1, h.p.d * k1⟩⟩ := ⟨_, rfl⟩
    obtain ⟨s, es⟩ := hs
    have gs := F_go_pose (j := 6) (a := h.p.b * k1) (b := h.p.c * k1) (c := h.p.d * k1) (by decide)
    rw [← es] at gs
    refine fp_v gs ?_
    apply w_call
    apply w_cons
    apply w_bin
    apply w_tup
    apply w_cons; refine w_drawR (j := 11) rfl (by decide) (by decide) fun c cl cu => ?_
    apply w_nil
    refine ⟨rfl, ?_⟩
    apply w_v (yv_var rfl)
    refine ⟨_, yo_addT rfl rfl rfl rfl, ?_⟩
    apply w_nil
    have c5 : ∃ w, w = c - 2 ∧ -2 ≤ w ∧ w ≤ 2 := ⟨_, rfl, by omega, by omega⟩
    obtain ⟨c5, ec, a5, b5⟩ := c5
    rw [← ec]
    haveI j5 : Bd c5 6 := bd6 (by omega) (by omega)
    have ht : ∃ t : Q8, t = ⟨⟨c5, h.p.b, h.p.c, h.p.d⟩, ⟨0, 0, 0, 0⟩⟩ := ⟨_, rfl⟩
    obtain ⟨t, et⟩ := ht
    have t0 : 0 < dot4 t.p t.p := by
      rw [et]
      have := msn c5
      simp only [dot4]
      omega
    have tn : decide ([c5, h.p.b, h.p.c, h.p.d] = [0, 0, 0, 0]) = false := decide_eq_false (by have := size_ne t0; rw [et] at this; exact this)
    have ts := F_turn_pose (j := 6) (a := c5) (b := h.p.b) (c := h.p.c) (d := h.p.d) (by decide) tn
    rw [← et] at ts
    refine fp_v ts ?_
    haveI Bs : B8 s 12 := by
      rw [es]
      exact b8_mk (b4_mk ⟨by decide⟩ ⟨by decide⟩ ⟨by decide⟩ ⟨by decide⟩) (b4_mk ⟨by decide⟩ (Bd.mul (m := 6) (n := 6)) (Bd.mul (m := 6) (n := 6)) (Bd.mul (m := 6) (n := 6)))
    haveI Bt : B8 t 6 := by
      rw [et]
      exact b8_mk (b4_mk j5 Bh.p.b Bh.p.c Bh.p.d) (b4_mk ⟨by decide⟩ ⟨by decide⟩ ⟨by decide⟩ ⟨by decide⟩)
    have Ps' : Pose s := by
      rw [es]
      refine ⟨by simp [Q4.l], ?_⟩
      simp [dot4]
    have Pt' : Pose t := ⟨size_ne t0, by rw [et]; simp [dot4]⟩
    have sc := F_emul (j := 7) (b := 2) (c := 1) (x := s) (y := t) (by decide) (by decide)
    refine ⟨_, BinX.own rfl rfl rfl sc rfl, ?_⟩
    show WS _ _ [.v .pot, .v (.str sh), .v h.tup, .v (E1 1 (mul8 a h)), .v (.tup [.int w1, .int w2, .int w3]), .v (.tup [.int h.p.b, .int h.p.c, .int h.p.d]), .v (EE (2 * 1) (mul8 s t)), .v a.tup, .v b.tup, .v l.tup, .v m.tup, .v (E1 1 a), .v (E1 1 b), .v (RI (bt a b)), .v e1, .v e2, .v (mul8 (mul8 l a) m).tup, .v (mul8 (mul8 l b) m).tup] _
    have Pst := Ps'.mul Pt'
    have sq : (mul8 s t).q.a ≠ 0 := by
      have e : (mul8 s t).q.a = -(k1 * (h.p.b * h.p.b + h.p.c * h.p.c + h.p.d * h.p.d)) := by
        rw [es, et]
        simp only [mul8, add4, mul4]
        grind
      have := Int.mul_pos (show 0 < k1 by omega) hd
      rw [e]
      omega
    have p6 := F_emul (j := 7) (b := 1) (c := 2 * 1) (x := a) (y := mul8 s t) (by decide) (by decide)
    rw [EE_one a] at p6
    have q8 := F_between (j := 7) (b := 1) (c := 1 * (2 * 1)) (x := a) (y := mul8 a (mul8 s t)) (by decide) (by decide) Pa (Pa.mul Pst)
    rw [EE_one a] at q8
    have z1 : bt a (mul8 a (mul8 s t)) ≠ 0 := by
      rw [bt_turn a _ Pa]
      intro e
      rcases Int.mul_eq_zero.mp e with e | e
      · have := size_pos Pa.1; omega
      · exact sq e
    have r5 := F_rne0 (j := 11) (t := bt a (mul8 a (mul8 s t))) (b := 1 * (1 * (2 * 1))) (by decide) z1
    have p7 := F_emul (j := 7) (b := 2 * 1) (c := 1) (x := mul8 s t) (y := b) (by decide) (by decide)
    rw [EE_one b] at p7
    have q9 := F_between (j := 7) (b := 2 * 1 * 1) (c := 1) (x := mul8 (mul8 s t) b) (y := b) (by decide) (by decide) (Pst.mul Pb) Pb
    rw [EE_one b] at q9
    have z2 : bt (mul8 (mul8 s t) b) b ≠ 0 := by
      rw [bt_turn' b _ Pb]
      intro e
      rcases Int.mul_eq_zero.mp e with e | e
      · have := size_pos Pb.1; omega
      · exact sq e
    have r6 := F_rne0 (j := 11) (t := bt (mul8 (mul8 s t) b) b) (b := 2 * 1 * 1 * 1) (by decide) z2
    apply w_seq
    apply w_s
    case h => repeat' (first | exact q8 | exact q9 | exact BinX.own rfl rfl rfl p6 rfl | exact BinX.own rfl rfl rfl p7 rfl | exact BinX.own rfl rfl rfl r5 rfl | exact BinX.own rfl rfl rfl r6 rfl | walk_at "evx")
    show WS _ _ _ _
    apply w_ret
    apply w_v
    case h => repeat' (first | exact q1 | exact hS _ rfl rfl | exact BinX.own rfl rfl rfl r1 rfl | exact BinX.prim rfl (yo_eqS rfl rfl okS) | walk_at "evx")
    exact rfl




/-! pots, the whole law -/
theorem s1_of {d : SD} {F : FT} {fr f : Frm} {r r' : RV} (h : S1 d F fr (.rt r f)) (e : r = r') : S1 d F fr (.rt r' f) := e ▸ h
theorem F_pot {j : Nat} {ns : List Int} {k : Nat} (hk : k ≤ 2) : ∃ x y : Int, 0 ≤ x ∧ 0 ≤ y ∧ Fv 56 (runF (j + 1)) [.scr (ns.map .int), .int (Int.ofNat k)] (.fr [.int x, .int y]) := by
  haveI bk : Bd (Int.ofNat k) 6 := ⟨by show k < 64; omega⟩
  haveI bpm : Bd 40014 24 := ⟨by decide⟩
  haveI bpk : Bd 6011 24 := ⟨by decide⟩
  haveI bck : Bd 409 24 := ⟨by decide⟩
  have fin : ∀ c : Int, 0 ≤ c → ∃ x y : Int, 0 ≤ x ∧ 0 ≤ y ∧ ∃ f, S1 (dRet (dLst (dArgs [dBlt oMax (dArgs [dC (.int 0), dBin bSub (dVar 2) (dBin bPow (dC (.int 10)) (dC (.int 18)))]), dBin bAdd (dBin bMod (dBlt oInt (dArgs [dBin bAdd (dBin bAdd (dBinO bMul TMul some (dBin bMod (dBlt oInt (dArgs [dVar 2])) (dC (.int 2147483549))) (dC (.int 40014))) (dBinO bMul TMul some (dC (.int 6011)) (dVar 1))) (dC (.int 97))])) (dC (.int 2147483563))) (dC (.int 1))]))) (runF j) [.v (.scr (ns.map .int)), .v (.int (Int.ofNat k)), .v (.int c)] (.rt (.fr [.int x, .int y]) f) := by
    intro c hc
    haveI b1 : Bd (c.fmod 2147483549) 32 := bd_fmod (by decide) (by decide)
    refine ⟨match ltI 0 (c - 10 ^ Int.toNat 18) with | true => c - 10 ^ Int.toNat 18 | false => 0, (c.fmod 2147483549 * 40014 + 6011 * Int.ofNat k + 97).fmod 2147483563 + 1, max0_nn _, ?_, ?_⟩
    case refine_2 =>
      apply Exists.intro
      apply s1_of
      case h =>
        apply ys_ret
        walk_at "ev"
      case e => exact rfl
    · have := Int.fmod_nonneg_of_pos (c.fmod 2147483549 * 40014 + 6011 * Int.ofNat k + 97) (show (0 : Int) < 2147483563 by decide)
      exact Int.add_nonneg this (by decide)
  have hl : oLen [.scr (ns.map EV.int)] = some (.v (.int ((ns.map EV.int).length : Int))) := rfl
  by_cases h : k < ns.length
  · obtain ⟨i, hi⟩ := ix_scr h
    obtain ⟨x, y, x0, y0, f, q⟩ := fin _ (abs_nn i)
    refine ⟨x, y, x0, y0, ?_⟩
    have d1 : decide (Int.ofNat k < ((ns.map EV.int).length : Int)) = true := decide_eq_true (by rw [List.length_map]; exact Int.ofNat_lt.mpr h)
    apply yfv_fn (D := D56) rfl rfl
    case hf => walk_at "fr"
    case g =>
      unfold D56
      apply ys_seq
      · apply ys_set
        · apply yv_ife
          · repeat' (first | exact hl | walk_at "ev1")
          · exact ydc d1
          · apply ycondV_t
            apply yv_blt
            · apply yva_cons
              · exact yv_bin (yv_var rfl) (yv_var rfl) hi
              · exact yva_nil
            · exact rfl
        · walk_at "fr"
      · exact q
    case e => exact rfl
  · obtain ⟨x, y, x0, y0, f, q⟩ := fin (409 * Int.ofNat k + 157) (by have := Int.natCast_nonneg k; show (0 : Int) ≤ 409 * ((k : Nat) : Int) + 157; omega)
    refine ⟨x, y, x0, y0, ?_⟩
    have d1 : decide (Int.ofNat k < ((ns.map EV.int).length : Int)) = false := decide_eq_false (by rw [List.length_map]; intro z; exact h (Int.ofNat_lt.mp z))
    apply yfv_fn (D := D56) rfl rfl
    case hf => walk_at "fr"
    case g =>
      unfold D56
      apply ys_seq
      · apply ys_set
        · apply yv_ife
          · repeat' (first | exact hl | walk_at "ev1")
          · exact ydc d1
          · walk_at "ev"
        · walk_at "fr"
      · exact q
    case e => exact rfl
theorem law_runs (ns : List Int) : runF 14 57 [.scr (ns.map EV.int)] isT (fun _ => false) = true := by
  have hl : oLen [.scr (ns.map EV.int)] = some (.v (.int ((ns.map EV.int).length : Int))) := rfl
  obtain ⟨m, ⟨m1, m2⟩, q, h1, h2⟩ := cells (l := (ns.map EV.int).length) 3 (by decide)
  obtain ⟨es, e1, e2, e3⟩ := rng_short m1 (Int.le_trans m2 (by decide))
  have go : Fp 57 (runF 14) [.scr (ns.map EV.int)] (fun r => r = .v (.bl true)) := by
    apply fp_fn (D := D57) rfl rfl
    case hf => walk_at "fr"
    case g =>
      unfold D57
      apply w_ret
      apply w_blt
      apply w_cons
      apply w_lc (P := fun x => x = .bl true)
      case hi => repeat' (first | exact hl | exact h1 | exact h2 | exact e1 | walk_at "ev1")
      case hp => exact rfl
      case hf => exact e2
      case hw => walk_at "fr"
      case ht =>
        intro e he
        obtain ⟨k, hk, rfl⟩ := e3 e he
        refine ⟨[.v (.scr (ns.map EV.int)), .v (.int (Int.ofNat k))], rfl, ?_⟩
        obtain ⟨x, y, x0, y0, p⟩ := F_pot (j := 12) (ns := ns) hk
        apply w_call
        apply w_cons
        apply w_pot
        apply w_v
        case h => repeat' (first | exact p | walk_at "ev1")
        refine ⟨x, y, rfl, x0, y0, ?_⟩
        apply w_nil
        refine fp_mono law_right fun r hr => ?_
        subst hr
        exact ⟨rfl, rfl, rfl⟩
      case q =>
        intro out ho
        apply w_nil
        exact ⟨_, yo_all ho, rfl⟩
  exact go.run _ _ fun r hr => by subst hr; rfl


end K81
open PySem PySem.W PySem.Calls PyProof.Rows
theorem K81.all_holds (law_runs : ∀ ns : List Int, K81.runF 14 57 [.scr (ns.map Ev.EV.int)] Ev.isT (fun _ => false) = true) : PySem.Challenge.rw_pathshapes_k81_whole_between_of_poses.Holds := by
  w_on
  o_law
  refine Ev.head_imp (r := OpenLaw.row PySem.Challenge.rw_pathshapes_k81_whole_between_of_poses) (q := view (OpenLaw.row PySem.Challenge.rw_pathshapes_k81_whole_between_of_poses).prog [77]) (H := K81.hk) (ob := K81.ob) (N := 6000) (M := 6000) (loose := K81.loose) (d := HandSHeadRun.topDef (OpenLaw.row PySem.Challenge.rw_pathshapes_k81_whole_between_of_poses).prog 77) (kwd := []) K81.ob_eq (Nat.le_refl _) K81.run
    (by kernel_rfl) (by kernel_rfl) (by kernel_rfl) (by rfl) (by first | assumption | decide +kernel) (by decide +kernel) ⟨rfl, rfl, rfl, rfl, rfl, by decide +kernel⟩ ?hw ?hc
  case hw => w_witness2
  case hc =>
    refine Ev.walk_ev (l := PySem.Challenge.rw_pathshapes_k81_whole_between_of_poses) (m := 63) (k := 4 * 14) (n := 57) (F := K81.runF 14) rfl (by decide) (by kernel_rfl) ⟨by decide, by decide⟩ law_runs ?_
    rintro w mg fa h ⟨K, KX, c⟩ G hm
    rw [show (HandSHeadRun.topDef (OpenLaw.row PySem.Challenge.rw_pathshapes_k81_whole_between_of_poses).prog 77).name = _ from K81.law_name] at hm
    exact ⟨K, K81.WW K, KX, rfl, fun base _ _ => K81.law_gives KX G c hm base⟩

theorem PySem.Challenge.cw_pathshapes_k81_whole_between_of_poses_holds : PySem.Challenge.rw_pathshapes_k81_whole_between_of_poses.Holds := by
  exact K81.all_holds K81.law_runs
