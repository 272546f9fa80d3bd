import PyProof.Rows.All
import Wide.All
import OpenK.AllK
import Wide.FinOn
import HandS.ForMost
import HandS.Exc
import HandS.ExcOwn
import HandS.TryOnly
import HandS.WordsExc
import HandS.CallSlots
import HandS.IsInst
import HandS.Gcd
import HandS.WideBits
import HandS.Defaults
import HandS.ExcIs
import KE.KOpsOwn
import HandS.EndBits
import HandS.OwnEq
import HandS.Zip
import HandS.TupAny
import HandS.Deep
import HandS.Steps
import KE.GoesMore
import KE.GoesZip
import HandS.Style
import KE.GoesEnum
import PyProof.NeKinds
import HandS.IterVal
import HandS.Text
import HandS.Rev
import HandS.TupMul
import HandS.ExcInit
import HandS.ExcSuper
import HandS.ExcField
import HandS.Nested
import KE.KExcSuper
import PyProof.Rows.RegStrFacts
import PyProof.ListStr
import KE.KRevSl
import HandS.Replace
import PyProof.Rows.StrFirst
import HandS.Star
import PySem.Challenge.RW_wordweight_k10_weights_of_machines
set_option Elab.async false
set_option linter.all false
set_option maxRecDepth 100000
set_option maxHeartbeats 2000000
/-! Pl: Python's values as trees; the hand layer's readings told by plain functions over an environment of trees. -/
namespace Pl
open PySem L2

/-- a Python value as a tree: nothing in it changes -/
inductive D where
  | non | bl (b : Bool) | int (i : Int) | str (x : Str)
  | tup (xs : List D) | lst (xs : List D) | dct (ks : List Key) (xs : List D) | obj (c : Nat) (xs : List D)

/-- a class of the program: where it stands, its fields in the order of its making -/
structure CI where
  adr : Addr
  names : List Str

/-- the heap has grown -/
def Gr (H H' : Hp) : Prop := ∀ a o, H a = some o → H' a = some o
theorem Gr.rfl {H : Hp} : Gr H H := fun _ _ h => h
theorem Gr.trans {H H1 H2 : Hp} (a : Gr H H1) (b : Gr H1 H2) : Gr H H2 := fun x o h => b x o (a x o h)
theorem Gr.new {H : Hp} {p : Addr} {o : HO} (h : H p = none) : Gr H (upd H p o) := fun a u e => by
  rw [upd_ne (ne_of_none e h)]; exact e
theorem Gr.free {H H' : Hp} (g : Gr H H') {a : Addr} (h : H' a = none) : H a = none := by
  cases e : H a with
  | none => rfl
  | some o => rw [g a o e] at h; cases h
theorem Gr.rd {H H' : Hp} (g : Gr H H') {a : Addr} {u : HO} (h : Rd H a u) : Rd H' a u :=
  h.elim (fun h => .inl (g a _ h)) fun ⟨o, h⟩ => .inr ⟨o, g a _ h⟩
theorem Gr.sqL {K : PySem.W.Frag} {H H' : Hp} (g : Gr H H') {a : Addr} {xs : List V} (h : SqL K H a xs) : SqL K H' a xs :=
  h.elim (fun h => .inl (g.rd h)) .inr
theorem Gr.sqT {K : PySem.W.Frag} {H H' : Hp} (g : Gr H H') {a : Addr} {xs : List V} (h : SqT K H a xs) : SqT K H' a xs :=
  h.elim (fun h => .inl (g.rd h)) .inr

mutual
/-- the tree d stands at the value v, told by the part F of the heap that does not change any more -/
inductive Rep (K : PySem.W.Frag) (G : Nat → Option CI) (F : Hp) : D → V → Prop
  | non : Rep K G F .non .non
  | bl (b : Bool) : Rep K G F (.bl b) (.bl b)
  | int (i : Int) : Rep K G F (.int i) (.int i)
  | str (x : Str) : Rep K G F (.str x) (.str x)
  | tup {ds : List D} {a : Addr} {vs : List V} : SqT K F a vs → Reps K G F ds vs → Rep K G F (.tup ds) (.ref a)
  | lst {ds : List D} {a : Addr} {vs : List V} : SqL K F a vs → Reps K G F ds vs → Rep K G F (.lst ds) (.ref a)
  | dct {ks : List Key} {ds : List D} {a : Addr} {vs : List V} : F a = some (.dK (ks.zip vs)) → ks.length = vs.length → Reps K G F ds vs → Rep K G F (.dct ks ds) (.ref a)
  | obj {c : Nat} {i : CI} {ds : List D} {a dx : Addr} {vs : List V} : G c = some i → F a = some (.ins i.adr dx (i.names.zip vs)) → i.names.length = vs.length → Reps K G F ds vs → Rep K G F (.obj c ds) (.ref a)
inductive Reps (K : PySem.W.Frag) (G : Nat → Option CI) (F : Hp) : List D → List V → Prop
  | nil : Reps K G F [] []
  | cons {d : D} {v : V} {ds : List D} {vs : List V} : Rep K G F d v → Reps K G F ds vs → Reps K G F (d :: ds) (v :: vs)
end

section
variable {K : PySem.W.Frag} {G : Nat → Option CI} {F F' : Hp}
mutual
theorem Rep.gr (g : Gr F F') : ∀ {d : D} {v : V}, Rep K G F d v → Rep K G F' d v
  | _, _, .non => .non
  | _, _, .bl b => .bl b
  | _, _, .int i => .int i
  | _, _, .str x => .str x
  | _, _, .tup h r => .tup (g.sqT h) (Reps.gr g r)
  | _, _, .lst h r => .lst (g.sqL h) (Reps.gr g r)
  | _, _, .dct h l r => .dct (g _ _ h) l (Reps.gr g r)
  | _, _, .obj c h l r => .obj c (g _ _ h) l (Reps.gr g r)
theorem Reps.gr (g : Gr F F') : ∀ {ds : List D} {vs : List V}, Reps K G F ds vs → Reps K G F' ds vs
  | _, _, .nil => .nil
  | _, _, .cons h r => .cons (Rep.gr g h) (Reps.gr g r)
end
theorem Reps.length : ∀ {ds : List D} {vs : List V}, Reps K G F ds vs → ds.length = vs.length
  | _, _, .nil => rfl
  | _, _, .cons _ r => by rw [List.length_cons, List.length_cons, Reps.length r]
theorem Reps.get : ∀ {ds : List D} {vs : List V} {i : Nat} {d : D}, Reps K G F ds vs → ds[i]? = some d → ∃ v, vs[i]? = some v ∧ Rep K G F d v
  | _, _, _, _, .nil, e => by simp at e
  | _, _, 0, _, .cons h _, e => by simp at e; subst e; exact ⟨_, rfl, h⟩
  | _, _, i + 1, _, .cons _ r, e => by
    obtain ⟨v, h1, h2⟩ := Reps.get (i := i) r (by simpa using e)
    exact ⟨v, by simpa using h1, h2⟩
theorem Reps.getV : ∀ {ds : List D} {vs : List V} {i : Nat} {v : V}, Reps K G F ds vs → vs[i]? = some v → ∃ d, ds[i]? = some d ∧ Rep K G F d v
  | _, _, _, _, .nil, e => by simp at e
  | _, _, 0, _, .cons h _, e => by simp at e; subst e; exact ⟨_, rfl, h⟩
  | _, _, i + 1, _, .cons _ r, e => by
    obtain ⟨v, h1, h2⟩ := Reps.getV (i := i) r (by simpa using e)
    exact ⟨v, by simpa using h1, h2⟩
theorem Reps.append : ∀ {ds es : List D} {vs us : List V}, Reps K G F ds vs → Reps K G F es us → Reps K G F (ds ++ es) (vs ++ us)
  | _, _, _, _, .nil, s => s
  | _, _, _, _, .cons h r, s => .cons h (Reps.append r s)
theorem Reps.set {d : D} {v : V} (h : Rep K G F d v) : ∀ {ds : List D} {vs : List V} (i : Nat), Reps K G F ds vs → Reps K G F (ds.set i d) (vs.set i v)
  | _, _, _, .nil => .nil
  | _, _, 0, .cons _ r => .cons h r
  | _, _, i + 1, .cons q r => .cons q (Reps.set h i r)
theorem Reps.take : ∀ {ds : List D} {vs : List V} (n : Nat), Reps K G F ds vs → Reps K G F (ds.take n) (vs.take n)
  | _, _, 0, _ => by rw [List.take_zero, List.take_zero]; exact .nil
  | _, _, _ + 1, .nil => by rw [List.take_nil, List.take_nil]; exact .nil
  | _, _, n + 1, .cons h r => by rw [List.take_succ_cons, List.take_succ_cons]; exact .cons h (Reps.take n r)
theorem Reps.drop : ∀ {ds : List D} {vs : List V} (n : Nat), Reps K G F ds vs → Reps K G F (ds.drop n) (vs.drop n)
  | _, _, 0, r => by rw [List.drop_zero, List.drop_zero]; exact r
  | _, _, _ + 1, .nil => by rw [List.drop_nil, List.drop_nil]; exact .nil
  | _, _, n + 1, .cons _ r => by rw [List.drop_succ_cons, List.drop_succ_cons]; exact Reps.drop n r
theorem Reps.reverse : ∀ {ds : List D} {vs : List V}, Reps K G F ds vs → Reps K G F ds.reverse vs.reverse
  | _, _, .nil => .nil
  | _, _, .cons h r => by rw [List.reverse_cons, List.reverse_cons]; exact Reps.append (Reps.reverse r) (.cons h .nil)
end

/-! ### the frame's environment -/
/-- a thing that only one name of the frame holds, and that may change -/
inductive OD where
  | lst (ds : List D) | dct (ks : List Key) (ds : List D) | ins (c : Nat) (ds : List D)
def OD.toD : OD → D
  | .lst ds => .lst ds
  | .dct ks ds => .dct ks ds
  | .ins c ds => .obj c ds
/-- what a name holds: a tree; an own thing; a caller's own thing, lent -/
inductive PV where
  | val (d : D) | own (o : OD) | bor (o : OD) | adr (a : Addr)
abbrev En := List (Option PV)
def En.at (ρ : En) (i : Nat) : Option PV := ρ.getD i none
/-- what stands in the i-th slot of the frame -/
def sl (σ : St) (i : Nat) : Option V := σ.getD i none
theorem sl_some {σ : St} {i : Nat} {v : V} (h : sl σ i = some v) : σ[i]? = some (some v) := by
  unfold sl at h
  rw [List.getD_eq_getElem?_getD] at h
  cases e : σ[i]? with
  | none => rw [e] at h; cases h
  | some o => rw [e] at h; exact congrArg some h
theorem sl_of {σ : St} {i : Nat} {v : V} (h : σ[i]? = some (some v)) : sl σ i = some v := by
  unfold sl
  rw [List.getD_eq_getElem?_getD, h]; rfl

def OwnAt (K : PySem.W.Frag) (G : Nat → Option CI) (F H : Hp) (a : Addr) : OD → Prop
  | .lst ds => ∃ vs, H a = some (.lst vs) ∧ Reps K G F ds vs
  | .dct ks ds => ∃ vs, H a = some (.dK (ks.zip vs)) ∧ ks.length = vs.length ∧ Reps K G F ds vs
  | .ins c ds => ∃ i dx vs, G c = some i ∧ H a = some (.ins i.adr dx (i.names.zip vs)) ∧ vs.length ≤ i.names.length ∧ Reps K G F ds vs
theorem OwnAt.gr {K : PySem.W.Frag} {G : Nat → Option CI} {F F' H H' : Hp} {a : Addr} (g : Gr F F') (h : H' a = H a) : ∀ {o : OD}, OwnAt K G F H a o → OwnAt K G F' H' a o
  | .lst _, ⟨vs, e, r⟩ => ⟨vs, h.trans e, r.gr g⟩
  | .dct _ _, ⟨vs, e, l, r⟩ => ⟨vs, h.trans e, l, r.gr g⟩
  | .ins _ _, ⟨i, dx, vs, c, e, l, r⟩ => ⟨i, dx, vs, c, h.trans e, l, r.gr g⟩
theorem OwnAt.there {K : PySem.W.Frag} {G : Nat → Option CI} {F H : Hp} {a : Addr} : ∀ {o : OD}, OwnAt K G F H a o → ∃ u, H a = some u
  | .lst _, ⟨_, e, _⟩ => ⟨_, e⟩
  | .dct _ _, ⟨_, e, _⟩ => ⟨_, e⟩
  | .ins _ _, ⟨_, _, _, _, e, _⟩ => ⟨_, e⟩
/-- where an own thing may be frozen -/
def OD.full (G : Nat → Option CI) : OD → Prop
  | .ins c ds => ∃ i, G c = some i ∧ ds.length = i.names.length
  | _ => True
theorem OwnAt.rep {K : PySem.W.Frag} {G : Nat → Option CI} {F H : Hp} {a : Addr} {u : HO} (hu : H a = some u) (hF : F a = none) : ∀ {o : OD}, o.full G → OwnAt K G F H a o → Rep K G (upd F a u) o.toD (.ref a)
  | .lst _, _, ⟨vs, e, r⟩ => by rw [hu] at e; cases e; exact .lst (.of upd_same) (r.gr (Gr.new hF))
  | .dct _ _, _, ⟨vs, e, l, r⟩ => by rw [hu] at e; cases e; exact .dct upd_same l (r.gr (Gr.new hF))
  | .ins _ _, ⟨j, c', l'⟩, ⟨i, dx, vs, c, e, l, r⟩ => by
    rw [c] at c'; cases c'
    rw [hu] at e; cases e
    exact .obj c upd_same (by rw [← l', r.length]) (r.gr (Gr.new hF))

/-- a call's surroundings: the heap at its entry, the unchanging part there, where what was lent stands -/
structure Zone where
  h : Hp
  f : Hp
  pin : Nat → Option Addr

structure EnvOk (K : PySem.W.Frag) (G : Nat → Option CI) (Z : Zone) (F : Hp) (ρ : En) (σ : St) (H : Hp) : Prop where
  len : ρ.length = σ.length
  ext : Gr F H
  val : ∀ (i : Nat) (d : D), ρ.at i = some (.val d) → ∃ v, sl σ i = some v ∧ Rep K G F d v
  own : ∀ (i : Nat) (o : OD), ρ.at i = some (.own o) → ∃ l, sl σ i = some (.ref l) ∧ F l = none ∧ Z.h l = none ∧ OwnAt K G F H l o
  bor : ∀ (i : Nat) (o : OD), ρ.at i = some (.bor o) → ∃ l, sl σ i = some (.ref l) ∧ F l = none ∧ Z.pin i = some l ∧ OwnAt K G F H l o
  dis : ∀ (i j : Nat) (o o' : OD) (l : Addr), ρ.at i = some (.own o) → ρ.at j = some (.own o') → sl σ i = some (.ref l) → sl σ j = some (.ref l) → i = j
  pins : ∀ (i j : Nat) (l : Addr), Z.pin i = some l → Z.pin j = some l → i = j
  pinh : ∀ (i : Nat) (l : Addr), Z.pin i = some l → ∃ o, Z.h l = some o
  pinH : ∀ (i : Nat) (l : Addr), Z.pin i = some l → ∃ o, H l = some o
  kept : ∀ (a : Addr) (o : HO), Z.h a = some o → (∀ i, Z.pin i ≠ some a) → H a = some o
  grow : ∀ (a : Addr) (o : HO), F a = some o → Z.f a = some o ∨ Z.h a = none
  gf : Gr Z.f F
  adr : ∀ (i : Nat) (a : Addr), ρ.at i = some (.adr a) → sl σ i = some (.ref a)
end Pl
set_option Elab.async false
set_option linter.all false
set_option maxRecDepth 100000
set_option maxHeartbeats 2000000
namespace Pl
open PySem L2

section
variable {K : PySem.W.Frag} {G : Nat → Option CI} {Z : Zone} {F F' : Hp} {ρ : En} {σ : St} {H H' : Hp}

/-- an own or lent thing stands at l -/
def Ow (ρ : En) (σ : St) (l : Addr) : Prop := ∃ (i : Nat) (o : OD), (ρ.at i = some (.own o) ∨ ρ.at i = some (.bor o)) ∧ sl σ i = some (.ref l)
theorem at_set_self {ρ : En} {i : Nat} {p : Option PV} (h : i < ρ.length) : En.at (ρ.set i p) i = p := by
  unfold En.at
  rw [List.getD_eq_getElem?_getD, List.getElem?_set_self h]; rfl
theorem at_set_ne {ρ : En} {i j : Nat} {p : Option PV} (h : i ≠ j) : En.at (ρ.set i p) j = ρ.at j := by
  unfold En.at
  rw [List.getD_eq_getElem?_getD, List.getD_eq_getElem?_getD, List.getElem?_set_ne h]
theorem at_lt {ρ : En} {i : Nat} {p : PV} (h : ρ.at i = some p) : i < ρ.length := by
  rcases Nat.lt_or_ge i ρ.length with q | q
  · exact q
  · unfold En.at at h
    rw [List.getD_eq_getElem?_getD, List.getElem?_eq_none_iff.mpr q] at h
    cases h
theorem sl_set_self {σ : St} {i : Nat} {p : Option V} (h : i < σ.length) : sl (σ.set i p) i = p := by
  unfold sl
  rw [List.getD_eq_getElem?_getD, List.getElem?_set_self h]; rfl
theorem sl_set_ne {σ : St} {i j : Nat} {p : Option V} (h : i ≠ j) : sl (σ.set i p) j = sl σ j := by
  unfold sl
  rw [List.getD_eq_getElem?_getD, List.getD_eq_getElem?_getD, List.getElem?_set_ne h]

theorem EnvOk.there (e : EnvOk K G Z F ρ σ H) {l : Addr} (h : Ow ρ σ l) : F l = none ∧ ∃ u, H l = some u := by
  obtain ⟨i, o, hp | hp, hs⟩ := h
  · obtain ⟨l', h1, h2, _, h4⟩ := e.own i o hp
    rw [hs] at h1; cases h1
    exact ⟨h2, h4.there⟩
  · obtain ⟨l', h1, h2, _, h4⟩ := e.bor i o hp
    rw [hs] at h1; cases h1
    exact ⟨h2, h4.there⟩
theorem EnvOk.fresh (e : EnvOk K G Z F ρ σ H) {p : Addr} (h : H p = none) : Z.h p = none := by
  cases q : Z.h p with
  | none => rfl
  | some o =>
    by_cases hp : ∃ i, Z.pin i = some p
    · obtain ⟨i, hi⟩ := hp
      obtain ⟨u, hu⟩ := e.pinH i p hi
      rw [h] at hu; cases hu
    · have z := e.kept p o q (fun i hi => hp ⟨i, hi⟩)
      rw [h] at z; cases z
/-- the heap grew, the own things stand as they stood -/
theorem EnvOk.grown (e : EnvOk K G Z F ρ σ H) (g : Gr H H') (gF : Gr F F') (gE : Gr F' H') (hO : ∀ l, Ow ρ σ l → F' l = none) (hN : ∀ a o, F' a = some o → F a = some o ∨ H a = none) : EnvOk K G Z F' ρ σ H' where
  len := e.len
  ext := gE
  val := fun i d h => let ⟨v, h1, h2⟩ := e.val i d h; ⟨v, h1, h2.gr gF⟩
  own := fun i o h => by
    obtain ⟨l, h1, h2, h3, h4⟩ := e.own i o h
    obtain ⟨u, hu⟩ := h4.there
    exact ⟨l, h1, hO l ⟨i, o, .inl h, h1⟩, h3, h4.gr gF ((g _ _ hu).trans hu.symm)⟩
  bor := fun i o h => by
    obtain ⟨l, h1, h2, h3, h4⟩ := e.bor i o h
    obtain ⟨u, hu⟩ := h4.there
    exact ⟨l, h1, hO l ⟨i, o, .inr h, h1⟩, h3, h4.gr gF ((g _ _ hu).trans hu.symm)⟩
  dis := e.dis
  pins := e.pins
  pinh := e.pinh
  pinH := fun i l h => let ⟨u, hu⟩ := e.pinH i l h; ⟨u, g _ _ hu⟩
  kept := fun a o h n => g _ _ (e.kept a o h n)
  grow := fun a o h => (hN a o h).elim (e.grow a o) fun q => .inr (e.fresh q)
  gf := e.gf.trans gF
  adr := e.adr
/-- a new thing that will not change -/
theorem EnvOk.new (e : EnvOk K G Z F ρ σ H) {p : Addr} {o : HO} (h : H p = none) : EnvOk K G Z (upd F p o) ρ σ (upd H p o) :=
  have hF : F p = none := e.ext.free h
  e.grown (Gr.new h) (Gr.new hF) (fun a u q => by
    by_cases ha : a = p
    · subst ha; rw [upd_same] at q ⊢; exact q
    · rw [upd_ne ha] at q ⊢; exact e.ext a u q) (fun l ho => by
      obtain ⟨h1, u, h2⟩ := e.there ho
      rw [upd_ne (ne_of_none h2 h)]; exact h1) fun a u q => by
    by_cases ha : a = p
    · subst ha; exact .inr h
    · rw [upd_ne ha] at q; exact .inl q
/-- a new thing that may change -/
theorem EnvOk.newOwn (e : EnvOk K G Z F ρ σ H) {p : Addr} {o : HO} (h : H p = none) : EnvOk K G Z F ρ σ (upd H p o) :=
  e.grown (Gr.new h) Gr.rfl (e.ext.trans (Gr.new h)) (fun l ho => (e.there ho).1) fun a u q => .inl q
/-- two heaps' growth at once: what H' has beyond H is nobody's -/
theorem EnvOk.heap (e : EnvOk K G Z F ρ σ H) (g : Gr H H') : EnvOk K G Z F ρ σ H' :=
  e.grown g Gr.rfl (e.ext.trans g) (fun l ho => (e.there ho).1) fun a u q => .inl q

/-- an expression's value: a tree, or a new thing that nobody holds -/
def PvOk (K : PySem.W.Frag) (G : Nat → Option CI) (Z : Zone) (F : Hp) (ρ : En) (σ : St) (H : Hp) : PV → V → Prop
  | .val d, v => Rep K G F d v
  | .own o, v => ∃ l, v = .ref l ∧ F l = none ∧ Z.h l = none ∧ OwnAt K G F H l o ∧ ¬ Ow ρ σ l
  | .bor _, _ => False
  | .adr _, _ => False
def PV.tree : PV → Option D
  | .val d => some d
  | .own (.lst ds) => some (.lst ds)
  | .own (.dct ks ds) => some (.dct ks ds)
  | _ => none
theorem EnvOk.freeze (e : EnvOk K G Z F ρ σ H) {l : Addr} {u : HO} (hF : F l = none) (hZ : Z.h l = none) (hu : H l = some u) (ho : ¬ Ow ρ σ l) : EnvOk K G Z (upd F l u) ρ σ H where
  len := e.len
  ext := fun a o q => by
    by_cases ha : a = l
    · subst ha; rw [upd_same] at q; exact hu.trans q
    · rw [upd_ne ha] at q; exact e.ext a o q
  val := fun i d h => let ⟨v, h1, h2⟩ := e.val i d h; ⟨v, h1, h2.gr (Gr.new hF)⟩
  own := fun i o h => by
    obtain ⟨m, h1, h2, h3, h4⟩ := e.own i o h
    have hm : m ≠ l := fun q => ho ⟨i, o, .inl h, q ▸ h1⟩
    exact ⟨m, h1, by rw [upd_ne hm]; exact h2, h3, h4.gr (Gr.new hF) rfl⟩
  bor := fun i o h => by
    obtain ⟨m, h1, h2, h3, h4⟩ := e.bor i o h
    have hm : m ≠ l := fun q => ho ⟨i, o, .inr h, q ▸ h1⟩
    exact ⟨m, h1, by rw [upd_ne hm]; exact h2, h3, h4.gr (Gr.new hF) rfl⟩
  dis := e.dis
  pins := e.pins
  pinh := e.pinh
  pinH := e.pinH
  kept := e.kept
  grow := fun a o q => by
    by_cases ha : a = l
    · subst ha; exact .inr hZ
    · rw [upd_ne ha] at q; exact e.grow a o q
  gf := e.gf.trans (Gr.new hF)
  adr := e.adr
theorem PvOk.frz (e : EnvOk K G Z F ρ σ H) : ∀ {pv : PV} {v : V} {d : D}, PvOk K G Z F ρ σ H pv v → pv.tree = some d → ∃ F', Gr F F' ∧ EnvOk K G Z F' ρ σ H ∧ Rep K G F' d v
  | .val d, v, _, h, q => by cases q; exact ⟨F, Gr.rfl, e, h⟩
  | .own (.lst ds), v, _, ⟨l, hv, hF, hZ, ha, ho⟩, q => by
    cases q; subst hv
    obtain ⟨u, hu⟩ := ha.there
    exact ⟨_, Gr.new hF, e.freeze hF hZ hu ho, OwnAt.rep (o := .lst ds) hu hF trivial ha⟩
  | .own (.dct ks ds), v, _, ⟨l, hv, hF, hZ, ha, ho⟩, q => by
    cases q; subst hv
    obtain ⟨u, hu⟩ := ha.there
    exact ⟨_, Gr.new hF, e.freeze hF hZ hu ho, OwnAt.rep (o := .dct ks ds) hu hF trivial ha⟩
  | .own (.ins _ _), _, _, _, q => by cases q
  | .bor _, _, _, _, q => by cases q
  | .adr _, _, _, _, q => by cases q

/-! ### storing into a slot -/
theorem EnvOk.put (e : EnvOk K G Z F ρ σ H) {i : Nat} {pv : PV} {v : V} (hi : i < ρ.length) (h : PvOk K G Z F (ρ.set i none) σ H pv v) : EnvOk K G Z F (ρ.set i (some pv)) (σ.set i (some v)) H where
  len := by rw [List.length_set, List.length_set]; exact e.len
  ext := e.ext
  val := fun j d q => by
    by_cases hj : i = j
    · subst hj
      rw [at_set_self hi] at q; cases q
      exact ⟨v, by rw [sl_set_self (e.len ▸ hi)], h⟩
    · rw [at_set_ne hj] at q
      obtain ⟨u, h1, h2⟩ := e.val j d q
      exact ⟨u, by rw [sl_set_ne hj]; exact h1, h2⟩
  own := fun j o q => by
    by_cases hj : i = j
    · subst hj
      rw [at_set_self hi] at q; cases q
      obtain ⟨l, hv, hF, hZ, ha, _⟩ := h
      exact ⟨l, by rw [sl_set_self (e.len ▸ hi), hv], hF, hZ, ha⟩
    · rw [at_set_ne hj] at q
      obtain ⟨u, h1, h2⟩ := e.own j o q
      exact ⟨u, by rw [sl_set_ne hj]; exact h1, h2⟩
  bor := fun j o q => by
    by_cases hj : i = j
    · subst hj
      rw [at_set_self hi] at q; cases q
      exact h.elim
    · rw [at_set_ne hj] at q
      obtain ⟨u, h1, h2⟩ := e.bor j o q
      exact ⟨u, by rw [sl_set_ne hj]; exact h1, h2⟩
  dis := fun j k o o' l hj hk sj sk => by
    by_cases ej : i = j
    · subst ej
      by_cases ek : i = k
      · exact ek
      · exfalso
        rw [at_set_self hi] at hj; cases hj
        rw [sl_set_self (e.len ▸ hi)] at sj; cases sj
        obtain ⟨m, hv, _, _, _, hn⟩ := h
        cases hv
        rw [at_set_ne ek] at hk
        rw [sl_set_ne ek] at sk
        exact hn ⟨k, o', .inl (by rw [at_set_ne ek]; exact hk), sk⟩
    · by_cases ek : i = k
      · subst ek
        exfalso
        rw [at_set_self hi] at hk; cases hk
        rw [sl_set_self (e.len ▸ hi)] at sk; cases sk
        obtain ⟨m, hv, _, _, _, hn⟩ := h
        cases hv
        rw [at_set_ne ej] at hj
        rw [sl_set_ne ej] at sj
        exact hn ⟨j, o, .inl (by rw [at_set_ne ej]; exact hj), sj⟩
      · rw [at_set_ne ej] at hj
        rw [at_set_ne ek] at hk
        rw [sl_set_ne ej] at sj
        rw [sl_set_ne ek] at sk
        exact e.dis j k o o' l hj hk sj sk
  pins := e.pins
  pinh := e.pinh
  pinH := e.pinH
  kept := e.kept
  grow := e.grow
  gf := e.gf
  adr := fun j a q => by
    by_cases hj : i = j
    · subst hj
      rw [at_set_self hi] at q; cases q
      exact h.elim
    · rw [at_set_ne hj] at q
      rw [sl_set_ne hj]; exact e.adr j a q
/-- a slot forgotten -/
theorem EnvOk.drop (e : EnvOk K G Z F ρ σ H) (i : Nat) : EnvOk K G Z F (ρ.set i none) σ H := by
  have hat : ∀ (j : Nat) (p : PV), En.at (ρ.set i none) j = some p → ρ.at j = some p := fun j p q => by
    by_cases hj : i = j
    · subst hj
      by_cases hi : i < ρ.length
      · rw [at_set_self hi] at q; cases q
      · rw [List.set_eq_of_length_le (Nat.le_of_not_lt hi)] at q; exact q
    · rw [at_set_ne hj] at q; exact q
  exact { len := by rw [List.length_set]; exact e.len, ext := e.ext, val := fun j d q => e.val j d (hat _ _ q), own := fun j o q => e.own j o (hat _ _ q), bor := fun j o q => e.bor j o (hat _ _ q),
          dis := fun j k o o' l a b => e.dis j k o o' l (hat _ _ a) (hat _ _ b), pins := e.pins, pinh := e.pinh, pinH := e.pinH, kept := e.kept, grow := e.grow, gf := e.gf, adr := fun j a q => e.adr j a (hat _ _ q) }
theorem PvOk.fewer {ρ' : En} (h : ∀ l, Ow ρ' σ l → Ow ρ σ l) : ∀ {pv : PV} {v : V}, PvOk K G Z F ρ σ H pv v → PvOk K G Z F ρ' σ H pv v
  | .val _, _, q => q
  | .own _, _, ⟨l, h1, h2, h3, h4, h5⟩ => ⟨l, h1, h2, h3, h4, fun z => h5 (h l z)⟩
  | .bor _, _, q => q
  | .adr _, _, q => q
theorem ow_drop {i : Nat} {l : Addr} (h : Ow (ρ.set i none) σ l) : Ow ρ σ l := by
  obtain ⟨j, o, q, s⟩ := h
  refine ⟨j, o, ?_, s⟩
  by_cases hj : i = j
  · subst hj
    by_cases hi : i < ρ.length
    · rw [at_set_self hi] at q; rcases q with q | q <;> cases q
    · rw [List.set_eq_of_length_le (Nat.le_of_not_lt hi)] at q; exact q
  · rw [at_set_ne hj] at q; exact q
/-- a name's own thing taken out -/
theorem EnvOk.take (e : EnvOk K G Z F ρ σ H) {i : Nat} {o : OD} (h : ρ.at i = some (.own o)) : ∃ v, sl σ i = some v ∧ PvOk K G Z F (ρ.set i none) σ H (.own o) v := by
  obtain ⟨l, h1, h2, h3, h4⟩ := e.own i o h
  refine ⟨_, h1, l, rfl, h2, h3, h4, fun ⟨j, o', q, s⟩ => ?_⟩
  have hi := at_lt h
  by_cases hj : i = j
  · subst hj; rw [at_set_self hi] at q; rcases q with q | q <;> cases q
  · rw [at_set_ne hj] at q
    rcases q with q | q
    · exact hj (e.dis i j o o' l h q h1 s)
    · obtain ⟨m, s1, _, s3, _⟩ := e.bor j o' q
      rw [s] at s1; cases s1
      obtain ⟨u, hu⟩ := e.pinh j l s3
      rw [h3] at hu; cases hu
/-- an own thing is written -/
theorem EnvOk.write (e : EnvOk K G Z F ρ σ H) {i : Nat} {o o' : OD} {l : Addr} {u : HO} (h : ρ.at i = some (.own o)) (s : sl σ i = some (.ref l)) (ho : OwnAt K G F (upd H l u) l o') : EnvOk K G Z F (ρ.set i (some (.own o'))) σ (upd H l u) := by
  obtain ⟨l', h1, h2, h3, h4⟩ := e.own i o h
  rw [s] at h1; cases h1
  have hi := at_lt h
  have nl : ∀ {j m : Nat} {p : PV} , i ≠ j → ρ.at j = some p → (∃ q, p = .own q ∨ p = .bor q) → sl σ j = some (.ref m) → m ≠ l := by
    rintro j m p hj hp ⟨q, rfl | rfl⟩ hs rfl
    · exact hj (e.dis i j o q m h hp s hs)
    · obtain ⟨m', s1, _, s3, _⟩ := e.bor j q hp
      rw [hs] at s1; cases s1
      obtain ⟨u, hu⟩ := e.pinh j m s3
      rw [h3] at hu; cases hu
  exact {
    len := by rw [List.length_set]; exact e.len
    ext := fun a u' q => by
      rw [upd_ne (ne_of_none q h2)]; exact e.ext a u' q
    val := fun j d q => by
      by_cases hj : i = j
      · subst hj; rw [at_set_self hi] at q; cases q
      · rw [at_set_ne hj] at q; exact e.val j d q
    own := fun j p q => by
      by_cases hj : i = j
      · subst hj; rw [at_set_self hi] at q; cases q; exact ⟨l, s, h2, h3, ho⟩
      · rw [at_set_ne hj] at q
        obtain ⟨m, q1, q2, q3, q4⟩ := e.own j p q
        exact ⟨m, q1, q2, q3, q4.gr Gr.rfl (upd_ne (nl hj q ⟨_, .inl rfl⟩ q1))⟩
    bor := fun j p q => by
      by_cases hj : i = j
      · subst hj; rw [at_set_self hi] at q; cases q
      · rw [at_set_ne hj] at q
        obtain ⟨m, q1, q2, q3, q4⟩ := e.bor j p q
        exact ⟨m, q1, q2, q3, q4.gr Gr.rfl (upd_ne (nl hj q ⟨_, .inr rfl⟩ q1))⟩
    dis := fun j k p p' m hj hk sj sk => by
      have fix : ∀ (j : Nat) (p : OD), En.at (ρ.set i (some (.own o'))) j = some (.own p) → ∃ p', ρ.at j = some (.own p') := fun j p q => by
        by_cases ej : i = j
        · subst ej; exact ⟨o, h⟩
        · rw [at_set_ne ej] at q; exact ⟨p, q⟩
      obtain ⟨_, a⟩ := fix j p hj
      obtain ⟨_, b⟩ := fix k p' hk
      exact e.dis j k _ _ m a b sj sk
    pins := e.pins
    pinh := e.pinh
    pinH := fun j m q => by
      by_cases hm : m = l
      · subst hm; exact ⟨_, upd_same⟩
      · rw [upd_ne hm]; exact e.pinH j m q
    kept := fun a u' q n => by
      rw [upd_ne (ne_of_none q h3)]; exact e.kept a u' q n
    grow := e.grow
    gf := e.gf
    adr := fun j a q => by
      by_cases hj : i = j
      · subst hj; rw [at_set_self hi] at q; cases q
      · rw [at_set_ne hj] at q; exact e.adr j a q }
/-- a lent thing is written -/
theorem EnvOk.writeB (e : EnvOk K G Z F ρ σ H) {i : Nat} {o o' : OD} {l : Addr} {u : HO} (h : ρ.at i = some (.bor o)) (s : sl σ i = some (.ref l)) (ho : OwnAt K G F (upd H l u) l o') : EnvOk K G Z F (ρ.set i (some (.bor o'))) σ (upd H l u) := by
  obtain ⟨l', h1, h2, h3, h4⟩ := e.bor i o h
  rw [s] at h1; cases h1
  have hi := at_lt h
  have nl : ∀ {j m : Nat} {p : PV} , i ≠ j → ρ.at j = some p → (∃ q, p = .own q ∨ p = .bor q) → sl σ j = some (.ref m) → m ≠ l := by
    rintro j m p hj hp ⟨q, rfl | rfl⟩ hs rfl
    · obtain ⟨m', s1, _, s3, _⟩ := e.own j q hp
      rw [hs] at s1; cases s1
      obtain ⟨u, hu⟩ := e.pinh i m h3
      rw [s3] at hu; cases hu
    · obtain ⟨m', s1, _, s3, _⟩ := e.bor j q hp
      rw [hs] at s1; cases s1
      exact hj (e.pins i j m h3 s3)
  exact {
    len := by rw [List.length_set]; exact e.len
    ext := fun a u' q => by
      rw [upd_ne (ne_of_none q h2)]; exact e.ext a u' q
    val := fun j d q => by
      by_cases hj : i = j
      · subst hj; rw [at_set_self hi] at q; cases q
      · rw [at_set_ne hj] at q; exact e.val j d q
    own := fun j p q => by
      by_cases hj : i = j
      · subst hj; rw [at_set_self hi] at q; cases q
      · rw [at_set_ne hj] at q
        obtain ⟨m, q1, q2, q3, q4⟩ := e.own j p q
        exact ⟨m, q1, q2, q3, q4.gr Gr.rfl (upd_ne (nl hj q ⟨_, .inl rfl⟩ q1))⟩
    bor := fun j p q => by
      by_cases hj : i = j
      · subst hj; rw [at_set_self hi] at q; cases q; exact ⟨l, s, h2, h3, ho⟩
      · rw [at_set_ne hj] at q
        obtain ⟨m, q1, q2, q3, q4⟩ := e.bor j p q
        exact ⟨m, q1, q2, q3, q4.gr Gr.rfl (upd_ne (nl hj q ⟨_, .inr rfl⟩ q1))⟩
    dis := fun j k p p' m hj hk sj sk => by
      have fix : ∀ (j : Nat) (p : OD), En.at (ρ.set i (some (.bor o'))) j = some (.own p) → ρ.at j = some (.own p) := fun j p q => by
        by_cases ej : i = j
        · subst ej; rw [at_set_self hi] at q; cases q
        · rw [at_set_ne ej] at q; exact q
      exact e.dis j k _ _ m (fix j p hj) (fix k p' hk) sj sk
    pins := e.pins
    pinh := e.pinh
    pinH := fun j m q => by
      by_cases hm : m = l
      · subst hm; exact ⟨_, upd_same⟩
      · rw [upd_ne hm]; exact e.pinH j m q
    kept := fun a u' q n => by
      have ha : a ≠ l := fun z => n i (z ▸ h3)
      rw [upd_ne ha]; exact e.kept a u' q n
    grow := e.grow
    gf := e.gf
    adr := fun j a q => by
      by_cases hj : i = j
      · subst hj; rw [at_set_self hi] at q; cases q
      · rw [at_set_ne hj] at q; exact e.adr j a q }
end
end Pl
set_option Elab.async false
set_option linter.all false
set_option maxRecDepth 100000
set_option maxHeartbeats 2000000
namespace Pl
open PySem PySem.Spec L2
open PyProof.Rows hiding St

/-! ### plain functions over the environment, and what they say of the text's pieces -/
/-- an own exception: its class, its fields -/
structure Ex where
  c : Nat
  ds : List D
abbrev Inr := En → Option D
abbrev M (α : Type) := En → Option (Except Ex α × En)
inductive Fl where
  | next | brk | cont | ret (pv : PV)

def ExOk (K : PySem.W.Frag) (G : Nat → Option CI) (F : Hp) (x : Ex) (c : Value) (dd : Option Addr) : Prop :=
  ∃ i, G x.c = some i ∧ c = .ref i.adr ∧ ((x.ds = [] ∧ dd = none) ∨ ∃ a vs, dd = some a ∧ x.ds ≠ [] ∧ F a = some (.xd (i.names.zip vs)) ∧ i.names.length = vs.length ∧ Reps K G F x.ds vs)
theorem ExOk.gr {K : PySem.W.Frag} {G : Nat → Option CI} {F F' : Hp} {x : Ex} {c : Value} {dd : Option Addr} (g : Gr F F') : ExOk K G F x c dd → ExOk K G F' x c dd
  | ⟨i, h1, h2, .inl h⟩ => ⟨i, h1, h2, .inl h⟩
  | ⟨i, h1, h2, .inr ⟨a, vs, e, z, f, l, r⟩⟩ => ⟨i, h1, h2, .inr ⟨a, vs, e, z, g _ _ f, l, r.gr g⟩⟩

/-- what stands at a value, the top of it as it is now -/
def Pk (K : PySem.W.Frag) (G : Nat → Option CI) (F H : Hp) : D → V → Prop
  | .lst ds, v => ∃ a vs, v = .ref a ∧ SqL K H a vs ∧ Reps K G F ds vs
  | .tup ds, v => ∃ a vs, v = .ref a ∧ SqT K H a vs ∧ Reps K G F ds vs
  | .dct ks ds, v => ∃ a vs, v = .ref a ∧ H a = some (.dK (ks.zip vs)) ∧ ks.length = vs.length ∧ Reps K G F ds vs
  | .obj c ds, v => ∃ a i dx vs, v = .ref a ∧ G c = some i ∧ H a = some (.ins i.adr dx (i.names.zip vs)) ∧ vs.length ≤ i.names.length ∧ Reps K G F ds vs
  | d, v => Rep K G F d v
theorem Rep.pk {K : PySem.W.Frag} {G : Nat → Option CI} {F H : Hp} (g : Gr F H) : ∀ {d : D} {v : V}, Rep K G F d v → Pk K G F H d v
  | _, _, .non => .non
  | _, _, .bl b => .bl b
  | _, _, .int i => .int i
  | _, _, .str x => .str x
  | _, _, .tup h r => ⟨_, _, rfl, g.sqT h, r⟩
  | _, _, .lst h r => ⟨_, _, rfl, g.sqL h, r⟩
  | _, _, .dct h l r => ⟨_, _, rfl, g _ _ h, l, r⟩
  | _, _, .obj c h l r => ⟨_, _, _, _, rfl, c, g _ _ h, Nat.le_of_eq l.symm, r⟩
theorem OwnAt.pk {K : PySem.W.Frag} {G : Nat → Option CI} {F H : Hp} {l : Addr} : ∀ {o : OD}, OwnAt K G F H l o → Pk K G F H o.toD (.ref l)
  | .lst _, ⟨vs, h, r⟩ => ⟨_, vs, rfl, .of h, r⟩
  | .dct _ _, ⟨vs, h, l, r⟩ => ⟨_, vs, rfl, h, l, r⟩
  | .ins _ _, ⟨i, dx, vs, c, h, l, r⟩ => ⟨_, i, dx, vs, rfl, c, h, l, r⟩

section
variable (K : PySem.W.Frag) (G : Nat → Option CI)
/-- nothing changes: a tree; what is seen of a thing; a truth value -/
def tI (f : Inr) : TE := fun σ H Q => ∃ Z F ρ d, EnvOk K G Z F ρ σ H ∧ f ρ = some d ∧ ∀ v, Rep K G F d v → Q v H
def tP (f : Inr) : TE := fun σ H Q => ∃ Z F ρ d, EnvOk K G Z F ρ σ H ∧ f ρ = some d ∧ ∀ v, Pk K G F H d v → Q v H
def tU (f : En → Option Bool) : TT := fun σ H Q => ∃ Z F ρ b, EnvOk K G Z F ρ σ H ∧ f ρ = some b ∧ Q b H
/-- what is wished of an error -/
def Erh (Z : Zone) (W : WX) (F : Hp) (ρ' : En) (x : Ex) : Prop := ∀ F' c dd σ' H', Gr F F' → EnvOk K G Z F' ρ' σ' H' → ExOk K G F' x c dd → W c dd σ' H'
def tE (Z : Zone) (W : WX) (f : M PV) : TE := fun σ H Q => ∃ F ρ r ρ', EnvOk K G Z F ρ σ H ∧ f ρ = some (r, ρ') ∧
  (∀ pv, r = .ok pv → ∀ F' v H', Gr F F' → EnvOk K G Z F' ρ' σ H' → PvOk K G Z F' ρ' σ H' pv v → Q v H') ∧ (∀ x, r = .error x → Erh K G Z W F ρ' x)
def tT (Z : Zone) (W : WX) (f : M Bool) : TT := fun σ H Q => ∃ F ρ r ρ', EnvOk K G Z F ρ σ H ∧ f ρ = some (r, ρ') ∧
  (∀ b, r = .ok b → ∀ F' H', Gr F F' → EnvOk K G Z F' ρ' σ H' → Q b H') ∧ (∀ x, r = .error x → Erh K G Z W F ρ' x)
/-- arguments: trees, and slots whose thing is lent -/
inductive Ag where
  | d (d : D) | b (j : Nat)
def AgOk (F : Hp) (ρ : En) (σ : St) : Ag → V → Prop
  | .d d, v => Rep K G F d v
  | .b j, v => sl σ j = some v
inductive AgsOk (F : Hp) (ρ : En) (σ : St) : List Ag → List V → Prop
  | nil : AgsOk F ρ σ [] []
  | cons {a : Ag} {v : V} {as : List Ag} {vs : List V} : AgOk K G F ρ σ a v → AgsOk F ρ σ as vs → AgsOk F ρ σ (a :: as) (v :: vs)
def tA (Z : Zone) (W : WX) (f : M (List Ag)) : TA := fun σ H Q => ∃ F ρ r ρ', EnvOk K G Z F ρ σ H ∧ f ρ = some (r, ρ') ∧
  (∀ as, r = .ok as → ∀ F' vs H', Gr F F' → EnvOk K G Z F' ρ' σ H' → AgsOk K G F' ρ' σ as vs → Q vs H') ∧ (∀ x, r = .error x → Erh K G Z W F ρ' x)
def tS (Z : Zone) (W : WX) (f : M Fl) : TS := fun D σ H => ∃ F ρ r ρ', EnvOk K G Z F ρ σ H ∧ f ρ = some (r, ρ') ∧
  (∀ fl, r = .ok fl → ∀ F' σ' H', Gr F F' → EnvOk K G Z F' ρ' σ' H' → match fl with
    | .next => D.nx σ' H'
    | .brk => D.bk σ' H'
    | .cont => D.ct σ' H'
    | .ret pv => ∀ v, PvOk K G Z F' ρ' σ' H' pv v → D.rt v H') ∧ (∀ x, r = .error x → Erh K G Z W F ρ' x)
end

section
variable (X : Cx) (G : Nat → Option CI) (Φ : Zone → Prop) (W : WX)
def RI (e : Expr) (f : Inr) : Prop := PE X e (tI X.K G f)
def RP (e : Expr) (f : Inr) : Prop := PE X e (tP X.K G f)
def RU (e : Expr) (f : En → Option Bool) : Prop := PT X e (tU X.K G f)
def RE (e : Expr) (f : M PV) : Prop := ∀ Z, Φ Z → PE X e (tE X.K G Z W f)
def RT (e : Expr) (f : M Bool) : Prop := ∀ Z, Φ Z → PT X e (tT X.K G Z W f)
def RA (es : List Expr) (f : M (List Ag)) : Prop := ∀ Z, Φ Z → PA X es (tA X.K G Z W f)
def RS (s : Stmt) (f : M Fl) : Prop := ∀ Z, Φ Z → PS X s (tS X.K G Z W f)
def RB (s : List Stmt) (f : M Fl) : Prop := ∀ Z, Φ Z → PSs X s (tS X.K G Z W f)
end

section
variable {X : Cx} {G : Nat → Option CI} {Φ : Zone → Prop} {W : WX} {e a b c : Expr} {es : List Expr} {pos p p' : Pos}
theorem PE.lo {t t' : TE} (h : PE X e t) (i : ∀ σ H Q, t' σ H Q → t σ H Q) : PE X e t' := ⟨fun pins s σ H Q I q => h.run pins s σ H Q I (i σ H Q q)⟩
theorem PT.lo {t t' : TT} (h : PT X e t) (i : ∀ σ H Q, t' σ H Q → t σ H Q) : PT X e t' := ⟨fun pins s σ H Q I q => h.run pins s σ H Q I (i σ H Q q)⟩
theorem PA.lo {t t' : TA} (h : PA X es t) (i : ∀ σ H Q, t' σ H Q → t σ H Q) : PA X es t' := ⟨fun po pins s σ H Q I q => h.run po pins s σ H Q I (i σ H Q q)⟩
theorem PS.lo {st : Stmt} {t t' : TS} (h : PS X st t) (i : ∀ D σ H, t' D σ H → t D σ H) : PS X st t' := ⟨fun pins s σ H D I q => h.run pins s σ H D I (i D σ H q)⟩
theorem PSs.lo {st : List Stmt} {t t' : TS} (h : PSs X st t) (i : ∀ D σ H, t' D σ H → t D σ H) : PSs X st t' := ⟨fun pins s σ H D I q => h.run pins s σ H D I (i D σ H q)⟩

/-! ### nothing changes: names, constants, operators -/
def iVar (i : Nat) : Inr := fun ρ => match ρ.at i with
  | some (.val d) => some d
  | _ => none
def pVar (i : Nat) : Inr := fun ρ => match ρ.at i with
  | some (.val d) => some d
  | some (.own o) => some o.toD
  | some (.bor o) => some o.toD
  | _ => none
def iC (d : D) : Inr := fun _ => some d
theorem ri_var (i : Nat) {x : Str} (hN : X.N[i]? = some x := by rfl) (hv : Vis X.env.scope x := by first | exact Or.inl rfl | exact Or.inr (Or.inl rfl) | exact Or.inr (Or.inr rfl)) (hd : (x == ("__debug__" : Str)) = false := by decide)
    (hcd : (x == ("__classdict__" : Str)) = false := by decide) : RI X G (.Name x pos) (iVar i) :=
  PE.lo (pe_var hN hv hd hcd) fun σ H Q ⟨Z, F, ρ, d, E, hf, q⟩ => by
    unfold iVar at hf
    split at hf
    · rename_i d' hd'
      cases hf
      obtain ⟨v, h1, h2⟩ := E.val i _ hd'
      exact ⟨v, sl_some h1, q v h2⟩
    · cases hf
theorem rp_var (i : Nat) {x : Str} (hN : X.N[i]? = some x := by rfl) (hv : Vis X.env.scope x := by first | exact Or.inl rfl | exact Or.inr (Or.inl rfl) | exact Or.inr (Or.inr rfl)) (hd : (x == ("__debug__" : Str)) = false := by decide)
    (hcd : (x == ("__classdict__" : Str)) = false := by decide) : RP X G (.Name x pos) (pVar i) :=
  PE.lo (pe_var hN hv hd hcd) fun σ H Q ⟨Z, F, ρ, d, E, hf, q⟩ => by
    unfold pVar at hf
    split at hf
    · rename_i d' hd'
      cases hf
      obtain ⟨v, h1, h2⟩ := E.val i _ hd'
      exact ⟨v, sl_some h1, q v (h2.pk E.ext)⟩
    · rename_i o hd'
      cases hf
      obtain ⟨l, h1, _, _, h4⟩ := E.own i _ hd'
      exact ⟨_, sl_some h1, q _ h4.pk⟩
    · rename_i o hd'
      cases hf
      obtain ⟨l, h1, _, _, h4⟩ := E.bor i _ hd'
      exact ⟨_, sl_some h1, q _ h4.pk⟩
    · cases hf
theorem rp_i {f : Inr} (h : RI X G e f) : RP X G e f := PE.lo h fun σ H Q ⟨Z, F, ρ, d, E, hf, q⟩ => ⟨Z, F, ρ, d, E, hf, fun v r => q v (r.pk E.ext)⟩
theorem ri_int {i : Int} {j : Nat} : RI X G (.Constant (.int i) j pos) (iC (.int i)) := PE.lo pe_int fun σ H Q ⟨Z, F, ρ, d, E, hf, q⟩ => by cases hf; exact q _ (.int i)
theorem ri_bl {i : Bool} {j : Nat} : RI X G (.Constant (.bool i) j pos) (iC (.bl i)) := PE.lo pe_bl fun σ H Q ⟨Z, F, ρ, d, E, hf, q⟩ => by cases hf; exact q _ (.bl i)
theorem ri_non {j : Nat} : RI X G (.Constant .none j pos) (iC .non) := PE.lo pe_non fun σ H Q ⟨Z, F, ρ, d, E, hf, q⟩ => by cases hf; exact q _ .non
theorem ri_str {i : Str} {j : Nat} : RI X G (.Constant (.str i) j pos) (iC (.str i)) := PE.lo pe_str fun σ H Q ⟨Z, F, ρ, d, E, hf, q⟩ => by cases hf; exact q _ (.str i)

/-- a two-place operation by trees -/
def OpI (X : Cx) (G : Nat → Option CI) (r : R2) (g : D → D → Option D) : Prop :=
  ∀ Z F ρ σ H x y d u v (Q : VK), EnvOk X.K G Z F ρ σ H → g x y = some d → Pk X.K G F H x u → Pk X.K G F H y v → (∀ w, Rep X.K G F d w → Q w H) → r u v H Q
def iBin (g : D → D → Option D) (fa fb : Inr) : Inr := fun ρ => (fa ρ).bind fun x => (fb ρ).bind fun y => g x y
theorem tI_op {r : R2} {g : D → D → Option D} {fa fb : Inr} (hg : OpI X G r g) : ∀ σ H Q, tI X.K G (iBin g fa fb) σ H Q → tOp r (tP X.K G fa) (tP X.K G fb) σ H Q := fun σ H Q ⟨Z, F, ρ, d, E, hf, q⟩ => by
  unfold iBin at hf
  cases h1 : fa ρ with
  | none => rw [h1] at hf; cases hf
  | some x =>
    cases h2 : fb ρ with
    | none => rw [h1, h2] at hf; cases hf
    | some y =>
      rw [h1, h2] at hf
      exact ⟨Z, F, ρ, x, E, h1, fun u hu => ⟨Z, F, ρ, y, E, h2, fun v hv => hg Z F ρ σ H x y d u v Q E hf hu hv q⟩⟩
theorem ri_bin {op : Operator} {r : R2} {g : D → D → Option D} {fa fb : Inr} (ho : OpR X (binaryOp op) r) (hg : OpI X G r g) (ha : RP X G a fa) (hb : RP X G b fb) : RI X G (.BinOp a op b pos) (iBin g fa fb) :=
  PE.lo (pe_op ho ha hb) (tI_op hg)
theorem ri_cmp {op : CmpOp} {r : R2} {g : D → D → Option D} {fa fb : Inr} (ho : OpR X (compareOp op) r) (hg : OpI X G r g) (ha : RP X G a fa) (hb : RP X G b fb) (hm : behindInMarks op b = false) : RI X G (.Compare a [op] [b] pos) (iBin g fa fb) :=
  PE.lo (pe_cmpR ho ha hb hm) (tI_op hg)
/-- a one-place operation, a call by trees -/
def iUn (g : D → Option D) (fa : Inr) : Inr := fun ρ => (fa ρ).bind g
def OpU (X : Cx) (G : Nat → Option CI) (r : V → Hp → VK → Prop) (g : D → Option D) : Prop :=
  ∀ Z F ρ σ H x d u (Q : VK), EnvOk X.K G Z F ρ σ H → g x = some d → Pk X.K G F H x u → (∀ w, Rep X.K G F d w → Q w H) → r u H Q
theorem ri_un {op : UnaryOp} {r : V → Hp → VK → Prop} {g : D → Option D} {fa : Inr} (ho : UnR X (unaryOp op) r) (hg : OpU X G r g) (ha : RP X G a fa) : RI X G (.UnaryOp op a pos) (iUn g fa) :=
  PE.lo (pe_un ho ha) fun σ H Q ⟨Z, F, ρ, d, E, hf, q⟩ => by
    unfold iUn at hf
    cases h1 : fa ρ with
    | none => rw [h1] at hf; cases hf
    | some x =>
      rw [h1] at hf
      exact ⟨Z, F, ρ, x, E, h1, fun u hu => hg Z F ρ σ H x d u Q E hf hu q⟩
/-- f(a), f(a, b) of a built-in -/
def OpC1 (X : Cx) (G : Nat → Option CI) (r : List V → Hp → VK → Prop) (g : D → Option D) : Prop := OpU X G (fun u H Q => r [u] H Q) g
def OpC2 (X : Cx) (G : Nat → Option CI) (r : List V → Hp → VK → Prop) (g : D → D → Option D) : Prop := OpI X G (fun u v H Q => r [u, v] H Q) g
theorem tI_c1 {r : List V → Hp → VK → Prop} {g : D → Option D} {fa : Inr} (hg : OpC1 X G r g) : ∀ σ H Q, tI X.K G (iUn g fa) σ H Q → tCB r (tCons (tP X.K G fa) tNil) σ H Q := fun σ H Q ⟨Z, F, ρ, d, E, hf, q⟩ => by
  unfold iUn at hf
  cases h1 : fa ρ with
  | none => rw [h1] at hf; cases hf
  | some x =>
    rw [h1] at hf
    exact ⟨Z, F, ρ, x, E, h1, fun u hu => hg Z F ρ σ H x d u Q E hf hu q⟩
theorem tI_c2 {r : List V → Hp → VK → Prop} {g : D → D → Option D} {fa fb : Inr} (hg : OpC2 X G r g) : ∀ σ H Q, tI X.K G (iBin g fa fb) σ H Q → tCB r (tCons (tP X.K G fa) (tCons (tP X.K G fb) tNil)) σ H Q := fun σ H Q ⟨Z, F, ρ, d, E, hf, q⟩ => by
  unfold iBin at hf
  cases h1 : fa ρ with
  | none => rw [h1] at hf; cases hf
  | some x =>
    cases h2 : fb ρ with
    | none => rw [h1, h2] at hf; cases hf
    | some y =>
      rw [h1, h2] at hf
      exact ⟨Z, F, ρ, x, E, h1, fun u hu => ⟨Z, F, ρ, y, E, h2, fun v hv => hg Z F ρ σ H x y d u v Q E hf hu hv q⟩⟩

/-! #### the operations' values -/
def dAdd : D → D → Option D
  | .int i, .int j => some (.int (i + j))
  | .str x, .str y => if x.length + y.length ≤ sizeLine then some (.str (x ++ y)) else none
  | _, _ => none
def rAdd : R2 := fun x y H Q => rI0 (fun i j => .int (i + j)) x y H Q ∨ ∃ i j, x = .str i ∧ y = .str j ∧ i.length + j.length ≤ sizeLine ∧ Q (.str (i ++ j)) H
theorem OpR.or {f : Value → Value → Sem Value} {r r' : R2} (h : OpR X f r) (h' : OpR X f r') : OpR X f (fun x y H Q => r x y H Q ∨ r' x y H Q) :=
  fun pins s σ H x y v u Q I rx ry q => q.elim (h pins s σ H x y v u Q I rx ry) (h' pins s σ H x y v u Q I rx ry)
theorem op_addA : OpR X (binaryOp .Add) rAdd := OpR.or op_add op_add_str
theorem pk_int {K : PySem.W.Frag} {F H : Hp} {i : Int} {v : V} (h : Pk K G F H (.int i) v) : v = .int i := by cases (show Rep K G F (.int i) v from h); rfl
theorem pk_str {K : PySem.W.Frag} {F H : Hp} {i : Str} {v : V} (h : Pk K G F H (.str i) v) : v = .str i := by cases (show Rep K G F (.str i) v from h); rfl
theorem pk_bl {K : PySem.W.Frag} {F H : Hp} {i : Bool} {v : V} (h : Pk K G F H (.bl i) v) : v = .bl i := by cases (show Rep K G F (.bl i) v from h); rfl
theorem pk_non {K : PySem.W.Frag} {F H : Hp} {v : V} (h : Pk K G F H .non v) : v = .non := by cases (show Rep K G F .non v from h); rfl
theorem opi_add : OpI X G rAdd dAdd := fun Z F ρ σ H x y d u v Q E h hu hv q => by
  unfold dAdd at h
  split at h
  · cases h; cases pk_int hu; cases pk_int hv
    exact .inl ⟨_, _, rfl, rfl, q _ (.int _)⟩
  · split at h
    · cases h; cases pk_str hu; cases pk_str hv
      exact .inr ⟨_, _, rfl, rfl, ‹_›, q _ (.str _)⟩
    · cases h
  · cases h
def dInt2 (C : Int → Int → Bool) (g : Int → Int → Int) : D → D → Option D
  | .int i, .int j => if C i j then some (.int (g i j)) else none
  | _, _ => none
theorem opi_int {C : Int → Int → Bool} {P : Int → Int → Prop} {g : Int → Int → Int} (hC : ∀ i j, C i j = true → P i j) : OpI X G (rI P fun i j => .int (g i j)) (dInt2 C g) := fun Z F ρ σ H x y d u v Q E h hu hv q => by
  unfold dInt2 at h
  split at h
  · split at h
    · cases h; cases pk_int hu; cases pk_int hv
      exact ⟨_, _, rfl, rfl, hC _ _ ‹_›, q _ (.int _)⟩
    · cases h
  · cases h
theorem opi_int0 {g : Int → Int → Int} : OpI X G (rI0 fun i j => .int (g i j)) (dInt2 (fun _ _ => true) g) := fun Z F ρ σ H x y d u v Q E h hu hv q => by
  unfold dInt2 at h
  split at h
  · cases h; cases pk_int hu; cases pk_int hv
    exact ⟨_, _, rfl, rfl, q _ (.int _)⟩
  · cases h
def dCmp2 (g : Int → Int → Bool) : D → D → Option D
  | .int i, .int j => some (.bl (g i j))
  | _, _ => none
theorem opi_cmp {g : Int → Int → Bool} : OpI X G (rI0 fun i j => .bl (g i j)) (dCmp2 g) := fun Z F ρ σ H x y d u v Q E h hu hv q => by
  unfold dCmp2 at h
  split at h
  · cases h; cases pk_int hu; cases pk_int hv
    exact ⟨_, _, rfl, rfl, q _ (.bl _)⟩
  · cases h
/-- bits of both together -/
def okMul (i j : Int) : Bool := decide (i.natAbs.log2 + j.natAbs.log2 < 100000000)
def dMul : D → D → Option D := dInt2 okMul (· * ·)
theorem op_mulY : OpR X (binaryOp .Mult) (rI (fun i j => okMul i j = true) fun i j => .int (i * j)) := opI fun i j _ _ _ _ _ hc q => mul_int q (by
  have b : ∀ x : Int, Builtin.Int.intBits x ≤ x.natAbs.log2 + 1 := fun x => by
    unfold Builtin.Int.intBits
    split <;> omega
  have h1 := b i
  have h2 := b j
  have h3 : i.natAbs.log2 + j.natAbs.log2 < 100000000 := of_decide_eq_true hc
  have e : bitsLine = 134217728 := by decide
  unfold IntMulOk
  intro z
  rw [Bool.and_eq_true] at z
  have z2 := z.2
  unfold Builtin.Int.intTooBig at z2
  have z3 := of_decide_eq_true z2
  rw [e] at z3
  omega)
theorem opi_mul : OpI X G (rI (fun i j => okMul i j = true) fun i j => .int (i * j)) dMul := opi_int fun _ _ h => h
def dSub : D → D → Option D := dInt2 (fun _ _ => true) (· - ·)
theorem opi_sub : OpI X G (rI0 fun i j => .int (i - j)) dSub := opi_int0
def dMod : D → D → Option D := dInt2 (fun _ j => decide (0 < j)) (· % ·)
theorem opi_mod : OpI X G (rI (fun _ j => 0 < j) fun i j => .int (i % j)) dMod := opi_int fun _ _ h => of_decide_eq_true h
def dDiv : D → D → Option D := dInt2 (fun _ j => decide (0 < j) && decide (j.natAbs.log2 < 9000)) (· / ·)
theorem opi_div : OpI X G (rI CDivW fun i j => .int (i / j)) dDiv := opi_int fun _ _ h => by
  rw [Bool.and_eq_true] at h
  exact ⟨of_decide_eq_true h.1, of_decide_eq_true h.2⟩
def dNeg : D → Option D
  | .int i => some (.int (-i))
  | _ => none
theorem opu_neg : OpU X G (rU fun i => .int (-i)) dNeg := fun Z F ρ σ H x d u Q E h hu q => by
  unfold dNeg at h
  split at h
  · cases h; cases pk_int hu
    exact ⟨_, rfl, q _ (.int _)⟩
  · cases h
end
end Pl
set_option Elab.async false
set_option linter.all false
set_option maxRecDepth 100000
set_option maxHeartbeats 2000000
namespace Pl
open PySem PySem.Spec L2
open PyProof.Rows hiding St

section
variable {X : Cx} {G : Nat → Option CI} {W : WX} {e a b c : Expr} {es : List Expr} {pos p p' : Pos}
/-! #### == of flat things -/
def D.flat : D → Option V
  | .non => some .non
  | .bl b => some (.bl b)
  | .int i => some (.int i)
  | .str x => some (.str x)
  | _ => none
theorem pk_flat {K : PySem.W.Frag} {F H : Hp} : ∀ {d : D} {v x : V}, Pk K G F H d v → d.flat = some x → v = x
  | .non, _, _, h, e => by cases e; exact pk_non h
  | .bl _, _, _, h, e => by cases e; exact pk_bl h
  | .int _, _, _, h, e => by cases e; exact pk_int h
  | .str _, _, _, h, e => by cases e; exact pk_str h
  | .tup _, _, _, _, e => by cases e
  | .lst _, _, _, _, e => by cases e
  | .dct _ _, _, _, _, e => by cases e
  | .obj _ _, _, _, _, e => by cases e
def dEqF (neg : Bool) (x y : D) : Option D := match x.flat, y.flat with
  | some u, some v => if scal u v then some (.bl (xor neg (decide (u = v)))) else none
  | _, _ => none
theorem opi_eqF : OpI X G rEq (dEqF false) := fun Z F ρ σ H x y d u v Q E h hu hv q => by
  unfold dEqF at h
  split at h
  · rename_i u' v' h1 h2
    split at h
    · cases h; cases pk_flat hu h1; cases pk_flat hv h2
      exact ⟨‹_›, by have := q _ (.bl _); simpa using this⟩
    · cases h
  · cases h
theorem opi_neF : OpI X G rNe (dEqF true) := fun Z F ρ σ H x y d u v Q E h hu hv q => by
  unfold dEqF at h
  split at h
  · rename_i u' v' h1 h2
    split at h
    · cases h; cases pk_flat hu h1; cases pk_flat hv h2
      exact ⟨‹_›, by have := q _ (.bl _); simpa using this⟩
    · cases h
  · cases h
def D.isNon : D → Bool
  | .non => true
  | _ => false
/-- x is None, x is not None -/
def dIsN (neg : Bool) (x y : D) : Option D := match y with
  | .non => some (.bl (xor neg x.isNon))
  | _ => none
theorem pk_isN {K : PySem.W.Frag} {F H : Hp} {d : D} {v : V} (h : Pk K G F H d v) : decide (v = .non) = d.isNon := by
  cases d with
  | non => cases pk_non h; rfl
  | bl b => cases pk_bl h; rfl
  | int i => cases pk_int h; rfl
  | str x => cases pk_str h; rfl
  | tup ds => obtain ⟨a, vs, rfl, _⟩ := h; rfl
  | lst ds => obtain ⟨a, vs, rfl, _⟩ := h; rfl
  | dct ks ds => obtain ⟨a, vs, rfl, _⟩ := h; rfl
  | obj c ds => obtain ⟨a, i, dx, vs, rfl, _⟩ := h; rfl
theorem opi_isN : OpI X G (fun x y H Q => y = .non ∧ Q (.bl (decide (x = .non))) H) (dIsN false) := fun Z F ρ σ H x y d u v Q E h hu hv q => by
  unfold dIsN at h
  split at h
  · cases h
    refine ⟨pk_non hv, ?_⟩
    rw [pk_isN hu]
    have := q _ (.bl _)
    simpa using this
  · cases h
theorem opi_notN : OpI X G (fun x y H Q => y = .non ∧ Q (.bl (!decide (x = .non))) H) (dIsN true) := fun Z F ρ σ H x y d u v Q E h hu hv q => by
  unfold dIsN at h
  split at h
  · cases h
    refine ⟨pk_non hv, ?_⟩
    rw [pk_isN hu]
    have := q _ (.bl _)
    simpa using this
  · cases h

/-! #### len, items, fields -/
def dLen : D → Option D
  | .str x => if x.length ≤ sizeLine then some (.int x.length) else none
  | .lst ds => some (.int ds.length)
  | .tup ds => some (.int ds.length)
  | .dct ks _ => some (.int ks.length)
  | _ => none
def rLenA (K : PySem.W.Frag) : List V → Hp → VK → Prop := fun xs H Q => (∃ z, xs = [.str z] ∧ z.length ≤ sizeLine ∧ Q (.int z.length) H) ∨ (∃ p ys, xs = [.ref p] ∧ (SqL K H p ys ∨ SqT K H p ys) ∧ Q (.int ys.length) H) ∨ ∃ a kvs, xs = [V.ref a] ∧ H a = some (.dK kvs) ∧ Q (.int kvs.length) H
theorem call_lenA : CallR X (.builtin "len") (rLenA X.K) := CallR.or call_len_str (CallR.or call_len_seq call_lenD)
theorem opc_len : OpC1 X G (rLenA X.K) dLen := fun Z F ρ σ H x d u Q E h hu q => by
  unfold dLen at h
  split at h
  · split at h
    · cases h; cases pk_str hu; exact .inl ⟨_, rfl, ‹_›, q _ (.int _)⟩
    · cases h
  · cases h
    obtain ⟨a, vs, rfl, h1, h2⟩ := hu
    exact .inr (.inl ⟨a, vs, rfl, .inl h1, by rw [← h2.length]; exact q _ (.int _)⟩)
  · cases h
    obtain ⟨a, vs, rfl, h1, h2⟩ := hu
    exact .inr (.inl ⟨a, vs, rfl, .inr h1, by rw [← h2.length]; exact q _ (.int _)⟩)
  · cases h
    obtain ⟨a, vs, rfl, h1, h2, h3⟩ := hu
    exact .inr (.inr ⟨a, _, rfl, h1, by rw [List.length_zip, ← h2, Nat.min_self]; exact q _ (.int _)⟩)
  · cases h
theorem ri_c1 {id : String} {x : Str} {r : List V → Hp → VK → Prop} {g : D → Option D} {fa : Inr} (hc : CallR X (.builtin id) r) (hg : OpC1 X G r g) (hl : Gl X x) (hm : X.mg x = none) (hv : bootBuiltins x = some (.builtin id)) (ha : RP X G a fa)
    (hn : x ≠ "__name__" := by decide) (hdb : (x == ("__debug__" : Str)) = false := by decide) (hs : starEach [a] X.env = (false, eval a X.env) :: starEach [] X.env := by rfl) (hpl : (backTo pos (starEach [] X.env)).any (·.1) = false := by rfl) :
    RI X G (.Call (.Name x p) [a] [] pos) (iUn g fa) :=
  PE.lo (pe_callB hc hl hm hv (pa_cons ha pa_nil hs) hn hdb hs hpl) (tI_c1 hg)
theorem ri_t1 {T : String} {x : Str} {r : List V → Hp → VK → Prop} {g : D → Option D} {fa : Inr} (hc : CallR X (.type T) r) (hg : OpC1 X G r g) (hl : Gl X x) (hm : X.mg x = none) (hv : bootBuiltins x = some (.type T)) (ha : RP X G a fa)
    (hn : x ≠ "__name__" := by decide) (hdb : (x == ("__debug__" : Str)) = false := by decide) (hs : starEach [a] X.env = (false, eval a X.env) :: starEach [] X.env := by rfl) (hpl : (backTo pos (starEach [] X.env)).any (·.1) = false := by rfl) :
    RI X G (.Call (.Name x p) [a] [] pos) (iUn g fa) :=
  PE.lo (pe_callTy hc hl hm hv (pa_cons ha pa_nil hs) hn hdb hs hpl) (tI_c1 hg)
theorem ri_c2 {id : String} {x : Str} {r : List V → Hp → VK → Prop} {g : D → D → Option D} {fa fb : Inr} (hc : CallR X (.builtin id) r) (hg : OpC2 X G r g) (hl : Gl X x) (hm : X.mg x = none) (hv : bootBuiltins x = some (.builtin id)) (ha : RP X G a fa) (hb : RP X G b fb)
    (hn : x ≠ "__name__" := by decide) (hdb : (x == ("__debug__" : Str)) = false := by decide) (hs : starEach [a, b] X.env = (false, eval a X.env) :: starEach [b] X.env := by rfl) (hs' : starEach [b] X.env = (false, eval b X.env) :: starEach [] X.env := by rfl) (hpl : (backTo pos (starEach [b] X.env)).any (·.1) = false := by rfl) :
    RI X G (.Call (.Name x p) [a, b] [] pos) (iBin g fa fb) :=
  PE.lo (pe_callB hc hl hm hv (pa_cons ha (pa_cons hb pa_nil hs') hs) hn hdb hs hpl) (tI_c2 hg)
/-- a module's name for a built-in: gcd -/
theorem ri_f2 {id : String} {x : Str} {r : List V → Hp → VK → Prop} {g : D → D → Option D} {fa fb : Inr} (hc : CallR X (.builtin id) r) (hg : OpC2 X G r g) (hl : Gl X x) (hm : X.mg x = some (.builtin id)) (ha : RP X G a fa) (hb : RP X G b fb)
    (hdb : (x == ("__debug__" : Str)) = false := by decide) (hs : starEach [a, b] X.env = (false, eval a X.env) :: starEach [b] X.env := by rfl) (hs' : starEach [b] X.env = (false, eval b X.env) :: starEach [] X.env := by rfl) (hpl : (backTo pos (starEach [b] X.env)).any (·.1) = false := by rfl) :
    RI X G (.Call (.Name x p) [a, b] [] pos) (iBin g fa fb) :=
  PE.lo (pe_callBfun hc hl hm (pa_cons ha (pa_cons hb pa_nil hs') hs) hdb hs hpl) (tI_c2 hg)
def dGcd : D → D → Option D
  | .int i, .int j => some (.int (Nat.gcd i.natAbs j.natAbs : Nat))
  | _, _ => none
theorem opc_gcd : OpC2 X G rGcd dGcd := fun Z F ρ σ H x y d u v Q E h hu hv q => by
  unfold dGcd at h
  split at h
  · cases h; cases pk_int hu; cases pk_int hv
    exact ⟨_, _, rfl, q _ (.int _)⟩
  · cases h
def dAbs : D → Option D
  | .int i => some (.int (if i < 0 then -i else i))
  | _ => none
theorem opc_abs : OpC1 X G (fun xs H Q => ∃ i, xs = [.int i] ∧ Q (.int (if i < 0 then -i else i)) H) dAbs := fun Z F ρ σ H x d u Q E h hu q => by
  unfold dAbs at h
  split at h
  · cases h; cases pk_int hu; exact ⟨_, rfl, q _ (.int _)⟩
  · cases h
def dInt : D → Option D
  | .int i => some (.int i)
  | .bl b => some (.int (if b then 1 else 0))
  | _ => none
theorem opc_int : OpC1 X G (fun xs H Q => (∃ i, xs = [.int i] ∧ Q (.int i) H) ∨ ∃ k, xs = [.bl k] ∧ Q (.int (if k then 1 else 0)) H) dInt := fun Z F ρ σ H x d u Q E h hu q => by
  unfold dInt at h
  split at h
  · cases h; cases pk_int hu; exact .inl ⟨_, rfl, q _ (.int _)⟩
  · cases h; cases pk_bl hu; exact .inr ⟨_, rfl, q _ (.int _)⟩
  · cases h
/-- a place, counted from either end -/
def dAt (xs : List D) (i : Int) : Option D := atI xs i
def dIx : D → D → Option D
  | .lst ds, .int i => atI ds i
  | .tup ds, .int i => atI ds i
  | .str x, .int i => if x.length ≤ sizeLine then (atI x.cps.toList i).map fun c => .str ⟨#[c]⟩ else none
  | _, _ => none
def rIxA (K : PySem.W.Frag) : R2 := fun x y H Q => rIxL K x y H Q ∨ rIxT K x y H Q ∨ rIxS x y H Q
theorem IxR.or {r r' : R2} (h : IxR X r) (h' : IxR X r') : IxR X (fun x y H Q => r x y H Q ∨ r' x y H Q) := by
  intro value slice pins s σ H x y v u Q I rx ry q hs
  rcases q with q | q
  · exact h value slice pins s σ H x y v u Q I rx ry q hs
  · exact h' value slice pins s σ H x y v u Q I rx ry q hs
theorem ix_any : IxR X (rIxA X.K) := IxR.or ix_list (IxR.or ix_tup ix_str)
theorem atI_reps {K : PySem.W.Frag} {F : Hp} {ds : List D} {vs : List V} {i : Int} {d : D} (r : Reps K G F ds vs) (h : atI ds i = some d) : ∃ v, atI vs i = some v ∧ Rep K G F d v := by
  unfold atI at h ⊢
  rw [← r.length]
  cases e : ixN ds.length i with
  | none => rw [e] at h; cases h
  | some j =>
    rw [e] at h
    obtain ⟨v, h1, h2⟩ := r.get (i := j) (d := d) h
    exact ⟨v, h1, h2⟩
theorem opi_ix : OpI X G (rIxA X.K) dIx := fun Z F ρ σ H x y d u v Q E h hu hv q => by
  unfold dIx at h
  split at h
  · obtain ⟨a, vs, rfl, h1, h2⟩ := hu
    cases pk_int hv
    obtain ⟨w, h3, h4⟩ := atI_reps h2 h
    exact .inl ⟨_, _, _, _, rfl, rfl, h1, h3, q _ h4⟩
  · obtain ⟨a, vs, rfl, h1, h2⟩ := hu
    cases pk_int hv
    obtain ⟨w, h3, h4⟩ := atI_reps h2 h
    exact .inr (.inl ⟨_, _, _, _, rfl, rfl, h1, h3, q _ h4⟩)
  · split at h
    · rename_i x i hx
      cases pk_str hu
      cases pk_int hv
      cases e : atI x.cps.toList i with
      | none => rw [e] at h; cases h
      | some c =>
        rw [e] at h; cases h
        exact .inr (.inr ⟨_, _, _, rfl, rfl, hx, e, q _ (.str _)⟩)
    · cases h
  · cases h
theorem ri_ix {fa fb : Inr} (ha : RP X G a fa) (hb : RP X G b fb) (hs : PlainIx b := by exact fun _ _ => rfl) : RI X G (.Subscript a b pos) (iBin dIx fa fb) := PE.lo (pe_ix ix_any ha hb hs) (tI_op opi_ix)

/-- what is known of the classes of the text: own ones have numbers below 100, errors from 100 on -/
structure GOk (K : PySem.W.Frag) (G : Nat → Option CI) : Prop where
  cls : ∀ c i, c < 100 → G c = some i → Cls K i.adr
  fld : ∀ c i f, c < 100 → G c = some i → f ∈ i.names → NoAttr K i.adr f
  nd : ∀ c i, c < 100 → G c = some i → i.names.Nodup
  few : ∀ c i, c < 100 → G c = some i → i.names.length ≤ 100
theorem lookup_zip {f : Str} : ∀ {ns : List Str} {vs : List V} {j : Nat} {v : V}, ns.Nodup → ns[j]? = some f → vs[j]? = some v → (ns.zip vs).lookup f = some v
  | [], _, _, _, _, h, _ => by simp at h
  | _ :: _, [], _, _, _, _, h => by simp at h
  | n :: ns, u :: vs, 0, v, nd, h1, h2 => by
    simp at h1 h2; subst h1; subst h2
    simp [List.lookup]
  | n :: ns, u :: vs, j + 1, v, nd, h1, h2 => by
    have h1' : ns[j]? = some f := by simpa using h1
    have h2' : vs[j]? = some v := by simpa using h2
    obtain ⟨n1, n2⟩ := List.nodup_cons.mp nd
    have hne : f ≠ n := fun z => n1 (z ▸ List.mem_of_getElem? h1')
    have hb : (f == n) = false := by simpa using hne
    rw [List.zip_cons_cons, List.lookup_cons, hb]
    exact lookup_zip n2 h1' h2'
/-- x.f of the class c, its j-th field -/
def dFld (c j : Nat) : D → Option D
  | .obj c' ds => if c' = c then ds[j]? else none
  | _ => none
theorem ri_fld {c j : Nat} {i : CI} {f : Str} {fa : Inr} (hG : GOk X.K G) (hi : G c = some i) (hc : c < 100) (hf : i.names[j]? = some f) (ha : RP X G a fa) (hb : attributeBase a f X.env (eval a X.env) = eval a X.env := by rfl) :
    RI X G (.Attribute a f pos) (iUn (dFld c j) fa) :=
  PE.lo (pe_fld ha hb) fun σ H Q ⟨Z, F, ρ, d, E, hf', q⟩ => by
    unfold iUn at hf'
    cases h1 : fa ρ with
    | none => rw [h1] at hf'; cases hf'
    | some x =>
      rw [h1] at hf'
      refine ⟨Z, F, ρ, x, E, h1, fun u hu => ?_⟩
      have hf'' : dFld c j x = some d := hf'
      unfold dFld at hf''
      split at hf''
      · rename_i c' ds
        split at hf''
        · subst c'
          obtain ⟨aa, i', dx, vs, rfl, g, hH, hl, r⟩ := hu
          rw [hi] at g; cases g
          obtain ⟨v, h3, h4⟩ := r.get hf''
          exact ⟨aa, i.adr, dx, _, v, rfl, hH, hG.cls c i hc hi, hG.fld c i f hc hi (List.mem_of_getElem? hf), lookup_zip (hG.nd c i hc hi) hf h3, q v h4⟩
        · cases hf''
      · cases hf''

/-! #### truth values -/
def uOf (f : Inr) : En → Option Bool := fun ρ => match f ρ with
  | some (.bl b) => some b
  | _ => none
def D.truth : D → Option Bool
  | .non => some false
  | .bl b => some b
  | .int i => some (i != 0)
  | .str x => if x.length ≤ sizeLine then some ((x.length : Int) != 0) else none
  | .lst ds => some (!ds.isEmpty)
  | .tup ds => some (!ds.isEmpty)
  | .dct ks _ => some (!ks.isEmpty)
  | _ => none
def uTru (f : Inr) : En → Option Bool := fun ρ => (f ρ).bind D.truth
def uNot (f : En → Option Bool) : En → Option Bool := fun ρ => (f ρ).map not
def uAnd (f g : En → Option Bool) : En → Option Bool := fun ρ => match f ρ with
  | some true => g ρ
  | r => r
def uOr (f g : En → Option Bool) : En → Option Bool := fun ρ => match f ρ with
  | some false => g ρ
  | r => r
theorem ru_val {f : Inr} (h : RI X G e f) (he : ∀ whole, isTrue e X.env whole = (do let v ← whole; standAt e.pos; holding [v] (truthy v)) := by intro _; rfl) : RU X G e (uOf f) :=
  PT.lo (pt_val h he) fun σ H Q ⟨Z, F, ρ, b, E, hf, q⟩ => by
    unfold uOf at hf
    split at hf
    · cases hf
      refine ⟨Z, F, ρ, _, E, ‹_›, fun v hv => ?_⟩
      cases hv
      exact ⟨_, rfl, q⟩
    · cases hf
theorem pk_truth {K : PySem.W.Frag} {F H : Hp} : ∀ {d : D} {v : V} {b : Bool}, Pk K G F H d v → d.truth = some b → TruV K v H b
  | .non, _, _, h, e => by cases e; cases pk_non h; exact rfl
  | .bl _, _, _, h, e => by cases e; cases pk_bl h; exact rfl
  | .int _, _, _, h, e => by cases e; cases pk_int h; exact rfl
  | .str _, _, _, h, e => by
    unfold D.truth at e
    dsimp only at e
    split at e
    · cases e; cases pk_str h; exact ⟨‹_›, rfl⟩
    · cases e
  | .lst _, _, _, ⟨a, vs, ea, h1, h2⟩, e => by
    cases e; subst ea
    refine .inl ⟨vs, h1, ?_⟩
    cases h2 <;> rfl
  | .tup _, _, _, ⟨a, vs, ea, h1, h2⟩, e => by
    cases e; subst ea
    refine .inr (.inl ⟨vs, h1, ?_⟩)
    cases h2 <;> rfl
  | .dct ks _, _, _, ⟨a, vs, ea, h1, hl, h2⟩, e => by
    cases e; subst ea
    refine .inr (.inr ⟨_, h1, ?_⟩)
    cases ks with
    | nil => rfl
    | cons k ks =>
      cases vs with
      | nil => cases hl
      | cons v vs => rfl
  | .obj _ _, _, _, _, e => by cases e
theorem ru_tru {f : Inr} (h : RP X G e f) (he : ∀ whole, isTrue e X.env whole = (do let v ← whole; standAt e.pos; holding [v] (truthy v)) := by intro _; rfl) : RU X G e (uTru f) :=
  PT.lo (pt_truth h he) fun σ H Q ⟨Z, F, ρ, b, E, hf, q⟩ => by
    unfold uTru at hf
    cases h1 : f ρ with
    | none => rw [h1] at hf; cases hf
    | some d =>
      rw [h1] at hf
      exact ⟨Z, F, ρ, d, E, h1, fun v hv => ⟨b, pk_truth hv hf, q⟩⟩
theorem ru_not {f : En → Option Bool} (h : RU X G a f) : RU X G (.UnaryOp .Not a pos) (uNot f) :=
  PT.lo (pt_not h) fun σ H Q ⟨Z, F, ρ, b, E, hf, q⟩ => by
    unfold uNot at hf
    cases h1 : f ρ with
    | none => rw [h1] at hf; cases hf
    | some d => rw [h1] at hf; cases hf; exact ⟨Z, F, ρ, d, E, h1, q⟩
def RW (X : Cx) (G : Nat → Option CI) (e : Expr) (f : En → Option Bool) : Prop := PW X e (tU X.K G f)
theorem PW.lo {t t' : TT} (h : PW X e t) (i : ∀ σ H Q, t' σ H Q → t σ H Q) : PW X e t' := ⟨fun wh pins s σ H Q I q => h.run wh pins s σ H Q I (i σ H Q q)⟩
theorem rw_and1 {f : En → Option Bool} (h : RU X G a f) : RW X G (.BoolOp .And [a] pos) f := pw_and1 h
theorem rw_or1 {f : En → Option Bool} (h : RU X G a f) : RW X G (.BoolOp .Or [a] pos) f := pw_or1 h
theorem rw_and {f g : En → Option Bool} {rest : List Expr} (h : RU X G a f) (h' : RW X G (.BoolOp .And (b :: rest) pos) g) : RW X G (.BoolOp .And (a :: b :: rest) pos) (uAnd f g) :=
  PW.lo (pw_and h h') fun σ H Q ⟨Z, F, ρ, b, E, hf, q⟩ => by
    unfold uAnd at hf
    split at hf
    · refine ⟨Z, F, ρ, true, E, ‹_›, ?_⟩
      refine iteT ?_
      exact ⟨Z, F, ρ, b, E, hf, q⟩
    · rename_i hne
      refine ⟨Z, F, ρ, b, E, hf, ?_⟩
      cases b with
      | true => exact absurd hf hne
      | false => exact iteF q
theorem rw_or {f g : En → Option Bool} {rest : List Expr} (h : RU X G a f) (h' : RW X G (.BoolOp .Or (b :: rest) pos) g) : RW X G (.BoolOp .Or (a :: b :: rest) pos) (uOr f g) :=
  PW.lo (pw_or h h') fun σ H Q ⟨Z, F, ρ, b, E, hf, q⟩ => by
    unfold uOr at hf
    split at hf
    · refine ⟨Z, F, ρ, false, E, ‹_›, ?_⟩
      refine iteF ?_
      exact ⟨Z, F, ρ, b, E, hf, q⟩
    · rename_i hne
      refine ⟨Z, F, ρ, b, E, hf, ?_⟩
      cases b with
      | false => exact absurd hf hne
      | true => exact iteT q
theorem ru_w {f : En → Option Bool} (h : RW X G e f) : RU X G e f := PW.pt h
/-- and, or, not as values, of truth values -/
def iBl (f : En → Option Bool) : Inr := fun ρ => (f ρ).map D.bl
theorem ri_not {f : Inr} (h : RI X G a f) : RI X G (.UnaryOp .Not a pos) (iBl (uNot (uOf f))) :=
  PE.lo (pe_not h) fun σ H Q ⟨Z, F, ρ, d, E, hf, q⟩ => by
    unfold iBl uNot uOf at hf
    split at hf
    · cases hf
      refine ⟨Z, F, ρ, _, E, ‹_›, fun v hv => ?_⟩
      cases hv
      exact ⟨_, rfl, q _ (.bl _)⟩
    · cases hf
theorem ri_one {op} {f : Inr} (h : RI X G a f) : RI X G (.BoolOp op [a] pos) f := pe_one h
def iAnd (f g : Inr) : Inr := fun ρ => match f ρ with
  | some (.bl true) => g ρ
  | some (.bl false) => some (.bl false)
  | _ => none
def iOr (f g : Inr) : Inr := fun ρ => match f ρ with
  | some (.bl false) => g ρ
  | some (.bl true) => some (.bl true)
  | _ => none
theorem ri_and {f g : Inr} {rest : List Expr} (h : RI X G a f) (h' : RI X G (.BoolOp .And (b :: rest) pos) g) : RI X G (.BoolOp .And (a :: b :: rest) pos) (iAnd f g) :=
  PE.lo (pe_and h h') fun σ H Q ⟨Z, F, ρ, d, E, hf, q⟩ => by
    unfold iAnd at hf
    split at hf
    · refine ⟨Z, F, ρ, _, E, ‹_›, fun v hv => ?_⟩
      cases hv
      refine ⟨_, rfl, ?_⟩
      refine iteT ?_
      exact ⟨Z, F, ρ, d, E, hf, q⟩
    · cases hf
      refine ⟨Z, F, ρ, _, E, ‹_›, fun v hv => ?_⟩
      cases hv
      refine ⟨_, rfl, ?_⟩
      refine iteF ?_
      exact q _ (.bl _)
    · cases hf
theorem ri_or {f g : Inr} {rest : List Expr} (h : RI X G a f) (h' : RI X G (.BoolOp .Or (b :: rest) pos) g) : RI X G (.BoolOp .Or (a :: b :: rest) pos) (iOr f g) :=
  PE.lo (pe_or h h') fun σ H Q ⟨Z, F, ρ, d, E, hf, q⟩ => by
    unfold iOr at hf
    split at hf
    · refine ⟨Z, F, ρ, _, E, ‹_›, fun v hv => ?_⟩
      cases hv
      refine ⟨_, rfl, ?_⟩
      refine iteF ?_
      exact ⟨Z, F, ρ, d, E, hf, q⟩
    · cases hf
      refine ⟨Z, F, ρ, _, E, ‹_›, fun v hv => ?_⟩
      cases hv
      refine ⟨_, rfl, ?_⟩
      refine iteT ?_
      exact q _ (.bl _)
    · cases hf
def iIf (c : En → Option Bool) (f g : Inr) : Inr := fun ρ => match c ρ with
  | some true => f ρ
  | some false => g ρ
  | none => none
theorem ri_if {u : En → Option Bool} {f g : Inr} (hc : RU X G c u) (h : RI X G a f) (h' : RI X G b g) : RI X G (.IfExp c a b pos) (iIf u f g) :=
  PE.lo (pe_ifExp hc h h') fun σ H Q ⟨Z, F, ρ, d, E, hf, q⟩ => by
    unfold iIf at hf
    split at hf
    · exact ⟨Z, F, ρ, true, E, ‹_›, iteT ⟨Z, F, ρ, d, E, hf, q⟩⟩
    · exact ⟨Z, F, ρ, false, E, ‹_›, iteF ⟨Z, F, ρ, d, E, hf, q⟩⟩
    · cases hf
end
end Pl
set_option Elab.async false
set_option linter.all false
set_option maxRecDepth 100000
set_option maxHeartbeats 2000000
namespace Pl
open PySem PySem.Spec L2
open PyProof.Rows hiding St

/-! ### values that are made: displays, calls -/
def eI (f : Inr) : M PV := fun ρ => (f ρ).map fun d => (.ok (.val d), ρ)
def eFrz (i : Nat) : M PV := fun ρ => match ρ.at i with
  | some (.val d) => some (.ok (.val d), ρ)
  | some (.own o) => (PV.own o).tree.map fun d => (.ok (.val d), ρ.set i (some (.val d)))
  | _ => none
def eMove (i : Nat) : M PV := fun ρ => match ρ.at i with
  | some (.val d) => some (.ok (.val d), ρ)
  | some (.own o) => some (.ok (.own o), ρ.set i none)
  | _ => none
def mB {α β : Type} (f : M α) (k : α → M β) : M β := fun ρ => match f ρ with
  | some (.ok a, ρ') => k a ρ'
  | some (.error x, ρ') => some (.error x, ρ')
  | none => none
def mR {α : Type} (a : α) : M α := fun ρ => some (.ok a, ρ)
def mO {α : Type} : Option α → M α
  | some a => mR a
  | none => fun _ => none
theorem mB_ok {α β : Type} {f : M α} {k : α → M β} {ρ ρ1 : En} {a : α} (h : f ρ = some (.ok a, ρ1)) : mB f k ρ = k a ρ1 := by unfold mB; rw [h]
theorem mB_er {α β : Type} {f : M α} {k : α → M β} {ρ ρ1 : En} {x : Ex} (h : f ρ = some (.error x, ρ1)) : mB f k ρ = some (.error x, ρ1) := by unfold mB; rw [h]
theorem mB_no {α β : Type} {f : M α} {k : α → M β} {ρ : En} (h : f ρ = none) : mB f k ρ = none := by unfold mB; rw [h]
/-- what a bind that comes to an end went through -/
theorem mB_cases {α β : Type} {f : M α} {k : α → M β} {ρ ρ' : En} {r : Except Ex β} (h : mB f k ρ = some (r, ρ')) :
    (∃ x, f ρ = some (.error x, ρ') ∧ r = .error x) ∨ ∃ a ρ1, f ρ = some (.ok a, ρ1) ∧ k a ρ1 = some (r, ρ') := by
  unfold mB at h
  split at h
  · exact .inr ⟨_, _, ‹_›, h⟩
  · cases h; exact .inl ⟨_, ‹_›, rfl⟩
  · cases h
theorem mO_some {α β : Type} {o : Option α} {k : α → M β} {ρ ρ' : En} {r : Except Ex β} (h : mB (mO o) k ρ = some (r, ρ')) : ∃ a, o = some a ∧ k a ρ = some (r, ρ') := by
  cases o with
  | none => cases h
  | some a => exact ⟨a, rfl, h⟩

section
variable {X : Cx} {G : Nat → Option CI} {Φ : Zone → Prop} {W : WX} {e a b c : Expr} {es : List Expr} {pos p p' : Pos}
theorem Erh.gr {K : PySem.W.Frag} {Z : Zone} {F F1 : Hp} {ρ' : En} {x : Ex} (g : Gr F F1) (h : Erh K G Z W F ρ' x) : Erh K G Z W F1 ρ' x := fun F' c dd σ' H' g' => h F' c dd σ' H' (g.trans g')
theorem re_i {f : Inr} (h : RI X G e f) : RE X G Φ W e (eI f) := fun Z hZ => PE.lo h fun σ H Q ⟨F, ρ, r, ρ', E, hf, q1, q2⟩ => by
  unfold eI at hf
  cases h1 : f ρ with
  | none => rw [h1] at hf; cases hf
  | some d =>
    rw [h1] at hf; cases hf
    exact ⟨Z, F, ρ, d, E, h1, fun v hv => q1 _ rfl F v H Gr.rfl E hv⟩
theorem re_frz (i : Nat) {x : Str} (hN : X.N[i]? = some x := by rfl) (hv : Vis X.env.scope x := by first | exact Or.inl rfl | exact Or.inr (Or.inl rfl) | exact Or.inr (Or.inr rfl)) (hd : (x == ("__debug__" : Str)) = false := by decide)
    (hcd : (x == ("__classdict__" : Str)) = false := by decide) : RE X G Φ W (.Name x pos) (eFrz i) := fun Z hZ =>
  PE.lo (pe_var hN hv hd hcd) fun σ H Q ⟨F, ρ, r, ρ', E, hf, q1, q2⟩ => by
    unfold eFrz at hf
    split at hf
    · cases hf
      obtain ⟨v, h1, h2⟩ := E.val i _ ‹_›
      exact ⟨v, sl_some h1, q1 _ rfl F v H Gr.rfl E h2⟩
    · rename_i o ho
      cases ht : (PV.own o).tree with
      | none => rw [ht] at hf; cases hf
      | some d =>
        rw [ht] at hf; cases hf
        obtain ⟨v, h1, h2⟩ := E.take ho
        obtain ⟨F', g, E', hr⟩ := h2.frz (E.drop i) ht
        refine ⟨v, sl_some h1, q1 _ rfl F' v H g ?_ hr⟩
        have hi : i < ρ.length := at_lt ho
        have E2 := E'.put (i := i) (pv := .val d) (v := v) (by rw [List.length_set]; exact hi) hr
        rw [List.set_set] at E2
        have e : σ.set i (some v) = σ := by
          have := sl_some h1
          apply List.ext_getElem?
          intro n
          by_cases hn : i = n
          · subst hn; rw [List.getElem?_set_self (by rw [← E.len]; exact hi), this]
          · rw [List.getElem?_set_ne hn]
        rw [e] at E2
        exact E2
    · cases hf
theorem re_move (i : Nat) {x : Str} (hN : X.N[i]? = some x := by rfl) (hv : Vis X.env.scope x := by first | exact Or.inl rfl | exact Or.inr (Or.inl rfl) | exact Or.inr (Or.inr rfl)) (hd : (x == ("__debug__" : Str)) = false := by decide)
    (hcd : (x == ("__classdict__" : Str)) = false := by decide) : RE X G Φ W (.Name x pos) (eMove i) := fun Z hZ =>
  PE.lo (pe_var hN hv hd hcd) fun σ H Q ⟨F, ρ, r, ρ', E, hf, q1, q2⟩ => by
    unfold eMove at hf
    split at hf
    · cases hf
      obtain ⟨v, h1, h2⟩ := E.val i _ ‹_›
      exact ⟨v, sl_some h1, q1 _ rfl F v H Gr.rfl E h2⟩
    · cases hf
      obtain ⟨v, h1, h2⟩ := E.take ‹_›
      exact ⟨v, sl_some h1, q1 _ rfl F v H Gr.rfl (E.drop i) h2⟩
    · cases hf

/-! #### arguments: trees -/
def aNil : M (List Ag) := mR []
def aCons (f : M PV) (r : M (List Ag)) : M (List Ag) := mB f fun pv => mB (mO pv.tree) fun d => mB r fun as => mR (.d d :: as)
theorem ra_nil : RA X G Φ W [] aNil := fun Z hZ => PA.lo pa_nil fun σ H Q ⟨F, ρ, r, ρ', E, hf, q1, q2⟩ => by
  cases hf
  exact q1 _ rfl F _ H Gr.rfl E .nil
theorem AgsOk.gr {K : PySem.W.Frag} {F F' : Hp} {ρ ρ' : En} {σ : St} (g : Gr F F') : ∀ {as : List Ag} {vs : List V}, AgsOk K G F ρ σ as vs → AgsOk K G F' ρ' σ as vs
  | _, _, .nil => .nil
  | .d _ :: _, _, .cons h r => .cons (Rep.gr g h) (AgsOk.gr g r)
  | .b _ :: _, _, .cons h r => .cons h (AgsOk.gr g r)
theorem ra_cons {f : M PV} {r : M (List Ag)} (ha : RE X G Φ W e f) (hr : RA X G Φ W es r) (hs : starEach (e :: es) X.env = (false, eval e X.env) :: starEach es X.env := by rfl) : RA X G Φ W (e :: es) (aCons f r) := fun Z hZ =>
  PA.lo (pa_cons (ha Z hZ) (hr Z hZ) hs) fun σ H Q ⟨F, ρ, rr, ρ', E, hf, q1, q2⟩ => by
    unfold aCons at hf
    rcases mB_cases hf with ⟨x, h1, rfl⟩ | ⟨pv, ρ1, h1, h2⟩
    · exact ⟨F, ρ, _, _, E, h1, fun pv e => (by cases e), fun y e => by cases e; exact q2 _ rfl⟩
    · refine ⟨F, ρ, _, _, E, h1, fun pv' e F1 v H1 g1 E1 hv => ?_, fun y e => by cases e⟩
      cases e
      obtain ⟨d, hd, h3⟩ := mO_some h2
      obtain ⟨F2, g2, E2, hr2⟩ := hv.frz E1 hd
      rcases mB_cases h3 with ⟨x, h4, rfl⟩ | ⟨as, ρ2, h4, h5⟩
      · exact ⟨F2, ρ1, _, _, E2, h4, fun _ e => (by cases e), fun y e => by cases e; exact (q2 _ rfl).gr (g1.trans g2)⟩
      · cases h5
        exact ⟨F2, ρ1, _, _, E2, h4, fun as' e F3 vs H3 g3 E3 ao => by
          cases e
          exact q1 _ rfl F3 _ H3 ((g1.trans g2).trans g3) E3 (.cons (Rep.gr g3 hr2) ao), fun y e => by cases e⟩

/-- all of them trees -/
def Ag.ds : List Ag → Option (List D)
  | [] => some []
  | .d z :: r => (Ag.ds r).map (z :: ·)
  | .b _ :: _ => none
theorem ags_reps {K : PySem.W.Frag} {F : Hp} {ρ : En} {σ : St} : ∀ {as : List Ag} {vs : List V} {ds : List D}, AgsOk K G F ρ σ as vs → Ag.ds as = some ds → Reps K G F ds vs
  | _, _, _, .nil, e => by cases e; exact .nil
  | .d z :: r, _, _, .cons h t, e => by
    unfold Ag.ds at e
    cases h1 : Ag.ds r with
    | none => rw [h1] at e; cases e
    | some ds => rw [h1] at e; cases e; exact .cons h (ags_reps t h1)
  | .b _ :: _, _, _, .cons _ _, e => by cases e

/-- a display -/
def eTup (f : M (List Ag)) : M PV := mB f fun as => mB (mO (Ag.ds as)) fun ds => if ds.length ≤ sizeLine then mR (.val (.tup ds)) else fun _ => none
def eLst (f : M (List Ag)) : M PV := mB f fun as => mB (mO (Ag.ds as)) fun ds => if ds.length ≤ sizeLine then mR (.own (.lst ds)) else fun _ => none
theorem re_tup {x1} {f : M (List Ag)} (h : RA X G Φ W es f) : RE X G Φ W (.Tuple es x1 pos) (eTup f) := fun Z hZ => PE.lo (pe_tup (h Z hZ)) fun σ H Q ⟨F, ρ, r, ρ', E, hf, q1, q2⟩ => by
  unfold eTup at hf
  rcases mB_cases hf with ⟨x, h1, rfl⟩ | ⟨as, ρ1, h1, h2⟩
  · exact ⟨F, ρ, _, _, E, h1, fun _ e => (by cases e), fun y e => by cases e; exact q2 _ rfl⟩
  · refine ⟨F, ρ, _, _, E, h1, fun as' e F1 vs H1 g1 E1 hv => ?_, fun y e => by cases e⟩
    cases e
    obtain ⟨ds, hd, h3⟩ := mO_some h2
    split at h3
    · cases h3
      have hr := ags_reps hv hd
      refine ⟨by rw [← hr.length]; assumption, fun p hp => ?_⟩
      have hF : F1 p = none := E1.ext.free hp
      exact q1 _ rfl (upd F1 p (.tup vs)) _ _ (g1.trans (Gr.new hF)) (E1.new hp) (.tup (.of upd_same) (hr.gr (Gr.new hF)))
    · cases h3
theorem re_lst {f : M (List Ag)} (h : RA X G Φ W es f) : RE X G Φ W (.List es pos) (eLst f) := fun Z hZ => PE.lo (pe_lst (h Z hZ)) fun σ H Q ⟨F, ρ, r, ρ', E, hf, q1, q2⟩ => by
  unfold eLst at hf
  rcases mB_cases hf with ⟨x, h1, rfl⟩ | ⟨as, ρ1, h1, h2⟩
  · exact ⟨F, ρ, _, _, E, h1, fun _ e => (by cases e), fun y e => by cases e; exact q2 _ rfl⟩
  · refine ⟨F, ρ, _, _, E, h1, fun as' e F1 vs H1 g1 E1 hv => ?_, fun y e => by cases e⟩
    cases e
    obtain ⟨ds, hd, h3⟩ := mO_some h2
    split at h3
    · cases h3
      have hr := ags_reps hv hd
      refine ⟨by rw [← hr.length]; assumption, fun p hp => ?_⟩
      have hF : F1 p = none := E1.ext.free hp
      refine q1 _ rfl F1 _ _ g1 (E1.newOwn hp) ⟨p, rfl, hF, E1.fresh hp, ⟨vs, upd_same, hr⟩, fun ho => ?_⟩
      obtain ⟨_, u, hu⟩ := E1.there ho
      rw [hp] at hu; cases hu
    · cases h3

/-! ### a def's promise, told by a plain function of its arguments -/
/-- the arguments (the first one may be lent); the value or the error, and what is left of the lent one -/
abbrev Den := List PV → Option (Except Ex PV × Option OD)
def zoneOf (H F : Hp) (pl : Option Addr) : Zone := ⟨H, F, fun i => if i = 0 then pl else none⟩
def upd0 (as : List PV) : Option OD → En
  | some o => (as.map some).set 0 (some (.bor o))
  | none => as.map some
def spD (K : PySem.W.Frag) (G : Nat → Option CI) (den : Den) : Sp := fun vs H Q E => ∃ F as pl r o', EnvOk K G (zoneOf H F pl) F (as.map some) (vs.map some) H ∧ den as = some (r, o') ∧
  (∀ pv, r = .ok pv → ∀ F' v H', Gr F F' → EnvOk K G (zoneOf H F pl) F' (upd0 as o') (vs.map some) H' → PvOk K G (zoneOf H F pl) F' (upd0 as o') (vs.map some) H' pv v → Q v H') ∧
  (∀ x, r = .error x → ∀ F' c dd H', Gr F F' → EnvOk K G (zoneOf H F pl) F' (upd0 as o') (vs.map some) H' → ExOk K G F' x c dd → E c dd H')
/-- the def at f does what den says, for n arguments -/
structure DOk (P : Program) (w : World) (K : PySem.W.Frag) (G : Nat → Option CI) (mg : Str → Option Value) (base : Heap) (k : Nat) (f : Addr) (fd : FuncData) (ps : List Str) (den : Den) : Prop where
  fn : FnOk P w K mg base (L2.CX P w) k f fd ps (spD K G den)
theorem DOk.mono {P : Program} {w : World} {K : PySem.W.Frag} {mg : Str → Option Value} {base : Heap} {j k : Nat} {f : Addr} {fd : FuncData} {ps : List Str} {den : Den} (h : DOk P w K G mg base j f fd ps den) (hk : j ≤ k) : DOk P w K G mg base k f fd ps den := ⟨h.fn.mono hk⟩
/-- a function that says less -/
theorem DOk.less {P : Program} {w : World} {K : PySem.W.Frag} {mg : Str → Option Value} {base : Heap} {k : Nat} {f : Addr} {fd : FuncData} {ps : List Str} {den den' : Den} (h : DOk P w K G mg base k f fd ps den)
    (hd : ∀ as r, den' as = some r → den as = some r) : DOk P w K G mg base k f fd ps den' :=
  ⟨h.fn.imp fun vs H Q E ⟨F, as, pl, r, o', e, d, q⟩ => ⟨F, as, pl, r, o', e, hd _ _ d, q⟩⟩

theorem map_at {as : List PV} {i : Nat} {p : PV} (h : En.at (as.map some) i = some p) : as[i]? = some p := by
  unfold En.at at h
  rw [List.getD_eq_getElem?_getD, List.getElem?_map] at h
  cases e : as[i]? with
  | none => rw [e] at h; cases h
  | some q => rw [e] at h; cases h; rfl
theorem at_map {as : List PV} {i : Nat} {p : PV} (h : as[i]? = some p) : En.at (as.map some) i = some p := by
  unfold En.at
  rw [List.getD_eq_getElem?_getD, List.getElem?_map, h]; rfl
theorem map_sl {vs : List V} {i : Nat} {v : V} (h : sl (vs.map some) i = some v) : vs[i]? = some v := by
  unfold sl at h
  rw [List.getD_eq_getElem?_getD, List.getElem?_map] at h
  cases e : vs[i]? with
  | none => rw [e] at h; cases h
  | some q => rw [e] at h; cases h; rfl
theorem sl_map {vs : List V} {i : Nat} {v : V} (h : vs[i]? = some v) : sl (vs.map some) i = some v := by
  unfold sl
  rw [List.getD_eq_getElem?_getD, List.getElem?_map, h]; rfl
/-- trees as arguments -/
theorem args_vals {K : PySem.W.Frag} {Z : Zone} {F H : Hp} {ρ : En} {σ : St} {ds : List D} {vs : List V} (E : EnvOk K G Z F ρ σ H) (r : Reps K G F ds vs) : EnvOk K G (zoneOf H F none) F ((ds.map PV.val).map some) (vs.map some) H where
  len := by rw [List.length_map, List.length_map, List.length_map]; exact r.length
  ext := E.ext
  val := fun i d h => by
    have h1 := map_at h
    rw [List.getElem?_map] at h1
    cases e : ds[i]? with
    | none => rw [e] at h1; cases h1
    | some d' =>
      rw [e] at h1; cases h1
      obtain ⟨v, h2, h3⟩ := r.get e
      exact ⟨v, sl_map h2, h3⟩
  own := fun i o h => by
    have h1 := map_at h
    rw [List.getElem?_map] at h1
    cases e : ds[i]? <;> rw [e] at h1 <;> cases h1
  bor := fun i o h => by
    have h1 := map_at h
    rw [List.getElem?_map] at h1
    cases e : ds[i]? <;> rw [e] at h1 <;> cases h1
  dis := fun i j o o' l h => by
    have h1 := map_at h
    rw [List.getElem?_map] at h1
    cases e : ds[i]? <;> rw [e] at h1 <;> cases h1
  pins := fun i j l h => by
    unfold zoneOf at h
    dsimp only at h
    split at h <;> cases h
  pinh := fun i l h => by
    unfold zoneOf at h
    dsimp only at h
    split at h <;> cases h
  pinH := fun i l h => by
    unfold zoneOf at h
    dsimp only at h
    split at h <;> cases h
  kept := fun a o h _ => h
  grow := fun a o h => .inl h
  gf := Gr.rfl
  adr := fun i a h => by
    have h1 := map_at h
    rw [List.getElem?_map] at h1
    cases e : ds[i]? <;> rw [e] at h1 <;> cases h1
/-- behind a call with trees alone: the caller's environment -/
theorem EnvOk.back {K : PySem.W.Frag} {Z : Zone} {F F' H H' : Hp} {ρ ρ' : En} {σ σ' : St} (E : EnvOk K G Z F ρ σ H) (g : Gr F F') (E' : EnvOk K G (zoneOf H F none) F' ρ' σ' H') : EnvOk K G Z F' ρ σ H' :=
  E.grown (fun a o h => E'.kept a o h fun i hi => by
    unfold zoneOf at hi
    dsimp only at hi
    split at hi <;> cases hi) g E'.ext (fun l ho => by
    obtain ⟨h1, u, h2⟩ := E.there ho
    cases e : F' l with
    | none => rfl
    | some o =>
      rcases E'.grow l o e with z | z
      · have z : F l = some o := z
        rw [h1] at z; cases z
      · have z : H l = none := z
        rw [h2] at z; cases z) fun a o h => E'.grow a o h
theorem PvOk.back {K : PySem.W.Frag} {Z : Zone} {F F' H H' : Hp} {ρ ρ' : En} {σ σ' : St} {pl : Option Addr} (E : EnvOk K G Z F ρ σ H) (ho : ∀ {ρ2 : En} {l : Addr}, ρ2 = ρ → Ow ρ2 σ l → ∃ u, H l = some u) : ∀ {pv : PV} {v : V}, PvOk K G (zoneOf H F pl) F' ρ' σ' H' pv v → PvOk K G Z F' ρ σ H' pv v
  | .val _, _, h => h
  | .own _, _, ⟨l, h1, h2, h3, h4, _⟩ => ⟨l, h1, h2, E.fresh h3, h4, fun z => by
    obtain ⟨u, hu⟩ := ho rfl z
    have h3 : H l = none := h3
    rw [h3] at hu; cases hu⟩
  | .bor _, _, h => h
  | .adr _, _, h => h

/-- f(e, ..), the arguments trees -/
def callV (den : Den) (ds : List D) : M PV := fun ρ => match den (ds.map PV.val) with
  | some (r, none) => some (r, ρ)
  | _ => none
def eCall (den : Den) (f : M (List Ag)) : M PV := mB f fun as => mB (mO (Ag.ds as)) fun ds => callV den ds
/-- an error of a callee is taken: the slots are the caller's -/
theorem passAt' (tk : Takes X W) (σ : St) : PassesAt (L2.CX X.prog X.w) X σ (fun cls d H' => W cls d σ H') := fun pins H s e s' I c => tk e s' (XE.of_call I (fun _ _ _ h => h) c)
theorem tE_call {Z : Zone} {den : Den} {f : M (List Ag)} {t : TA} (ht : t = tA X.K G Z W f) : ∀ σ H Q, tE X.K G Z W (eCall den f) σ H Q → tCallSD (spD X.K G den) [] (fun σ cls d H' => W cls d σ H') t σ H Q := fun σ H Q ⟨F, ρ, r, ρ', E, hf, q1, q2⟩ => by
  subst ht
  unfold eCall at hf
  rcases mB_cases hf with ⟨x, h1, rfl⟩ | ⟨as, ρ1, h1, h2⟩
  · exact ⟨F, ρ, _, _, E, h1, fun _ e => (by cases e), fun y e => by cases e; exact q2 _ rfl⟩
  · refine ⟨F, ρ, _, _, E, h1, fun as' e F1 vs H1 g1 E1 hv => ?_, fun y e => by cases e⟩
    cases e
    obtain ⟨ds, hd, h3⟩ := mO_some h2
    have hr := ags_reps hv hd
    unfold callV at h3
    split at h3
    · rename_i r' hden
      cases h3
      refine ⟨F1, ds.map PV.val, none, _, none, by rw [List.append_nil]; exact args_vals E1 hr, hden, fun pv e F' v H' g E' hp => ?_, fun x e F' c dd H' g E' hx => ?_⟩
      · exact q1 pv e F' v H' (g1.trans g) (E1.back g E') (hp.back E1 fun {ρ2 l} e ho => (E1.there (by rw [← e]; exact ho)).2)
      · exact q2 x e F' c dd σ H' (g1.trans g) (E1.back g E') hx
    · cases h3
theorem re_call {k : Nat} {f : Addr} {fd : FuncData} {ps : List Str} {den : Den} {x : Str} {fa : M (List Ag)} (F : DOk X.prog X.w X.K G X.mg X.base k f fd ps den) (hr : Room k X.A) (hg : Gl X x) (hm : X.mg x = some (.ref f)) (hk : PySem.W.keepIn X.K (.ref f) = true) (hb : Binds X.K fd ps [])
    (tk : Takes X W) (ha : RA X G Φ W (e :: es) fa) (hdb : (x == ("__debug__" : Str)) = false := by decide) (he : starEach (e :: es) X.env = (false, eval e X.env) :: starEach es X.env := by rfl) (hpl : (backTo pos (starEach es X.env)).any (·.1) = false := by rfl) :
    RE X G Φ W (.Call (.Name x p) (e :: es) [] pos) (eCall den fa) := fun Z hZ =>
  PE.lo (pe_callSD F.fn hr hg hm hk hb .nil (fun σ => passAt' tk σ) (ha Z hZ) hdb he hpl) (tE_call rfl)
end
end Pl
set_option Elab.async false
set_option linter.all false
set_option maxRecDepth 100000
set_option maxHeartbeats 2000000
namespace Pl
open PySem PySem.Spec L2
open PyProof.Rows hiding St

/-! ### statements -/
def sSeq (f g : M Fl) : M Fl := mB f fun fl => match fl with
  | .next => g
  | fl => mR fl
def sAsg (i : Nat) (f : M PV) : M Fl := mB f fun pv ρ => some (.ok .next, ρ.set i (some pv))
def sRet (f : M PV) : M Fl := mB f fun pv => mR (.ret pv)
def sExp (f : M PV) : M Fl := mB f fun _ => mR .next
def sIf (c : M Bool) (f g : M Fl) : M Fl := mB c fun b => if b = true then f else g
def bU (u : En → Option Bool) : M Bool := fun ρ => (u ρ).map fun b => (.ok b, ρ)
def wl (t : M Bool) (body : M Fl) : Nat → M Fl
  | 0 => fun _ => none
  | n + 1 => mB t fun b => if b = true then (mB body fun fl => match fl with
    | .next => wl t body n
    | .cont => wl t body n
    | .brk => mR .next
    | .ret pv => mR (.ret pv)) else mR .next
open Classical in
/-- a while that comes to an end -/
noncomputable def sWhile (t : M Bool) (body : M Fl) : M Fl := fun ρ => if h : ∃ n r, wl t body n ρ = some r then wl t body (choose h) ρ else none
theorem sWhile_wl {t : M Bool} {body : M Fl} {ρ : En} {r : Except Ex Fl × En} (h : sWhile t body ρ = some r) : ∃ n, wl t body n ρ = some r := by
  unfold sWhile at h
  split at h
  · exact ⟨_, h⟩
  · cases h
theorem wl_mono {t : M Bool} {body : M Fl} : ∀ {n k : Nat} {ρ : En} {r : Except Ex Fl × En}, wl t body n ρ = some r → n ≤ k → wl t body k ρ = some r
  | 0, _, _, _, h, _ => by cases h
  | n + 1, 0, _, _, _, h => by cases h
  | n + 1, k + 1, ρ, (r, ρ'), h, hk => by
    unfold wl at h ⊢
    rcases mB_cases h with ⟨x, h1, rfl⟩ | ⟨b, ρ1, h1, h2⟩
    · rw [mB_er h1]
    · rw [mB_ok h1]
      cases b with
      | false => exact h2
      | true =>
        rw [if_pos rfl] at h2 ⊢
        rcases mB_cases h2 with ⟨x, h3, rfl⟩ | ⟨fl, ρ2, h3, h4⟩
        · rw [mB_er h3]
        · rw [mB_ok h3]
          cases fl with
          | next => exact wl_mono h4 (Nat.le_of_succ_le_succ hk)
          | cont => exact wl_mono h4 (Nat.le_of_succ_le_succ hk)
          | brk => exact h4
          | ret pv => exact h4
theorem wl_sWhile {t : M Bool} {body : M Fl} {ρ : En} {r : Except Ex Fl × En} {n : Nat} (h : wl t body n ρ = some r) : sWhile t body ρ = some r := by
  unfold sWhile
  have hx : ∃ n r, wl t body n ρ = some r := ⟨n, r, h⟩
  rw [dif_pos hx]
  obtain ⟨r', hr⟩ := Classical.choose_spec hx
  rcases Nat.le_total n (Classical.choose hx) with q | q
  · exact wl_mono h q
  · rw [hr, ← wl_mono hr q, h]
/-- a target: the names it stores -/
abbrev Tg := D → En → Option En
def gName (i : Nat) : Tg := fun d ρ => some (ρ.set i (some (.val d)))
def gTup (gs : List Tg) : Tg := fun d ρ => match d with
  | .tup ds => go gs ds ρ
  | _ => none
where go : List Tg → List D → En → Option En
  | [], [], ρ => some ρ
  | g :: gs, d :: ds, ρ => (g d ρ).bind (go gs ds)
  | _, _, _ => none
def sAsgT (g : Tg) (f : M PV) : M Fl := mB f fun pv => mB (mO pv.tree) fun d ρ => (g d ρ).map fun ρ' => (.ok .next, ρ')
def loop (g : Tg) (body : M Fl) : List D → M Fl
  | [] => mR .next
  | d :: ds => fun ρ => match g d ρ with
    | none => none
    | some ρ1 => mB body (fun fl => match fl with
      | .next => loop g body ds
      | .cont => loop g body ds
      | .brk => mR .next
      | .ret pv => mR (.ret pv)) ρ1
def sFor (f : M (List D)) (g : Tg) (body : M Fl) : M Fl := mB f fun ds => loop g body ds

section
variable {X : Cx} {G : Nat → Option CI} {Φ : Zone → Prop} {W : WX} {e a b c : Expr} {es : List Expr} {pos p p' : Pos} {st : Stmt} {rest : List Stmt}
theorem rb_nil : RB X G Φ W [] (mR .next) := fun Z hZ => PSs.lo pss_nil fun D σ H ⟨F, ρ, r, ρ', E, hf, q1, q2⟩ => by
  cases hf
  exact q1 _ rfl F σ H Gr.rfl E
theorem rb_cons {f g : M Fl} (h : RS X G Φ W st f) (h' : RB X G Φ W rest g) : RB X G Φ W (st :: rest) (sSeq f g) := fun Z hZ => PSs.lo (pss_cons (h Z hZ) (h' Z hZ)) fun D σ H ⟨F, ρ, r, ρ', E, hf, q1, q2⟩ => by
  unfold sSeq at hf
  rcases mB_cases hf with ⟨x, h1, rfl⟩ | ⟨fl, ρ1, h1, h2⟩
  · exact ⟨F, ρ, _, _, E, h1, fun _ e => (by cases e), fun y e => by cases e; exact q2 _ rfl⟩
  · refine ⟨F, ρ, _, _, E, h1, fun fl' e F1 σ1 H1 g1 E1 => ?_, fun y e => by cases e⟩
    cases e
    cases fl with
    | next => exact ⟨F1, ρ1, r, ρ', E1, h2, fun fl e F2 σ2 H2 g2 E2 => q1 fl e F2 σ2 H2 (g1.trans g2) E2, fun y e => (q2 y e).gr g1⟩
    | brk => cases h2; exact q1 _ rfl F1 σ1 H1 g1 E1
    | cont => cases h2; exact q1 _ rfl F1 σ1 H1 g1 E1
    | ret pv => cases h2; exact q1 _ rfl F1 σ1 H1 g1 E1
theorem rb_one {f : M Fl} (h : RS X G Φ W st f) : RB X G Φ W [st] f := fun Z hZ => PSs.lo (pss_one (h Z hZ)) fun D σ H q => q
theorem rs_pass : RS X G Φ W (.Pass pos) (mR .next) := fun Z hZ => PS.lo ps_pass fun D σ H ⟨F, ρ, r, ρ', E, hf, q1, q2⟩ => by cases hf; exact q1 _ rfl F σ H Gr.rfl E
theorem rs_break : RS X G Φ W (.Break pos) (mR .brk) := fun Z hZ => PS.lo ps_break fun D σ H ⟨F, ρ, r, ρ', E, hf, q1, q2⟩ => by cases hf; exact q1 _ rfl F σ H Gr.rfl E
theorem rs_continue : RS X G Φ W (.Continue pos) (mR .cont) := fun Z hZ => PS.lo ps_continue fun D σ H ⟨F, ρ, r, ρ', E, hf, q1, q2⟩ => by cases hf; exact q1 _ rfl F σ H Gr.rfl E
theorem rs_doc {x j p} : RS X G Φ W (.Expr (.Constant (.str x) j p) pos) (mR .next) := fun Z hZ => PS.lo ps_doc fun D σ H ⟨F, ρ, r, ρ', E, hf, q1, q2⟩ => by cases hf; exact q1 _ rfl F σ H Gr.rfl E
theorem rs_retN : RS X G Φ W (.Return none pos) (mR (.ret (.val .non))) := fun Z hZ => PS.lo ps_retN fun D σ H ⟨F, ρ, r, ρ', E, hf, q1, q2⟩ => by
  cases hf
  exact q1 _ rfl F σ H Gr.rfl E _ .non
theorem rs_ret {f : M PV} (h : RE X G Φ W e f) : RS X G Φ W (.Return (some e) pos) (sRet f) := fun Z hZ => PS.lo (ps_ret (h Z hZ)) fun D σ H ⟨F, ρ, r, ρ', E, hf, q1, q2⟩ => by
  unfold sRet at hf
  rcases mB_cases hf with ⟨x, h1, rfl⟩ | ⟨pv, ρ1, h1, h2⟩
  · exact ⟨F, ρ, _, _, E, h1, fun _ e => (by cases e), fun y e => by cases e; exact q2 _ rfl⟩
  · cases h2
    refine ⟨F, ρ, _, _, E, h1, fun pv' e F1 v H1 g1 E1 hv => ?_, fun y e => by cases e⟩
    cases e
    exact q1 _ rfl F1 σ H1 g1 E1 v hv
theorem rs_expr {f : M PV} (h : RE X G Φ W e f) (hs : swapsWith e none pos.line X.env = pure false := by rfl) : RS X G Φ W (.Expr e pos) (sExp f) := fun Z hZ => PS.lo (ps_expr (h Z hZ) hs) fun D σ H ⟨F, ρ, r, ρ', E, hf, q1, q2⟩ => by
  unfold sExp at hf
  rcases mB_cases hf with ⟨x, h1, rfl⟩ | ⟨pv, ρ1, h1, h2⟩
  · exact ⟨F, ρ, _, _, E, h1, fun _ e => (by cases e), fun y e => by cases e; exact q2 _ rfl⟩
  · cases h2
    exact ⟨F, ρ, _, _, E, h1, fun pv' e F1 v H1 g1 E1 hv => q1 _ rfl F1 σ H1 g1 E1, fun y e => by cases e⟩
theorem put_any {K : PySem.W.Frag} {Z : Zone} {F H : Hp} {ρ : En} {σ : St} (E : EnvOk K G Z F ρ σ H) {i : Nat} {pv : PV} {v : V} (h : PvOk K G Z F ρ σ H pv v) : EnvOk K G Z F (ρ.set i (some pv)) (σ.set i (some v)) H := by
  by_cases hi : i < ρ.length
  · exact E.put hi (h.fewer fun l z => ow_drop z)
  · rw [List.set_eq_of_length_le (Nat.le_of_not_lt hi), List.set_eq_of_length_le (by rw [← E.len]; exact Nat.le_of_not_lt hi)]
    exact E
theorem rs_set {i : Nat} {x : Str} {f : M PV} (hN : X.N.Nodup) (h : RE X G Φ W e f) (hi : X.N[i]? = some x := by rfl) (hx : Loc X.env.scope x := by exact Or.inl rfl) (hs : swapsWith e (some (.Name x p)) pos.line X.env = pure false := by rfl)
    (hf : X.fn x = true ∨ X.env.scope.names.lookup x = some .local := by first | exact .inl rfl | exact .inr rfl | assumption) : RS X G Φ W (.Assign [.Name x p] e pos) (sAsg i f) := fun Z hZ => PS.lo (ps_set hN hi hx (h Z hZ) hs hf) fun D σ H ⟨F, ρ, r, ρ', E, hf, q1, q2⟩ => by
  unfold sAsg at hf
  rcases mB_cases hf with ⟨x, h1, rfl⟩ | ⟨pv, ρ1, h1, h2⟩
  · exact ⟨F, ρ, _, _, E, h1, fun _ e => (by cases e), fun y e => by cases e; exact q2 _ rfl⟩
  · cases h2
    refine ⟨F, ρ, _, _, E, h1, fun pv' e F1 v H1 g1 E1 hv => ?_, fun y e => by cases e⟩
    cases e
    exact q1 _ rfl F1 _ H1 g1 (put_any E1 hv)

/-! #### targets -/
/-- the slots outside is are as they were -/
def But (is : List Nat) (σ σ' : L2.St) : Prop := σ'.length = σ.length ∧ ∀ j : Nat, j ∉ is → σ'[j]? = σ[j]?
theorem But.rfl {is : List Nat} {σ : L2.St} : But is σ σ := ⟨Eq.refl _, fun _ _ => Eq.refl _⟩
theorem But.step {is js ks : List Nat} {σ σ1 σ2 : L2.St} (a : But is σ σ1) (b : But js σ1 σ2) (h : ∀ j, j ∈ is ∨ j ∈ js → j ∈ ks) : But ks σ σ2 := ⟨b.1.trans a.1, fun j hj => (b.2 j fun z => hj (h j (.inr z))).trans (a.2 j fun z => hj (h j (.inl z)))⟩
def tG (K : PySem.W.Frag) (G : Nat → Option CI) (is : List Nat) (g : Tg) : TG := fun v σ H Q => ∃ Z F ρ d ρ', EnvOk K G Z F ρ σ H ∧ Rep K G F d v ∧ g d ρ = some ρ' ∧ ∀ σ', But is σ σ' → EnvOk K G Z F ρ' σ' H → Q σ' H
def tGs (K : PySem.W.Frag) (G : Nat → Option CI) (is : List Nat) (gs : List Tg) : TGs := fun vs σ H Q => ∃ Z F ρ ds ρ', EnvOk K G Z F ρ σ H ∧ Reps K G F ds vs ∧ gTup.go gs ds ρ = some ρ' ∧ ∀ σ', But is σ σ' → EnvOk K G Z F ρ' σ' H → Q σ' H
def RG (X : Cx) (G : Nat → Option CI) (is : List Nat) (tg : Expr) (g : Tg) : Prop := PG X tg (tG X.K G is g)
def RGs (X : Cx) (G : Nat → Option CI) (is : List Nat) (tg : List Expr) (g : List Tg) : Prop := PGs X tg (tGs X.K G is g)
theorem PG.lo {tg : Expr} {t t' : TG} (h : PG X tg t) (i : ∀ v σ H Q, t' v σ H Q → t v σ H Q) : PG X tg t' := ⟨fun pins s σ H v u Q I r q => h.run pins s σ H v u Q I r (i v σ H Q q)⟩
theorem PGs.lo {tg : List Expr} {t t' : TGs} (h : PGs X tg t) (i : ∀ v σ H Q, t' v σ H Q → t v σ H Q) : PGs X tg t' := ⟨fun pins s σ H v u Q I r q => h.run pins s σ H v u Q I r (i v σ H Q q)⟩
theorem rg_name {i : Nat} {x : Str} (hN : X.N.Nodup) (hi : X.N[i]? = some x := by rfl) (hx : Loc X.env.scope x := by first | exact Or.inl rfl | exact Or.inr rfl) (hf : X.fn x = true ∨ X.env.scope.names.lookup x = some .local := by first | exact .inl rfl | exact .inr rfl | assumption) :
    RG X G [i] (.Name x pos) (gName i) := PG.lo (pg_name hN hi hx hf) fun v σ H Q ⟨Z, F, ρ, d, ρ', E, hr, hg, q⟩ => by
  cases hg
  exact q _ ⟨List.length_set, fun j hj => List.getElem?_set_ne fun z => hj (by rw [z]; exact List.mem_cons_self)⟩ (put_any E hr)
theorem rgs_nil : RGs X G [] [] [] := PGs.lo pgs_nil fun vs σ H Q ⟨Z, F, ρ, ds, ρ', E, hr, hg, q⟩ => by
  cases hr with
  | nil => cases hg; exact ⟨rfl, q _ But.rfl E⟩
  | cons _ _ => cases hg
theorem rgs_cons {is js : List Nat} {t : Expr} {ts : List Expr} {g : Tg} {gs : List Tg} (h : RG X G is t g) (h' : RGs X G js ts gs) (hs : (assignEach (t :: ts) X.env).map (·.2) = assign t X.env :: (assignEach ts X.env).map (·.2) := by rfl) : RGs X G (is ++ js) (t :: ts) (g :: gs) :=
  PGs.lo (pgs_cons h h' hs) fun vs σ H Q ⟨Z, F, ρ, ds, ρ', E, hr, hg, q⟩ => by
    cases hr with
    | nil => cases hg
    | @cons d v ds vs h1 h2 =>
      have hg : (g d ρ).bind (gTup.go gs ds) = some ρ' := hg
      cases e : g d ρ with
      | none => rw [e] at hg; cases hg
      | some ρ1 =>
        rw [e] at hg
        exact ⟨v, vs, rfl, Z, F, ρ, d, ρ1, E, h1, e, fun σ' b1 E' => ⟨Z, F, ρ1, ds, ρ', E', h2, hg, fun σ2 b2 E2 => q σ2 (b1.step b2 fun j hj => List.mem_append.mpr hj) E2⟩⟩
theorem go_len : ∀ {gs : List Tg} {ds : List D} {ρ ρ' : En}, gTup.go gs ds ρ = some ρ' → ds.length = gs.length
  | [], [], _, _, _ => rfl
  | [], _ :: _, _, _, h => by cases h
  | _ :: _, [], _, _, h => by cases h
  | g :: gs, d :: ds, ρ, ρ', h => by
    have h : (g d ρ).bind (gTup.go gs ds) = some ρ' := h
    cases e : g d ρ with
    | none => rw [e] at h; cases h
    | some ρ1 => rw [e] at h; rw [List.length_cons, List.length_cons, go_len h]
theorem rg_tup {is : List Nat} {ts : List Expr} {k : Nat} {gs : List Tg} (hc : X.calm = true) (h : RGs X G is ts gs) (hn : (assignEach ts X.env).length = gs.length := by rfl) (hst : (assignEach ts X.env).findIdx? (·.1) = none := by rfl) : RG X G is (.Tuple ts k pos) (gTup gs) :=
  PG.lo (pg_tup hc h hn hst) fun v σ H Q ⟨Z, F, ρ, d, ρ', E, hr, hg, q⟩ => by
    unfold gTup at hg
    split at hg
    · cases hr with
      | tup h1 h2 => exact ⟨_, _, rfl, E.ext.sqT h1, by rw [← h2.length]; exact go_len hg, Z, F, ρ, _, ρ', E, h2, hg, q⟩
    · cases hg
theorem rs_asgT {is : List Nat} {tg : Expr} {g : Tg} {f : M PV} (h : RE X G Φ W e f) (hg : RG X G is tg g) (hs : swapsWithSole [tg] e pos.line X.env = pure false := by rfl) (hw : swappedStores [tg] e X.env = pure none := by rfl)
    (h1 : (assignEach [tg] X.env).map (·.2) = [assign tg X.env] := by rfl) : RS X G Φ W (.Assign [tg] e pos) (sAsgT g f) := fun Z hZ => PS.lo (ps_asg (h Z hZ) hg hs hw h1) fun D σ H ⟨F, ρ, r, ρ', E, hf, q1, q2⟩ => by
  unfold sAsgT at hf
  rcases mB_cases hf with ⟨x, h1, rfl⟩ | ⟨pv, ρ1, h1, h2⟩
  · exact ⟨F, ρ, _, _, E, h1, fun _ e => (by cases e), fun y e => by cases e; exact q2 _ rfl⟩
  · refine ⟨F, ρ, _, _, E, h1, fun pv' e F1 v H1 g1 E1 hv => ?_, fun y e => by cases e⟩
    cases e
    obtain ⟨d, hd, h3⟩ := mO_some h2
    obtain ⟨F2, g2, E2, hr⟩ := hv.frz E1 hd
    cases h4 : g d ρ1 with
    | none => rw [h4] at h3; cases h3
    | some ρ2 =>
      rw [h4] at h3; cases h3
      exact ⟨Z, F2, ρ1, d, _, E2, hr, h4, fun σ' _ E' => q1 _ rfl F2 σ' H1 (g1.trans g2) E'⟩

/-! #### tests, if, while -/
theorem rt_u {u : En → Option Bool} (h : RU X G e u) : RT X G Φ W e (bU u) := fun Z hZ => PT.lo h fun σ H Q ⟨F, ρ, r, ρ', E, hf, q1, q2⟩ => by
  unfold bU at hf
  cases h1 : u ρ with
  | none => rw [h1] at hf; cases hf
  | some b => rw [h1] at hf; cases hf; exact ⟨Z, F, ρ, b, E, h1, q1 _ rfl F H Gr.rfl E⟩
theorem rs_if {f g : M Fl} {u : M Bool} {s1 s2 : List Stmt} (hc : RT X G Φ W c u) (h : RB X G Φ W s1 f) (h' : RB X G Φ W s2 g) : RS X G Φ W (.If c s1 s2 pos) (sIf u f g) := fun Z hZ => PS.lo (ps_if (hc Z hZ) (h Z hZ) (h' Z hZ)) fun D σ H ⟨F, ρ, r, ρ', E, hf, q1, q2⟩ => by
  unfold sIf at hf
  rcases mB_cases hf with ⟨x, h1, rfl⟩ | ⟨b, ρ1, h1, h2⟩
  · exact ⟨F, ρ, _, _, E, h1, fun _ e => (by cases e), fun y e => by cases e; exact q2 _ rfl⟩
  · refine ⟨F, ρ, _, _, E, h1, fun b' e F1 H1 g1 E1 => ?_, fun y e => by cases e⟩
    cases e
    cases b with
    | true => exact iteT ⟨F1, ρ1, r, ρ', E1, h2, fun fl e F2 σ2 H2 g2 E2 => q1 fl e F2 σ2 H2 (g1.trans g2) E2, fun y e => (q2 y e).gr g1⟩
    | false => exact iteF ⟨F1, ρ1, r, ρ', E1, h2, fun fl e F2 σ2 H2 g2 E2 => q1 fl e F2 σ2 H2 (g1.trans g2) E2, fun y e => (q2 y e).gr g1⟩
/-- what is wanted behind a statement, from F on -/
def Post (K : PySem.W.Frag) (G : Nat → Option CI) (Z : Zone) (W : WX) (D : Ends) (F : Hp) (r : Except Ex Fl) (ρ' : En) : Prop :=
  (∀ fl, r = .ok fl → ∀ F' σ' H', Gr F F' → EnvOk K G Z F' ρ' σ' H' → match fl with
    | .next => D.nx σ' H'
    | .brk => D.bk σ' H'
    | .cont => D.ct σ' H'
    | .ret pv => ∀ v, PvOk K G Z F' ρ' σ' H' pv v → D.rt v H') ∧ (∀ x, r = .error x → Erh K G Z W F ρ' x)
theorem Post.gr {K : PySem.W.Frag} {Z : Zone} {D : Ends} {F F1 : Hp} {r : Except Ex Fl} {ρ' : En} (g : Gr F F1) (h : Post K G Z W D F r ρ') : Post K G Z W D F1 r ρ' :=
  ⟨fun fl e F' σ' H' g' E => h.1 fl e F' σ' H' (g.trans g') E, fun x e => (h.2 x e).gr g⟩
theorem rs_while {t : M Bool} {f : M Fl} {s : List Stmt} (hp : PassesOwn (model X.prog X.w) X.A X.env X.xe) (hc : RT X G Φ W c t) (hb : RB X G Φ W s f) : RS X G Φ W (.While c s [] pos) (sWhile t f) := fun Z hZ => PS.lo (ps_while hp (hc Z hZ) (hb Z hZ)) fun D σ H ⟨F0, ρ0, r, ρ', E0, hf, q⟩ => by
  obtain ⟨n0, hn0⟩ := sWhile_wl hf
  refine ⟨fun m σ H => ∃ F ρ, EnvOk X.K G Z F ρ σ H ∧ wl t f m ρ = some (r, ρ') ∧ Post X.K G Z W D F r ρ', ⟨n0, F0, ρ0, E0, hn0, q⟩, ?_⟩
  rintro m σ H ⟨F, ρ, E, hw, q⟩
  cases m with
  | zero => cases hw
  | succ m =>
    unfold wl at hw
    rcases mB_cases hw with ⟨x, h1, rfl⟩ | ⟨b, ρ1, h1, h2⟩
    · exact ⟨F, ρ, _, _, E, h1, fun _ e => (by cases e), fun y e => by cases e; exact q.2 _ rfl⟩
    · refine ⟨F, ρ, _, _, E, h1, fun b' e F1 H1 g1 E1 => ?_, fun y e => by cases e⟩
      cases e
      cases b with
      | false =>
        refine iteF ?_
        cases h2
        exact q.1 _ rfl F1 _ H1 g1 E1
      | true =>
        refine iteT ?_
        rw [if_pos rfl] at h2
        refine ⟨fun σ' H' => ∃ F ρ, EnvOk X.K G Z F ρ σ' H' ∧ wl t f m ρ = some (r, ρ') ∧ Post X.K G Z W D F r ρ', fun σ' H' z => ⟨m, Nat.lt_succ_self m, z⟩, ?_⟩
        rcases mB_cases h2 with ⟨x, h3, rfl⟩ | ⟨fl, ρ2, h3, h4⟩
        · exact ⟨F1, ρ1, _, _, E1, h3, fun _ e => (by cases e), fun y e => by cases e; exact (q.2 _ rfl).gr g1⟩
        · refine ⟨F1, ρ1, _, _, E1, h3, fun fl' e F2 σ2 H2 g2 E2 => ?_, fun y e => by cases e⟩
          cases e
          cases fl with
          | next => exact ⟨F2, ρ2, E2, h4, q.gr (g1.trans g2)⟩
          | cont => exact ⟨F2, ρ2, E2, h4, q.gr (g1.trans g2)⟩
          | brk => cases h4; exact q.1 _ rfl F2 σ2 H2 (g1.trans g2) E2
          | ret pv => cases h4; exact q.1 _ rfl F2 σ2 H2 (g1.trans g2) E2

/-! #### for -/
/-- the iterator yields the trees ds, in turn -/
structure ItOk (K : PySem.W.Frag) (G : Nat → Option CI) (F : Hp) (J : It) (ds : List D) : Prop where
  go : ∀ (i : Nat) (d : D) (H : Hp), Gr F H → ds[i]? = some d → J.go i H
  yld : ∀ (i : Nat) (d : D) (H : Hp) (x : V) (H' : Hp), Gr F H → ds[i]? = some d → J.yld i H x H' → (H' = H ∧ Rep K G F d x) ∨ ∃ p o, H p = none ∧ H' = upd H p o ∧ ∀ F', Gr F F' → F' p = none → Rep K G (upd F' p o) d x
  stop : ∀ (i : Nat) (H : Hp), Gr F H → ds.length ≤ i → J.stop i H
def tIt (K : PySem.W.Frag) (G : Nat → Option CI) (Z : Zone) (W : WX) (f : M (List D)) : TI := fun σ H R => ∃ F ρ r ρ', EnvOk K G Z F ρ σ H ∧ f ρ = some (r, ρ') ∧
  (∀ ds, r = .ok ds → ∀ F' J H', Gr F F' → EnvOk K G Z F' ρ' σ H' → ItOk K G F' J ds → R J H') ∧ (∀ x, r = .error x → Erh K G Z W F ρ' x)
def RIt (X : Cx) (G : Nat → Option CI) (Φ : Zone → Prop) (W : WX) (tg iter : Expr) (f : M (List D)) : Prop := ∀ Z, Φ Z → PI X tg iter (tIt X.K G Z W f)
theorem PI.lo {tg iter : Expr} {t t' : TI} (h : PI X tg iter t) (i : ∀ σ H Q, t' σ H Q → t σ H Q) : PI X tg iter t' := ⟨fun pins s σ H R I q => h.run pins s σ H R I (i σ H R q)⟩
theorem rs_for {is : List Nat} {tg iter : Expr} {g : Tg} {fi : M (List D)} {f : M Fl} {s : List Stmt} (hp : PassesOwn (model X.prog X.w) X.A X.env X.xe) (hc : X.calm = true) (hi : RIt X G Φ W tg iter fi) (hg : RG X G is tg g) (hb : RB X G Φ W s f)
    (hs : ∀ x, foldedSetIterable iter X.env x = pure x := by intro _; rfl) : RS X G Φ W (.For tg iter s [] pos) (sFor fi g f) := fun Z hZ => PS.lo (ps_for hp hc (hi Z hZ) hg (hb Z hZ) hs) fun D σ0 H0 ⟨F0, ρ0, r, ρ', E0, hf, q0⟩ => by
  unfold sFor at hf
  rcases mB_cases hf with ⟨x, h1, rfl⟩ | ⟨ds, ρ1, h1, h2⟩
  · exact ⟨F0, ρ0, _, _, E0, h1, fun _ e => (by cases e), fun y e => by cases e; exact q0.2 _ rfl⟩
  · refine ⟨F0, ρ0, _, _, E0, h1, fun ds' e FI J HI gI EI hJ => ?_, fun y e => by cases e⟩
    cases e
    refine ⟨fun i m σ H => m = ds.length - i ∧ i ≤ ds.length ∧ ∃ F ρ, Gr FI F ∧ EnvOk X.K G Z F ρ σ H ∧ loop g f (ds.drop i) ρ = some (r, ρ') ∧ Post X.K G Z W D F r ρ', ⟨_, rfl, Nat.zero_le _, FI, ρ1, Gr.rfl, EI, h2, Post.gr gI q0⟩, ?_⟩
    rintro i m σ H ⟨rfl, hi, F, ρ, gF, E, hl, q⟩
    have gH : Gr FI H := gF.trans E.ext
    rcases Nat.lt_or_ge i ds.length with hlt | hge
    · refine .inr ⟨hJ.go i _ H gH (List.getElem?_eq_getElem hlt), ?_⟩
      rw [List.drop_eq_getElem_cons hlt] at hl
      unfold loop at hl
      split at hl
      · cases hl
      · rename_i ρ2 hg2
        refine ⟨fun σ' H' => i + 1 ≤ ds.length ∧ ∃ F ρ, Gr FI F ∧ EnvOk X.K G Z F ρ σ' H' ∧ loop g f (ds.drop (i + 1)) ρ = some (r, ρ') ∧ Post X.K G Z W D F r ρ', fun σ' H' ⟨h1, z⟩ => ⟨_, by omega, rfl, h1, z⟩, fun x H' hy => ?_⟩
        have hy2 : ∃ F2, Gr F F2 ∧ EnvOk X.K G Z F2 ρ σ H' ∧ Rep X.K G F2 ds[i] x := by
          rcases hJ.yld i _ H x H' gH (List.getElem?_eq_getElem hlt) hy with ⟨rfl, hr⟩ | ⟨p, o, hp0, rfl, hr⟩
          · exact ⟨F, Gr.rfl, E, hr.gr gF⟩
          · exact ⟨_, Gr.new (E.ext.free hp0), E.new hp0, hr F gF (E.ext.free hp0)⟩
        obtain ⟨F2, g2, E2, hr⟩ := hy2
        refine ⟨Z, F2, ρ, _, ρ2, E2, hr, hg2, fun σ2 _ E3 => ?_⟩
        rcases mB_cases hl with ⟨y, h3, rfl⟩ | ⟨fl, ρ3, h3, h4⟩
        · exact ⟨F2, ρ2, _, _, E3, h3, fun _ e => (by cases e), fun z e => by cases e; exact (q.2 _ rfl).gr g2⟩
        · refine ⟨F2, ρ2, _, _, E3, h3, fun fl' e F4 σ4 H4 g4 E4 => ?_, fun z e => by cases e⟩
          cases e
          cases fl with
          | next => exact ⟨hlt, F4, ρ3, (gF.trans g2).trans g4, E4, h4, q.gr (g2.trans g4)⟩
          | cont => exact ⟨hlt, F4, ρ3, (gF.trans g2).trans g4, E4, h4, q.gr (g2.trans g4)⟩
          | brk => cases h4; exact q.1 _ rfl F4 σ4 H4 (g2.trans g4) E4
          | ret pv => cases h4; exact q.1 _ rfl F4 σ4 H4 (g2.trans g4) E4
    · refine .inl ⟨hJ.stop i H gH hge, ?_⟩
      rw [List.drop_of_length_le hge] at hl
      cases hl
      exact q.1 _ rfl F σ H Gr.rfl E
/-- over range(n), range(a, b) -/
def itRng1 (f : Inr) : M (List D) := fun ρ => match f ρ with
  | some (.int n) => if n < 2 ^ 62 ∧ -(2 ^ 62) ≤ n then some (.ok ((List.range n.toNat).map fun k => .int (k : Nat)), ρ) else none
  | _ => none
theorem itr_ok {K : PySem.W.Frag} {F : Hp} {lo : Int} {n : Nat} : ItOk K G F (Itr lo n) ((List.range n).map fun k => .int (lo + (k : Nat))) where
  go := fun i d H g h => by
    rw [List.getElem?_map] at h
    cases e : (List.range n)[i]? with
    | none => rw [e] at h; cases h
    | some k =>
      have := (List.getElem?_eq_some_iff.mp e).1
      rw [List.length_range] at this
      exact this
  yld := fun i d H x H' g h ⟨h1, h2⟩ => .inl ⟨h1, by
    rw [List.getElem?_map] at h
    cases e : (List.range n)[i]? with
    | none => rw [e] at h; cases h
    | some k =>
      rw [e] at h
      cases h
      have h3 := (List.getElem?_eq_some_iff.mp e)
      obtain ⟨h4, h5⟩ := h3
      rw [List.getElem_range] at h5
      subst h5; subst h2
      exact .int _⟩
  stop := fun i H g h => by
    rw [List.length_map, List.length_range] at h
    exact h
theorem rit_rng1 {tg : Expr} {f : Inr} (hg : Gl X "range") (hm : X.mg "range" = none) (ha : RI X G a f) (hs : starEach [a] X.env = [(false, eval a X.env)] := by rfl) : RIt X G Φ W tg (.Call (.Name "range" p) [a] [] pos) (itRng1 f) := fun Z hZ =>
  PI.lo (pi_range1 hg hm (pa_cons ha pa_nil (by rw [hs]; rfl)) hs) fun σ H Q ⟨F, ρ, r, ρ', E, hf, q1, q2⟩ => by
    unfold itRng1 at hf
    split at hf
    · rename_i n hn
      split at hf
      · rename_i hb
        cases hf
        refine ⟨Z, F, ρ, _, E, hn, fun v hv => ?_⟩
        cases hv
        refine ⟨n, rfl, hb.2, hb.1, q1 _ rfl F _ H Gr.rfl E ?_⟩
        have := itr_ok (K := X.K) (G := G) (F := F) (lo := 0) (n := n.toNat)
        have e : ((List.range n.toNat).map fun k => D.int ((k : Nat) : Int)) = (List.range n.toNat).map fun k => D.int (0 + (k : Nat)) := by
          apply List.map_congr_left; intro k _; rw [Int.zero_add]
        rw [e]; exact this
      · cases hf
    · cases hf
end
end Pl
set_option Elab.async false
set_option linter.all false
set_option maxRecDepth 100000
set_option maxHeartbeats 2000000
namespace Pl
open PySem PySem.Spec L2
open PyProof.Rows hiding St

/-! ### a def by its body -/
/-- what is left of the lent first argument -/
def leftOf (as : List PV) (ρ : En) : Option (Option OD) := match as with
  | .bor _ :: _ => match ρ.at 0 with
    | some (.bor o) => some (some o)
    | _ => none
  | _ => some none
/-- a body's function, n the number of parameters, N that of names -/
def denOf (n N : Nat) (f : M Fl) : Den := fun as => if as.length = n then (match f (as.map some ++ List.replicate (N - n) none) with
  | some (.ok (.ret pv), ρ') => (leftOf as ρ').map fun o => (.ok pv, o)
  | some (.ok .next, ρ') => (leftOf as ρ').map fun o => (.ok (.val .non), o)
  | some (.error x, ρ') => (leftOf as ρ').map fun o => (.error x, o)
  | _ => none) else none
section
variable {P : Program} {w : World} {K : PySem.W.Frag} {G : Nat → Option CI} {mg : Str → Option Value} {base : Heap}
theorem at_app {as : List PV} {k : Nat} {i : Nat} {p : PV} (h : En.at (as.map some ++ List.replicate k none) i = some p) : as[i]? = some p := by
  unfold En.at at h
  rw [List.getD_eq_getElem?_getD] at h
  by_cases hi : i < as.length
  · rw [List.getElem?_append_left (by simpa using hi), List.getElem?_map] at h
    cases e : as[i]? with
    | none => rw [e] at h; cases h
    | some q => rw [e] at h; cases h; rfl
  · rw [List.getElem?_append_right (by simpa using Nat.le_of_not_lt hi), List.getElem?_replicate] at h
    split at h <;> cases h
theorem sl_app {vs : List V} {k : Nat} {i : Nat} {v : V} (h : vs[i]? = some v) : sl (vs.map some ++ List.replicate k none) i = some v := by
  have hi := (List.getElem?_eq_some_iff.mp h).1
  unfold sl
  rw [List.getD_eq_getElem?_getD, List.getElem?_append_left (by simpa using hi), List.getElem?_map, h]; rfl
theorem env_start {Z : Zone} {F H : Hp} {as : List PV} {vs : List V} {k : Nat} (E : EnvOk K G Z F (as.map some) (vs.map some) H) : EnvOk K G Z F (as.map some ++ List.replicate k none) (vs.map some ++ List.replicate k none) H where
  len := by
    have := E.len
    rw [List.length_append, List.length_append, this, List.length_replicate, List.length_replicate]
  ext := E.ext
  val := fun i d h => let ⟨v, h1, h2⟩ := E.val i d (at_map (at_app h)); ⟨v, sl_app (map_sl h1), h2⟩
  own := fun i o h => let ⟨v, h1, h2⟩ := E.own i o (at_map (at_app h)); ⟨v, sl_app (map_sl h1), h2⟩
  bor := fun i o h => let ⟨v, h1, h2⟩ := E.bor i o (at_map (at_app h)); ⟨v, sl_app (map_sl h1), h2⟩
  dis := fun i j o o' l h h' s s' => by
    obtain ⟨m, h1, _⟩ := E.own i o (at_map (at_app h))
    obtain ⟨m', h1', _⟩ := E.own j o' (at_map (at_app h'))
    have a := sl_app (k := k) (map_sl h1)
    have b := sl_app (k := k) (map_sl h1')
    rw [s] at a; rw [s'] at b
    cases a; cases b
    exact E.dis i j o o' _ (at_map (at_app h)) (at_map (at_app h')) h1 h1'
  pins := E.pins
  pinh := E.pinh
  pinH := E.pinH
  kept := E.kept
  grow := E.grow
  gf := E.gf
  adr := fun i a h => sl_app (map_sl (E.adr i a (at_map (at_app h))))
/-- the arguments behind the call -/
theorem env_end {F F' H H' : Hp} {as : List PV} {vs : List V} {pl : Option Addr} {ρ' : En} {σ' : St} {o' : Option OD} (E : EnvOk K G (zoneOf H F pl) F (as.map some) (vs.map some) H) (hb : ∀ (i : Nat) (o : OD), as[i]? = some (.bor o) → i = 0) (g : Gr F F')
    (ho : ∀ (i : Nat) (o : OD), as[i]? ≠ some (.own o)) (hd : ∀ (i : Nat) (a : Addr), as[i]? ≠ some (.adr a)) (E' : EnvOk K G (zoneOf H F pl) F' ρ' σ' H') (hl : leftOf as ρ' = some o') : EnvOk K G (zoneOf H F pl) F' (upd0 as o') (vs.map some) H' := by
  have hlen : as.length = vs.length := by have := E.len; rwa [List.length_map, List.length_map] at this
  -- what stands in a slot of the arguments behind the call
  have hat : ∀ (i : Nat) (p : PV), En.at (upd0 as o') i = some p → (∃ d, p = .val d ∧ as[i]? = some (.val d)) ∨ (i = 0 ∧ ∃ o q, p = .bor o ∧ as[0]? = some (.bor q) ∧ ρ'.at 0 = some (.bor o)) := by
    intro i p h
    unfold leftOf at hl
    split at hl
    · rename_i q rest
      split at hl
      · rename_i o hρ
        cases hl
        unfold upd0 at h
        cases i with
        | zero =>
          rw [at_set_self (by simp)] at h
          cases h
          exact .inr ⟨rfl, o, q, rfl, rfl, hρ⟩
        | succ i =>
          rw [at_set_ne (by omega)] at h
          have h1 := map_at h
          cases p with
          | val d => exact .inl ⟨d, rfl, h1⟩
          | own o => exact absurd h1 (ho _ _)
          | adr a => exact absurd h1 (hd _ _)
          | bor o => exact absurd (hb _ _ h1) (by omega)
      · cases hl
    · rename_i hne
      cases hl
      have h1 := map_at h
      cases p with
      | val d => exact .inl ⟨d, rfl, h1⟩
      | own o => exact absurd h1 (ho _ _)
      | adr a => exact absurd h1 (hd _ _)
      | bor o =>
        have z := hb _ _ h1
        subst z
        cases as with
        | nil => cases h1
        | cons a r => cases h1; exact absurd rfl (hne _ _)
  exact {
    len := by
      have e : (upd0 as o').length = as.length := by
        unfold upd0
        split <;> simp
      rw [e, List.length_map, hlen]
    ext := E'.ext
    val := fun i d h => by
      rcases hat i _ h with ⟨d', e, h1⟩ | ⟨_, o, q, e, _⟩
      · cases e
        obtain ⟨v, h2, h3⟩ := E.val i d (at_map h1)
        exact ⟨v, h2, h3.gr g⟩
      · cases e
    own := fun i o h => by
      rcases hat i _ h with ⟨d', e, h1⟩ | ⟨_, o, q, e, _⟩ <;> cases e
    bor := fun i o h => by
      rcases hat i _ h with ⟨d', e, h1⟩ | ⟨hi, o', q, e, h1, h2⟩
      · cases e
      · cases e
        subst hi
        obtain ⟨l, s1, f1, p1, a1⟩ := E.bor 0 q (at_map h1)
        obtain ⟨l', s2, f2, p2, a2⟩ := E'.bor 0 o h2
        rw [p1] at p2; cases p2
        exact ⟨l, s1, f2, p1, a2⟩
    dis := fun i j o o' l h => by
      rcases hat i _ h with ⟨d', e, h1⟩ | ⟨_, o, q, e, _⟩ <;> cases e
    pins := E.pins
    pinh := E.pinh
    pinH := E'.pinH
    kept := E'.kept
    grow := E'.grow
    gf := E'.gf
    adr := fun i a h => by
      rcases hat i _ h with ⟨d', e, h1⟩ | ⟨_, o, q, e, _⟩ <;> cases e }
/-- where the arguments are as they should be -/
def Lent : List PV → Prop := fun as => (∀ i o, as[i]? = some (.bor o) → i = 0) ∧ (∀ (i : Nat) o, as[i]? ≠ some (.own o)) ∧ (∀ (i : Nat) a, as[i]? ≠ some (.adr a))
theorem lent_vals (ds : List D) : Lent (ds.map PV.val) := by
  refine ⟨fun i o h => ?_, fun i o h => ?_, fun i o h => ?_⟩
  all_goals
    rw [List.getElem?_map] at h
    cases e : ds[i]? <;> rw [e] at h <;> cases h
theorem lent_bor (o : OD) (ds : List D) : Lent (.bor o :: ds.map PV.val) := by
  refine ⟨fun i o h => ?_, fun i o h => ?_, fun i o h => ?_⟩
  · cases i with
    | zero => rfl
    | succ i =>
      rw [List.getElem?_cons_succ, List.getElem?_map] at h
      cases e : ds[i]? <;> rw [e] at h <;> cases h
  all_goals
    cases i with
    | zero => cases h
    | succ i =>
      rw [List.getElem?_cons_succ, List.getElem?_map] at h
      cases e : ds[i]? <;> rw [e] at h <;> cases h
/-- THE RULE: a def of the text does what its body's function says, where at most the first argument is lent -/
theorem d_of {x qual : Str} {st : Stmt} {f : Addr} {fd : FuncData} {N ps : List Str} {k : Nat} {body : M Fl} {den : Den} {dvs : List V} {kws : List (Str × V)} (F : FunD K x qual (defArgs st) (defBody st) (defScope st) dvs kws f fd) (S : FnScope N ps (defScope st))
    (hbody : ∀ (cdv : Value) (A : Around) (outer : List Env) (s : Shared) (H : Hp) (E : XK), Room k (A.deeper (envOfC qual (defScope st) s.heap.objs.size f cdv)) →
      RB (cxOf (L2.CX P w) P w K mg base N qual (defScope st) f cdv A outer s H E) G (fun _ => True) (fun cls d _ H' => E cls d H') (defBody st) body) :
    (hden : ∀ as r, den as = some r → Lent as ∧ denOf ps.length N.length body as = some r) → DOk P w K G mg base (k + 1) f fd ps den := by
  intro hden
  refine ⟨F.ok S (fun vs H Q E h => ?_) (fun cdv A outer s H vs Q E hr h => ?_)⟩
  · obtain ⟨F, as, pl, r, o', e, d, _⟩ := h
    obtain ⟨_, d⟩ := hden _ _ d
    unfold denOf at d
    split at d
    · have := e.len
      rw [List.length_map, List.length_map] at this
      omega
    · cases d
  · obtain ⟨F, as, pl, r, o', e, d, q1, q2⟩ := h
    obtain ⟨hc, d⟩ := hden _ _ d
    · unfold denOf at d
      split at d
      · rename_i hlen
        have hlen' : as.length = vs.length := by have := e.len; rwa [List.length_map, List.length_map] at this
        have e0 := env_start (k := N.length - ps.length) e
        have est : (vs.map some ++ List.replicate (N.length - ps.length) none) = L2.start N vs := by unfold L2.start; rw [← hlen', hlen]
        rw [est] at e0
        refine ⟨_, hbody cdv A outer s H E hr (zoneOf H F pl) trivial, ?_⟩
        split at d
        · rename_i pv ρ' hf
          cases hl : leftOf as ρ' with
          | none => rw [hl] at d; cases d
          | some o =>
            rw [hl] at d; cases d
            refine ⟨F, _, _, ρ', e0, hf, fun fl ef F' σ' H' g E' => ?_, fun y ef => by cases ef⟩
            cases ef
            intro v hv
            refine q1 pv rfl F' v H' g (env_end e hc.1 g hc.2.1 hc.2.2 E' hl) ?_
            cases pv with
            | val dd => exact hv
            | bor _ => exact hv
            | adr _ => exact hv
            | own oo =>
              obtain ⟨l, h1, h2, h3, h4, h5⟩ := hv
              refine ⟨l, h1, h2, h3, h4, fun ⟨i, o2, hp, hs⟩ => ?_⟩
              have E3 := env_end e hc.1 g hc.2.1 hc.2.2 E' hl
              rcases hp with hp | hp
              · obtain ⟨m, _, _, hz, _⟩ := E3.own i o2 hp
                unfold upd0 at hp
                split at hp
                · cases i with
                  | zero =>
                    by_cases hz0 : 0 < (as.map some).length
                    · rw [at_set_self hz0] at hp; cases hp
                    · rw [List.set_eq_of_length_le (Nat.le_of_not_lt hz0)] at hp; exact hc.2.1 _ _ (map_at hp)
                  | succ i => rw [at_set_ne (by omega)] at hp; exact hc.2.1 _ _ (map_at hp)
                · exact hc.2.1 _ _ (map_at hp)
              · obtain ⟨m, s1, _, hz, _⟩ := E3.bor i o2 hp
                rw [hs] at s1; cases s1
                obtain ⟨u, hu⟩ := E3.pinh i l hz
                rw [h3] at hu; cases hu
        · rename_i ρ' hf
          cases hl : leftOf as ρ' with
          | none => rw [hl] at d; cases d
          | some o =>
            rw [hl] at d; cases d
            refine ⟨F, _, _, ρ', e0, hf, fun fl ef F' σ' H' g E' => ?_, fun y ef => by cases ef⟩
            cases ef
            exact q1 _ rfl F' .non H' g (env_end e hc.1 g hc.2.1 hc.2.2 E' hl) .non
        · rename_i x ρ' hf
          cases hl : leftOf as ρ' with
          | none => rw [hl] at d; cases d
          | some o =>
            rw [hl] at d; cases d
            refine ⟨F, _, _, ρ', e0, hf, fun fl ef => (by cases ef), fun y ef F' c dd σ' H' g E' hx => ?_⟩
            cases ef
            exact q2 _ rfl F' c dd H' g (env_end e hc.1 g hc.2.1 hc.2.2 E' hl) hx
        · cases d
      · cases d

end
end Pl
set_option Elab.async false
set_option linter.all false
set_option maxRecDepth 100000
set_option maxHeartbeats 2000000
namespace Pl
open PySem PySem.Spec L2
open PyProof.Rows hiding St

section
variable {X : Cx} {G : Nat → Option CI} {Φ : Zone → Prop} {W : WX} {e a b c : Expr} {es : List Expr} {pos p p' apos : Pos} {st : Stmt} {rest : List Stmt}
/-! ### calls without arguments, methods, operators of the text's own -/
theorem tE_call0 {Z : Zone} {den : Den} : ∀ σ H Q, tE X.K G Z W (callV den []) σ H Q → tCallSD (spD X.K G den) [] (fun σ cls d H' => W cls d σ H') tNil σ H Q := fun σ H Q ⟨F, ρ, r, ρ', E, hf, q1, q2⟩ => by
  unfold callV at hf
  split at hf
  · rename_i r' hden
    cases hf
    refine ⟨F, [], none, _, none, args_vals (ds := []) E .nil, hden, fun pv e F' v H' g E' hp => ?_, fun x e F' c dd H' g E' hx => ?_⟩
    · exact q1 pv e F' v H' g (E.back g E') (hp.back E fun {ρ2 l} e ho => (E.there (by rw [← e]; exact ho)).2)
    · exact q2 x e F' c dd σ H' g (E.back g E') hx
  · cases hf
theorem pe_callSD0 {CX : CXT} {k : Nat} {f : Addr} {fd : FuncData} {ps : List Str} {sp : Sp} {dvs : List V} {ds : List Value} {E : L2.St → XK} {x : Str} (F : FnOk X.prog X.w X.K X.mg X.base CX k f fd ps sp) (hr : Room k X.A) (hg : Gl X x) (hm : X.mg x = some (.ref f)) (hk : PySem.W.keepIn X.K (.ref f) = true) (hb : Binds X.K fd ps ds) (hd : Vals dvs ds) (hx : ∀ σ, PassesAt CX X σ (E σ))
    (hdb : (x == ("__debug__" : Str)) = false := by decide) : PE X (.Call (.Name x p) [] [] pos) (tCallSD sp dvs E tNil) := by
  refine ⟨fun pins s σ H Q I h => ?_⟩
  refine wpAny_Call_Name_kw (ld_glob I hg hm ?_ hdb)
  exact PySem.W.callWith_K0 I.kIn hk (run_fnSD (us := []) (vs := []) F hr hb hd (hx σ) I .nil h)
theorem re_call0 {k : Nat} {f : Addr} {fd : FuncData} {ps : List Str} {den : Den} {x : Str} (F : DOk X.prog X.w X.K G X.mg X.base k f fd ps den) (hr : Room k X.A) (hg : Gl X x) (hm : X.mg x = some (.ref f)) (hk : PySem.W.keepIn X.K (.ref f) = true) (hb : Binds X.K fd ps [])
    (tk : Takes X W) (hdb : (x == ("__debug__" : Str)) = false := by decide) : RE X G Φ W (.Call (.Name x p) [] [] pos) (callV den []) := fun Z hZ =>
  PE.lo (pe_callSD0 F.fn hr hg hm hk hb .nil (fun σ => passAt' tk σ) hdb) tE_call0

/-- a class of the text, ready for its own methods: its number, its data -/
def CIs (G : Nat → Option CI) (c : Nat) (C : Addr) : Prop := c < 100 ∧ ∃ i, G c = some i ∧ i.adr = C
/-- o.m(e, ..), o an instance of the class c: the def's first argument is the instance -/
def recv (c : Nat) : PV → Option (List D)
  | .val (.obj c' cs) => if c' = c then some cs else none
  | _ => none
theorem recv_some {c : Nat} : ∀ {pv : PV} {cs : List D}, recv c pv = some cs → pv = .val (.obj c cs)
  | .val (.obj c' cs'), cs, h => by
    by_cases hc : c' = c
    · have h : (if c' = c then some cs' else none) = some cs := h
      rw [if_pos hc] at h; rw [Option.some.inj h, hc]
    · have h : (if c' = c then some cs' else none) = some cs := h
      rw [if_neg hc] at h; cases h
  | .val .non, _, h => by cases h
  | .val (.bl _), _, h => by cases h
  | .val (.int _), _, h => by cases h
  | .val (.str _), _, h => by cases h
  | .val (.tup _), _, h => by cases h
  | .val (.lst _), _, h => by cases h
  | .val (.dct _ _), _, h => by cases h
  | .own _, _, h => by cases h
  | .bor _, _, h => by cases h
  | .adr _, _, h => by cases h
def eMeth (c : Nat) (den : Den) (o : M PV) (f : M (List Ag)) : M PV := mB o fun pv => mB (mO (recv c pv)) fun cs => mB f fun as => mB (mO (Ag.ds as)) fun ds => callV den (.obj c cs :: ds)
theorem lookup_none {f : Str} : ∀ {ns : List Str} {vs : List V}, ¬ f ∈ ns → (ns.zip vs).lookup f = none
  | [], _, _ => by simp
  | _ :: _, [], _ => by simp
  | n :: ns, v :: vs, h => by
    have hb : (f == n) = false := by
      have hne : f ≠ n := fun z => h (by rw [z]; exact List.mem_cons_self)
      simpa using hne
    rw [List.zip_cons_cons, List.lookup_cons, hb]
    exact lookup_none fun z => h (List.mem_cons_of_mem _ z)
def tMethS (C : Addr) (m : Str) (sp : Sp) (E : L2.St → XK) (ta : TE) (t : TA) : TE := fun σ H Q => ta σ H fun x H1 => ∃ a dx fs, x = .ref a ∧ H1 a = some (.ins C dx fs) ∧ fs.lookup m = none ∧
  t σ H1 fun vs H2 => sp (x :: vs) H2 Q (E σ)
theorem pe_methS' {CX : CXT} {k : Nat} {f C : Addr} {fd : FuncData} {ps : List Str} {sp : Sp} {E : L2.St → XK} {m : Str} {o : Expr} {ta : TE} {t : TA} {pl : Sem Bool} (he : PE X o ta) (c : Cls X.K C) (hm : Meth X.K C m f) (F : FnOk X.prog X.w X.K X.mg X.base CX k f fd ps sp) (hr : Room k X.A) (hb : Binds X.K fd ps []) (hx : ∀ σ, PassesAt CX X σ (E σ)) (ha : PA X (e :: es) t)
    (hst : starEach (e :: es) X.env = (false, eval e X.env) :: starEach es X.env := by rfl) (hpl : (backTo pos (starEach es X.env)).any (·.1) = false := by rfl)
    (ht : eval (.Call (.Attribute o m apos) (e :: es) [] pos) X.env = (do
      let ov ← eval o X.env
      standAt apos.atName
      let (f, first) ← holding [ov] (getMethod ov m pl)
      callWith pos f first (backTo pos (starEach (e :: es) X.env)) (backToKw pos (keywordEach [] X.env))) := by rfl) :
    PE X (.Call (.Attribute o m apos) (e :: es) [] pos) (tMethS C m sp E ta t) := by
  refine ⟨fun pins s σ H Q I h => ?_⟩
  refine PySem.W.methodCall_KW (pl := pl) (thn (he.run pins s σ H _ I h) fun u s1 ⟨x, H1, I1, rx, a, dx, fs, ex, ea, l, q⟩ => ?_) ht
  subst ex
  obtain rfl : u = Value.ref a := rx
  refine getmeth_ok I1 ea c hm l ?_
  refine PySem.W.callWith_K (first := [.ref a]) (h₀ := X.base) I.ok.mod.kin hm.kp (thn (ha.run pos pins s1 σ H1 _ I1 q) fun us s2 ⟨vs, H2, I2, r, q2⟩ => ⟨I2.kIn, ?_⟩) hst hpl
  exact run_fnSD (us := .ref a :: us) (vs := .ref a :: vs) (dvs := []) (ds := []) F hr hb .nil (hx σ) I2 (.cons rfl r) (by rw [List.append_nil]; exact q2)
theorem pe_methS0 {CX : CXT} {k : Nat} {f C : Addr} {fd : FuncData} {ps : List Str} {sp : Sp} {E : L2.St → XK} {m : Str} {o : Expr} {ta : TE} {pl : Sem Bool} (he : PE X o ta) (c : Cls X.K C) (hm : Meth X.K C m f) (F : FnOk X.prog X.w X.K X.mg X.base CX k f fd ps sp) (hr : Room k X.A) (hb : Binds X.K fd ps []) (hx : ∀ σ, PassesAt CX X σ (E σ))
    (ht : eval (.Call (.Attribute o m apos) [] [] pos) X.env = (do
      let ov ← eval o X.env
      standAt apos.atName
      let (f, first) ← holding [ov] (getMethod ov m pl)
      callWith pos f first (backTo pos (starEach [] X.env)) (backToKw pos (keywordEach [] X.env))) := by rfl) :
    PE X (.Call (.Attribute o m apos) [] [] pos) (tMethS C m sp E ta tNil) := by
  refine ⟨fun pins s σ H Q I h => ?_⟩
  refine PySem.W.methodCall_KW (pl := pl) (thn (he.run pins s σ H _ I h) fun u s1 ⟨x, H1, I1, rx, a, dx, fs, ex, ea, l, q⟩ => ?_) ht
  subst ex
  obtain rfl : u = Value.ref a := rx
  refine getmeth_ok I1 ea c hm l ?_
  exact PySem.W.callWith_K0 (first := [.ref a]) I1.kIn hm.kp (run_fnSD (us := [.ref a]) (vs := [.ref a]) (dvs := []) (ds := []) F hr hb .nil (hx σ) I1 (.cons rfl .nil) (by rw [List.append_nil]; exact q))
theorem tE_meth {Z : Zone} {c : Nat} {i : CI} {m : Str} {den : Den} {o : M PV} {f : M (List Ag)} {t : TA} (ht : t = tA X.K G Z W f) (hi : G c = some i) (hm : ¬ m ∈ i.names) : ∀ σ H Q, tE X.K G Z W (eMeth c den o f) σ H Q → tMethS i.adr m (spD X.K G den) (fun σ cls d H' => W cls d σ H') (tE X.K G Z W o) t σ H Q := fun σ H Q ⟨F, ρ, r, ρ', E, hf, q1, q2⟩ => by
  subst ht
  unfold eMeth at hf
  rcases mB_cases hf with ⟨x, h1, rfl⟩ | ⟨pv, ρ1, h1, h2⟩
  · exact ⟨F, ρ, _, _, E, h1, fun _ e => (by cases e), fun y e => by cases e; exact q2 _ rfl⟩
  · refine ⟨F, ρ, _, _, E, h1, fun pv' e F1 v H1 g1 E1 hv => ?_, fun y e => by cases e⟩
    cases e
    obtain ⟨cs, hcs, h3⟩ := mO_some h2
    cases recv_some hcs
    have hr : Rep X.K G F1 (.obj c cs) v := hv
    obtain ⟨a, dx, fs, e1, e2, e3⟩ : ∃ a dx fs, v = .ref a ∧ H1 a = some (.ins i.adr dx fs) ∧ fs.lookup m = none := by
      cases hr with
      | obj hg hF hl r =>
        rw [hi] at hg; cases hg
        exact ⟨_, _, _, rfl, E1.ext _ _ hF, lookup_none hm⟩
    refine ⟨a, dx, fs, e1, e2, e3, ?_⟩
    rcases mB_cases h3 with ⟨x, h4, rfl⟩ | ⟨as, ρ2, h4, h5⟩
    · exact ⟨F1, ρ1, _, _, E1, h4, fun _ e => (by cases e), fun y e => by cases e; exact (q2 _ rfl).gr g1⟩
    · refine ⟨F1, ρ1, _, _, E1, h4, fun as' e F3 vs H3 g3 E3 hA => ?_, fun y e => by cases e⟩
      cases e
      obtain ⟨ds, hds, h6⟩ := mO_some h5
      have hR : Reps X.K G F3 (.obj c cs :: ds) (v :: vs) := .cons (Rep.gr g3 hr) (ags_reps hA hds)
      unfold callV at h6
      split at h6
      · rename_i r' hden
        cases h6
        refine ⟨F3, (D.obj c cs :: ds).map PV.val, none, _, none, args_vals E3 hR, hden, fun pv e F' v H' g E' hp => ?_, fun x e F' c dd H' g E' hx => ?_⟩
        · exact q1 pv e F' v H' ((g1.trans g3).trans g) (E3.back g E') (hp.back E3 fun {ρ2 l} e ho => (E3.there (by rw [← e]; exact ho)).2)
        · exact q2 x e F' c dd σ H' ((g1.trans g3).trans g) (E3.back g E') hx
      · cases h6
theorem re_meth {k cc : Nat} {i : CI} {m : Str} {f : Addr} {fd : FuncData} {ps : List Str} {den : Den} {o : Expr} {fo : M PV} {fa : M (List Ag)} {pl : Sem Bool} (hG : GOk X.K G) (hi : G cc = some i) (hc : cc < 100) (hm : ¬ m ∈ i.names) (hM : Meth X.K i.adr m f) (F : DOk X.prog X.w X.K G X.mg X.base k f fd ps den) (hr : Room k X.A) (hb : Binds X.K fd ps [])
    (tk : Takes X W) (ho : RE X G Φ W o fo) (ha : RA X G Φ W (e :: es) fa) (hst : starEach (e :: es) X.env = (false, eval e X.env) :: starEach es X.env := by rfl) (hpl : (backTo pos (starEach es X.env)).any (·.1) = false := by rfl)
    (ht : eval (.Call (.Attribute o m apos) (e :: es) [] pos) X.env = (do
      let ov ← eval o X.env
      standAt apos.atName
      let (f, first) ← holding [ov] (getMethod ov m pl)
      callWith pos f first (backTo pos (starEach (e :: es) X.env)) (backToKw pos (keywordEach [] X.env))) := by rfl) : RE X G Φ W (.Call (.Attribute o m apos) (e :: es) [] pos) (eMeth cc den fo fa) := fun Z hZ =>
  PE.lo (pe_methS' (ho Z hZ) (hG.cls cc i hc hi) hM F.fn hr hb (fun σ => passAt' tk σ) (ha Z hZ) hst hpl ht) (tE_meth rfl hi hm)
theorem tA_nil' {K : PySem.W.Frag} {Z : Zone} : ∀ σ H Q, tA K G Z W aNil σ H Q → tNil σ H Q := fun σ H Q ⟨F, ρ, r, ρ', E, hf, q1, q2⟩ => by
  cases hf
  exact q1 _ rfl F _ H Gr.rfl E .nil
theorem re_meth0 {k cc : Nat} {i : CI} {m : Str} {f : Addr} {fd : FuncData} {ps : List Str} {den : Den} {o : Expr} {fo : M PV} {pl : Sem Bool} (hG : GOk X.K G) (hi : G cc = some i) (hc : cc < 100) (hm : ¬ m ∈ i.names) (hM : Meth X.K i.adr m f) (F : DOk X.prog X.w X.K G X.mg X.base k f fd ps den) (hr : Room k X.A) (hb : Binds X.K fd ps [])
    (tk : Takes X W) (ho : RE X G Φ W o fo)
    (ht : eval (.Call (.Attribute o m apos) [] [] pos) X.env = (do
      let ov ← eval o X.env
      standAt apos.atName
      let (f, first) ← holding [ov] (getMethod ov m pl)
      callWith pos f first (backTo pos (starEach [] X.env)) (backToKw pos (keywordEach [] X.env))) := by rfl) : RE X G Φ W (.Call (.Attribute o m apos) [] [] pos) (eMeth cc den fo aNil) := fun Z hZ =>
  PE.lo (pe_methS0 (ho Z hZ) (hG.cls cc i hc hi) hM F.fn hr hb (fun σ => passAt' tk σ) ht) fun σ H Q h => by
    have h2 := tE_meth (t := tA X.K G Z W aNil) rfl hi hm σ H Q h
    have mono : ∀ (Q1 Q2 : VK), (∀ v H, Q1 v H → Q2 v H) → tE X.K G Z W fo σ H Q1 → tE X.K G Z W fo σ H Q2 := fun Q1 Q2 hq ⟨F, ρ, r, ρ', E, hf, a, b⟩ => ⟨F, ρ, r, ρ', E, hf, fun pv e F' v H' g E' hv => hq v H' (a pv e F' v H' g E' hv), b⟩
    exact mono _ _ (fun v H1 ⟨a, dx, fs, e1, e2, e3, t⟩ => ⟨a, dx, fs, e1, e2, e3, tA_nil' σ H1 _ t⟩) h2
end
end Pl
set_option Elab.async false
set_option linter.all false
set_option maxRecDepth 100000
set_option maxHeartbeats 2000000
namespace Pl
open PySem PySem.Spec L2
open PyProof.Rows hiding St

section
variable {X : Cx} {G : Nat → Option CI} {Φ : Zone → Prop} {W : WX} {e a b c : Expr} {es : List Expr} {pos p p' apos : Pos} {st : Stmt} {rest : List Stmt}
/-! ### operators of own classes: both sides of the one class -/
def tOwn2 (C : Addr) (sp : Sp) (E : L2.St → XK) (ta tb : TE) : TE := fun σ H Q => ta σ H fun x H1 => tb σ H1 fun y H2 => ∃ a b dx dy fs gs, x = .ref a ∧ y = .ref b ∧ H2 a = some (.ins C dx fs) ∧ H2 b = some (.ins C dy gs) ∧ sp [x, y] H2 Q (E σ)
def tOwn1 (C : Addr) (sp : Sp) (E : L2.St → XK) (ta : TE) : TE := fun σ H Q => ta σ H fun x H1 => ∃ a dx fs, x = .ref a ∧ H1 a = some (.ins C dx fs) ∧ sp [x] H1 Q (E σ)
theorem back_of {Q : VK} {pins : List (Addr × Obj)} {σ : L2.St} {u : Value} {s' : Shared} (h : EP X pins σ Q u s') : PySem.W.CmpBack (EP X pins σ Q) u s' := by
  obtain ⟨v, H', I, r, q⟩ := h
  cases u <;> first
    | exact ⟨v, H', I, r, q⟩
    | (cases v <;> first | (cases r; done) | (obtain ⟨t, e⟩ := r; cases e; done))
theorem pe_own2 {CX : CXT} {k : Nat} {f C : Addr} {fd : FuncData} {ps : List Str} {sp : Sp} {E : L2.St → XK} {op : Operator} {ta tb : TE} (hself : PySem.W.selfFirst X.K C = true) (hs : PySem.W.findIn X.K (.ref C) (PySem.dunder op.info.2) = some (some (.ref f))) (hf : PySem.W.isFn X.K (.ref f) = true)
    (F : FnOk X.prog X.w X.K X.mg X.base CX k f fd ps sp) (hr : Room k X.A) (hb : Binds X.K fd ps []) (hx : ∀ σ, PassesAt CX X σ (E σ)) (ha : PE X a ta) (hb' : PE X b tb) : PE X (.BinOp a op b pos) (tOwn2 C sp E ta tb) := by
  refine ⟨fun pins s σ H Q I h => ?_⟩
  refine wpAny_BinOp (binT ha hb' I h fun v u s2 x y H2 I2 rx ry q => ?_)
  obtain ⟨a, b, dx, dy, fs, gs, rfl, rfl, ea, eb, q⟩ := q
  cases rx
  cases ry
  obtain ⟨mA, J, _⟩ := ins_get I2.hok ea
  obtain ⟨mB, J', _⟩ := ins_get I2.hok eb
  obtain ⟨od, J, _⟩ := J.look
  obtain ⟨od', J', _⟩ := J'.look
  obtain ⟨m, hF⟩ := I2.fr
  refine PySem.W.binop_K hF I2.ok.mod.kin J J'.type hself hs hf ?_
  exact thn (run_fnSD (us := [.ref a, .ref b]) (vs := [.ref a, .ref b]) (dvs := []) (ds := []) F hr hb .nil (hx σ) I2 (.cons rfl (.cons rfl .nil)) q) fun u s' z => back_of z
theorem pe_neg {CX : CXT} {k : Nat} {f C : Addr} {fd : FuncData} {ps : List Str} {sp : Sp} {E : L2.St → XK} {ta : TE} (hs : PySem.W.findIn X.K (.ref C) "__neg__" = some (some (.ref f))) (hf : PySem.W.isFn X.K (.ref f) = true)
    (F : FnOk X.prog X.w X.K X.mg X.base CX k f fd ps sp) (hr : Room k X.A) (hb : Binds X.K fd ps []) (hx : ∀ σ, PassesAt CX X σ (E σ)) (ha : PE X a ta) : PE X (.UnaryOp .USub a pos) (tOwn1 C sp E ta) := by
  refine ⟨fun pins s σ H Q I h => ?_⟩
  refine UnaryOp_ (thn (ha.run pins s σ H _ I h) fun v s1 ⟨x, H1, I1, r1, q⟩ => ?_)
  obtain ⟨a, dx, fs, rfl, ea, q⟩ := q
  cases r1
  obtain ⟨mA, J, _⟩ := ins_get I1.hok ea
  obtain ⟨od, J, _⟩ := J.look
  obtain ⟨m, hF⟩ := I1.fr
  refine PySem.W.ksp_neg hF I1.ok.mod.kin J hs hf ?_
  exact run_fnSD (us := [.ref a]) (vs := [.ref a]) (dvs := []) (ds := []) F hr hb .nil (hx σ) I1 (.cons rfl .nil) q
/-- a op b -/
def eOwn2 (c : Nat) (den : Den) (fa fb : M PV) : M PV := mB fa fun p1 => mB (mO (recv c p1)) fun cs => mB fb fun p2 => mB (mO (recv c p2)) fun cs' => callV den [.obj c cs, .obj c cs']
def eOwn1 (c : Nat) (den : Den) (fa : M PV) : M PV := mB fa fun p1 => mB (mO (recv c p1)) fun cs => callV den [.obj c cs]
theorem rep_ins {K : PySem.W.Frag} {F H : Hp} {c : Nat} {i : CI} {cs : List D} {v : V} (g : Gr F H) (hi : G c = some i) (h : Rep K G F (.obj c cs) v) : ∃ a dx fs, v = .ref a ∧ H a = some (.ins i.adr dx fs) := by
  cases h with
  | obj hg hF hl r =>
    rw [hi] at hg; cases hg
    exact ⟨_, _, _, rfl, g _ _ hF⟩
theorem tE_own2 {Z : Zone} {c : Nat} {i : CI} {den : Den} {fa fb : M PV} (hi : G c = some i) : ∀ σ H Q, tE X.K G Z W (eOwn2 c den fa fb) σ H Q → tOwn2 i.adr (spD X.K G den) (fun σ cls d H' => W cls d σ H') (tE X.K G Z W fa) (tE X.K G Z W fb) σ H Q := fun σ H Q ⟨F, ρ, r, ρ', E, hf, q1, q2⟩ => by
  unfold eOwn2 at hf
  rcases mB_cases hf with ⟨x, h1, rfl⟩ | ⟨pv, ρ1, h1, h2⟩
  · exact ⟨F, ρ, _, _, E, h1, fun _ e => (by cases e), fun y e => by cases e; exact q2 _ rfl⟩
  · refine ⟨F, ρ, _, _, E, h1, fun pv' e F1 v H1 g1 E1 hv => ?_, fun y e => by cases e⟩
    cases e
    obtain ⟨cs, hcs, h3⟩ := mO_some h2
    cases recv_some hcs
    have hr : Rep X.K G F1 (.obj c cs) v := hv
    rcases mB_cases h3 with ⟨x, h4, rfl⟩ | ⟨pv2, ρ2, h4, h5⟩
    · exact ⟨F1, ρ1, _, _, E1, h4, fun _ e => (by cases e), fun y e => by cases e; exact (q2 _ rfl).gr g1⟩
    · refine ⟨F1, ρ1, _, _, E1, h4, fun as' e F3 v2 H3 g3 E3 hv2 => ?_, fun y e => by cases e⟩
      cases e
      obtain ⟨cs', hcs', h6⟩ := mO_some h5
      cases recv_some hcs'
      have hr2 : Rep X.K G F3 (.obj c cs') v2 := hv2
      obtain ⟨a, dx, fs, e1, e2⟩ := rep_ins E3.ext hi (Rep.gr g3 hr)
      obtain ⟨b, dy, gs, e3, e4⟩ := rep_ins E3.ext hi hr2
      refine ⟨a, b, dx, dy, fs, gs, e1, e3, e2, e4, ?_⟩
      have hR : Reps X.K G F3 [.obj c cs, .obj c cs'] [v, v2] := .cons (Rep.gr g3 hr) (.cons hr2 .nil)
      unfold callV at h6
      split at h6
      · rename_i r' hden
        cases h6
        refine ⟨F3, [D.obj c cs, .obj c cs'].map PV.val, none, _, none, args_vals E3 hR, hden, fun pv e F' v H' g E' hp => ?_, fun x e F' c dd H' g E' hx => ?_⟩
        · exact q1 pv e F' v H' ((g1.trans g3).trans g) (E3.back g E') (hp.back E3 fun {ρ2 l} e ho => (E3.there (by rw [← e]; exact ho)).2)
        · exact q2 x e F' c dd σ H' ((g1.trans g3).trans g) (E3.back g E') hx
      · cases h6
theorem tE_own1 {Z : Zone} {c : Nat} {i : CI} {den : Den} {fa : M PV} (hi : G c = some i) : ∀ σ H Q, tE X.K G Z W (eOwn1 c den fa) σ H Q → tOwn1 i.adr (spD X.K G den) (fun σ cls d H' => W cls d σ H') (tE X.K G Z W fa) σ H Q := fun σ H Q ⟨F, ρ, r, ρ', E, hf, q1, q2⟩ => by
  unfold eOwn1 at hf
  rcases mB_cases hf with ⟨x, h1, rfl⟩ | ⟨pv, ρ1, h1, h2⟩
  · exact ⟨F, ρ, _, _, E, h1, fun _ e => (by cases e), fun y e => by cases e; exact q2 _ rfl⟩
  · refine ⟨F, ρ, _, _, E, h1, fun pv' e F1 v H1 g1 E1 hv => ?_, fun y e => by cases e⟩
    cases e
    obtain ⟨cs, hcs, h6⟩ := mO_some h2
    cases recv_some hcs
    have hr : Rep X.K G F1 (.obj c cs) v := hv
    obtain ⟨a, dx, fs, e1, e2⟩ := rep_ins E1.ext hi hr
    refine ⟨a, dx, fs, e1, e2, ?_⟩
    have hR : Reps X.K G F1 [.obj c cs] [v] := .cons hr .nil
    unfold callV at h6
    split at h6
    · rename_i r' hden
      cases h6
      refine ⟨F1, [D.obj c cs].map PV.val, none, _, none, args_vals E1 hR, hden, fun pv e F' v H' g E' hp => ?_, fun x e F' c dd H' g E' hx => ?_⟩
      · exact q1 pv e F' v H' (g1.trans g) (E1.back g E') (hp.back E1 fun {ρ2 l} e ho => (E1.there (by rw [← e]; exact ho)).2)
      · exact q2 x e F' c dd σ H' (g1.trans g) (E1.back g E') hx
    · cases h6
/-- the class c of the text has the def f as the method m -/
structure MOk (K : PySem.W.Frag) (C : Addr) (m : Str) (f : Addr) : Prop where
  me : Meth K C m f
theorem re_own2 {k cc : Nat} {i : CI} {f : Addr} {fd : FuncData} {ps : List Str} {den : Den} {op : Operator} {fa fb : M PV} (hi : G cc = some i) (hself : PySem.W.selfFirst X.K i.adr = true) (hM : Meth X.K i.adr (PySem.dunder op.info.2) f) (F : DOk X.prog X.w X.K G X.mg X.base k f fd ps den) (hr : Room k X.A) (hb : Binds X.K fd ps [])
    (tk : Takes X W) (ha : RE X G Φ W a fa) (hb' : RE X G Φ W b fb) : RE X G Φ W (.BinOp a op b pos) (eOwn2 cc den fa fb) := fun Z hZ =>
  PE.lo (pe_own2 hself hM.at_ hM.fn F.fn hr hb (fun σ => passAt' tk σ) (ha Z hZ) (hb' Z hZ)) (tE_own2 hi)
theorem re_neg {k cc : Nat} {i : CI} {f : Addr} {fd : FuncData} {ps : List Str} {den : Den} {fa : M PV} (hi : G cc = some i) (hM : Meth X.K i.adr "__neg__" f) (F : DOk X.prog X.w X.K G X.mg X.base k f fd ps den) (hr : Room k X.A) (hb : Binds X.K fd ps [])
    (tk : Takes X W) (ha : RE X G Φ W a fa) : RE X G Φ W (.UnaryOp .USub a pos) (eOwn1 cc den fa) := fun Z hZ =>
  PE.lo (pe_neg hM.at_ hM.fn F.fn hr hb (fun σ => passAt' tk σ) (ha Z hZ)) (tE_own1 hi)

/-! ### operations on values that are made -/
def eBin (g : D → D → Option D) (fa fb : M PV) : M PV := mB fa fun p1 => mB (mO p1.tree) fun x => mB fb fun p2 => mB (mO p2.tree) fun y => mB (mO (g x y)) fun d => mR (.val d)
def eUn (g : D → Option D) (fa : M PV) : M PV := mB fa fun p1 => mB (mO p1.tree) fun x => mB (mO (g x)) fun d => mR (.val d)
theorem tE_bin {Z : Zone} {r : R2} {g : D → D → Option D} {fa fb : M PV} (hg : OpI X G r g) : ∀ σ H Q, tE X.K G Z W (eBin g fa fb) σ H Q → tOp r (tE X.K G Z W fa) (tE X.K G Z W fb) σ H Q := fun σ H Q ⟨F, ρ, r, ρ', E, hf, q1, q2⟩ => by
  unfold eBin at hf
  rcases mB_cases hf with ⟨x, h1, rfl⟩ | ⟨pv, ρ1, h1, h2⟩
  · exact ⟨F, ρ, _, _, E, h1, fun _ e => (by cases e), fun y e => by cases e; exact q2 _ rfl⟩
  · refine ⟨F, ρ, _, _, E, h1, fun pv' e F1 v H1 g1 E1 hv => ?_, fun y e => by cases e⟩
    cases e
    obtain ⟨x, hx, h3⟩ := mO_some h2
    obtain ⟨F2, g2, E2, hr⟩ := hv.frz E1 hx
    rcases mB_cases h3 with ⟨z, h4, rfl⟩ | ⟨pv2, ρ2, h4, h5⟩
    · exact ⟨F2, ρ1, _, _, E2, h4, fun _ e => (by cases e), fun y e => by cases e; exact (q2 _ rfl).gr (g1.trans g2)⟩
    · refine ⟨F2, ρ1, _, _, E2, h4, fun as' e F3 v2 H3 g3 E3 hv2 => ?_, fun y e => by cases e⟩
      cases e
      obtain ⟨y, hy, h6⟩ := mO_some h5
      obtain ⟨F4, g4, E4, hr2⟩ := hv2.frz E3 hy
      obtain ⟨d, hd, h7⟩ := mO_some h6
      cases h7
      exact hg Z F4 _ σ H3 x y d v v2 Q E4 hd ((Rep.gr (g3.trans g4) hr).pk E4.ext) (hr2.pk E4.ext) fun w hw => q1 _ rfl F4 w H3 (((g1.trans g2).trans g3).trans g4) E4 hw
theorem re_bin {op : Operator} {r : R2} {g : D → D → Option D} {fa fb : M PV} (ho : OpR X (binaryOp op) r) (hg : OpI X G r g) (ha : RE X G Φ W a fa) (hb : RE X G Φ W b fb) : RE X G Φ W (.BinOp a op b pos) (eBin g fa fb) := fun Z hZ => PE.lo (pe_op ho (ha Z hZ) (hb Z hZ)) (tE_bin hg)
theorem re_cmp {op : CmpOp} {r : R2} {g : D → D → Option D} {fa fb : M PV} (ho : OpR X (compareOp op) r) (hg : OpI X G r g) (ha : RE X G Φ W a fa) (hb : RE X G Φ W b fb) (hm : behindInMarks op b = false) : RE X G Φ W (.Compare a [op] [b] pos) (eBin g fa fb) := fun Z hZ =>
  PE.lo (pe_cmpR ho (ha Z hZ) (hb Z hZ) hm) (tE_bin hg)
theorem re_ix {fa fb : M PV} (ha : RE X G Φ W a fa) (hb : RE X G Φ W b fb) (hs : PlainIx b := by exact fun _ _ => rfl) : RE X G Φ W (.Subscript a b pos) (eBin dIx fa fb) := fun Z hZ => PE.lo (pe_ix ix_any (ha Z hZ) (hb Z hZ) hs) (tE_bin opi_ix)
theorem tE_un {Z : Zone} {r : V → Hp → VK → Prop} {g : D → Option D} {fa : M PV} (hg : OpU X G r g) : ∀ σ H Q, tE X.K G Z W (eUn g fa) σ H Q → tE X.K G Z W fa σ H fun x H1 => r x H1 Q := fun σ H Q ⟨F, ρ, r, ρ', E, hf, q1, q2⟩ => by
  unfold eUn at hf
  rcases mB_cases hf with ⟨x, h1, rfl⟩ | ⟨pv, ρ1, h1, h2⟩
  · exact ⟨F, ρ, _, _, E, h1, fun _ e => (by cases e), fun y e => by cases e; exact q2 _ rfl⟩
  · refine ⟨F, ρ, _, _, E, h1, fun pv' e F1 v H1 g1 E1 hv => ?_, fun y e => by cases e⟩
    cases e
    obtain ⟨x, hx, h3⟩ := mO_some h2
    obtain ⟨F2, g2, E2, hr⟩ := hv.frz E1 hx
    obtain ⟨d, hd, h7⟩ := mO_some h3
    cases h7
    exact hg Z F2 _ σ H1 x d v Q E2 hd (hr.pk E2.ext) fun w hw => q1 _ rfl F2 w H1 (g1.trans g2) E2 hw
theorem re_un {op : UnaryOp} {r : V → Hp → VK → Prop} {g : D → Option D} {fa : M PV} (ho : UnR X (unaryOp op) r) (hg : OpU X G r g) (ha : RE X G Φ W a fa) : RE X G Φ W (.UnaryOp op a pos) (eUn g fa) := fun Z hZ => PE.lo (pe_un ho (ha Z hZ)) (tE_un hg)
theorem re_c1 {id : String} {x : Str} {r : List V → Hp → VK → Prop} {g : D → Option D} {fa : M PV} (hc : CallR X (.builtin id) r) (hg : OpC1 X G r g) (hl : Gl X x) (hm : X.mg x = none) (hv : bootBuiltins x = some (.builtin id)) (ha : RE X G Φ W a fa)
    (hn : x ≠ "__name__" := by decide) (hdb : (x == ("__debug__" : Str)) = false := by decide) (hs : starEach [a] X.env = (false, eval a X.env) :: starEach [] X.env := by rfl) (hpl : (backTo pos (starEach [] X.env)).any (·.1) = false := by rfl) :
    RE X G Φ W (.Call (.Name x p) [a] [] pos) (eUn g fa) := fun Z hZ => PE.lo (pe_callB hc hl hm hv (pa_cons (ha Z hZ) pa_nil hs) hn hdb hs hpl) (tE_un hg)
theorem re_t1 {T : String} {x : Str} {r : List V → Hp → VK → Prop} {g : D → Option D} {fa : M PV} (hc : CallR X (.type T) r) (hg : OpC1 X G r g) (hl : Gl X x) (hm : X.mg x = none) (hv : bootBuiltins x = some (.type T)) (ha : RE X G Φ W a fa)
    (hn : x ≠ "__name__" := by decide) (hdb : (x == ("__debug__" : Str)) = false := by decide) (hs : starEach [a] X.env = (false, eval a X.env) :: starEach [] X.env := by rfl) (hpl : (backTo pos (starEach [] X.env)).any (·.1) = false := by rfl) :
    RE X G Φ W (.Call (.Name x p) [a] [] pos) (eUn g fa) := fun Z hZ => PE.lo (pe_callTy hc hl hm hv (pa_cons (ha Z hZ) pa_nil hs) hn hdb hs hpl) (tE_un hg)
/-- the field of a value that is made -/
theorem re_fld {c j : Nat} {i : CI} {f : Str} {fa : M PV} (hG : GOk X.K G) (hi : G c = some i) (hc : c < 100) (hf : i.names[j]? = some f) (ha : RE X G Φ W a fa) (hb : attributeBase a f X.env (eval a X.env) = eval a X.env := by rfl) :
    RE X G Φ W (.Attribute a f pos) (eUn (dFld c j) fa) := fun Z hZ => PE.lo (pe_fld (ha Z hZ) hb) fun σ H Q h =>
  tE_un (X := X) (r := fun x H1 Q => ∃ a C dx fs v, x = .ref a ∧ H1 a = some (.ins C dx fs) ∧ Cls X.K C ∧ NoAttr X.K C f ∧ fs.lookup f = some v ∧ Q v H1) (fun Z F ρ σ H x d u Q E hd hu q => by
    unfold dFld at hd
    split at hd
    · rename_i c' ds
      split at hd
      · subst c'
        obtain ⟨aa, i', dx, vs, rfl, g, hH, hl, r⟩ := hu
        rw [hi] at g; cases g
        obtain ⟨v, h3, h4⟩ := r.get hd
        exact ⟨aa, i.adr, dx, _, v, rfl, hH, hG.cls c i hc hi, hG.fld c i f hc hi (List.mem_of_getElem? hf), lookup_zip (hG.nd c i hc hi) hf h3, q v h4⟩
      · cases hd
    · cases hd) σ H Q h

/-! ### tests of values that are made -/
def bVal (f : M PV) : M Bool := mB f fun pv => match pv with
  | .val (.bl b) => mR b
  | _ => fun _ => none
def bTru (f : M PV) : M Bool := mB f fun pv => mB (mO pv.tree) fun d => mO d.truth
def bNot (f : M Bool) : M Bool := mB f fun b => mR (!b)
def bAnd (f g : M Bool) : M Bool := mB f fun b => if b = true then g else mR false
def bOr (f g : M Bool) : M Bool := mB f fun b => if b = true then mR true else g
theorem rt_val {f : M PV} (h : RE X G Φ W e f) (he : ∀ whole, isTrue e X.env whole = (do let v ← whole; standAt e.pos; holding [v] (truthy v)) := by intro _; rfl) : RT X G Φ W e (bVal f) := fun Z hZ =>
  PT.lo (pt_val (h Z hZ) he) fun σ H Q ⟨F, ρ, r, ρ', E, hf, q1, q2⟩ => by
    unfold bVal at hf
    rcases mB_cases hf with ⟨x, h1, rfl⟩ | ⟨pv, ρ1, h1, h2⟩
    · exact ⟨F, ρ, _, _, E, h1, fun _ e => (by cases e), fun y e => by cases e; exact q2 _ rfl⟩
    · refine ⟨F, ρ, _, _, E, h1, fun pv' e F1 v H1 g1 E1 hv => ?_, fun y e => by cases e⟩
      cases e
      split at h2
      · cases h2
        cases (show Rep X.K G F1 (.bl _) v from hv)
        exact ⟨_, rfl, q1 _ rfl F1 H1 g1 E1⟩
      · cases h2
theorem rt_tru {f : M PV} (h : RE X G Φ W e f) (he : ∀ whole, isTrue e X.env whole = (do let v ← whole; standAt e.pos; holding [v] (truthy v)) := by intro _; rfl) : RT X G Φ W e (bTru f) := fun Z hZ =>
  PT.lo (pt_truth (h Z hZ) he) fun σ H Q ⟨F, ρ, r, ρ', E, hf, q1, q2⟩ => by
    unfold bTru at hf
    rcases mB_cases hf with ⟨x, h1, rfl⟩ | ⟨pv, ρ1, h1, h2⟩
    · exact ⟨F, ρ, _, _, E, h1, fun _ e => (by cases e), fun y e => by cases e; exact q2 _ rfl⟩
    · refine ⟨F, ρ, _, _, E, h1, fun pv' e F1 v H1 g1 E1 hv => ?_, fun y e => by cases e⟩
      cases e
      obtain ⟨d, hd, h3⟩ := mO_some h2
      obtain ⟨F2, g2, E2, hr⟩ := hv.frz E1 hd
      cases h4 : d.truth with
      | none => rw [h4] at h3; cases h3
      | some k =>
        rw [h4] at h3; cases h3
        exact ⟨k, pk_truth (hr.pk E2.ext) h4, q1 _ rfl F2 H1 (g1.trans g2) E2⟩
theorem rt_not {f : M Bool} (h : RT X G Φ W a f) : RT X G Φ W (.UnaryOp .Not a pos) (bNot f) := fun Z hZ => PT.lo (pt_not (h Z hZ)) fun σ H Q ⟨F, ρ, r, ρ', E, hf, q1, q2⟩ => by
  unfold bNot at hf
  rcases mB_cases hf with ⟨x, h1, rfl⟩ | ⟨b, ρ1, h1, h2⟩
  · exact ⟨F, ρ, _, _, E, h1, fun _ e => (by cases e), fun y e => by cases e; exact q2 _ rfl⟩
  · cases h2
    exact ⟨F, ρ, _, _, E, h1, fun b' e F1 H1 g1 E1 => by cases e; exact q1 _ rfl F1 H1 g1 E1, fun y e => by cases e⟩
def RWt (X : Cx) (G : Nat → Option CI) (Φ : Zone → Prop) (W : WX) (e : Expr) (f : M Bool) : Prop := ∀ Z, Φ Z → PW X e (tT X.K G Z W f)
theorem rwt_and1 {f : M Bool} (h : RT X G Φ W a f) : RWt X G Φ W (.BoolOp .And [a] pos) f := fun Z hZ => pw_and1 (h Z hZ)
theorem rwt_or1 {f : M Bool} (h : RT X G Φ W a f) : RWt X G Φ W (.BoolOp .Or [a] pos) f := fun Z hZ => pw_or1 (h Z hZ)
theorem rwt_and {f g : M Bool} {rest : List Expr} (h : RT X G Φ W a f) (h' : RWt X G Φ W (.BoolOp .And (b :: rest) pos) g) : RWt X G Φ W (.BoolOp .And (a :: b :: rest) pos) (bAnd f g) := fun Z hZ =>
  PW.lo (pw_and (h Z hZ) (h' Z hZ)) fun σ H Q ⟨F, ρ, r, ρ', E, hf, q1, q2⟩ => by
    unfold bAnd at hf
    rcases mB_cases hf with ⟨x, h1, rfl⟩ | ⟨b, ρ1, h1, h2⟩
    · exact ⟨F, ρ, _, _, E, h1, fun _ e => (by cases e), fun y e => by cases e; exact q2 _ rfl⟩
    · refine ⟨F, ρ, _, _, E, h1, fun b' e F1 H1 g1 E1 => ?_, fun y e => by cases e⟩
      cases e
      cases b with
      | true => exact iteT ⟨F1, ρ1, r, ρ', E1, h2, fun b e F2 H2 g2 E2 => q1 b e F2 H2 (g1.trans g2) E2, fun y e => (q2 y e).gr g1⟩
      | false => cases h2; exact iteF (q1 _ rfl F1 H1 g1 E1)
theorem rwt_or {f g : M Bool} {rest : List Expr} (h : RT X G Φ W a f) (h' : RWt X G Φ W (.BoolOp .Or (b :: rest) pos) g) : RWt X G Φ W (.BoolOp .Or (a :: b :: rest) pos) (bOr f g) := fun Z hZ =>
  PW.lo (pw_or (h Z hZ) (h' Z hZ)) fun σ H Q ⟨F, ρ, r, ρ', E, hf, q1, q2⟩ => by
    unfold bOr at hf
    rcases mB_cases hf with ⟨x, h1, rfl⟩ | ⟨b, ρ1, h1, h2⟩
    · exact ⟨F, ρ, _, _, E, h1, fun _ e => (by cases e), fun y e => by cases e; exact q2 _ rfl⟩
    · refine ⟨F, ρ, _, _, E, h1, fun b' e F1 H1 g1 E1 => ?_, fun y e => by cases e⟩
      cases e
      cases b with
      | false => exact iteF ⟨F1, ρ1, r, ρ', E1, h2, fun b e F2 H2 g2 E2 => q1 b e F2 H2 (g1.trans g2) E2, fun y e => (q2 y e).gr g1⟩
      | true => cases h2; exact iteT (q1 _ rfl F1 H1 g1 E1)
theorem rt_w {f : M Bool} (h : RWt X G Φ W e f) : RT X G Φ W e f := fun Z hZ => PW.pt (h Z hZ)
def eBl (f : M Bool) : M PV := mB f fun b => mR (.val (.bl b))
def eAnd (f g : M PV) : M PV := mB f fun pv => match pv with
  | .val (.bl true) => g
  | .val (.bl false) => mR (.val (.bl false))
  | _ => fun _ => none
def eOr (f g : M PV) : M PV := mB f fun pv => match pv with
  | .val (.bl false) => g
  | .val (.bl true) => mR (.val (.bl true))
  | _ => fun _ => none
theorem re_one {op} {f : M PV} (h : RE X G Φ W a f) : RE X G Φ W (.BoolOp op [a] pos) f := fun Z hZ => pe_one (h Z hZ)
theorem re_and {f g : M PV} {rest : List Expr} (h : RE X G Φ W a f) (h' : RE X G Φ W (.BoolOp .And (b :: rest) pos) g) : RE X G Φ W (.BoolOp .And (a :: b :: rest) pos) (eAnd f g) := fun Z hZ =>
  PE.lo (pe_and (h Z hZ) (h' Z hZ)) fun σ H Q ⟨F, ρ, r, ρ', E, hf, q1, q2⟩ => by
    unfold eAnd at hf
    rcases mB_cases hf with ⟨x, h1, rfl⟩ | ⟨pv, ρ1, h1, h2⟩
    · exact ⟨F, ρ, _, _, E, h1, fun _ e => (by cases e), fun y e => by cases e; exact q2 _ rfl⟩
    · refine ⟨F, ρ, _, _, E, h1, fun pv' e F1 v H1 g1 E1 hv => ?_, fun y e => by cases e⟩
      cases e
      split at h2
      · cases (show Rep X.K G F1 (.bl true) v from hv)
        exact ⟨_, rfl, iteT ⟨F1, ρ1, r, ρ', E1, h2, fun b e F2 v H2 g2 E2 => q1 b e F2 v H2 (g1.trans g2) E2, fun y e => (q2 y e).gr g1⟩⟩
      · cases h2
        cases (show Rep X.K G F1 (.bl false) v from hv)
        exact ⟨_, rfl, iteF (q1 _ rfl F1 _ H1 g1 E1 (.bl false))⟩
      · cases h2
theorem re_or {f g : M PV} {rest : List Expr} (h : RE X G Φ W a f) (h' : RE X G Φ W (.BoolOp .Or (b :: rest) pos) g) : RE X G Φ W (.BoolOp .Or (a :: b :: rest) pos) (eOr f g) := fun Z hZ =>
  PE.lo (pe_or (h Z hZ) (h' Z hZ)) fun σ H Q ⟨F, ρ, r, ρ', E, hf, q1, q2⟩ => by
    unfold eOr at hf
    rcases mB_cases hf with ⟨x, h1, rfl⟩ | ⟨pv, ρ1, h1, h2⟩
    · exact ⟨F, ρ, _, _, E, h1, fun _ e => (by cases e), fun y e => by cases e; exact q2 _ rfl⟩
    · refine ⟨F, ρ, _, _, E, h1, fun pv' e F1 v H1 g1 E1 hv => ?_, fun y e => by cases e⟩
      cases e
      split at h2
      · cases (show Rep X.K G F1 (.bl false) v from hv)
        exact ⟨_, rfl, iteF ⟨F1, ρ1, r, ρ', E1, h2, fun b e F2 v H2 g2 E2 => q1 b e F2 v H2 (g1.trans g2) E2, fun y e => (q2 y e).gr g1⟩⟩
      · cases h2
        cases (show Rep X.K G F1 (.bl true) v from hv)
        exact ⟨_, rfl, iteT (q1 _ rfl F1 _ H1 g1 E1 (.bl true))⟩
      · cases h2
theorem re_not {f : M PV} (h : RE X G Φ W a f) : RE X G Φ W (.UnaryOp .Not a pos) (eBl (bNot (bVal f))) := fun Z hZ =>
  PE.lo (pe_not (h Z hZ)) fun σ H Q ⟨F, ρ, r, ρ', E, hf, q1, q2⟩ => by
    unfold eBl at hf
    rcases mB_cases hf with ⟨x, h1, rfl⟩ | ⟨b, ρ1, h1, h2⟩
    · unfold bNot at h1
      rcases mB_cases h1 with ⟨y, h3, e⟩ | ⟨b, ρ2, h3, h4⟩
      · cases e
        unfold bVal at h3
        rcases mB_cases h3 with ⟨z, h5, e⟩ | ⟨pv, ρ3, h5, h6⟩
        · cases e; exact ⟨F, ρ, _, _, E, h5, fun _ e => (by cases e), fun y e => by cases e; exact q2 _ rfl⟩
        · split at h6 <;> cases h6
      · cases h4
    · cases h2
      unfold bNot at h1
      rcases mB_cases h1 with ⟨y, h3, e⟩ | ⟨b', ρ2, h3, h4⟩
      · cases e
      · cases h4
        unfold bVal at h3
        rcases mB_cases h3 with ⟨z, h5, e⟩ | ⟨pv, ρ3, h5, h6⟩
        · cases e
        · refine ⟨F, ρ, _, _, E, h5, fun pv' e F1 v H1 g1 E1 hv => ?_, fun y e => by cases e⟩
          cases e
          split at h6
          · cases h6
            cases (show Rep X.K G F1 (.bl _) v from hv)
            exact ⟨_, rfl, q1 _ rfl F1 _ H1 g1 E1 (.bl _)⟩
          · cases h6
def eIf (c : M Bool) (f g : M PV) : M PV := mB c fun b => if b = true then f else g
theorem re_if {u : M Bool} {f g : M PV} (hc : RT X G Φ W c u) (h : RE X G Φ W a f) (h' : RE X G Φ W b g) : RE X G Φ W (.IfExp c a b pos) (eIf u f g) := fun Z hZ =>
  PE.lo (pe_ifExp (hc Z hZ) (h Z hZ) (h' Z hZ)) fun σ H Q ⟨F, ρ, r, ρ', E, hf, q1, q2⟩ => by
    unfold eIf at hf
    rcases mB_cases hf with ⟨x, h1, rfl⟩ | ⟨b, ρ1, h1, h2⟩
    · exact ⟨F, ρ, _, _, E, h1, fun _ e => (by cases e), fun y e => by cases e; exact q2 _ rfl⟩
    · refine ⟨F, ρ, _, _, E, h1, fun b' e F1 H1 g1 E1 => ?_, fun y e => by cases e⟩
      cases e
      cases b with
      | true => exact iteT ⟨F1, ρ1, r, ρ', E1, h2, fun fl e F2 v H2 g2 E2 => q1 fl e F2 v H2 (g1.trans g2) E2, fun y e => (q2 y e).gr g1⟩
      | false => exact iteF ⟨F1, ρ1, r, ρ', E1, h2, fun fl e F2 v H2 g2 E2 => q1 fl e F2 v H2 (g1.trans g2) E2, fun y e => (q2 y e).gr g1⟩
end
end Pl
set_option Elab.async false
set_option linter.all false
set_option maxRecDepth 100000
set_option maxHeartbeats 2000000
namespace Pl
open PySem PySem.Spec L2
open PyProof.Rows hiding St

section
variable {X : Cx} {G : Nat → Option CI} {Φ : Zone → Prop} {W : WX} {e a b c : Expr} {es : List Expr} {pos p p' apos : Pos} {st : Stmt} {rest : List Stmt}
/-! ### a new instance -/
/-- C(e, ..): __init__ fills n fields -/
def makeV (c n : Nat) (den : Den) (ds : List D) : M PV := fun ρ => match den (.bor (.ins c []) :: ds.map PV.val) with
  | some (.ok (.val .non), some (.ins c' cs)) => if c' = c ∧ cs.length = n then some (.ok (.val (.obj c cs)), ρ) else none
  | some (.error x, some _) => some (.error x, ρ)
  | _ => none
def eMake (c n : Nat) (den : Den) (f : M (List Ag)) : M PV := mB f fun as => mB (mO (Ag.ds as)) fun ds => makeV c n den ds
def tMakeS (C : Addr) (sp : Sp) (E : L2.St → XK) (t : TA) : TE := fun σ H Q => t σ H fun vs H1 => ∀ x dx, H1 x = none → H1 dx = none → dx ≠ x →
  sp (.ref x :: vs) (upd (upd H1 dx (.own x)) x (.ins C dx [])) (fun v H2 => v = .non ∧ Q (.ref x) H2) (E σ)
theorem run_makeS {CX : CXT} {k : Nat} {f C : Addr} {fd : FuncData} {ps : List Str} {sp : Sp} {E : L2.St → XK} {pins : List (Addr × Obj)} {σ : L2.St} {H : Hp} {s : Shared} {Q : VK} {us : List Value} {vs : List V} (M : Mk X.K C f) (F : FnOk X.prog X.w X.K X.mg X.base CX k f fd ps sp) (hr : Room (k + 1) X.A) (hb : Binds X.K fd ps [])
    (hx : ∀ σ, PassesAt CX X σ (E σ)) (I : Inv X pins σ H s) (r : Vals vs us)
    (h : ∀ x dx, H x = none → H dx = none → dx ≠ x → sp (.ref x :: vs) (upd (upd H dx (.own x)) x (.ins C dx [])) (fun v H2 => v = .non ∧ Q (.ref x) H2) (E σ)) : wpAny (model X.prog X.w) X.A (call (.ref C) us) (EP X pins σ Q) X.xe s := by
  have hq := h _ _ (I.hok.fresh (Nat.le_succ _)) (I.hok.fresh (Nat.le_refl _)) (Nat.ne_of_lt (Nat.lt_succ_self _))
  have J := Inv.made (C := C) I
  have r2 : Vals (V.ref (s.heap.objs.size + 1) :: vs) (Value.ref (s.heap.objs.size + 1) :: us) := .cons rfl r
  have hl := F.len _ _ _ _ hq
  rw [r2.length] at hl
  have hbind := hb { s with heap := (s.heap.push PySem.W.emptyDict).push (PySem.W.instObj C s.heap.objs.size) } (Value.ref (s.heap.objs.size + 1) :: us) J.kIn (by rw [List.append_nil]; exact hl)
  rw [List.append_nil] at hbind
  have run := F.run _ X.stack _ _ ⟨Value.ref (s.heap.objs.size + 1) :: us, []⟩ _ _ _ (E σ) (hr.make C us []) (J.env0.make C us []) hbind r2 hq
  refine wpAny_call (make_map (f := f) I.kIn M.makes M.init (beq_iff_eq.mp M.fn) (codeAny_mono run fun res s' z => ?_))
  cases res with
  | error er => exact hx σ pins _ _ er s' J z
  | ok fl =>
    cases fl with
    | ret u =>
      obtain ⟨v, H', I', rv, ev, q⟩ := J.after z
      subst ev
      exact ⟨rv, .ref _, H', I', rfl, q⟩
    | next => exact z.elim
    | brk => exact z.elim
    | cont => exact z.elim
theorem pe_makeS {CX : CXT} {k : Nat} {f C : Addr} {fd : FuncData} {ps : List Str} {sp : Sp} {E : L2.St → XK} {x : Str} {t : TA} (M : Mk X.K C f) (F : FnOk X.prog X.w X.K X.mg X.base CX k f fd ps sp) (hr : Room (k + 1) X.A) (hg : Gl X x) (hm : X.mg x = some (.ref C)) (hb : Binds X.K fd ps []) (hx : ∀ σ, PassesAt CX X σ (E σ))
    (ha : PA X (e :: es) t) (hdb : (x == ("__debug__" : Str)) = false := by decide) (he : starEach (e :: es) X.env = (false, eval e X.env) :: starEach es X.env := by rfl) (hpl : (backTo pos (starEach es X.env)).any (·.1) = false := by rfl) :
    PE X (.Call (.Name x p) (e :: es) [] pos) (tMakeS C sp E t) := by
  refine ⟨fun pins s σ H Q I h => ?_⟩
  refine wpAny_Call_Name_kw (ld_glob I hg hm ?_ hdb)
  exact PySem.W.callWith_K (h₀ := X.base) I.ok.mod.kin M.kp (thn (ha.run pos pins s σ H _ I h) fun us s1 ⟨vs, H1, I1, r, q⟩ => ⟨I1.kIn, run_makeS M F hr hb hx I1 r q⟩) he hpl
theorem pe_makeS0 {CX : CXT} {k : Nat} {f C : Addr} {fd : FuncData} {ps : List Str} {sp : Sp} {E : L2.St → XK} {x : Str} (M : Mk X.K C f) (F : FnOk X.prog X.w X.K X.mg X.base CX k f fd ps sp) (hr : Room (k + 1) X.A) (hg : Gl X x) (hm : X.mg x = some (.ref C)) (hb : Binds X.K fd ps []) (hx : ∀ σ, PassesAt CX X σ (E σ))
    (hdb : (x == ("__debug__" : Str)) = false := by decide) : PE X (.Call (.Name x p) [] [] pos) (tMakeS C sp E tNil) := by
  refine ⟨fun pins s σ H Q I h => ?_⟩
  refine wpAny_Call_Name_kw (ld_glob I hg hm ?_ hdb)
  exact PySem.W.callWith_K0 I.kIn M.kp (run_makeS (us := []) M F hr hb hx I .nil h)
/-- behind a call whose lent thing was made for it, at x: the caller's environment -/
theorem EnvOk.backX {K : PySem.W.Frag} {Z : Zone} {F F' H Hx H' : Hp} {x : Addr} {ρ ρ' : En} {σ σ' : L2.St} (E : EnvOk K G Z F ρ σ H) (g : Gr F F') (hx : H x = none) (gx : ∀ a o, H a = some o → Hx a = some o) (E' : EnvOk K G (zoneOf Hx F (some x)) F' ρ' σ' H') : EnvOk K G Z F' ρ σ H' :=
  E.grown (fun a o h => E'.kept a o (gx a o h) fun i hi => by
    unfold zoneOf at hi
    dsimp only at hi
    split at hi
    · cases hi; rw [hx] at h; cases h
    · cases hi) g E'.ext (fun l ho => by
    obtain ⟨h1, u, h2⟩ := E.there ho
    cases e : F' l with
    | none => rfl
    | some o =>
      rcases E'.grow l o e with z | z
      · have z : F l = some o := z
        rw [h1] at z; cases z
      · have z : Hx l = none := z
        rw [gx _ _ h2] at z; cases z) fun a o h => (E'.grow a o h).imp id fun z => by
    cases q : H a with
    | none => rfl
    | some u =>
      have z : Hx a = none := z
      rw [gx _ _ q] at z; cases z
theorem args_ins {K : PySem.W.Frag} {Z : Zone} {F H : Hp} {ρ : En} {σ : L2.St} {ds : List D} {vs : List V} {c : Nat} {i : CI} {x dx : Addr} (E : EnvOk K G Z F ρ σ H) (r : Reps K G F ds vs) (hi : G c = some i) (hx : H x = none) (hdx : H dx = none) :
    EnvOk K G (zoneOf (upd (upd H dx (.own x)) x (.ins i.adr dx [])) F (some x)) F ((PV.bor (.ins c []) :: ds.map PV.val).map some) ((.ref x :: vs).map some) (upd (upd H dx (.own x)) x (.ins i.adr dx [])) where
  len := by simp [r.length]
  ext := fun a o h => by
    have h' := E.ext a o h
    rw [upd_ne (ne_of_none h' hx), upd_ne (ne_of_none h' hdx)]; exact h'
  val := fun j d h => by
    have h1 := map_at h
    cases j with
    | zero => cases h1
    | succ j =>
      rw [List.getElem?_cons_succ, List.getElem?_map] at h1
      cases e : ds[j]? with
      | none => rw [e] at h1; cases h1
      | some d' =>
        rw [e] at h1; cases h1
        obtain ⟨v, h2, h3⟩ := r.get e
        exact ⟨v, sl_map (by rw [List.getElem?_cons_succ]; exact h2), h3⟩
  own := fun j o h => by
    have h1 := map_at h
    cases j with
    | zero => cases h1
    | succ j =>
      rw [List.getElem?_cons_succ, List.getElem?_map] at h1
      cases e : ds[j]? <;> rw [e] at h1 <;> cases h1
  bor := fun j o h => by
    have h1 := map_at h
    cases j with
    | zero =>
      cases h1
      exact ⟨x, sl_map rfl, E.ext.free hx, rfl, i, dx, [], hi, by rw [upd_same, List.zip_nil_right], Nat.zero_le _, .nil⟩
    | succ j =>
      rw [List.getElem?_cons_succ, List.getElem?_map] at h1
      cases e : ds[j]? <;> rw [e] at h1 <;> cases h1
  dis := fun j k o o' l h => by
    have h1 := map_at h
    cases j with
    | zero => cases h1
    | succ j =>
      rw [List.getElem?_cons_succ, List.getElem?_map] at h1
      cases e : ds[j]? <;> rw [e] at h1 <;> cases h1
  pins := fun j k l h h' => by
    unfold zoneOf at h h'
    dsimp only at h h'
    split at h
    · split at h'
      · omega
      · cases h'
    · cases h
  pinh := fun j l h => by
    unfold zoneOf at h ⊢
    dsimp only at h ⊢
    split at h
    · cases h; exact ⟨_, upd_same⟩
    · cases h
  pinH := fun j l h => by
    unfold zoneOf at h
    dsimp only at h
    split at h
    · cases h; exact ⟨_, upd_same⟩
    · cases h
  kept := fun a o h _ => h
  grow := fun a o h => .inl h
  gf := Gr.rfl
  adr := fun j a h => by
    have h1 := map_at h
    cases j with
    | zero => cases h1
    | succ j =>
      rw [List.getElem?_cons_succ, List.getElem?_map] at h1
      cases e : ds[j]? <;> rw [e] at h1 <;> cases h1
theorem make_core {Z : Zone} {c n : Nat} {i : CI} {den : Den} (hi : G c = some i) (hn : i.names.length = n) {F1 H1 : Hp} {ρ1 ρ' : En} {σ : L2.St} {ds : List D} {vs : List V} {r : Except Ex PV} {Q : VK} (E1 : EnvOk X.K G Z F1 ρ1 σ H1) (hr : Reps X.K G F1 ds vs) (h3 : makeV c n den ds ρ1 = some (r, ρ'))
    (q1 : ∀ pv, r = .ok pv → ∀ F' v H', Gr F1 F' → EnvOk X.K G Z F' ρ' σ H' → PvOk X.K G Z F' ρ' σ H' pv v → Q v H') (q2 : ∀ x, r = .error x → Erh X.K G Z W F1 ρ' x) :
    ∀ x dx, H1 x = none → H1 dx = none → dx ≠ x → spD X.K G den (.ref x :: vs) (upd (upd H1 dx (.own x)) x (.ins i.adr dx [])) (fun v H2 => v = .non ∧ Q (.ref x) H2) (fun cls d H' => W cls d σ H') := by
  intro x dx hx hdx hne
  have gx : ∀ a o, H1 a = some o → upd (upd H1 dx (.own x)) x (.ins i.adr dx []) a = some o := fun a o h => by rw [upd_ne (ne_of_none h hx), upd_ne (ne_of_none h hdx)]; exact h
  unfold makeV at h3
  split at h3
  · rename_i c' cs hden
    split at h3
    · rename_i hc
      obtain ⟨rfl, hlen⟩ := hc
      cases h3
      refine ⟨F1, _, some x, _, some (.ins c' cs), args_ins E1 hr hi hx hdx, hden, fun pv e F' v H' g E' hp => ?_, fun y e => by cases e⟩
      cases e
      cases (show Rep X.K G F' .non v from hp)
      refine ⟨rfl, ?_⟩
      have EB := E1.backX g hx gx E'
      obtain ⟨l, s1, f1, z1, i', dx', vs', hi', hH, hl, rr⟩ := E'.bor 0 (.ins c' cs) rfl
      have hlx : l = x := by cases z1; rfl
      subst hlx
      rw [hi] at hi'; cases hi'
      have hno : ¬ Ow ρ1 σ l := fun ho => by
        obtain ⟨_, u, hu⟩ := E1.there ho
        rw [hx] at hu; cases hu
      have EF := EB.freeze f1 (E1.fresh hx) hH hno
      refine q1 _ rfl (upd F' l _) (.ref l) H' (g.trans (Gr.new f1)) EF ?_
      exact .obj hi upd_same (by rw [hn, ← hlen]; exact rr.length) (rr.gr (Gr.new f1))
    · cases h3
  · rename_i y o' hden
    cases h3
    refine ⟨F1, _, some x, _, some o', args_ins E1 hr hi hx hdx, hden, fun pv e => (by cases e), fun y' e F' c dd H' g E' hX => ?_⟩
    cases e
    exact q2 _ rfl F' c dd σ H' g (E1.backX g hx gx E') hX
  · cases h3
theorem re_make {k cc n : Nat} {i : CI} {f : Addr} {fd : FuncData} {ps : List Str} {den : Den} {x : Str} {fa : M (List Ag)} (hi : G cc = some i) (hn : i.names.length = n) (M : Mk X.K i.adr f) (F : DOk X.prog X.w X.K G X.mg X.base k f fd ps den) (hr : Room (k + 1) X.A) (hg : Gl X x) (hm : X.mg x = some (.ref i.adr)) (hb : Binds X.K fd ps [])
    (tk : Takes X W) (ha : RA X G Φ W (e :: es) fa) (hdb : (x == ("__debug__" : Str)) = false := by decide) (he : starEach (e :: es) X.env = (false, eval e X.env) :: starEach es X.env := by rfl) (hpl : (backTo pos (starEach es X.env)).any (·.1) = false := by rfl) :
    RE X G Φ W (.Call (.Name x p) (e :: es) [] pos) (eMake cc n den fa) := fun Z hZ =>
  PE.lo (pe_makeS M F.fn hr hg hm hb (fun σ => passAt' tk σ) (ha Z hZ) hdb he hpl) fun σ H Q ⟨F, ρ, r, ρ', E, hf, q1, q2⟩ => by
    unfold eMake at hf
    rcases mB_cases hf with ⟨x, h1, rfl⟩ | ⟨as, ρ1, h1, h2⟩
    · exact ⟨F, ρ, _, _, E, h1, fun _ e => (by cases e), fun y e => by cases e; exact q2 _ rfl⟩
    · refine ⟨F, ρ, _, _, E, h1, fun as' e F1 vs H1 g1 E1 hv => ?_, fun y e => by cases e⟩
      cases e
      obtain ⟨ds, hd, h3⟩ := mO_some h2
      exact make_core hi hn E1 (ags_reps hv hd) h3 (fun pv e F' v H' g E' hp => q1 pv e F' v H' (g1.trans g) E' hp) fun x e => (q2 x e).gr g1
theorem re_make0 {k cc n : Nat} {i : CI} {f : Addr} {fd : FuncData} {ps : List Str} {den : Den} {x : Str} (hi : G cc = some i) (hn : i.names.length = n) (M : Mk X.K i.adr f) (F : DOk X.prog X.w X.K G X.mg X.base k f fd ps den) (hr : Room (k + 1) X.A) (hg : Gl X x) (hm : X.mg x = some (.ref i.adr)) (hb : Binds X.K fd ps [])
    (tk : Takes X W) (hdb : (x == ("__debug__" : Str)) = false := by decide) : RE X G Φ W (.Call (.Name x p) [] [] pos) (makeV cc n den []) := fun Z hZ =>
  PE.lo (pe_makeS0 M F.fn hr hg hm hb (fun σ => passAt' tk σ) hdb) fun σ H Q ⟨F, ρ, r, ρ', E, hf, q1, q2⟩ => make_core hi hn E .nil hf q1 q2

/-! ### self.f = e where self is being made -/
def sFld (i c j : Nat) (f : M PV) : M Fl := mB f fun pv => mB (mO pv.tree) fun d ρ => match ρ.at i with
  | some (.bor (.ins c' cs)) => if c' = c ∧ cs.length = j then some (.ok .next, ρ.set i (some (.bor (.ins c (cs ++ [d]))))) else none
  | _ => none
theorem putF_new {f : Str} {y : V} : ∀ {ns : List Str} {vs : List V}, ns.Nodup → vs.length ≤ ns.length → ns[vs.length]? = some f → putF f y (ns.zip vs) = ns.zip (vs ++ [y])
  | [], vs, _, _, h => by simp at h
  | n :: ns, [], _, _, h => by
    simp at h; subst h
    simp [putF]
  | n :: ns, v :: vs, nd, hl, h => by
    obtain ⟨n1, n2⟩ := List.nodup_cons.mp nd
    have h' : ns[vs.length]? = some f := by simpa using h
    have hne : n ≠ f := fun z => n1 (by rw [z]; exact List.mem_of_getElem? h')
    have ih := putF_new (f := f) (y := y) n2 (by simpa using hl) h'
    rw [List.zip_cons_cons, List.cons_append, List.zip_cons_cons, ← ih]
    show (if n = f then _ else _) = _
    rw [if_neg hne]
theorem rs_fld {i c j : Nat} {ci : CI} {x f : Str} {fe : M PV} {p1 p2 : Pos} (hG : GOk X.K G) (hi : G c = some ci) (hc : c < 100) (hf : ci.names[j]? = some f) (hN : X.N[i]? = some x := by rfl) (he : RE X G Φ W e fe) (hv : Vis X.env.scope x := by first | exact Or.inl rfl | exact Or.inr (Or.inl rfl) | exact Or.inr (Or.inr rfl))
    (hs : swapsWith e (some (.Attribute (.Name x p1) f p2)) pos.line X.env = pure false := by rfl) (hd : (x == ("__debug__" : Str)) = false := by decide)
    (hcd : (x == ("__classdict__" : Str)) = false := by decide) : RS X G Φ W (.Assign [.Attribute (.Name x p1) f p2] e pos) (sFld i c j fe) := fun Z hZ => PS.lo (ps_fld (pe_var hN hv hd hcd) (he Z hZ) hs) fun D σ H ⟨F, ρ, r, ρ', E, hf', q1, q2⟩ => by
  unfold sFld at hf'
  rcases mB_cases hf' with ⟨x, h1, rfl⟩ | ⟨pv, ρ1, h1, h2⟩
  · exact ⟨F, ρ, _, _, E, h1, fun _ e => (by cases e), fun y e => by cases e; exact q2 _ rfl⟩
  · refine ⟨F, ρ, _, _, E, h1, fun pv' e F1 v H1 g1 E1 hv => ?_, fun y e => by cases e⟩
    cases e
    obtain ⟨d, hd, h3⟩ := mO_some h2
    obtain ⟨F2, g2, E2, hr⟩ := hv.frz E1 hd
    split at h3
    · rename_i c' cs hat
      split at h3
      · rename_i hcc
        obtain ⟨rfl, hlen⟩ := hcc
        cases h3
        obtain ⟨l, s1, f1, z1, i', dx, vs, hi', hH, hl, rr⟩ := E2.bor i _ hat
        rw [hi] at hi'; cases hi'
        have hvl : vs.length = j := by rw [← rr.length]; exact hlen
        have hj : j < ci.names.length := (List.getElem?_eq_some_iff.mp hf).1
        have hput := putF_new (y := v) (hG.nd c' ci hc hi) hl (by rw [hvl]; exact hf)
        refine ⟨_, sl_some s1, l, ci.adr, dx, _, rfl, hH, hG.cls c' ci hc hi, hG.fld c' ci f hc hi (List.mem_of_getElem? hf), ?_, ?_⟩
        · have := hG.few c' ci hc hi
          rw [List.length_zip]; omega
        · rw [hput]
          refine q1 _ rfl F2 σ _ (g1.trans g2) (E2.writeB hat s1 ⟨ci, dx, vs ++ [v], hi, upd_same, ?_, ?_⟩)
          · rw [List.length_append, List.length_singleton]; omega
          · exact Reps.append rr (.cons hr .nil)
      · cases h3
    · cases h3
end
end Pl
set_option Elab.async false
set_option linter.all false
set_option maxRecDepth 100000
set_option maxHeartbeats 2000000
namespace Pl
open PySem PySem.Spec L2
open PyProof.Rows hiding St

section
variable {X : Cx} {G : Nat → Option CI} {Φ : Zone → Prop} {W : WX} {e a b c : Expr} {es : List Expr} {pos p p' apos : Pos} {st : Stmt} {rest : List Stmt}
/-! ### raise X('..'), an own class without __init__ -/
def sRaise (c : Nat) : M Fl := fun ρ => some (.error ⟨c, []⟩, ρ)
theorem rs_raise {c : Nat} {i : CI} {x m : Str} {j : Nat} {p2 : Pos} {bmB : List Value} {B newId initId : String} (hi : G c = some i) (hc : X.calm = true) (tk : Takes X W) (F : ExcBaseFacts B newId initId bmB) (q : PySem.W.excIn X.K i.adr bmB newId = true) (gC : X.mg x = some (.ref i.adr)) (kC : PySem.W.keepIn X.K (.ref i.adr) = true) (r : Raises X (.ref i.adr)) (hg : Gl X x)
    (hdb : (x == ("__debug__" : Str)) = false := by decide) : RS X G Φ W (.Raise (some (.Call (.Name x p) [.Constant (.str m) j p2] [] p')) none pos) (sRaise c) := fun Z hZ =>
  PS.lo (ps_raise hc tk (pmk_own F q gC kC r hg hdb)) fun D σ H ⟨F, ρ, r, ρ', E, hf, q1, q2⟩ => by
    cases hf
    exact q2 _ rfl F _ none σ H Gr.rfl E ⟨i, hi, rfl, .inl ⟨rfl, rfl⟩⟩

/-! ### try -/
theorem EnvOk.rez {K : PySem.W.Frag} {Z : Zone} {F H : Hp} {ρ : En} {σ : L2.St} (E : EnvOk K G Z F ρ σ H) : EnvOk K G { Z with f := F } F ρ σ H :=
  { len := E.len, ext := E.ext, val := E.val, own := E.own, bor := E.bor, dis := E.dis, pins := E.pins, pinh := E.pinh, pinH := E.pinH, kept := E.kept, grow := fun a o h => .inl h, gf := Gr.rfl, adr := E.adr }
theorem EnvOk.unrez {K : PySem.W.Frag} {Z : Zone} {F F1 H H1 : Hp} {ρ ρ1 : En} {σ σ1 : L2.St} (E : EnvOk K G Z F ρ σ H) (E1 : EnvOk K G { Z with f := F } F1 ρ1 σ1 H1) : EnvOk K G Z F1 ρ1 σ1 H1 :=
  { len := E1.len, ext := E1.ext, val := E1.val, own := E1.own, bor := E1.bor, dis := E1.dis, pins := E1.pins, pinh := E1.pinh, pinH := E1.pinH, kept := E1.kept, grow := fun a o h => (E1.grow a o h).elim (E.grow a o) .inr, gf := E.gf.trans E1.gf, adr := E1.adr }
/-- a slot that nothing is known of may hold anything -/
theorem EnvOk.junk {K : PySem.W.Frag} {Z : Zone} {F H : Hp} {ρ : En} {σ : L2.St} (E : EnvOk K G Z F ρ σ H) (i : Nat) (v : Option V) : EnvOk K G Z F (ρ.set i none) (σ.set i v) H := by
  have hat : ∀ (j : Nat) (p : PV), En.at (ρ.set i none) j = some p → ρ.at j = some p ∧ sl (σ.set i v) j = sl σ j := fun j p q => by
    by_cases hj : i = j
    · subst hj
      by_cases hi : i < ρ.length
      · rw [at_set_self hi] at q; cases q
      · rw [List.set_eq_of_length_le (Nat.le_of_not_lt hi)] at q
        exact ⟨q, by rw [List.set_eq_of_length_le (by rw [← E.len]; exact Nat.le_of_not_lt hi)]⟩
    · rw [at_set_ne hj] at q; exact ⟨q, sl_set_ne hj⟩
  exact {
    len := by rw [List.length_set, List.length_set]; exact E.len
    ext := E.ext
    val := fun j d q => by rw [(hat j _ q).2]; exact E.val j d (hat j _ q).1
    own := fun j d q => by rw [(hat j _ q).2]; exact E.own j d (hat j _ q).1
    bor := fun j d q => by rw [(hat j _ q).2]; exact E.bor j d (hat j _ q).1
    dis := fun j k o o' l a b s s' => by
      rw [(hat j _ a).2] at s
      rw [(hat k _ b).2] at s'
      exact E.dis j k o o' l (hat j _ a).1 (hat k _ b).1 s s'
    pins := E.pins, pinh := E.pinh, pinH := E.pinH, kept := E.kept, grow := E.grow, gf := E.gf
    adr := fun j d q => by rw [(hat j _ q).2]; exact E.adr j d (hat j _ q).1 }
theorem ow_junk {ρ : En} {σ : L2.St} {i : Nat} {v : Option V} {l : Addr} (hl : ρ.length = σ.length) (h : Ow (ρ.set i none) (σ.set i v) l) : Ow ρ σ l := by
  obtain ⟨j, o, q, s⟩ := h
  refine ⟨j, o, ?_⟩
  by_cases hj : i = j
  · subst hj
    by_cases hi : i < ρ.length
    · rw [at_set_self hi] at q; rcases q with q | q <;> cases q
    · rw [List.set_eq_of_length_le (Nat.le_of_not_lt hi)] at q
      rw [List.set_eq_of_length_le (by rw [← hl]; exact Nat.le_of_not_lt hi)] at s
      exact ⟨q, s⟩
  · rw [at_set_ne hj] at q
    rw [sl_set_ne hj] at s
    exact ⟨q, s⟩
theorem PvOk.junk {K : PySem.W.Frag} {Z Z' : Zone} {F H : Hp} {ρ : En} {σ : L2.St} {i : Nat} {u : Option V} (hz : Z'.h = Z.h) (hl : ρ.length = σ.length) : ∀ {pv : PV} {v : V}, PvOk K G Z' F ρ σ H pv v → PvOk K G Z F (ρ.set i none) (σ.set i u) H pv v
  | .val _, _, h => h
  | .own _, _, ⟨l, h1, h2, h3, h4, h5⟩ => ⟨l, h1, h2, hz ▸ h3, h4, fun z => h5 (ow_junk hl z)⟩
  | .bor _, _, h => h
  | .adr _, _, h => h
/-- what the suite of 'except C as n' comes to, at every place where the error may stand -/
def Suite (i : Nat) (fs : Addr → Ex → M Fl) (x : Ex) (ρ : En) (r : Fl × En) : Prop := ∀ a, ∃ ρ3, fs a x (ρ.set i (some (.adr a))) = some (.ok r.1, ρ3) ∧ ρ3.set i none = r.2
open Classical in
noncomputable def sTryAs (i : Nat) (hit : Nat → Option Bool) (fb : M Fl) (fs : Addr → Ex → M Fl) : M Fl := fun ρ => match fb ρ with
  | some (.error x, ρ') => match hit x.c with
    | some true => if h : ∃ r, Suite i fs x ρ' r then some (.ok (choose h).1, (choose h).2) else none
    | some false => some (.error x, ρ')
    | none => none
  | r => r
theorem suite_one {i : Nat} {fs : Addr → Ex → M Fl} {x : Ex} {ρ : En} {r r' : Fl × En} (h : Suite i fs x ρ r) (h' : Suite i fs x ρ r') : r = r' := by
  obtain ⟨ρ3, e1, e2⟩ := h 0
  obtain ⟨ρ4, e3, e4⟩ := h' 0
  rw [e1] at e3
  have e5 := Option.some.inj e3
  have e6 : ρ3 = ρ4 := congrArg Prod.snd e5
  have e7 : r.1 = r'.1 := by
    have := congrArg Prod.fst e5
    injection this
  cases r; cases r'
  simp only at e7 e2 e4
  rw [e7, ← e2, ← e4, e6]
theorem sTryAs_ok {i : Nat} {hit : Nat → Option Bool} {fb : M Fl} {fs : Addr → Ex → M Fl} {ρ ρ' : En} {x : Ex} {r : Fl × En} (hb : fb ρ = some (.error x, ρ')) (hh : hit x.c = some true) (hs : Suite i fs x ρ' r) : sTryAs i hit fb fs ρ = some (.ok r.1, r.2) := by
  unfold sTryAs
  rw [hb]
  dsimp only
  rw [hh]
  dsimp only
  have hx : ∃ r, Suite i fs x ρ' r := ⟨r, hs⟩
  rw [dif_pos hx, suite_one (Classical.choose_spec hx) hs]
theorem sTryAs_none {i : Nat} {hit : Nat → Option Bool} {fb : M Fl} {fs : Addr → Ex → M Fl} {ρ ρ' : En} {fl : Fl} (hb : fb ρ = some (.ok fl, ρ')) : sTryAs i hit fb fs ρ = some (.ok fl, ρ') := by
  unfold sTryAs
  rw [hb]
/-- what the suite knows of its error: in the unchanging part there -/
def Known (K : PySem.W.Frag) (G : Nat → Option CI) (x : Ex) (cv : Value) (dd : Option Addr) : Zone → Prop := fun Z => ExOk K G Z.f x cv dd
theorem rs_try_as {x n : Str} {cv : Value} {i : Nat} {body suite : List Stmt} {b₀ : Stmt} {np pos' : Pos} {hit : Nat → Option Bool} {fb : M Fl} {fs : Addr → Ex → M Fl} (hs : X.stack = X.env :: X.outer) (hf : X.env.frame = some X.env.locals) (hN : X.N.Nodup) (hi : X.N[i]? = some n) (hln : X.env.kindOf n = some .local) (hc : Names X x cv) (tk : Takes X W)
    (hh : ∀ c ci b, G c = some ci → hit c = some b → PySem.W.exmOne X.K (.ref ci.adr) cv = some b)
    (hb : ∀ (W' : WX) (pn : List (Addr × Obj)) (xe : Value → Shared → Prop), Takes (X.tr pn xe) W' → PassesOwn (model X.prog X.w) X.A X.env xe → RB (X.tr pn xe) G Φ W' body fb)
    (hsu : ∀ (a : Addr) (oe : Obj) (x : Ex) (ci : CI) (d : Option Addr) (pn : List (Addr × Obj)), G x.c = some ci → hit x.c = some true → Zc (.ref ci.adr) d oe → (∃ vs, oe.data = .fields vs) → RB (X.suite a ((a, oe) :: pn)) G (Known X.K G x (.ref ci.adr) d) (fun _ _ _ _ => False) (b₀ :: suite) (fs a x)) :
    RS X G Φ W (.Try body [.ExceptHandler (some (.Name x np)) (some n) (b₀ :: suite) pos'] [] [] pos) (sTryAs i hit fb fs) := fun Z hZ =>
  PS.lo (ps_try_as (tb := fun W' => tS X.K G Z W' fb) (ts := fun a cls d D σ H => ∃ (x : Ex) (ci : CI) (Z' : Zone), G x.c = some ci ∧ hit x.c = some true ∧ cls = .ref ci.adr ∧ Known X.K G x (.ref ci.adr) d Z' ∧ tS X.K G Z' (fun _ _ _ _ => False) (fs a x) D σ H) hs hf hN hi hln hc tk
    (fun W' pn xe tk' po => hb W' pn xe tk' po Z hZ)
    (fun a oe cls d pn hz hd => ⟨fun pins s σ H D I ⟨x, ci, Z', h1, h2, h3, h4, h5⟩ => by
      subst h3
      exact (hsu a oe x ci d pn h1 h2 hz hd Z' h4).run pins s σ H D I h5⟩)) fun D σ H ⟨F, ρ, r, ρ', E, hf', q1, q2⟩ => by
    unfold sTryAs at hf'
    split at hf'
    · rename_i x ρb hfb
      refine ⟨F, ρ, _, _, E, hfb, fun _ e => (by cases e), fun y e F' cc dd σ' H' g E' hX => ?_⟩
      cases e
      obtain ⟨ci, hG1, hcc, hX2⟩ := id hX
      subst hcc
      split at hf'
      · rename_i hit1
        refine ⟨true, hh _ ci _ hG1 hit1, fun _ a ha => ?_, fun z => by cases z⟩
        split at hf'
        · rename_i hex
          cases hf'
          have hsp := Classical.choose_spec hex
          generalize hgen : Classical.choose hex = rr at q1 q2 hsp
          obtain ⟨ρ3, hfs, he3⟩ := hsp a
          have E1 : EnvOk X.K G Z F' (ρb.set i (some (.adr a))) (σ'.set i (some (.ref a))) H' := by
            have J := E'.junk i (some (.ref a))
            by_cases hlt : i < ρb.length
            · exact { len := by rw [List.length_set, List.length_set]; exact E'.len
                      ext := J.ext
                      val := fun j d q => J.val j d (by
                        by_cases hj : i = j
                        · subst hj; rw [at_set_self hlt] at q; cases q
                        · rw [at_set_ne hj] at q ⊢; exact q)
                      own := fun j d q => J.own j d (by
                        by_cases hj : i = j
                        · subst hj; rw [at_set_self hlt] at q; cases q
                        · rw [at_set_ne hj] at q ⊢; exact q)
                      bor := fun j d q => J.bor j d (by
                        by_cases hj : i = j
                        · subst hj; rw [at_set_self hlt] at q; cases q
                        · rw [at_set_ne hj] at q ⊢; exact q)
                      dis := fun j k o o' l a' b' s s' => J.dis j k o o' l (by
                        by_cases hj : i = j
                        · subst hj; rw [at_set_self hlt] at a'; cases a'
                        · rw [at_set_ne hj] at a' ⊢; exact a') (by
                        by_cases hj : i = k
                        · subst hj; rw [at_set_self hlt] at b'; cases b'
                        · rw [at_set_ne hj] at b' ⊢; exact b') s s'
                      pins := J.pins, pinh := J.pinh, pinH := J.pinH, kept := J.kept, grow := J.grow, gf := J.gf
                      adr := fun j d q => by
                        by_cases hj : i = j
                        · subst hj
                          rw [at_set_self hlt] at q; cases q
                          exact sl_set_self (by rw [← E'.len]; exact hlt)
                        · rw [at_set_ne hj] at q
                          rw [sl_set_ne hj]
                          exact E'.adr j d q }
            · rw [List.set_eq_of_length_le (Nat.le_of_not_lt hlt)] at J ⊢
              exact J
          refine ⟨x, ci, { Z with f := F' }, hG1, hit1, rfl, hX, F', _, _, ρ3, E1.rez, hfs, fun fl e F2 σ2 H2 g2 E2 => ?_, fun z e => by cases e⟩
          cases e
          have E3 := E1.unrez E2
          have E4 := E3.junk i none
          rw [he3] at E4
          have q := q1 _ rfl F2 (σ2.set i none) H2 (g.trans g2) E4
          cases hr : rr.1 with
          | next => rw [hr] at q; exact q
          | brk => rw [hr] at q; exact q
          | cont => rw [hr] at q; exact q
          | ret pv =>
            rw [hr] at q
            intro v hv
            exact q v (by
              have := hv.junk (Z := Z) (i := i) (u := none) rfl E3.len
              rw [he3] at this
              exact this)
        · cases hf'
      · rename_i hit0
        cases hf'
        exact ⟨false, hh _ ci _ hG1 hit0, fun z => (by cases z), fun _ => q2 _ rfl F' _ dd σ' H' g E' hX⟩
      · cases hf'
    · rename_i hne
      refine ⟨F, ρ, r, ρ', E, hf', fun fl e F' σ' H' g E' => q1 fl e F' σ' H' g E', fun y e => ?_⟩
      subst e
      exact absurd hf' (hne _ _)
/-- .. without a name -/
def sTry (hit : Nat → Option Bool) (fb fs : M Fl) : M Fl := fun ρ => match fb ρ with
  | some (.error x, ρ') => match hit x.c with
    | some true => match fs ρ' with
      | some (.ok fl, ρ2) => some (.ok fl, ρ2)
      | _ => none
    | some false => some (.error x, ρ')
    | none => none
  | r => r
theorem rs_try {x : Str} {cv : Value} {body suite : List Stmt} {b₀ : Stmt} {np pos' : Pos} {hit : Nat → Option Bool} {fb fs : M Fl} (hs : X.stack = X.env :: X.outer) (hf : X.env.frame = some X.env.locals) (hc : Names X x cv) (tk : Takes X W)
    (hh : ∀ c ci b, G c = some ci → hit c = some b → PySem.W.exmOne X.K (.ref ci.adr) cv = some b)
    (hb : ∀ (W' : WX) (pn : List (Addr × Obj)) (xe : Value → Shared → Prop), Takes (X.tr pn xe) W' → PassesOwn (model X.prog X.w) X.A X.env xe → RB (X.tr pn xe) G Φ W' body fb)
    (hsu : ∀ (a : Addr) (oe : Obj) (pn : List (Addr × Obj)), RB (X.suite a ((a, oe) :: pn)) G Φ (fun _ _ _ _ => False) (b₀ :: suite) fs) :
    RS X G Φ W (.Try body [.ExceptHandler (some (.Name x np)) none (b₀ :: suite) pos'] [] [] pos) (sTry hit fb fs) := fun Z hZ =>
  PS.lo (ps_try_only (tb := fun W' => tS X.K G Z W' fb) (ts := fun a cls d => tS X.K G Z (fun _ _ _ _ => False) fs) hs hf hc tk
    (fun W' pn xe tk' po => hb W' pn xe tk' po Z hZ) (fun a oe cls d pn hz hd => hsu a oe pn Z hZ)) fun D σ H ⟨F, ρ, r, ρ', E, hf', q1, q2⟩ => by
    unfold sTry at hf'
    split at hf'
    · rename_i x ρb hfb
      refine ⟨F, ρ, _, _, E, hfb, fun _ e => (by cases e), fun y e F' cc dd σ' H' g E' hX => ?_⟩
      cases e
      obtain ⟨ci, hG1, hcc, hX2⟩ := id hX
      subst hcc
      split at hf'
      · rename_i hit1
        refine ⟨true, hh _ ci _ hG1 hit1, fun _ a ha => ?_, fun z => by cases z⟩
        split at hf'
        · rename_i fl ρ2 hfs
          cases hf'
          exact ⟨F', _, _, _, E', hfs, fun fl e F2 σ2 H2 g2 E2 => q1 fl e F2 σ2 H2 (g.trans g2) E2, fun z e => by cases e⟩
        · cases hf'
      · rename_i hit0
        cases hf'
        exact ⟨false, hh _ ci _ hG1 hit0, fun z => (by cases z), fun _ => q2 _ rfl F' _ dd σ' H' g E' hX⟩
      · cases hf'
    · rename_i hne
      refine ⟨F, ρ, r, ρ', E, hf', fun fl e F' σ' H' g E' => q1 fl e F' σ' H' g E', fun y e => ?_⟩
      subst e
      exact absurd hf' (hne _ _)
end
end Pl
set_option Elab.async false
set_option linter.all false
set_option maxRecDepth 100000
set_option maxHeartbeats 2000000
namespace Pl
open PySem PySem.Spec L2
open PyProof.Rows hiding St

section
variable {X : Cx} {G : Nat → Option CI} {Φ : Zone → Prop} {W : WX} {e a b c : Expr} {es : List Expr} {pos p p' apos : Pos} {st : Stmt} {rest : List Stmt}
/-! ### isinstance -/
/-- what isinstance asks of the classes of the text -/
structure GIs (K : PySem.W.Frag) (G : Nat → Option CI) : Prop where
  ha : ∀ c i, c < 100 → G c = some i → PySem.W.findIn K (.ref i.adr) "__class__" = some (some (.builtin "object.__class__"))
  hn : PySem.W.specialIn K (.builtin "object.__class__") "__get__" = some (some (.builtin "getset_descriptor.__get__"))
  ht : PySem.W.takesIn K (.builtin "object.__class__") = some true
  hm : ∀ c i, c < 100 → G c = some i → PySem.W.mroIn K i.adr (.type "object") = some true
def tyD (G : Nat → Option CI) : D → Option Value
  | .non => some (.type "NoneType")
  | .bl _ => some (.type "bool")
  | .int _ => some (.type "int")
  | .str _ => some (.type "str")
  | .tup _ => some (.type "tuple")
  | .lst _ => some (.type "list")
  | .dct _ _ => some (.type "dict")
  | .obj c _ => if c < 100 then (G c).map fun i => .ref i.adr else none
theorem ty_pk {K : PySem.W.Frag} (hG : GOk K G) (hI : GIs K G) {F H : Hp} {d : D} {v : V} {t : Value} (h : Pk K G F H d v) (ht : tyD G d = some t) : TyX K H v t := by
  cases d with
  | non => cases ht; cases pk_non h; exact .base .non
  | bl b => cases ht; cases pk_bl h; exact .base (.bl _)
  | int i => cases ht; cases pk_int h; exact .base (.int _)
  | str x => cases ht; cases pk_str h; exact .base (.str _)
  | tup ds =>
    cases ht
    obtain ⟨a, vs, rfl, hs, _⟩ := h
    rcases hs with (hs | ⟨o, hs⟩) | ⟨o, its, n, hk, hc, _⟩
    · exact .base (.tup hs)
    · exact .fTuple hs
    · exact .kTuple hk hc
  | lst ds =>
    cases ht
    obtain ⟨a, vs, rfl, hs, _⟩ := h
    rcases hs with (hs | ⟨o, hs⟩) | ⟨o, its, n, hk, hc, _⟩
    · exact .base (.lst hs)
    · exact .base (.frz hs)
    · exact .kList hk hc
  | dct ks ds =>
    cases ht
    obtain ⟨a, vs, rfl, hs, _⟩ := h
    exact .base (.dK hs)
  | obj c ds =>
    obtain ⟨a, i, dx, vs, rfl, hi, hs, _⟩ := h
    unfold tyD at ht
    dsimp only at ht
    split at ht
    · rename_i hc
      rw [hi] at ht
      cases ht
      exact .base (.ins hs (hG.cls c i hc hi) (hI.ha c i hc hi) hI.hn hI.ht (hI.hm c i hc hi))
    · cases ht
/-- the answer of isinstance for the classes us, as a function of the tree -/
def IsF (K : PySem.W.Frag) (G : Nat → Option CI) (us : List Value) (is : D → Option Bool) : Prop := ∀ d b, is d = some b → ∃ t, tyD G d = some t ∧ PySem.W.kitAny K t us = some b
theorem kit_one {K : PySem.W.Frag} {t u : Value} {b : Bool} (h : PySem.W.kitAny K t [u] = some b) : PySem.W.kitOne K t u = some b := by
  unfold PySem.W.kitAny at h
  split at h
  · cases h; assumption
  · cases h; assumption
  · cases h
def dIs (is : D → Option Bool) : D → Option D := fun d => (is d).map D.bl
theorem ri_is {x : Str} {ce : Expr} {cv : V} {u : Value} {is : D → Option Bool} {f : Inr} (hG : GOk X.K G) (hI : GIs X.K G) (hF : IsF X.K G [u] is) (hl : Gl X x) (hm : X.mg x = none) (hv : bootBuiltins x = some (.builtin "isinstance")) (hc : PE X ce (tC cv)) (hcv : ClsV cv u) (ha : RP X G a f)
    (hn : x ≠ "__name__" := by decide) (hdb : (x == ("__debug__" : Str)) = false := by decide) (hs : starEach [a, ce] X.env = (false, eval a X.env) :: starEach [ce] X.env := by rfl) (hs' : starEach [ce] X.env = (false, eval ce X.env) :: starEach [] X.env := by rfl) (hpl : (backTo pos (starEach [ce] X.env)).any (·.1) = false := by rfl) :
    RI X G (.Call (.Name x p) [a, ce] [] pos) (iUn (dIs is) f) :=
  PE.lo (pe_callB call_isi hl hm hv (pa_cons ha (pa_cons hc pa_nil hs') hs) hn hdb hs hpl) fun σ H Q ⟨Z, F, ρ, d, E, hf, q⟩ => by
    unfold iUn at hf
    cases h1 : f ρ with
    | none => rw [h1] at hf; cases hf
    | some x =>
      rw [h1] at hf
      have hf : (is x).map D.bl = some d := hf
      cases h2 : is x with
      | none => rw [h2] at hf; cases hf
      | some b =>
        rw [h2] at hf; cases hf
        obtain ⟨t, h3, h4⟩ := hF x b h2
        exact ⟨Z, F, ρ, x, E, h1, fun v hv => ⟨v, cv, t, u, b, rfl, hcv, ty_pk hG hI hv h3, kit_one h4, q _ (.bl b)⟩⟩
/-- written classes as arguments -/
def tCs (vs : List V) : TA := fun _ H Q => Q vs H
theorem pa_cs0 : PA X [] (tCs []) := PA.lo pa_nil fun σ H Q q => q
theorem pa_cs {ce : Expr} {ces : List Expr} {cv : V} {cvs : List V} (h : PE X ce (tC cv)) (h' : PA X ces (tCs cvs)) (hs : starEach (ce :: ces) X.env = (false, eval ce X.env) :: starEach ces X.env := by rfl) : PA X (ce :: ces) (tCs (cv :: cvs)) := PA.lo (pa_cons h h' hs) fun σ H Q q => q
/-- isinstance(x, (C, ..)) -/
def eIsT (is : D → Option Bool) (f : Inr) : M PV := fun ρ => (f ρ).bind fun d => (is d).map fun b => (.ok (.val (.bl b)), ρ)
theorem tyX_gr {K : PySem.W.Frag} {H H' : Hp} {v : V} {t : Value} (g : Gr H H') (h : TyX K H v t) : TyX K H' v t := by
  cases h with
  | base h =>
    refine .base ?_
    cases h with
    | non => exact .non
    | bl b => exact .bl b
    | int i => exact .int i
    | str x => exact .str x
    | flt x => exact .flt x
    | lst e => exact .lst (g _ _ e)
    | frz e => exact .frz (g _ _ e)
    | tup e => exact .tup (g _ _ e)
    | dK e => exact .dK (g _ _ e)
    | dT e => exact .dT (g _ _ e)
    | ins e cl ha hn ht hm => exact .ins (g _ _ e) cl ha hn ht hm
  | byt b => exact .byt b
  | set e => exact .set (g _ _ e)
  | kList e c => exact .kList e c
  | kTuple e c => exact .kTuple e c
  | kDict e c => exact .kDict e c
  | fTuple e => exact .fTuple (g _ _ e)
  | fDict e => exact .fDict (g _ _ e)
theorem re_isT {x : Str} {ces : List Expr} {x1} {tpos : Pos} {cvs : List V} {us : List Value} {is : D → Option Bool} {f : Inr} (hG : GOk X.K G) (hI : GIs X.K G) (hF : IsF X.K G us is) (hl : Gl X x) (hm : X.mg x = none) (hv : bootBuiltins x = some (.builtin "isinstance")) (hc : PA X ces (tCs cvs)) (hcv : Paired ClsV cvs us) (hfew : cvs.length ≤ sizeLine) (ha : RP X G a f)
    (hn : x ≠ "__name__" := by decide) (hdb : (x == ("__debug__" : Str)) = false := by decide) (hs : starEach [a, .Tuple ces x1 tpos] X.env = (false, eval a X.env) :: starEach [.Tuple ces x1 tpos] X.env := by rfl) (hs' : starEach [.Tuple ces x1 tpos] X.env = (false, eval (.Tuple ces x1 tpos) X.env) :: starEach [] X.env := by rfl) (hpl : (backTo pos (starEach [.Tuple ces x1 tpos] X.env)).any (·.1) = false := by rfl) :
    RE X G Φ W (.Call (.Name x p) [a, .Tuple ces x1 tpos] [] pos) (eIsT is f) := fun Z hZ =>
  PE.lo (pe_callB call_isiT hl hm hv (pa_cons ha (pa_cons (pe_tup hc) pa_nil hs') hs) hn hdb hs hpl) fun σ H Q ⟨F, ρ, r, ρ', E, hf, q1, q2⟩ => by
    unfold eIsT at hf
    cases h1 : f ρ with
    | none => rw [h1] at hf; cases hf
    | some x =>
      rw [h1] at hf
      have hf : (is x).map (fun b => ((.ok (.val (.bl b)), ρ) : Except Ex PV × En)) = some (r, ρ') := hf
      cases h2 : is x with
      | none => rw [h2] at hf; cases hf
      | some b =>
        rw [h2] at hf; cases hf
        obtain ⟨t, h3, h4⟩ := hF x b h2
        refine ⟨Z, F, ρ, x, E, h1, fun v hv => ⟨hfew, fun tp htp => ?_⟩⟩
        exact ⟨v, tp, cvs, t, us, b, rfl, upd_same, hcv, tyX_gr (Gr.new htp) (ty_pk hG hI hv h3), h4, q1 _ rfl F _ _ Gr.rfl (E.heap (Gr.new htp)) (.bl b)⟩
/-- isinstance of the error that the suite holds: its class is x's -/
def iIsE (i : Nat) (a : Addr) (b : Bool) : Inr := fun ρ => match ρ.at i with
  | some (.adr a') => if a' = a then some (.bl b) else none
  | _ => none
def eIsE (i : Nat) (a : Addr) (b : Bool) : M PV := fun ρ => (iIsE i a b ρ).map fun d => (.ok (.val d), ρ)
theorem iIsE_some {i : Nat} {a : Addr} {b : Bool} {ρ : En} {d : D} (h : iIsE i a b ρ = some d) : ρ.at i = some (.adr a) ∧ d = .bl b := by
  unfold iIsE at h
  split at h
  · split at h
    · rename_i h1 h2
      subst h2
      cases h
      exact ⟨h1, rfl⟩
    · cases h
  · cases h
theorem ri_isE {x n : Str} {i : Nat} {np : Pos} {aa D : Addr} {oe : Obj} {pn : List (Addr × Obj)} {ce : Expr} {cv : V} {u : Value} {bb : Bool} (C : ExcC X.K D) (hz : Zc (.ref D) none oe) (hd : ∃ vs, oe.data = .fields vs) (hk : PySem.W.kitOne X.K (.ref D) u = some bb)
    (hN : X.N[i]? = some n) (hvis : Vis X.env.scope n) (hl : Gl (X.suite aa ((aa, oe) :: pn)) x) (hm : X.mg x = none) (hv : bootBuiltins x = some (.builtin "isinstance")) (hc : PE (X.suite aa ((aa, oe) :: pn)) ce (tC cv)) (hcv : ClsV cv u)
    (hn : x ≠ "__name__" := by decide) (hdb : (x == ("__debug__" : Str)) = false := by decide) (hs : starEach [.Name n np, ce] (X.suite aa ((aa, oe) :: pn)).env = (false, eval (.Name n np) (X.suite aa ((aa, oe) :: pn)).env) :: starEach [ce] (X.suite aa ((aa, oe) :: pn)).env := by rfl) (hs' : starEach [ce] (X.suite aa ((aa, oe) :: pn)).env = (false, eval ce (X.suite aa ((aa, oe) :: pn)).env) :: starEach [] (X.suite aa ((aa, oe) :: pn)).env := by rfl) (hpl : (backTo pos (starEach [ce] (X.suite aa ((aa, oe) :: pn)).env)).any (·.1) = false := by rfl)
    (hd1 : (n == ("__debug__" : Str)) = false := by decide) (hd2 : (n == ("__classdict__" : Str)) = false := by decide) :
    RI (X.suite aa ((aa, oe) :: pn)) G (.Call (.Name x p) [.Name n np, ce] [] pos) (iIsE i aa bb) :=
  PE.lo (pe_callB (call_isE C hz hd) hl hm hv (pa_cons (pe_var (X := X.suite aa ((aa, oe) :: pn)) hN hvis hd1 hd2) (pa_cons hc pa_nil hs') hs) hn hdb hs hpl) fun σ H Q ⟨Z, F, ρ, d, E, hf, q⟩ => by
    obtain ⟨h1, rfl⟩ := iIsE_some hf
    exact ⟨_, sl_some (E.adr i aa h1), cv, u, bb, rfl, fun w hw => hcv.eq hw, hk, q _ (.bl bb)⟩
theorem call_isET {aa D : Addr} {oe : Obj} {pn : List (Addr × Obj)} (C : ExcC X.K D) (hz : Zc (.ref D) none oe) (hf : ∃ vs, oe.data = .fields vs) : CallR (X.suite aa ((aa, oe) :: pn)) (.builtin "isinstance") (fun xs H Q => ∃ (tp : Addr) (cs : List V) (us : List Value) (b : Bool), xs = [.ref aa, .ref tp] ∧ H tp = some (.tup cs) ∧ Paired ClsV cs us ∧ PySem.W.kitAny X.K (.ref D) us = some b ∧ Q (.bl b) H) := by
  intro pins s σ H xs us Q I r h
  obtain ⟨tp, cs, ws, b, rfl, hT, k, e, q⟩ := h
  cases r with
  | cons rx rr =>
    cases rr with
    | cons rt rr =>
      cases rr
      cases rx
      cases rt
      obtain ⟨hget, _⟩ := I.pin (aa, oe) (List.mem_append.mpr (.inl List.mem_cons_self))
      obtain ⟨vs, hv⟩ := hf
      have J : PySem.W.InstAt s.heap aa oe D none := by
        obtain ⟨oc, od, oda, osl⟩ := oe
        obtain ⟨h1, h2⟩ := hz
        dsimp only at h1 h2 hv
        subst h1 h2 hv
        exact ⟨hget, rfl, rfl, trivial⟩
      obtain ⟨_, its, rv, o, h1, h2, n, h3⟩ := (show ObjOk X.prog X.w H s.heap tp (.tup cs) from I.hok tp _ hT)
      have e3 := ClsV.all k rv
      subst e3
      obtain ⟨oc, od, dt, sl⟩ := o
      simp only at h2 h3
      subst h2 h3
      exact PySem.W.kia_tup (PySem.W.handS_kitx_exc C.hg C.hk C.hs C.hd C.ha C.hn C.ht C.hm) I.kIn J h1 e (fun z => nomatch z) fun tk => ⟨.bl b, H, I.tok tk, rfl, q⟩
theorem re_isET {x n : Str} {i : Nat} {np tpos : Pos} {x1} {aa D : Addr} {oe : Obj} {pn : List (Addr × Obj)} {ces : List Expr} {cvs : List V} {us : List Value} {bb : Bool} (C : ExcC X.K D) (hz : Zc (.ref D) none oe) (hd : ∃ vs, oe.data = .fields vs) (hk : PySem.W.kitAny X.K (.ref D) us = some bb)
    (hN : X.N[i]? = some n) (hvis : Vis X.env.scope n) (hl : Gl (X.suite aa ((aa, oe) :: pn)) x) (hm : X.mg x = none) (hv : bootBuiltins x = some (.builtin "isinstance")) (hc : PA (X.suite aa ((aa, oe) :: pn)) ces (tCs cvs)) (hcv : Paired ClsV cvs us) (hfew : cvs.length ≤ sizeLine)
    (hn : x ≠ "__name__" := by decide) (hdb : (x == ("__debug__" : Str)) = false := by decide) (hs : starEach [.Name n np, .Tuple ces x1 tpos] (X.suite aa ((aa, oe) :: pn)).env = (false, eval (.Name n np) (X.suite aa ((aa, oe) :: pn)).env) :: starEach [.Tuple ces x1 tpos] (X.suite aa ((aa, oe) :: pn)).env := by rfl) (hs' : starEach [.Tuple ces x1 tpos] (X.suite aa ((aa, oe) :: pn)).env = (false, eval (.Tuple ces x1 tpos) (X.suite aa ((aa, oe) :: pn)).env) :: starEach [] (X.suite aa ((aa, oe) :: pn)).env := by rfl) (hpl : (backTo pos (starEach [.Tuple ces x1 tpos] (X.suite aa ((aa, oe) :: pn)).env)).any (·.1) = false := by rfl)
    (hd1 : (n == ("__debug__" : Str)) = false := by decide) (hd2 : (n == ("__classdict__" : Str)) = false := by decide) :
    RE (X.suite aa ((aa, oe) :: pn)) G Φ W (.Call (.Name x p) [.Name n np, .Tuple ces x1 tpos] [] pos) (eIsE i aa bb) := fun Z hZ =>
  PE.lo (pe_callB (call_isET C hz hd) hl hm hv (pa_cons (pe_var (X := X.suite aa ((aa, oe) :: pn)) hN hvis hd1 hd2) (pa_cons (pe_tup hc) pa_nil hs') hs) hn hdb hs hpl) fun σ H Q ⟨F, ρ, r, ρ', E, hf, q1, q2⟩ => by
    unfold eIsE at hf
    cases h1 : iIsE i aa bb ρ with
    | none => rw [h1] at hf; cases hf
    | some d =>
      rw [h1] at hf; cases hf
      obtain ⟨h2, rfl⟩ := iIsE_some h1
      refine ⟨_, sl_some (E.adr i aa h2), hfew, fun tp htp => ?_⟩
      exact ⟨tp, cvs, us, bb, rfl, upd_same, hcv, hk, q1 _ rfl F _ _ Gr.rfl (E.heap (Gr.new htp)) (.bl bb)⟩

/-! ### lists that one name holds: append, a place stored -/
def lstAt (ρ : En) (i : Nat) : Bool := match ρ.at i with
  | some (.own (.lst _)) => true
  | some (.bor (.lst _)) => true
  | _ => false
/-- the own list in slot i changed by g -/
def chg (i : Nat) (g : List D → Option (List D)) : M Unit := fun ρ => match ρ.at i with
  | some (.own (.lst ds)) => (g ds).map fun ds' => (.ok (), ρ.set i (some (.own (.lst ds'))))
  | some (.bor (.lst ds)) => (g ds).map fun ds' => (.ok (), ρ.set i (some (.bor (.lst ds'))))
  | _ => none
theorem chg_at {i : Nat} {g : List D → Option (List D)} {ρ ρ' : En} {r : Except Ex Unit} (h : chg i g ρ = some (r, ρ')) : ∃ ds ds', g ds = some ds' ∧ r = .ok () ∧ ((ρ.at i = some (.own (.lst ds)) ∧ ρ' = ρ.set i (some (.own (.lst ds')))) ∨ (ρ.at i = some (.bor (.lst ds)) ∧ ρ' = ρ.set i (some (.bor (.lst ds'))))) := by
  unfold chg at h
  split at h
  · rename_i ds h1
    cases h2 : g ds with
    | none => rw [h2] at h; cases h
    | some ds' => rw [h2] at h; cases h; exact ⟨ds, ds', h2, rfl, .inl ⟨h1, rfl⟩⟩
  · rename_i ds h1
    cases h2 : g ds with
    | none => rw [h2] at h; cases h
    | some ds' => rw [h2] at h; cases h; exact ⟨ds, ds', h2, rfl, .inr ⟨h1, rfl⟩⟩
  · cases h
/-- such a change by the heap -/
theorem chg_ok {K : PySem.W.Frag} {Z : Zone} {F H : Hp} {ρ ρ' : En} {σ : L2.St} {i : Nat} {g : List D → Option (List D)} {r : Except Ex Unit} (E : EnvOk K G Z F ρ σ H) (h : chg i g ρ = some (r, ρ')) :
    ∃ l vs ds ds', sl σ i = some (.ref l) ∧ H l = some (.lst vs) ∧ Reps K G F ds vs ∧ g ds = some ds' ∧ r = .ok () ∧ ∀ vs', Reps K G F ds' vs' → EnvOk K G Z F ρ' σ (upd H l (.lst vs')) := by
  obtain ⟨ds, ds', hg, rfl, ⟨h1, rfl⟩ | ⟨h1, rfl⟩⟩ := chg_at h
  · obtain ⟨l, s, f, z, vs, hH, hr⟩ := E.own i _ h1
    exact ⟨l, vs, ds, ds', s, hH, hr, hg, rfl, fun vs' hr' => E.write h1 s ⟨vs', upd_same, hr'⟩⟩
  · obtain ⟨l, s, f, z, vs, hH, hr⟩ := E.bor i _ h1
    exact ⟨l, vs, ds, ds', s, hH, hr, hg, rfl, fun vs' hr' => E.writeB h1 s ⟨vs', upd_same, hr'⟩⟩
theorem lstAt_ok {K : PySem.W.Frag} {Z : Zone} {F H : Hp} {ρ : En} {σ : L2.St} {i : Nat} (E : EnvOk K G Z F ρ σ H) (h : lstAt ρ i = true) : ∃ l vs, sl σ i = some (.ref l) ∧ H l = some (.lst vs) := by
  unfold lstAt at h
  split at h
  · rename_i ds h1
    obtain ⟨l, s, f, z, vs, hH, hr⟩ := E.own i _ h1
    exact ⟨l, vs, s, hH⟩
  · rename_i ds h1
    obtain ⟨l, s, f, z, vs, hH, hr⟩ := E.bor i _ h1
    exact ⟨l, vs, s, hH⟩
  · cases h
def sApp (i : Nat) (f : M PV) : M Fl := fun ρ0 => if lstAt ρ0 i = true then (mB f fun pv => mB (mO pv.tree) fun d => mB (chg i fun ds => if ds.length < sizeLine then some (ds ++ [d]) else none) fun _ => mR .next) ρ0 else none
theorem rs_app {i : Nat} {x : Str} {fe : M PV} {xp : Pos} (h : RE X G Φ W e fe) (hN : X.N[i]? = some x := by rfl) (hv : Vis X.env.scope x := by first | exact Or.inl rfl | exact Or.inr (Or.inl rfl) | exact Or.inr (Or.inr rfl))
    (hbase : attributeBase (.Name x xp) "append" X.env (eval (.Name x xp) X.env) = eval (.Name x xp) X.env := by rfl)
    (hfew : ((backTo p (starEach [e] X.env)).all (fun x => !x.1) && (backToKw p (keywordEach [] X.env)).all (fun x => x.1.isSome)
      && decide (([e] : List Expr).length + ([] : List Keyword).length + (if ([] : List Keyword).isEmpty then 0 else 1) < 30)) = true := by rfl)
    (hline : (apos.endLine == p.line) = true := by rfl) (hs : starEach [e] X.env = (false, eval e X.env) :: starEach [] X.env := by rfl) (hplain : (backTo p (starEach [] X.env)).any (·.1) = false := by rfl)
    (hsw : swapsWith (.Call (.Attribute (.Name x xp) "append" apos) [e] [] p) none pos.line X.env = pure false := by rfl)
    (hd : (x == ("__debug__" : Str)) = false := by decide) (hcd : (x == ("__classdict__" : Str)) = false := by decide) :
    RS X G Φ W (.Expr (.Call (.Attribute (.Name x xp) "append" apos) [e] [] p) pos) (sApp i fe) := fun Z hZ =>
  PS.lo (ps_expr (pe_bm PySem.F.plainAttrs_list PySem.F.slot_list_append PySem.F.type_list_append mt_append (pe_var hN hv hd hcd) (pa_cons (h Z hZ) pa_nil hs) hbase hfew hline hs hplain) hsw) fun D σ H ⟨F, ρ, r, ρ', E, hf, q1, q2⟩ => by
    unfold sApp at hf
    split at hf
    · rename_i hl
      obtain ⟨l, vs, s, hH⟩ := lstAt_ok E hl
      refine ⟨_, sl_some s, .inl ⟨rfl, _, SqL.of hH⟩, ?_⟩
      rcases mB_cases hf with ⟨x, h1, rfl⟩ | ⟨pv, ρ1, h1, h2⟩
      · exact ⟨F, ρ, _, _, E, h1, fun _ e => (by cases e), fun y e => by cases e; exact q2 _ rfl⟩
      · refine ⟨F, ρ, _, _, E, h1, fun pv' e F1 v H1 g1 E1 hv => ?_, fun y e => by cases e⟩
        cases e
        obtain ⟨d, hd, h3⟩ := mO_some h2
        obtain ⟨F2, g2, E2, hr⟩ := hv.frz E1 hd
        rcases mB_cases h3 with ⟨x, h4, rfl⟩ | ⟨u, ρ2, h4, h5⟩
        · obtain ⟨_, _, _, _, _, _, _, _, e, _⟩ := chg_ok E2 h4
          cases e
        · cases h5
          obtain ⟨l', vs', ds, ds', s', hH', hr', hg, _, fin⟩ := chg_ok E2 h4
          rw [s] at s'; cases s'
          split at hg
          · cases hg
            exact ⟨l, vs', v, rfl, rfl, hH', by rw [← hr'.length]; assumption, q1 _ rfl F2 σ _ (g1.trans g2) (fin _ (Reps.append hr' (.cons hr .nil)))⟩
          · cases hg
    · cases hf
def sSet (i : Nat) (fk : Inr) (f : M PV) : M Fl := mB f fun pv => mB (mO pv.tree) fun d ρ => match fk ρ with
  | some (.int k) => (mB (chg i fun ds => (ixN ds.length k).map fun j => ds.set j d) fun _ => mR .next) ρ
  | _ => none
theorem rs_sub {i : Nat} {x : Str} {k : Expr} {fk : Inr} {fe : M PV} {xp sp : Pos} (h : RE X G Φ W e fe) (hk : RI X G k fk) (hN : X.N[i]? = some x := by rfl) (hv : Vis X.env.scope x := by first | exact Or.inl rfl | exact Or.inr (Or.inl rfl) | exact Or.inr (Or.inr rfl))
    (ha : ∀ v, assign (.Subscript (.Name x xp) k sp) X.env v = (do
      let ov ← holding [v] (eval (.Name x xp) X.env)
      let iv ← holding [v, ov] (eval k X.env)
      standAt sp
      holding [v, ov, iv] (setItem ov iv v)
      release [v, ov, iv] []) := by intro _; rfl)
    (hs : swapsWithSole [.Subscript (.Name x xp) k sp] e pos.line X.env = pure false := by rfl) (hw : swappedStores [.Subscript (.Name x xp) k sp] e X.env = pure none := by rfl)
    (h1 : (assignEach [.Subscript (.Name x xp) k sp] X.env).map (·.2) = [assign (.Subscript (.Name x xp) k sp) X.env] := by rfl) (hd : (x == ("__debug__" : Str)) = false := by decide) (hcd : (x == ("__classdict__" : Str)) = false := by decide) :
    RS X G Φ W (.Assign [.Subscript (.Name x xp) k sp] e pos) (sSet i fk fe) := fun Z hZ =>
  PS.lo (ps_asg (h Z hZ) (pg_sub (pe_var hN hv hd hcd) hk set_list ha) hs hw h1) fun D σ H ⟨F, ρ, r, ρ', E, hf, q1, q2⟩ => by
    unfold sSet at hf
    rcases mB_cases hf with ⟨x, h1, rfl⟩ | ⟨pv, ρ1, h1, h2⟩
    · exact ⟨F, ρ, _, _, E, h1, fun _ e => (by cases e), fun y e => by cases e; exact q2 _ rfl⟩
    · refine ⟨F, ρ, _, _, E, h1, fun pv' e F1 v H1 g1 E1 hv => ?_, fun y e => by cases e⟩
      cases e
      obtain ⟨d, hd, h3⟩ := mO_some h2
      obtain ⟨F2, g2, E2, hr⟩ := hv.frz E1 hd
      split at h3
      · rename_i kk hkk
        rcases mB_cases h3 with ⟨x, h4, rfl⟩ | ⟨u, ρ2, h4, h5⟩
        · obtain ⟨_, _, _, _, _, _, _, _, e, _⟩ := chg_ok E2 h4
          cases e
        · cases h5
          obtain ⟨l', vs', ds, ds', s', hH', hr', hg, _, fin⟩ := chg_ok E2 h4
          refine ⟨_, sl_some s', Z, F2, _, _, E2, hkk, fun w hw => ?_⟩
          cases hw
          cases hj : ixN ds.length kk with
          | none => rw [hj] at hg; cases hg
          | some j =>
            rw [hj] at hg; cases hg
            exact ⟨l', vs', kk, j, rfl, rfl, hH', by rw [← hr'.length]; exact hj, q1 _ rfl F2 σ _ (g1.trans g2) (fin _ (Reps.set hr j hr'))⟩
      · cases h3

/-! ### for over a list, a tuple, a text -/
def itLst (f : M PV) : M (List D) := mB f fun pv => mB (mO pv.tree) fun d => match d with
  | .lst ds => mR ds
  | _ => fun _ => none
def itTup (f : M PV) : M (List D) := mB f fun pv => mB (mO pv.tree) fun d => match d with
  | .tup ds => mR ds
  | _ => fun _ => none
def itStr (f : M PV) : M (List D) := mB f fun pv => mB (mO pv.tree) fun d => match d with
  | .str x => mR (x.cps.toList.map fun c => .str ⟨#[c]⟩)
  | _ => fun _ => none
theorem itl_ok {K : PySem.W.Frag} {F : Hp} {a : Addr} {ds : List D} {vs : List V} (h : SqL K F a vs) (r : Reps K G F ds vs) (inj : ∀ H xs ys, Gr F H → SqL K H a xs → SqL K H a ys → True) : ItOk K G F (Itl K a) ds where
  go := fun i d H g h1 => by
    obtain ⟨v, h2, _⟩ := r.get h1
    exact ⟨vs, v, g.sqL h, h2⟩
  yld := fun i d H x H' g h1 ⟨h2, h3⟩ => .inl ⟨h2, by
    obtain ⟨v, h4, h5⟩ := r.get h1
    have h6 := h3 vs (g.sqL h)
    rw [h4] at h6; cases h6
    exact h5⟩
  stop := fun i H g h1 => ⟨vs, g.sqL h, by rw [← r.length]; exact h1⟩
theorem itt_ok {K : PySem.W.Frag} {F : Hp} {a : Addr} {ds : List D} {vs : List V} (h : SqT K F a vs) (r : Reps K G F ds vs) : ItOk K G F (Itt K a) ds where
  go := fun i d H g h1 => by
    obtain ⟨v, h2, _⟩ := r.get h1
    exact ⟨vs, v, g.sqT h, h2⟩
  yld := fun i d H x H' g h1 ⟨h2, h3⟩ => .inl ⟨h2, by
    obtain ⟨v, h4, h5⟩ := r.get h1
    have h6 := h3 vs (g.sqT h)
    rw [h4] at h6; cases h6
    exact h5⟩
  stop := fun i H g h1 => ⟨vs, g.sqT h, by rw [← r.length]; exact h1⟩
theorem its_ok {K : PySem.W.Frag} {F : Hp} {x : Str} : ItOk K G F (Its x) (x.cps.toList.map fun c => .str ⟨#[c]⟩) where
  go := fun i d H g h => by
    have := (List.getElem?_eq_some_iff.mp h).1
    rw [List.length_map, Array.length_toList] at this
    exact this
  yld := fun i d H v H' g h ⟨h2, c, h3, h4⟩ => .inl ⟨h2, by
    rw [List.getElem?_map, Array.getElem?_toList, h3] at h
    cases h; subst h4
    exact .str _⟩
  stop := fun i H g h => by
    rw [List.length_map, Array.length_toList] at h
    exact h
theorem rit_lst {tg : Expr} {f : M PV} (h : RE X G Φ W e f) : RIt X G Φ W tg e (itLst f) := fun Z hZ => PI.lo (pi_list (h Z hZ)) fun σ H Q ⟨F, ρ, r, ρ', E, hf, q1, q2⟩ => by
  unfold itLst at hf
  rcases mB_cases hf with ⟨x, h1, rfl⟩ | ⟨pv, ρ1, h1, h2⟩
  · exact ⟨F, ρ, _, _, E, h1, fun _ e => (by cases e), fun y e => by cases e; exact q2 _ rfl⟩
  · refine ⟨F, ρ, _, _, E, h1, fun pv' e F1 v H1 g1 E1 hv => ?_, fun y e => by cases e⟩
    cases e
    obtain ⟨d, hd, h3⟩ := mO_some h2
    obtain ⟨F2, g2, E2, hr⟩ := hv.frz E1 hd
    split at h3
    · cases h3
      cases hr with
      | lst hs hrr => exact ⟨_, rfl, ⟨_, E2.ext.sqL hs⟩, q1 _ rfl F2 _ H1 (g1.trans g2) E2 (itl_ok hs hrr fun _ _ _ _ _ _ => trivial)⟩
    · cases h3
theorem rit_tup {tg : Expr} {f : M PV} (h : RE X G Φ W e f) : RIt X G Φ W tg e (itTup f) := fun Z hZ => PI.lo (pi_tup (h Z hZ)) fun σ H Q ⟨F, ρ, r, ρ', E, hf, q1, q2⟩ => by
  unfold itTup at hf
  rcases mB_cases hf with ⟨x, h1, rfl⟩ | ⟨pv, ρ1, h1, h2⟩
  · exact ⟨F, ρ, _, _, E, h1, fun _ e => (by cases e), fun y e => by cases e; exact q2 _ rfl⟩
  · refine ⟨F, ρ, _, _, E, h1, fun pv' e F1 v H1 g1 E1 hv => ?_, fun y e => by cases e⟩
    cases e
    obtain ⟨d, hd, h3⟩ := mO_some h2
    obtain ⟨F2, g2, E2, hr⟩ := hv.frz E1 hd
    split at h3
    · cases h3
      cases hr with
      | tup hs hrr => exact ⟨_, rfl, ⟨_, E2.ext.sqT hs⟩, q1 _ rfl F2 _ H1 (g1.trans g2) E2 (itt_ok hs hrr)⟩
    · cases h3
theorem rit_str {tg : Expr} {f : M PV} (h : RE X G Φ W e f) : RIt X G Φ W tg e (itStr f) := fun Z hZ => PI.lo (pi_str (h Z hZ)) fun σ H Q ⟨F, ρ, r, ρ', E, hf, q1, q2⟩ => by
  unfold itStr at hf
  rcases mB_cases hf with ⟨x, h1, rfl⟩ | ⟨pv, ρ1, h1, h2⟩
  · exact ⟨F, ρ, _, _, E, h1, fun _ e => (by cases e), fun y e => by cases e; exact q2 _ rfl⟩
  · refine ⟨F, ρ, _, _, E, h1, fun pv' e F1 v H1 g1 E1 hv => ?_, fun y e => by cases e⟩
    cases e
    obtain ⟨d, hd, h3⟩ := mO_some h2
    obtain ⟨F2, g2, E2, hr⟩ := hv.frz E1 hd
    split at h3
    · cases h3
      cases hr
      exact ⟨_, rfl, q1 _ rfl F2 _ H1 (g1.trans g2) E2 its_ok⟩
    · cases h3
end
end Pl
set_option Elab.async false
set_option linter.all false
set_option maxRecDepth 100000
set_option maxHeartbeats 2000000
namespace Pl
open PySem PySem.Spec L2
open PyProof.Rows hiding St

abbrev D' := D
/-! ### list comprehensions of one clause -/
def wipeE (ρ : En) : List Nat → En
  | [] => ρ
  | v :: vs => (wipeE ρ vs).set v none
/-- a block's own slots as they stood: trees come back -/
def unwipe (ρ ρ' : En) : List Nat → En
  | [] => ρ'
  | v :: vs => match ρ.at v with
    | some (.val d) => (unwipe ρ ρ' vs).set v (some (.val d))
    | _ => (unwipe ρ ρ' vs).set v none
def lcGo (vs : List Nat) (g : Tg) (tt : M Bool) (fe : M PV) : List D → List D → M (List D)
  | [], acc => mR acc
  | d :: ds, acc => fun ρ => match g d ρ with
    | none => none
    | some ρ1 => mB tt (fun b => if b = true then mB fe fun pv => mB (mO pv.tree) fun x => if acc.length < sizeLine then (fun ρ2 => lcGo vs g tt fe ds (acc ++ [x]) (wipeE ρ2 vs)) else fun _ => none
      else fun ρ2 => lcGo vs g tt fe ds acc (wipeE ρ2 vs)) ρ1
def eLc (vs : List Nat) (fi : M (List D)) (g : Tg) (tt : M Bool) (fe : M PV) : M PV := mB fi fun ds ρ => match lcGo vs g tt fe ds [] (wipeE ρ vs) with
  | some (.ok acc, ρ') => some (.ok (.own (.lst acc)), unwipe ρ ρ' vs)
  | _ => none
def bYes : M Bool := mR true

section
variable {K : PySem.W.Frag} {G : Nat → Option CI} {Z : Zone} {F H : Hp} {ρ ρ' : En} {σ σ' : L2.St}
theorem EnvOk.wipe (E : EnvOk K G Z F ρ σ H) : ∀ vs : List Nat, EnvOk K G Z F (wipeE ρ vs) (L2.wipe σ vs) H
  | [] => E
  | v :: vs => (E.wipe vs).junk v none
theorem EnvOk.unwipe (E : EnvOk K G Z F ρ' (L2.wipe σ vs0) H) (hv : ∀ (i : Nat) (d : D), ρ.at i = some (.val d) → ∃ v, sl σ i = some v ∧ Rep K G F d v) (hl : ρ.length = σ.length) :
    ∀ vs : List Nat, (∀ v ∈ vs0, v ∈ vs ∨ True) → ∃ τ, EnvOk K G Z F (unwipe ρ ρ' vs) τ H ∧ τ.length = σ.length ∧ ∀ j, (j ∈ vs → ∀ d, ρ.at j = some (.val d) → τ[j]? = σ[j]?) ∧ (j ∉ vs → τ[j]? = (L2.wipe σ vs0)[j]?)
  | [], _ => ⟨_, E, wipe_length σ vs0, fun j => ⟨fun h => (by cases h), fun _ => rfl⟩⟩
  | v :: vs, hh => by
    obtain ⟨τ, E1, h1, h2⟩ := E.unwipe hv hl vs (fun _ _ => .inr trivial)
    unfold Pl.unwipe
    split
    · rename_i d hd
      obtain ⟨u, hs, hr⟩ := hv v d hd
      refine ⟨τ.set v (some u), put_any E1 hr, by rw [List.length_set, h1], fun j => ⟨fun hj d' hd' => ?_, fun hj => ?_⟩⟩
      · by_cases e : v = j
        · subst e
          have hlt : v < σ.length := by rw [← hl]; exact at_lt hd
          rw [List.getElem?_set_self (by rw [h1]; exact hlt), sl_some hs]
        · rw [List.getElem?_set_ne e]
          rcases List.mem_cons.mp hj with z | z
          · exact absurd z.symm e
          · exact (h2 j).1 z d' hd'
      · have e : v ≠ j := fun z => hj (by rw [z]; exact List.mem_cons_self)
        rw [List.getElem?_set_ne e]
        exact (h2 j).2 fun z => hj (List.mem_cons_of_mem _ z)
    · rename_i hne
      refine ⟨τ.set v none, E1.junk v none, by rw [List.length_set, h1], fun j => ⟨fun hj d' hd' => ?_, fun hj => ?_⟩⟩
      · by_cases e : v = j
        · subst e; exact absurd hd' (hne d')
        · rw [List.getElem?_set_ne e]
          rcases List.mem_cons.mp hj with z | z
          · exact absurd z.symm e
          · exact (h2 j).1 z d' hd'
      · have e : v ≠ j := fun z => hj (by rw [z]; exact List.mem_cons_self)
        rw [List.getElem?_set_ne e]
        exact (h2 j).2 fun z => hj (List.mem_cons_of_mem _ z)
/-- an environment that says nothing of some slots holds whatever they hold -/
theorem EnvOk.slots (E : EnvOk K G Z F ρ σ H) (hl : σ'.length = σ.length) (h : ∀ (j : Nat) (p : PV), ρ.at j = some p → sl σ' j = sl σ j) : EnvOk K G Z F ρ σ' H where
  len := E.len.trans hl.symm
  ext := E.ext
  val := fun j d q => by rw [h j _ q]; exact E.val j d q
  own := fun j d q => by rw [h j _ q]; exact E.own j d q
  bor := fun j d q => by rw [h j _ q]; exact E.bor j d q
  dis := fun j k o o' l a b s s' => by
    rw [h j _ a] at s
    rw [h k _ b] at s'
    exact E.dis j k o o' l a b s s'
  pins := E.pins
  pinh := E.pinh
  pinH := E.pinH
  kept := E.kept
  grow := E.grow
  gf := E.gf
  adr := fun j d q => by rw [h j _ q]; exact E.adr j d q
theorem wipe_get {σ : L2.St} : ∀ {vs : List Nat} {j : Nat}, j ∉ vs → (L2.wipe σ vs)[j]? = σ[j]?
  | [], _, _ => rfl
  | v :: vs, j, h => by
    show ((L2.wipe σ vs).set v none)[j]? = _
    rw [List.getElem?_set_ne fun z => h (by rw [z]; exact List.mem_cons_self)]
    exact wipe_get fun z => h (List.mem_cons_of_mem _ z)
theorem wipe_none {σ : L2.St} : ∀ {vs : List Nat} {j : Nat}, j ∈ vs → sl (L2.wipe σ vs) j = none
  | [], _, h => by cases h
  | v :: vs, j, h => by
    show sl ((L2.wipe σ vs).set v none) j = none
    by_cases e : v = j
    · subst e
      by_cases hlt : v < (L2.wipe σ vs).length
      · exact sl_set_self hlt
      · rw [List.set_eq_of_length_le (Nat.le_of_not_lt hlt)]
        unfold sl
        rw [List.getD_eq_getElem?_getD, List.getElem?_eq_none_iff.mpr (Nat.le_of_not_lt hlt)]; rfl
    · rw [sl_set_ne e]
      rcases List.mem_cons.mp h with z | z
      · exact absurd z.symm e
      · exact wipe_none z
theorem sl_get {σ : L2.St} {j : Nat} : sl σ j = (σ[j]?).getD none := by
  unfold sl
  rw [List.getD_eq_getElem?_getD]
/-- behind a block: the slots as they stood before it -/
theorem EnvOk.behind {vs : List Nat} (E : EnvOk K G Z F ρ' (L2.wipe σ vs) H) (hv : ∀ (i : Nat) (d : D), ρ.at i = some (.val d) → ∃ v, sl σ i = some v ∧ Rep K G F d v) (hl : ρ.length = σ.length) : EnvOk K G Z F (Pl.unwipe ρ ρ' vs) σ H := by
  obtain ⟨τ, E1, h1, h2⟩ := EnvOk.unwipe (vs0 := vs) E hv hl vs (fun _ _ => .inr trivial)
  have hun : ∀ (vs : List Nat) (j : Nat) (p : PV), j ∈ vs → En.at (Pl.unwipe ρ ρ' vs) j = some p → ∃ d, ρ.at j = some (.val d) := by
    intro vs
    induction vs with
    | nil => intro j p h; cases h
    | cons v vs ih =>
      intro j p h q
      unfold Pl.unwipe at q
      split at q
      · rename_i d hd
        by_cases e : v = j
        · subst e; exact ⟨d, hd⟩
        · rw [at_set_ne e] at q
          rcases List.mem_cons.mp h with z | z
          · exact absurd z.symm e
          · exact ih j p z q
      · by_cases e : v = j
        · subst e
          exfalso
          by_cases hlt : v < (Pl.unwipe ρ ρ' vs).length
          · rw [at_set_self hlt] at q; cases q
          · rw [List.set_eq_of_length_le (Nat.le_of_not_lt hlt)] at q
            exact absurd (at_lt q) hlt
        · rw [at_set_ne e] at q
          rcases List.mem_cons.mp h with z | z
          · exact absurd z.symm e
          · exact ih j p z q
  refine E1.slots h1.symm fun j p q => ?_
  by_cases hj : j ∈ vs
  · obtain ⟨d, hd⟩ := hun vs j p hj q
    rw [sl_get, sl_get, (h2 j).1 hj d hd]
  · rw [sl_get, sl_get, (h2 j).2 hj, wipe_get hj]
theorem But.wipe {is vs : List Nat} (b : But is (L2.wipe σ vs) σ') (h : ∀ i ∈ is, i ∈ vs) : L2.wipe σ' vs = L2.wipe σ vs := by
  have key : ∀ (us : List Nat) (a b : L2.St), a.length = b.length → (∀ j, j ∉ us → a[j]? = b[j]?) → L2.wipe a us = L2.wipe b us := by
    intro us
    induction us with
    | nil => intro a b hl hh; exact List.ext_getElem? fun n => hh n (by simp)
    | cons u us ih =>
      intro a b hl hh
      apply List.ext_getElem?
      intro n
      by_cases hn : n ∈ u :: us
      · have h1 : (L2.wipe a (u :: us)).length = (L2.wipe b (u :: us)).length := by rw [wipe_length, wipe_length, hl]
        have h2 := wipe_none (σ := a) hn
        have h3 := wipe_none (σ := b) hn
        rw [sl_get] at h2 h3
        by_cases hlt : n < (L2.wipe a (u :: us)).length
        · rw [List.getElem?_eq_getElem hlt] at h2 ⊢
          rw [List.getElem?_eq_getElem (h1 ▸ hlt)] at h3 ⊢
          have h2 : (L2.wipe a (u :: us))[n] = none := h2
          have h3 : (L2.wipe b (u :: us))[n]'(h1 ▸ hlt) = none := h3
          rw [h2, h3]
        · rw [List.getElem?_eq_none_iff.mpr (Nat.le_of_not_lt hlt), List.getElem?_eq_none_iff.mpr (h1 ▸ Nat.le_of_not_lt hlt)]
      · rw [wipe_get hn, wipe_get hn, hh n hn]
  have h1 : L2.wipe (L2.wipe σ vs) vs = L2.wipe σ vs := key vs _ _ (wipe_length _ _) fun j hj => wipe_get hj
  rw [← h1]
  exact key vs _ _ b.1 fun j hj => b.2 j fun z => hj (h j z)
/-- the zone in which the list at D is kept -/
def Zone.plus (Z : Zone) (D : Addr) (o : HO) : Zone := { Z with h := upd Z.h D o }
theorem EnvOk.plus {D : Addr} {o : HO} (E : EnvOk K G Z F ρ σ H) (hD : H D = some o) (hF : F D = none) (hO : ¬ Ow ρ σ D) : EnvOk K G (Z.plus D o) F ρ σ H :=
  { len := E.len, ext := E.ext, val := E.val
    own := fun i p q => by
      obtain ⟨l, h1, h2, h3, h4⟩ := E.own i p q
      have hl : l ≠ D := fun z => hO ⟨i, p, .inl q, z ▸ h1⟩
      exact ⟨l, h1, h2, by show upd Z.h D o l = none; rw [upd_ne hl]; exact h3, h4⟩
    bor := E.bor, dis := E.dis, pins := E.pins
    pinh := fun i l h => by
      obtain ⟨u, hu⟩ := E.pinh i l h
      show ∃ u, upd Z.h D o l = some u
      by_cases hl : l = D
      · subst hl; exact ⟨_, upd_same⟩
      · rw [upd_ne hl]; exact ⟨u, hu⟩
    pinH := E.pinH
    kept := fun a u h n => by
      have h : upd Z.h D o a = some u := h
      by_cases ha : a = D
      · subst ha; rw [upd_same] at h; rw [hD]; exact h
      · rw [upd_ne ha] at h; exact E.kept a u h n
    grow := fun a u h => by
      have ha : a ≠ D := ne_of_none h hF
      show Z.f a = some u ∨ upd Z.h D o a = none
      rw [upd_ne ha]
      exact E.grow a u h
    gf := E.gf, adr := E.adr }
theorem EnvOk.minus {D : Addr} {o : HO} (E : EnvOk K G (Z.plus D o) F ρ σ H) (hZ : Z.h D = none) (hp : ∀ i, Z.pin i ≠ some D) : EnvOk K G Z F ρ σ H :=
  have low : ∀ l, upd Z.h D o l = none → Z.h l = none := fun l h => by
    by_cases hl : l = D
    · subst hl; rw [upd_same] at h; cases h
    · rw [upd_ne hl] at h; exact h
  { len := E.len, ext := E.ext, val := E.val
    own := fun i p q => by
      obtain ⟨l, h1, h2, h3, h4⟩ := E.own i p q
      exact ⟨l, h1, h2, low l h3, h4⟩
    bor := E.bor, dis := E.dis, pins := E.pins
    pinh := fun i l h => by
      obtain ⟨u, hu⟩ := E.pinh i l h
      have hu : upd Z.h D o l = some u := hu
      have hl : l ≠ D := fun z => hp i (z ▸ h)
      rw [upd_ne hl] at hu
      exact ⟨u, hu⟩
    pinH := E.pinH
    kept := fun a u h n => E.kept a u (by
      show upd Z.h D o a = some u
      rw [upd_ne (ne_of_none h hZ)]; exact h) n
    grow := fun a u h => (E.grow a u h).imp id (low a)
    gf := E.gf, adr := E.adr }
end

section
variable {X : Cx} {G : Nat → Option CI} {Φ : Zone → Prop} {W : WX} {e a b c : Expr} {es : List Expr} {pos p p' apos : Pos} {st : Stmt} {rest : List Stmt}
/-- tests of a comprehension -/
def RTs (X : Cx) (G : Nat → Option CI) (Φ : Zone → Prop) (W : WX) (ifs : List Expr) (f : M Bool) : Prop := ∀ Z, Φ Z → PTs X ifs (tT X.K G Z W f)
theorem rts_nil : RTs X G Φ W [] bYes := fun Z hZ => ⟨fun pins s σ H Q I ⟨F, ρ, r, ρ', E, hf, q1, q2⟩ => by
  cases hf
  exact pts_nil.run pins s σ H Q I (q1 _ rfl F H Gr.rfl E)⟩
theorem rts_one {f : M Bool} (h : RT X G Φ W e f) : RTs X G Φ W [e] f := fun Z hZ => pts_one (h Z hZ)
/-- the wish within a block: nothing is let out -/
abbrev W0 : WX := fun _ _ _ _ => False
theorem EnvOk.alter {K : PySem.W.Frag} {Z : Zone} {F H : Hp} {ρ : En} {σ : L2.St} {D : Addr} {o : HO} (E : EnvOk K G Z F ρ σ H) (hF : F D = none) (hZ : Z.h D = none) (hp : ∀ i, Z.pin i ≠ some D) (hO : ¬ Ow ρ σ D) : EnvOk K G Z F ρ σ (upd H D o) where
  len := E.len
  ext := fun a u h => by rw [upd_ne (ne_of_none h hF)]; exact E.ext a u h
  val := E.val
  own := fun i p q => by
    obtain ⟨l, h1, h2, h3, h4⟩ := E.own i p q
    have hl : l ≠ D := fun z => hO ⟨i, p, .inl q, z ▸ h1⟩
    exact ⟨l, h1, h2, h3, h4.gr Gr.rfl (upd_ne hl)⟩
  bor := fun i p q => by
    obtain ⟨l, h1, h2, h3, h4⟩ := E.bor i p q
    have hl : l ≠ D := fun z => hO ⟨i, p, .inr q, z ▸ h1⟩
    exact ⟨l, h1, h2, h3, h4.gr Gr.rfl (upd_ne hl)⟩
  dis := E.dis
  pins := E.pins
  pinh := E.pinh
  pinH := fun i l h => by
    obtain ⟨u, hu⟩ := E.pinH i l h
    have hl : l ≠ D := fun z => hp i (z ▸ h)
    exact ⟨u, by rw [upd_ne hl]; exact hu⟩
  kept := fun a u h n => by rw [upd_ne (ne_of_none h hZ)]; exact E.kept a u h n
  grow := E.grow
  gf := E.gf
  adr := E.adr
theorem EnvOk.notOw {K : PySem.W.Frag} {Z : Zone} {F H : Hp} {ρ : En} {σ : L2.St} {D : Addr} {o : HO} (E : EnvOk K G (Z.plus D o) F ρ σ H) (hp : ∀ i, Z.pin i ≠ some D) : ¬ Ow ρ σ D := by
  rintro ⟨i, p, q | q, s⟩
  · obtain ⟨l, h1, h2, h3, h4⟩ := E.own i p q
    rw [s] at h1; cases h1
    have h3 : upd Z.h D o D = none := h3
    rw [upd_same] at h3; cases h3
  · obtain ⟨l, h1, h2, h3, h4⟩ := E.bor i p q
    rw [s] at h1; cases h1
    exact hp i h3
theorem EnvOk.atD {K : PySem.W.Frag} {Z : Zone} {F H : Hp} {ρ : En} {σ : L2.St} {D : Addr} {o : HO} (E : EnvOk K G (Z.plus D o) F ρ σ H) (hp : ∀ i, Z.pin i ≠ some D) : H D = some o := E.kept D o (by show upd Z.h D o D = some o; rw [upd_same]) hp
theorem EnvOk.noF {K : PySem.W.Frag} {Z : Zone} {F H : Hp} {ρ : En} {σ : L2.St} {D : Addr} {o : HO} (E : EnvOk K G (Z.plus D o) F ρ σ H) (hf : Z.f D = none) : F D = none := by
  cases e : F D with
  | none => rfl
  | some u =>
    rcases E.grow D u e with z | z
    · have z : Z.f D = some u := z
      rw [hf] at z; cases z
    · have z : upd Z.h D o D = none := z
      rw [upd_same] at z; cases z
/-- the element's reading, whatever the zone -/
def tEx (K : PySem.W.Frag) (G : Nat → Option CI) (Φ : Zone → Prop) (f : M PV) : TE := fun σ H Q => ∃ Z, Φ Z ∧ tE K G Z W0 f σ H Q
def tTx (K : PySem.W.Frag) (G : Nat → Option CI) (Φ : Zone → Prop) (f : M Bool) : TT := fun σ H Q => ∃ Z, Φ Z ∧ tT K G Z W0 f σ H Q
theorem lc_all {Z : Zone} {vs is : List Nat} {fi : M (List D)} {g : Tg} {tt : M Bool} {fe : M PV} (hZ : Φ Z) (hΦ : ∀ Z D o, Φ Z → Φ (Zone.plus Z D o)) (his : ∀ i ∈ is, i ∈ vs) : ∀ σ H Q, tE X.K G Z W (eLc vs fi g tt fe) σ H Q → tLc (tIt X.K G Z W fi) (tG X.K G is g) (tTx X.K G Φ tt) (tEx X.K G Φ fe) vs σ H Q := fun σ H0 Q ⟨F0, ρ0, r, ρr, E0, hf, q1, q2⟩ => by
  unfold eLc at hf
  rcases mB_cases hf with ⟨x, h1, rfl⟩ | ⟨ds, ρ1, h1, h2⟩
  · exact ⟨F0, ρ0, _, _, E0, h1, fun _ e => (by cases e), fun y e => by cases e; exact q2 _ rfl⟩
  · refine ⟨F0, ρ0, _, _, E0, h1, fun ds' e F1 J H1 g1 E1 hJ => ?_, fun y e => by cases e⟩
    cases e
    split at h2
    · rename_i accf ρf hgo
      cases h2
      intro D hD
      have hZD : Z.h D = none := E1.fresh hD
      have hFD : F1 D = none := E1.ext.free hD
      have hfD : Z.f D = none := E1.gf.free hFD
      have hp : ∀ i, Z.pin i ≠ some D := fun i h => by
        obtain ⟨u, hu⟩ := E1.pinH i D h
        rw [hD] at hu; cases hu
      have start : EnvOk X.K G (Z.plus D (.lst [])) F1 (wipeE ρ1 vs) (L2.wipe σ vs) (upd H1 D (.lst [])) := by
        have E2 := (E1.newOwn (o := .lst []) hD).wipe vs
        refine E2.plus upd_same hFD fun ho => ?_
        obtain ⟨_, u, hu⟩ := (E1.wipe vs).there ho
        rw [hD] at hu; cases hu
      refine ⟨fun i m H => m = ds.length - i ∧ i ≤ ds.length ∧ ∃ F ρ acc accd, Gr F1 F ∧ EnvOk X.K G (Z.plus D (.lst acc)) F ρ (L2.wipe σ vs) H ∧ Reps X.K G F accd acc ∧ lcGo vs g tt fe (ds.drop i) accd ρ = some (.ok accf, ρf),
        ⟨_, rfl, Nat.zero_le _, F1, _, [], [], Gr.rfl, start, .nil, hgo⟩, ?_⟩
      rintro i m H ⟨rfl, hi, F, ρ, acc, accd, gF, E, hacc, hl⟩
      have gH : Gr F1 H := gF.trans E.ext
      rcases Nat.lt_or_ge i ds.length with hlt | hge
      · refine .inr ⟨hJ.go i _ H gH (List.getElem?_eq_getElem hlt), ?_⟩
        rw [List.drop_eq_getElem_cons hlt] at hl
        unfold lcGo at hl
        split at hl
        · cases hl
        · rename_i ρ2 hg2
          refine ⟨fun H' => i + 1 ≤ ds.length ∧ ∃ F ρ acc accd, Gr F1 F ∧ EnvOk X.K G (Z.plus D (.lst acc)) F ρ (L2.wipe σ vs) H' ∧ Reps X.K G F accd acc ∧ lcGo vs g tt fe (ds.drop (i + 1)) accd ρ = some (.ok accf, ρf), fun H' ⟨a, z⟩ => ⟨_, by omega, rfl, a, z⟩, fun x H' hy => ?_⟩
          have hy2 : ∃ F2, Gr F F2 ∧ EnvOk X.K G (Z.plus D (.lst acc)) F2 ρ (L2.wipe σ vs) H' ∧ Rep X.K G F2 ds[i] x := by
            rcases hJ.yld i _ H x H' gH (List.getElem?_eq_getElem hlt) hy with ⟨rfl, hr⟩ | ⟨pp, o, hp0, rfl, hr⟩
            · exact ⟨F, Gr.rfl, E, hr.gr gF⟩
            · exact ⟨_, Gr.new (E.ext.free hp0), E.new hp0, hr F gF (E.ext.free hp0)⟩
          obtain ⟨F2, g2, E2, hr⟩ := hy2
          refine ⟨_, F2, ρ, _, ρ2, E2, hr, hg2, fun σ2 b2 E3 => ⟨b2.wipe his, ?_⟩⟩
          have hw := b2.wipe his
          refine ⟨_, hΦ Z D (.lst acc) hZ, ?_⟩
          rcases mB_cases hl with ⟨y, h3, e⟩ | ⟨bb, ρ3, h3, h4⟩
          · cases e
          · refine ⟨F2, ρ2, _, _, E3, h3, fun b' e F3 H3 g3 E4 => ?_, fun y e => by cases e⟩
            cases e
            cases bb with
            | false =>
              refine iteF ⟨hlt, F3, _, acc, accd, (gF.trans g2).trans g3, ?_, hacc.gr (g2.trans g3), h4⟩
              have := E4.wipe vs
              rw [hw] at this
              exact this
            | true =>
              refine iteT ⟨_, hΦ Z D (.lst acc) hZ, ?_⟩
              rw [if_pos rfl] at h4
              rcases mB_cases h4 with ⟨y, h5, e⟩ | ⟨pv, ρ4, h5, h6⟩
              · cases e
              · refine ⟨F3, ρ3, _, _, E4, h5, fun pv' e F4 y H4 g4 E5 hv => ?_, fun y e => by cases e⟩
                cases e
                obtain ⟨d, hd, h7⟩ := mO_some h6
                obtain ⟨F5, g5, E6, hr5⟩ := hv.frz E5 hd
                split at h7
                · rename_i hsz
                  have hacc5 := hacc.gr ((g2.trans g3).trans (g4.trans g5))
                  refine ⟨acc, E6.atD hp, by rw [← hacc5.length]; exact hsz, hlt, F5, _, acc ++ [y], accd ++ [d], ((gF.trans g2).trans g3).trans (g4.trans g5), ?_, Reps.append hacc5 (.cons hr5 .nil), h7⟩
                  have hO := E6.notOw hp
                  have hF5 := E6.noF hfD
                  have E7 := (((E6.minus hZD hp).alter (o := .lst (acc ++ [y])) hF5 hZD hp hO).plus (D := D) upd_same hF5 hO).wipe vs
                  rw [hw] at E7
                  exact E7
                · cases h7
      · refine .inl ⟨hJ.stop i H gH hge, ?_⟩
        rw [List.drop_of_length_le hge] at hl
        cases hl
        have hv : ∀ (i : Nat) (d : D'), ρ1.at i = some (.val d) → ∃ v, sl σ i = some v ∧ Rep X.K G F d v := fun i d h => by
          obtain ⟨v, h1, h2⟩ := E1.val i d h
          exact ⟨v, h1, h2.gr gF⟩
        have EB := E.behind hv E1.len
        exact q1 _ rfl F (.ref D) H (g1.trans gF) (EB.minus hZD hp) ⟨D, rfl, E.noF hfD, hZD, ⟨acc, E.atD hp, hacc⟩, EB.notOw hp⟩
    · cases h2
theorem re_lc {elt tg iter : Expr} {ifs : List Expr} {scope : Scope} {own : List (Str × Nat)} {is : List Nat} {fi : M (List D)} {g : Tg} {tt : M Bool} {fe : M PV} (hΦ : ∀ Z D o, Φ Z → Φ (Zone.plus Z D o)) (hc : X.calm = true) (hN : X.N.Nodup) (hi : RIt X G Φ W tg iter fi) (ok : BlkOk X.N X.env.scope scope own)
    (hg : ∀ (s : Shared) (H : Hp) (C : Addr) (cl : List (Str × Addr)) (fp : List Addr), RG (X.blk s H scope (compEnvC scope cl C X.env) fp) G is tg g) (ht : ∀ (s : Shared) (H : Hp) (C : Addr) (cl : List (Str × Addr)) (fp : List Addr), RTs (X.blk s H scope (compEnvC scope cl C X.env) fp) G Φ W0 ifs tt)
    (he : ∀ (s : Shared) (H : Hp) (C : Addr) (cl : List (Str × Addr)) (fp : List Addr), RE (X.blk s H scope (compEnvC scope cl C X.env) fp) G Φ W0 elt fe) (his : ∀ i ∈ is, i ∈ own.map (·.2)) (hs : ∀ x, foldedSetIterable iter X.env x = pure x := by intro _; rfl) :
    RE X G Φ W (.ListComp elt [⟨tg, iter, ifs, 0⟩] scope pos) (eLc (own.map (·.2)) fi g tt fe) := fun Z hZ =>
  PE.lo (pe_lc (g := tG X.K G is g) (tt := tTx X.K G Φ tt) (te := tEx X.K G Φ fe) hc hN (hi Z hZ) ok hg (fun s H C cl fp => ⟨fun pins s' σ H Q I ⟨Z', hZ', q⟩ => (ht s _ C cl fp Z' hZ').run pins s' σ H Q I q⟩)
    (fun s H C cl fp => ⟨fun pins s' σ H Q I ⟨Z', hZ', q⟩ => (he s _ C cl fp Z' hZ').run pins s' σ H Q I q⟩) hs) (lc_all hZ hΦ his)
/-- name = [..] -/
theorem rs_lc {y : Str} {py : Pos} {i : Nat} {spos : Pos} {elt tg iter : Expr} {ifs : List Expr} {scope : Scope} {own : List (Str × Nat)} {is : List Nat} {fi : M (List D)} {g : Tg} {tt : M Bool} {fe : M PV} (hΦ : ∀ Z D o, Φ Z → Φ (Zone.plus Z D o)) (hc : X.calm = true) (hN : X.N.Nodup) (hy : X.N[i]? = some y) (hyl : X.env.scope.names.lookup y = some .local)
    (hsw : swapsWith (.ListComp elt [⟨tg, iter, ifs, 0⟩] scope pos) (some (.Name y py)) spos.line X.env = pure true) (hi : RIt X G Φ W tg iter fi) (ok : BlkOk X.N X.env.scope scope own)
    (hg : ∀ (s : Shared) (H : Hp) (C : Addr) (cl : List (Str × Addr)) (fp : List Addr), RG (X.blk s H scope (compEnvC scope cl C X.env) fp) G is tg g) (ht : ∀ (s : Shared) (H : Hp) (C : Addr) (cl : List (Str × Addr)) (fp : List Addr), RTs (X.blk s H scope (compEnvC scope cl C X.env) fp) G Φ W0 ifs tt)
    (he : ∀ (s : Shared) (H : Hp) (C : Addr) (cl : List (Str × Addr)) (fp : List Addr), RE (X.blk s H scope (compEnvC scope cl C X.env) fp) G Φ W0 elt fe) (his : ∀ i ∈ is, i ∈ own.map (·.2)) (hs : ∀ x, foldedSetIterable iter X.env x = pure x := by intro _; rfl) :
    RS X G Φ W (.Assign [.Name y py] (.ListComp elt [⟨tg, iter, ifs, 0⟩] scope pos) spos) (sAsg i (eLc (own.map (·.2)) fi g tt fe)) := fun Z hZ =>
  PS.lo (ps_setLc (g := tG X.K G is g) (tt := tTx X.K G Φ tt) (te := tEx X.K G Φ fe) hc hN hy hyl hsw (hi Z hZ) ok hg (fun s H C cl fp => ⟨fun pins s' σ H Q I ⟨Z', hZ', q⟩ => (ht s _ C cl fp Z' hZ').run pins s' σ H Q I q⟩)
    (fun s H C cl fp => ⟨fun pins s' σ H Q I ⟨Z', hZ', q⟩ => (he s _ C cl fp Z' hZ').run pins s' σ H Q I q⟩) hs) fun D σ H ⟨F, ρ, r, ρ', E, hf, q1, q2⟩ => by
    unfold sAsg at hf
    refine lc_all hZ hΦ his σ H _ ?_
    rcases mB_cases hf with ⟨x, h1, rfl⟩ | ⟨pv, ρ1, h1, h2⟩
    · exact ⟨F, ρ, _, _, E, h1, fun _ e => (by cases e), fun y e => by cases e; exact q2 _ rfl⟩
    · cases h2
      refine ⟨F, ρ, _, _, E, h1, fun pv' e F1 v H1 g1 E1 hv => ?_, fun y e => by cases e⟩
      cases e
      exact q1 _ rfl F1 _ H1 g1 (put_any E1 hv)
end
end Pl
set_option Elab.async false
set_option linter.all false
set_option maxRecDepth 100000
set_option maxHeartbeats 2000000
namespace Pl
open PySem PySem.Spec L2
open PyProof.Rows hiding St

section
variable {X : Cx} {G : Nat → Option CI} {Φ : Zone → Prop} {W : WX} {e a b c : Expr} {es : List Expr} {pos p p' apos : Pos} {st : Stmt} {rest : List Stmt}
/-! ### // by a positive divisor of any size, in a def's body -/
theorem op_fdivP (hN : X.base.NoSeer) (ht : X.prog.given.tree = none) (hs : X.stack = X.env :: X.outer) (hgen : X.env.scope.isGenerator = false) (hco : X.env.scope.isCoroutine = false) (hr : Room 40 X.A) : OpR X (binaryOp .FloorDiv) (rI (fun _ j => j ≠ 0) fun i j => .int (i.fdiv j)) := by
  intro pins s σ H x y v u Q I rx ry h
  obtain ⟨i, j, rfl, rfl, hj, q⟩ := h
  obtain ⟨t, rfl⟩ := rx
  obtain ⟨t', rfl⟩ := ry
  have hfr : X.A.frames = some (X.env :: X.outer) := by rw [I.ok.frames, hs]
  have room : PySem.PylongRoom (model X.prog X.w) X.A s := PySem.PylongRoom.of I.nolimit (by
    have := hr.dp
    have e : Builtin.pylongFrames = 100 := rfl
    omega) (PySem.SeerAt.of (hN.keeps I.bk) ht hfr hgen hco I.ok.blt I.ok.glob)
  exact floordiv_int hj ⟨.int (i.fdiv j), H, I.tok _, ⟨_, rfl⟩, q⟩ (.inr room)
def dDivP : D → D → Option D := dInt2 (fun _ j => decide (j ≠ 0)) fun i j => i.fdiv j
theorem opi_divP : OpI X G (rI (fun _ j => j ≠ 0) fun i j => .int (i.fdiv j)) dDivP := opi_int fun _ _ h => of_decide_eq_true h
def dPow : D → D → Option D := dInt2 (fun i j => decide (0 ≤ j) && decide (j ≤ 1000000) && decide (i.natAbs < 2 ^ 64)) fun i j => i ^ j.toNat
theorem opi_pow : OpI X G (rI CPow fun i j => .int (i ^ j.toNat)) dPow := opi_int fun _ _ h => by
  rw [Bool.and_eq_true, Bool.and_eq_true] at h
  exact ⟨of_decide_eq_true h.1.1, of_decide_eq_true h.1.2, of_decide_eq_true h.2⟩

/-! ### name = e where what is held stays as it is -/
def sAsgV (i : Nat) (f : M PV) : M Fl := mB f fun pv => mB (mO pv.tree) fun d ρ => some (.ok .next, ρ.set i (some (.val d)))
theorem rs_setV {i : Nat} {x : Str} {f : M PV} (hN : X.N.Nodup) (h : RE X G Φ W e f) (hi : X.N[i]? = some x := by rfl) (hx : Loc X.env.scope x := by first | exact Or.inl rfl | exact Or.inr rfl) (hs : swapsWith e (some (.Name x p)) pos.line X.env = pure false := by rfl)
    (hf : X.fn x = true ∨ X.env.scope.names.lookup x = some .local := by first | exact .inl rfl | exact .inr rfl | assumption) : RS X G Φ W (.Assign [.Name x p] e pos) (sAsgV i f) := fun Z hZ => PS.lo (ps_set hN hi hx (h Z hZ) hs hf) fun D σ H ⟨F, ρ, r, ρ', E, hf, q1, q2⟩ => by
  unfold sAsgV at hf
  rcases mB_cases hf with ⟨x, h1, rfl⟩ | ⟨pv, ρ1, h1, h2⟩
  · exact ⟨F, ρ, _, _, E, h1, fun _ e => (by cases e), fun y e => by cases e; exact q2 _ rfl⟩
  · refine ⟨F, ρ, _, _, E, h1, fun pv' e F1 v H1 g1 E1 hv => ?_, fun y e => by cases e⟩
    cases e
    obtain ⟨d, hd, h3⟩ := mO_some h2
    obtain ⟨F2, g2, E2, hr⟩ := hv.frz E1 hd
    cases h3
    exact q1 _ rfl F2 _ H1 (g1.trans g2) (put_any E2 hr)
theorem rs_lcV {y : Str} {py : Pos} {i : Nat} {spos : Pos} {elt tg iter : Expr} {ifs : List Expr} {scope : Scope} {own : List (Str × Nat)} {is : List Nat} {fi : M (List D)} {g : Tg} {tt : M Bool} {fe : M PV} (hΦ : ∀ Z D o, Φ Z → Φ (Zone.plus Z D o)) (hc : X.calm = true) (hN : X.N.Nodup) (hy : X.N[i]? = some y) (hyl : X.env.scope.names.lookup y = some .local)
    (hsw : swapsWith (.ListComp elt [⟨tg, iter, ifs, 0⟩] scope pos) (some (.Name y py)) spos.line X.env = pure true) (hi : RIt X G Φ W tg iter fi) (ok : BlkOk X.N X.env.scope scope own)
    (hg : ∀ (s : Shared) (H : Hp) (C : Addr) (cl : List (Str × Addr)) (fp : List Addr), RG (X.blk s H scope (compEnvC scope cl C X.env) fp) G is tg g) (ht : ∀ (s : Shared) (H : Hp) (C : Addr) (cl : List (Str × Addr)) (fp : List Addr), RTs (X.blk s H scope (compEnvC scope cl C X.env) fp) G Φ W0 ifs tt)
    (he : ∀ (s : Shared) (H : Hp) (C : Addr) (cl : List (Str × Addr)) (fp : List Addr), RE (X.blk s H scope (compEnvC scope cl C X.env) fp) G Φ W0 elt fe) (his : ∀ i ∈ is, i ∈ own.map (·.2)) (hs : ∀ x, foldedSetIterable iter X.env x = pure x := by intro _; rfl) :
    RS X G Φ W (.Assign [.Name y py] (.ListComp elt [⟨tg, iter, ifs, 0⟩] scope pos) spos) (sAsgV i (eLc (own.map (·.2)) fi g tt fe)) := fun Z hZ =>
  PS.lo (ps_setLc (g := tG X.K G is g) (tt := tTx X.K G Φ tt) (te := tEx X.K G Φ fe) hc hN hy hyl hsw (hi Z hZ) ok hg (fun s H C cl fp => ⟨fun pins s' σ H Q I ⟨Z', hZ', q⟩ => (ht s _ C cl fp Z' hZ').run pins s' σ H Q I q⟩)
    (fun s H C cl fp => ⟨fun pins s' σ H Q I ⟨Z', hZ', q⟩ => (he s _ C cl fp Z' hZ').run pins s' σ H Q I q⟩) hs) fun D σ H ⟨F, ρ, r, ρ', E, hf, q1, q2⟩ => by
    unfold sAsgV at hf
    refine lc_all hZ hΦ his σ H _ ?_
    rcases mB_cases hf with ⟨x, h1, rfl⟩ | ⟨pv, ρ1, h1, h2⟩
    · exact ⟨F, ρ, _, _, E, h1, fun _ e => (by cases e), fun y e => by cases e; exact q2 _ rfl⟩
    · refine ⟨F, ρ, _, _, E, h1, fun pv' e F1 v H1 g1 E1 hv => ?_, fun y e => by cases e⟩
      cases e
      obtain ⟨d, hd, h3⟩ := mO_some h2
      obtain ⟨F2, g2, E2, hr⟩ := hv.frz E1 hd
      cases h3
      exact q1 _ rfl F2 _ H1 (g1.trans g2) (put_any E2 hr)

/-! ### defaults that are flat -/
/-- a call with defaults: they are put behind the arguments -/
def Flats : List D → List V → Prop
  | [], [] => True
  | d :: ds, v :: vs => d.flat = some v ∧ Flats ds vs
  | _, _ => False
theorem Flats.reps {K : PySem.W.Frag} {F : Hp} : ∀ {ds : List D} {vs : List V}, Flats ds vs → Reps K G F ds vs
  | [], [], _ => .nil
  | d :: ds, v :: vs, ⟨h, t⟩ => .cons (by
    cases d with
    | non => cases h; exact .non
    | bl b => cases h; exact .bl b
    | int i => cases h; exact .int i
    | str x => cases h; exact .str x
    | _ => cases h) t.reps
  | [], _ :: _, h => h.elim
  | _ :: _, [], h => h.elim
def eMakeD (c n : Nat) (den : Den) (dfl : List D) (f : M (List Ag)) : M PV := mB f fun as => mB (mO (Ag.ds as)) fun ds => makeV c n den (ds ++ dfl)
theorem run_makeD {CX : CXT} {k : Nat} {f C : Addr} {fd : FuncData} {ps : List Str} {sp : Sp} {E : L2.St → XK} {pins : List (Addr × Obj)} {σ : L2.St} {H : Hp} {s : Shared} {Q : VK} {us ds : List Value} {vs dvs : List V} (M : Mk X.K C f) (F : FnOk X.prog X.w X.K X.mg X.base CX k f fd ps sp) (hr : Room (k + 1) X.A) (hb : Binds X.K fd ps ds) (hd : Vals dvs ds)
    (hx : ∀ σ, PassesAt CX X σ (E σ)) (I : Inv X pins σ H s) (r : Vals vs us)
    (h : ∀ x dx, H x = none → H dx = none → dx ≠ x → sp (.ref x :: (vs ++ dvs)) (upd (upd H dx (.own x)) x (.ins C dx [])) (fun v H2 => v = .non ∧ Q (.ref x) H2) (E σ)) : wpAny (model X.prog X.w) X.A (call (.ref C) us) (EP X pins σ Q) X.xe s := by
  have hq := h _ _ (I.hok.fresh (Nat.le_succ _)) (I.hok.fresh (Nat.le_refl _)) (Nat.ne_of_lt (Nat.lt_succ_self _))
  have J := Inv.made (C := C) I
  have r2 : Vals (V.ref (s.heap.objs.size + 1) :: (vs ++ dvs)) (Value.ref (s.heap.objs.size + 1) :: (us ++ ds)) := .cons rfl (r.append hd)
  have hl := F.len _ _ _ _ hq
  rw [r2.length] at hl
  have hbind := hb { s with heap := (s.heap.push PySem.W.emptyDict).push (PySem.W.instObj C s.heap.objs.size) } (Value.ref (s.heap.objs.size + 1) :: us) J.kIn hl
  have run := F.run _ X.stack _ _ ⟨Value.ref (s.heap.objs.size + 1) :: us, []⟩ _ _ _ (E σ) (hr.make C us []) (J.env0.make C us []) hbind r2 hq
  refine wpAny_call (make_map (f := f) I.kIn M.makes M.init (beq_iff_eq.mp M.fn) (codeAny_mono run fun res s' z => ?_))
  cases res with
  | error er => exact hx σ pins _ _ er s' J z
  | ok fl =>
    cases fl with
    | ret u =>
      obtain ⟨v, H', I', rv, ev, q⟩ := J.after z
      subst ev
      exact ⟨rv, .ref _, H', I', rfl, q⟩
    | next => exact z.elim
    | brk => exact z.elim
    | cont => exact z.elim
theorem re_makeD {k cc n : Nat} {i : CI} {f : Addr} {fd : FuncData} {ps : List Str} {den : Den} {dfl : List D} {dvs : List V} {dus : List Value} {x : Str} {fa : M (List Ag)} (hi : G cc = some i) (hn : i.names.length = n) (M : Mk X.K i.adr f) (F : DOk X.prog X.w X.K G X.mg X.base k f fd ps den) (hr : Room (k + 1) X.A) (hg : Gl X x) (hm : X.mg x = some (.ref i.adr)) (hb : Binds X.K fd ps dus) (hv : Vals dvs dus) (hfl : Flats dfl dvs)
    (tk : Takes X W) (ha : RA X G Φ W (e :: es) fa) (hdb : (x == ("__debug__" : Str)) = false := by decide) (he : starEach (e :: es) X.env = (false, eval e X.env) :: starEach es X.env := by rfl) (hpl : (backTo pos (starEach es X.env)).any (·.1) = false := by rfl) :
    RE X G Φ W (.Call (.Name x p) (e :: es) [] pos) (eMakeD cc n den dfl fa) := fun Z hZ => by
  refine ⟨fun pins s σ H Q I ⟨F0, ρ, r, ρ', E, hf, q1, q2⟩ => ?_⟩
  refine wpAny_Call_Name_kw (ld_glob I hg hm ?_ hdb)
  unfold eMakeD at hf
  have key : tA X.K G Z W fa σ H (fun vs H1 => ∀ x dx, H1 x = none → H1 dx = none → dx ≠ x → spD X.K G den (.ref x :: (vs ++ dvs)) (upd (upd H1 dx (.own x)) x (.ins i.adr dx [])) (fun v H2 => v = .non ∧ Q (.ref x) H2) (fun cls d H' => W cls d σ H')) := by
    rcases mB_cases hf with ⟨x, h1, rfl⟩ | ⟨as, ρ1, h1, h2⟩
    · exact ⟨F0, ρ, _, _, E, h1, fun _ e => (by cases e), fun y e => by cases e; exact q2 _ rfl⟩
    · refine ⟨F0, ρ, _, _, E, h1, fun as' e F1 vs H1 g1 E1 hv => ?_, fun y e => by cases e⟩
      cases e
      obtain ⟨ds, hd, h3⟩ := mO_some h2
      exact make_core hi hn E1 (Reps.append (ags_reps hv hd) hfl.reps) h3 (fun pv e F' v H' g E' hp => q1 pv e F' v H' (g1.trans g) E' hp) fun x e => (q2 x e).gr g1
  exact PySem.W.callWith_K (h₀ := X.base) I.ok.mod.kin M.kp (thn ((ha Z hZ).run pos pins s σ H _ I key) fun us s1 ⟨vs, H1, I1, r, q⟩ => ⟨I1.kIn, run_makeD (E := fun σ cls d H' => W cls d σ H') M F.fn hr hb hv (fun σ => passAt' tk σ) I1 r q⟩) he hpl
end
end Pl

/-! ### the end of a law -/
namespace Pl
open PySem PySem.Spec L2
open PyProof.Rows hiding St
theorem cx_none {P : Program} {w : World} {H : Hp} {s s' : Shared} {e : Value} (h : L2.CX P w [] H s (fun _ _ _ => False) e s') : False := by
  obtain ⟨_, _, _, _, _, _, _, _, _, _, _, _, z⟩ := h
  exact z
theorem reps_ints {K : PySem.W.Frag} {G : Nat → Option CI} {F : Hp} : ∀ ns : List Int, Reps K G F (ns.map D.int) (ns.map V.int)
  | [] => .nil
  | n :: ns => .cons (.int n) (reps_ints ns)
theorem env_law {K : PySem.W.Frag} {G : Nat → Option CI} {H : Hp} {a : Addr} {ns : List Int} (h : SqL K H a (ns.map V.int)) : EnvOk K G (zoneOf H H none) H (([PV.val (.lst (ns.map D.int))] : List PV).map some) (([.ref a] : List V).map some) H where
  len := rfl
  ext := Gr.rfl
  val := fun i d q => by
    have q := map_at q
    cases i with
    | zero => cases q; exact ⟨.ref a, rfl, .lst h (reps_ints ns)⟩
    | succ i => cases q
  own := fun i o q => by
    have q := map_at q
    cases i with
    | zero => cases q
    | succ i => cases q
  bor := fun i o q => by
    have q := map_at q
    cases i with
    | zero => cases q
    | succ i => cases q
  dis := fun i j o o' l q => by
    have q := map_at q
    cases i with
    | zero => cases q
    | succ i => cases q
  pins := fun i j l h => by
    unfold zoneOf at h
    dsimp only at h
    split at h <;> cases h
  pinh := fun i l h => by
    unfold zoneOf at h
    dsimp only at h
    split at h <;> cases h
  pinH := fun i l h => by
    unfold zoneOf at h
    dsimp only at h
    split at h <;> cases h
  kept := fun a o h _ => h
  grow := fun a o h => .inl h
  gf := Gr.rfl
  adr := fun i o q => by
    have q := map_at q
    cases i with
    | zero => cases q
    | succ i => cases q
/-- K with the objects at as, as they stand in h -/
def withObjs (K : PySem.W.Frag) (h : Heap) (as : List Addr) : PySem.W.Frag := K ++ as.filterMap fun a => (h.get? a).map fun o => (a, o)
theorem lookup_app {α β : Type} [BEq α] (a : α) : ∀ (l r : List (α × β)), (l ++ r).lookup a = (l.lookup a).or (r.lookup a)
  | [], r => by simp
  | (x, y) :: l, r => by
    rw [List.cons_append, List.lookup_cons, List.lookup_cons, lookup_app a l r]
    cases a == x <;> rfl
theorem objs_lookup {h : Heap} {a : Addr} {o : Obj} : ∀ {as : List Addr}, (as.filterMap fun a => (h.get? a).map fun o => (a, o)).lookup a = some o → h.get? a = some o ∧ a ∈ as
  | [], e => by cases e
  | b :: as, e => by
    rw [List.filterMap_cons] at e
    cases hb : h.get? b with
    | none => rw [hb] at e; exact (objs_lookup e).imp id (List.mem_cons_of_mem _)
    | some u =>
      rw [hb] at e
      have e : List.lookup a ((b, u) :: as.filterMap fun a => (h.get? a).map fun o => (a, o)) = some o := e
      rw [List.lookup_cons] at e
      by_cases hab : a = b
      · subst hab
        have e : some u = some o := by simpa using e
        cases e
        exact ⟨hb, List.mem_cons_self⟩
      · have q : (a == b) = false := by simpa using hab
        rw [q] at e
        exact (objs_lookup e).imp id (List.mem_cons_of_mem _)
theorem objs_there {h : Heap} {a : Addr} {o : Obj} (ha : h.get? a = some o) : ∀ {as : List Addr}, a ∈ as → (as.filterMap fun a => (h.get? a).map fun o => (a, o)).lookup a = some o
  | [], m => by cases m
  | b :: as, m => by
    rw [List.filterMap_cons]
    cases hb : h.get? b with
    | none =>
      rcases List.mem_cons.mp m with z | z
      · subst z; rw [ha] at hb; cases hb
      · exact objs_there ha z
    | some u =>
      show List.lookup a ((b, u) :: as.filterMap fun a => (h.get? a).map fun o => (a, o)) = some o
      rw [List.lookup_cons]
      by_cases hab : a = b
      · subst hab
        rw [ha] at hb; cases hb
        simp
      · have q : (a == b) = false := by simpa using hab
        rw [q]
        rcases List.mem_cons.mp m with z | z
        · exact absurd z hab
        · exact objs_there ha z
theorem with_in {K : PySem.W.Frag} {h : Heap} {as : List Addr} (X : K.In h) : (withObjs K h as).In h := fun a o e => by
  unfold withObjs at e
  rw [lookup_app] at e
  cases q : K.lookup a with
  | some u => rw [q] at e; cases e; exact X a _ q
  | none => rw [q] at e; exact (objs_lookup e).1
theorem with_sub {K : PySem.W.Frag} {h base : Heap} {as : List Addr} (X : (withObjs K h as).In base) : K.In base := fun a o e => X a o (by unfold withObjs; rw [lookup_app, e]; rfl)
theorem with_at {K : PySem.W.Frag} {h base : Heap} {as : List Addr} (X : K.In h) (Y : (withObjs K h as).In base) {a : Addr} {o : Obj} (ha : h.get? a = some o) (m : a ∈ as) : base.get? a = some o := Y a o (by
  unfold withObjs
  rw [lookup_app]
  cases q : K.lookup a with
  | some u =>
    have := X a u q
    rw [ha] at this; cases this; rfl
  | none => rw [objs_there ha m]; rfl)
theorem fn_with {P : Program} {w : World} {K K2 : PySem.W.Frag} {mg : Str → Option Value} {base : Heap} {CX : CXT} {k : Nat} {f : Addr} {fd : FuncData} {ps : List Str} {sp : Sp} (h : ∀ b : Heap, K2.In b → K.In b) (F : FnOk P w K mg base CX k f fd ps sp) : FnOk P w K2 mg base CX k f fd ps sp :=
  ⟨F.len, fun A outer s H args us vs Q E hr e => F.run A outer s H args us vs Q E hr ⟨e.frames, ⟨h _ e.mod.kin, e.mod.glob, e.mod.blt, e.mod.nolimit⟩, e.bs, e.bsz, e.funs, e.frf, e.hok, e.bare⟩⟩
theorem seer_base {K : PySem.W.Frag} {h : Heap} (X : K.In h) (N : h.NoSeer) : ∃ as : List Addr, (∀ base : Heap, (withObjs K h as).In base → base.NoSeer) ∧ ∀ (a : Addr) (o : Obj) (its : Array Value) (n : Nat), a ∈ as → h.get? a = some o → o.cls = .type "list" → o.data = .seq its n → False := by
  obtain ⟨mc, ⟨o1, es1, ep1, g1, d1, r1⟩, c1, c2⟩ := N.statics
  obtain ⟨mm, ⟨o2, es2, ep2, g2, d2, r2⟩, m1⟩ := N.mods
  obtain ⟨mb, ⟨o3, es3, ep3, g3, d3, r3⟩, b0⟩ := N.imp
  obtain ⟨mg, bm, ob, ⟨o4, es4, ep4, g4, d4, r4⟩, e1, e2, e3, e4⟩ := N.main
  refine ⟨[cStatics, sysModules, builtinsNs, mainGlobals, bm], fun base Y => ⟨?_, ?_, ?_, ?_⟩, fun a o its n ha hg hc hd => ?_⟩
  · exact ⟨mc, ⟨o1, es1, ep1, with_at X Y g1 (by simp), d1, r1⟩, c1, c2⟩
  · exact ⟨mm, ⟨o2, es2, ep2, with_at X Y g2 (by simp), d2, r2⟩, m1⟩
  · exact ⟨mb, ⟨o3, es3, ep3, with_at X Y g3 (by simp), d3, r3⟩, b0⟩
  · exact ⟨mg, bm, ob, ⟨o4, es4, ep4, with_at X Y g4 (by simp), d4, r4⟩, e1, with_at X Y e2 (by simp), e3, e4⟩
  · simp only [List.mem_cons, List.not_mem_nil, or_false] at ha
    rcases ha with rfl | rfl | rfl | rfl | rfl
    · rw [g1] at hg; cases hg; rw [d1] at hd; cases hd
    · rw [g2] at hg; cases hg; rw [d2] at hd; cases hd
    · rw [g3] at hg; cases hg; rw [d3] at hd; cases hd
    · rw [g4] at hg; cases hg; rw [d4] at hd; cases hd
    · rw [e2] at hg; cases hg
      rw [e3] at hc
      revert hc
      decide +kernel
/-- the law's def, by its function: True at every script -/
theorem walk_law {l : PySem.W.OpenLaw} {q : Program} {loose : List Str} {XP : (Str → Option Value) → Heap → Prop} {YP : World → Heap → Prop} {d : DefRec} {K : Params → PySem.W.Frag} {k : Nat} {den : Den}
    (hn : l.most = some 63) (hdf : d.params.defaults = []) (hr : Room k callerA) (hq : importsNone q = true)
    (hY : ∀ (w : World) (h : Heap), YP w h → (K w.params).In h)
    (F : ∀ (w : World) (mg : Str → Option Value) (fa : Addr) (h : Heap), (K w.params).In h → h.Ns mainGlobals mg → mg d.name = some (.ref fa) →
      ∃ (fd : FuncData) (G : Nat → Option CI), (∀ (s : Shared) (u : Value), BindsTo s fd ⟨[u], []⟩ [("script", u)]) ∧ ∀ base : Heap, (K w.params).In base → base.Ns mainGlobals mg → base.NoSeer → DOk l.prog w (K w.params) G mg base k fa fd ["script"] den)
    (hden : ∀ ns : List Int, ns.length ≤ 63 → (∀ z ∈ ns, Builtin.Int.intBits z ≤ 1048576) → den [.val (.lst (ns.map D.int))] = some (.ok (.val (.bl true)), none)) :
    PySem.W.WalkO q loose XP YP l.row.toRowW d [] (fun f vs => PySem.call f vs) := by
  refine Att.attach_callB hn hdf fun w s₀ s₁ mg mb fa o pm cd doc a vs ns Gd Y ho hd hcd hmg hobj hints hlen hbits hg => ?_
  have KX := hY w _ Y
  obtain ⟨fd, G, hb, hF⟩ := F w mg fa _ KX Gd.T.g hmg
  obtain ⟨as, has, hlist⟩ := seer_base KX (Gd.T.seer hq)
  refine law_call (K := withObjs (K w.params) s₁.heap as) (CX := L2.CX l.prog w) (sp := spD (K w.params) G den) (with_in KX) Gd.T.g Gd.T.b Gd.T.builtins Gd.T.nolimit hg hobj hints (Nat.le_trans hlen (by decide)) hr
    (fun base hK hns => fn_with (fun b => with_sub) (hF base (with_sub hK) hns (has base hK)).fn) hb (fun H hO hS => ?_) fun H e s' h => cx_none h
  have hS' : SqL (K w.params) H a (ns.map V.int) := by
    rcases hS with h | ⟨oo, its, n, h1, h2, h3, h4, h5, h6⟩
    · exact .inl h
    · refine .inr ⟨oo, its, n, ?_, h2, h3, h4, h5, h6⟩
      unfold withObjs at h1
      rw [lookup_app] at h1
      cases q : (K w.params).lookup a with
      | some u => rw [q] at h1; exact h1
      | none =>
        rw [q] at h1
        obtain ⟨z1, z2⟩ := objs_lookup h1
        exact (hlist a oo its n z2 z1 h2 h4).elim
  refine ⟨H, _, none, _, none, env_law hS', hden ns hlen hbits, fun pv e F' v H' g E hv => ?_, fun x e => by cases e⟩
  cases e
  cases (show Rep _ G F' (.bl true) v from hv)
  rfl
end Pl
set_option Elab.async false
set_option linter.all false
set_option maxRecDepth 100000
set_option maxHeartbeats 2000000
namespace Pl
open PySem PySem.W PySem.Calls
section
variable {prog : Program} {w : World} {A : Around} {E : Value → Shared → Prop} {s : Shared} {K : Frag} {x C L f : Addr} {h₀ : Heap} {m : Str → Option Value} {ox : Obj} {od : Option Obj} {b tb : Value}
/-- x != b by object's own __ne__ over an own __eq__ -/
theorem try_ne {Q : Option Value → Shared → Prop} (hu : A.units + 1 < cLine) (X : K.In s.heap) (I : InstAt s.heap x ox C od) (hne : findIn K (.ref C) "__ne__" = some (some (.builtin "object.__ne__"))) (hs : findIn K (.ref C) "__eq__" = some (some (.ref f))) (hf : isFn K (.ref f) = true)
    (ho : subIn K (.ref C) (.type "object") = some true) (h : wpAny (model prog w) A.in1 (call (.ref f) [.ref x, b]) (fun v s' => ∃ k, v = .bool k ∧ Q (some (.bool (!k))) s') E s) :
    wpAny (model prog w) A (tryCompare (.ref x) "__ne__" b) Q E s := by
  have fin : wpAny (model prog w) A (call (.builtin "object.__ne__") ([.ref x] ++ [b]) >>= fun v => pure (some v)) (fun r s' => ∃ k, r = some (.bool (!k)) ∧ Q (some (.bool (!k))) s') E s := by
    refine wpAny_bind (wpAny_call (codeAny_call_builtin F.slot_object_ne.plain F.cmpEntry_ne ?_))
    refine @check_slot (model prog w) _ _ s "object.__ne__" "object" "__ne__" (.ref x) [b] [] _ F.cmpKind_ne F.cmpSplit_ne (I.type.andThen (looks_subIn X ho)) (F.cmpArgs_ne _ _) ?_
    unfold Builtin.«object.__ne__»
    refine wpAny_bind (wpAny_of_eq (a := ((Value.ref x : Value), [b])) (by first | rfl | (simp only [Builtin.slotArgs]; rfl)) ?_)
    dsimp only
    refine wpAny_bind (wpAny_cRoomFor (by show A.units + 1 < cLine; exact hu) ?_)
    refine wpAny_bind (ifBound_K X I hs hf (wpAny_mono h (fun v s' hv => ?_) fun _ _ e => e))
    obtain ⟨k, rfl, q⟩ := hv
    refine wpAny_bind (wpAny_truthy_bool ?_)
    exact wpAny_pure (wpAny_pure ⟨k, rfl, q⟩)
  unfold tryCompare
  refine wpAny_bind ?_
  simp only [callSpecialIfBound?, bindSpecialIfBound?]
  refine wpAny_holding (wpAny_bind (wpAny_bind (wpAny_bind (I.type.here ((looks_findIn X hne).here ?_)))))
  refine wpAny_bind (wpAny_askSetting (wpAny_ite ?_))
  have fin2 : wpAny (model prog w) A (call (.builtin "object.__ne__") ([.ref x] ++ [b]) >>= fun v => pure (some v)) (fun r s' => wpAny (model prog w) A (match r with
      | some .notImplemented | none => pure none
      | some v => pure (some v)) Q E s') E s := wpAny_mono fin (fun r s' ⟨k, e, q⟩ => by subst e; exact wpAny_pure q) fun _ _ e => e
  split
  · exact wpAny_bind (wpAny_of_eq (F.slot_object_ne.bind _) (wpAny_pure (by exact fin2)))
  · exact wpAny_tryCatch (wpAny_bind (wpAny_of_eq (F.slot_object_ne.bind _) (wpAny_pure (by exact fin2))))
theorem ne_own {Q : Value → Shared → Prop} (hu : A.units + 1 < cLine) (F : PyProof.Rows.Fr h₀ L s.heap m) (X₀ : K.In h₀) (I : InstAt s.heap x ox C od) (hb : Looks (model prog w) s.heap (typeOf b) tb) (hn : notFirst K C tb = true)
    (hne : findIn K (.ref C) "__ne__" = some (some (.builtin "object.__ne__"))) (hs : findIn K (.ref C) "__eq__" = some (some (.ref f))) (hf : isFn K (.ref f) = true) (ho : subIn K (.ref C) (.type "object") = some true)
    (h : wpAny (model prog w) A.in1 (call (.ref f) [.ref x, b]) (fun v s' => ∃ k, v = .bool k ∧ Q (.bool (!k)) s') E s) : wpAny (model prog w) A (richCompare .NotEq (.ref x) b) Q E s := by
  have X := X₀.keeps F.keep
  have one : wpAny (model prog w) A (tryCompare (.ref x) (cmpInfo .NotEq).2.1 b) (fun r s' => ∃ v, r = some v ∧ Q v s') E s :=
    try_ne hu X I hne hs hf ho (wpAny_mono h (fun v s' ⟨k, e, q⟩ => ⟨k, e, _, rfl, q⟩) fun _ _ e => e)
  unfold richCompare
  simp only [oneThing_ref]
  refine wpAny_holding (wpAny_bind (wpAny_cRoomFor (Nat.lt_of_succ_lt hu) ?_))
  refine wpAny_bind (I.type.here (wpAny_bind (hb.here ?_)))
  split
  · rename_i q
    have e : subIn K tb (.ref C) = some false := by
      rcases Bool.or_eq_true_iff.mp hn with e | e
      · rw [beq_iff_eq.mp e] at q; simp at q
      · exact beq_iff_eq.mp e
    refine wpAny_bind ((looks_subIn X e).here ?_)
    simp only [Bool.false_eq_true, if_false]
    refine wpAny_bind (wpAny_mono one (fun r s' z => ?_) fun _ _ e => e)
    obtain ⟨v, rfl, hq⟩ := z
    exact wpAny_pure hq
  · refine wpAny_bind (wpAny_pure ?_)
    simp only [Bool.false_eq_true, if_false]
    refine wpAny_bind (wpAny_mono one (fun r s' z => ?_) fun _ _ e => e)
    obtain ⟨v, rfl, hq⟩ := z
    exact wpAny_pure hq
end
end Pl
namespace Pl
open PySem PySem.Spec L2
open PyProof.Rows hiding St
section
variable {X : Cx} {G : Nat → Option CI} {Φ : Zone → Prop} {W : WX} {e a b c : Expr} {es : List Expr} {pos p p' apos : Pos} {st : Stmt} {rest : List Stmt}
/-! ### code that is not come to -/
theorem ri_none : RI X G e (fun _ => none) := ⟨fun _ _ _ _ _ _ ⟨_, _, _, _, _, h, _⟩ => by cases h⟩
theorem re_none : RE X G Φ W e (fun _ => none) := fun _ _ => ⟨fun _ _ _ _ _ _ ⟨_, _, _, _, _, h, _⟩ => by cases h⟩
theorem rt_none : RT X G Φ W e (fun _ => none) := fun _ _ => ⟨fun _ _ _ _ _ _ ⟨_, _, _, _, _, h, _⟩ => by cases h⟩
theorem rs_none : RS X G Φ W st (fun _ => none) := fun _ _ => ⟨fun _ _ _ _ _ _ ⟨_, _, _, _, _, h, _⟩ => by cases h⟩
theorem rb_none : RB X G Φ W rest (fun _ => none) := fun _ _ => ⟨fun _ _ _ _ _ _ ⟨_, _, _, _, _, h, _⟩ => by cases h⟩

/-! ### == and != by an own __eq__: the left side an instance -/
/-- the right side's type, as far as the comparison asks -/
structure CmpC (K : PySem.W.Frag) (G : Nat → Option CI) (C : Addr) : Prop where
  ne : PySem.W.findIn K (.ref C) "__ne__" = some (some (.builtin "object.__ne__"))
  ob : PySem.W.subIn K (.ref C) (.type "object") = some true
  other : ∀ d t, tyD G d = some t → PySem.W.notFirst K C t = true
theorem ty_looks {pins : List (Addr × Obj)} {σ : L2.St} {H F : Hp} {s : Shared} {d : D} {v : V} {u t : Value} (I : Inv X pins σ H s) (hp : Pk X.K G F H d v) (r : RelV v u) (ht : tyD G d = some t) : PySem.W.Looks (model X.prog X.w) s.heap (typeOf u) t := by
  cases d with
  | non => cases ht; cases pk_non hp; cases r; exact PySem.W.Looks.of_pure rfl
  | bl b => cases ht; cases pk_bl hp; cases r; exact PySem.W.Looks.of_pure rfl
  | int i => cases ht; cases pk_int hp; obtain ⟨t, rfl⟩ := r; exact PySem.W.Looks.of_pure rfl
  | str x => cases ht; cases pk_str hp; obtain ⟨t, rfl⟩ := r; exact PySem.W.Looks.of_pure rfl
  | tup ds =>
    cases ht
    obtain ⟨a, vs, rfl, hs, _⟩ := hp
    cases r
    obtain ⟨its, _, ⟨o, ho, hc, _⟩, _⟩ := I.tuple hs
    exact fun A Q E s' k q => wpAny_typeOf_ref (k _ _ ho) (by rw [hc]; exact q)
  | lst ds =>
    cases ht
    obtain ⟨a, vs, rfl, hs, _⟩ := hp
    cases r
    obtain ⟨its, _, ⟨o, n, ho, hc, _⟩, _⟩ := I.list hs
    exact fun A Q E s' k q => wpAny_typeOf_ref (k _ _ ho) (by rw [hc]; exact q)
  | dct ks ds =>
    cases ht
    obtain ⟨a, vs, rfl, hs, _⟩ := hp
    cases r
    obtain ⟨_, _, us, _, o, es, ep, ho, hx⟩ := (show ObjOk X.prog X.w H s.heap a (.dK (ks.zip vs)) from I.hok a _ hs)
    exact fun A Q E s' k q => wpAny_typeOf_ref (k _ _ ho) (by rw [hx.1.1]; exact q)
  | obj c ds =>
    obtain ⟨a, i, dx, vs, rfl, hi, hs, _⟩ := hp
    cases r
    unfold tyD at ht
    dsimp only at ht
    split at ht
    · rw [hi] at ht; cases ht
      obtain ⟨mA, J, _⟩ := ins_get I.hok hs
      obtain ⟨od, J, _⟩ := J.look
      exact J.type
    · cases ht

def rEqO (X : Cx) (neg : Bool) (C : Addr) (sp : Sp) : R2 := fun x y H Q => ∃ a dx fs, x = .ref a ∧ H a = some (.ins C dx fs) ∧ (∃ t, PySem.W.notFirst X.K C t = true ∧ ∀ (pins : List (Addr × Obj)) (σ : L2.St) (s : Shared) (u : Value), Inv X pins σ H s → RelV y u → PySem.W.Looks (model X.prog X.w) s.heap (typeOf u) t) ∧
  sp [x, y] H (fun v H' => ∃ k, v = .bl k ∧ Q (.bl (xor neg k)) H') E0
theorem op_eqO {k : Nat} {f C : Addr} {fd : FuncData} {ps : List Str} {sp : Sp} (hM : Meth X.K C "__eq__" f) (F : FnOk X.prog X.w X.K X.mg X.base (L2.CX X.prog X.w) k f fd ps sp) (hr : Room k X.A) (hb : Binds X.K fd ps []) : OpR X (compareOp .Eq) (rEqO X false C sp) := by
  intro pins s σ H x y v u Q I rx ry ⟨a, dx, fs, e, ea, ⟨t, hn, hl⟩, q⟩
  subst e
  cases rx
  obtain ⟨mA, J, _⟩ := ins_get I.hok ea
  obtain ⟨od, J, _⟩ := J.look
  obtain ⟨m, hF⟩ := I.fr
  refine PySem.W.cmp_K (op := .Eq) (Nat.lt_of_succ_lt (hu_of hr)) hF I.ok.mod.kin J (hl pins σ s u I ry) hn hM.at_ hM.fn ?_
  refine thn (run_fn (us := [.ref a, u]) (vs := [.ref a, y]) (dvs := []) (ds := []) F hr hb .nil passL I (.cons rfl (.cons ry .nil)) q) fun w' s' z => ?_
  obtain ⟨v', H', I', r', k', e', q'⟩ := z
  subst e'
  cases r'
  exact ⟨.bl k', H', I', rfl, by simpa using q'⟩
theorem op_neO {k : Nat} {f C : Addr} {fd : FuncData} {ps : List Str} {sp : Sp} (hC : CmpC X.K G C) (hM : Meth X.K C "__eq__" f) (F : FnOk X.prog X.w X.K X.mg X.base (L2.CX X.prog X.w) k f fd ps sp) (hr : Room (k + 1) X.A) (hb : Binds X.K fd ps []) : OpR X (compareOp .NotEq) (rEqO X true C sp) := by
  intro pins s σ H x y v u Q I rx ry ⟨a, dx, fs, e, ea, ⟨t, hn, hl⟩, q⟩
  subst e
  cases rx
  obtain ⟨mA, J, _⟩ := ins_get I.hok ea
  obtain ⟨od, J, _⟩ := J.look
  obtain ⟨m, hF⟩ := I.fr
  refine ne_own (hu_of hr) hF I.ok.mod.kin J (hl pins σ s u I ry) hn hC.ne hM.at_ hM.fn hC.ob ?_
  have hlen := F.len _ _ _ _ q
  have r2 : Vals [V.ref a, y] [Value.ref a, u] := .cons rfl (.cons ry .nil)
  have hbind := hb s [.ref a, u] I.kIn (by rw [List.append_nil, ← r2.length]; exact hlen)
  rw [List.append_nil] at hbind
  refine wpAny_call (codeAny_mono (F.run X.A.in1 X.stack s H ⟨[.ref a, u], []⟩ [.ref a, u] [.ref a, y] _ E0 hr.in1 I.env0.in1 hbind r2 q) fun res s' z => ?_)
  cases res with
  | error er => exact (passL (X := X) pins σ H s er s' I z : X.xe er s')
  | ok fl =>
    cases fl with
    | ret w' =>
      obtain ⟨v', H', I', r', k', e', q'⟩ := I.after z
      subst e'
      cases r'
      exact ⟨k', rfl, .bl (!k'), H', I', rfl, by simpa using q'⟩
    | next => exact z.elim
    | brk => exact z.elim
    | cont => exact z.elim
/-- x == y, x != y by the own __eq__, which raises nothing -/
def eEqO (neg : Bool) (c : Nat) (den : Den) (fa fb : M PV) : M PV := mB fa fun p1 => mB (mO (recv c p1)) fun cs => mB fb fun p2 => mB (mO p2.tree) fun y ρ => match den [.val (.obj c cs), .val y] with
  | some (.ok (.val (.bl k)), none) => some (.ok (.val (.bl (xor neg k))), ρ)
  | _ => none
theorem tE_eqO {Z : Zone} {neg : Bool} {c : Nat} {i : CI} {den : Den} {fa fb : M PV} (hi : G c = some i) (hC : CmpC X.K G i.adr) (hty : ∀ cs y r, den [.val (.obj c cs), .val y] = some r → (tyD G y).isSome = true) :
    ∀ σ H Q, tE X.K G Z W (eEqO neg c den fa fb) σ H Q → tOp (rEqO X neg i.adr (spD X.K G den)) (tE X.K G Z W fa) (tE X.K G Z W fb) σ H Q := fun σ H Q ⟨F, ρ, r, ρ', E, hf, q1, q2⟩ => by
  unfold eEqO at hf
  rcases mB_cases hf with ⟨x, h1, rfl⟩ | ⟨pv, ρ1, h1, h2⟩
  · exact ⟨F, ρ, _, _, E, h1, fun _ e => (by cases e), fun y e => by cases e; exact q2 _ rfl⟩
  · refine ⟨F, ρ, _, _, E, h1, fun pv' e F1 v H1 g1 E1 hv => ?_, fun y e => by cases e⟩
    cases e
    obtain ⟨cs, hcs, h3⟩ := mO_some h2
    cases recv_some hcs
    have hr : Rep X.K G F1 (.obj c cs) v := hv
    rcases mB_cases h3 with ⟨x, h4, rfl⟩ | ⟨pv2, ρ2, h4, h5⟩
    · exact ⟨F1, ρ1, _, _, E1, h4, fun _ e => (by cases e), fun y e => by cases e; exact (q2 _ rfl).gr g1⟩
    · refine ⟨F1, ρ1, _, _, E1, h4, fun as' e F3 v2 H3 g3 E3 hv2 => ?_, fun y e => by cases e⟩
      cases e
      obtain ⟨y, hy, h6⟩ := mO_some h5
      obtain ⟨F4, g4, E4, hr2⟩ := hv2.frz E3 hy
      have hr4 := Rep.gr (g3.trans g4) hr
      obtain ⟨a, dx, fs, e1, e2⟩ := rep_ins E4.ext hi hr4
      split at h6
      · rename_i k hden
        cases h6
        have hsome := hty cs y _ hden
        obtain ⟨t, ht⟩ := Option.isSome_iff_exists.mp hsome
        refine ⟨a, dx, fs, e1, e2, ⟨t, hC.other y t ht, fun pins σ' s u I ru => ty_looks I (hr2.pk E4.ext) ru ht⟩, ?_⟩
        refine ⟨F4, _, none, _, none, args_vals E4 (.cons hr4 (.cons hr2 .nil)), hden, fun pv e F' w H' g E' hw => ?_, fun x e => by cases e⟩
        cases e
        cases (show Rep X.K G F' (.bl k) w from hw)
        exact ⟨k, rfl, q1 _ rfl F' _ H' (((g1.trans g3).trans g4).trans g) (E4.back g E') (.bl _)⟩
      · cases h6
theorem re_eqO {k cc : Nat} {i : CI} {f : Addr} {fd : FuncData} {ps : List Str} {den : Den} {fa fb : M PV} (hi : G cc = some i) (hC : CmpC X.K G i.adr) (hty : ∀ cs y r, den [.val (.obj cc cs), .val y] = some r → (tyD G y).isSome = true) (hM : Meth X.K i.adr "__eq__" f) (F : DOk X.prog X.w X.K G X.mg X.base k f fd ps den) (hr : Room (k + 1) X.A) (hb : Binds X.K fd ps [])
    (ha : RE X G Φ W a fa) (hb' : RE X G Φ W b fb) : RE X G Φ W (.Compare a [.Eq] [b] pos) (eEqO false cc den fa fb) := fun Z hZ =>
  PE.lo (pe_cmpR (op_eqO hM F.fn (hr.mono (Nat.le_succ _)) hb) (ha Z hZ) (hb' Z hZ) (nomark _)) (tE_eqO hi hC hty)
theorem re_neO {k cc : Nat} {i : CI} {f : Addr} {fd : FuncData} {ps : List Str} {den : Den} {fa fb : M PV} (hi : G cc = some i) (hC : CmpC X.K G i.adr) (hty : ∀ cs y r, den [.val (.obj cc cs), .val y] = some r → (tyD G y).isSome = true) (hM : Meth X.K i.adr "__eq__" f) (F : DOk X.prog X.w X.K G X.mg X.base k f fd ps den) (hr : Room (k + 1) X.A) (hb : Binds X.K fd ps [])
    (ha : RE X G Φ W a fa) (hb' : RE X G Φ W b fb) : RE X G Φ W (.Compare a [.NotEq] [b] pos) (eEqO true cc den fa fb) := fun Z hZ =>
  PE.lo (pe_cmpR (op_neO hC hM F.fn hr hb) (ha Z hZ) (hb' Z hZ) (nomark _)) (tE_eqO hi hC hty)

/-! ### == of data without instances -/
mutual
def D.data : D → Option PyData
  | .non => some .none
  | .bl b => some (.bool b)
  | .int i => some (.int i)
  | .str x => some (.str x)
  | .tup ds => (datas ds).map .tuple
  | .lst ds => (datas ds).map .list
  | .dct _ _ => none
  | .obj _ _ => none
def datas : List D → Option (List PyData)
  | [] => some []
  | d :: ds => match D.data d, datas ds with
    | some x, some xs => some (x :: xs)
    | _, _ => none
end
mutual
theorem rep_dp {K : PySem.W.Frag} {F : Hp} : ∀ {d : D} {v : V} {x : PyData}, Rep K G F d v → d.data = some x → Dp K F v x
  | .non, _, _, h, e => by cases h; simp only [D.data, Option.some.injEq] at e; subst e; exact .non
  | .bl b, _, _, h, e => by cases h; simp only [D.data, Option.some.injEq] at e; subst e; exact .bl b
  | .int i, _, _, h, e => by cases h; simp only [D.data, Option.some.injEq] at e; subst e; exact .int i
  | .str x, _, _, h, e => by cases h; simp only [D.data, Option.some.injEq] at e; subst e; exact .str x
  | .tup ds, _, _, h, e => by
    cases h with
    | tup hs hr =>
      rw [D.data] at e
      cases q : datas ds with
      | none => rw [q] at e; cases e
      | some xs => rw [q] at e; cases e; exact .tup hs (reps_dp hr q)
  | .lst ds, _, _, h, e => by
    cases h with
    | lst hs hr =>
      rw [D.data] at e
      cases q : datas ds with
      | none => rw [q] at e; cases e
      | some xs => rw [q] at e; cases e; exact .lst hs (reps_dp hr q)
  | .dct _ _, _, _, h, e => by rw [D.data] at e; cases e
  | .obj _ _, _, _, h, e => by rw [D.data] at e; cases e
theorem reps_dp {K : PySem.W.Frag} {F : Hp} : ∀ {ds : List D} {vs : List V} {xs : List PyData}, Reps K G F ds vs → datas ds = some xs → DpAll K F vs xs
  | [], _, _, .nil, e => by rw [datas] at e; cases e; exact .nil
  | d :: ds, _, _, .cons h t, e => by
    rw [datas] at e
    split at e
    · cases e
      exact .cons (rep_dp h ‹_›) (reps_dp t ‹_›)
    · cases e
end
mutual
theorem dp_gr {K : PySem.W.Frag} {H H' : Hp} (g : Gr H H') : ∀ {v : V} {x : PyData}, Dp K H v x → Dp K H' v x
  | _, _, .non => .non
  | _, _, .bl b => .bl b
  | _, _, .int i => .int i
  | _, _, .str x => .str x
  | _, _, .lst h r => .lst (g.sqL h) (dpall_gr g r)
  | _, _, .tup h r => .tup (g.sqT h) (dpall_gr g r)
theorem dpall_gr {K : PySem.W.Frag} {H H' : Hp} (g : Gr H H') : ∀ {vs : List V} {xs : List PyData}, DpAll K H vs xs → DpAll K H' vs xs
  | _, _, .nil => .nil
  | _, _, .cons h r => .cons (dp_gr g h) (dpall_gr g r)
end
theorem pk_dp {K : PySem.W.Frag} {F H : Hp} (g : Gr F H) {d : D} {v : V} {x : PyData} (h : Pk K G F H d v) (e : d.data = some x) : Dp K H v x := by
  cases d with
  | non => exact dp_gr g (rep_dp (show Rep K G F _ v from h) e)
  | bl b => exact dp_gr g (rep_dp (show Rep K G F _ v from h) e)
  | int i => exact dp_gr g (rep_dp (show Rep K G F _ v from h) e)
  | str i => exact dp_gr g (rep_dp (show Rep K G F _ v from h) e)
  | tup ds =>
    obtain ⟨a, vs, rfl, hs, hr⟩ := h
    rw [D.data] at e
    cases q : datas ds with
    | none => rw [q] at e; cases e
    | some xs => rw [q] at e; cases e; exact .tup hs (dpall_gr g (reps_dp hr q))
  | lst ds =>
    obtain ⟨a, vs, rfl, hs, hr⟩ := h
    rw [D.data] at e
    cases q : datas ds with
    | none => rw [q] at e; cases e
    | some xs => rw [q] at e; cases e; exact .lst hs (dpall_gr g (reps_dp hr q))
  | dct ks ds => rw [D.data] at e; cases e
  | obj c ds => rw [D.data] at e; cases e
def dEqD (neg : Bool) (x y : D) : Option D := match x.data, y.data with
  | some a, some b => if SeqAt.shaped a && SeqAt.shaped b then some (.bl (xor neg (PyData.eqv a b))) else none
  | _, _ => none
theorem opi_eqD : OpI X G (rEqD X.K) (dEqD false) := fun Z F ρ σ H x y d u v Q E h hu hv q => by
  unfold dEqD at h
  split at h
  · split at h
    · rename_i hs
      rw [Bool.and_eq_true] at hs
      cases h
      exact ⟨_, _, pk_dp E.ext hu ‹_›, pk_dp E.ext hv ‹_›, hs.1, hs.2, by have := q _ (.bl _); simpa using this⟩
    · cases h
  · cases h
theorem opi_neD : OpI X G (rNeD X.K) (dEqD true) := fun Z F ρ σ H x y d u v Q E h hu hv q => by
  unfold dEqD at h
  split at h
  · split at h
    · rename_i hs
      rw [Bool.and_eq_true] at hs
      cases h
      exact ⟨_, _, pk_dp E.ext hu ‹_›, pk_dp E.ext hv ‹_›, hs.1, hs.2, by have := q _ (.bl _); simpa using this⟩
    · cases h
  · cases h
theorem units_of {A : Around} {k : Nat} (hr : Room k A) : A.units + 64 < cLine := by have := hr.un; omega
end
end Pl
namespace Pl
open PySem PySem.Spec L2
open PyProof.Rows hiding St
/-! ### a def by its body's own function -/
def lentB : List PV → Bool
  | [] => true
  | .val _ :: r => r.all fun | .val _ => true | _ => false
  | .bor _ :: r => r.all fun | .val _ => true | _ => false
  | _ :: _ => false
def denB (n N : Nat) (f : M Fl) : Den := fun as => if lentB as = true then denOf n N f as else none
theorem lentB_ok : ∀ {as : List PV}, lentB as = true → Lent as := by
  have tail : ∀ {r : List PV}, (r.all fun | .val _ => true | _ => false) = true → ∀ (i : Nat) (p : PV), r[i]? = some p → ∃ d, p = .val d := fun {r} h i p q => by
    have := List.all_eq_true.mp h p (List.mem_of_getElem? q)
    cases p with
    | val d => exact ⟨d, rfl⟩
    | _ => cases this
  intro as h
  cases as with
  | nil => exact ⟨fun i o h => by simp at h, fun i o h => by simp at h, fun i o h => by simp at h⟩
  | cons a r =>
    have key : (∀ o, a ≠ .own o) ∧ (∀ o, a ≠ .adr o) ∧ (r.all fun | .val _ => true | _ => false) = true := by
      cases a with
      | val d => exact ⟨fun o z => (by cases z), fun o z => (by cases z), h⟩
      | bor d => exact ⟨fun o z => (by cases z), fun o z => (by cases z), h⟩
      | own d => cases h
      | adr d => cases h
    obtain ⟨k1, k2, k3⟩ := key
    refine ⟨fun i o q => ?_, fun i o q => ?_, fun i o q => ?_⟩
    · cases i with
      | zero => rfl
      | succ i =>
        rw [List.getElem?_cons_succ] at q
        obtain ⟨d, e⟩ := tail k3 i _ q
        cases e
    · cases i with
      | zero => rw [List.getElem?_cons_zero] at q; exact k1 o (Option.some.inj q)
      | succ i =>
        rw [List.getElem?_cons_succ] at q
        obtain ⟨d, e⟩ := tail k3 i _ q
        cases e
    · cases i with
      | zero => rw [List.getElem?_cons_zero] at q; exact k2 o (Option.some.inj q)
      | succ i =>
        rw [List.getElem?_cons_succ] at q
        obtain ⟨d, e⟩ := tail k3 i _ q
        cases e
section
variable {P : Program} {w : World} {K : PySem.W.Frag} {G : Nat → Option CI} {mg : Str → Option Value} {base : Heap}
theorem tk_def {N : List Str} {qual : Str} {scope : Scope} {f : Addr} {cd : Value} {A : Around} {outer : List Env} {s : Shared} {H : Hp} {E : XK} : Takes (cxOf (L2.CX P w) P w K mg base N qual scope f cd A outer s H E) (fun cls d _ H => E cls d H) := takes_of rfl rfl rfl rfl
theorem po_def {N : List Str} {qual : Str} {scope : Scope} {f : Addr} {cd : Value} {A : Around} {outer : List Env} {s : Shared} {H : Hp} {E : XK} : PassesOwn (model (cxOf (L2.CX P w) P w K mg base N qual scope f cd A outer s H E).prog (cxOf (L2.CX P w) P w K mg base N qual scope f cd A outer s H E).w) (cxOf (L2.CX P w) P w K mg base N qual scope f cd A outer s H E).A (cxOf (L2.CX P w) P w K mg base N qual scope f cd A outer s H E).env (cxOf (L2.CX P w) P w K mg base N qual scope f cd A outer s H E).xe := passes_of rfl
end
end Pl
/-! # Alternatives; defs by their own function, with a fixed record; isinstance by a table -/
set_option maxRecDepth 100000
namespace Pl
open PySem PySem.Spec L2
open PyProof.Rows hiding St
section
variable {X : Cx} {G : Nat → Option CI} {Φ : Zone → Prop} {W : WX} {e a b c : Expr} {es : List Expr} {pos p p' apos : Pos} {st : Stmt} {rest : List Stmt}
/-! ### two ways to run one text -/
def alt {α : Type} (f g : M α) : M α := fun ρ => match f ρ with
  | none => g ρ
  | r => r
theorem alt_cases {α : Type} {f g : M α} {ρ : En} {r : Except Ex α × En} (h : alt f g ρ = some r) : f ρ = some r ∨ g ρ = some r := by
  unfold alt at h
  split at h
  · exact .inr h
  · exact .inl h
theorem alt_l {α : Type} {f g : M α} {ρ : En} {r : Except Ex α × En} (h : f ρ = some r) : alt f g ρ = some r := by unfold alt; rw [h]
theorem alt_r {α : Type} {f g : M α} {ρ : En} (h : f ρ = none) : alt f g ρ = g ρ := by unfold alt; rw [h]
theorem PE.or {t t' : TE} (h : PE X e t) (h' : PE X e t') : PE X e (fun σ H Q => t σ H Q ∨ t' σ H Q) :=
  ⟨fun pins s σ H Q I q => q.elim (fun z => h.run pins s σ H Q I z) fun z => h'.run pins s σ H Q I z⟩
theorem re_alt {f g : M PV} (h : RE X G Φ W e f) (h' : RE X G Φ W e g) : RE X G Φ W e (alt f g) := fun Z hZ =>
  PE.lo (PE.or (h Z hZ) (h' Z hZ)) fun σ H Q ⟨F, ρ, r, ρ', E, q, k1, k2⟩ => (alt_cases q).elim (fun z => .inl ⟨F, ρ, r, ρ', E, z, k1, k2⟩) fun z => .inr ⟨F, ρ, r, ρ', E, z, k1, k2⟩
end
/-! ### defs -/
/-- the record of a def as the top has written it; dvs its defaults -/
def FnT (K : PySem.W.Frag) (x qual : Str) (st : Stmt) (f : Addr) (ps : List Str) (dvs : List V) : Prop :=
  ∃ fd dus, FunD K x qual (defArgs st) (defBody st) (defScope st) dvs [] f fd ∧ Binds K fd ps [] ∧ Vals dvs dus ∧ Binds K fd ps dus
section
variable {K : PySem.W.Frag} {x qual : Str} {st : Stmt} {f : Addr} {ps : List Str} {oc : Value} {od an : Option Addr} {osl : Array (Option Value)} {kV doc pm cdv ct : Value}
theorem fnt_mk (l : K.lookup f = some ⟨oc, od, .func (PySem.W.fnOf x qual (defArgs st) (defBody st) (defScope st) .none kV doc pm an cdv ct), osl⟩)
    (c : PySem.W.codeIn K cdv qual = true) (k : PySem.W.keepIn K (.ref f) = true)
    (h : ∀ (kV doc pm : Value) (an : Option Addr) (cdv ct : Value) (us : List Value), us.length = ps.length → bindArgs (PySem.W.fnOf x qual (defArgs st) (defBody st) (defScope st) .none kV doc pm an cdv ct) ⟨us, []⟩ = pure (ps.zip us)) : FnT K x qual st f ps [] :=
  have F : FunD K x qual (defArgs st) (defBody st) (defScope st) [] [] f _ := ⟨⟨oc, od, .none, kV, doc, pm, an, cdv, ct, osl, rfl, l, c, .inl ⟨rfl, rfl⟩, .inl rfl⟩, k⟩
  ⟨_, [], F, F.bindsN h, .nil, F.bindsN h⟩
theorem vals_nil {us : List Value} (h : Vals [] us) : us = [] := by cases h; rfl
theorem fnt_mkD {T : Addr} {tc : Value} {td : Option Addr} {its : List Value} {tn : Nat} {tsl : Array (Option Value)} {dvs : List V} (hd : dvs ≠ []) (hn : dvs.length ≤ ps.length) (l : K.lookup f = some ⟨oc, od, .func (PySem.W.fnOf x qual (defArgs st) (defBody st) (defScope st) (.ref T) kV doc pm an cdv ct), osl⟩)
    (c : PySem.W.codeIn K cdv qual = true) (k : PySem.W.keepIn K (.ref f) = true) (lT : K.lookup T = some ⟨tc, td, .seq its.toArray tn, tsl⟩) (hv : Vals dvs its)
    (h : ∀ (T : Addr) (kV doc pm : Value) (an : Option Addr) (cdv ct : Value) (us its : List Value), us.length = ps.length → its.length = dvs.length →
      ∃ k, bindArgs (PySem.W.fnOf x qual (defArgs st) (defBody st) (defScope st) (.ref T) kV doc pm an cdv ct) ⟨us, []⟩ = seqItems? (.ref T) >>= k ∧ k (some its.toArray) = pure (ps.zip (us ++ its.drop dvs.length)))
    (h' : ∀ (T : Addr) (kV doc pm : Value) (an : Option Addr) (cdv ct : Value) (us its : List Value), us.length = ps.length - dvs.length → its.length = dvs.length →
      ∃ k, bindArgs (PySem.W.fnOf x qual (defArgs st) (defBody st) (defScope st) (.ref T) kV doc pm an cdv ct) ⟨us, []⟩ = seqItems? (.ref T) >>= k ∧ k (some its.toArray) = pure (ps.zip (us ++ its.drop 0))) : FnT K x qual st f ps dvs := by
  have F : FunD K x qual (defArgs st) (defBody st) (defScope st) dvs [] f _ := ⟨⟨oc, od, .ref T, kV, doc, pm, an, cdv, ct, osl, rfl, l, c, .inr ⟨hd, T, _, its, tn, rfl, lT, rfl, hv⟩, .inl rfl⟩, k⟩
  obtain ⟨ds, q1, q2⟩ := F.binds1 (ps := ps) ps.length dvs.length hd (by omega) h
  obtain ⟨ds', q1', q2'⟩ := F.binds1 (ps := ps) (ps.length - dvs.length) 0 hd (by omega) h'
  rw [List.drop_length] at q1
  cases vals_nil q1
  exact ⟨_, ds', F, q2, q1', q2'⟩
end
/-- a def that stands, with its bindings -/
def DD (P : Program) (w : World) (K : PySem.W.Frag) (G : Nat → Option CI) (mg : Str → Option Value) (base : Heap) (k : Nat) (f : Addr) (ps : List Str) (den : Den) (dvs : List V) : Prop :=
  ∃ fd dus, DOk P w K G mg base k f fd ps den ∧ Binds K fd ps [] ∧ Vals dvs dus ∧ Binds K fd ps dus ∧ PySem.W.keepIn K (.ref f) = true
section
variable {P : Program} {w : World} {K : PySem.W.Frag} {G : Nat → Option CI} {mg : Str → Option Value} {base : Heap}
theorem DD.mono {j k : Nat} {f : Addr} {ps : List Str} {den : Den} {dvs : List V} (h : DD P w K G mg base j f ps den dvs) (hk : j ≤ k) : DD P w K G mg base k f ps den dvs := by
  obtain ⟨fd, dus, D, b, v, b', kp⟩ := h
  exact ⟨fd, dus, D.mono hk, b, v, b', kp⟩
theorem dok_of {x qual : Str} {st : Stmt} {f : Addr} {fd : FuncData} {N ps : List Str} {k : Nat} {body : M Fl} {dvs : List V} {kws : List (Str × V)} (F : FunD K x qual (defArgs st) (defBody st) (defScope st) dvs kws f fd) (S : FnScope N ps (defScope st))
    (hbody : ∀ (cdv : Value) (A : Around) (outer : List Env) (s : Shared) (H : Hp) (E : XK), Room k (A.deeper (envOfC qual (defScope st) s.heap.objs.size f cdv)) →
      RB (cxOf (L2.CX P w) P w K mg base N qual (defScope st) f cdv A outer s H E) G (fun _ => True) (fun cls d _ H' => E cls d H') (defBody st) body) : DOk P w K G mg base (k + 1) f fd ps (denB ps.length N.length body) := by
  refine d_of F S hbody fun as r h => ?_
  unfold denB at h
  split at h
  · exact ⟨lentB_ok ‹_›, h⟩
  · cases h
theorem dd_of {x qual : Str} {st : Stmt} {f : Addr} {N ps : List Str} {k : Nat} {body : M Fl} {dvs : List V} (hF : FnT K x qual st f ps dvs) (S : FnScope N ps (defScope st))
    (hbody : ∀ (cdv : Value) (A : Around) (outer : List Env) (s : Shared) (H : Hp) (E : XK), Room k (A.deeper (envOfC qual (defScope st) s.heap.objs.size f cdv)) →
      RB (cxOf (L2.CX P w) P w K mg base N qual (defScope st) f cdv A outer s H E) G (fun _ => True) (fun cls d _ H' => E cls d H') (defBody st) body) : DD P w K G mg base (k + 1) f ps (denB ps.length N.length body) dvs := by
  obtain ⟨fd, dus, F, b, v, b'⟩ := hF
  exact ⟨fd, dus, dok_of F S hbody, b, v, b', F.kp⟩
end
/-! ### isinstance by a table -/
inductive Ty where
  | non | bl | int | str | tup | lst | dct | obj (c : Nat)
  deriving DecidableEq
def D.ty : D → Ty
  | .non => .non | .bl _ => .bl | .int _ => .int | .str _ => .str | .tup _ => .tup | .lst _ => .lst | .dct _ _ => .dct | .obj c _ => .obj c
def isT (a b : Ty) : Bool := decide (a = b) || (decide (a = .bl) && decide (b = .int))
def Ty.name : Ty → String
  | .non => "NoneType" | .bl => "bool" | .int => "int" | .str => "str" | .tup => "tuple" | .lst => "list" | .dct => "dict" | .obj _ => ""
def Ty.own : Ty → Option Nat
  | .obj c => some c
  | _ => none
/-- isinstance of a thing, the classes told; n own classes -/
def isD (n : Nat) (us : List Ty) (d : D) : Option Bool := if (d.ty.own.all fun c => decide (c < n)) then some (us.any (isT d.ty)) else none
def Ty.val (G : Nat → Option CI) : Ty → Option Value
  | .obj c => (G c).map fun i => .ref i.adr
  | t => some (.type t.name)
structure GKit (K : PySem.W.Frag) (G : Nat → Option CI) (n : Nat) : Prop where
  le : n ≤ 100
  ex : ∀ c, c < n → ∃ i, G c = some i
  oo : ∀ c c' i i', c < n → c' < n → G c = some i → G c' = some i' → PySem.W.kitOne K (.ref i.adr) (.ref i'.adr) = some (decide (c = c'))
  bo : ∀ c i T, c < n → G c = some i → T ∈ (["NoneType", "bool", "int", "str", "tuple", "list", "dict"] : List String) → PySem.W.kitOne K (.type T) (.ref i.adr) = some false
  ob : ∀ c i T, c < n → G c = some i → T ∈ (["NoneType", "bool", "int", "str", "tuple", "list", "dict"] : List String) → PySem.W.kitOne K (.ref i.adr) (.type T) = some false
theorem name_in (t : Ty) (h : t.own = none) : t.name ∈ (["NoneType", "bool", "int", "str", "tuple", "list", "dict"] : List String) := by cases t <;> first | (cases h; done) | decide
theorem kitB_ty : ∀ a b : Ty, a.own = none → b.own = none → kitB a.name b.name = some (isT a b) := by
  intro a b ha hb
  cases a <;> cases b <;> first | (cases ha; done) | (cases hb; done) | decide +kernel
def Below (n : Nat) (t : Ty) : Prop := ∀ c, t.own = some c → c < n
theorem kit_tab {K : PySem.W.Frag} {G : Nat → Option CI} {n : Nat} (h : GKit K G n) {a b : Ty} (ha : Below n a) (hb : Below n b) : ∃ u v, a.val G = some u ∧ b.val G = some v ∧ PySem.W.kitOne K u v = some (isT a b) := by
  by_cases oa : ∃ c, a = .obj c
  · obtain ⟨c, rfl⟩ := oa
    obtain ⟨i, hi⟩ := h.ex c (ha c rfl)
    by_cases ob : ∃ c', b = .obj c'
    · obtain ⟨c', rfl⟩ := ob
      obtain ⟨i', hi'⟩ := h.ex c' (hb c' rfl)
      refine ⟨_, _, (by show (G c).map _ = _; rw [hi]; rfl), (by show (G c').map _ = _; rw [hi']; rfl), ?_⟩
      rw [h.oo c c' i i' (ha c rfl) (hb c' rfl) hi hi']
      by_cases e : c = c'
      · subst e; simp [isT]
      · simp [isT, e]
    · have hb0 : b.own = none := by cases b <;> first | rfl | exact absurd ⟨_, rfl⟩ ob
      refine ⟨_, .type b.name, (by show (G c).map _ = _; rw [hi]; rfl), (by cases b <;> first | rfl | cases hb0), ?_⟩
      rw [h.ob c i _ (ha c rfl) hi (name_in b hb0)]
      cases b <;> first | rfl | cases hb0
  · have ha0 : a.own = none := by cases a <;> first | rfl | exact absurd ⟨_, rfl⟩ oa
    by_cases ob : ∃ c', b = .obj c'
    · obtain ⟨c', rfl⟩ := ob
      obtain ⟨i', hi'⟩ := h.ex c' (hb c' rfl)
      refine ⟨.type a.name, _, (by cases a <;> first | rfl | cases ha0), (by show (G c').map _ = _; rw [hi']; rfl), ?_⟩
      rw [h.bo c' i' _ (hb c' rfl) hi' (name_in a ha0)]
      cases a <;> first | rfl | cases ha0
    · have hb0 : b.own = none := by cases b <;> first | rfl | exact absurd ⟨_, rfl⟩ ob
      exact ⟨.type a.name, .type b.name, (by cases a <;> first | rfl | cases ha0), (by cases b <;> first | rfl | cases hb0), kit_ty (kitB_ty a b ha0 hb0)⟩
theorem ty_val {K : PySem.W.Frag} {G : Nat → Option CI} {n : Nat} (h : GKit K G n) {d : D} (hd : Below n d.ty) : tyD G d = d.ty.val G := by
  cases d <;> first | rfl | skip
  rename_i c ds
  have hc : c < 100 := Nat.lt_of_lt_of_le (hd c rfl) h.le
  show (if c < 100 then (G c).map fun i => Value.ref i.adr else none) = (G c).map fun i => Value.ref i.adr
  rw [if_pos hc]
theorem isF_of {K : PySem.W.Frag} {G : Nat → Option CI} {n : Nat} (h : GKit K G n) : ∀ {ts : List Ty} {us : List Value}, Paired (fun t u => Below n t ∧ Ty.val G t = some u) ts us → IsF K G us (isD n ts) := by
  intro ts us hp d b hb
  unfold isD at hb
  split at hb
  · rename_i hd
    have hd' : Below n d.ty := fun c hc => by rw [hc] at hd; simpa using hd
    cases hb
    have hex : ∃ u, tyD G d = some u := by
      obtain ⟨u, v, e, _, _⟩ := kit_tab h hd' hd'
      exact ⟨u, (ty_val h hd').trans e⟩
    obtain ⟨u, hu⟩ := hex
    refine ⟨u, hu, ?_⟩
    induction hp with
    | nil => rfl
    | cons hq _ ih =>
      rename_i t v ts vs _
      obtain ⟨q1, q2⟩ := hq
      obtain ⟨u', v', e1, e2, e3⟩ := kit_tab h hd' q1
      have e4 : u' = u := by rw [← ty_val h hd', hu] at e1; exact (Option.some.inj e1).symm
      have e5 : v' = v := by rw [q2] at e2; exact (Option.some.inj e2).symm
      subst e4
      subst e5
      rw [List.any_cons]
      refine kitAny_cons e3 (fun z => ?_) (fun z => ?_)
      · rw [z, Bool.false_or]; exact ih
      · rw [z, Bool.true_or]
  · cases hb
section
variable {X : Cx} {G : Nat → Option CI} {Φ : Zone → Prop} {W : WX} {e a b c : Expr} {es : List Expr} {pos p p' apos : Pos} {st : Stmt} {rest : List Stmt}
/-! ### comparisons as tests -/
theorem tU_test {K : PySem.W.Frag} {f : Inr} : ∀ σ H Q, tU K G (uOf f) σ H Q → tTest (tI K G f) σ H Q := fun σ H Q ⟨Z, F, ρ, b, E, hf, q⟩ => by
  unfold uOf at hf
  split at hf
  · cases hf
    refine ⟨Z, F, ρ, _, E, ‹_›, fun v hv => ?_⟩
    cases hv
    exact ⟨_, rfl, q⟩
  · cases hf
theorem tT_test {K : PySem.W.Frag} {Z : Zone} {f : M PV} : ∀ σ H Q, tT K G Z W (bVal f) σ H Q → tTest (tE K G Z W f) σ H Q := fun σ H Q ⟨F, ρ, r, ρ', E, hf, q1, q2⟩ => by
  unfold bVal at hf
  rcases mB_cases hf with ⟨x, h1, rfl⟩ | ⟨pv, ρ1, h1, h2⟩
  · exact ⟨F, ρ, _, _, E, h1, fun _ e => (by cases e), fun y e => by cases e; exact q2 _ rfl⟩
  · refine ⟨F, ρ, _, _, E, h1, fun pv' e F1 v H1 g1 E1 hv => ?_, fun y e => by cases e⟩
    cases e
    split at h2
    · cases h2
      cases (show Rep K G F1 (.bl _) v from hv)
      exact ⟨_, rfl, q1 _ rfl F1 H1 g1 E1⟩
    · cases h2
theorem ru_cmp {op : CmpOp} {r : R2} {g : D → D → Option D} {fa fb : Inr} (ho : OpR X (compareOp op) r) (hg : OpI X G r g) (ha : RP X G a fa) (hb : RP X G b fb) (hm : behindInMarks op b = false) : RU X G (.Compare a [op] [b] pos) (uOf (iBin g fa fb)) :=
  PT.lo (pt_cmpR ho ha hb hm) fun σ H Q h => tI_op hg σ H _ (tU_test σ H Q h)
theorem rt_cmp {op : CmpOp} {r : R2} {g : D → D → Option D} {fa fb : M PV} (ho : OpR X (compareOp op) r) (hg : OpI X G r g) (ha : RE X G Φ W a fa) (hb : RE X G Φ W b fb) (hm : behindInMarks op b = false) : RT X G Φ W (.Compare a [op] [b] pos) (bVal (eBin g fa fb)) := fun Z hZ =>
  PT.lo (pt_cmpR ho (ha Z hZ) (hb Z hZ) hm) fun σ H Q h => tE_bin hg σ H _ (tT_test σ H Q h)
theorem rt_eqO {k cc : Nat} {i : CI} {f : Addr} {fd : FuncData} {ps : List Str} {den : Den} {fa fb : M PV} (hi : G cc = some i) (hC : CmpC X.K G i.adr) (hty : ∀ cs y r, den [.val (.obj cc cs), .val y] = some r → (tyD G y).isSome = true) (hM : Meth X.K i.adr "__eq__" f) (F : DOk X.prog X.w X.K G X.mg X.base k f fd ps den) (hr : Room (k + 1) X.A) (hb : Binds X.K fd ps [])
    (ha : RE X G Φ W a fa) (hb' : RE X G Φ W b fb) : RT X G Φ W (.Compare a [.Eq] [b] pos) (bVal (eEqO false cc den fa fb)) := fun Z hZ =>
  PT.lo (pt_cmpR (op_eqO hM F.fn (hr.mono (Nat.le_succ _)) hb) (ha Z hZ) (hb' Z hZ) (nomark _)) fun σ H Q h => tE_eqO hi hC hty σ H _ (tT_test σ H Q h)
theorem rt_neO {k cc : Nat} {i : CI} {f : Addr} {fd : FuncData} {ps : List Str} {den : Den} {fa fb : M PV} (hi : G cc = some i) (hC : CmpC X.K G i.adr) (hty : ∀ cs y r, den [.val (.obj cc cs), .val y] = some r → (tyD G y).isSome = true) (hM : Meth X.K i.adr "__eq__" f) (F : DOk X.prog X.w X.K G X.mg X.base k f fd ps den) (hr : Room (k + 1) X.A) (hb : Binds X.K fd ps [])
    (ha : RE X G Φ W a fa) (hb' : RE X G Φ W b fb) : RT X G Φ W (.Compare a [.NotEq] [b] pos) (bVal (eEqO true cc den fa fb)) := fun Z hZ =>
  PT.lo (pt_cmpR (op_neO hC hM F.fn hr hb) (ha Z hZ) (hb' Z hZ) (nomark _)) fun σ H Q h => tE_eqO hi hC hty σ H _ (tT_test σ H Q h)
theorem PT.or {t t' : TT} (h : PT X e t) (h' : PT X e t') : PT X e (fun σ H Q => t σ H Q ∨ t' σ H Q) :=
  ⟨fun pins s σ H Q I q => q.elim (fun z => h.run pins s σ H Q I z) fun z => h'.run pins s σ H Q I z⟩
theorem rt_alt {f g : M Bool} (h : RT X G Φ W e f) (h' : RT X G Φ W e g) : RT X G Φ W e (alt f g) := fun Z hZ =>
  PT.lo (PT.or (h Z hZ) (h' Z hZ)) fun σ H Q ⟨F, ρ, r, ρ', E, q, k1, k2⟩ => (alt_cases q).elim (fun z => .inl ⟨F, ρ, r, ρ', E, z, k1, k2⟩) fun z => .inr ⟨F, ρ, r, ρ', E, z, k1, k2⟩
end
section
variable {X : Cx} {G : Nat → Option CI} {Φ : Zone → Prop} {W : WX} {rest : List Stmt}
theorem rb_at {Z : Zone} {f : M Fl} (hZ : Φ Z) (h : RB X G Φ W rest f) : PSs X rest (tS X.K G Z W f) := h Z hZ
end
theorem bt_int : bootBuiltins "int" = some (.type "int") := by decide +kernel
theorem bt_bool : bootBuiltins "bool" = some (.type "bool") := by decide +kernel
theorem bt_str : bootBuiltins "str" = some (.type "str") := by decide +kernel
theorem bt_list : bootBuiltins "list" = some (.type "list") := by decide +kernel
theorem bt_dict : bootBuiltins "dict" = some (.type "dict") := by decide +kernel
theorem bt_tuple : bootBuiltins "tuple" = some (.type "tuple") := by decide +kernel
theorem bt_len : bootBuiltins "len" = some (.builtin "len") := by decide +kernel
theorem bt_abs : bootBuiltins "abs" = some (.builtin "abs") := by decide +kernel
theorem bt_isinstance : bootBuiltins "isinstance" = some (.builtin "isinstance") := by decide +kernel
theorem bt_ValueError : bootBuiltins "ValueError" = some (.type "ValueError") := by decide +kernel
theorem bt_Exception : bootBuiltins "Exception" = some (.type "Exception") := by decide +kernel
theorem bt_TypeError : bootBuiltins "TypeError" = some (.type "TypeError") := by decide +kernel
end Pl
/-! # Chains, properties, isinstance of what is worked out, iteration two ways -/
set_option linter.all false
set_option maxRecDepth 100000
namespace Pl
open PySem PySem.Spec L2
open PyProof.Rows hiding St
section
variable {X : Cx} {G : Nat → Option CI} {Φ : Zone → Prop} {W : WX} {e a b c : Expr} {es : List Expr} {pos p p' apos : Pos} {st : Stmt} {rest : List Stmt}
/-! ### a < b < c -/
def iChain (g g' : D → D → Option D) (fa fb fc : Inr) : Inr := fun ρ => (fa ρ).bind fun x => (fb ρ).bind fun y => match g x y with
  | some (.bl true) => (fc ρ).bind fun z => g' y z
  | some (.bl false) => some (.bl false)
  | _ => none
theorem tI_chain {r r' : R2} {g g' : D → D → Option D} {fa fb fc : Inr} (hg : OpI X G r g) (hg' : OpI X G r' g') : ∀ σ H Q, tI X.K G (iChain g g' fa fb fc) σ H Q → tChain r r' (tP X.K G fa) (tP X.K G fb) (tP X.K G fc) σ H Q := fun σ H Q ⟨Z, F, ρ, d, E, hf, q⟩ => by
  unfold iChain at hf
  cases h1 : fa ρ with
  | none => rw [h1] at hf; cases hf
  | some x =>
    cases h2 : fb ρ with
    | none => rw [h1, h2] at hf; cases hf
    | some y =>
      rw [h1, h2, Option.bind_some, Option.bind_some] at hf
      refine ⟨Z, F, ρ, x, E, h1, fun u hu => ⟨Z, F, ρ, y, E, h2, fun v hv => ?_⟩⟩
      split at hf
      · rename_i h3
        cases h4 : fc ρ with
        | none => rw [h4] at hf; cases hf
        | some z =>
          rw [h4, Option.bind_some] at hf
          refine hg Z F ρ σ H x y _ u v _ E h3 hu hv fun w hw => ?_
          cases hw
          refine ⟨true, rfl, ?_⟩
          rw [if_pos rfl]
          exact ⟨Z, F, ρ, z, E, h4, fun w' hw' => hg' Z F ρ σ H y z d v w' Q E hf hv hw' q⟩
      · rename_i h3
        cases hf
        refine hg Z F ρ σ H x y _ u v _ E h3 hu hv fun w hw => ?_
        cases hw
        refine ⟨false, rfl, ?_⟩
        rw [if_neg Bool.false_ne_true]
        exact q _ (.bl false)
      · cases hf
theorem ri_chain {op op' : CmpOp} {r r' : R2} {g g' : D → D → Option D} {fa fb fc : Inr} (ho : OpR X (compareOp op) r) (ho' : OpR X (compareOp op') r') (hg : OpI X G r g) (hg' : OpI X G r' g') (ha : RP X G a fa) (hb : RP X G b fb) (hc : RP X G c fc)
    (hm : lastMarks [op, op'] [b, c] = false := by with_unfolding_all rfl) : RI X G (.Compare a [op, op'] [b, c] pos) (iChain g g' fa fb fc) := PE.lo (pe_chain ho ho' ha hb hc hm) (tI_chain hg hg')
theorem ru_chain {op op' : CmpOp} {r r' : R2} {g g' : D → D → Option D} {fa fb fc : Inr} (ho : OpR X (compareOp op) r) (ho' : OpR X (compareOp op') r') (hg : OpI X G r g) (hg' : OpI X G r' g') (ha : RP X G a fa) (hb : RP X G b fb) (hc : RP X G c fc)
    (hm : lastMarks [op, op'] [b, c] = false := by with_unfolding_all rfl) : RU X G (.Compare a [op, op'] [b, c] pos) (uOf (iChain g g' fa fb fc)) := PT.lo (pt_chain ho ho' ha hb hc hm) fun σ H Q h => tI_chain hg hg' σ H _ (tU_test σ H Q h)
/-! ### a property of an own class -/
def tProp (C : Addr) (sp : Sp) (ta : TE) : TE := fun σ H Q => ta σ H fun x H1 => ∃ a dx fs, x = .ref a ∧ H1 a = some (.ins C dx fs) ∧ sp [x] H1 Q E0
structure PropC (K : PySem.W.Frag) (C : Addr) (f : Str) (p g : Addr) : Prop where
  at_ : PySem.W.findIn K (.ref C) f = some (some (.ref p))
  get : PySem.W.specialIn K (.ref p) "__get__" = some (some (.builtin "property.__get__"))
  tk : PySem.W.takesIn K (.ref p) = some true
  rc : ∃ rest, PySem.W.recIn K p "property" = some (.ref g :: rest)
  ic : PySem.W.isClsIn K C = true
theorem pe_prop {k : Nat} {f : Str} {C p g : Addr} {fd : FuncData} {ps : List Str} {sp : Sp} {ta : TE} (he : PE X e ta) (c : Cls X.K C) (P : PropC X.K C f p g) (F : FnOk X.prog X.w X.K X.mg X.base (L2.CX X.prog X.w) k g fd ps sp) (hr : Room (k + 1) X.A) (hb : Binds X.K fd ps [])
    (hb' : attributeBase e f X.env (eval e X.env) = eval e X.env := by rfl) : PE X (.Attribute e f pos) (tProp C sp ta) := by
  refine ⟨fun pins s σ H Q I h => ?_⟩
  refine attr_of hb' (thn (he.run pins s σ H _ I h) fun w s1 ⟨x, H1, I1, rx, a, dx, fs, ex, ea, q⟩ => ?_)
  subst ex
  obtain rfl : w = Value.ref a := rx
  obtain ⟨mA, J, _⟩ := ins_get I1.hok ea
  obtain ⟨od, J, _⟩ := J.look
  obtain ⟨rest, hrec⟩ := P.rc
  have I2 : Inv X pins σ H1 { s1 with toks := s1.toks + 1 } := I1.tok (s1.toks + 1)
  refine PySem.W.get_bind I1.kIn J (PySem.W.plainGet_of (c.get f)).1 (PySem.W.findObj_data P.ic P.at_ P.get P.tk) (PySem.W.plainGet_of (c.get f)).2 (wpAny_call (PySem.W.prop_get (s := { s1 with toks := s1.toks + 1 }) I1.kIn hrec ?_))
  refine codeAny_mono (F.run X.A.in1 X.stack { s1 with toks := s1.toks + 1 } H1 ⟨[.ref a], []⟩ [.ref a] [.ref a] Q E0 hr.in1 I2.env0.in1 (hb _ _ I2.kIn (F.len _ _ _ _ q)) (.cons rfl .nil) q) fun r s' hq => ?_
  cases r with
  | error e =>
    obtain ⟨_, _, _, _, _, _, _, _, _, _, _, _, z⟩ := hq
    exact z.elim
  | ok fl =>
    cases fl with
    | ret u =>
      obtain ⟨v, H', I3, rv, q⟩ := I2.after hq
      exact wpAny_of_eq (PySem.W.handedOut_of (handed_of rv)) ⟨v, H', I3, rv, q⟩
    | next => exact False.elim hq
    | brk => exact False.elim hq
    | cont => exact False.elim hq
/-- e.f, a property whose getter raises nothing -/
def eProp (c : Nat) (den : Den) (fa : M PV) : M PV := mB fa fun p1 => mB (mO (recv c p1)) fun cs ρ => match den [.val (.obj c cs)] with
  | some (.ok pv, none) => some (.ok pv, ρ)
  | _ => none
theorem tE_prop {Z : Zone} {c : Nat} {i : CI} {den : Den} {fa : M PV} (hi : G c = some i) : ∀ σ H Q, tE X.K G Z W (eProp c den fa) σ H Q → tProp i.adr (spD X.K G den) (tE X.K G Z W fa) σ H Q := fun σ H Q ⟨F, ρ, r, ρ', E, hf, q1, q2⟩ => by
  unfold eProp at hf
  rcases mB_cases hf with ⟨x, h1, rfl⟩ | ⟨pv, ρ1, h1, h2⟩
  · exact ⟨F, ρ, _, _, E, h1, fun _ e => (by cases e), fun y e => by cases e; exact q2 _ rfl⟩
  · refine ⟨F, ρ, _, _, E, h1, fun pv' e F1 v H1 g1 E1 hv => ?_, fun y e => by cases e⟩
    cases e
    obtain ⟨cs, hcs, h6⟩ := mO_some h2
    cases recv_some hcs
    have hr : Rep X.K G F1 (.obj c cs) v := hv
    obtain ⟨a, dx, fs, e1, e2⟩ := rep_ins E1.ext hi hr
    refine ⟨a, dx, fs, e1, e2, ?_⟩
    have hR : Reps X.K G F1 [.obj c cs] [v] := .cons hr .nil
    split at h6
    · rename_i r' hden
      cases h6
      refine ⟨F1, [D.obj c cs].map PV.val, none, _, none, args_vals E1 hR, hden, fun pv e F' v H' g E' hp => ?_, fun x e => by cases e⟩
      cases e
      exact q1 _ rfl F' v H' (g1.trans g) (E1.back g E') (hp.back E1 fun {ρ2 l} e ho => (E1.there (by rw [← e]; exact ho)).2)
    · cases h6
theorem re_prop {k cc : Nat} {i : CI} {f : Str} {p g : Addr} {fd : FuncData} {ps : List Str} {den : Den} {fa : M PV} (hG : GOk X.K G) (hi : G cc = some i) (hc : cc < 100) (P : PropC X.K i.adr f p g) (F : DOk X.prog X.w X.K G X.mg X.base k g fd ps den) (hr : Room (k + 1) X.A) (hb : Binds X.K fd ps [])
    (ha : RE X G Φ W a fa) (hb' : attributeBase a f X.env (eval a X.env) = eval a X.env := by rfl) : RE X G Φ W (.Attribute a f pos) (eProp cc den fa) := fun Z hZ => PE.lo (pe_prop (ha Z hZ) (hG.cls cc i hc hi) P F.fn hr hb hb') (tE_prop hi)
/-! ### isinstance of what is worked out -/
theorem re_is {x : Str} {ce : Expr} {cv : V} {u : Value} {is : D → Option Bool} {f : M PV} (hG : GOk X.K G) (hI : GIs X.K G) (hF : IsF X.K G [u] is) (hl : Gl X x) (hm : X.mg x = none) (hv : bootBuiltins x = some (.builtin "isinstance")) (hc : PE X ce (tC cv)) (hcv : ClsV cv u) (ha : RE X G Φ W a f)
    (hn : x ≠ "__name__" := by decide) (hdb : (x == ("__debug__" : Str)) = false := by decide) (hs : starEach [a, ce] X.env = (false, eval a X.env) :: starEach [ce] X.env := by rfl) (hs' : starEach [ce] X.env = (false, eval ce X.env) :: starEach [] X.env := by rfl) (hpl : (backTo pos (starEach [ce] X.env)).any (·.1) = false := by rfl) :
    RE X G Φ W (.Call (.Name x p) [a, ce] [] pos) (eUn (dIs is) f) := fun Z hZ =>
  PE.lo (pe_callB call_isi hl hm hv (pa_cons (ha Z hZ) (pa_cons hc pa_nil hs') hs) hn hdb hs hpl) fun σ H Q ⟨F, ρ, r, ρ', E, hf, q1, q2⟩ => by
    unfold eUn at hf
    rcases mB_cases hf with ⟨x, h1, rfl⟩ | ⟨pv, ρ1, h1, h2⟩
    · exact ⟨F, ρ, _, _, E, h1, fun _ e => (by cases e), fun y e => by cases e; exact q2 _ rfl⟩
    · refine ⟨F, ρ, _, _, E, h1, fun pv' e F1 v H1 g1 E1 hv => ?_, fun y e => by cases e⟩
      cases e
      obtain ⟨x, hx, h3⟩ := mO_some h2
      obtain ⟨d, hd, h4⟩ := mO_some h3
      obtain ⟨F2, g2, E2, hr⟩ := hv.frz E1 hx
      unfold dIs at hd
      cases h5 : is x with
      | none => rw [h5] at hd; cases hd
      | some b =>
        rw [h5] at hd; cases hd
        cases h4
        obtain ⟨t, h6, h7⟩ := hF x b h5
        exact ⟨v, cv, t, u, b, rfl, hcv, ty_pk hG hI (hr.pk E2.ext) h6, kit_one h7, q1 _ rfl F2 (.bl b) H1 (g1.trans g2) E2 (.bl b)⟩
/-! ### iteration, two ways -/
theorem PI.or {tg iter : Expr} {t t' : TI} (h : PI X tg iter t) (h' : PI X tg iter t') : PI X tg iter (fun σ H Q => t σ H Q ∨ t' σ H Q) := by
  exact ⟨fun pins s σ H R I q => q.elim (fun z => h.run pins s σ H R I z) fun z => h'.run pins s σ H R I z⟩
theorem rit_alt {tg iter : Expr} {f g : M (List D)} (h : RIt X G Φ W tg iter f) (h' : RIt X G Φ W tg iter g) : RIt X G Φ W tg iter (alt f g) := fun Z hZ =>
  PI.lo (PI.or (h Z hZ) (h' Z hZ)) fun σ H Q ⟨F, ρ, r, ρ', E, q, k1, k2⟩ => (alt_cases q).elim (fun z => .inl ⟨F, ρ, r, ρ', E, z, k1, k2⟩) fun z => .inr ⟨F, ρ, r, ρ', E, z, k1, k2⟩
end
end Pl
/-! # What makes new things: tuple(), list(), slices, sums of lists; zip; in -/
set_option linter.all false
set_option maxRecDepth 100000
namespace Pl
open PySem PySem.Spec L2
open PyProof.Rows hiding St
section
variable {X : Cx} {G : Nat → Option CI} {Φ : Zone → Prop} {W : WX} {e a b c : Expr} {es : List Expr} {pos p p' apos : Pos} {st : Stmt} {rest : List Stmt}
/-! ### results that may be new -/
def OpF1 (X : Cx) (G : Nat → Option CI) (r : V → Hp → VK → Prop) (g : D → Option PV) : Prop :=
  ∀ Z F ρ σ H x pv u (Q : VK), EnvOk X.K G Z F ρ σ H → g x = some pv → Pk X.K G F H x u → (∀ F' w H', Gr F F' → EnvOk X.K G Z F' ρ σ H' → PvOk X.K G Z F' ρ σ H' pv w → Q w H') → r u H Q
def OpF2 (X : Cx) (G : Nat → Option CI) (r : R2) (g : D → D → Option PV) : Prop :=
  ∀ Z F ρ σ H x y pv u v (Q : VK), EnvOk X.K G Z F ρ σ H → g x y = some pv → Pk X.K G F H x u → Pk X.K G F H y v → (∀ F' w H', Gr F F' → EnvOk X.K G Z F' ρ σ H' → PvOk X.K G Z F' ρ σ H' pv w → Q w H') → r u v H Q
def eF (g : D → Option PV) (f : M PV) : M PV := mB f fun q => mB (mO q.tree) fun x => mO (g x)
def eF2 (g : D → D → Option PV) (fa fb : M PV) : M PV := mB fa fun q => mB (mO q.tree) fun x => mB fb fun q' => mB (mO q'.tree) fun y => mO (g x y)
def pF (g : D → Option PV) (f : Inr) : M PV := fun ρ => (f ρ).bind fun x => (g x).map fun pv => (.ok pv, ρ)
def pF2 (g : D → D → Option PV) (fa fb : Inr) : M PV := fun ρ => (fa ρ).bind fun x => (fb ρ).bind fun y => (g x y).map fun pv => (.ok pv, ρ)
theorem tE_F {Z : Zone} {r : V → Hp → VK → Prop} {g : D → Option PV} {f : M PV} (hg : OpF1 X G r g) : ∀ σ H Q, tE X.K G Z W (eF g f) σ H Q → tE X.K G Z W f σ H fun x H1 => r x H1 Q := fun σ H Q ⟨F, ρ, r, ρ', E, hf, q1, q2⟩ => by
  unfold eF at hf
  rcases mB_cases hf with ⟨x, h1, rfl⟩ | ⟨pv, ρ1, h1, h2⟩
  · exact ⟨F, ρ, _, _, E, h1, fun _ e => (by cases e), fun y e => by cases e; exact q2 _ rfl⟩
  · refine ⟨F, ρ, _, _, E, h1, fun pv' e F1 v H1 g1 E1 hv => ?_, fun y e => by cases e⟩
    cases e
    obtain ⟨x, hx, h3⟩ := mO_some h2
    obtain ⟨F2, g2, E2, hr⟩ := hv.frz E1 hx
    cases h4 : g x with
    | none => rw [h4] at h3; cases h3
    | some pw =>
      rw [h4] at h3; cases h3
      exact hg Z F2 _ σ H1 x pw v Q E2 h4 (hr.pk E2.ext) fun F' w H' g3 E3 hw => q1 _ rfl F' w H' ((g1.trans g2).trans g3) E3 hw
theorem tE_F2 {Z : Zone} {r : R2} {g : D → D → Option PV} {fa fb : M PV} (hg : OpF2 X G r g) : ∀ σ H Q, tE X.K G Z W (eF2 g fa fb) σ H Q → tOp r (tE X.K G Z W fa) (tE X.K G Z W fb) σ H Q := fun σ H Q ⟨F, ρ, r, ρ', E, hf, q1, q2⟩ => by
  unfold eF2 at hf
  rcases mB_cases hf with ⟨x, h1, rfl⟩ | ⟨pv, ρ1, h1, h2⟩
  · exact ⟨F, ρ, _, _, E, h1, fun _ e => (by cases e), fun y e => by cases e; exact q2 _ rfl⟩
  · refine ⟨F, ρ, _, _, E, h1, fun pv' e F1 v H1 g1 E1 hv => ?_, fun y e => by cases e⟩
    cases e
    obtain ⟨x, hx, h3⟩ := mO_some h2
    obtain ⟨F2, g2, E2, hr⟩ := hv.frz E1 hx
    rcases mB_cases h3 with ⟨z, h4, rfl⟩ | ⟨pv2, ρ2, h4, h5⟩
    · exact ⟨F2, ρ1, _, _, E2, h4, fun _ e => (by cases e), fun y e => by cases e; exact (q2 _ rfl).gr (g1.trans g2)⟩
    · refine ⟨F2, ρ1, _, _, E2, h4, fun as' e F3 v2 H3 g3 E3 hv2 => ?_, fun y e => by cases e⟩
      cases e
      obtain ⟨y, hy, h6⟩ := mO_some h5
      obtain ⟨F4, g4, E4, hr2⟩ := hv2.frz E3 hy
      cases h7 : g x y with
      | none => rw [h7] at h6; cases h6
      | some pw =>
        rw [h7] at h6; cases h6
        exact hg Z F4 _ σ H3 x y pw v v2 Q E4 h7 ((Rep.gr (g3.trans g4) hr).pk E4.ext) (hr2.pk E4.ext) fun F' w H' g5 E5 hw => q1 _ rfl F' w H' ((((g1.trans g2).trans g3).trans g4).trans g5) E5 hw
theorem tP_F {Z : Zone} {r : V → Hp → VK → Prop} {g : D → Option PV} {f : Inr} (hg : OpF1 X G r g) : ∀ σ H Q, tE X.K G Z W (pF g f) σ H Q → tP X.K G f σ H fun x H1 => r x H1 Q := fun σ H Q ⟨F, ρ, r, ρ', E, hf, q1, q2⟩ => by
  unfold pF at hf
  cases h1 : f ρ with
  | none => rw [h1] at hf; cases hf
  | some x =>
    rw [h1, Option.bind_some] at hf
    cases h2 : g x with
    | none => rw [h2] at hf; cases hf
    | some pw =>
      rw [h2] at hf; cases hf
      exact ⟨Z, F, ρ, x, E, h1, fun v hv => hg Z F ρ σ H x pw v Q E h2 hv fun F' w H' g E hw => q1 _ rfl F' w H' g E hw⟩
theorem tP_F2 {Z : Zone} {r : R2} {g : D → D → Option PV} {fa fb : Inr} (hg : OpF2 X G r g) : ∀ σ H Q, tE X.K G Z W (pF2 g fa fb) σ H Q → tOp r (tP X.K G fa) (tP X.K G fb) σ H Q := fun σ H Q ⟨F, ρ, r, ρ', E, hf, q1, q2⟩ => by
  unfold pF2 at hf
  cases h1 : fa ρ with
  | none => rw [h1] at hf; cases hf
  | some x =>
    cases h2 : fb ρ with
    | none => rw [h1, h2] at hf; cases hf
    | some y =>
      rw [h1, h2, Option.bind_some, Option.bind_some] at hf
      cases h3 : g x y with
      | none => rw [h3] at hf; cases hf
      | some pw =>
        rw [h3] at hf; cases hf
        exact ⟨Z, F, ρ, x, E, h1, fun u hu => ⟨Z, F, ρ, y, E, h2, fun v hv => hg Z F ρ σ H x y pw u v Q E h3 hu hv fun F' w H' g E hw => q1 _ rfl F' w H' g E hw⟩⟩
/-- a new frozen thing -/
theorem new_val {Z : Zone} {F H : Hp} {ρ : En} {σ : L2.St} {Q : VK} {o : HO} {pv : PV} {d : D} (E : EnvOk X.K G Z F ρ σ H) (hpv : pv = .val d) (hd : ∀ p, F p = none → Rep X.K G (upd F p o) d (.ref p)) (q : ∀ F' w H', Gr F F' → EnvOk X.K G Z F' ρ σ H' → PvOk X.K G Z F' ρ σ H' pv w → Q w H') : ∀ p, H p = none → Q (.ref p) (upd H p o) := fun p hp => by
  subst hpv
  have hF : F p = none := E.ext.free hp
  exact q (upd F p o) _ _ (Gr.new hF) (E.new hp) (hd p hF)
/-- a new list -/
theorem new_own {Z : Zone} {F H : Hp} {ρ : En} {σ : L2.St} {Q : VK} {vs : List V} {ds : List D} {pv : PV} (E : EnvOk X.K G Z F ρ σ H) (hpv : pv = .own (.lst ds)) (hr : Reps X.K G F ds vs) (q : ∀ F' w H', Gr F F' → EnvOk X.K G Z F' ρ σ H' → PvOk X.K G Z F' ρ σ H' pv w → Q w H') : ∀ p, H p = none → Q (.ref p) (upd H p (.lst vs)) := fun p hp => by
  subst hpv
  have hF : F p = none := E.ext.free hp
  refine q F _ _ Gr.rfl (E.newOwn hp) ⟨p, rfl, hF, E.fresh hp, ⟨vs, upd_same, hr⟩, fun ho => ?_⟩
  obtain ⟨_, u, hu⟩ := E.there ho
  rw [hp] at hu; cases hu
/-! ### tuple(x), list(x) -/
def dTupOf : D → Option PV
  | .lst ds => some (.val (.tup ds))
  | .tup ds => some (.val (.tup ds))
  | _ => none
def dLstOf : D → Option PV
  | .lst ds => some (.own (.lst ds))
  | .tup ds => some (.own (.lst ds))
  | _ => none
/-- .. of what stands frozen -/
def OpR1 (X : Cx) (G : Nat → Option CI) (r : V → Hp → VK → Prop) (g : D → Option PV) : Prop :=
  ∀ Z F ρ σ H x pv u (Q : VK), EnvOk X.K G Z F ρ σ H → g x = some pv → Rep X.K G F x u → (∀ F' w H', Gr F F' → EnvOk X.K G Z F' ρ σ H' → PvOk X.K G Z F' ρ σ H' pv w → Q w H') → r u H Q
theorem OpF1.r {r : V → Hp → VK → Prop} {g : D → Option PV} (h : OpF1 X G r g) : OpR1 X G r g := fun Z F ρ σ H x pv u Q E hg hr q => h Z F ρ σ H x pv u Q E hg (hr.pk E.ext) q
theorem tE_R {Z : Zone} {r : V → Hp → VK → Prop} {g : D → Option PV} {f : M PV} (hg : OpR1 X G r g) : ∀ σ H Q, tE X.K G Z W (eF g f) σ H Q → tE X.K G Z W f σ H fun x H1 => r x H1 Q := fun σ H Q ⟨F, ρ, r, ρ', E, hf, q1, q2⟩ => by
  unfold eF at hf
  rcases mB_cases hf with ⟨x, h1, rfl⟩ | ⟨pv, ρ1, h1, h2⟩
  · exact ⟨F, ρ, _, _, E, h1, fun _ e => (by cases e), fun y e => by cases e; exact q2 _ rfl⟩
  · refine ⟨F, ρ, _, _, E, h1, fun pv' e F1 v H1 g1 E1 hv => ?_, fun y e => by cases e⟩
    cases e
    obtain ⟨x, hx, h3⟩ := mO_some h2
    obtain ⟨F2, g2, E2, hr⟩ := hv.frz E1 hx
    cases h4 : g x with
    | none => rw [h4] at h3; cases h3
    | some pw =>
      rw [h4] at h3; cases h3
      exact hg Z F2 _ σ H1 x pw v Q E2 h4 hr fun F' w H' g3 E3 hw => q1 _ rfl F' w H' ((g1.trans g2).trans g3) E3 hw
def rTupOf (K : PySem.W.Frag) : V → Hp → VK → Prop := fun u H Q => ∃ p ys, [u] = [V.ref p] ∧ ((SqL K H p ys ∧ ∀ l, H l = none → Q (.ref l) (upd H l (.tup ys))) ∨ (SqT K H p ys ∧ Q (.ref p) H))
def rLstOf (K : PySem.W.Frag) : V → Hp → VK → Prop := fun u H Q => ∃ p ys, [u] = [V.ref p] ∧ (SqL K H p ys ∨ SqT K H p ys) ∧ ∀ l, H l = none → Q (.ref l) (upd H l (.lst ys))
theorem opr_tuple : OpR1 X G (rTupOf X.K) dTupOf := fun Z F ρ σ H x pv u Q E h hu q => by
  cases x <;> first | (cases h; done) | skip
  · rename_i ds
    cases h
    cases hu with
    | tup h1 h2 => exact ⟨_, _, rfl, .inr ⟨E.ext.sqT h1, q F _ H Gr.rfl E (.tup h1 h2)⟩⟩
  · rename_i ds
    cases h
    cases hu with
    | lst h1 h2 => exact ⟨_, _, rfl, .inl ⟨E.ext.sqL h1, new_val E rfl (fun p hp => .tup (.of upd_same) (h2.gr (Gr.new hp))) q⟩⟩
def dTupL : D → Option PV
  | .lst ds => some (.val (.tup ds))
  | _ => none
theorem opf_tuple : OpF1 X G (rTupOf X.K) dTupL := fun Z F ρ σ H x pv u Q E h hu q => by
  cases x <;> first | (cases h; done) | skip
  rename_i ds
  cases h
  obtain ⟨a, vs, rfl, h1, h2⟩ := hu
  exact ⟨a, vs, rfl, .inl ⟨h1, new_val E rfl (fun p hp => .tup (.of upd_same) (h2.gr (Gr.new hp))) q⟩⟩
theorem opf_list : OpF1 X G (rLstOf X.K) dLstOf := fun Z F ρ σ H x pv u Q E h hu q => by
  cases x <;> first | (cases h; done) | skip
  · rename_i ds
    cases h
    obtain ⟨a, vs, rfl, h1, h2⟩ := hu
    exact ⟨a, vs, rfl, .inr h1, new_own E rfl h2 q⟩
  · rename_i ds
    cases h
    obtain ⟨a, vs, rfl, h1, h2⟩ := hu
    exact ⟨a, vs, rfl, .inl h1, new_own E rfl h2 q⟩
section
variable {T : String} {x : Str}
theorem re_tupOf {f : M PV} (hl : Gl X "tuple") (hm : X.mg "tuple" = none) (ha : RE X G Φ W a f) (hs : starEach [a] X.env = (false, eval a X.env) :: starEach [] X.env := by rfl) (hpl : (backTo pos (starEach [] X.env)).any (·.1) = false := by rfl) :
    RE X G Φ W (.Call (.Name "tuple" p) [a] [] pos) (eF dTupOf f) := fun Z hZ => PE.lo (pe_callTy call_tuple_of hl hm bt_tuple (pa_cons (ha Z hZ) pa_nil hs) (by decide) (by decide) hs hpl) (tE_R opr_tuple)
theorem rp_tupOf {f : Inr} (hl : Gl X "tuple") (hm : X.mg "tuple" = none) (ha : RP X G a f) (hs : starEach [a] X.env = (false, eval a X.env) :: starEach [] X.env := by rfl) (hpl : (backTo pos (starEach [] X.env)).any (·.1) = false := by rfl) :
    RE X G Φ W (.Call (.Name "tuple" p) [a] [] pos) (pF dTupL f) := fun Z hZ => PE.lo (pe_callTy call_tuple_of hl hm bt_tuple (pa_cons ha pa_nil hs) (by decide) (by decide) hs hpl) (tP_F opf_tuple)
theorem re_lstOf {f : M PV} (hl : Gl X "list") (hm : X.mg "list" = none) (ha : RE X G Φ W a f) (hs : starEach [a] X.env = (false, eval a X.env) :: starEach [] X.env := by rfl) (hpl : (backTo pos (starEach [] X.env)).any (·.1) = false := by rfl) :
    RE X G Φ W (.Call (.Name "list" p) [a] [] pos) (eF dLstOf f) := fun Z hZ => PE.lo (pe_callTy call_list_of hl hm bt_list (pa_cons (ha Z hZ) pa_nil hs) (by decide) (by decide) hs hpl) (tE_F opf_list)
theorem rp_lstOf {f : Inr} (hl : Gl X "list") (hm : X.mg "list" = none) (ha : RP X G a f) (hs : starEach [a] X.env = (false, eval a X.env) :: starEach [] X.env := by rfl) (hpl : (backTo pos (starEach [] X.env)).any (·.1) = false := by rfl) :
    RE X G Φ W (.Call (.Name "list" p) [a] [] pos) (pF dLstOf f) := fun Z hZ => PE.lo (pe_callTy call_list_of hl hm bt_list (pa_cons ha pa_nil hs) (by decide) (by decide) hs hpl) (tP_F opf_list)
end
/-! ### slices -/
def dPart (f : Option Inr) (ρ : En) : Option (Option Int) := match f with
  | none => some none
  | some g => match g ρ with
    | some (.int i) => some (some i)
    | _ => none
def dCutL (xs : List D) (lo hi : Option Int) : List D := (xs.drop (HT.sIx xs.length 0 lo)).take (HT.sIx xs.length xs.length hi - HT.sIx xs.length 0 lo)
def dSlice : D → Option Int → Option Int → Option PV
  | .str z, lo, hi => if z.length ≤ sizeLine then some (.val (.str (cutS z lo hi))) else none
  | .lst xs, lo, hi => some (.own (.lst (dCutL xs lo hi)))
  | .tup xs, lo, hi => some (.val (.tup (dCutL xs lo hi)))
  | _, _, _ => none
theorem cut_reps {K : PySem.W.Frag} {F : Hp} {ds : List D} {vs : List V} (h : Reps K G F ds vs) (lo hi : Option Int) : Reps K G F (dCutL ds lo hi) (cutV vs lo hi) := by
  unfold dCutL cutV
  rw [h.length]
  exact (h.drop _).take _
def rSlAll (K : PySem.W.Frag) : V → Option Int → Option Int → Hp → VK → Prop := fun x lo hi H Q => rSlS x lo hi H Q ∨ rSlL K x lo hi H Q ∨ rSlA K x lo hi H Q
theorem sl_all : SlR X (rSlAll X.K) := SlR.or sl_str (SlR.or sl_list sl_tupA)
/-- a slice of what stands frozen (a tuple's whole slice is the tuple) -/
theorem slice_rep {Z : Zone} {F H : Hp} {ρ : En} {σ : L2.St} {x : D} {u : V} {lo hi : Option Int} {pv : PV} {Q : VK} (E : EnvOk X.K G Z F ρ σ H) (hg : dSlice x lo hi = some pv) (hr : Rep X.K G F x u) (q : ∀ F' w H', Gr F F' → EnvOk X.K G Z F' ρ σ H' → PvOk X.K G Z F' ρ σ H' pv w → Q w H') : rSlAll X.K u lo hi H Q := by
  cases x <;> first | (cases hg; done) | skip
  · rename_i z
    unfold dSlice at hg
    dsimp only at hg
    split at hg
    · cases hg
      cases hr
      exact .inl ⟨z, rfl, ‹_›, q F _ H Gr.rfl E (.str _)⟩
    · cases hg
  · rename_i ds
    cases hg
    cases hr with
    | tup h1 h2 =>
      rename_i a vs
      refine .inr (.inr ⟨a, vs, rfl, E.ext.sqT h1, fun hw => ?_, fun hw => ?_⟩)
      · have : dCutL ds lo hi = ds := by
          unfold dCutL
          rw [h2.length, hw.1, hw.2, List.drop_zero, Nat.sub_zero, ← h2.length, List.take_length]
        rw [this] at q
        exact q F _ H Gr.rfl E (.tup h1 h2)
      · exact new_val E rfl (fun p hp => .tup (.of upd_same) ((cut_reps h2 lo hi).gr (Gr.new hp))) q
  · rename_i ds
    cases hg
    cases hr with
    | lst h1 h2 =>
      rename_i a vs
      exact .inr (.inl ⟨a, vs, rfl, E.ext.sqL h1, new_own E rfl (cut_reps h2 lo hi) q⟩)
def eSlice (f : M PV) (lo hi : Option Inr) : M PV := mB f fun q => mB (mO q.tree) fun x ρ => (dPart lo ρ).bind fun l => (dPart hi ρ).bind fun h => (dSlice x l h).map fun pv => (.ok pv, ρ)
structure Part (X : Cx) (G : Nat → Option CI) (e : Option Expr) (f : Option Inr) : Prop where
  ok : (e = none ∧ f = none) ∨ ∃ e' f', e = some e' ∧ f = some f' ∧ RI X G e' f'
theorem part_none : Part X G none none := ⟨.inl ⟨rfl, rfl⟩⟩
theorem part_some {f : Inr} (h : RI X G e f) : Part X G (some e) (some f) := ⟨.inr ⟨_, _, rfl, rfl, h⟩⟩
/-- what a part of a slice comes to -/
def tPt (K : PySem.W.Frag) (G : Nat → Option CI) (f : Option Inr) : TO := fun σ H Q => ∃ Z F ρ l, EnvOk K G Z F ρ σ H ∧ dPart f ρ = some l ∧ Q l H
theorem re_slice {lo hi : Option Expr} {p2 : Pos} {f : M PV} {fl fh : Option Inr} (ha : RE X G Φ W a f) (hl : Part X G lo fl) (hh : Part X G hi fh) : RE X G Φ W (.Subscript a (.Slice lo hi none p2) pos) (eSlice f fl fh) := fun Z hZ => by
  have po : ∀ {e : Option Expr} {g : Option Inr}, Part X G e g → ∃ t, PO X e t ∧ ∀ σ H (Q : Option Int → Hp → Prop) Z F ρ l, EnvOk X.K G Z F ρ σ H → dPart g ρ = some l → Q l H → t σ H Q := by
    intro e g h
    rcases h.ok with ⟨rfl, rfl⟩ | ⟨e', f', rfl, rfl, hq⟩
    · exact ⟨_, po_none, fun σ H Q Z F ρ l E hd q => by cases hd; exact q⟩
    · refine ⟨_, po_some hq, fun σ H Q Z F ρ l E hd q => ?_⟩
      unfold dPart at hd
      dsimp only at hd
      split at hd
      · rename_i i hi
        cases hd
        exact ⟨Z, F, ρ, _, E, hi, fun v hv => by cases hv; exact ⟨i, rfl, q⟩⟩
      · cases hd
  obtain ⟨tl, pl, kl⟩ := po hl
  obtain ⟨th, ph, kh⟩ := po hh
  refine PE.lo (pe_slice sl_all (ha Z hZ) pl ph) fun σ H Q ⟨F, ρ, r, ρ', E, hf, q1, q2⟩ => ?_
  unfold eSlice at hf
  rcases mB_cases hf with ⟨x, h1, rfl⟩ | ⟨pv, ρ1, h1, h2⟩
  · exact ⟨F, ρ, _, _, E, h1, fun _ e => (by cases e), fun y e => by cases e; exact q2 _ rfl⟩
  · refine ⟨F, ρ, _, _, E, h1, fun pv' e F1 v H1 g1 E1 hv => ?_, fun y e => by cases e⟩
    cases e
    obtain ⟨x, hx, h3⟩ := mO_some h2
    obtain ⟨F2, g2, E2, hr⟩ := hv.frz E1 hx
    cases h4 : dPart fl ρ1 with
    | none => rw [h4] at h3; cases h3
    | some l =>
      cases h5 : dPart fh ρ1 with
      | none => rw [h4, h5] at h3; cases h3
      | some h =>
        rw [h4, h5, Option.bind_some, Option.bind_some] at h3
        cases h6 : dSlice x l h with
        | none => rw [h6] at h3; cases h3
        | some pw =>
          rw [h6] at h3; cases h3
          exact kl σ H1 _ Z F2 _ l E2 h4 (kh σ H1 _ Z F2 _ h E2 h5 (slice_rep E2 h6 hr fun F' w H' g3 E3 hw => q1 _ rfl F' w H' ((g1.trans g2).trans g3) E3 hw))
/-! ### list + list, tuple + tuple -/
def rCatL (K : PySem.W.Frag) : R2 := fun x y H Q => ∃ l b xs zs, x = .ref l ∧ y = .ref b ∧ SqL K H l xs ∧ SqL K H b zs ∧ xs.length + zs.length ≤ sizeLine ∧ ∀ p, H p = none → Q (.ref p) (upd H p (.lst (xs ++ zs)))
theorem op_catL : OpR X (binaryOp .Add) (rCatL X.K) := by
  intro pins s σ H x y v u Q I rx ry h
  obtain ⟨l, b, xs, zs, rfl, rfl, hH, hB, hz, q⟩ := h
  cases rx
  cases ry
  obtain ⟨its, r, ⟨⟨oc, od, odt, osl⟩, n, e, hc, hdn, hd⟩, hl⟩ := I.list hH
  obtain ⟨its2, r2, ⟨⟨oc2, od2, odt2, osl2⟩, n2, e2, hc2, hdn2, hd2⟩, hl2⟩ := I.list hB
  dsimp only at hc hdn hd hc2 hdn2 hd2
  subst hc hdn hd hc2 hdn2 hd2
  have z1 := r.length
  have z2 := r2.length
  refine concat_meets ⟨_, e, rfl⟩ ⟨_, e2, rfl⟩ noFill_list_add seq_list_add PySem.F.slot_list_add PySem.F.entry_list_add (PySem.F.args_list_add_2 _ _) (list_addW l b its.toArray its2.toArray n n2 _ _ _ _ (by simp only [List.size_toArray]; omega)) ⟨e, e2, ?_⟩
  have ea : its.toArray ++ its2.toArray = (its ++ its2).toArray := by simp
  rw [ea]
  exact ⟨.ref _, _, I.lnew (t' := s.toks) (r.append r2) (by rw [List.length_append]; omega), rfl, q _ I.fresh⟩
def dCat : D → D → Option PV
  | .lst xs, .lst ys => if xs.length + ys.length ≤ sizeLine then some (.own (.lst (xs ++ ys))) else none
  | _, _ => none
theorem opf_cat : OpF2 X G (rCatL X.K) dCat := fun Z F ρ σ H x y pv u v Q E h hu hv q => by
  cases x <;> first | (cases h; done) | skip
  cases y <;> first | (cases h; done) | skip
  unfold dCat at h
  dsimp only at h
  split at h
  · cases h
    obtain ⟨a, vs, rfl, h1, h2⟩ := hu
    obtain ⟨b, ws, rfl, h3, h4⟩ := hv
    exact ⟨a, b, vs, ws, rfl, rfl, h1, h3, by rw [← h2.length, ← h4.length]; assumption, new_own E rfl (h2.append h4) q⟩
  · cases h
theorem re_cat {fa fb : M PV} (ha : RE X G Φ W a fa) (hb : RE X G Φ W b fb) : RE X G Φ W (.BinOp a .Add b pos) (eF2 dCat fa fb) := fun Z hZ => PE.lo (pe_op op_catL (ha Z hZ) (hb Z hZ)) (tE_F2 opf_cat)
theorem rp_cat {fa fb : Inr} (ha : RP X G a fa) (hb : RP X G b fb) : RE X G Φ W (.BinOp a .Add b pos) (pF2 dCat fa fb) := fun Z hZ => PE.lo (pe_op op_catL ha hb) (tP_F2 opf_cat)
/-- tuples: they stand frozen -/
def OpR2 (X : Cx) (G : Nat → Option CI) (r : R2) (g : D → D → Option PV) : Prop :=
  ∀ Z F ρ σ H x y pv u v (Q : VK), EnvOk X.K G Z F ρ σ H → g x y = some pv → Rep X.K G F x u → Rep X.K G F y v → (∀ F' w H', Gr F F' → EnvOk X.K G Z F' ρ σ H' → PvOk X.K G Z F' ρ σ H' pv w → Q w H') → r u v H Q
theorem tE_R2 {Z : Zone} {r : R2} {g : D → D → Option PV} {fa fb : M PV} (hg : OpR2 X G r g) : ∀ σ H Q, tE X.K G Z W (eF2 g fa fb) σ H Q → tOp r (tE X.K G Z W fa) (tE X.K G Z W fb) σ H Q := fun σ H Q ⟨F, ρ, r, ρ', E, hf, q1, q2⟩ => by
  unfold eF2 at hf
  rcases mB_cases hf with ⟨x, h1, rfl⟩ | ⟨pv, ρ1, h1, h2⟩
  · exact ⟨F, ρ, _, _, E, h1, fun _ e => (by cases e), fun y e => by cases e; exact q2 _ rfl⟩
  · refine ⟨F, ρ, _, _, E, h1, fun pv' e F1 v H1 g1 E1 hv => ?_, fun y e => by cases e⟩
    cases e
    obtain ⟨x, hx, h3⟩ := mO_some h2
    obtain ⟨F2, g2, E2, hr⟩ := hv.frz E1 hx
    rcases mB_cases h3 with ⟨z, h4, rfl⟩ | ⟨pv2, ρ2, h4, h5⟩
    · exact ⟨F2, ρ1, _, _, E2, h4, fun _ e => (by cases e), fun y e => by cases e; exact (q2 _ rfl).gr (g1.trans g2)⟩
    · refine ⟨F2, ρ1, _, _, E2, h4, fun as' e F3 v2 H3 g3 E3 hv2 => ?_, fun y e => by cases e⟩
      cases e
      obtain ⟨y, hy, h6⟩ := mO_some h5
      obtain ⟨F4, g4, E4, hr2⟩ := hv2.frz E3 hy
      cases h7 : g x y with
      | none => rw [h7] at h6; cases h6
      | some pw =>
        rw [h7] at h6; cases h6
        exact hg Z F4 _ σ H3 x y pw v v2 Q E4 h7 (Rep.gr (g3.trans g4) hr) hr2 fun F' w H' g5 E5 hw => q1 _ rfl F' w H' ((((g1.trans g2).trans g3).trans g4).trans g5) E5 hw
def dCatT : D → D → Option PV
  | .tup xs, .tup ys => if xs.length + ys.length ≤ sizeLine then some (.val (.tup (xs ++ ys))) else none
  | _, _ => none
theorem opr_catT : OpR2 X G (rCatA X.K) dCatT := fun Z F ρ σ H x y pv u v Q E h hu hv q => by
  cases x <;> first | (cases h; done) | skip
  cases y <;> first | (cases h; done) | skip
  unfold dCatT at h
  dsimp only at h
  split at h
  · cases h
    cases hu with
    | tup h1 h2 =>
      cases hv with
      | tup h3 h4 =>
        refine ⟨_, _, _, _, rfl, rfl, E.ext.sqT h1, E.ext.sqT h3, by rw [← h2.length, ← h4.length]; assumption, fun hx => ?_, fun hx hy => ?_, fun hx hy => new_val E rfl (fun p hp => .tup (.of upd_same) ((h2.append h4).gr (Gr.new hp))) q⟩
        · subst hx
          cases h2
          exact q F _ H Gr.rfl E (.tup h3 h4)
        · subst hy
          cases h4
          rw [List.append_nil] at q
          exact q F _ H Gr.rfl E (.tup h1 h2)
  · cases h
theorem re_catT {fa fb : M PV} (ha : RE X G Φ W a fa) (hb : RE X G Φ W b fb) : RE X G Φ W (.BinOp a .Add b pos) (eF2 dCatT fa fb) := fun Z hZ => PE.lo (pe_op op_catA (ha Z hZ) (hb Z hZ)) (tE_R2 opr_catT)
end
end Pl
/-! # in; zip; range -/
set_option linter.all false
set_option maxRecDepth 100000
namespace Pl
open PySem PySem.Spec L2
open PyProof.Rows hiding St
section
variable {X : Cx} {G : Nat → Option CI} {Φ : Zone → Prop} {W : WX} {e a b c : Expr} {es : List Expr} {pos p p' apos : Pos} {st : Stmt} {rest : List Stmt}
/-! ### in -/
/-- a sign in a text -/
def dInS (neg : Bool) : D → D → Option D
  | .str x, .str z => if x.cps.size = 1 then some (.bl (xor neg (decide ((x.cps.getD 0 0) ∈ z.cps.toList)))) else none
  | _, _ => none
theorem one_sign {x : Str} (h : x.cps.size = 1) : x = ⟨#[x.cps.getD 0 0]⟩ := by
  obtain ⟨⟨l⟩⟩ := x
  match l, h with
  | [c], _ => rfl
theorem opi_inS : OpI X G rInS (dInS false) := fun Z F ρ σ H x y d u v Q E h hu hv q => by
  cases x <;> first | (cases h; done) | skip
  cases y <;> first | (cases h; done) | skip
  rename_i x z
  unfold dInS at h
  dsimp only at h
  split at h
  · rename_i h1
    cases h
    cases pk_str hu
    cases pk_str hv
    refine ⟨x.cps.getD 0 0, z, by rw [← one_sign h1], rfl, ?_⟩
    have := q _ (.bl _)
    rwa [Bool.false_xor] at this
  · cases h
theorem opi_notInS : OpI X G rNotInS (dInS true) := fun Z F ρ σ H x y d u v Q E h hu hv q => by
  cases x <;> first | (cases h; done) | skip
  cases y <;> first | (cases h; done) | skip
  rename_i x z
  unfold dInS at h
  dsimp only at h
  split at h
  · rename_i h1
    cases h
    cases pk_str hu
    cases pk_str hv
    refine ⟨x.cps.getD 0 0, z, by rw [← one_sign h1], rfl, ?_⟩
    have := q _ (.bl _)
    rwa [Bool.true_xor] at this
  · cases h
/-- data in a list of data -/
def dInD (neg : Bool) : D → D → Option D := fun x y => match y with
  | .lst _ => (match x.data, y.data with
    | some d, some (.list ds) => if SeqAt.shaped d && SeqAt.shaped (.list ds) then some (.bl (xor neg (ds.any fun z => PyData.eqv z d))) else none
    | _, _ => none)
  | _ => none
theorem in_pk {neg : Bool} {F H : Hp} {x y d : D} {u v : V} (g : Gr F H) (h : dInD neg x y = some d) (hu : Pk X.K G F H x u) (hv : Pk X.K G F H y v) : ∃ dx ds, Dp X.K H u dx ∧ Dp X.K H v (.list ds) ∧ SeqAt.shaped dx = true ∧ SeqAt.shaped (.list ds) = true ∧ d = .bl (xor neg (ds.any fun z => PyData.eqv z dx)) := by
  unfold dInD at h
  split at h
  · rename_i ys
    split at h
    · rename_i dx ds h1 h2
      split at h
      · rename_i h3
        rw [Bool.and_eq_true] at h3
        cases h
        exact ⟨dx, ds, pk_dp g hu h1, pk_dp g hv h2, h3.1, h3.2, rfl⟩
      · cases h
    · cases h
  · cases h
theorem opi_inD : OpI X G (rInD X.K) (dInD false) := fun Z F ρ σ H x y d u v Q E h hu hv q => by
  obtain ⟨dx, ds, h1, h2, h3, h4, rfl⟩ := in_pk E.ext h hu hv
  exact ⟨dx, ds, h1, h2, h3, h4, by have := q _ (.bl _); rwa [Bool.false_xor] at this⟩
theorem opi_notInD : OpI X G (rNotInD X.K) (dInD true) := fun Z F ρ σ H x y d u v Q E h hu hv q => by
  obtain ⟨dx, ds, h1, h2, h3, h4, rfl⟩ := in_pk E.ext h hu hv
  exact ⟨dx, ds, h1, h2, h3, h4, by have := q _ (.bl _); rwa [Bool.true_xor] at this⟩
theorem units_of1 {A : Around} {k : Nat} (hr : Room k A) : A.units + 65 < cLine := by have := hr.un; omega
/-! ### zip -/
def dZip (xs ys : List D) : List D := (xs.zip ys).map fun q => .tup [q.1, q.2]
def itZip (f g : M PV) : M (List D) := mB f fun p1 => mB (mO p1.tree) fun x => mB g fun p2 => mB (mO p2.tree) fun y => match x, y with
  | .lst xs, .lst ys => mR (dZip xs ys)
  | .tup xs, .tup ys => mR (dZip xs ys)
  | _, _ => fun _ => none
theorem zip_get {xs ys : List D} {i : Nat} {d : D} (h : (dZip xs ys)[i]? = some d) : ∃ x y, xs[i]? = some x ∧ ys[i]? = some y ∧ d = .tup [x, y] := by
  unfold dZip at h
  rw [List.getElem?_map] at h
  cases e : (xs.zip ys)[i]? with
  | none => rw [e] at h; cases h
  | some q =>
    rw [e] at h
    cases h
    rw [List.getElem?_zip_eq_some] at e
    exact ⟨q.1, q.2, e.1, e.2, rfl⟩
theorem zip_len (xs ys : List D) : (dZip xs ys).length = min xs.length ys.length := by unfold dZip; rw [List.length_map, List.length_zip]
theorem itz_ok {K : PySem.W.Frag} {F : Hp} {p q : Addr} {xs ys : List D} {us vs : List V} (h : SqL K F p us) (h' : SqL K F q vs) (r : Reps K G F xs us) (r' : Reps K G F ys vs) : ItOk K G F (Itz K p q) (dZip xs ys) where
  go := fun i d H g h1 => by
    obtain ⟨x, y, e1, e2, rfl⟩ := zip_get h1
    obtain ⟨u, hu, _⟩ := r.get e1
    obtain ⟨v, hv, _⟩ := r'.get e2
    exact ⟨us, vs, u, v, g.sqL h, g.sqL h', hu, hv⟩
  yld := fun i d H z H' g h1 ⟨T, u, v, ez, hT, eH, k1, k2⟩ => .inr ⟨T, .tup [u, v], hT, eH, fun F' g' hF' => by
    obtain ⟨x, y, e1, e2, rfl⟩ := zip_get h1
    obtain ⟨u', hu, ru⟩ := r.get e1
    obtain ⟨v', hv, rv⟩ := r'.get e2
    have q1 := k1 us (g.sqL h)
    have q2 := k2 vs (g.sqL h')
    rw [hu] at q1; cases q1
    rw [hv] at q2; cases q2
    subst ez
    exact .tup (.of upd_same) (.cons ((ru.gr g').gr (Gr.new hF')) (.cons ((rv.gr g').gr (Gr.new hF')) .nil))⟩
  stop := fun i H g h1 => ⟨us, vs, g.sqL h, g.sqL h', by rw [zip_len] at h1; rw [← r.length, ← r'.length]; omega⟩
theorem itzT_ok {K : PySem.W.Frag} {F : Hp} {p q : Addr} {xs ys : List D} {us vs : List V} (h : SqT K F p us) (h' : SqT K F q vs) (r : Reps K G F xs us) (r' : Reps K G F ys vs) : ItOk K G F (RZ.ItzT K p q) (dZip xs ys) where
  go := fun i d H g h1 => by
    obtain ⟨x, y, e1, e2, rfl⟩ := zip_get h1
    obtain ⟨u, hu, _⟩ := r.get e1
    obtain ⟨v, hv, _⟩ := r'.get e2
    exact ⟨us, vs, u, v, g.sqT h, g.sqT h', hu, hv⟩
  yld := fun i d H z H' g h1 ⟨T, u, v, ez, hT, eH, k1, k2⟩ => .inr ⟨T, .tup [u, v], hT, eH, fun F' g' hF' => by
    obtain ⟨x, y, e1, e2, rfl⟩ := zip_get h1
    obtain ⟨u', hu, ru⟩ := r.get e1
    obtain ⟨v', hv, rv⟩ := r'.get e2
    have q1 := k1 us (g.sqT h)
    have q2 := k2 vs (g.sqT h')
    rw [hu] at q1; cases q1
    rw [hv] at q2; cases q2
    subst ez
    exact .tup (.of upd_same) (.cons ((ru.gr g').gr (Gr.new hF')) (.cons ((rv.gr g').gr (Gr.new hF')) .nil))⟩
  stop := fun i H g h1 => ⟨us, vs, g.sqT h, g.sqT h', by rw [zip_len] at h1; rw [← r.length, ← r'.length]; omega⟩
theorem rit_zip {tgs : List Expr} {kk : Nat} {tpos : Pos} {f g : M PV} (hg : Gl X "zip") (hm : X.mg "zip" = none) (ha : RE X G Φ W a f) (hb : RE X G Φ W b g) (hs : starEach [a, b] X.env = (false, eval a X.env) :: starEach [b] X.env := by rfl) (hs' : starEach [b] X.env = (false, eval b X.env) :: starEach [] X.env := by rfl) (hpl : (backTo pos (starEach [b] X.env)).any (·.1) = false := by rfl) :
    RIt X G Φ W (.Tuple tgs kk tpos) (.Call (.Name "zip" p) [a, b] [] pos) (itZip f g) := fun Z hZ =>
  PI.lo (RZ.pi_zipA hg hm (pa_cons (ha Z hZ) (pa_cons (hb Z hZ) pa_nil hs') hs) hs hpl) fun σ H Q ⟨F, ρ, r, ρ', E, hf, q1, q2⟩ => by
    unfold itZip at hf
    rcases mB_cases hf with ⟨x, h1, rfl⟩ | ⟨pv, ρ1, h1, h2⟩
    · exact ⟨F, ρ, _, _, E, h1, fun _ e => (by cases e), fun y e => by cases e; exact q2 _ rfl⟩
    · refine ⟨F, ρ, _, _, E, h1, fun pv' e F1 v H1 g1 E1 hv => ?_, fun y e => by cases e⟩
      cases e
      obtain ⟨x, hx, h3⟩ := mO_some h2
      obtain ⟨F2, g2, E2, hr⟩ := hv.frz E1 hx
      rcases mB_cases h3 with ⟨z, h4, rfl⟩ | ⟨pv2, ρ2, h4, h5⟩
      · exact ⟨F2, ρ1, _, _, E2, h4, fun _ e => (by cases e), fun y e => by cases e; exact (q2 _ rfl).gr (g1.trans g2)⟩
      · refine ⟨F2, ρ1, _, _, E2, h4, fun as' e F3 v2 H3 g3 E3 hv2 => ?_, fun y e => by cases e⟩
        cases e
        obtain ⟨y, hy, h6⟩ := mO_some h5
        obtain ⟨F4, g4, E4, hr2⟩ := hv2.frz E3 hy
        have hr := hr.gr (g3.trans g4)
        split at h6
        · cases h6
          cases hr with
          | lst s1 r1 =>
            cases hr2 with
            | lst s2 r2 => exact ⟨_, _, _, _, rfl, .inl ⟨E4.ext.sqL s1, E4.ext.sqL s2, q1 _ rfl F4 _ H3 (((g1.trans g2).trans g3).trans g4) E4 (itz_ok s1 s2 r1 r2)⟩⟩
        · cases h6
          cases hr with
          | tup s1 r1 =>
            cases hr2 with
            | tup s2 r2 => exact ⟨_, _, _, _, rfl, .inr ⟨E4.ext.sqT s1, E4.ext.sqT s2, q1 _ rfl F4 _ H3 (((g1.trans g2).trans g3).trans g4) E4 (itzT_ok s1 s2 r1 r2)⟩⟩
        · cases h6
/-! ### range(a, b) -/
def smI (i : Int) : Bool := decide (-(2 ^ 62) ≤ i) && decide (i < 2 ^ 62)
def itRng2 (f g : Inr) : M (List D) := fun ρ => match f ρ, g ρ with
  | some (.int i), some (.int j) => if smI i && smI j then some (.ok ((List.range (j - i).toNat).map fun k => .int (i + (k : Nat))), ρ) else none
  | _, _ => none
theorem rit_rng2 {tg : Expr} {f g : Inr} (hg : Gl X "range") (hm : X.mg "range" = none) (ha : RI X G a f) (hb : RI X G b g) (hs : starEach [a, b] X.env = [(false, eval a X.env), (false, eval b X.env)] := by rfl) (hs2 : starEach [b] X.env = [(false, eval b X.env)] := by rfl) :
    RIt X G Φ W tg (.Call (.Name "range" p) [a, b] [] pos) (itRng2 f g) := fun Z hZ =>
  PI.lo (pi_range2 hg hm (pa_cons ha (pa_cons hb pa_nil (by rw [hs2]; rfl)) (by rw [hs, hs2])) hs hs2) fun σ H Q ⟨F, ρ, r, ρ', E, hf, q1, q2⟩ => by
    unfold itRng2 at hf
    split at hf
    · rename_i i j hi hj
      split at hf
      · rename_i hb
        cases hf
        unfold smI at hb
        simp only [Bool.and_eq_true, decide_eq_true_eq] at hb
        refine ⟨Z, F, ρ, _, E, hi, fun v hv => ⟨Z, F, ρ, _, E, hj, fun w hw => ?_⟩⟩
        cases hv; cases hw
        exact ⟨i, j, rfl, ⟨hb.1.1, hb.1.2, hb.2.1, hb.2.2⟩, q1 _ rfl F _ H Gr.rfl E itr_ok⟩
      · cases hf
    · cases hf
end
end Pl
/-! # A thing of the frame lent to a def -/
set_option linter.all false
set_option maxRecDepth 100000
namespace Pl
open PySem PySem.Spec L2
open PyProof.Rows hiding St
variable {G : Nat → Option CI}
theorem args_bor {K : PySem.W.Frag} {Z : Zone} {F H : Hp} {ρ : En} {σ : L2.St} {ds : List D} {vs : List V} {o : OD} {l : Addr} (E : EnvOk K G Z F ρ σ H) (r : Reps K G F ds vs) (hF : F l = none) (ho : OwnAt K G F H l o) :
    EnvOk K G (zoneOf H F (some l)) F ((PV.bor o :: ds.map PV.val).map some) ((.ref l :: vs).map some) H where
  len := by simp [r.length]
  ext := E.ext
  val := fun j d h => by
    have h1 := map_at h
    cases j with
    | zero => cases h1
    | succ j =>
      rw [List.getElem?_cons_succ, List.getElem?_map] at h1
      cases e : ds[j]? with
      | none => rw [e] at h1; cases h1
      | some d' =>
        rw [e] at h1; cases h1
        obtain ⟨v, h2, h3⟩ := r.get e
        exact ⟨v, sl_map (by rw [List.getElem?_cons_succ]; exact h2), h3⟩
  own := fun j o h => by
    have h1 := map_at h
    cases j with
    | zero => cases h1
    | succ j =>
      rw [List.getElem?_cons_succ, List.getElem?_map] at h1
      cases e : ds[j]? <;> rw [e] at h1 <;> cases h1
  bor := fun j o h => by
    have h1 := map_at h
    cases j with
    | zero =>
      cases h1
      exact ⟨l, sl_map rfl, hF, rfl, ho⟩
    | succ j =>
      rw [List.getElem?_cons_succ, List.getElem?_map] at h1
      cases e : ds[j]? <;> rw [e] at h1 <;> cases h1
  dis := fun j k o o' l h => by
    have h1 := map_at h
    cases j with
    | zero => cases h1
    | succ j =>
      rw [List.getElem?_cons_succ, List.getElem?_map] at h1
      cases e : ds[j]? <;> rw [e] at h1 <;> cases h1
  pins := fun j k l h h' => by
    unfold zoneOf at h h'
    dsimp only at h h'
    split at h
    · split at h'
      · omega
      · cases h'
    · cases h
  pinh := fun j m h => by
    unfold zoneOf at h ⊢
    dsimp only at h ⊢
    split at h
    · cases h; exact ho.there
    · cases h
  pinH := fun j m h => by
    unfold zoneOf at h
    dsimp only at h
    split at h
    · cases h; exact ho.there
    · cases h
  kept := fun a o h _ => h
  grow := fun a o h => .inl h
  gf := Gr.rfl
  adr := fun j a h => by
    have h1 := map_at h
    cases j with
    | zero => cases h1
    | succ j =>
      rw [List.getElem?_cons_succ, List.getElem?_map] at h1
      cases e : ds[j]? <;> rw [e] at h1 <;> cases h1
/-- the frame behind a call that has had l lent, l as it was -/
theorem EnvOk.backL {K : PySem.W.Frag} {Z : Zone} {F F' H H' : Hp} {l : Addr} {u0 : HO} {ρ ρ' : En} {σ σ' : L2.St} (E : EnvOk K G Z F ρ σ H) (g : Gr F F') (hl : H l = some u0) (hF : F' l = none) (E' : EnvOk K G (zoneOf H F (some l)) F' ρ' σ' H') : EnvOk K G Z F' ρ σ (upd H' l u0) :=
  E.grown (fun a o h => by
    by_cases ha : a = l
    · subst ha; rw [upd_same]; rw [hl] at h; exact h
    · rw [upd_ne ha]
      exact E'.kept a o h fun i hi => by
        unfold zoneOf at hi
        dsimp only at hi
        split at hi
        · cases hi; exact ha rfl
        · cases hi) g (fun a o h => by
    have ha : a ≠ l := fun z => by rw [z, hF] at h; cases h
    rw [upd_ne ha]; exact E'.ext a o h) (fun m ho => by
    obtain ⟨h1, u, h2⟩ := E.there ho
    cases e : F' m with
    | none => rfl
    | some o =>
      rcases E'.grow m o e with z | z
      · have z : F m = some o := z
        rw [h1] at z; cases z
      · have z : H m = none := z
        rw [h2] at z; cases z) fun a o h => E'.grow a o h
theorem upd_back {H' : Hp} {l : Addr} {u u0 : HO} (h : H' l = some u) : upd (upd H' l u0) l u = H' := by
  funext a
  by_cases ha : a = l
  · subst ha; rw [upd_same, h]
  · rw [upd_ne ha, upd_ne ha]
/-- what lies in the slot i, lent -/
def lent1 (i : Nat) (ρ : En) : Option (OD × (OD → PV)) := match ρ.at i with
  | some (.own o) => some (o, PV.own)
  | some (.bor o) => some (o, PV.bor)
  | _ => none
theorem lent_some {i : Nat} {ρ : En} {o : OD} {c : OD → PV} (h : lent1 i ρ = some (o, c)) : (ρ.at i = some (.own o) ∧ c = PV.own) ∨ (ρ.at i = some (.bor o) ∧ c = PV.bor) := by
  unfold lent1 at h
  split at h <;> cases h
  · exact .inl ⟨‹_›, rfl⟩
  · exact .inr ⟨‹_›, rfl⟩
theorem lent_at {K : PySem.W.Frag} {Z : Zone} {F H : Hp} {ρ : En} {σ : L2.St} {i : Nat} {o : OD} {c : OD → PV} (E : EnvOk K G Z F ρ σ H) (h : lent1 i ρ = some (o, c)) : ∃ l, sl σ i = some (.ref l) ∧ F l = none ∧ OwnAt K G F H l o ∧
    ∀ {F' H' : Hp} {o' : OD} {ρ' : En} {σ' : L2.St}, Gr F F' → F' l = none → OwnAt K G F' H' l o' → EnvOk K G (zoneOf H F (some l)) F' ρ' σ' H' → EnvOk K G Z F' (ρ.set i (some (c o'))) σ H' := by
  rcases lent_some h with ⟨ha, rfl⟩ | ⟨ha, rfl⟩
  · obtain ⟨l, s, hF, hz, ho⟩ := E.own i o ha
    refine ⟨l, s, hF, ho, fun g hF' ho' E' => ?_⟩
    obtain ⟨u0, hu0⟩ := ho.there
    obtain ⟨u, hu⟩ := ho'.there
    have E2 := E.backL g hu0 hF' E'
    have E3 := E2.write ha s (u := u) (by rw [upd_back hu]; exact ho')
    rwa [upd_back hu] at E3
  · obtain ⟨l, s, hF, hz, ho⟩ := E.bor i o ha
    refine ⟨l, s, hF, ho, fun g hF' ho' E' => ?_⟩
    obtain ⟨u0, hu0⟩ := ho.there
    obtain ⟨u, hu⟩ := ho'.there
    have E2 := E.backL g hu0 hF' E'
    have E3 := E2.writeB ha s (u := u) (by rw [upd_back hu]; exact ho')
    rwa [upd_back hu] at E3
def callB (den : Den) (i : Nat) (ds : List D) : M PV := fun ρ => match lent1 i ρ with
  | some (o, c) => (match den (.bor o :: ds.map PV.val) with
    | some (r, some o') => some (r, ρ.set i (some (c o')))
    | _ => none)
  | none => none
theorem ow_set {ρ : En} {σ : L2.St} {i : Nat} {o o' : OD} {c : OD → PV} {m : Addr} (h : lent1 i ρ = some (o, c)) (ho : Ow (ρ.set i (some (c o'))) σ m) : Ow ρ σ m := by
  obtain ⟨j, q, hp, hs⟩ := ho
  by_cases hj : i = j
  · subst hj
    rcases lent_some h with ⟨ha, _⟩ | ⟨ha, _⟩
    · exact ⟨i, o, .inl ha, hs⟩
    · exact ⟨i, o, .inr ha, hs⟩
  · rw [at_set_ne hj] at hp
    exact ⟨j, q, hp, hs⟩
section
variable {X : Cx} {Φ : Zone → Prop} {W : WX} {e a b c : Expr} {es : List Expr} {pos p p' apos : Pos} {st : Stmt} {rest : List Stmt}
/-- the core: the def's promise, its first argument lent -/
theorem lent_core {Z : Zone} {den : Den} {i : Nat} {F1 H1 : Hp} {ρ1 ρ' : En} {σ : L2.St} {ds : List D} {vs : List V} {v0 : V} {r : Except Ex PV} {Q : VK} (E1 : EnvOk X.K G Z F1 ρ1 σ H1) (hr : Reps X.K G F1 ds vs) (h0 : sl σ i = some v0) (h3 : callB den i ds ρ1 = some (r, ρ'))
    (q1 : ∀ pv, r = .ok pv → ∀ F' v H', Gr F1 F' → EnvOk X.K G Z F' ρ' σ H' → PvOk X.K G Z F' ρ' σ H' pv v → Q v H') (q2 : ∀ x, r = .error x → Erh X.K G Z W F1 ρ' x) :
    spD X.K G den (v0 :: vs) H1 Q (fun cls d H' => W cls d σ H') := by
  unfold callB at h3
  cases h1 : lent1 i ρ1 with
  | none => rw [h1] at h3; cases h3
  | some q =>
    obtain ⟨o, c⟩ := q
    rw [h1] at h3
    dsimp only at h3
    obtain ⟨l, s, hF, ho, back⟩ := lent_at E1 h1
    rw [h0] at s; cases s
    split at h3
    · rename_i r' o' hden
      cases h3
      have key : ∀ {F' : Hp} {H' : Hp}, Gr F1 F' → EnvOk X.K G (zoneOf H1 F1 (some l)) F' (upd0 (.bor o :: ds.map PV.val) (some o')) ((.ref l :: vs).map some) H' → EnvOk X.K G Z F' (ρ1.set i (some (c o'))) σ H' := fun g E' => by
        obtain ⟨m, s1, f1, z1, oo⟩ := E'.bor 0 o' rfl
        have hm : m = l := by cases z1; rfl
        subst hm
        exact back g f1 oo E'
      refine ⟨F1, .bor o :: ds.map PV.val, some l, r, some o', args_bor E1 hr hF ho, hden, fun pv e F' v H' g E' hp => ?_, fun x e F' c dd H' g E' hx => ?_⟩
      · refine q1 pv e F' v H' g (key g E') ?_
        cases pv with
        | val _ => exact hp
        | bor _ => exact hp
        | adr _ => exact hp
        | own _ =>
          obtain ⟨m, w1, w2, w3, w4, _⟩ := hp
          refine ⟨m, w1, w2, E1.fresh w3, w4, fun z => ?_⟩
          obtain ⟨_, u, hu⟩ := E1.there (ow_set h1 z)
          have w3 : H1 m = none := w3
          rw [w3] at hu; cases hu
      · exact q2 x e F' c dd σ H' g (key g E') hx
    · cases h3
def eCallB (den : Den) (i : Nat) (f : M (List Ag)) : M PV := fun ρ0 => if (lent1 i ρ0).isSome = true then (mB f fun as => mB (mO (Ag.ds as)) fun ds => callB den i ds) ρ0 else none
theorem re_callB {k : Nat} {f : Addr} {fd : FuncData} {ps : List Str} {den : Den} {x y : Str} {i : Nat} {fa : M (List Ag)} {yp : Pos} (F : DOk X.prog X.w X.K G X.mg X.base k f fd ps den) (hr : Room k X.A) (hg : Gl X x) (hm : X.mg x = some (.ref f)) (hk : PySem.W.keepIn X.K (.ref f) = true) (hb : Binds X.K fd ps [])
    (tk : Takes X W) (ha : RA X G Φ W es fa) (hN : X.N[i]? = some y := by rfl) (hv : Vis X.env.scope y := by first | exact Or.inl rfl | exact Or.inr (Or.inl rfl) | exact Or.inr (Or.inr rfl)) (hd : (y == ("__debug__" : Str)) = false := by decide) (hcd : (y == ("__classdict__" : Str)) = false := by decide)
    (hdb : (x == ("__debug__" : Str)) = false := by decide) (he : starEach (.Name y yp :: es) X.env = (false, eval (.Name y yp) X.env) :: starEach es X.env := by rfl) (hpl : (backTo pos (starEach es X.env)).any (·.1) = false := by rfl) :
    RE X G Φ W (.Call (.Name x p) (.Name y yp :: es) [] pos) (eCallB den i fa) := fun Z hZ => by
  refine PE.lo (pe_callSD (dvs := []) (E := fun σ cls d H' => W cls d σ H') F.fn hr hg hm hk hb .nil (fun σ => passAt' tk σ) (pa_cons (pe_var (i := i) hN hv hd hcd) (ha Z hZ) he) hdb he hpl) fun σ H Q ⟨F, ρ, r, ρ', E, hf, q1, q2⟩ => ?_
  unfold eCallB at hf
  split at hf
  · rename_i hsl
    obtain ⟨⟨o, c⟩, hoc⟩ := Option.isSome_iff_exists.mp hsl
    obtain ⟨l, s, _⟩ := lent_at E hoc
    refine ⟨.ref l, sl_some s, ?_⟩
    rcases mB_cases hf with ⟨x, h1, rfl⟩ | ⟨as, ρ1, h1, h2⟩
    · exact ⟨F, ρ, _, _, E, h1, fun _ e => (by cases e), fun y e => by cases e; exact q2 _ rfl⟩
    · refine ⟨F, ρ, _, _, E, h1, fun as' e F1 vs H1 g1 E1 hv => ?_, fun y e => by cases e⟩
      cases e
      obtain ⟨ds, hd', h3⟩ := mO_some h2
      have hrr := ags_reps hv hd'
      rw [List.append_nil]
      exact lent_core E1 hrr s h3 (fun pv e F' v H' g E' hp => q1 pv e F' v H' (g1.trans g) E' hp) fun x e => (q2 x e).gr g1
  · cases hf
end
end Pl
/-! # zip of a list and a tuple, in any order -/
set_option linter.all false
set_option maxRecDepth 100000
namespace Pl
open PySem PySem.Spec L2
open PyProof.Rows hiding St
def SqS (K : PySem.W.Frag) (H : Hp) (a : Addr) (xs : List V) : Bool → Prop
  | false => SqL K H a xs
  | true => SqT K H a xs
def IterS (h : Heap) (it l : Addr) (i : Nat) : Bool → Prop
  | false => h.IsListIter it l i
  | true => h.IsTupleIter it l i
def SeqS (h : Heap) (l : Addr) (items : Array Value) : Bool → Prop
  | false => h.IsList l items
  | true => h.IsTuple l items
theorem IterS.at {h h' : Heap} {it l : Addr} {i : Nat} : ∀ {b : Bool}, IterS h it l i b → (∀ o, h.get? it = some o → h'.get? it = some o) → IterS h' it l i b
  | false, s, k => Heap.IsListIter.at s k
  | true, s, k => Heap.IsTupleIter.at s k
theorem IterS.obj {h : Heap} {it l : Addr} {i : Nat} : ∀ {b : Bool}, IterS h it l i b → ∃ o, h.get? it = some o ∧ ∀ v, o.data ≠ .cell v
  | false, ⟨o, e, _, d⟩ => ⟨o, e, fun v q => by rw [d] at q; cases q⟩
  | true, ⟨o, e, _, d⟩ => ⟨o, e, fun v q => by rw [d] at q; cases q⟩
theorem SqS.seq {X : Cx} {pins : List (Addr × Obj)} {σ : L2.St} {H : Hp} {s : Shared} {a : Addr} {xs : List V} (I : Inv X pins σ H s) : ∀ {b : Bool}, SqS X.K H a xs b → ∃ its : List Value, Vals xs its ∧ SeqS s.heap a its.toArray b ∧ a < s.heap.objs.size
  | false, h => by
    obtain ⟨its, r, p, _⟩ := I.list h
    exact ⟨its, r, p.isList, p.lt⟩
  | true, h => by
    obtain ⟨its, r, p, _⟩ := I.tuple h
    obtain ⟨o, ho, _⟩ := id p
    exact ⟨its, r, p, Heap.lt_size ho⟩
theorem draws {prog : Program} {w : World} {A : Around} (hh : A.handled = none) (it l : Addr) (hne : l ≠ it) (items : Array Value) : ∀ b : Bool, Draws prog w A it [it, l] items.size (fun i v => items[i]? = some v) (fun i h => IterS h it l i b ∧ SeqS h l items b)
  | false => Draws.list hh it l hne items
  | true => Draws.tuple hh it l hne items
def begO (l : Addr) : Bool → Obj
  | false => { cls := .type "list_iterator", data := .fields #[.ref l, .int 0 0] }
  | true => { cls := .type "tuple_iterator", data := .fields #[.ref l, .int 0 0] }
theorem begins (l : Addr) (items : Array Value) : ∀ b : Bool, Begins (.ref l) (begO l b) fun h => SeqS h l items b
  | false => begins_list l items
  | true => begins_tuple l items
theorem beg_iter {h : Heap} {it l : Addr} : ∀ {b : Bool}, h.get? it = some (begO l b) → IterS h it l 0 b
  | false, e => ⟨_, e, rfl, rfl⟩
  | true, e => ⟨_, e, rfl, rfl⟩
/-- zip of what stands at a (b1: a tuple) and at b -/
def ItzM (K : PySem.W.Frag) (b1 b2 : Bool) (a b : Addr) (xs ys : List V) : It :=
  ⟨fun i H => SqS K H a xs b1 ∧ SqS K H b ys b2 ∧ i < xs.length ∧ i < ys.length,
    fun i H v H' => ∃ T x y, v = .ref T ∧ H T = none ∧ H' = upd H T (.tup [x, y]) ∧ xs[i]? = some x ∧ ys[i]? = some y,
    fun i H => SqS K H a xs b1 ∧ SqS K H b ys b2 ∧ (xs.length ≤ i ∨ ys.length ≤ i)⟩
theorem turn_zipM {P : Program} {w : World} {K : PySem.W.Frag} {elts : List Expr} {kk : Nat} {tpos : Pos} {b1 b2 : Bool} {a b z TI TO i1 i2 : Addr} {xs ys : List V} (S : ZipSep2 z TI TO i1 i2 [i1, a] [i2, b]) (ha : a ≠ i1) (hb : b ≠ i2) :
    Turn P w K (.Tuple elts kk tpos) (ItzM K b1 b2 a b xs ys) [z, TI, TO, i1, i2] z (fun i h => IsZip h z TI TO .none ∧ IsTupOf2 h TI (.ref i1) (.ref i2) ∧ (∃ x y, IsTupOf2 h TO x y) ∧ IterS h i1 a i b1 ∧ IterS h i2 b i b2 ∧ i ≤ xs.length ∧ i ≤ ys.length) where
  mem := by simp
  obj := fun i h st c hc => by
    obtain ⟨hz, hTI, ⟨x, y, hTO⟩, s1, s2, _⟩ := st
    have e' : c = z ∨ c = TI ∨ c = TO ∨ c = i1 ∨ c = i2 := by simpa using hc
    rcases e' with q | q | q | q | q
    · rw [q]; exact ⟨_, hz, fun v q => nomatch q⟩
    · rw [q]; exact ⟨_, hTI, fun v q => nomatch q⟩
    · rw [q]; exact ⟨_, hTO, fun v q => nomatch q⟩
    · rw [q]; exact s1.obj
    · rw [q]; exact s2.obj
  keep := fun i h h' st k => by
    obtain ⟨hz, hTI, ⟨x, y, hTO⟩, s1, s2, l⟩ := st
    exact ⟨k z (by simp) _ hz, k TI (by simp) _ hTI, ⟨x, y, k TO (by simp) _ hTO⟩, s1.at fun o q => k i1 (by simp) o q, s2.at fun o q => k i2 (by simp) o q, l⟩
  item := by
    intro X hP hw hK hc i pins s σ H E I hf st hg
    subst hP hw hK
    obtain ⟨hz, hTI, ⟨x0, y0, hTO⟩, s1, s2, l1, l2⟩ := st
    obtain ⟨hqx, hqy, m1, m2⟩ := hg
    obtain ⟨its, rv, p, lt1⟩ := hqx.seq I
    obtain ⟨its2, rv2, p2, lt2⟩ := hqy.seq I
    have z1 := rv.length
    have z2 := rv2.length
    have hzl : z < s.heap.objs.size := Heap.lt_size hz
    have hh : X.A.in1.handled = none := I.ok.hd hc
    refine wpAny_pyNext_zipD2_item S (draws hh i1 a ha its.toArray b1) (draws hh i2 b hb its2.toArray b2) hz hTI hTO ⟨s1, p⟩ ⟨s2, p2⟩ (by simp; omega) (by simp; omega) fun u u2 h' tk hu hu2 z' TO' st1 st2 hT hsz hk => ?_
    refine ⟨_, rfl, wpAny_letOwnedTupleGo_zip (s := { s with heap := h', toks := tk }) z' fun h'' z'' sb => ?_⟩
    have gx : xs[i]? = some xs[i] := List.getElem?_eq_getElem m1
    have gy : ys[i]? = some ys[i] := List.getElem?_eq_getElem m2
    obtain ⟨u', hu', ru⟩ := rv.get gx
    obtain ⟨u2', hu2', ru2⟩ := rv2.get gy
    have eu : u' = u := by
      have : its[i]? = some u := by simpa using hu
      rw [hu'] at this; exact Option.some.inj this
    have eu2 : u2' = u2 := by
      have : its2[i]? = some u2 := by simpa using hu2
      rw [hu2'] at this; exact Option.some.inj this
    subst eu eu2
    have hT2 : h''.get? s.heap.objs.size = some { cls := .type "tuple", data := .seq #[u', u2'] } := (sb.2 _ (Nat.ne_of_gt hzl)).trans hT
    have new : ObjOk X.prog X.w (upd H s.heap.objs.size (.tup [xs[i], ys[i]])) h'' s.heap.objs.size (.tup [xs[i], ys[i]]) :=
      ⟨by show 2 ≤ sizeLine; decide, [u', u2'], .cons ru (.cons ru2 .nil), ⟨_, hT2, rfl, _, rfl⟩⟩
    have I1 : Inv X pins σ (upd H s.heap.objs.size (.tup [xs[i], ys[i]])) { s with heap := h'', toks := tk } :=
      I.turnedNew (t' := tk) (ch := [z, TI, TO, i1, i2]) (fun c o hb q => (sb.2 c (fun q' => hb (by simp [q']))).trans (hk c o (fun q' => hb (by simp [q'])) (fun q' => hb (by simp [q'])) (fun q' => hb (by simp [q'])) (fun q' => hb (by simp [q'])) q)) hf (Nat.le_refl _) new
    refine ⟨.ref s.heap.objs.size, _, I1, rfl, ⟨_, xs[i], ys[i], rfl, I.hok.fresh (Nat.le_refl _), rfl, gx, gy⟩, ⟨z'', ?_, ⟨u', u2', ?_⟩, ?_, ?_, by omega, by omega⟩, fun c hcm => ?_⟩
    · exact (sb.2 _ S.TIz).trans (hk _ _ S.TIz S.TITO S.TIi1 S.TIi2 hTI)
    · exact (sb.2 _ S.TOz).trans TO'
    · exact st1.1.at fun o q => (sb.2 _ S.zi1.symm).trans q
    · exact st2.1.at fun o q => (sb.2 _ S.zi2.symm).trans q
    · have hlt : c < s.heap.objs.size := by
        have e' : c = z ∨ c = TI ∨ c = TO ∨ c = i1 ∨ c = i2 := by simpa using hcm
        rcases e' with q | q | q | q | q
        · rw [q]; exact hzl
        · rw [q]; exact Heap.lt_size hTI
        · rw [q]; exact Heap.lt_size hTO
        · rw [q]; obtain ⟨_, e1, _⟩ := s1.obj; exact Heap.lt_size e1
        · rw [q]; obtain ⟨_, e2, _⟩ := s2.obj; exact Heap.lt_size e2
      rw [upd_ne (Nat.ne_of_lt hlt)]
      exact (hf c hcm).1
  done := by
    intro X hP hw hK hc i pins s σ H E I hf st hg
    subst hP hw hK
    obtain ⟨hz, hTI, ⟨x0, y0, hTO⟩, s1, s2, l1, l2⟩ := st
    obtain ⟨hqx, hqy, hend⟩ := hg
    obtain ⟨its, rv, p, _⟩ := hqx.seq I
    obtain ⟨its2, rv2, p2, _⟩ := hqy.seq I
    have z1 := rv.length
    have z2 := rv2.length
    have hh : X.A.in1.handled = none := I.ok.hd hc
    exact wpAny_pyNext_zipD2_end S (draws hh i1 a ha its.toArray b1) (draws hh i2 b hb its2.toArray b2) hz hTI hTO ⟨s1, p⟩ ⟨s2, p2⟩ (by simp; omega) (by simp; omega) (by simp; omega) fun h' tk hk => ⟨rfl, I.turnedL (t' := tk) (ch := [z, TI, TO, i1, i2]) (fun c o hb q =>
      hk c o (fun q' => hb (by simp [q'])) (fun q' => hb (by simp [q'])) (fun q' => hb (by simp [q'])) (fun q' => hb (by simp [q'])) q) hf⟩
  self := fun A i s Q E st h => wpAny_pyIter_zip st.1 h
def iZipM (K : PySem.W.Frag) (ta : TA) : TI := fun σ H R => ta σ H fun vs H1 => ∃ (b1 b2 : Bool) (a b : Addr) (xs ys : List V), vs = [.ref a, .ref b] ∧ SqS K H1 a xs b1 ∧ SqS K H1 b ys b2 ∧ R (ItzM K b1 b2 a b xs ys) H1
theorem pi_zipM {X : Cx} {e e2 : Expr} {ta : TA} {p pos tpos : Pos} {elts : List Expr} {kk : Nat} (hg : Gl X "zip") (hm : X.mg "zip" = none) (ha : PA X [e, e2] ta)
    (hs : starEach [e, e2] X.env = (false, eval e X.env) :: starEach [e2] X.env := by rfl) (hpl : (backTo pos (starEach [e2] X.env)).any (·.1) = false := by rfl) :
    PI X (.Tuple elts kk tpos) (.Call (.Name "zip" p) [e, e2] [] pos) (iZipM X.K ta) := by
  refine ⟨fun pins s σ H R I h => ?_⟩
  refine Call_ (ld_blt I hg hm PyProof.Rows.boot_zip (PyProof.Rows.callWith_type1 (thn (ha.run pos pins s σ H _ I h) fun us s1 ⟨vs, H1, I1, r1, q1⟩ => ?_) hs hpl))
  obtain ⟨b1, b2, a, b, xs, ys, ex, hqx, hqy, q⟩ := q1
  subst ex
  obtain ⟨w1, w2, rfl, r1, r2⟩ := r1.two
  cases r1
  cases r2
  obtain ⟨its, rv, p1, lt1⟩ := hqx.seq I1
  obtain ⟨its2, rv2, p2, lt2⟩ := hqy.seq I1
  have n0 : a ≠ s1.heap.objs.size := Nat.ne_of_lt lt1
  have n1 : b ≠ s1.heap.objs.size + 1 := Nat.ne_of_lt (Nat.lt_succ_of_lt lt2)
  have le5 : ∀ c, c ∈ [s1.heap.objs.size + 4, s1.heap.objs.size + 2, s1.heap.objs.size + 3, s1.heap.objs.size, s1.heap.objs.size + 1] → s1.heap.objs.size ≤ c := fun c hc => by
    simp only [List.mem_cons, List.not_mem_nil, or_false] at hc
    rcases hc with q | q | q | q | q <;> rw [q] <;> first | exact Nat.le_refl _ | exact Nat.le_add_right _ _
  refine zip_begins2 (begins a its.toArray b1) (begins b its2.toArray b2) p1 p2 fun h' hz hTI hTO g1 g2 hsz hk => wpAny_pyIter_zip hz ?_
  have I2 : Inv X pins σ H1 { s1 with heap := h' } := I1.kept (t' := s1.toks) hk
  have S : ZipSep2 (s1.heap.objs.size + 4) (s1.heap.objs.size + 2) (s1.heap.objs.size + 3) s1.heap.objs.size (s1.heap.objs.size + 1) [s1.heap.objs.size, a] [s1.heap.objs.size + 1, b] := by
    have ne : ∀ {c d : Nat}, c < d → (c : Addr) ≠ d := fun h => Nat.ne_of_lt h
    have gt : ∀ {c d : Nat}, d < c → (c : Addr) ≠ d := fun h => Nat.ne_of_gt h
    have la : ∀ k : Nat, (s1.heap.objs.size + k : Addr) ≠ a := fun k => Nat.ne_of_gt (Nat.lt_of_lt_of_le lt1 (Nat.le_add_right _ _))
    have lb : ∀ k : Nat, (s1.heap.objs.size + k : Addr) ≠ b := fun k => Nat.ne_of_gt (Nat.lt_of_lt_of_le lt2 (Nat.le_add_right _ _))
    have two : ∀ {x y z : Addr}, x ≠ y → x ≠ z → x ∉ [y, z] := fun h1 h2 hm => by
      simp only [List.mem_cons, List.not_mem_nil, or_false] at hm
      rcases hm with hm | hm
      · exact h1 hm
      · exact h2 hm
    have add : ∀ {j k : Nat}, j < k → (s1.heap.objs.size + j : Addr) ≠ s1.heap.objs.size + k := fun h => Nat.ne_of_lt (Nat.add_lt_add_left h _)
    have add' : ∀ {j k : Nat}, k < j → (s1.heap.objs.size + j : Addr) ≠ s1.heap.objs.size + k := fun h => Nat.ne_of_gt (Nat.add_lt_add_left h _)
    exact {
      TIz := add (j := 2) (k := 4) (by decide), TOz := add (j := 3) (k := 4) (by decide), TITO := add (j := 2) (k := 3) (by decide), TIi1 := add' (j := 2) (k := 0) (by decide), mem1 := by simp
      zf1 := two (add' (j := 4) (k := 0) (by decide)) (la 4), Tf1 := two (add' (j := 3) (k := 0) (by decide)) (la 3), TIi2 := add' (j := 2) (k := 1) (by decide), mem2 := by simp
      zf2 := two (add' (j := 4) (k := 1) (by decide)) (lb 4), Tf2 := two (add' (j := 3) (k := 1) (by decide)) (lb 3), sep1_2 := two (add (j := 0) (k := 1) (by decide)) (lb 0), sep2_1 := two (add' (j := 1) (k := 0) (by decide)) (la 1) }
  exact ⟨s1.heap.objs.size + 4, [s1.heap.objs.size + 4, s1.heap.objs.size + 2, s1.heap.objs.size + 3, s1.heap.objs.size, s1.heap.objs.size + 1], _, _, H1, rfl, I2, turn_zipM S n0 n1, ⟨hz, hTI, ⟨_, _, hTO⟩, beg_iter g1, beg_iter g2, Nat.zero_le _, Nat.zero_le _⟩, fun c hc => I1.fpOk (le5 c hc) (I1.hok.fresh (le5 c hc)), q⟩
variable {G : Nat → Option CI}
theorem SqS.gr {K : PySem.W.Frag} {H H' : Hp} (g : Gr H H') {a : Addr} {xs : List V} : ∀ {b : Bool}, SqS K H a xs b → SqS K H' a xs b
  | false, h => g.sqL h
  | true, h => g.sqT h
theorem itzM_ok {K : PySem.W.Frag} {F : Hp} {b1 b2 : Bool} {p q : Addr} {xs ys : List D} {us vs : List V} (h : SqS K F p us b1) (h' : SqS K F q vs b2) (r : Reps K G F xs us) (r' : Reps K G F ys vs) : ItOk K G F (ItzM K b1 b2 p q us vs) (dZip xs ys) where
  go := fun i d H g h1 => by
    have hl := (List.getElem?_eq_some_iff.mp h1).1
    rw [zip_len] at hl
    exact ⟨h.gr g, h'.gr g, by rw [← r.length]; omega, by rw [← r'.length]; omega⟩
  yld := fun i d H z H' g h1 ⟨T, u, v, ez, hT, eH, k1, k2⟩ => .inr ⟨T, .tup [u, v], hT, eH, fun F' g' hF' => by
    obtain ⟨x, y, e1, e2, rfl⟩ := zip_get h1
    obtain ⟨u', hu, ru⟩ := r.get e1
    obtain ⟨v', hv, rv⟩ := r'.get e2
    rw [hu] at k1; cases k1
    rw [hv] at k2; cases k2
    subst ez
    exact .tup (.of upd_same) (.cons ((ru.gr g').gr (Gr.new hF')) (.cons ((rv.gr g').gr (Gr.new hF')) .nil))⟩
  stop := fun i H g h1 => ⟨h.gr g, h'.gr g, by rw [zip_len] at h1; rw [← r.length, ← r'.length]; omega⟩
section
variable {X : Cx} {Φ : Zone → Prop} {W : WX} {e a b c : Expr} {es : List Expr} {pos p p' apos : Pos}
def itZipM (f g : M PV) : M (List D) := mB f fun p1 => mB (mO p1.tree) fun x => mB g fun p2 => mB (mO p2.tree) fun y => match x, y with
  | .lst xs, .lst ys => mR (dZip xs ys)
  | .tup xs, .tup ys => mR (dZip xs ys)
  | .lst xs, .tup ys => mR (dZip xs ys)
  | .tup xs, .lst ys => mR (dZip xs ys)
  | _, _ => fun _ => none
theorem rit_zipM {tgs : List Expr} {kk : Nat} {tpos : Pos} {f g : M PV} (hg : Gl X "zip") (hm : X.mg "zip" = none) (ha : RE X G Φ W a f) (hb : RE X G Φ W b g) (hs : starEach [a, b] X.env = (false, eval a X.env) :: starEach [b] X.env := by rfl) (hs' : starEach [b] X.env = (false, eval b X.env) :: starEach [] X.env := by rfl) (hpl : (backTo pos (starEach [b] X.env)).any (·.1) = false := by rfl) :
    RIt X G Φ W (.Tuple tgs kk tpos) (.Call (.Name "zip" p) [a, b] [] pos) (itZipM f g) := fun Z hZ =>
  PI.lo (pi_zipM hg hm (pa_cons (ha Z hZ) (pa_cons (hb Z hZ) pa_nil hs') hs) hs hpl) fun σ H Q ⟨F, ρ, r, ρ', E, hf, q1, q2⟩ => by
    unfold itZipM at hf
    rcases mB_cases hf with ⟨x, h1, rfl⟩ | ⟨pv, ρ1, h1, h2⟩
    · exact ⟨F, ρ, _, _, E, h1, fun _ e => (by cases e), fun y e => by cases e; exact q2 _ rfl⟩
    · refine ⟨F, ρ, _, _, E, h1, fun pv' e F1 v H1 g1 E1 hv => ?_, fun y e => by cases e⟩
      cases e
      obtain ⟨x, hx, h3⟩ := mO_some h2
      obtain ⟨F2, g2, E2, hr⟩ := hv.frz E1 hx
      rcases mB_cases h3 with ⟨z, h4, rfl⟩ | ⟨pv2, ρ2, h4, h5⟩
      · exact ⟨F2, ρ1, _, _, E2, h4, fun _ e => (by cases e), fun y e => by cases e; exact (q2 _ rfl).gr (g1.trans g2)⟩
      · refine ⟨F2, ρ1, _, _, E2, h4, fun as' e F3 v2 H3 g3 E3 hv2 => ?_, fun y e => by cases e⟩
        cases e
        obtain ⟨y, hy, h6⟩ := mO_some h5
        obtain ⟨F4, g4, E4, hr2⟩ := hv2.frz E3 hy
        have hr := hr.gr (g3.trans g4)
        split at h6
        · cases h6
          cases hr with
          | lst s1 r1 =>
            cases hr2 with
            | lst s2 r2 => exact ⟨false, false, _, _, _, _, rfl, E4.ext.sqL s1, E4.ext.sqL s2, q1 _ rfl F4 _ H3 (((g1.trans g2).trans g3).trans g4) E4 (itzM_ok (b1 := false) (b2 := false) s1 s2 r1 r2)⟩
        · cases h6
          cases hr with
          | tup s1 r1 =>
            cases hr2 with
            | tup s2 r2 => exact ⟨true, true, _, _, _, _, rfl, E4.ext.sqT s1, E4.ext.sqT s2, q1 _ rfl F4 _ H3 (((g1.trans g2).trans g3).trans g4) E4 (itzM_ok (b1 := true) (b2 := true) s1 s2 r1 r2)⟩
        · cases h6
          cases hr with
          | lst s1 r1 =>
            cases hr2 with
            | tup s2 r2 => exact ⟨false, true, _, _, _, _, rfl, E4.ext.sqL s1, E4.ext.sqT s2, q1 _ rfl F4 _ H3 (((g1.trans g2).trans g3).trans g4) E4 (itzM_ok (b1 := false) (b2 := true) s1 s2 r1 r2)⟩
        · cases h6
          cases hr with
          | tup s1 r1 =>
            cases hr2 with
            | lst s2 r2 => exact ⟨true, false, _, _, _, _, rfl, E4.ext.sqT s1, E4.ext.sqL s2, q1 _ rfl F4 _ H3 (((g1.trans g2).trans g3).trans g4) E4 (itzM_ok (b1 := true) (b2 := false) s1 s2 r1 r2)⟩
        · cases h6
end
end Pl
/-! # == of data with instances that are alike -/
set_option linter.all false
set_option maxRecDepth 100000
namespace Pl
open PySem PySem.Spec L2
open PyProof.Rows hiding St
variable {G : Nat → Option CI}
/-- flat things, instances of the class c that are alike, tuples of these, at most n deep -/
def okS (c : Nat) (good : List D → Bool) : Nat → D → Bool
  | _, .non => true
  | _, .bl _ => true
  | _, .int _ => true
  | _, .str _ => true
  | _, .obj c' ds => decide (c' = c) && good ds
  | n + 1, .tup ds => ds.all (okS c good n)
  | _, _ => false
def DRep (K : PySem.W.Frag) (G : Nat → Option CI) (c : Nat) (good : List D → Bool) (n : Nat) : Eqv := fun u v H => ∃ F d, Gr F H ∧ Rep K G F d u ∧ Rep K G F d v ∧ okS c good n d = true
theorem mon_rep {K : PySem.W.Frag} {c : Nat} {good : List D → Bool} {n : Nat} : Mon (DRep K G c good n) := fun x y H H' e ⟨F, d, g, h1, h2, h3⟩ => ⟨F, d, g.trans e, h1, h2, h3⟩
theorem env_nil {K : PySem.W.Frag} {F H : Hp} (g : Gr F H) : EnvOk K G (zoneOf H F none) F [] [] H where
  len := rfl
  ext := g
  val := fun i d h => by simp [En.at] at h
  own := fun i d h => by simp [En.at] at h
  bor := fun i d h => by simp [En.at] at h
  dis := fun i j o o' l h => by simp [En.at] at h
  pins := fun i j l h => by
    unfold zoneOf at h
    dsimp only at h
    split at h <;> cases h
  pinh := fun i l h => by
    unfold zoneOf at h
    dsimp only at h
    split at h <;> cases h
  pinH := fun i l h => by
    unfold zoneOf at h
    dsimp only at h
    split at h <;> cases h
  kept := fun a o h _ => h
  grow := fun a o h => .inl h
  gf := Gr.rfl
  adr := fun i a h => by simp [En.at] at h
section
variable {X : Cx} {Φ : Zone → Prop} {W : WX} {e a b : Expr} {pos p p' apos : Pos}
/-- what the class's == promises of two that are alike -/
def Like (K : PySem.W.Frag) (G : Nat → Option CI) (c : Nat) (good : List D → Bool) : Addr → Addr → Hp → Prop := fun a b H => ∃ F ds, Gr F H ∧ Rep K G F (.obj c ds) (.ref a) ∧ Rep K G F (.obj c ds) (.ref b) ∧ good ds = true
theorem sp_like {K : PySem.W.Frag} {c : Nat} {good : List D → Bool} {den : Den} (hg : ∀ ds, good ds = true → den [.val (.obj c ds), .val (.obj c ds)] = some (.ok (.val (.bl true)), none)) : ∀ vs H Q E, spEq (Like K G c good) vs H Q E → spD K G den vs H Q E := by
  rintro vs H Q E ⟨a, b, rfl, ⟨F, ds, g, h1, h2, h3⟩, q⟩
  refine ⟨F, [D.obj c ds, D.obj c ds].map PV.val, none, _, none, args_vals (env_nil g) (.cons h1 (.cons h2 .nil)), hg ds h3, fun pv e F' v H' g' E' hp => ?_, fun x e => by cases e⟩
  cases e
  cases (show Rep K G F' (.bl true) v from hp)
  refine q H' fun a o h => E'.kept a o h fun i hi => ?_
  unfold zoneOf at hi
  dsimp only at hi
  split at hi <;> cases hi
theorem eqG_rep {k : Nat} {c : Nat} {i : CI} {f : Addr} {fd : FuncData} {ps : List Str} {den : Den} {good : List D → Bool} (hi : G c = some i) (hM : Meth X.K i.adr "__eq__" f) (F : DOk X.prog X.w X.K G X.mg X.base k f fd ps den) (hb : Binds X.K fd ps [])
    (hg : ∀ ds, good ds = true → den [.val (.obj c ds), .val (.obj c ds)] = some (.ok (.val (.bl true)), none)) : ∀ n, EqG X (k + n) (DRep X.K G c good n) := by
  have ins : EqG X k (DIns i.adr (Like X.K G c good)) := eqG_ins (CX := L2.CX X.prog X.w) (E := E0) (F.fn.imp (sp_like hg)) hM.at_ hM.fn hb passL
  have base : ∀ {u v H F d}, Gr F H → Rep X.K G F d u → Rep X.K G F d v → (∀ ds, d ≠ .tup ds) → (∀ n, okS c good n d = true → DFlat u v H ∨ DIns i.adr (Like X.K G c good) u v H) := by
    intro u v H F d g h1 h2 hn n h3
    cases h1 with
    | non => cases h2; exact .inl ⟨rfl, rfl, rfl⟩
    | bl b => cases h2; exact .inl ⟨rfl, rfl, by simp [eqV]⟩
    | int b => cases h2; exact .inl ⟨rfl, rfl, by simp [eqV]⟩
    | str b => cases h2; exact .inl ⟨rfl, rfl, by simp [eqV]⟩
    | tup _ _ => exact absurd rfl (hn _)
    | lst _ _ => cases n <;> cases h3
    | dct _ _ _ => cases n <;> cases h3
    | obj q1 q2 q3 q4 =>
      rename_i c' i' ds a dx vs
      have h3' : (decide (c' = c) && good ds) = true := by cases n <;> exact h3
      rw [Bool.and_eq_true, decide_eq_true_eq] at h3'
      obtain ⟨rfl, hgd⟩ := h3'
      rw [hi] at q1; cases q1
      cases h2 with
      | obj w1 w2 w3 w4 =>
        rw [hi] at w1; cases w1
        exact .inr ⟨_, _, _, _, _, _, rfl, rfl, g _ _ q2, g _ _ w2, F, ds, g, .obj hi q2 q3 q4, .obj hi w2 w3 w4, hgd⟩
  have flat : EqG X k (fun u v H => DFlat u v H ∨ DIns i.adr (Like X.K G c good) u v H) := (eqG_flat.mono (Nat.zero_le _)).or ins
  intro n
  induction n with
  | zero =>
    refine flat.imp fun u v H ⟨F, d, g, h1, h2, h3⟩ => base g h1 h2 (fun ds e => by subst e; cases h3) 0 h3
  | succ n ih =>
    refine ((flat.mono (Nat.le_trans (Nat.le_add_right k n) (Nat.le_succ _))).or (eqG_tup mon_rep ih)).imp fun u v H ⟨F, d, g, h1, h2, h3⟩ => ?_
    by_cases ht : ∃ ds, d = .tup ds
    · obtain ⟨ds, rfl⟩ := ht
      refine .inr ?_
      cases h1 with
      | tup s1 r1 =>
        cases h2 with
        | tup s2 r2 =>
          refine ⟨_, _, _, _, rfl, rfl, g.sqT s1, g.sqT s2, by rw [← r1.length, ← r2.length], fun j x y hx hy => ?_⟩
          obtain ⟨d1, e1, q1⟩ := r1.getV hx
          obtain ⟨d2, e2, q2⟩ := r2.getV hy
          rw [e1] at e2; cases e2
          exact ⟨F, d1, g, q1, q2, List.all_eq_true.mp h3 _ (List.mem_of_getElem? e1)⟩
    · exact .inl (base g h1 h2 (fun ds e => ht ⟨ds, e⟩) (n + 1) h3)
open Classical in
/-- == of two that are alike -/
noncomputable def dLike (c : Nat) (good : List D → Bool) (n : Nat) (x y : D) : Option PV := if x = y ∧ okS c good n x = true ∧ (∃ ds, x = .tup ds) then some (.val (.bl true)) else none
def rLike (X : Cx) (G : Nat → Option CI) (c : Nat) (good : List D → Bool) (n : Nat) : R2 := rEqG (DTup X.K (DRep X.K G c good n))
theorem opr_like {c : Nat} {good : List D → Bool} {n : Nat} : OpR2 X G (rLike X G c good n) (dLike c good (n + 1)) := fun Z F ρ σ H x y pv u v Q E h hu hv q => by
  unfold dLike at h
  split at h
  · rename_i hh
    obtain ⟨rfl, h3, ds, rfl⟩ := hh
    cases h
    refine ⟨?_, fun H' e => q F _ H' Gr.rfl (E.heap e) (.bl true)⟩
    cases hu with
    | tup s1 r1 =>
      cases hv with
      | tup s2 r2 =>
        refine ⟨_, _, _, _, rfl, rfl, E.ext.sqT s1, E.ext.sqT s2, by rw [← r1.length, ← r2.length], fun j x y hx hy => ?_⟩
        obtain ⟨d1, e1, q1⟩ := r1.getV hx
        obtain ⟨d2, e2, q2⟩ := r2.getV hy
        rw [e1] at e2; cases e2
        exact ⟨F, d1, E.ext, q1, q2, List.all_eq_true.mp h3 _ (List.mem_of_getElem? e1)⟩
  · cases h
theorem re_like {k n : Nat} {c : Nat} {i : CI} {f : Addr} {fd : FuncData} {ps : List Str} {den : Den} {good : List D → Bool} {fa fb : M PV} (hi : G c = some i) (hM : Meth X.K i.adr "__eq__" f) (F : DOk X.prog X.w X.K G X.mg X.base k f fd ps den) (hb : Binds X.K fd ps [])
    (hg : ∀ ds, good ds = true → den [.val (.obj c ds), .val (.obj c ds)] = some (.ok (.val (.bl true)), none)) (hr : Room (k + n + 1) X.A) (ha : RE X G Φ W a fa) (hb' : RE X G Φ W b fb) : RE X G Φ W (.Compare a [.Eq] [b] pos) (eF2 (dLike c good (n + 1)) fa fb) := fun Z hZ =>
  PE.lo (pe_cmpR (op_eqG (rcG_tup mon_rep (eqG_rep hi hM F hb hg n)) hr) (ha Z hZ) (hb' Z hZ) (nomark _)) (tE_R2 opr_like)
end
end Pl
/-! # len(x) by the class's own __len__ -/
set_option linter.all false
set_option maxRecDepth 100000
namespace Pl
open PySem PySem.Spec L2
open PyProof.Rows hiding St
variable {G : Nat → Option CI}
section
variable {X : Cx} {Φ : Zone → Prop} {W : WX} {e a b : Expr} {pos p p' apos : Pos}
theorem Room.at1 {k : Nat} {A : Around} (hr : Room (k + 1) A) : Room k A.in1 := hr.in1
/-- a def called one step further in -/
theorem run_in1 {k : Nat} {f : Addr} {fd : FuncData} {ps : List Str} {sp : Sp} {pins : List (Addr × Obj)} {σ : L2.St} {H : Hp} {s : Shared} {Q : VK} {us : List Value} {vs : List V} (F : FnOk X.prog X.w X.K X.mg X.base (L2.CX X.prog X.w) k f fd ps sp) (hr : Room (k + 1) X.A) (hb : Binds X.K fd ps [])
    (I : Inv X pins σ H s) (r : Vals vs us) (h : sp vs H Q E0) : wpAny (model X.prog X.w) X.A.in1 (call (.ref f) us) (EP X pins σ Q) X.xe s := by
  have hl : (us ++ []).length = ps.length := by rw [List.append_nil, ← r.length]; exact F.len _ _ _ _ h
  have hb' : BindsTo s fd ⟨us, []⟩ (ps.zip us) := by
    have := hb s us I.kIn hl
    rwa [List.append_nil] at this
  refine wpAny_call (codeAny_mono (F.run X.A.in1 X.stack s H ⟨us, []⟩ us vs Q E0 hr.in1 I.env0.in1 hb' r h) fun r s' hq => ?_)
  cases r with
  | error e =>
    obtain ⟨_, _, _, _, _, _, _, _, _, _, _, _, z⟩ := hq
    exact z.elim
  | ok fl =>
    cases fl with
    | ret u => exact I.after hq
    | next => exact False.elim hq
    | brk => exact False.elim hq
    | cont => exact False.elim hq
def rLenO (C : Addr) (sp : Sp) : List V → Hp → VK → Prop := fun xs H Q => ∃ a dx fs, xs = [.ref a] ∧ H a = some (.ins C dx fs) ∧ sp xs H (fun v H' => ∃ n : Int, v = .int n ∧ 0 ≤ n ∧ n < 2 ^ 63 ∧ Q (.int n) H') E0
theorem call_lenO {k : Nat} {C f : Addr} {fd : FuncData} {ps : List Str} {sp : Sp} (hM : Meth X.K C "__len__" f) (F : FnOk X.prog X.w X.K X.mg X.base (L2.CX X.prog X.w) k f fd ps sp) (hr : Room (k + 1) X.A) (hb : Binds X.K fd ps []) : CallR X (.builtin "len") (rLenO C sp) := by
  intro pins s σ H xs us Q I r h
  obtain ⟨a, dx, fs, rfl, ea, q⟩ := h
  obtain ⟨u, rfl, rx⟩ := vals1 r
  cases rx
  obtain ⟨mA, J, _⟩ := ins_get I.hok ea
  obtain ⟨od, J, _⟩ := J.look
  obtain ⟨m, hF⟩ := I.fr
  refine PySem.W.len_K hF I.ok.mod.kin J hM.at_ hM.fn (wpAny_mono (run_in1 (us := [.ref a]) (vs := [.ref a]) F hr hb I (.cons rfl .nil) q) (fun v s' z => ?_) fun _ _ x => x)
  obtain ⟨v', H', I', rv, n, ev, h0, h1, q'⟩ := z
  subst ev
  obtain ⟨t, rfl⟩ := rv
  exact ⟨⟨h0, h1⟩, .int n, H', I'.tok _, ⟨_, rfl⟩, q'⟩
/-- len(x), x of the class c -/
def eLenO (c : Nat) (den : Den) (fa : M PV) : M PV := mB fa fun p1 => mB (mO (recv c p1)) fun cs ρ => match den [.val (.obj c cs)] with
  | some (.ok (.val (.int n)), none) => if 0 ≤ n ∧ n < 2 ^ 63 then some (.ok (.val (.int n)), ρ) else none
  | _ => none
theorem re_lenO {k c : Nat} {i : CI} {f : Addr} {fd : FuncData} {ps : List Str} {den : Den} {fa : M PV} (hi : G c = some i) (hM : Meth X.K i.adr "__len__" f) (F : DOk X.prog X.w X.K G X.mg X.base k f fd ps den) (hr : Room (k + 1) X.A) (hb : Binds X.K fd ps [])
    (hl : Gl X "len") (hm : X.mg "len" = none) (ha : RE X G Φ W a fa) (hs : starEach [a] X.env = (false, eval a X.env) :: starEach [] X.env := by rfl) (hpl : (backTo pos (starEach [] X.env)).any (·.1) = false := by rfl) : RE X G Φ W (.Call (.Name "len" p) [a] [] pos) (eLenO c den fa) := fun Z hZ =>
  PE.lo (pe_callB (call_lenO hM F.fn hr hb) hl hm bt_len (pa_cons (ha Z hZ) pa_nil hs) (by decide) (by decide) hs hpl) fun σ H Q ⟨F, ρ, r, ρ', E, hf, q1, q2⟩ => by
    unfold eLenO at hf
    rcases mB_cases hf with ⟨x, h1, rfl⟩ | ⟨pv, ρ1, h1, h2⟩
    · exact ⟨F, ρ, _, _, E, h1, fun _ e => (by cases e), fun y e => by cases e; exact q2 _ rfl⟩
    · refine ⟨F, ρ, _, _, E, h1, fun pv' e F1 v H1 g1 E1 hv => ?_, fun y e => by cases e⟩
      cases e
      obtain ⟨cs, hcs, h6⟩ := mO_some h2
      cases recv_some hcs
      have hr : Rep X.K G F1 (.obj c cs) v := hv
      obtain ⟨a, dx, fs, e1, e2⟩ := rep_ins E1.ext hi hr
      refine ⟨a, dx, fs, by rw [e1], e2, ?_⟩
      have hR : Reps X.K G F1 [.obj c cs] [v] := .cons hr .nil
      split at h6
      · rename_i n hden
        split at h6
        · rename_i hn
          cases h6
          refine ⟨F1, [D.obj c cs].map PV.val, none, _, none, args_vals E1 hR, hden, fun pv e F' v H' g E' hp => ?_, fun x e => by cases e⟩
          cases e
          cases (show Rep X.K G F' (.int n) v from hp)
          exact ⟨n, rfl, hn.1, hn.2, q1 _ rfl F' _ H' (g1.trans g) (E1.back g E') (.int n)⟩
        · cases h6
      · cases h6
end
/-! ### a block's names, looked at -/
def blkB (N : List Str) (sc scope : Scope) (own : List (Str × Nat)) : Bool :=
  decide (scope.kind = .function) && scope.names.all (fun y => decide (scope.names.lookup y.1 = some y.2)) && own.all (fun p => decide (N[p.2]? = some p.1)) &&
  scope.names.all (fun y => !decide (y.2 = .free) || (decide (sc.names.lookup y.1 = some .cell) || decide (sc.names.lookup y.1 = some .free))) &&
  scope.names.all (fun y => !(decide (y.2 = .local) || decide (y.2 = .cell)) || (decide (y.1 ∈ own.map (·.1)) || !decide (y.1 ∈ N)))
theorem blk_by {N : List Str} {sc scope : Scope} {own : List (Str × Nat)} (h : blkB N sc scope own = true) : BlkOk N sc scope own := by
  unfold blkB at h
  simp only [Bool.and_eq_true, decide_eq_true_eq, List.all_eq_true, Bool.or_eq_true, Bool.not_eq_true', decide_eq_false_iff_not] at h
  obtain ⟨⟨⟨⟨h1, h2⟩, h3⟩, h4⟩, h5⟩ := h
  refine ⟨h1, h2, h3, fun y hy hf => ?_, fun y hy ho => ?_⟩
  · rcases h4 y hy with z | z
    · exact absurd hf z
    · exact z
  · rcases h5 y hy with z | z
    · simp only [Bool.or_eq_false_iff, decide_eq_false_iff_not] at z
      rcases ho with ho | ho
      · exact absurd ho z.1
      · exact absurd ho z.2
    · exact z
/-! ### a, b = e, f: the stores in the order of the text -/
def sPar (is : List Nat) (f : M (List Ag)) : M Fl := mB f fun as => mB (mO (Ag.ds as)) fun ds ρ => match is, ds with
  | [i, j], [x, y] => some (.ok .next, (ρ.set i (some (.val x))).set j (some (.val y)))
  | [i, j, l], [x, y, z] => some (.ok .next, ((ρ.set i (some (.val x))).set j (some (.val y))).set l (some (.val z)))
  | _, _ => none
section
variable {X : Cx} {Φ : Zone → Prop} {W : WX} {a b c : Expr} {pos : Pos}
theorem put_val {K : PySem.W.Frag} {Z : Zone} {F H : Hp} {ρ : En} {σ : L2.St} {d : D} {v : V} {i : Nat} (E : EnvOk K G Z F ρ σ H) (h : Rep K G F d v) : EnvOk K G Z F (ρ.set i (some (.val d))) (σ.set i (some v)) H := put_any E (pv := .val d) h
theorem rs_par {i j : Nat} {x y : Str} {f : M (List Ag)} {px py pt : Pos} {kt k2 pt2} (hN : X.N.Nodup) (hij : i ≠ j) (hc : X.calm = true) (ha : RA X G Φ W [a, b] f) (hi : X.N[i]? = some x := by rfl) (hj : X.N[j]? = some y := by rfl)
    (hx : X.env.scope.names.lookup x = some .local := by rfl) (hy : X.env.scope.names.lookup y = some .local := by rfl)
    (hw : swappedStores [.Tuple [.Name x px, .Name y py] kt pt] (.Tuple [a, b] k2 pt2) X.env = pure (some [x, y]) := by rfl)
    (hs : swapsWithSole [.Tuple [.Name x px, .Name y py] kt pt] (.Tuple [a, b] k2 pt2) pos.line X.env = pure false := by rfl) :
    RS X G Φ W (.Assign [.Tuple [.Name x px, .Name y py] kt pt] (.Tuple [a, b] k2 pt2) pos) (sPar [i, j] f) := fun Z hZ =>
  PS.lo (ps_par hc hN hi hj hij hx hy (ha Z hZ) hw hs) fun D σ H ⟨F, ρ, r, ρ', E, hf, q1, q2⟩ => by
    unfold sPar at hf
    rcases mB_cases hf with ⟨x, h1, rfl⟩ | ⟨as, ρ1, h1, h2⟩
    · exact ⟨F, ρ, _, _, E, h1, fun _ e => (by cases e), fun y e => by cases e; exact q2 _ rfl⟩
    · refine ⟨F, ρ, _, _, E, h1, fun as' e F1 vs H1 g1 E1 hv => ?_, fun y e => by cases e⟩
      cases e
      obtain ⟨ds, hd, h3⟩ := mO_some h2
      have hr := ags_reps hv hd
      split at h3
      · rename_i i' j' x' y' e1
        cases e1
        cases h3
        cases hr with
        | cons r1 hr =>
          cases hr with
          | cons r2 hr =>
            cases hr
            exact ⟨_, _, rfl, q1 _ rfl F1 _ H1 g1 (put_val (put_val E1 r1) r2)⟩
      · rename_i e1; cases e1
      · cases h3
theorem rs_par3 {i j l : Nat} {x y z : Str} {f : M (List Ag)} {px py pz pt : Pos} {kt k2 pt2} (hN : X.N.Nodup) (hij : i ≠ j) (hil : i ≠ l) (hjl : j ≠ l) (hc : X.calm = true) (ha : RA X G Φ W [a, b, c] f) (hi : X.N[i]? = some x := by rfl) (hj : X.N[j]? = some y := by rfl) (hl : X.N[l]? = some z := by rfl)
    (hx : X.env.scope.names.lookup x = some .local := by rfl) (hy : X.env.scope.names.lookup y = some .local := by rfl) (hz : X.env.scope.names.lookup z = some .local := by rfl)
    (hw : swappedStores [.Tuple [.Name x px, .Name y py, .Name z pz] kt pt] (.Tuple [a, b, c] k2 pt2) X.env = pure (some [x, y, z]) := by rfl)
    (hs : swapsWithSole [.Tuple [.Name x px, .Name y py, .Name z pz] kt pt] (.Tuple [a, b, c] k2 pt2) pos.line X.env = pure false := by rfl) :
    RS X G Φ W (.Assign [.Tuple [.Name x px, .Name y py, .Name z pz] kt pt] (.Tuple [a, b, c] k2 pt2) pos) (sPar [i, j, l] f) := fun Z hZ =>
  PS.lo (ps_par3 hc hN hi hj hl hij hil hjl hx hy hz (ha Z hZ) hw hs) fun D σ H ⟨F, ρ, r, ρ', E, hf, q1, q2⟩ => by
    unfold sPar at hf
    rcases mB_cases hf with ⟨x, h1, rfl⟩ | ⟨as, ρ1, h1, h2⟩
    · exact ⟨F, ρ, _, _, E, h1, fun _ e => (by cases e), fun y e => by cases e; exact q2 _ rfl⟩
    · refine ⟨F, ρ, _, _, E, h1, fun as' e F1 vs H1 g1 E1 hv => ?_, fun y e => by cases e⟩
      cases e
      obtain ⟨ds, hd, h3⟩ := mO_some h2
      have hr := ags_reps hv hd
      split at h3
      · rename_i e1; cases e1
      · rename_i i' j' l' x' y' z' e1
        cases e1
        cases h3
        cases hr with
        | cons r1 hr =>
          cases hr with
          | cons r2 hr =>
            cases hr with
            | cons r3 hr =>
              cases hr
              exact ⟨_, _, _, rfl, q1 _ rfl F1 _ H1 g1 (put_val (put_val (put_val E1 r1) r2) r3)⟩
      · cases h3
end
end Pl
set_option Elab.async false
set_option linter.all false
set_option maxRecDepth 100000
set_option maxHeartbeats 2000000
/-! # more constructs -/
namespace Pl
open PySem PySem.Spec L2
open PyProof.Rows hiding St
section
variable {X : Cx} {G : Nat → Option CI} {Φ : Zone → Prop} {W : WX} {e a b c : Expr} {es : List Expr} {pos p p' apos : Pos} {st : Stmt} {rest : List Stmt}
/-! ### in a list or tuple of flat things -/
def flats : List D → Option (List V)
  | [] => some []
  | d :: ds => match d.flat, flats ds with
    | some v, some vs => some (v :: vs)
    | _, _ => none
def dInF (neg : Bool) (x y : D) : Option D := match x.flat with
  | none => none
  | some u => match y with
    | .tup ds => (flats ds).map fun vs => .bl (xor neg (inV u vs))
    | .lst ds => (flats ds).map fun vs => .bl (xor neg (inV u vs))
    | _ => none
theorem flat_isV : ∀ {d : D} {v : V}, d.flat = some v → flatV v = true
  | .non, _, e => by cases e; rfl
  | .bl _, _, e => by cases e; rfl
  | .int _, _, e => by cases e; rfl
  | .str _, _, e => by cases e; rfl
  | .tup _, _, e => by cases e
  | .lst _, _, e => by cases e
  | .dct _ _, _, e => by cases e
  | .obj _ _, _, e => by cases e
theorem flats_reps {K : PySem.W.Frag} {F : Hp} : ∀ {ds : List D} {us vs : List V}, Reps K G F ds us → flats ds = some vs → us = vs ∧ vs.all flatV = true
  | [], _, _, .nil, e => by cases e; exact ⟨rfl, rfl⟩
  | d :: ds, _, vs, .cons h r, e => by
    rw [flats] at e
    split at e
    · rename_i v' vs' h1 h2
      cases e
      obtain ⟨q1, q2⟩ := flats_reps r h2
      have : _ = v' := pk_flat (h.pk (Gr.rfl (H := F))) h1
      subst this; subst q1
      exact ⟨rfl, by rw [List.all_cons, flat_isV h1, q2]; rfl⟩
    · cases e
theorem inF_pk {neg : Bool} {F H : Hp} {x y d : D} {u v : V} (h : dInF neg x y = some d) (hu : Pk X.K G F H x u) (hv : Pk X.K G F H y v) : ∃ p xs, v = .ref p ∧ (SqL X.K H p xs ∨ SqT X.K H p xs) ∧ flatV u = true ∧ xs.all flatV = true ∧ d = .bl (xor neg (inV u xs)) := by
  unfold dInF at h
  split at h
  · cases h
  · rename_i w hw
    have e1 := pk_flat hu hw
    subst e1
    cases y with
    | tup ds =>
      have h' : ((flats ds).map fun vs => D.bl (xor neg (inV u vs))) = some d := h
      cases hf : flats ds with
      | none => rw [hf] at h'; cases h'
      | some vs =>
        rw [hf] at h'
        cases h'
        rcases (show (∃ a vs, v = .ref a ∧ SqT X.K H a vs ∧ Reps X.K G F ds vs) from hv) with ⟨a, us, rfl, s, r⟩
        obtain ⟨q1, q2⟩ := flats_reps r hf
        subst q1
        exact ⟨_, _, rfl, .inr s, flat_isV hw, q2, rfl⟩
    | lst ds =>
      have h' : ((flats ds).map fun vs => D.bl (xor neg (inV u vs))) = some d := h
      cases hf : flats ds with
      | none => rw [hf] at h'; cases h'
      | some vs =>
        rw [hf] at h'
        cases h'
        rcases (show (∃ a vs, v = .ref a ∧ SqL X.K H a vs ∧ Reps X.K G F ds vs) from hv) with ⟨a, us, rfl, s, r⟩
        obtain ⟨q1, q2⟩ := flats_reps r hf
        subst q1
        exact ⟨_, _, rfl, .inl s, flat_isV hw, q2, rfl⟩
    | non => cases h
    | bl _ => cases h
    | int _ => cases h
    | str _ => cases h
    | dct _ _ => cases h
    | obj _ _ => cases h
theorem opi_inF : OpI X G (rIn X.K false) (dInF false) := fun Z F ρ σ H x y d u v Q E h hu hv q => by
  obtain ⟨p, xs, rfl, hs, f1, f2, rfl⟩ := inF_pk h hu hv
  exact ⟨p, xs, rfl, hs, f1, f2, by have := q _ (.bl _); simpa using this⟩
theorem opi_notInF : OpI X G (rIn X.K true) (dInF true) := fun Z F ρ σ H x y d u v Q E h hu hv q => by
  obtain ⟨p, xs, rfl, hs, f1, f2, rfl⟩ := inF_pk h hu hv
  exact ⟨p, xs, rfl, hs, f1, f2, by have := q _ (.bl _); simpa using this⟩
/-! ### is True, is False -/
def dIsB (neg : Bool) (x y : D) : Option D := match x, y with
  | .bl a, .bl b => some (.bl (xor neg (decide (a = b))))
  | _, _ => none
theorem isB_pk {K : PySem.W.Frag} {neg : Bool} {F H : Hp} {x y d : D} {u v : V} (h : dIsB neg x y = some d) (hu : Pk K G F H x u) (hv : Pk K G F H y v) : ∃ a b : Bool, u = .bl a ∧ v = .bl b ∧ d = .bl (xor neg (decide (a = b))) := by
  unfold dIsB at h
  split at h
  · cases h; exact ⟨_, _, pk_bl hu, pk_bl hv, rfl⟩
  · cases h
theorem opi_isB : OpI X G rIsB (dIsB false) := fun Z F ρ σ H x y d u v Q E h hu hv q => by
  obtain ⟨a, b, rfl, rfl, rfl⟩ := isB_pk h hu hv
  exact ⟨a, b, rfl, rfl, by have := q _ (.bl _); simpa using this⟩
theorem opi_notB : OpI X G rNotB (dIsB true) := fun Z F ρ σ H x y d u v Q E h hu hv q => by
  obtain ⟨a, b, rfl, rfl, rfl⟩ := isB_pk h hu hv
  exact ⟨a, b, rfl, rfl, by have := q _ (.bl _); simpa using this⟩
end
end Pl
set_option Elab.async false
set_option linter.all false
set_option maxRecDepth 100000
set_option maxHeartbeats 2000000
/-! # enumerate of a list or a tuple -/
namespace Pl
open PySem PySem.Spec L2
open PyProof.Rows hiding St
/-- what enumerate(v) makes, v told by its iterator -/
theorem new_enum {v : Value} {o : Obj} {P : Heap → Prop} (B : Begins v o P) :
    Meets (Builtin.«enumerate.__new__» ⟨[.type "enumerate", v], []⟩) fun _ R s => P s.heap ∧
      R (.ok (.ret (.ref (s.heap.push o).objs.size)))
        { s with heap := (s.heap.push o).push { cls := .type "enumerate", data := .fields #[.none, .bool false, .ref s.heap.objs.size, rawInt 0, .none, .none] } } :=
  .of_wp fun prog w A R s hs => by
    obtain ⟨hp, g, d, tk, os⟩ := s
    obtain ⟨h1, h2⟩ := hs
    have sub := sub_enumerate
    have it0 : ∀ {A1 : Around} {E1 Q1 : Value → Shared → Prop}, Q1 (.ref hp.objs.size) ⟨hp.push o, g, d, tk, os⟩ → wpAny (model prog w) A1 (pyIter v) Q1 E1 ⟨hp, g, d, tk, os⟩ := fun z => B.iter prog w _ _ ⟨hp, g, d, tk, os⟩ _ h1 z
    wp_walk using it0
    refine wpAny_stack_any fun z => wpAny_pure ?_
    split
    · rename_i cc _ _ _ _ _
      cases (cc == Value.type "enumerate") <;> (wp_walk using it0; exact ⟨_, rfl, h2⟩)
    · wp_walk using it0
      exact ⟨_, rfl, h2⟩
theorem call_enum {prog : Program} {w : World} {A : Around} {E Q : Value → Shared → Prop} {s : Shared} {v : Value} {o : Obj} {P : Heap → Prop} (B : Begins v o P) (h1 : P s.heap)
    (h : ∀ h', IsEnum h' (s.heap.objs.size + 1) s.heap.objs.size 0 .none → h'.get? s.heap.objs.size = some o → (∀ b u, s.heap.get? b = some u → h'.get? b = some u) → Q (.ref (s.heap.objs.size + 1)) { s with heap := h' }) :
    wpAny (model prog w) A (call (.type "enumerate") [v]) Q E s := by
  have sz : (s.heap.push o).objs.size = s.heap.objs.size + 1 := Heap.size_push ..
  refine callType_new F.called_enumerate (by decide) (F.typeCall_enumerate_1 _) (F.newCall_enumerate_1 _) (fun z => F.args_object_init_2 z _) F.entry_enumerate_new (new_enum B) ⟨h1, ?_⟩
  have top : IsEnum ((s.heap.push o).push { cls := .type "enumerate", data := .fields #[.none, .bool false, .ref s.heap.objs.size, rawInt 0, .none, .none] }) (s.heap.objs.size + 1) s.heap.objs.size 0 .none := by
    rw [← sz]; exact Heap.get?_push_size (s.heap.push o) rfl
  show _ ∧ _
  rw [sz]
  exact ⟨⟨_, top, rfl⟩, h _ top (Heap.get?_push_of_some _ (Heap.get?_push_size _ B.free)) fun b u x => Heap.get?_push_of_some _ (Heap.get?_push_of_some _ x)⟩
/-- enumerate of what stands at a -/
def IteM (K : PySem.W.Frag) (b : Bool) (a : Addr) (xs : List V) : It :=
  ⟨fun i H => SqS K H a xs b ∧ i < xs.length, fun i H v H' => ∃ T x, v = .ref T ∧ H T = none ∧ H' = upd H T (.tup [.int (i : Nat), x]) ∧ xs[i]? = some x, fun i H => SqS K H a xs b ∧ xs.length ≤ i⟩
theorem turn_enumM {P : Program} {w : World} {K : PySem.W.Frag} {elts : List Expr} {kk : Nat} {tpos : Pos} {b : Bool} {a e it : Addr} {xs : List V} (ha : a ≠ it) (hei : e ≠ it) (hea : e ≠ a) :
    Turn P w K (.Tuple elts kk tpos) (IteM K b a xs) [e, it] e (fun i h => (∃ old, IsEnum h e it ((i : Nat) : Int) old) ∧ IterS h it a i b ∧ i ≤ xs.length) where
  mem := by simp
  obj := fun i h st c hc => by
    obtain ⟨⟨old, he⟩, s1, _⟩ := st
    rcases (show c = e ∨ c = it by simpa using hc) with q | q
    · rw [q]; exact ⟨_, he, fun v q => nomatch q⟩
    · rw [q]; exact s1.obj
  keep := fun i h h' st k => by
    obtain ⟨⟨old, he⟩, s1, l⟩ := st
    exact ⟨⟨old, k e (by simp) _ he⟩, s1.at fun o q => k it (by simp) o q, l⟩
  item := by
    intro X hP hw hK hc i pins s σ H E I hf st hg
    subst hP hw hK
    obtain ⟨⟨old, he⟩, s1, l⟩ := st
    obtain ⟨hq, hi⟩ := hg
    obtain ⟨its, rv, p, lt⟩ := hq.seq I
    have zl := rv.length
    have hel : e < s.heap.objs.size := Heap.lt_size he
    have hh : X.A.in1.handled = none := I.ok.hd hc
    refine wpAny_pyNext_enum_itemD (draws hh it a ha its.toArray b) he ⟨s1, p⟩ (by simp; omega) hei (by simp only [List.mem_cons, List.not_mem_nil, or_false]; exact fun z => z.elim hei hea) fun u h' tk hu ho st1 hT hsz hk => ?_
    refine ⟨_, rfl, wpAny_letOwnedTupleGo_enum (s := { s with heap := h', toks := tk + 1 }) ho fun h'' he' sb => ?_⟩
    have gx : xs[i]? = some xs[i] := List.getElem?_eq_getElem hi
    obtain ⟨u', hu', ru⟩ := rv.get gx
    have eu : u' = u := by
      have : its[i]? = some u := by simpa using hu
      rw [hu'] at this; exact Option.some.inj this
    subst eu
    have hT2 : h''.get? s.heap.objs.size = some { cls := .type "tuple", data := .seq #[.int i tk, u'] } := (sb.2 _ (Nat.ne_of_gt hel)).trans hT
    have new : ObjOk X.prog X.w (upd H s.heap.objs.size (.tup [.int (i : Nat), xs[i]])) h'' s.heap.objs.size (.tup [.int (i : Nat), xs[i]]) :=
      ⟨by show 2 ≤ sizeLine; decide, [.int i tk, u'], .cons ⟨_, rfl⟩ (.cons ru .nil), ⟨_, hT2, rfl, _, rfl⟩⟩
    have I1 : Inv X pins σ (upd H s.heap.objs.size (.tup [.int (i : Nat), xs[i]])) { s with heap := h'', toks := tk + 1 } :=
      I.turnedNew (t' := tk + 1) (ch := [e, it]) (fun c o hb q => (sb.2 c (fun q' => hb (by simp [q']))).trans (hk c o (fun q' => hb (by simp [q'])) (fun q' => hb (by simp [q'])) q)) hf (Nat.le_refl _) new
    refine ⟨.ref s.heap.objs.size, _, I1, rfl, ⟨_, xs[i], rfl, I.hok.fresh (Nat.le_refl _), rfl, gx⟩, ⟨⟨u', ?_⟩, st1.1.at fun o q => (sb.2 it hei.symm).trans q, by omega⟩, fun c hcm => ?_⟩
    · rw [show ((i + 1 : Nat) : Int) = (i : Int) + 1 by omega]; exact he'
    · have hlt : c < s.heap.objs.size := by
        rcases (show c = e ∨ c = it by simpa using hcm) with q | q
        · rw [q]; exact hel
        · rw [q]; obtain ⟨_, e1, _⟩ := s1.obj; exact Heap.lt_size e1
      rw [upd_ne (Nat.ne_of_lt hlt)]
      exact (hf c hcm).1
  done := by
    intro X hP hw hK hc i pins s σ H E I hf st hg
    subst hP hw hK
    obtain ⟨⟨old, he⟩, s1, l⟩ := st
    obtain ⟨hq, hx⟩ := hg
    obtain ⟨its, rv, p, _⟩ := hq.seq I
    have zl := rv.length
    obtain ⟨f0, f1, f2, f3, f4, f5⟩ := hf it (by simp)
    have ei : i = its.toArray.size := by simp; omega
    have hh : X.A.in1.handled = none := I.ok.hd hc
    exact wpAny_pyNext_enum_endD (draws hh it a ha its.toArray b) he (ei ▸ ⟨s1, p⟩) fun h' eb => ⟨rfl, I.turned (t' := s.toks) (fun c o hb q => eb c o hb q) f0 f1 f3 f4 f5⟩
  self := fun A i s Q E st h => let ⟨⟨_, he⟩, _⟩ := st; wpAny_pyIter_enum he h
def iEnumM (K : PySem.W.Frag) (ta : TA) : TI := fun σ H R => ta σ H fun vs H1 => ∃ (b : Bool) (a : Addr) (xs : List V), vs = [.ref a] ∧ SqS K H1 a xs b ∧ R (IteM K b a xs) H1
theorem pi_enumM {X : Cx} {e : Expr} {ta : TA} {p pos tpos : Pos} {elts : List Expr} {kk : Nat} (hg : Gl X "enumerate") (hm : X.mg "enumerate" = none) (ha : PA X [e] ta) (hs : starEach [e] X.env = (false, eval e X.env) :: starEach [] X.env := by rfl) (hpl : (backTo pos (starEach [] X.env)).any (·.1) = false := by rfl) :
    PI X (.Tuple elts kk tpos) (.Call (.Name "enumerate" p) [e] [] pos) (iEnumM X.K ta) := by
  refine ⟨fun pins s σ H R I h => ?_⟩
  refine Call_ (ld_blt I hg hm boot_enumerate (PyProof.Rows.callWith_type1 (thn (ha.run pos pins s σ H _ I h) fun us s1 ⟨vs, H1, I1, r1, q1⟩ => ?_) hs hpl))
  obtain ⟨b, a, xs, ex, hq, q⟩ := q1
  subst ex
  cases r1 with
  | cons r rr =>
    cases rr
    cases r
    obtain ⟨its, rv, sq, lt⟩ := hq.seq I1
    refine call_enum (begins a its.toArray b) sq fun h' he gi hk => wpAny_pyIter_enum he ?_
    have I2 : Inv X pins σ H1 { s1 with heap := h' } := I1.kept (t' := s1.toks) hk
    have le2 : ∀ c, c ∈ [s1.heap.objs.size + 1, s1.heap.objs.size] → s1.heap.objs.size ≤ c := fun c hc => by
      rcases (show c = s1.heap.objs.size + 1 ∨ c = s1.heap.objs.size by simpa using hc) with z | z <;> rw [z]
      · exact Nat.le_add_right _ _
      · exact Nat.le_refl _
    exact ⟨s1.heap.objs.size + 1, [s1.heap.objs.size + 1, s1.heap.objs.size], _, _, H1, rfl, I2, turn_enumM (Nat.ne_of_lt lt) (Nat.succ_ne_self _) (Nat.ne_of_gt (Nat.lt_succ_of_lt lt)), ⟨⟨.none, he⟩, beg_iter gi, Nat.zero_le _⟩, fun c hc => I1.fpOk (le2 c hc) (I1.hok.fresh (le2 c hc)), q⟩
variable {G : Nat → Option CI}
def dEnum (xs : List D) : List D := (List.range xs.length).zip xs |>.map fun q => .tup [.int (q.1 : Nat), q.2]
theorem enum_len (xs : List D) : (dEnum xs).length = xs.length := by unfold dEnum; rw [List.length_map, List.length_zip, List.length_range, Nat.min_self]
theorem enum_get {xs : List D} {i : Nat} {d : D} (h : (dEnum xs)[i]? = some d) : ∃ x, xs[i]? = some x ∧ d = .tup [.int (i : Nat), x] := by
  unfold dEnum at h
  rw [List.getElem?_map] at h
  cases e : ((List.range xs.length).zip xs)[i]? with
  | none => rw [e] at h; cases h
  | some q =>
    rw [e] at h
    cases h
    obtain ⟨h1, h2⟩ := List.getElem?_zip_eq_some.mp e
    have hi := (List.getElem?_eq_some_iff.mp h2).1
    rw [List.getElem?_range hi] at h1
    exact ⟨q.2, h2, by rw [Option.some.inj h1]⟩
theorem ite_ok {K : PySem.W.Frag} {F : Hp} {b : Bool} {p : Addr} {xs : List D} {us : List V} (h : SqS K F p us b) (r : Reps K G F xs us) : ItOk K G F (IteM K b p us) (dEnum xs) where
  go := fun i d H g h1 => by
    have hl := (List.getElem?_eq_some_iff.mp h1).1
    rw [enum_len] at hl
    exact ⟨h.gr g, by rw [← r.length]; omega⟩
  yld := fun i d H z H' g h1 ⟨T, u, ez, hT, eH, k1⟩ => .inr ⟨T, .tup [.int (i : Nat), u], hT, eH, fun F' g' hF' => by
    obtain ⟨x, e1, rfl⟩ := enum_get h1
    obtain ⟨u', hu, ru⟩ := r.get e1
    rw [hu] at k1; cases k1
    subst ez
    exact .tup (.of upd_same) (.cons (.int _) (.cons ((ru.gr g').gr (Gr.new hF')) .nil))⟩
  stop := fun i H g h1 => ⟨h.gr g, by rw [enum_len] at h1; rw [← r.length]; omega⟩
section
variable {X : Cx} {Φ : Zone → Prop} {W : WX} {e a b c : Expr} {es : List Expr} {pos p p' apos : Pos}
def itEnum (f : M PV) : M (List D) := mB f fun p1 => mB (mO p1.tree) fun x => match x with
  | .lst xs => mR (dEnum xs)
  | .tup xs => mR (dEnum xs)
  | _ => fun _ => none
theorem rit_enum {tgs : List Expr} {kk : Nat} {tpos : Pos} {f : M PV} (hg : Gl X "enumerate") (hm : X.mg "enumerate" = none) (ha : RE X G Φ W a f) (hs : starEach [a] X.env = (false, eval a X.env) :: starEach [] X.env := by rfl) (hpl : (backTo pos (starEach [] X.env)).any (·.1) = false := by rfl) :
    RIt X G Φ W (.Tuple tgs kk tpos) (.Call (.Name "enumerate" p) [a] [] pos) (itEnum f) := fun Z hZ =>
  PI.lo (pi_enumM hg hm (pa_cons (ha Z hZ) pa_nil hs) hs hpl) fun σ H Q ⟨F, ρ, r, ρ', E, hf, q1, q2⟩ => by
    unfold itEnum at hf
    rcases mB_cases hf with ⟨x, h1, rfl⟩ | ⟨pv, ρ1, h1, h2⟩
    · exact ⟨F, ρ, _, _, E, h1, fun _ e => (by cases e), fun y e => by cases e; exact q2 _ rfl⟩
    · refine ⟨F, ρ, _, _, E, h1, fun pv' e F1 v H1 g1 E1 hv => ?_, fun y e => by cases e⟩
      cases e
      obtain ⟨x, hx, h3⟩ := mO_some h2
      obtain ⟨F2, g2, E2, hr⟩ := hv.frz E1 hx
      split at h3
      · cases h3
        cases hr with
        | lst hs hrr => exact ⟨false, _, _, rfl, E2.ext.sqL hs, q1 _ rfl F2 _ H1 (g1.trans g2) E2 (ite_ok (b := false) hs hrr)⟩
      · cases h3
        cases hr with
        | tup hs hrr => exact ⟨true, _, _, rfl, E2.ext.sqT hs, q1 _ rfl F2 _ H1 (g1.trans g2) E2 (ite_ok (b := true) hs hrr)⟩
      · cases h3
end
end Pl
namespace Pl
open PySem PySem.Spec L2
open PyProof.Rows hiding St
/-! ### == of things of different kinds -/
def kd : D → Option Nat
  | .tup _ => some 1
  | .lst _ => some 2
  | .dct _ _ => none
  | .obj _ _ => none
  | _ => some 0
/-- of different kinds: flat, a tuple, a list -/
def Kd (K : PySem.W.Frag) (H : Hp) (x : V) : Nat → Prop
  | 0 => flatV x = true
  | 1 => ∃ a xs, x = .ref a ∧ SqT K H a xs
  | _ => ∃ a xs, x = .ref a ∧ SqL K H a xs
def rEqK (K : PySem.W.Frag) (neg : Bool) : R2 := fun x y H Q => ∃ i j, i ≠ j ∧ i ≤ 2 ∧ j ≤ 2 ∧ Kd K H x i ∧ Kd K H y j ∧ Q (.bl neg) H
section
variable {X : Cx} {G : Nat → Option CI} {pins : List (Addr × Obj)} {σ : L2.St} {H : Hp} {s : Shared} {x : V} {v : Value}
/-- a value of a kind, as the heap has it -/
inductive KdV (s : Shared) : Value → Nat → Prop
  | non : KdV s .none 0
  | bl (b : Bool) : KdV s (.bool b) 0
  | int (i : Int) (t : Tok) : KdV s (.int i t) 0
  | str (z : Str) (t : Tok) : KdV s (.str z t) 0
  | tup {a : Addr} {its : Array Value} : s.heap.IsTuple a its → KdV s (.ref a) 1
  | lst {a : Addr} {its : Array Value} : s.heap.IsList a its → KdV s (.ref a) 2
theorem kd_flat : ∀ {x : V} {v : Value}, RelV x v → flatV x = true → KdV s v 0
  | .non, v, r, _ => by
    have : v = .none := r
    subst this; exact .non
  | .bl b, v, r, _ => by
    have : v = .bool b := r
    subst this; exact .bl b
  | .int i, v, r, _ => by
    obtain ⟨t, e⟩ := (show ∃ t, v = .int i t from r)
    subst e; exact .int i t
  | .str z, v, r, _ => by
    obtain ⟨t, e⟩ := (show ∃ t, v = .str z t from r)
    subst e; exact .str z t
theorem kd_at (I : Inv X pins σ H s) (r : RelV x v) : ∀ {i : Nat}, i ≤ 2 → Kd X.K H x i → KdV s v i
  | 0, _, h => kd_flat r h
  | 1, _, ⟨a, xs, e, h⟩ => by
    subst e
    cases r
    obtain ⟨its, _, p, _⟩ := I.tuple h
    exact .tup p
  | 2, _, ⟨a, xs, e, h⟩ => by
    subst e
    cases r
    obtain ⟨its, _, p, _⟩ := I.list h
    exact .lst p.isList
  | n + 3, hn, _ => absurd hn (by omega)
theorem rc_kinds {A : Around} {v u : Value} {i j : Nat} (hu : A.units < cLine) (h : KdV s v i) (h' : KdV s u j) (hij : i ≠ j) : SeqAt.RcAt A s v u false ∧ SeqAt.RcNeAt A s v u true := by
  cases h with
  | non => cases h' with
    | tup p => exact ⟨.none_tuple p hu, .none_tuple p hu⟩
    | lst p => exact ⟨.none_list p hu, .none_list p hu⟩
    | _ => exact absurd rfl hij
  | bl b => cases h' with
    | tup p => exact ⟨.bool_tuple b p hu, .bool_tuple b p hu⟩
    | lst p => exact ⟨.bool_list b p hu, .bool_list b p hu⟩
    | _ => exact absurd rfl hij
  | int i t => cases h' with
    | tup p => exact ⟨.int_tuple i t p hu, .int_tuple i t p hu⟩
    | lst p => exact ⟨.int_list i t p hu, .int_list i t p hu⟩
    | _ => exact absurd rfl hij
  | str z t => cases h' with
    | tup p => exact ⟨.str_tuple z t p hu, .str_tuple z t p hu⟩
    | lst p => exact ⟨.str_list z t p hu, .str_list z t p hu⟩
    | _ => exact absurd rfl hij
  | tup p => cases h' with
    | non => exact ⟨.tuple_none p hu, .tuple_none p hu⟩
    | bl b => exact ⟨.tuple_bool b p hu, .tuple_bool b p hu⟩
    | int i t => exact ⟨.tuple_int i t p hu, .tuple_int i t p hu⟩
    | str z t => exact ⟨.tuple_str z t p hu, .tuple_str z t p hu⟩
    | lst q => exact ⟨.tuple_list p q hu, .tuple_list p q hu⟩
    | tup q => exact absurd rfl hij
  | lst p => cases h' with
    | non => exact ⟨.list_none p hu, .list_none p hu⟩
    | bl b => exact ⟨.list_bool b p hu, .list_bool b p hu⟩
    | int i t => exact ⟨.list_int i t p hu, .list_int i t p hu⟩
    | str z t => exact ⟨.list_str z t p hu, .list_str z t p hu⟩
    | tup q => exact ⟨.list_tuple p q hu, .list_tuple p q hu⟩
    | lst q => exact absurd rfl hij
theorem op_eqK (hu : X.A.units + 64 < cLine) : OpR X (compareOp .Eq) (rEqK X.K false) := by
  intro pins s σ H x y v u Q I rx ry h
  obtain ⟨i, j, hij, hi, hj, h1, h2, q⟩ := h
  exact (rc_kinds (A := X.A) (by omega) (kd_at I rx hi h1) (kd_at I ry hj h2) hij).1 X.prog X.w X.xe _ ⟨.bl _, H, I, rfl, q⟩
theorem op_neK (hu : X.A.units + 64 < cLine) : OpR X (compareOp .NotEq) (rEqK X.K true) := by
  intro pins s σ H x y v u Q I rx ry h
  obtain ⟨i, j, hij, hi, hj, h1, h2, q⟩ := h
  exact (rc_kinds (A := X.A) (by omega) (kd_at I rx hi h1) (kd_at I ry hj h2) hij).2 X.prog X.w X.xe _ ⟨.bl _, H, I, rfl, q⟩
def dEqK (neg : Bool) (x y : D) : Option D := match kd x, kd y with
  | some i, some j => if i ≠ j then some (.bl neg) else none
  | _, _ => none
theorem kd_pk {K : PySem.W.Frag} {F : Hp} : ∀ {d : D} {u : V} {i : Nat}, Pk K G F H d u → kd d = some i → i ≤ 2 ∧ Kd K H u i
  | .non, _, _, h, e => by cases e; rw [pk_non h]; exact ⟨by omega, rfl⟩
  | .bl _, _, _, h, e => by cases e; rw [pk_bl h]; exact ⟨by omega, rfl⟩
  | .int _, _, _, h, e => by cases e; rw [pk_int h]; exact ⟨by omega, rfl⟩
  | .str _, _, _, h, e => by cases e; rw [pk_str h]; exact ⟨by omega, rfl⟩
  | .tup _, _, _, ⟨a, vs, e1, h1, _⟩, e => by cases e; exact ⟨by omega, a, vs, e1, h1⟩
  | .lst _, _, _, ⟨a, vs, e1, h1, _⟩, e => by cases e; exact ⟨by omega, a, vs, e1, h1⟩
theorem opi_eqK {neg : Bool} : OpI X G (rEqK X.K neg) (dEqK neg) := fun Z F ρ σ H x y d u v Q E h hu hv q => by
  unfold dEqK at h
  split at h
  · rename_i i j h1 h2
    split at h
    · rename_i hij
      cases h
      obtain ⟨a1, a2⟩ := kd_pk hu h1
      obtain ⟨b1, b2⟩ := kd_pk hv h2
      exact ⟨i, j, hij, a1, b1, a2, b2, q _ (.bl _)⟩
    · cases h
  · cases h
end
end Pl
set_option Elab.async false
set_option linter.all false
set_option maxRecDepth 100000
set_option maxHeartbeats 2000000
/-! # == and != of tuples whose items have a == of their own -/
namespace PlT
open PySem PySem.SeqAt
open AutoSeq1 (wpAny_loadPart')
open MeetsSeq MeetsSeq2 MeetsSeq3 SeqRoads2
section
variable {prog : Program} {w : World} {A : Around} {R : Result → Shared → Prop}
/-- all items in front are equal, and there are as many -/
abbrev allOf (n m : Nat) (e : Nat → Bool) : Bool := (List.range (min n m)).all e && n == m
theorem allOf_no {n m i : Nat} {e : Nat → Bool} (h : i < min n m) (z : e i = false) : allOf n m e = false := by
  have : (List.range (min n m)).all e = false := by
    rw [List.all_eq_false]
    exact ⟨i, List.mem_range.mpr h, by rw [z]; exact Bool.false_ne_true⟩
  unfold allOf
  rw [this, Bool.false_and]
theorem allOf_yes {n m : Nat} {e : Nat → Bool} (h : ∀ j, j < min n m → e j = true) : allOf n m e = (n == m) := by
  have : (List.range (min n m)).all e = true := List.all_eq_true.mpr fun j hj => h j (List.mem_range.mp hj)
  unfold allOf
  rw [this, Bool.true_and]
/-- what the loops over the pairs of items keep -/
structure Items (prog : Program) (w : World) (A : Around) (R : Result → Shared → Prop) (items items2 : Array Value) (e : Nat → Bool) (I : Nat → Shared → Prop) : Prop where
  turn : ∀ i (h1 : i < items.size) (h2 : i < items2.size) s, I i s → wpAny (model prog w) A.in1 (eqBool items[i] items2[i]) (fun r s' => r = e i ∧ I (i + 1) s') (fun x s' => R (.error x) s') s
theorem zip_at {items items2 : Array Value} {i : Nat} {y x : Value} {rest : List (Value × Value)} (hz : (y, x) :: rest = (items.toList.zip items2.toList).drop i) :
    ∃ (h1 : i < items.size) (h2 : i < items2.size), y = items[i] ∧ x = items2[i] ∧ rest = (items.toList.zip items2.toList).drop (i + 1) := by
  have hl : i < (items.toList.zip items2.toList).length := by
    rcases Nat.lt_or_ge i (items.toList.zip items2.toList).length with q | q
    · exact q
    · rw [List.drop_of_length_le q] at hz; cases hz
  have hm : i < min items.size items2.size := by simpa using hl
  rw [List.drop_eq_getElem_cons hl] at hz
  injection hz with e1 e2
  refine ⟨by omega, by omega, ?_, ?_, e2⟩
  · simpa using congrArg Prod.fst e1
  · simpa using congrArg Prod.snd e1
theorem zip_end {items items2 : Array Value} {i : Nat} (hz : [] = (items.toList.zip items2.toList).drop i) : min items.size items2.size ≤ i := by
  rcases Nat.lt_or_ge i (items.toList.zip items2.toList).length with q | q
  · rw [List.drop_eq_getElem_cons q] at hz; cases hz
  · simpa using q
theorem tup_eqB (l b : Addr) (items items2 : Array Value) (n n2 : Nat) (dd dd2 : Option Addr) (sl sl2 : Array (Option Value)) (e : Nat → Bool) (I : Nat → Shared → Prop) (T : Items prog w A R items items2 e I)
    (fin : ∀ i s, I i s → R (.ok (.ret (.bool (allOf items.size items2.size e)))) s) {s : Shared} (hl1 : s.heap.get? l = some { cls := .type "tuple", dict := dd, data := .seq items n, slots := sl }) (hb1 : s.heap.get? b = some { cls := .type "tuple", dict := dd2, data := .seq items2 n2, slots := sl2 }) (h : I 0 s) :
    wpAny (model prog w) A.in1 (Builtin.«tuple.__eq__» ⟨[.ref l, .ref b], []⟩) (GQ.FinOf prog w A R) (fun x s' => R (.error x) s') s := by
  have sub := AutoSeq1.sub_tuple_tuple
  have h0 := h
  obtain ⟨hp, g, d, tk, os⟩ := s
  wp_walk using wpAny_loadPart' hl1, wpAny_loadPart' hb1, wpAny_forIn_list _ (fun rest z s' => z.1 = none ∧ ∃ i, rest = (items.toList.zip items2.toList).drop i ∧ I i s' ∧ ∀ j, j < i → e j = true) _
  case turn =>
    rintro ⟨y, x⟩ rest z s' ⟨hz0, i, hz, hI, he⟩
    obtain ⟨h1, h2, rfl, rfl, hrest⟩ := zip_at hz
    refine wpAny_bind (wpAny_mono (T.turn i h1 h2 s' hI) (fun r s2 q2 => ?_) fun _ _ q => q)
    obtain ⟨hr, q2⟩ := q2
    subst hr
    cases hy : e i with
    | true =>
      wp_walk
      exact ⟨rfl, i + 1, hrest, q2, fun j hj => (Nat.lt_succ_iff_lt_or_eq.mp hj).elim (he j) fun z => z ▸ hy⟩
    | false =>
      have := fin _ _ q2
      rw [allOf_no (show i < min items.size items2.size by omega) hy] at this
      wp_walk
      exact this
  case fin =>
    rintro ⟨b1, b2⟩ s' ⟨hz0, i, hz, hI, he⟩
    simp only at hz0
    subst hz0
    have this := fin _ _ hI
    have hle := zip_end hz
    rw [allOf_yes fun j hj => he j (by omega)] at this
    wp_walk
    simpa [Builtin.Tuple.tupleCompareSizes] using this
  case h =>
    exact ⟨rfl, 0, rfl, h0, fun j hj => absurd hj (Nat.not_lt_zero j)⟩
theorem tup_neB (l b : Addr) (items items2 : Array Value) (n n2 : Nat) (dd dd2 : Option Addr) (sl sl2 : Array (Option Value)) (e : Nat → Bool) (I : Nat → Shared → Prop) (T : Items prog w A R items items2 e I)
    (fin : ∀ i s, I i s → R (.ok (.ret (.bool (!allOf items.size items2.size e)))) s) {s : Shared} (hl1 : s.heap.get? l = some { cls := .type "tuple", dict := dd, data := .seq items n, slots := sl }) (hb1 : s.heap.get? b = some { cls := .type "tuple", dict := dd2, data := .seq items2 n2, slots := sl2 }) (h : I 0 s) :
    wpAny (model prog w) A.in1 (Builtin.«tuple.__ne__» ⟨[.ref l, .ref b], []⟩) (GQ.FinOf prog w A R) (fun x s' => R (.error x) s') s := by
  have sub := AutoSeq1.sub_tuple_tuple
  have h0 := h
  obtain ⟨hp, g, d, tk, os⟩ := s
  wp_walk using wpAny_loadPart' hl1, wpAny_loadPart' hb1, wpAny_forIn_list _ (fun rest z s' => z.1 = none ∧ ∃ i, rest = (items.toList.zip items2.toList).drop i ∧ I i s' ∧ ∀ j, j < i → e j = true) _
  case turn =>
    rintro ⟨y, x⟩ rest z s' ⟨hz0, i, hz, hI, he⟩
    obtain ⟨h1, h2, rfl, rfl, hrest⟩ := zip_at hz
    refine wpAny_bind (wpAny_mono (T.turn i h1 h2 s' hI) (fun r s2 q2 => ?_) fun _ _ q => q)
    obtain ⟨hr, q2⟩ := q2
    subst hr
    cases hy : e i with
    | true =>
      wp_walk
      exact ⟨rfl, i + 1, hrest, q2, fun j hj => (Nat.lt_succ_iff_lt_or_eq.mp hj).elim (he j) fun z => z ▸ hy⟩
    | false =>
      have := fin _ _ q2
      rw [allOf_no (show i < min items.size items2.size by omega) hy] at this
      wp_walk
      exact this
  case fin =>
    rintro ⟨b1, b2⟩ s' ⟨hz0, i, hz, hI, he⟩
    simp only at hz0
    subst hz0
    have this := fin _ _ hI
    have hle := zip_end hz
    rw [allOf_yes fun j hj => he j (by omega)] at this
    wp_walk
    simpa [Builtin.Tuple.tupleCompareSizes, bne] using this
  case h =>
    exact ⟨rfl, 0, rfl, h0, fun j hj => absurd hj (Nat.not_lt_zero j)⟩
end
section
variable {prog : Program} {w : World} {A : Around} {E : Value → Shared → Prop} {s : Shared}
theorem rc_tupB {l b : Addr} {items items2 : Array Value} {Q : Value → Shared → Prop} {e : Nat → Bool} (hu : A.units < cLine) (I : Nat → Shared → Prop) (hl : s.heap.IsTuple l items) (hb : s.heap.IsTuple b items2)
    (turn : ∀ i (h1 : i < items.size) (h2 : i < items2.size) s, I i s → wpAny (model prog w) A.in1 (eqBool items[i] items2[i]) (fun r s' => r = e i ∧ I (i + 1) s') E s)
    (fin : ∀ i s, I i s → Q (.bool (allOf items.size items2.size e)) s) (h : I 0 s) : wpAny (model prog w) A (richCompare .Eq (.ref l) (.ref b)) Q E s := by
  obtain ⟨⟨c1, d1, x1, s1⟩, o1, q1, n1, w1⟩ := id hl
  obtain ⟨⟨c2, d2, x2, s2⟩, o2, q2, n2, w2⟩ := id hb
  simp only at q1 w1 q2 w2
  subst q1 w1 q2 w2
  refine wpAny_richCompare_same_room (op := .Eq) ⟨_, o1, rfl⟩ ⟨_, o2, rfl⟩ F.slot_tuple_eq (GQ.call_here F.slot_tuple_eq ⟨_, o1, rfl⟩ F.entry_tuple_eq (F.args_tuple_eq_2 _ _) ?_) hu
  exact tup_eqB (R := wants (fun v s' => v ≠ .notImplemented ∧ Q v s') E) l b items items2 n1 n2 d1 d2 s1 s2 e I ⟨turn⟩ (fun i s' q => ⟨(fun x => nomatch x), fin i s' q⟩) o1 o2 h
theorem rc_tupNB {l b : Addr} {items items2 : Array Value} {Q : Value → Shared → Prop} {e : Nat → Bool} (hu : A.units < cLine) (I : Nat → Shared → Prop) (hl : s.heap.IsTuple l items) (hb : s.heap.IsTuple b items2)
    (turn : ∀ i (h1 : i < items.size) (h2 : i < items2.size) s, I i s → wpAny (model prog w) A.in1 (eqBool items[i] items2[i]) (fun r s' => r = e i ∧ I (i + 1) s') E s)
    (fin : ∀ i s, I i s → Q (.bool (!allOf items.size items2.size e)) s) (h : I 0 s) : wpAny (model prog w) A (richCompare .NotEq (.ref l) (.ref b)) Q E s := by
  obtain ⟨⟨c1, d1, x1, s1⟩, o1, q1, n1, w1⟩ := id hl
  obtain ⟨⟨c2, d2, x2, s2⟩, o2, q2, n2, w2⟩ := id hb
  simp only at q1 w1 q2 w2
  subst q1 w1 q2 w2
  refine wpAny_richCompare_same_room (op := .NotEq) ⟨_, o1, rfl⟩ ⟨_, o2, rfl⟩ F.slot_tuple_ne (GQ.call_here F.slot_tuple_ne ⟨_, o1, rfl⟩ F.entry_tuple_ne (F.args_tuple_ne_2 _ _) ?_) hu
  exact tup_neB (R := wants (fun v s' => v ≠ .notImplemented ∧ Q v s') E) l b items items2 n1 n2 d1 d2 s1 s2 e I ⟨turn⟩ (fun i s' q => ⟨(fun x => nomatch x), fin i s' q⟩) o1 o2 h
/-- == inside a builtin, by the rich comparison, of a thing that stands at an address and another one -/
theorem eqBool_at {l : Addr} {v : Value} {Q : Bool → Shared → Prop} (hne : v ≠ .ref l) (h : wpAny (model prog w) A (richCompare .Eq (.ref l) v) (fun v s' => ∃ r, v = .bool r ∧ Q r s') E s) : wpAny (model prog w) A (eqBool (.ref l) v) Q E s := by
  unfold eqBool
  refine wpAny_holding ?_
  refine wpAny_ite_split (fun hab => absurd (eq_of_beq hab).symm hne) fun _ => ?_
  refine wpAny_bind (wpAny_mono h (fun z s' hv => ?_) fun _ _ x => x)
  obtain ⟨r, rfl, q⟩ := hv
  exact wpAny_truthy_bool q
end
end PlT
namespace Pl
open PySem PySem.Spec L2
open PyProof.Rows hiding St
variable {G : Nat → Option CI}
/-- different classes stand at different places -/
def GInj' (G : Nat → Option CI) : Prop := ∀ c c' i i', G c = some i → G c' = some i' → i.adr = i'.adr → c = c'
section
variable {X : Cx} {pins : List (Addr × Obj)} {σ : L2.St} {H F : Hp} {s : Shared}
theorem zip_inj {ns : List Str} : ∀ {vs us : List V}, ns.length = vs.length → ns.length = us.length → ns.zip vs = ns.zip us → vs = us := by
  induction ns with
  | nil =>
    intro vs us h1 h2 _
    cases vs with
    | nil => cases us with
      | nil => rfl
      | cons _ _ => cases h2
    | cons _ _ => cases h1
  | cons n ns ih =>
    intro vs us h1 h2 e
    cases vs with
    | nil => cases h1
    | cons v vs =>
      cases us with
      | nil => cases h2
      | cons u us =>
        rw [List.zip_cons_cons, List.zip_cons_cons] at e
        injection e with e1 e2
        injection e1 with _ e3
        rw [e3, ih (by simpa using h1) (by simpa using h2) e2]
theorem zipK_inj {ks ls : List Key} {vs us : List V} (h1 : ks.length = vs.length) (h2 : ls.length = us.length) (e : ks.zip vs = ls.zip us) : ks = ls ∧ vs = us := by
  have a := congrArg (List.map Prod.fst) e
  have b := congrArg (List.map Prod.snd) e
  rw [List.map_fst_zip (by omega), List.map_fst_zip (by omega)] at a
  rw [List.map_snd_zip (by omega), List.map_snd_zip (by omega)] at b
  exact ⟨a, b⟩
theorem tup_not_list (I : Inv X pins σ H s) {a : Addr} {xs ys : List V} (h : SqT X.K H a xs) (h' : SqL X.K H a ys) : False := by
  obtain ⟨_, _, ⟨o, ho, hc, _⟩, _⟩ := I.tuple h
  obtain ⟨_, _, ⟨o', n, ho', hc', _⟩, _⟩ := I.list h'
  rw [ho] at ho'; cases ho'
  rw [hc] at hc'
  have e := Value.type.inj hc'
  exact absurd e (by decide)
theorem tup_not_ins (I : Inv X pins σ H s) {a C : Addr} {dx : Addr} {fs : List (Str × V)} {xs : List V} (h : SqT X.K H a xs) (h' : H a = some (.ins C dx fs)) : False := by
  obtain ⟨_, _, ⟨o, ho, hc, _⟩, _⟩ := I.tuple h
  obtain ⟨mA, J, _⟩ := ins_get I.hok h'
  obtain ⟨od, J, _⟩ := J.look
  obtain ⟨ho', hc', _⟩ := J
  rw [ho] at ho'; cases ho'
  rw [hc] at hc'; cases hc'
theorem list_not_ins (I : Inv X pins σ H s) {a C : Addr} {dx : Addr} {fs : List (Str × V)} {xs : List V} (h : SqL X.K H a xs) (h' : H a = some (.ins C dx fs)) : False := by
  obtain ⟨_, _, ⟨o, n, ho, hc, _⟩, _⟩ := I.list h
  obtain ⟨mA, J, _⟩ := ins_get I.hok h'
  obtain ⟨od, J, _⟩ := J.look
  obtain ⟨ho', hc', _⟩ := J
  rw [ho] at ho'; cases ho'
  rw [hc] at hc'; cases hc'
theorem dct_is (I : Inv X pins σ H s) {a : Addr} {kvs : List (Key × V)} (h : H a = some (.dK kvs)) : ∃ o, s.heap.get? a = some o ∧ o.cls = .type "dict" := by
  obtain ⟨_, _, us, _, o, es, ep, ho, hx⟩ := (show ObjOk X.prog X.w H s.heap a (.dK kvs) from I.hok a _ h)
  exact ⟨o, ho, hx.1.1⟩
theorem tup_not_dct (I : Inv X pins σ H s) {a : Addr} {kvs : List (Key × V)} {xs : List V} (h : SqT X.K H a xs) (h' : H a = some (.dK kvs)) : False := by
  obtain ⟨_, _, ⟨o, ho, hc, _⟩, _⟩ := I.tuple h
  obtain ⟨o', ho', hc'⟩ := dct_is I h'
  rw [ho] at ho'; cases ho'
  rw [hc] at hc'
  have e := Value.type.inj hc'
  exact absurd e (by decide)
theorem list_not_dct (I : Inv X pins σ H s) {a : Addr} {kvs : List (Key × V)} {xs : List V} (h : SqL X.K H a xs) (h' : H a = some (.dK kvs)) : False := by
  obtain ⟨_, _, ⟨o, n, ho, hc, _⟩, _⟩ := I.list h
  obtain ⟨o', ho', hc'⟩ := dct_is I h'
  rw [ho] at ho'; cases ho'
  rw [hc] at hc'
  have e := Value.type.inj hc'
  exact absurd e (by decide)
mutual
theorem rep_inj (I : Inv X pins σ H s) (g : Gr F H) (hG : GInj' G) : ∀ {x y : D} {v : V}, Rep X.K G F x v → Rep X.K G F y v → x = y
  | _, _, _, .non, h => by cases h; rfl
  | _, _, _, .bl _, h => by cases h; rfl
  | _, _, _, .int _, h => by cases h; rfl
  | _, _, _, .str _, h => by cases h; rfl
  | _, _, _, .tup s1 r1, h => by
    cases h with
    | tup s2 r2 =>
      cases I.tuple_inj (g.sqT s1) (g.sqT s2)
      rw [reps_inj I g hG r1 r2]
    | lst s2 _ => exact (tup_not_list I (g.sqT s1) (g.sqL s2)).elim
    | dct s2 _ _ => exact (tup_not_dct I (g.sqT s1) (g _ _ s2)).elim
    | obj _ s2 _ _ => exact (tup_not_ins I (g.sqT s1) (g _ _ s2)).elim
  | _, _, _, .lst s1 r1, h => by
    cases h with
    | lst s2 r2 =>
      cases I.list_inj (g.sqL s1) (g.sqL s2)
      rw [reps_inj I g hG r1 r2]
    | tup s2 _ => exact (tup_not_list I (g.sqT s2) (g.sqL s1)).elim
    | dct s2 _ _ => exact (list_not_dct I (g.sqL s1) (g _ _ s2)).elim
    | obj _ s2 _ _ => exact (list_not_ins I (g.sqL s1) (g _ _ s2)).elim
  | _, _, _, .dct s1 l1 r1, h => by
    cases h with
    | lst s2 _ => exact (list_not_dct I (g.sqL s2) (g _ _ s1)).elim
    | tup s2 _ => exact (tup_not_dct I (g.sqT s2) (g _ _ s1)).elim
    | dct s2 l2 r2 =>
      rw [s1] at s2
      injection s2 with s2
      injection s2 with s2
      obtain ⟨rfl, rfl⟩ := zipK_inj l1 l2 s2
      rw [reps_inj I g hG r1 r2]
    | obj _ s2 _ _ => rw [s1] at s2; cases s2
  | _, _, _, .obj g1 s1 l1 r1, h => by
    cases h with
    | lst s2 _ => exact (list_not_ins I (g.sqL s2) (g _ _ s1)).elim
    | tup s2 _ => exact (tup_not_ins I (g.sqT s2) (g _ _ s1)).elim
    | dct s2 _ _ => rw [s1] at s2; cases s2
    | obj g2 s2 l2 r2 =>
      rw [s1] at s2
      injection s2 with s2
      injection s2 with e1 e2 e3
      have ec := hG _ _ _ _ g1 g2 e1
      subst ec
      rw [g1] at g2; cases g2
      cases zip_inj l1 l2 e3
      rw [reps_inj I g hG r1 r2]
theorem reps_inj (I : Inv X pins σ H s) (g : Gr F H) (hG : GInj' G) : ∀ {xs ys : List D} {vs : List V}, Reps X.K G F xs vs → Reps X.K G F ys vs → xs = ys
  | _, _, _, .nil, h => by cases h; rfl
  | _, _, _, .cons h1 r1, h => by
    cases h with
    | cons h2 r2 => rw [rep_inj I g hG h1 h2, reps_inj I g hG r1 r2]
end
end
/-! ### what == answers -/
/-- what the classes' own == answers: the left one's class and fields, the right one -/
abbrev EO := Nat → List D → D → Option Bool
def eqZ (f : D → D → Option Bool) : List D → List D → Option Bool
  | [], [] => some true
  | [], _ :: _ => some false
  | _ :: _, [] => some false
  | x :: xs, y :: ys => match f x y, eqZ f xs ys with
    | some a, some b => some (a && b)
    | _, _ => none
def flatD : D → Option V
  | .non => some .non
  | .bl b => some (.bl b)
  | .int i => some (.int i)
  | .str s => some (.str s)
  | _ => none
def eqA (eo : EO) (x y : D) : Option Bool := match x with
  | .obj c cs => eo c cs y
  | _ => match flatD x, flatD y with
    | some u, some v => some (eqV u v)
    | _, _ => match kd x, kd y with
      | some i, some j => if i ≠ j then some false else none
      | _, _ => none
def eqT (f : D → D → Option Bool) (x y : D) : Option Bool := match x, y with
  | .tup xs, .tup ys => eqZ f xs ys
  | _, _ => none
def isTp : D → Bool
  | .tup _ => true
  | _ => false
def eqR (eo : EO) : Nat → D → D → Option Bool
  | 0, x, y => eqA eo x y
  | n + 1, x, y => if (isTp x && isTp y) = true then eqT (eqR eo n) x y else eqA eo x y
theorem eqZ_all {f : D → D → Option Bool} : ∀ {xs ys : List D} {b : Bool}, eqZ f xs ys = some b → ∃ e : Nat → Bool, (∀ (i : Nat) x y, xs[i]? = some x → ys[i]? = some y → f x y = some (e i)) ∧ b = PlT.allOf xs.length ys.length e
  | [], [], b, h => ⟨fun _ => true, fun i x y h1 _ => by simp at h1, by cases h; rfl⟩
  | [], y :: ys, b, h => ⟨fun _ => true, fun i x y h1 _ => by simp at h1, by cases h; simp [PlT.allOf]⟩
  | x :: xs, [], b, h => ⟨fun _ => true, fun i x y _ h1 => by simp at h1, by cases h; simp [PlT.allOf]⟩
  | x :: xs, y :: ys, b, h => by
    rw [eqZ] at h
    split at h
    · rename_i a b' h1 h2
      cases h
      obtain ⟨e, he, hb⟩ := eqZ_all h2
      refine ⟨fun i => match i with | 0 => a | i + 1 => e i, fun i u v hu hv => ?_, ?_⟩
      · cases i with
        | zero => simp at hu hv; subst hu hv; exact h1
        | succ i => simp at hu hv; exact he i u v hu hv
      · subst hb
        unfold PlT.allOf
        rw [List.length_cons, List.length_cons, Nat.succ_min_succ, List.range_succ_eq_map, List.all_cons, List.all_map, Bool.and_assoc]
        simp [Function.comp_def]
    · cases h
theorem eqV_refl : ∀ {v : V}, flatV v = true → eqV v v = true
  | .non, _ => rfl
  | .bl b, _ => by simp [eqV]
  | .int b, _ => by simp [eqV]
  | .str b, _ => by simp [eqV]
theorem flatD_flat {d : D} {v : V} (h : flatD d = some v) : flatV v = true := by cases d <;> cases h <;> rfl
def Rfl (f : D → D → Option Bool) : Prop := ∀ x b, f x x = some b → b = true
theorem eqZ_rfl {f : D → D → Option Bool} (hf : Rfl f) : ∀ (xs : List D) (b : Bool), eqZ f xs xs = some b → b = true
  | [], b, h => by cases h; rfl
  | x :: xs, b, h => by
    rw [eqZ] at h
    split at h
    · rename_i a b' h1 h2
      cases h
      rw [hf x a h1, eqZ_rfl hf xs b' h2]
      rfl
    · cases h
def EoRfl (eo : EO) : Prop := ∀ c cs b, eo c cs (.obj c cs) = some b → b = true
theorem eqA_rfl {eo : EO} (hr : EoRfl eo) : Rfl (eqA eo) := by
  intro x b h
  cases x with
  | obj c cs => exact hr c cs b h
  | non => cases h; rfl
  | bl b => unfold eqA flatD at h; simp [eqV] at h; exact h
  | int b => unfold eqA flatD at h; simp [eqV] at h; exact h
  | str b => unfold eqA flatD at h; simp [eqV] at h; exact h
  | tup ds => unfold eqA flatD at h; simp [kd] at h
  | lst ds => unfold eqA flatD at h; simp [kd] at h
  | dct ks ds => unfold eqA flatD at h; simp [kd] at h
theorem eqT_rfl {f : D → D → Option Bool} (hf : Rfl f) : Rfl (eqT f) := fun x b h => by
  cases x with
  | tup xs => exact eqZ_rfl hf xs b h
  | _ => cases h
theorem eqR_rfl {eo : EO} (hr : EoRfl eo) : ∀ n, Rfl (eqR eo n)
  | 0 => fun x b h => eqA_rfl hr x b (by rwa [eqR] at h)
  | n + 1 => fun x b h => by
    rw [eqR] at h
    split at h
    · exact eqT_rfl (eqR_rfl hr n) x b h
    · exact eqA_rfl hr x b h
section
variable {X : Cx} {k : Nat}
/-- == of what stands for x and y gives b -/
def RcD (X : Cx) (G : Nat → Option CI) (k : Nat) (f : D → D → Option Bool) : Prop :=
  ∀ x y b, f x y = some b → ∀ (A : Around) (pins : List (Addr × Obj)) (s : Shared) (σ : L2.St) (H F : Hp) (x' y' : V) (u v : Value), Sub X k A → Inv X pins σ H s → Gr F H → Rep X.K G F x x' → Rep X.K G F y y' → RelV x' u → RelV y' v →
    wpAny (model X.prog X.w) A (richCompare .Eq u v) (fun r s' => r = .bool b ∧ ∃ H', Inv X pins σ H' s' ∧ Ext H H') X.xe s
def EqD' (X : Cx) (G : Nat → Option CI) (k : Nat) (f : D → D → Option Bool) : Prop :=
  ∀ x y b, f x y = some b → ∀ (A : Around) (pins : List (Addr × Obj)) (s : Shared) (σ : L2.St) (H F : Hp) (x' y' : V) (u v : Value), Sub X k A → Inv X pins σ H s → Gr F H → Rep X.K G F x x' → Rep X.K G F y y' → RelV x' u → RelV y' v →
    wpAny (model X.prog X.w) A (eqBool u v) (fun r s' => r = b ∧ ∃ H', Inv X pins σ H' s' ∧ Ext H H') X.xe s
structure EOk (X : Cx) (G : Nat → Option CI) (k : Nat) (eo : EO) : Prop where
  rc : RcD X G k (fun x y => match x with
    | .obj c cs => eo c cs y
    | _ => none)
  rf : EoRfl eo
  inj : GInj' G
/-- one class's own == -/
def eoD (c0 : Nat) (good : List D → Bool) (den : Den) : EO := fun c cs y => if c = c0 ∧ good cs = true then (match den [.val (.obj c cs), .val y] with
  | some (.ok (.val (.bl b)), none) => some b
  | _ => none) else none
def eoOr (e e' : EO) : EO := fun c cs y => match e c cs y with
  | some b => some b
  | none => e' c cs y
theorem EOk.or {e e' : EO} (h : EOk X G k e) (h' : EOk X G k e') : EOk X G k (eoOr e e') where
  inj := h.inj
  rf := fun c cs b hb => by
    unfold eoOr at hb
    split at hb
    · rename_i b' hb'; cases hb; exact h.rf c cs _ hb'
    · exact h'.rf c cs b hb
  rc := fun x y b hb => by
    cases x with
    | obj c cs =>
      have hb : eoOr e e' c cs y = some b := hb
      unfold eoOr at hb
      split at hb
      · rename_i b' hb'; cases hb; exact h.rc (.obj c cs) y _ hb'
      · exact h'.rc (.obj c cs) y b hb
    | _ => cases hb
theorem EOk.nil (hj : GInj' G) : EOk X G k (fun _ _ _ => none) where
  inj := hj
  rf := fun c cs b hb => nomatch hb
  rc := fun x y b hb => by cases x <;> exact nomatch hb
theorem EOk.den {c0 : Nat} {i : CI} {good : List D → Bool} {f : Addr} {fd : FuncData} {ps : List Str} {den : Den} (hj : GInj' G) (hi : G c0 = some i) (hC : CmpC X.K G i.adr) (hty : ∀ cs y r, den [.val (.obj c0 cs), .val y] = some r → (tyD G y).isSome = true)
    (hM : Meth X.K i.adr "__eq__" f) (F : DOk X.prog X.w X.K G X.mg X.base k f fd ps den) (hb : Binds X.K fd ps []) (hr : ∀ cs b, good cs = true → den [.val (.obj c0 cs), .val (.obj c0 cs)] = some (.ok (.val (.bl b)), none) → b = true) : EOk X G k (eoD c0 good den) where
  inj := hj
  rf := fun c cs b h => by
    unfold eoD at h
    split at h
    · rename_i hh
      obtain ⟨rfl, hg⟩ := hh
      split at h
      · rename_i b' hd
        cases h
        exact hr cs _ hg hd
      · cases h
    · cases h
  rc := fun x y b h A pins s σ H F0 x' y' u v sb I g h1 h2 rx ry => by
    cases x with
    | obj c cs =>
      have z : eoD c0 good den c cs y = some b := h
      clear h
      unfold eoD at z
      split at z
      · rename_i hh
        obtain ⟨rfl, hg⟩ := hh
        split at z
        · rename_i b' hden
          cases z
          obtain ⟨a, dx, fs, e1, ea⟩ := rep_ins g hi h1
          subst e1
          cases rx
          obtain ⟨mA, J, _⟩ := ins_get I.hok ea
          obtain ⟨od, J, _⟩ := J.look
          obtain ⟨m, hF⟩ := I.fr
          have hsome := hty cs y _ hden
          obtain ⟨t, ht⟩ := Option.isSome_iff_exists.mp hsome
          refine PySem.W.cmp_K (op := .Eq) (tb := t) sb.room.units0 hF I.ok.mod.kin J (ty_looks I (h2.pk g) ry ht) (hC.other y t ht) hM.at_ hM.fn ?_
          have hsp : spD X.K G den [.ref a, y'] H (fun v H' => v = .bl b ∧ Ext H H') E0 := by
            refine ⟨F0, [D.obj c cs, y].map PV.val, .none, _, .none, args_vals (env_nil g) (.cons h1 (.cons h2 .nil)), hden, fun pv e F' v H' g' E' hp => ?_, fun x e => by cases e⟩
            cases e
            cases (show Rep X.K G F' (.bl b) v from hp)
            refine ⟨rfl, fun a o h => E'.kept a o h fun i hi => ?_⟩
            unfold zoneOf at hi
            dsimp only at hi
            split at hi <;> cases hi
          have e0 : Env0 X.prog X.w X.K X.mg X.base A X.stack s H := by
            have e := I.env0
            exact ⟨by rw [sb.fr]; exact e.frames, e.mod, e.bs, e.bsz, e.funs, e.frf, e.hok, e.bare⟩
          have hl := F.fn.len _ _ _ _ hsp
          have r2 : Vals [V.ref a, y'] [Value.ref a, v] := .cons rfl (.cons ry .nil)
          refine wpAny_call (codeAny_mono (F.fn.run A X.stack s H ⟨[.ref a, v], []⟩ [.ref a, v] [.ref a, y'] _ E0 sb.room e0 (by
            have := hb s [.ref a, v] I.kIn (by simpa using hl)
            simpa using this) r2 hsp) fun r s' hq => ?_)
          cases r with
          | error e => exact (passL (X := X) pins σ H s e s' I hq : X.xe e s')
          | ok fl =>
            cases fl with
            | ret w =>
              obtain ⟨z, H', I', rz, ez, ex⟩ := I.after hq
              subst ez
              cases rz
              exact ⟨rfl, H', I', ex⟩
            | next => exact False.elim hq
            | brk => exact False.elim hq
            | cont => exact False.elim hq
        · cases z
      · cases z
    | _ => cases h
theorem eq_kinds {s : Shared} {A : Around} {v u : Value} {i j : Nat} (hu : A.units < cLine) (h : KdV s v i) (h' : KdV s u j) (hij : i ≠ j) : SeqAt.EqAt A s v u false := by
  cases h with
  | non => cases h' with
    | tup p => exact .none_tuple p hu
    | lst p => exact .none_list p hu
    | _ => exact absurd rfl hij
  | bl b => cases h' with
    | tup p => exact .bool_tuple b p hu
    | lst p => exact .bool_list b p hu
    | _ => exact absurd rfl hij
  | int i t => cases h' with
    | tup p => exact .int_tuple i t p hu
    | lst p => exact .int_list i t p hu
    | _ => exact absurd rfl hij
  | str z t => cases h' with
    | tup p => exact .str_tuple z t p hu
    | lst p => exact .str_list z t p hu
    | _ => exact absurd rfl hij
  | tup p => cases h' with
    | non => exact .tuple_none p hu
    | bl b => exact .tuple_bool b p hu
    | int i t => exact .tuple_int i t p hu
    | str z t => exact .tuple_str z t p hu
    | lst q => exact .tuple_list p q hu
    | tup q => exact absurd rfl hij
  | lst p => cases h' with
    | non => exact .list_none p hu
    | bl b => exact .list_bool b p hu
    | int i t => exact .list_int i t p hu
    | str z t => exact .list_str z t p hu
    | tup q => exact .list_tuple p q hu
    | lst q => exact absurd rfl hij
theorem relV_ref {y : V} {a : Addr} (r : RelV y (.ref a)) : y = .ref a := by
  cases y with
  | ref b => cases r; rfl
  | int i => obtain ⟨t, e⟩ := (show ∃ t, Value.ref a = .int i t from r); cases e
  | str i => obtain ⟨t, e⟩ := (show ∃ t, Value.ref a = .str i t from r); cases e
  | byt i => obtain ⟨t, e⟩ := (show ∃ t, Value.ref a = .bytes i t from r); cases e
  | flt i => obtain ⟨t, e⟩ := (show ∃ t, Value.ref a = .float i t from r); cases e
  | _ => cases r
theorem flatD_rep {K : PySem.W.Frag} {F : Hp} {d : D} {x u : V} (h : Rep K G F d x) (e : flatD d = some u) : x = u := by
  cases h <;> cases e <;> rfl
theorem eqA_ok {eo : EO} (E : EOk X G k eo) : EqD' X G k (eqA eo) := by
  intro x y b h A pins s σ H F x' y' u v sb I g h1 h2 rx ry
  have rest : (∀ c cs, x ≠ .obj c cs) → wpAny (model X.prog X.w) A (eqBool u v) (fun r s' => r = b ∧ ∃ H', Inv X pins σ H' s' ∧ Ext H H') X.xe s := by
    intro hx
    have h' : (match flatD x, flatD y with
      | some u, some v => some (eqV u v)
      | _, _ => match kd x, kd y with
        | some i, some j => if i ≠ j then some false else none
        | _, _ => none) = some b := by
      cases x with
      | obj c cs => exact absurd rfl (hx c cs)
      | _ => exact h
    split at h'
    · rename_i p q e1 e2
      cases h'
      cases flatD_rep h1 e1
      cases flatD_rep h2 e2
      exact eqAt_V (A := A) (s := s) rx ry (flatD_flat e1) (flatD_flat e2) X.prog X.w X.xe _ ⟨rfl, H, I, Ext.rfl'⟩
    · split at h'
      · rename_i i j e1 e2
        split at h'
        · rename_i hij
          cases h'
          obtain ⟨a1, a2⟩ := kd_pk (h1.pk g) e1
          obtain ⟨b1, b2⟩ := kd_pk (h2.pk g) e2
          exact eq_kinds sb.room.units0 (kd_at I rx a1 a2) (kd_at I ry b1 b2) hij X.prog X.w X.xe _ ⟨rfl, H, I, Ext.rfl'⟩
        · cases h'
      · cases h'
  cases x with
  | obj c cs =>
    have hrc := E.rc (.obj c cs) y b h A pins s σ H F x' y' u v sb I g h1 h2 rx ry
    have ⟨a, ha⟩ : ∃ a, x' = .ref a := by cases h1; exact ⟨_, rfl⟩
    subst ha
    cases rx
    by_cases hv : v = .ref a
    · subst hv
      cases relV_ref ry
      have e := rep_inj I g E.inj h1 h2
      subst e
      have hb := E.rf c cs b h
      subst hb
      exact SeqAt.EqAt.same (A := A) (s := s) (.ref a) X.prog X.w X.xe _ ⟨rfl, H, I, Ext.rfl'⟩
    · exact PlT.eqBool_at hv (wpAny_mono hrc (fun r s' q => ⟨b, q.1, rfl, q.2⟩) fun _ _ e => e)
  | _ => exact rest (fun _ _ e => nomatch e)
theorem turnD {f : D → D → Option Bool} {n : Nat} (h : EqD' X G n f) {A : Around} (sb : Sub X (n + 1) A) {pins : List (Addr × Obj)} {σ : L2.St} {H F : Hp} {xs ys : List D} {vs us : List V} {its its2 : List Value} {e : Nat → Bool} (g : Gr F H) (he : ∀ (i : Nat) x y, xs[i]? = some x → ys[i]? = some y → f x y = some (e i))
    (rx : Reps X.K G F xs vs) (ry : Reps X.K G F ys us) (r : Vals vs its) (r2 : Vals us its2) (i : Nat) (h1 : i < its.toArray.size) (h2 : i < its2.toArray.size) (s' : Shared) (l : LoopI X pins σ H s') :
    wpAny (model X.prog X.w) A.in1 (eqBool its.toArray[i] its2.toArray[i]) (fun r s2 => r = e i ∧ LoopI X pins σ H s2) X.xe s' := by
  obtain ⟨H1, I1, e1⟩ := l
  have g1 : its[i]? = some its.toArray[i] := by
    have h1' : i < its.length := by simpa using h1
    rw [List.getElem?_eq_getElem h1'] <;> simp
  have g2 : its2[i]? = some its2.toArray[i] := by
    have h2' : i < its2.length := by simpa using h2
    rw [List.getElem?_eq_getElem h2'] <;> simp
  have k1 : i < vs.length := by rw [r.length]; simpa using h1
  have k2 : i < us.length := by rw [r2.length]; simpa using h2
  obtain ⟨u, hu, ru⟩ := r.get (List.getElem?_eq_getElem k1)
  obtain ⟨v, hv, rv⟩ := r2.get (List.getElem?_eq_getElem k2)
  rw [g1] at hu
  rw [g2] at hv
  rw [Option.some.inj hu, Option.some.inj hv]
  obtain ⟨d1, q1, w1⟩ := rx.getV (List.getElem?_eq_getElem k1)
  obtain ⟨d2, q2, w2⟩ := ry.getV (List.getElem?_eq_getElem k2)
  refine wpAny_mono (h d1 d2 (e i) (he i d1 d2 q1 q2) A.in1 pins s' σ H1 F _ _ u v sb.in1 I1 (g.trans e1) w1 w2 ru rv) (fun r s2 q => ?_) fun _ _ x => x
  obtain ⟨hr, H2, I2, e2⟩ := q
  exact ⟨hr, H2, I2, e1.trans e2⟩
theorem rcT_ok {f : D → D → Option Bool} {n : Nat} (h : EqD' X G n f) : RcD X G (n + 1) (eqT f) := by
  intro x y b hb A pins s σ H F x' y' u v sb I g h1 h2 rx ry
  unfold eqT at hb
  split at hb
  · cases h1 with
    | tup s1 r1 =>
      cases h2 with
      | tup s2 r2 =>
        cases rx
        cases ry
        obtain ⟨e, he, rfl⟩ := eqZ_all hb
        obtain ⟨its, q1, p1, z1⟩ := I.tuple (g.sqT s1)
        obtain ⟨its2, q2, p2, z2⟩ := I.tuple (g.sqT s2)
        refine PlT.rc_tupB (e := e) sb.room.units0 (fun _ s' => LoopI X pins σ H s') p1 p2 (fun i l1 l2 s' q => turnD h sb g he r1 r2 q1 q2 i l1 l2 s' q) (fun i s' q => ⟨?_, q⟩) ⟨H, I, Ext.rfl'⟩
        rw [List.size_toArray, List.size_toArray, ← q1.length, ← q2.length, ← r1.length, ← r2.length]
  · cases hb
theorem rcTN_ok {f : D → D → Option Bool} {n : Nat} (h : EqD' X G n f) {x y : D} {b : Bool} (hb : eqT f x y = some b) {A : Around} {pins : List (Addr × Obj)} {s : Shared} {σ : L2.St} {H F : Hp} {x' y' : V} {u v : Value} (sb : Sub X (n + 1) A) (I : Inv X pins σ H s) (g : Gr F H) (h1 : Rep X.K G F x x') (h2 : Rep X.K G F y y') (rx : RelV x' u) (ry : RelV y' v) :
    wpAny (model X.prog X.w) A (richCompare .NotEq u v) (fun r s' => r = .bool (!b) ∧ ∃ H', Inv X pins σ H' s' ∧ Ext H H') X.xe s := by
  unfold eqT at hb
  split at hb
  · cases h1 with
    | tup s1 r1 =>
      cases h2 with
      | tup s2 r2 =>
        cases rx
        cases ry
        obtain ⟨e, he, rfl⟩ := eqZ_all hb
        obtain ⟨its, q1, p1, z1⟩ := I.tuple (g.sqT s1)
        obtain ⟨its2, q2, p2, z2⟩ := I.tuple (g.sqT s2)
        refine PlT.rc_tupNB (e := e) sb.room.units0 (fun _ s' => LoopI X pins σ H s') p1 p2 (fun i l1 l2 s' q => turnD h sb g he r1 r2 q1 q2 i l1 l2 s' q) (fun i s' q => ⟨?_, q⟩) ⟨H, I, Ext.rfl'⟩
        rw [List.size_toArray, List.size_toArray, ← q1.length, ← q2.length, ← r1.length, ← r2.length]
  · cases hb
theorem rc_eqB {f : D → D → Option Bool} {n : Nat} (hf : Rfl f) (hj : GInj' G) (h : RcD X G n f) (hx : ∀ x y b, f x y = some b → ∀ F x', Rep X.K G F x x' → ∃ a, x' = .ref a) : EqD' X G n f := by
  intro x y b hb A pins s σ H F x' y' u v sb I g h1 h2 rx ry
  obtain ⟨a, ha⟩ := hx x y b hb F x' h1
  have hrc := h x y b hb A pins s σ H F x' y' u v sb I g h1 h2 rx ry
  subst ha
  cases rx
  by_cases hv : v = .ref a
  · subst hv
    cases relV_ref ry
    have e := rep_inj I g hj h1 h2
    subst e
    have hb := hf x b hb
    subst hb
    exact SeqAt.EqAt.same (A := A) (s := s) (.ref a) X.prog X.w X.xe _ ⟨rfl, H, I, Ext.rfl'⟩
  · exact PlT.eqBool_at hv (wpAny_mono hrc (fun r s' q => ⟨b, q.1, rfl, q.2⟩) fun _ _ e => e)
theorem EqD'.mono {f : D → D → Option Bool} {n m : Nat} (h : EqD' X G n f) (hm : n ≤ m) : EqD' X G m f := fun x y b hb A pins s σ H F x' y' u v sb => h x y b hb A pins s σ H F x' y' u v (sb.mono hm)
theorem eqR_ok {eo : EO} (E : EOk X G k eo) : ∀ n, EqD' X G (k + n) (eqR eo n)
  | 0 => fun x y b hb => eqA_ok E x y b (by rwa [eqR] at hb)
  | n + 1 => fun x y b hb => by
    rw [eqR] at hb
    split at hb
    · exact rc_eqB (eqT_rfl (eqR_rfl E.rf n)) E.inj (rcT_ok (eqR_ok E n)) (fun x y b h F x' r => by
        unfold eqT at h
        split at h
        · cases r; exact ⟨_, rfl⟩
        · cases h) x y b hb
    · exact (eqA_ok E).mono (Nat.le_add_right k (n + 1)) x y b hb
/-- == and != of tuples -/
def dEqR (neg : Bool) (eo : EO) (n : Nat) (x y : D) : Option PV := match eqT (eqR eo n) x y with
  | some b => some (.val (.bl (xor neg b)))
  | none => none
def rEqR (X : Cx) (G : Nat → Option CI) (neg : Bool) (eo : EO) (n : Nat) : R2 := fun x y H Q => ∃ F dx dy b, Gr F H ∧ Rep X.K G F dx x ∧ Rep X.K G F dy y ∧ eqT (eqR eo n) dx dy = some b ∧ ∀ H', Ext H H' → Q (.bl (xor neg b)) H'
theorem op_eqR {eo : EO} {n : Nat} (E : EOk X G k eo) (hr : Room (k + n + 1) X.A) : OpR X (compareOp .Eq) (rEqR X G false eo n) := by
  intro pins s σ H x y v u Q I rx ry ⟨F, dx, dy, b, g, h1, h2, hb, q⟩
  show wpAny (model X.prog X.w) X.A (richCompare .Eq v u) (EP X pins σ Q) X.xe s
  refine wpAny_mono (rcT_ok (eqR_ok E n) dx dy b hb X.A pins s σ H F x y v u ⟨hr, rfl⟩ I g h1 h2 rx ry) (fun r s' z => ?_) fun _ _ x => x
  obtain ⟨hr', H', I', e⟩ := z
  subst hr'
  exact ⟨.bl b, H', I', rfl, by simpa using q H' e⟩
theorem op_neR {eo : EO} {n : Nat} (E : EOk X G k eo) (hr : Room (k + n + 1) X.A) : OpR X (compareOp .NotEq) (rEqR X G true eo n) := by
  intro pins s σ H x y v u Q I rx ry ⟨F, dx, dy, b, g, h1, h2, hb, q⟩
  show wpAny (model X.prog X.w) X.A (richCompare .NotEq v u) (EP X pins σ Q) X.xe s
  refine wpAny_mono (rcTN_ok (eqR_ok E n) hb ⟨hr, rfl⟩ I g h1 h2 rx ry) (fun r s' z => ?_) fun _ _ x => x
  obtain ⟨hr', H', I', e⟩ := z
  subst hr'
  exact ⟨.bl (!b), H', I', rfl, by simpa using q H' e⟩
theorem opr_eqR {neg : Bool} {eo : EO} {n : Nat} : OpR2 X G (rEqR X G neg eo n) (dEqR neg eo n) := fun Z F ρ σ H x y pv u v Q E h hu hv q => by
  unfold dEqR at h
  split at h
  · rename_i b hb
    cases h
    exact ⟨F, x, y, b, E.ext, hu, hv, hb, fun H' e => q F _ H' Gr.rfl (E.heap e) (.bl _)⟩
  · cases h
end
section
variable {X : Cx} {k n : Nat} {Φ : Zone → Prop} {W : WX} {a b : Expr} {pos : Pos} {fa fb : M PV} {eo : EO}
theorem re_eqR (E : EOk X G k eo) (hr : Room (k + n + 1) X.A) (ha : RE X G Φ W a fa) (hb : RE X G Φ W b fb) : RE X G Φ W (.Compare a [.Eq] [b] pos) (eF2 (dEqR false eo n) fa fb) := fun Z hZ =>
  PE.lo (pe_cmpR (op_eqR E hr) (ha Z hZ) (hb Z hZ) (nomark _)) (tE_R2 opr_eqR)
theorem re_neR (E : EOk X G k eo) (hr : Room (k + n + 1) X.A) (ha : RE X G Φ W a fa) (hb : RE X G Φ W b fb) : RE X G Φ W (.Compare a [.NotEq] [b] pos) (eF2 (dEqR true eo n) fa fb) := fun Z hZ =>
  PE.lo (pe_cmpR (op_neR E hr) (ha Z hZ) (hb Z hZ) (nomark _)) (tE_R2 opr_eqR)
end
end Pl
set_option Elab.async false
set_option linter.all false
set_option maxRecDepth 100000
set_option maxHeartbeats 2000000
/-! # iteration over an instance whose __iter__ gives the iterator of a tuple or of a text -/
namespace Pl
open PySem PySem.Spec L2
open PyProof.Rows hiding St
variable {G : Nat → Option CI}
/-- at it stands the object ob -/
def ItB (it : Addr) (ob : Obj) : HO := .ext fun h => h.get? it = some ob
theorem itB_ok {P : Program} {w : World} {H : Hp} {h : Heap} {it : Addr} {ob : Obj} (e : h.get? it = some ob) : ObjOk P w H h it (ItB it ob) := ⟨e, ⟨_, e⟩, fun h1 h2 q k => k _ q⟩
/-- ob is the iterator at the start of what v is -/
def ItVal (K : PySem.W.Frag) (H : Hp) (v : V) (ob : Obj) : Prop :=
  (∃ a xs, v = .ref a ∧ SqT K H a xs ∧ ob = begO a true) ∨ (∃ z t ty, v = .str z ∧ (ty = "str_ascii_iterator" ∨ ty = "str_iterator") ∧ ob = { cls := .type ty, data := .fields #[.str z t, .int 0 0] })
section
variable {prog : Program} {w : World} {A : Around} {E : Value → Shared → Prop} {s : Shared}
theorem call_iterG {v : Value} {Q : Value → Shared → Prop} {P : Value → Shared → Prop} (hi : wpAny (model prog w) A.in1 (pyIter v) Q E s) : wpAny (model prog w) A (call (.builtin "iter") [v]) Q E s := by
  refine Calls.call_function_entry (by decide +kernel) (by decide +kernel) PySem.W.kdk_entry_iter (PySem.W.kdk_args_iter _) ?_
  unfold Builtin.«iter»
  refine wpAny_bind (m := someArgs "iter" 1 2 _) (wpAny_of_eq (a := [v]) (by first | rfl | kernel_rfl!) ?_)
  show wpAny _ _ (pyIter v >>= _) _ _ _
  refine wpAny_bind (wpAny_mono hi (fun u s' q => ?_) fun _ _ e => e)
  exact wpAny_pure ⟨_, rfl, q⟩
end
def tIterX (K : PySem.W.Frag) (n : Nat) (ta : TA) : TE := fun σ H Q => ta σ H fun vs H1 => ∃ v, vs = [v] ∧ ((∃ a xs, v = .ref a ∧ SqT K H1 a xs) ∨ ∃ z, v = .str z) ∧ ∀ it ob, H1 it = none → n ≤ it → ItVal K H1 v ob → Q (.ref it) (upd H1 it (ItB it ob))
section
variable {X : Cx} {e : Expr} {ta : TA} {p pos : Pos}
theorem pe_iterX (hg : Gl X "iter") (hm : X.mg "iter" = none) (ha : PA X [e] ta) (hst : starEach [e] X.env = (false, eval e X.env) :: starEach [] X.env := by rfl) : PE X (.Call (.Name "iter" p) [e] [] pos) (tIterX X.K X.s_0.heap.objs.size ta) := by
  refine ⟨fun pins s σ H Q I h => ?_⟩
  refine wpAny_Call_Name_kw (ld_blt (u := .builtin "iter") I hg hm boot_iter ?_ (by decide) (by decide))
  refine PyProof.Rows.callWith_builtin1 (thn (ha.run pos pins s σ H _ I h) fun us s1 ⟨vs, H1, I1, r1, v, ev, hv, q⟩ => ?_) hst rfl
  subst ev
  obtain ⟨u, rfl, ru⟩ := vals1 r1
  have fin : ∀ (ob : Obj), ob.isFreed = false → ItVal X.K H1 v ob → EP X pins σ Q (.ref s1.heap.objs.size) { s1 with heap := s1.heap.push ob } := fun ob hf hi =>
    ⟨.ref s1.heap.objs.size, _, I1.laid (t' := s1.toks) (fun b u e => Heap.get?_push_of_some _ e) (Nat.le_refl _) (itB_ok (Heap.get?_push_size _ hf)), rfl, q _ ob (I1.hok.fresh (Nat.le_refl _)) I1.sz hi⟩
  refine call_iterG (P := fun _ _ => True) ?_
  rcases hv with ⟨a, xs, rfl, hs⟩ | ⟨z, rfl⟩
  · cases ru
    obtain ⟨its, rv, pl, hz⟩ := I1.tuple hs
    exact wpAny_pyIter_tuple (show s1.heap.IsTuple a its.toArray from pl) (fin _ rfl (.inl ⟨a, xs, rfl, hs, rfl⟩))
  · obtain ⟨t, rfl⟩ := (show ∃ t, u = .str z t from ru)
    cases hz : z.cps.all (· < 128)
    · exact wpAny_pyIter_wide hz (fin _ rfl (.inr ⟨z, t, _, rfl, .inr rfl, rfl⟩))
    · exact wpAny_pyIter_ascii hz (fin _ rfl (.inr ⟨z, t, _, rfl, .inl rfl, rfl⟩))
end
/-! ### a def at one call -/
section
variable {P : Program} {w : World} {K : PySem.W.Frag} {mg : Str → Option Value} {base : Heap}
theorem fn_at {CX : CXT} {k : Nat} {f : Addr} {fd : FuncData} {x qual : Str} {params : Arguments} {body : List Stmt} {scope : Scope} {dvs : List V} {kws : List (Str × V)} {N ps : List Str} (F : FunD K x qual params body scope dvs kws f fd) (S : FnScope N ps scope)
    {A : Around} {outer : List Env} {s : Shared} {H : Hp} {args : Args} {us : List Value} {vs : List V} {Q : VK} {E : XK} (hr : Room (k + 1) A) (e0 : Env0 P w K mg base A outer s H) (hb : BindsTo s fd args (ps.zip us)) (r : Vals vs us) (hl : vs.length = ps.length)
    (hbody : ∀ (cdv : Value), Room k (A.deeper (envOfC qual scope s.heap.objs.size f cdv)) → ∃ t, PSs (cxOf CX P w K mg base N qual scope f cdv A outer s H E) body t ∧ t { nx := fun _ H' => Q .non H', rt := Q } (start N vs) H) :
    codeAny (model P w) A (.call (.ref f) args) (CR CX outer P w H s Q E) s := by
  obtain ⟨oc, od, dV, kV, doc, pm, an, cdv, ct, osl, rfl, lk, hcd, _, _⟩ := F.ex
  have KX : K.In s.heap := e0.mod.kin.keeps fun b o e => (e0.bs b o e).1
  have lim : s.heap.NoLimit := e0.mod.nolimit.keeps fun b o e => (e0.bs b o e).1
  have hkind : ∀ y ∈ ps.zip us, scope.names.lookup y.1 = some .local ∨ (scope.names.lookup y.1 = some .cell ∧ ((cellsFrom (s.heap.objs.size + 1) scope.names []).lookup y.1).isSome = true) := fun ⟨n, v⟩ hy => by
    rcases S.par n (List.of_mem_zip hy).1 with q | q
    · exact .inl q
    · exact .inr ⟨q, PySem.W.cellsFrom_some _ _ _ (.inl q)⟩
  refine codeAny_call_function hr.depth (KX _ _ lk) rfl S.co S.gen rfl (PySem.W.codeRec_of KX hcd) (hb _ _ _ _ ?_)
  refine wpAny_newFunctionEnv_cells S.kind hkind fun env he s1 x => ?_
  subst he
  refine ⟨lim.keeps x.toInCall.keep, codeAny_func ?_⟩
  obtain ⟨t, ht, hq⟩ := hbody cdv (hr.deeper _)
  have I : Inv (cxOf CX P w K mg base N qual scope f cdv A outer s H E) [] (start N vs) H s1 := inv_start S hr.hd e0 hl r x
  refine wpAny_mono (ht.run [] s1 (start N vs) H _ I hq) (fun fl s' hs => ?_) fun e s' hs => hs
  have fin : ∀ {σ' : L2.St} {H' : Hp} {v : V} {u : Value}, Inv (cxOf CX P w K mg base N qual scope f cdv A outer s H E) [] σ' H' s' → RelV v u → Q v H' → CE outer P w H s Q u s' :=
    fun {σ' H' v u} J rv q => ⟨v, H', J.os, J.bare, J.base, J.hok, rv, q⟩
  cases fl with
  | ret u =>
    obtain ⟨v, σ', H', J, rv, q⟩ := hs
    exact fin J rv q
  | next =>
    obtain ⟨σ', H', J, q⟩ := hs
    exact fin (v := V.non) (u := Value.none) J rfl q
  | brk =>
    obtain ⟨_, _, _, q⟩ := hs
    exact False.elim q
  | cont =>
    obtain ⟨_, _, _, q⟩ := hs
    exact False.elim q
/-- what the iterator of x's __iter__ walks -/
def itsOf : D → Option (List D)
  | .tup xs => some xs
  | .str z => some (z.cps.toList.map fun c => .str ⟨#[c]⟩)
  | _ => none
/-- the def at f gives the iterator of what den says -/
def ItFn (P : Program) (w : World) (K : PySem.W.Frag) (G : Nat → Option CI) (mg : Str → Option Value) (base : Heap) (k : Nat) (f : Addr) (fd : FuncData) (den : Den) : Prop :=
  ∀ (A : Around) (outer : List Env) (s : Shared) (H : Hp) (args : Args) (u : Value) (x : V) (F : Hp) (a d : D), Room k A → Env0 P w K mg base A outer s H → BindsTo s fd args ([("self" : Str)].zip [u]) → RelV x u → Gr F H → Rep K G F a x → den [.val a] = some (.ok (.val d), none) → (itsOf d).isSome = true →
    codeAny (model P w) A (.call (.ref f) args) (CR (L2.CX P w) outer P w H s (fun v' H' => ∃ F' v H1 it ob, v' = .ref it ∧ s.heap.objs.size ≤ it ∧ H1 it = none ∧ H' = upd H1 it (ItB it ob) ∧ Gr F F' ∧ EnvOk K G (zoneOf H F none) F' ([PV.val a].map some) ([x].map some) H1 ∧ Rep K G F' d v ∧ ItVal K H1 v ob) E0) s
def ItD (P : Program) (w : World) (K : PySem.W.Frag) (G : Nat → Option CI) (mg : Str → Option Value) (base : Heap) (k : Nat) (f : Addr) (den : Den) : Prop := ∃ fd, ItFn P w K G mg base k f fd den ∧ Binds K fd ["self"] []
theorem itsOf_able {F H : Hp} {d : D} {v : V} (g : Gr F H) (h : (itsOf d).isSome = true) (r : Rep K G F d v) : (∃ a xs, v = .ref a ∧ SqT K H a xs) ∨ ∃ z, v = .str z := by
  cases d with
  | tup xs => cases r with
    | tup s1 r1 => exact .inl ⟨_, _, rfl, g.sqT s1⟩
  | str z => cases r; exact .inr ⟨_, rfl⟩
  | _ => cases h
theorem itfn_of {x qual : Str} {st : Stmt} {f : Addr} {fd : FuncData} {k : Nat} {e : Expr} {p pos rp : Pos} {fa : M PV} {dvs : List V} {kws : List (Str × V)} (F : FunD K x qual (defArgs st) (defBody st) (defScope st) dvs kws f fd) (S : FnScope ["self"] ["self"] (defScope st)) (hst : defBody st = [.Return (some (.Call (.Name "iter" p) [e] [] pos)) rp])
    (hm : mg "iter" = none) (hs : ∀ (cdv : Value) (A : Around) (outer : List Env) (s : Shared) (H : Hp) (E : XK), Gl (cxOf (L2.CX P w) P w K mg base ["self"] qual (defScope st) f cdv A outer s H E) "iter" ∧
      ((starEach [e] (cxOf (L2.CX P w) P w K mg base ["self"] qual (defScope st) f cdv A outer s H E).env) = (false, eval e (cxOf (L2.CX P w) P w K mg base ["self"] qual (defScope st) f cdv A outer s H E).env) :: starEach [] (cxOf (L2.CX P w) P w K mg base ["self"] qual (defScope st) f cdv A outer s H E).env))
    (hbody : ∀ (cdv : Value) (A : Around) (outer : List Env) (s : Shared) (H : Hp) (E : XK), Room k (A.deeper (envOfC qual (defScope st) s.heap.objs.size f cdv)) →
      RE (cxOf (L2.CX P w) P w K mg base ["self"] qual (defScope st) f cdv A outer s H E) G (fun _ => True) (fun cls d _ H' => E cls d H') e fa) : ItFn P w K G mg base (k + 1) f fd (denB 1 1 (sRet fa)) := by
  intro A outer s H args u x F0 a d hr e0 hb rx g hrep hden hit
  refine fn_at F S hr e0 hb (.cons rx .nil) rfl fun cdv hrm => ?_
  obtain ⟨hgl, hse⟩ := hs cdv A outer s H E0
  have E1 : EnvOk K G (zoneOf H F0 none) F0 ([PV.val a].map some) ([x].map some) H := args_vals (env_nil g) (.cons hrep .nil)
  have hre := hbody cdv A outer s H E0 hrm (zoneOf H F0 none) trivial
  have hpe := pe_iterX (p := p) (pos := pos) (X := cxOf (L2.CX P w) P w K mg base ["self"] qual (defScope st) f cdv A outer s H E0) hgl hm (pa_cons hre pa_nil hse) hse
  rw [hst]
  refine ⟨_, pss_one (ps_ret hpe), ?_⟩
  have hc : Lent [PV.val a] := lentB_ok rfl
  unfold denB at hden
  rw [if_pos (show lentB [PV.val a] = true from rfl)] at hden
  unfold denOf at hden
  rw [if_pos (show [PV.val a].length = 1 from rfl)] at hden
  split at hden
  · rename_i pv ρ' hf
    cases hl : leftOf [PV.val a] ρ' with
    | none => rw [hl] at hden; cases hden
    | some o =>
      rw [hl] at hden; cases hden
      unfold sRet at hf
      rcases mB_cases hf with ⟨y, h1, e⟩ | ⟨pv', ρ1, h1, h2⟩
      · cases e
      · cases h2
        refine ⟨F0, _, _, _, E1, h1, fun pv e F1 v H1 g1 E2 hv => ?_, fun y e => by cases e⟩
        cases e
        have hv : Rep K G F1 d v := hv
        have E3 := env_end E1 hc.1 g1 hc.2.1 hc.2.2 E2 hl
        refine ⟨v, rfl, itsOf_able E2.ext hit hv, fun it ob n1 n2 hi => ?_⟩
        exact ⟨F1, v, H1, it, ob, rfl, n2, n1, rfl, g1, E3, hv, hi⟩
  · rename_i ρ' hf
    cases hl : leftOf [PV.val a] ρ' with
    | none => rw [hl] at hden; cases hden
    | some o => rw [hl] at hden; cases hden; cases hit
  · rename_i y ρ' hf
    cases hl : leftOf [PV.val a] ρ' with
    | none => rw [hl] at hden; cases hden
    | some o => rw [hl] at hden; cases hden
  · cases hden
/-! ### walking an instance -/
section
variable {X : Cx} {Φ : Zone → Prop} {W : WX} {e : Expr} {k c : Nat} {i : CI} {f : Addr} {fd : FuncData} {den : Den}
def tOwnIt (X : Cx) (G : Nat → Option CI) (c : Nat) (den : Den) (te : TE) : TI := fun σ H R => te σ H fun v H1 => ∃ F cs d xs, Gr F H1 ∧ Rep X.K G F (.obj c cs) v ∧ den [.val (.obj c cs)] = some (.ok (.val d), none) ∧ itsOf d = some xs ∧
  ∀ F' H2 J ρ' σ', Gr F F' → EnvOk X.K G (zoneOf H1 F none) F' ρ' σ' H2 → ItOk X.K G F' J xs → R J H2
theorem pi_ownIt {tg : Expr} {te : TE} (hi : G c = some i) (hM : Meth X.K i.adr "__iter__" f) (hF : ItFn X.prog X.w X.K G X.mg X.base k f fd den) (hr : Room k X.A) (hb : Binds X.K fd ["self"] []) (he : PE X e te) : PI X tg e (tOwnIt X G c den te) := by
  refine ⟨fun pins s σ H R I h => ?_⟩
  refine thn (he.run pins s σ H _ I h) fun v s1 ⟨y, H1, I1, r1, Fz, cs, d, xs, g, hrep, hden, hits, q⟩ => ?_
  obtain ⟨a, dx, fs, e1, ea⟩ := rep_ins g hi hrep
  subst e1
  cases r1
  obtain ⟨mA, J, _⟩ := ins_get I1.hok ea
  obtain ⟨od, J, _⟩ := J.look
  obtain ⟨m, hFr⟩ := I1.fr
  refine PySem.W.owit_iter hFr I1.ok.mod.kin J hM.at_ hM.fn ?_
  have hbind := hb s1 [.ref a] I1.kIn rfl
  rw [List.append_nil] at hbind
  refine wpAny_call (codeAny_mono (hF X.A X.stack s1 H1 ⟨[.ref a], []⟩ (.ref a) (.ref a) Fz (.obj c cs) d hr I1.env0 hbind rfl g hrep hden (by rw [hits]; rfl)) fun res s' z => ?_)
  cases res with
  | error er => exact (passL (X := X) pins σ H1 s1 er s' I1 z : X.xe er s')
  | ok fl =>
    cases fl with
    | ret w' =>
      obtain ⟨v', H', I', r', F', v2, H2, it, ob, rfl, n2, n1, rfl, g1, E2, hv, hit⟩ := I1.after z
      cases r'
      have hI : Inv X pins σ H2 s' := by
        have := ItX.inv_drop I' (upd_same (H := H2) (a := it))
        rwa [ItX.dropH_upd n1] at this
      have hfp : FpOk X pins H2 it := by
        have := ItX.inv_fp I' (upd_same (H := H2) (a := it)) (Nat.le_trans I1.sz n2)
        rwa [ItX.dropH_upd n1] at this
      have hob : s'.heap.get? it = some ob := (I'.hok it _ upd_same).1
      have one : ∀ b ∈ [it], FpOk X pins H2 b := fun b hb => by
        have e : b = it := by simpa using hb
        subst e; exact hfp
      rcases hit with ⟨l, us, rfl, hl, rfl⟩ | ⟨zs, t, ty, rfl, hty, rfl⟩
      · have hT : s'.TypeIs (.ref it) "tuple_iterator" := ⟨_, hob, rfl⟩
        refine wpAny_specialOf (name := Str.ofString "__next__") hT F.slot_tuple_iterator_next.lookup ?_
        cases hv with
        | tup s2 r2 =>
          cases hits
          have hJ := itt_ok (G := G) s2 r2
          exact ⟨it, [it], _, _, H2, rfl, hI, turn_tuple l it, ⟨_, hob, rfl, rfl⟩, one, q F' H2 _ _ _ g1 E2 hJ⟩
        | lst s2 r2 => cases hits
        | dct s2 l2 r2 => cases hits
        | obj g2 s2 l2 r2 => cases hits
      · cases hv
        cases hits
        rcases hty with rfl | rfl
        · have hT : s'.TypeIs (.ref it) "str_ascii_iterator" := ⟨_, hob, rfl⟩
          refine wpAny_specialOf (name := Str.ofString "__next__") hT F.slot_str_ascii_iterator_next.lookup ?_
          exact ⟨it, [it], _, _, H2, rfl, hI, turn_str it zs t _ (.inl rfl), ⟨_, hob, rfl, rfl⟩, one, q F' H2 _ _ _ g1 E2 its_ok⟩
        · have hT : s'.TypeIs (.ref it) "str_iterator" := ⟨_, hob, rfl⟩
          refine wpAny_specialOf (name := Str.ofString "__next__") hT F.slot_str_iterator_next.lookup ?_
          exact ⟨it, [it], _, _, H2, rfl, hI, turn_str it zs t _ (.inr rfl), ⟨_, hob, rfl, rfl⟩, one, q F' H2 _ _ _ g1 E2 its_ok⟩
    | next => exact z.elim
    | brk => exact z.elim
    | cont => exact z.elim
end
def itObj (c : Nat) (den : Den) (f : M PV) : M (List D) := mB f fun p1 => mB (mO (recv c p1)) fun cs ρ => match den [.val (.obj c cs)] with
  | some (.ok (.val d), none) => (itsOf d).map fun xs => (.ok xs, ρ)
  | _ => none
section
variable {X : Cx} {Φ : Zone → Prop} {W : WX} {e : Expr} {k c : Nat} {i : CI} {f : Addr} {fd : FuncData} {den : Den}
theorem rit_obj {tg : Expr} {fa : M PV} (hi : G c = some i) (hM : Meth X.K i.adr "__iter__" f) (hF : ItFn X.prog X.w X.K G X.mg X.base k f fd den) (hr : Room k X.A) (hb : Binds X.K fd ["self"] []) (h : RE X G Φ W e fa) : RIt X G Φ W tg e (itObj c den fa) := fun Z hZ =>
  PI.lo (pi_ownIt hi hM hF hr hb (h Z hZ)) fun σ H Q ⟨F, ρ, r, ρ', E, hf, q1, q2⟩ => by
    unfold itObj at hf
    rcases mB_cases hf with ⟨x, h1, rfl⟩ | ⟨pv, ρ1, h1, h2⟩
    · exact ⟨F, ρ, _, _, E, h1, fun _ e => (by cases e), fun y e => by cases e; exact q2 _ rfl⟩
    · refine ⟨F, ρ, _, _, E, h1, fun pv' e F1 v H1 g1 E1 hv => ?_, fun y e => by cases e⟩
      cases e
      obtain ⟨cs, hcs, h3⟩ := mO_some h2
      cases recv_some hcs
      have hr : Rep X.K G F1 (.obj c cs) v := hv
      split at h3
      · rename_i d hden
        cases hx : itsOf d with
        | none => rw [hx] at h3; cases h3
        | some xs =>
          rw [hx] at h3; cases h3
          exact ⟨F1, cs, d, xs, E1.ext, hr, hden, hx, fun F' H2 J ρ' σ' g2 E2 hJ => q1 _ rfl F' _ H2 (g1.trans g2) (E1.back g2 E2) hJ⟩
      · cases h3
end
end
end Pl
set_option Elab.async false
set_option linter.all false
set_option maxRecDepth 100000
set_option maxHeartbeats 2000000
/-! # globals that are constants; str.find; range of what a call gives; reversed -/
namespace Pl
open PySem PySem.Spec L2
open PyProof.Rows hiding St
variable {G : Nat → Option CI}
section
variable {X : Cx} {Φ : Zone → Prop} {W : WX} {e a b : Expr} {p pos apos : Pos}
theorem ri_gint {x : Str} {i : Int} {t : Tok} (hg : Gl X x) (hm : X.mg x = some (.int i t)) (hd : (x == ("__debug__" : Str)) = false := by decide) : RI X G (.Name x pos) (iC (.int i)) :=
  PE.lo (pe_glob (v := .int i) hg hm ⟨t, rfl⟩ hd) fun σ H Q ⟨Z, F, ρ, d, E, hf, q⟩ => by cases hf; exact q _ (.int i)
theorem ri_gstr {x : Str} {i : Str} {t : Tok} (hg : Gl X x) (hm : X.mg x = some (.str i t)) (hd : (x == ("__debug__" : Str)) = false := by decide) : RI X G (.Name x pos) (iC (.str i)) :=
  PE.lo (pe_glob (v := .str i) hg hm ⟨t, rfl⟩ hd) fun σ H Q ⟨Z, F, ρ, d, E, hf, q⟩ => by cases hf; exact q _ (.str i)
/-! ### methods of texts -/
def dFind : D → D → Option D
  | .str x, .str y => some (.int (Txt.find x y))
  | _, _ => none
theorem ri_find {fa fb : Inr} (ha : RP X G a fa) (hb : RP X G b fb) (hs : starEach [b] X.env = [(false, eval b X.env)] := by rfl) (hbase : attributeBase a "find" X.env (eval a X.env) = eval a X.env := by rfl) (hline : (apos.endLine == pos.line) = true := by rfl) :
    RI X G (.Call (.Attribute a "find" apos) [b] [] pos) (iBin dFind fa fb) :=
  PE.lo (pe_m1 F.slot_str_find F.type_str_find mt_find ha hb hs hbase hline) fun σ H Q ⟨Z, F, ρ, d, E, hf, q⟩ => by
    unfold iBin at hf
    cases h1 : fa ρ with
    | none => rw [h1] at hf; cases hf
    | some x =>
      rw [h1, Option.bind_some] at hf
      cases h2 : fb ρ with
      | none => rw [h2] at hf; cases hf
      | some y =>
        rw [h2, Option.bind_some] at hf
        cases x with
        | str x => cases y with
          | str y =>
            cases hf
            refine ⟨Z, F, ρ, _, E, h1, fun v hv => ?_⟩
            cases pk_str hv
            refine ⟨⟨x, rfl⟩, Z, F, ρ, _, E, h2, fun w hw => ?_⟩
            cases pk_str hw
            exact ⟨x, y, rfl, rfl, q _ (.int _)⟩
          | _ => cases hf
        | _ => cases hf
/-! ### range of what an expression gives -/
def rngI (n : Int) : M (List D) := if smI n = true then mR ((List.range n.toNat).map fun k => .int ((k : Nat) : Int)) else fun _ => none
def itRngE (f : M PV) : M (List D) := mB f fun q => mB (mO q.tree) fun d => match d with
  | .int n => rngI n
  | _ => fun _ => none
theorem rit_rngE {tg : Expr} {f : M PV} (hg : Gl X "range") (hm : X.mg "range" = none) (ha : RE X G Φ W a f) (hs : starEach [a] X.env = [(false, eval a X.env)] := by rfl) (hs' : starEach [a] X.env = (false, eval a X.env) :: starEach [] X.env := by rfl) : RIt X G Φ W tg (.Call (.Name "range" p) [a] [] pos) (itRngE f) := fun Z hZ =>
  PI.lo (pi_range1 hg hm (pa_cons (ha Z hZ) pa_nil hs') hs) fun σ H Q ⟨F, ρ, r, ρ', E, hf, q1, q2⟩ => by
    unfold itRngE at hf
    rcases mB_cases hf with ⟨x, h1, rfl⟩ | ⟨pv, ρ1, h1, h2⟩
    · exact ⟨F, ρ, _, _, E, h1, fun _ e => (by cases e), fun y e => by cases e; exact q2 _ rfl⟩
    · refine ⟨F, ρ, _, _, E, h1, fun pv' e F1 v H1 g1 E1 hv => ?_, fun y e => by cases e⟩
      cases e
      obtain ⟨d, hd, h3⟩ := mO_some h2
      split at h3
      · rename_i n
        unfold rngI at h3
        split at h3
        · rename_i hb
          unfold smI at hb
          simp only [Bool.and_eq_true, decide_eq_true_eq] at hb
          cases h3
          obtain ⟨F2, g2, E2, hr⟩ := hv.frz E1 hd
          cases hr
          refine ⟨n, rfl, hb.1, hb.2, q1 _ rfl F2 _ H1 (g1.trans g2) E2 ?_⟩
          have := itr_ok (K := X.K) (G := G) (F := F2) (lo := 0) (n := n.toNat)
          have e : ((List.range n.toNat).map fun k => D.int ((k : Nat) : Int)) = (List.range n.toNat).map fun k => D.int (0 + (k : Nat)) := by
            apply List.map_congr_left; intro k _; rw [Int.zero_add]
          rw [e]; exact this
        · cases h3
      · cases h3
/-! ### reversed -/
theorem itv_ok {K : PySem.W.Frag} {F : Hp} {a : Addr} {ds : List D} {vs : List V} (h : SqL K F a vs) (r : Reps K G F ds vs) : ItOk K G F (Itv K a vs.length) ds.reverse where
  go := fun i d H g h1 => by
    have hi := (List.getElem?_eq_some_iff.mp h1).1
    rw [List.length_reverse, r.length] at hi
    rw [List.getElem?_reverse (by rw [r.length]; exact hi), r.length] at h1
    obtain ⟨v, h2, _⟩ := r.get h1
    exact ⟨hi, vs, v, g.sqL h, h2⟩
  yld := fun i d H x H' g h1 ⟨h2, h3⟩ => .inl ⟨h2, by
    have hi := (List.getElem?_eq_some_iff.mp h1).1
    rw [List.length_reverse, r.length] at hi
    rw [List.getElem?_reverse (by rw [r.length]; exact hi), r.length] at h1
    obtain ⟨v, h4, h5⟩ := r.get h1
    have h6 := h3 vs (g.sqL h)
    rw [h4] at h6; cases h6
    exact h5⟩
  stop := fun i H g h1 => by rw [List.length_reverse, r.length] at h1; exact h1
def itRev (f : M PV) : M (List D) := mB f fun pv => mB (mO pv.tree) fun d => match d with
  | .lst ds => mR ds.reverse
  | _ => fun _ => none
theorem rit_rev {tg : Expr} {f : M PV} (hg : Gl X "reversed") (hm : X.mg "reversed" = none) (h : RE X G Φ W e f) (hs : starEach [e] X.env = (false, eval e X.env) :: starEach [] X.env := by rfl) : RIt X G Φ W tg (.Call (.Name "reversed" p) [e] [] pos) (itRev f) := fun Z hZ => PI.lo (RT.pi_revA hg hm (h Z hZ) hs) fun σ H Q ⟨F, ρ, r, ρ', E, hf, q1, q2⟩ => by
  unfold itRev at hf
  rcases mB_cases hf with ⟨x, h1, rfl⟩ | ⟨pv, ρ1, h1, h2⟩
  · exact ⟨F, ρ, _, _, E, h1, fun _ e => (by cases e), fun y e => by cases e; exact q2 _ rfl⟩
  · refine ⟨F, ρ, _, _, E, h1, fun pv' e F1 v H1 g1 E1 hv => ?_, fun y e => by cases e⟩
    cases e
    obtain ⟨d, hd, h3⟩ := mO_some h2
    obtain ⟨F2, g2, E2, hr⟩ := hv.frz E1 hd
    split at h3
    · cases h3
      cases hr with
      | lst hs hrr => exact ⟨_, _, rfl, .inl ⟨E2.ext.sqL hs, q1 _ rfl F2 _ H1 (g1.trans g2) E2 (itv_ok hs hrr)⟩⟩
    · cases h3
/-! ### a list turned round by a slice -/
def dRevL : D → Option PV
  | .lst ds => some (.own (.lst ds.reverse))
  | _ => none
theorem reps_reverse {K : PySem.W.Frag} {F : Hp} {ds : List D} {vs : List V} (r : Reps K G F ds vs) : Reps K G F ds.reverse vs.reverse := by
  induction ds generalizing vs with
  | nil => cases r; exact .nil
  | cons d ds ih =>
    cases r with
    | cons h t =>
      rw [List.reverse_cons, List.reverse_cons]
      exact (ih t).append (.cons h .nil)
theorem opr_revL : OpR1 X G (fun x H Q => ∃ a xs, x = .ref a ∧ SqL X.K H a xs ∧ ∀ p, H p = none → Q (.ref p) (upd H p (.lst xs.reverse))) dRevL := fun Z F ρ σ H x pv u Q E h hu q => by
  cases x with
  | lst ds =>
    cases h
    cases hu with
    | lst s1 r1 => exact ⟨_, _, rfl, E.ext.sqL s1, new_own E rfl (reps_reverse r1) q⟩
  | _ => cases h
theorem re_revL {f : M PV} {k : Nat} {p1 p2 p3 : Pos} (h : RE X G Φ W e f) : RE X G Φ W (.Subscript e (.Slice none none (some (.UnaryOp .USub (.Constant (.int 1) k p1) p2)) p3) pos) (eF dRevL f) := fun Z hZ =>
  PE.lo (pe_revL (h Z hZ)) (tE_R opr_revL)
end
end Pl
set_option Elab.async false
set_option linter.all false
set_option maxRecDepth 100000
set_option maxHeartbeats 2000000
/-! # min, max of two; sum; pop at a place -/
namespace Pl
open PySem PySem.Spec L2
open PyProof.Rows hiding St
variable {G : Nat → Option CI}
section
variable {X : Cx} {Φ : Zone → Prop} {W : WX} {e a b : Expr} {p pos apos : Pos}
def dMin2 : D → D → Option D
  | .int i, .int j => some (.int (if j < i then j else i))
  | _, _ => none
def dMax2 : D → D → Option D
  | .int i, .int j => some (.int (if j > i then j else i))
  | _, _ => none
theorem opc_min2 : OpC2 X G (fun xs H Q => ∃ i j, xs = [.int i, .int j] ∧ Q (.int (if j < i then j else i)) H) dMin2 := fun Z F ρ σ H x y d u v Q E h hu hv q => by
  unfold dMin2 at h
  split at h
  · cases h; cases pk_int hu; cases pk_int hv
    exact ⟨_, _, rfl, q _ (.int _)⟩
  · cases h
theorem opc_max2 : OpC2 X G (fun xs H Q => ∃ i j, xs = [.int i, .int j] ∧ Q (.int (if j > i then j else i)) H) dMax2 := fun Z F ρ σ H x y d u v Q E h hu hv q => by
  unfold dMax2 at h
  split at h
  · cases h; cases pk_int hu; cases pk_int hv
    exact ⟨_, _, rfl, q _ (.int _)⟩
  · cases h
/-! ### sum of a list of whole numbers -/
def dInts : List D → Option (List Int)
  | [] => some []
  | .int i :: ds => (dInts ds).map (i :: ·)
  | _ :: _ => none
theorem ints_reps {K : PySem.W.Frag} {F : Hp} : ∀ {ds : List D} {vs : List V} {ns : List Int}, Reps K G F ds vs → dInts ds = some ns → vs = ns.map V.int
  | [], _, ns, .nil, h => by cases h; rfl
  | d :: ds, _, ns, .cons r t, h => by
    cases d with
    | int i =>
      cases hn : dInts ds with
      | none => rw [dInts, hn] at h; cases h
      | some ms =>
        rw [dInts, hn] at h
        cases h
        cases r
        rw [ints_reps t hn]; rfl
    | _ => cases h
def dSum : D → Option D
  | .lst ds => (dInts ds).map fun ns => .int ns.sum
  | _ => none
theorem opc_sum : OpC1 X G (rSum X.K) dSum := fun Z F ρ σ H x d u Q E h hu q => by
  unfold dSum at h
  split at h
  · rename_i ds
    cases hn : dInts ds with
    | none => rw [hn] at h; cases h
    | some ns =>
      rw [hn] at h; cases h
      obtain ⟨a, vs, rfl, h1, h2⟩ := hu
      rw [ints_reps h2 hn] at h1
      exact ⟨a, ns, rfl, h1, q _ (.int _)⟩
  · cases h
/-! ### x.pop(k) -/
def lstV (ρ : En) (i : Nat) : Option (List D) := match ρ.at i with
  | some (.own (.lst ds)) => some ds
  | some (.bor (.lst ds)) => some ds
  | _ => none
def ePop (i : Nat) (fk : Inr) : M PV := fun ρ => match lstV ρ i, fk ρ with
  | some ds, some (.int k) => if smI k = true then (match ixN ds.length k with
    | some j => (match ds[j]? with
      | some d => (mB (chg i fun ds => some (ds.eraseIdx j)) fun _ => mR (.val d)) ρ
      | none => none)
    | none => none) else none
  | _, _ => none
theorem reps_erase {K : PySem.W.Frag} {F : Hp} : ∀ {ds : List D} {vs : List V} (j : Nat), Reps K G F ds vs → Reps K G F (ds.eraseIdx j) (vs.eraseIdx j)
  | [], _, _, .nil => .nil
  | _ :: _, _, 0, .cons _ t => t
  | _ :: _, _, j + 1, .cons h t => .cons h (reps_erase j t)
theorem re_pop {i : Nat} {x : Str} {k : Expr} {fk : Inr} {xp : Pos} (hk : RI X G k fk) (hN : X.N[i]? = some x := by rfl) (hv : Vis X.env.scope x := by first | exact Or.inl rfl | exact Or.inr (Or.inl rfl) | exact Or.inr (Or.inr rfl))
    (hbase : attributeBase (.Name x xp) "pop" X.env (eval (.Name x xp) X.env) = eval (.Name x xp) X.env := by rfl)
    (hfew : ((backTo p (starEach [k] X.env)).all (fun x => !x.1) && (backToKw p (keywordEach [] X.env)).all (fun x => x.1.isSome)
      && decide (([k] : List Expr).length + ([] : List Keyword).length + (if ([] : List Keyword).isEmpty then 0 else 1) < 30)) = true := by rfl)
    (hline : (apos.endLine == p.line) = true := by rfl) (hs : starEach [k] X.env = (false, eval k X.env) :: starEach [] X.env := by rfl) (hplain : (backTo p (starEach [] X.env)).any (·.1) = false := by rfl)
    (hd : (x == ("__debug__" : Str)) = false := by decide) (hcd : (x == ("__classdict__" : Str)) = false := by decide) :
    RE X G Φ W (.Call (.Attribute (.Name x xp) "pop" apos) [k] [] p) (ePop i fk) := fun Z hZ =>
  PE.lo (pe_bm PySem.F.plainAttrs_list PySem.F.slot_list_pop PySem.F.type_list_pop mt_popAt (pe_var hN hv hd hcd) (pa_cons hk pa_nil hs) hbase hfew hline hs hplain) fun σ H Q ⟨F, ρ, r, ρ', E, hf, q1, q2⟩ => by
    unfold ePop lstV at hf
    cases ho : ρ.at i with
    | none => rw [ho] at hf; cases hf
    | some pv =>
      have key : ∀ (ds : List D) (kk : Int) (j : Nat) (d : D) (l : Addr) (vs : List V), fk ρ = some (.int kk) → smI kk = true → ixN ds.length kk = some j → ds[j]? = some d → sl σ i = some (.ref l) → H l = some (.lst vs) → Reps X.K G F ds vs →
          (∀ w, Rep X.K G F d w → Q w (upd H l (.lst (vs.eraseIdx j)))) → (tBM X.K "list" rPopAt (tVar i) (tCons (tI X.K G fk) tNil)) σ H Q := by
        intro ds kk j d l vs hkk hsm hj hd' s hH hr fin
        obtain ⟨h1, h2, h3, h4⟩ := ixN_seq hj
        unfold smI at hsm
        simp only [Bool.and_eq_true, decide_eq_true_eq] at hsm
        refine ⟨_, sl_some s, .inl ⟨rfl, _, SqL.of hH⟩, Z, F, _, _, E, hkk, fun w hw => ?_⟩
        cases hw
        obtain ⟨v, hv, rv⟩ := hr.get hd'
        exact ⟨l, vs, kk, j, v, rfl, rfl, hH, by omega, by omega, by rw [← hr.length]; exact h1, hv, fin v rv⟩
      rw [ho] at hf
      cases pv with
      | val _ => cases hf
      | adr _ => cases hf
      | own o =>
        cases o with
        | lst ds =>
          obtain ⟨l, s, f, z, vs, hH, hr⟩ := E.own i _ ho
          dsimp only at hf
          split at hf
          · rename_i ds' kk e1 hkk
            cases e1
            split at hf
            · rename_i hsm
              split at hf
              · rename_i j hj
                split at hf
                · rename_i d hd'
                  have hc : chg i (fun ds => some (ds.eraseIdx j)) ρ = some (.ok (), ρ.set i (some (.own (.lst (ds.eraseIdx j))))) := by unfold chg; rw [ho]; rfl
                  rw [mB_ok hc] at hf
                  cases hf
                  exact key ds kk j d l vs hkk hsm hj hd' s hH hr fun w rw_ => q1 _ rfl F _ _ Gr.rfl (E.write ho s ⟨vs.eraseIdx j, upd_same, reps_erase j hr⟩) rw_
                · cases hf
              · cases hf
            · cases hf
          · cases hf
        | dct _ _ => cases hf
        | ins _ _ => cases hf
      | bor o =>
        cases o with
        | lst ds =>
          obtain ⟨l, s, f, z, vs, hH, hr⟩ := E.bor i _ ho
          dsimp only at hf
          split at hf
          · rename_i ds' kk e1 hkk
            cases e1
            split at hf
            · rename_i hsm
              split at hf
              · rename_i j hj
                split at hf
                · rename_i d hd'
                  have hc : chg i (fun ds => some (ds.eraseIdx j)) ρ = some (.ok (), ρ.set i (some (.bor (.lst (ds.eraseIdx j))))) := by unfold chg; rw [ho]; rfl
                  rw [mB_ok hc] at hf
                  cases hf
                  exact key ds kk j d l vs hkk hsm hj hd' s hH hr fun w rw_ => q1 _ rfl F _ _ Gr.rfl (E.writeB ho s ⟨vs.eraseIdx j, upd_same, reps_erase j hr⟩) rw_
                · cases hf
              · cases hf
            · cases hf
          · cases hf
        | dct _ _ => cases hf
        | ins _ _ => cases hf
end
section
variable {X : Cx} {k n : Nat} {Φ : Zone → Prop} {W : WX} {a b : Expr} {pos : Pos} {fa fb : M PV} {eo : EO}
theorem rt_eqR (E : EOk X G k eo) (hr : Room (k + n + 1) X.A) (ha : RE X G Φ W a fa) (hb : RE X G Φ W b fb) : RT X G Φ W (.Compare a [.Eq] [b] pos) (bVal (eF2 (dEqR false eo n) fa fb)) := fun Z hZ =>
  PT.lo (pt_cmpR (op_eqR E hr) (ha Z hZ) (hb Z hZ) (nomark _)) fun σ H Q h => tE_R2 opr_eqR σ H _ (tT_test σ H Q h)
theorem rt_neR (E : EOk X G k eo) (hr : Room (k + n + 1) X.A) (ha : RE X G Φ W a fa) (hb : RE X G Φ W b fb) : RT X G Φ W (.Compare a [.NotEq] [b] pos) (bVal (eF2 (dEqR true eo n) fa fb)) := fun Z hZ =>
  PT.lo (pt_cmpR (op_neR E hr) (ha Z hZ) (hb Z hZ) (nomark _)) fun σ H Q h => tE_R2 opr_eqR σ H _ (tT_test σ H Q h)
end
end Pl
set_option Elab.async false
set_option linter.all false
set_option maxRecDepth 100000
set_option maxHeartbeats 4000000
/-! # a tuple so many times, none and one too -/
namespace Pl
open PySem PySem.Spec L2
open PyProof.Rows hiding St
variable {G : Nat → Option CI}
theorem tuple_mul0 (l : Addr) (items : Array Value) (n : Nat) (dd : Option Addr) (sl : Array (Option Value)) (x : Int) (u : Tok) (c0 : (decide (x < -(2 ^ 63)) || decide (x ≥ 2 ^ 63)) = false) (c1 : (items.isEmpty || x == 1) = false) (c2 : (decide (x ≤ 0) || items.isEmpty) = true) :
    Meets (Builtin.«tuple.__mul__» ⟨[.ref l, .int x u], []⟩) (fun _ R s => s.heap.get? l = some { cls := .type "tuple", dict := dd, data := .seq items n, slots := sl } ∧
      R (.ok (.ret (Value.ref s.heap.objs.size))) { s with heap := s.heap.push { cls := Value.type "tuple", data := Data.seq #[] }, toks := s.toks }) :=
  .of_wp fun prog w A R s h => by
    obtain ⟨hp, g, d, tk, os⟩ := s
    obtain ⟨hl, h⟩ := h
    have f1 := AutoSeq1.idx_int
    wp_walk using wpAny_loadPart' hl
    repeat (first
      | (refine wpAny_ite_false (decide_eq_false (by rw [c0]; exact Bool.false_ne_true)) ?_; wp_walk using wpAny_loadPart' hl)
      | (refine wpAny_ite_false (decide_eq_false (by rw [c1]; exact Bool.false_ne_true)) ?_; wp_walk using wpAny_loadPart' hl)
      | (refine wpAny_ite_true (decide_eq_true (by rw [c2])) ?_; wp_walk using wpAny_loadPart' hl))
    exact ⟨_, rfl, h⟩
theorem tuple_mul1 (l : Addr) (items : Array Value) (n : Nat) (dd : Option Addr) (sl : Array (Option Value)) (x : Int) (u : Tok) (c0 : (decide (x < -(2 ^ 63)) || decide (x ≥ 2 ^ 63)) = false) (c1 : (items.isEmpty || x == 1) = true) :
    Meets (Builtin.«tuple.__mul__» ⟨[.ref l, .int x u], []⟩) (fun _ R s => s.heap.get? l = some { cls := .type "tuple", dict := dd, data := .seq items n, slots := sl } ∧
      R (.ok (.ret (Value.ref l))) s) :=
  .of_wp fun prog w A R s h => by
    obtain ⟨hp, g, d, tk, os⟩ := s
    obtain ⟨hl, h⟩ := h
    have f1 := AutoSeq1.idx_int
    wp_walk using wpAny_loadPart' hl
    repeat (first
      | (refine wpAny_ite_false (decide_eq_false (by rw [c0]; exact Bool.false_ne_true)) ?_; wp_walk using wpAny_loadPart' hl)
      | (refine wpAny_ite_true (decide_eq_true (by rw [c1])) ?_; wp_walk using wpAny_loadPart' hl))
    exact ⟨_, rfl, h⟩
def rRepA (K : PySem.W.Frag) : R2 := fun x y H Q => ∃ l k xs, x = .ref l ∧ y = .int k ∧ SqT K H l xs ∧ xs ≠ [] ∧ -1000 ≤ k ∧ k ≤ 1000 ∧ xs.length ≤ 1000 ∧ (k = 1 → Q (.ref l) H) ∧ (k ≠ 1 → ∀ p, H p = none → Q (.ref p) (upd H p (.tup (List.replicate k.toNat xs).flatten)))
section
variable {X : Cx} {Φ : Zone → Prop} {W : WX} {a b : Expr} {pos : Pos}
theorem op_repA : OpR X (binaryOp .Mult) (rRepA X.K) := by
  intro pins s σ H x y v u Q I rx ry h
  obtain ⟨l, k, xs, rfl, rfl, hT, hne, h1, h2, hz, q1, q2⟩ := h
  by_cases hk : 2 ≤ k
  · exact op_repT pins s σ H _ _ v u Q I rx ry ⟨l, k, xs, rfl, rfl, hT, hne, hk, h2, hz, q2 (by omega)⟩
  cases rx
  obtain ⟨t, rfl⟩ := ry
  obtain ⟨its, r, ⟨⟨cls, dd, data, sl⟩, ho, hc, n, hd⟩, hs⟩ := I.tuple hT
  simp only at hc hd
  subst hc hd
  have hle : its.length = xs.length := r.length.symm
  have hn : its ≠ [] := fun e => hne (by
    rw [e] at hle
    exact List.eq_nil_of_length_eq_zero hle.symm)
  have hi : its.toArray.isEmpty = false := by
    cases its with
    | nil => exact absurd rfl hn
    | cons a b => rfl
  have c0 : (decide (k < -(2 ^ 63)) || decide (k ≥ 2 ^ 63)) = false := by
    rw [decide_eq_false (by omega), decide_eq_false (by omega)] <;> rfl
  by_cases h1k : k = 1
  · subst h1k
    have c1 : (its.toArray.isEmpty || (1 : Int) == 1) = true := by rw [hi]; rfl
    refine wpAny_binaryOp_repeat_ref (T := "tuple") (U := "int") (by decide) ⟨_, ho, rfl⟩ (fun s' => typeIs_int s' 1 t) noFill_tuple_mul F.fills_int_mul F.slot_int_rmul repeat_tuple F.slot_int_index.lookup
      (call_meets F.slot_int_rmul (typeIs_int s 1 t) F.entry_int_rmul (F.args_int_rmul_2 _ _) (int_rmul_tuple 1 t l its.toArray n dd sl)
        ⟨ho, rfl, ⟨_, ho, rfl⟩, call_meets F.slot_tuple_mul ⟨_, ho, rfl⟩ F.entry_tuple_mul (F.args_tuple_mul_2 _ _) (tuple_mul1 l its.toArray n dd sl 1 t c0 c1) ⟨ho, ?_⟩⟩)
    exact ⟨.ref l, H, I, rfl, q1 rfl⟩
  · have c1 : (its.toArray.isEmpty || k == 1) = false := by
      rw [hi, Bool.false_or]
      exact beq_eq_false_iff_ne.mpr h1k
    have c2 : (decide (k ≤ 0) || its.toArray.isEmpty) = true := by rw [decide_eq_true (by omega)]; rfl
    refine wpAny_binaryOp_repeat_ref (T := "tuple") (U := "int") (by decide) ⟨_, ho, rfl⟩ (fun s' => typeIs_int s' k t) noFill_tuple_mul F.fills_int_mul F.slot_int_rmul repeat_tuple F.slot_int_index.lookup
      (call_meets F.slot_int_rmul (typeIs_int s k t) F.entry_int_rmul (F.args_int_rmul_2 _ _) (int_rmul_tuple k t l its.toArray n dd sl)
        ⟨ho, rfl, ⟨_, ho, rfl⟩, call_meets F.slot_tuple_mul ⟨_, ho, rfl⟩ F.entry_tuple_mul (F.args_tuple_mul_2 _ _) (tuple_mul0 l its.toArray n dd sl k t c0 c1 c2) ⟨ho, ?_⟩⟩)
    have e0 : k.toNat = 0 := by omega
    have q := q2 h1k _ (I.hok.fresh (Nat.le_refl _))
    rw [e0] at q
    exact ⟨.ref s.heap.objs.size, _, I.laid (t' := s.toks) (o := .tup []) (fun b ob q => Heap.get?_push_of_some _ q) (Nat.le_refl _) ⟨Nat.zero_le _, [], .nil, IsTup.new _ _⟩, rfl, q⟩
/-- a tuple so many times -/
def dRepT : D → D → Option PV
  | .tup xs, .int k => if 0 < xs.length ∧ xs.length ≤ 1000 ∧ -1000 ≤ k ∧ k ≤ 1000 then some (.val (.tup (List.replicate k.toNat xs).flatten)) else none
  | _, _ => none
theorem reps_rep {K : PySem.W.Frag} {F : Hp} {ds : List D} {vs : List V} (r : Reps K G F ds vs) : ∀ m : Nat, Reps K G F (List.replicate m ds).flatten (List.replicate m vs).flatten
  | 0 => .nil
  | m + 1 => by
    rw [List.replicate_succ, List.replicate_succ, List.flatten_cons, List.flatten_cons]
    exact r.append (reps_rep r m)
theorem opr_repT : OpR2 X G (rRepA X.K) dRepT := fun Z F ρ σ H x y pv u v Q E h hu hv q => by
  cases x <;> first | (cases h; done) | skip
  cases y <;> first | (cases h; done) | skip
  rename_i xs k
  unfold dRepT at h
  dsimp only at h
  split at h
  · rename_i hh
    obtain ⟨g1, g2, g3, g4⟩ := hh
    cases h
    cases hv
    cases hu with
    | tup s1 r1 =>
      rename_i l vs
      refine ⟨l, k, vs, rfl, rfl, E.ext.sqT s1, fun z => ?_, g3, g4, by rw [← r1.length]; exact g2, fun hk => ?_, fun hk => ?_⟩
      · subst z
        have := r1.length
        rw [List.length_nil] at this
        omega
      · subst hk
        have : (List.replicate (1 : Int).toNat xs).flatten = xs := by simp
        rw [this] at q
        exact q F _ H Gr.rfl E (.tup s1 r1)
      · exact new_val E rfl (fun p hp => .tup (.of upd_same) ((reps_rep r1 k.toNat).gr (Gr.new hp))) q
  · cases h
theorem re_repT {fa fb : M PV} (ha : RE X G Φ W a fa) (hb : RE X G Φ W b fb) : RE X G Φ W (.BinOp a .Mult b pos) (eF2 dRepT fa fb) := fun Z hZ => PE.lo (pe_op op_repA (ha Z hZ) (hb Z hZ)) (tE_R2 opr_repT)
end
end Pl
/-! # Own exceptions with a field: raise, read -/
set_option Elab.async false
set_option linter.all false
set_option maxRecDepth 100000
set_option maxHeartbeats 2000000
namespace Pl
open PySem PySem.Spec L2 PySem.Calls
open PyProof.Rows hiding St
section
variable {prog : Program} {w : World} {A : Around} {E : Value → Shared → Prop} {h : Heap} {g : Array GenState} {d : Drawn} {t : Nat} {os : OsState}
/-- a bound ValueError.__init__, called -/
theorem call_mw {nm q : Str} {C N : Addr} {bs bm : List Value} {hdct : Bool} {sn : List Str} {sub : List Value} {ab : Bool} {col : Option Bool} {dd : Option Addr} {k0 k1 k2 k3 k5 : Option Value} {u e t0 : Addr} {us : List Value} {Q : Value → Shared → Prop}
    (hC : h.get? C = some (excClassObj nm q C N bs bm hdct sn sub ab col dd k0 k1 k2 k3 k5 "ValueError.__new__")) (he : h.get? e = some (HandSPX.excO C t0)) (hu : h.get? u = some (PySem.W.kxs_mw "ValueError.__init__" e)) (hz : us.length ≤ sizeLine)
    (hq : ∀ h' t1, (∀ b o, b ≠ e → h.get? b = some o → h'.get? b = some o) → h'.get? e = some (HandSPX.excO C t1) → Q .none ⟨h', g, d, t, os⟩) :
    wpAny (model prog w) A (call (.ref u) us) Q E ⟨h, g, d, t, os⟩ := by
  refine' wpAny_call ?_
  refine' codeAny_of_tree ?_
  show wpAny _ A.in1 (callAny (.ref u) ⟨us, []⟩) _ _ _
  unfold callAny
  refine' wpAny_bind ?_
  refine' wpAny_load hu ?_
  have e1 : (Value.type "method-wrapper" == Value.type "method" || Value.type "method-wrapper" == Value.type "builtin_function_or_method" || Value.type "method-wrapper" == Value.type "method-wrapper") = true := by decide
  simp only [PySem.W.kxs_mw, e1, if_true]
  refine' PySem.W.KFB.if_so (by decide) ?_
  refine' wpAny_bind ?_
  refine' PySem.ESX.check_bound F.excBase_ValueError hC he rfl ?_
  refine' wpAny_bind (wpAny_pure ?_)
  refine' wpAny_pure ?_
  refine' ⟨Code.quiet_builtin _ (by decide +kernel), codeAny_builtin F.excBase_ValueError.initEntry ?_⟩
  try rw [Around.under_plainId F.excBase_ValueError.init.plain _]
  wp_walk
  refine' hq _ h.objs.size (fun b o hb ho => ?_) ?_
  · rw [Heap.get?_update_other _ _ (Ne.symm hb)]
    exact Heap.get?_push_of_some _ ho
  · rw [Heap.get?_update_self _ (Heap.get?_push_of_some _ he) rfl]
    rfl
end

section
open NdefX
/-- an own exception's __init__ as it stands in the written part: its class cell holds the class at D -/
structure XIn (pf : Str) (K : PySem.W.Frag) (qual : Str) (params : Arguments) (body : List Stmt) (scope : Scope) (f D : Addr) (fd : FuncData) : Prop where
  ex : ∃ (oc cl ccl dV kV doc pm ct : Value) (od cld cdd an : Option Addr) (osl csl ccs : Array (Option Value)) (name : Str) (cc c : Addr) (vs : Array Value) (file : Str) (tf : Tok),
    fd = PySem.W.fnX name qual params body scope [("__class__", cc)] dV kV doc pm an (.ref c) ct ∧ K.lookup f = some ⟨oc, od, .func fd, osl⟩ ∧ PySem.W.codeIn K (.ref c) qual = true ∧
    K.lookup cc = some ⟨cl, cld, .cell (some (.ref D)), csl⟩ ∧ K.lookup c = some ⟨ccl, cdd, .fields vs, ccs⟩ ∧ vs[2]? = some (.str file tf) ∧ ((pf : Str) == file) = true
/-- what super().__init__ of the class at C comes to -/
structure XSup (K : PySem.W.Frag) (C : Addr) : Prop where
  oex : OexC K C
  sup : PySem.W.ks_superIn K C C "__init__" = some (some (.builtin "ValueError.__init__"))
  opq : PySem.W.nsIn K PySem.cStatics "thirdparty.any" = some none
  own : PySem.W.mroIn K C (.ref C) = some true
  val : PySem.W.subIn K (.ref C) (.type "ValueError") = some true
theorem cls_look {K : PySem.W.Frag} {C : Addr} {cd : ClassData} (h : PySem.W.clsIn K C = some cd) : ∃ o, K.lookup C = some o ∧ o.data = .cls cd := by
  unfold PySem.W.clsIn at h
  split at h
  · rename_i o1 o2 o3 o4 e
    cases h
    exact ⟨_, e, rfl⟩
  · cases h
theorem fnok_exc {pf : Str} {P : Program} {w : World} {K : PySem.W.Frag} {mg : Str → Option Value} {base : Heap} {CX : CXT} {k : Nat} {f C : Addr} {fd : FuncData} {qual x fld : Str} {params : Arguments} {scope : Scope} {e : Expr} {p0 p1 p2 p3 p4 q1 q2 q3 q4 : Pos} {ar : Arg}
    {ok : V → Prop} {te : TE}
    (hpf : P.main.file = pf) (htop : (P.main.scope.names.lookup ("super" : Str)).isSome = false) (X : XIn pf K qual params [.Expr (.Call (.Attribute (.Call (.Name "super" p0) [] [] p1) "__init__" p2) [e] [] p3) p4, .Assign [.Attribute (.Name "self" q1) fld q2] (.Name x q3) q4] scope f C fd) (Y : XSup K C) (nos : mg "super" = none)
    (S : NScope ["self", x, "__class__"] ["self", x] ["__class__"] scope) (har : (params.posonlyargs ++ params.args).head? = some ar) (hself : ar.arg = "self") (hsup : scope.names.lookup ("super" : Str) = some .globalImplicit)
    (hno : PySem.W.findIn K (.ref C) fld = some none) (hboot : bootBuiltins "super" = some (.type "super"))
    (hx : (x == ("__debug__" : Str)) = false) (hx2 : (x == ("__classdict__" : Str)) = false)
    (hev : ∃ pl : Sem Bool, ∀ env : Env, eval (.Call (.Attribute (.Call (.Name "super" p0) [] [] p1) "__init__" p2) [e] [] p3) env = (do
        let ov ← attributeBase (.Call (.Name "super" p0) [] [] p1) "__init__" env (eval (.Call (.Name "super" p0) [] [] p1) env)
        standAt p2.atName
        let (f, first) ← holding [ov] (getMethod ov "__init__" pl)
        callWith p3 f first (backTo p3 (starEach [e] env)) []))
    (hst : ∀ env : Env, starEach [e] env = (false, eval e env) :: starEach [] env) (hsw : ∀ env : Env, swapsWith (.Call (.Attribute (.Call (.Name "super" p0) [] [] p1) "__init__" p2) [e] [] p3) none p4.line env = pure false) (hsw2 : ∀ env : Env, swapsWith (.Name x q3) (some (.Attribute (.Name "self" q1) fld q2)) q4.line env = pure false)
    (he : ∀ (F : NF) (A : Around) (outer : List Env) (s : Shared) (H : Hp) (E : XK), F.scope = scope → PE (ncx CX P w K mg base ["self", x, "__class__"] F f A outer s H E) e te)
    (hte : ∀ (a D : V) (v : V) (H : Hp) (Q : VK), ok v → (∀ u, Q u H) → te [some a, some v, some D] H Q) :
    FnOk P w K mg base CX (k + 1) f fd ["self", x] (fun vs H Q E => ∃ (a : Addr) (v : V), vs = [.ref a, v] ∧ ok v ∧ H a = some (exo a C none) ∧ ∀ dx, H dx = none → dx ≠ a → Q .non (upd (upd H dx (exd dx [(fld, v)])) a (exo a C (some dx)))) := by
  obtain ⟨oc, cl, ccl, dV, kV, doc, pm, ct, od, cld, cdd, an, osl, csl, ccs, name, cc, c, cvs, file, tf, rfl, lk, hcd, hcell, hcode, hvs, hfile⟩ := X.ex
  refine ⟨fun vs H Q E ⟨a, v, h, _⟩ => by rw [h]; rfl, fun A outer s H args us vs Q E hr e0 hb r hsp => ?_⟩
  obtain ⟨a, v, rfl, hv, ha, hQ⟩ := hsp
  have KX : K.In s.heap := e0.mod.kin.keeps fun b o e => (e0.bs b o e).1
  have lim : s.heap.NoLimit := e0.mod.nolimit.keeps fun b o e => (e0.bs b o e).1
  have hus : us.length = 2 := r.length.symm
  let F : NF := ⟨name, qual, params, [.Expr (.Call (.Attribute (.Call (.Name "super" p0) [] [] p1) "__init__" p2) [e] [] p3) p4, .Assign [.Attribute (.Name "self" q1) fld q2] (.Name x q3) q4], scope, [("__class__", cc)], c⟩
  refine PySem.ks_codeAny_call_defAt hr.depth (KX _ _ lk) rfl lim (PySem.W.codeRec_of KX hcd) rfl hb S.nocell (fun ⟨n, _⟩ hy => S.par n (List.of_mem_zip hy).1) (fun h₁ hns kp => ?_) S.co S.gen S.kind
  have hcc : H cc = none := (e0.bs _ _ (e0.mod.kin _ _ hcell)).2
  have CA : CellsAt F.cl ["__class__"] [some (V.ref C)] s.heap H := by
    refine ⟨rfl, fun y c' hy => ?_, fun y z c' hy hz => ?_, fun i y hy => ?_⟩
    · have : c' = cc := by
        by_cases q : (y == ("__class__" : Str)) = true
        · simp [F, List.lookup, q] at hy; exact hy.symm
        · simp [F, List.lookup, q] at hy
      subst this
      exact ⟨hcc, _, ⟨_, KX _ _ hcell, rfl⟩⟩
    · have key : ∀ {y : Str}, F.cl.lookup y = some c' → y = "__class__" := fun {y} hy => by
        by_cases q : (y == ("__class__" : Str)) = true
        · exact beq_iff_eq.mp q
        · simp [F, List.lookup, q] at hy
      rw [key hy, key hz]
    · match i, hy with
      | 0, hy =>
        cases hy
        exact ⟨cc, by simp [F, List.lookup], fun v hv => by cases hv; exact ⟨.ref C, rfl, ⟨_, KX _ _ hcell, rfl⟩⟩⟩
      | i + 1, hy => simp at hy
  have I : L2.Inv (ncx CX P w K mg base ["self", x, "__class__"] F f A outer s H E) [] (startF ["self", x, "__class__"] [.ref a, v] [some (V.ref C)]) H { s with heap := h₁, toks := s.toks + ((["self", x] : List Str).zip us).length } := inv_startN (F := F) (f := f) S hr.hd e0 rfl r CA hns kp
  have hσ : startF ["self", x, "__class__"] [.ref a, v] [some (V.ref C)] = [some (.ref a), some v, some (.ref C)] := rfl
  rw [hσ] at I
  let X1 : Cx := ncx CX P w K mg base ["self", x, "__class__"] F f A outer s H E
  let E1 : Value → Shared → Prop := X1.xe
  let A1 : Around := A.deeper (envF F f s.heap.objs.size)
  let en : Env := envF F f s.heap.objs.size
  obtain ⟨nm, q, N0, bs, bm, sn, sub, ab, col, dd, k0, k1, k2, k3, k5, hC, hbm⟩ := Y.oex.cls
  have hcl : PySem.W.clsIn K C = some { name := nm, bases := bs, mro := .ref C :: bm, ns := N0, qualname := q, hasDict := true, slotNames := sn, subclasses := sub, abstract := ab, collection := col, hasDel := false } := by unfold PySem.W.clsIn; rw [hC] <;> rfl
  generalize hcd0 : ({ name := nm, bases := bs, mro := .ref C :: bm, ns := N0, qualname := q, hasDict := true, slotNames := sn, subclasses := sub, abstract := ab, collection := col, hasDel := false } : ClassData) = cd0 at hcl
  have getV : ∀ {s' : Shared} {i : Nat} {y : Str} {u : V} {pins : List (Addr × Obj)} {H' : Hp} {Q : Value → Shared → Prop}, L2.Inv X1 pins [some (.ref a), some v, some (.ref C)] H' s' → X1.N[i]? = some y → ([some (.ref a), some v, some (.ref C)] : L2.St)[i]? = some (some u) → Vis X1.env.scope y → (y == ("__classdict__" : Str)) = false → (∀ z, RelV u z → Q z s') → wpAny (model P w) A1 (loadName en y) Q E1 s' := by
    intro s' i y u pins H' Q I' h1 h2 hvis hcn h3
    obtain ⟨m, hn, hl⟩ := I'.loc
    obtain ⟨z, rz, l⟩ := hl i y u h1 h2 hvis
    rcases l with ⟨hk, hm⟩ | ⟨hk, c', hc', hcell'⟩
    · exact wpAny_loadName_local S.kind hk hn hm (h3 z rz)
    · rcases hk with hk | hk
      · exact absurd rfl (S.nocell _ (PySem.mem_of_lookup hk))
      · exact wpAny_loadName_free S.kind hk hc' hcell' (h3 z rz) hcn
  obtain ⟨pl, hpl⟩ := hev
  show PySem.wpAt (model P w) A1 (.func F.body en) (execs F.body en) _ E1 _
  refine PySem.ks_wpAt_execs_cons (PySem.ks_wpAt_Expr_any (PySem.ks_wpAt_MethodCall ?_ (hpl en)) (by simp [interactive, en, PySem.W.envX, S.kind, F]) (hsw en))
  refine PySem.ks_wpAt_super_base (env := en) hsup (S.frk _ (by simp)) (by decide) rfl (I.kIn _ _ lk) rfl har rfl (I.kIn _ _ hcode) rfl hvs (by rw [hpf]; exact hfile) htop ?_
  refine PySem.W.ks_loadName_global S.kind hsup ?_
  obtain ⟨mb, hb1, hb2⟩ := e0.mod.blt
  refine Calls.loadGlobal_builtin (e0.mod.glob.keeps I.bk) nos (hb1.keeps I.bk) ((hb2 "super" (by decide)).trans hboot) ⟨rfl, ?_⟩
  refine getV I (i := 2) rfl rfl (.inr (.inr (S.frk _ (by simp)))) (by decide) fun cls rc => ?_
  obtain rfl : cls = Value.ref C := rc
  rw [hself]
  refine getV I (i := 0) rfl rfl (.inl (S.par _ (by simp))) (by decide) fun self rs => ?_
  obtain rfl : self = Value.ref a := rs
  obtain ⟨oC, lC, dC⟩ := cls_look hcl
  have hoC := I.kIn _ _ lC
  refine PySem.ks_wpAny_isType_cls hoC dC ⟨rfl, ?_⟩
  obtain ⟨t1, hoa⟩ := exo_at I.hok ha
  generalize hs1 : ({ s with heap := h₁, toks := s.toks + ((["self", x] : List Str).zip us).length } : Shared) = s1 at *
  obtain ⟨hp, g, dr, tk, os⟩ := s1
  refine PySem.ks_wpAny_call_super hoC dC hoa rfl (fun c' e' => by cases e') (PySem.W.looks_mroIn I.kIn Y.own) (fun h2 hso k2 => ?_)
  have I2 : L2.Inv X1 [] [some (.ref a), some v, some (.ref C)] H ⟨h2, g, dr, tk, os⟩ := I.kept k2
  have hoa2 := k2 _ _ hoa
  have inst : PySem.W.InstAt h2 a { cls := .ref C, dict := none, data := .fields #[.ref t1, .none, .none, .none, .bool false, .none] } C none := ⟨hoa2, rfl, rfl, trivial⟩
  have hsupK : PySem.W.alongIn K "__init__" ((cd0.mro.dropWhile (· != .ref C)).drop 1) = some (some (.builtin "ValueError.__init__")) := by
    have := Y.sup
    unfold PySem.W.ks_superIn at this
    rw [hcl] at this
    exact this
  refine PySem.W.kxs_getMethod PySem.W.kxs_ValueError hso (PySem.W.looks_opaque I2.kIn Y.opq) (l₀ := cd0.mro) (fun A' Q' E' s' k' q' => wpAny_bind ((PySem.W.looks_clsIn I2.kIn hcl) A' _ E' s' k' (wpAny_pure q'))) rfl I2.kIn hsupK (inst.type.andThen (PySem.W.looks_subIn I2.kIn Y.val)) (PySem.W.ks_ne I2.kIn inst hcl) (by decide) ?_
  have k3' : ∀ b o, h2.get? b = some o → (h2.push (PySem.W.kxs_mw "ValueError.__init__" a)).get? b = some o := fun b o e' => Heap.get?_push_of_some _ e'
  have hu3 : (h2.push (PySem.W.kxs_mw "ValueError.__init__" a)).get? h2.objs.size = some (PySem.W.kxs_mw "ValueError.__init__" a) := Heap.get?_push_at rfl rfl
  have I3 : L2.Inv X1 [] [some (.ref a), some v, some (.ref C)] H ⟨h2.push (PySem.W.kxs_mw "ValueError.__init__" a), g, dr, tk + 1, os⟩ := I2.kept (t' := tk + 1) k3'
  have hnu : H h2.objs.size = none := I2.hok.fresh (Nat.le_refl _)
  have I4 : L2.Inv X1 [(h2.objs.size, PySem.W.kxs_mw "ValueError.__init__" a)] [some (.ref a), some v, some (.ref C)] H ⟨h2.push (PySem.W.kxs_mw "ValueError.__init__" a), g, dr, tk + 1, os⟩ := I3.pins_of fun p hp' => by
    rw [List.mem_singleton.mp hp']
    exact ⟨hu3, hnu, fun z => by have := I2.lt; rw [← z] at this; exact absurd this (Nat.lt_irrefl _), I2.nofs (Nat.le_refl _), fun v' z => by cases z⟩
  refine PySem.W.kxs_callWith (i := "ValueError.__init__") (x := a) (by rw [hst en]; rfl) ?_
  have hargs : wpAny (model P w) A1 (spliced (backTo p3 (starEach [e] en))) (AP X1 [(h2.objs.size, PySem.W.kxs_mw "ValueError.__init__" a)] [some (.ref a), some v, some (.ref C)] fun vs H1 => vs.length = 1 ∧ H1 = H) E1 ⟨h2.push (PySem.W.kxs_mw "ValueError.__init__" a), g, dr, tk + 1, os⟩ := (pa_cons (he F A outer s H E rfl) pa_nil (hst en)).run p3 _ _ _ H (fun vs H1 => vs.length = 1 ∧ H1 = H) I4 (hte _ _ _ _ _ hv fun z => ⟨rfl, rfl⟩)
  show wpAny (model P w) A1 (evalArgs (.ref h2.objs.size) true (backTo p3 (starEach [e] en)) []) _ E1 _
  rw [hst en] at hargs ⊢
  refine evalArgs_plain (thn hargs fun ws s3 hw3 => ?_)
  obtain ⟨vs, H5, I5, r5, hl5, hH5⟩ := hw3
  subst hH5
  obtain ⟨hu5, _⟩ := I5.pin (h2.objs.size, PySem.W.kxs_mw "ValueError.__init__" a) (by simp)
  refine ⟨hu5, ?_⟩
  obtain ⟨t5, hoa5⟩ := exo_at I5.hok ha
  have hlen : ws.length ≤ sizeLine := by rw [← Paired.length r5, hl5]; decide
  obtain ⟨h5, g5, d5, tk5, os5⟩ := s3
  refine call_mw (I5.kIn _ _ hC) hoa5 hu5 hlen fun h6 t6 k6 hx6 => ?_
  have J := I5.write (t' := tk5) (x := a) (e := a) (o := exo a C none) (by rw [ha]; exact True.intro) (.inl rfl) k6 ⟨_, hx6⟩ (exo_ok hx6)
  have eu : upd H5 a (exo a C none) = H5 := by
    funext b
    by_cases hb : b = a
    · rw [hb, upd_same, ha]
    · rw [upd_ne hb]
  rw [eu] at J
  show PySem.wpAt (model P w) A1 (.func F.body en) (execs [.Assign [.Attribute (.Name "self" q1) fld q2] (.Name x q3) q4] en) _ E1 _
  refine PySem.wpAt_of_wpAny (thn ((pss_one (ps_ost (X := X1) (o := .Name "self" q1) (e := .Name x q3) (f := fld) (p' := q2) (pos := q4) (pe_var (i := 0) rfl (.inl (S.par _ (by simp)))) (pe_var (i := 1) rfl (.inl (S.par _ (by simp))) hx hx2) (hsw2 en))).run _ _ _ _ { nx := fun _ H' => Q .non H', rt := Q } J ?_) fun fl s' hs => ?_)
  · exact ⟨v, rfl, .ref a, rfl, a, C, rfl, Y.oex, hno, .inl ⟨ha, fun dx hd hda => hQ dx hd hda⟩⟩
  have fin : ∀ {pins : List (Addr × Obj)} {σ' : L2.St} {H' : Hp} {v : V} {u : Value}, L2.Inv X1 pins σ' H' s' → RelV v u → Q v H' → CE outer P w H5 s Q u s' := fun {pins σ' H' v u} J rv q => ⟨v, H', J.os, J.bare, J.base, J.hok, rv, q⟩
  cases fl with
  | ret u =>
    obtain ⟨z, σ', H', J', rv, q⟩ := hs
    exact fin J' rv q
  | next =>
    obtain ⟨σ', H', J', q⟩ := hs
    exact fin (v := V.non) (u := Value.none) J' rfl q
  | brk =>
    obtain ⟨_, _, _, q⟩ := hs
    exact False.elim q
  | cont =>
    obtain ⟨_, _, _, q⟩ := hs
    exact False.elim q
end
/-- the environment of such an __init__: nothing but its argument -/
theorem envx {K : PySem.W.Frag} {G : Nat → Option CI} {d : D} {a v c : V} {H : Hp} (hv : ∀ F, Rep K G F d v) : EnvOk K G ⟨H, fun _ => none, fun _ => none⟩ (fun _ => none) [none, some (.val d), none] [some a, some v, some c] H where
  len := rfl
  ext := fun _ _ h => by cases h
  val := fun i d' h => by
    match i, h with
    | 1, h => cases h; exact ⟨v, rfl, hv _⟩
    | 0, h => cases h
    | 2, h => cases h
    | i + 3, h => cases h
  own := fun i o h => by
    match i, h with
    | 0, h => cases h
    | 1, h => cases h
    | 2, h => cases h
    | i + 3, h => cases h
  bor := fun i o h => by
    match i, h with
    | 0, h => cases h
    | 1, h => cases h
    | 2, h => cases h
    | i + 3, h => cases h
  dis := fun i j o o' l h => by
    match i, h with
    | 0, h => cases h
    | 1, h => cases h
    | 2, h => cases h
    | i + 3, h => cases h
  pins := fun i j l h => by cases h
  pinh := fun i l h => by cases h
  pinH := fun i l h => by cases h
  kept := fun a o h _ => h
  grow := fun a o h => by cases h
  gf := fun _ _ h => by cases h
  adr := fun i a h => by
    match i, h with
    | 0, h => cases h
    | 1, h => cases h
    | 2, h => cases h
    | i + 3, h => cases h
/-- a class of errors whose __init__ keeps its argument -/
structure EDef (P : Program) (w : World) (K : PySem.W.Frag) (G : Nat → Option CI) (mg : Str → Option Value) (base : Heap) (k c : Nat) (okV : V → Prop) : Prop where
  ex : ∃ (C : Addr) (fld x : Str) (fI : Addr) (fd : FuncData), G c = some ⟨C, [fld]⟩ ∧ OexC K C ∧ PySem.W.findIn K (.ref C) "__init__" = some (some (.ref fI)) ∧ PySem.W.typeIn K (.ref fI) = some (.type "function") ∧ Binds K fd ["self", x] [] ∧
    FnOk P w K mg base (L2.CX P w) k fI fd ["self", x] (fun vs H Q E => ∃ (a : Addr) (v : V), vs = [.ref a, v] ∧ okV v ∧ H a = some (exo a C none) ∧ ∀ dx, H dx = none → dx ≠ a → Q .non (upd (upd H dx (exd dx [(fld, v)])) a (exo a C (some dx))))
def sRaiseF (c : Nat) (okD : D → Bool) (f : M PV) : M Fl := mB f fun pv => mB (mO pv.tree) fun d => if okD d = true then fun ρ => some (.error ⟨c, [d]⟩, ρ) else fun _ => none
section
variable {X : Cx} {G : Nat → Option CI} {Φ : Zone → Prop} {W : WX} {e : Expr} {pos p p' : Pos}
theorem rs_raiseF {k c : Nat} {i : CI} {x : Str} {okV : V → Prop} {okD : D → Bool} {f : M PV} (hi : G c = some i) (T : EDef X.prog X.w X.K G X.mg X.base k c okV) (hok : ∀ F d v, okD d = true → Rep X.K G F d v → okV v) (hr : Room (k + 1) X.A) (hc : X.calm = true) (tk : Takes X W) (gC : X.mg x = some (.ref i.adr)) (hg : Gl X x)
    (he : RE X G Φ W e f) (hdb : (x == ("__debug__" : Str)) = false := by decide) (hst : starEach [e] X.env = (false, eval e X.env) :: starEach [] X.env := by rfl) (hpl : (backTo p' (starEach [] X.env)).any (·.1) = false := by rfl) :
    RS X G Φ W (.Raise (some (.Call (.Name x p) [e] [] p')) none pos) (sRaiseF c okD f) := fun Z hZ => by
  obtain ⟨C, fld, x', fI, fd, hG, oex, iC, tI, hb, F1⟩ := T.ex
  rw [hi] at hG
  cases hG
  refine PS.lo (ps_raise hc tk (pmk_oex oex iC tI F1 hr hb .nil (passes_call tk fun _ _ _ _ z => z.elim) hg gC (ra_cons he ra_nil hst Z hZ) hdb hst hpl)) fun D σ H ⟨F, ρ, r, ρ', E, hf, q1, q2⟩ => ?_
  unfold sRaiseF at hf
  rcases mB_cases hf with ⟨y, h1, rfl⟩ | ⟨pv, ρ1, h1, h2⟩
  · refine ⟨F, ρ, .error y, _, E, (by unfold aCons; rw [mB_er h1]), fun _ z => (by cases z), fun y' z => (by cases z; exact q2 _ rfl)⟩
  · obtain ⟨d, hd, h3⟩ := mO_some h2
    have hk : okD d = true ∧ r = .error ⟨c, [d]⟩ ∧ ρ' = ρ1 := by
      by_cases z : okD d = true
      · rw [if_pos z] at h3
        cases h3
        exact ⟨z, rfl, rfl⟩
      · rw [if_neg z] at h3
        cases h3
    obtain ⟨hk, rfl, rfl⟩ := hk
    refine ⟨F, ρ, .ok [.d d], ρ', E, (by unfold aCons; rw [mB_ok h1, hd]; rfl), fun as z F1' vs H1 g1 E1 hv => ?_, fun y z => (by cases z)⟩
    cases z
    cases hv with
    | cons ha ht =>
      rename_i v vs
      cases ht
      have ha : Rep X.K G F1' d v := ha
      refine ⟨by show 1 ≤ 1000; decide, fun a hna => ?_⟩
      refine ⟨a, v, rfl, hok _ _ _ hk ha, upd_same, fun dx hdx hda => ?_⟩
      have hdx' : H1 dx = none := by rwa [upd_ne hda] at hdx
      refine ⟨rfl, dx, [(fld, v)], upd_same, by rw [upd_ne hda, upd_same], hdx', ?_⟩
      have eH : upd (del (upd (upd (upd H1 a (exo a C none)) dx (exd dx [(fld, v)])) a (exo a C (some dx))) a) dx (.xd [(fld, v)]) = upd H1 dx (.xd [(fld, v)]) := by
        funext b
        by_cases h1 : b = dx
        · rw [h1, upd_same, upd_same]
        · rw [upd_ne h1, upd_ne h1]
          by_cases h2 : b = a
          · rw [h2, del_same, hna]
          · rw [del_ne h2, upd_ne h2, upd_ne h1, upd_ne h2]
      rw [eH]
      have E2 := E1.new (o := .xd [(fld, v)]) hdx'
      have gF : Gr F1' (upd F1' dx (.xd [(fld, v)])) := Gr.new (by
        cases hF : F1' dx with
        | none => rfl
        | some o => exact absurd (E1.ext _ _ hF) (by rw [hdx']; simp))
      exact q2 _ rfl (upd F1' dx (.xd [(fld, v)])) _ (some dx) σ _ (g1.trans gF) E2 ⟨⟨C, [fld]⟩, hi, rfl, .inr ⟨dx, [v], rfl, by simp, upd_same, rfl, .cons (ha.gr gF) .nil⟩⟩
end
/-! ### the classes Refused and NoText -/
def okStr : V → Prop := fun v => ∃ z : Str, v = .str z ∧ z.length ≤ 1000
def okInt : V → Prop := fun v => ∃ z : Int, v = .int z ∧ z.natAbs.log2 < 1920
def okStrD : D → Bool
  | .str z => decide (z.length ≤ 1000)
  | _ => false
def okIntD : D → Bool
  | .int z => decide (z.natAbs.log2 < 1920)
  | _ => false
theorem okStr_of {K : PySem.W.Frag} {G : Nat → Option CI} (F : Hp) (d : D) (v : V) (h : okStrD d = true) (r : Rep K G F d v) : okStr v := by
  cases d <;> first | (cases h; done) | skip
  rename_i z
  cases r
  exact ⟨z, rfl, of_decide_eq_true h⟩
theorem okInt_of {K : PySem.W.Frag} {G : Nat → Option CI} (F : Hp) (d : D) (v : V) (h : okIntD d = true) (r : Rep K G F d v) : okInt v := by
  cases d <;> first | (cases h; done) | skip
  rename_i z
  cases r
  exact ⟨z, rfl, of_decide_eq_true h⟩
def dStrI : D → Option D
  | .int i => if i.natAbs.log2 < 1920 then some (.str (Str.ofString (toString i))) else none
  | _ => none
section
variable {X : Cx} {G : Nat → Option CI}
theorem opc_strI : OpC1 X G (fun xs H Q => ∃ i, xs = [.int i] ∧ i.natAbs.log2 < 1920 ∧ Q (.str (toString i)) H) dStrI := fun Z F ρ σ H x d u Q E h hu q => by
  unfold dStrI at h
  split at h
  · split at h
    · rename_i i hi
      cases h
      cases pk_int hu
      exact ⟨i, rfl, hi, q _ (.str _)⟩
    · cases h
  · cases h
end
/-- the rows that tell of such a class in the written part -/
structure ERow (pf : Str) (K : PySem.W.Frag) (qual : Str) (st : Stmt) (C fI : Addr) (fld x : Str) : Prop where
  ex : ∃ fd, XIn pf K qual (defArgs st) (defBody st) (defScope st) fI C fd ∧ Binds K fd ["self", x] []
  sup : XSup K C
  ini : PySem.W.findIn K (.ref C) "__init__" = some (some (.ref fI))
  typ : PySem.W.typeIn K (.ref fI) = some (.type "function")
  no : PySem.W.findIn K (.ref C) fld = some none
theorem erow_mk {pf : Str} {K : PySem.W.Frag} {qual x fld : Str} {st : Stmt} {C fI cc c : Addr} {oc cl ccl kV doc pm ct : Value} {od cld cdd an : Option Addr} {osl csl ccs : Array (Option Value)} {name : Str} {cvs : Array Value} {file : Str} {tf : Tok}
    {nm q : Str} {N : Addr} {bs bm : List Value} {sn : List Str} {sub : List Value} {ab : Bool} {col : Option Bool} {dd : Option Addr} {k0 k1 k2 k3 k5 : Option Value}
    (l : K.lookup fI = some ⟨oc, od, .func (PySem.W.fnX name qual (defArgs st) (defBody st) (defScope st) [("__class__", cc)] .none kV doc pm an (.ref c) ct), osl⟩) (hc : PySem.W.codeIn K (.ref c) qual = true) (lcc : K.lookup cc = some ⟨cl, cld, .cell (some (.ref C)), csl⟩) (lc : K.lookup c = some ⟨ccl, cdd, .fields cvs, ccs⟩) (hvs : cvs[2]? = some (.str file tf)) (hf : ((pf : Str) == file) = true)
    (hb : ∀ (kV doc pm : Value) (an : Option Addr) (ct : Value) (us : List Value), us.length = 2 → bindArgs (PySem.W.fnX name qual (defArgs st) (defBody st) (defScope st) [("__class__", cc)] .none kV doc pm an (.ref c) ct) ⟨us, []⟩ = pure ((["self", x] : List Str).zip us))
    (hC : K.lookup C = some (excClassObj nm q C N bs bm true sn sub ab col dd k0 k1 k2 k3 k5 "ValueError.__new__")) (hbm : PySem.HandSPX.refsVE bm = true) (sa : PySem.W.findIn K (.ref C) "__setattr__" = some (some (.builtin "object.__setattr__")))
    (exC : PySem.W.subIn K (.ref C) (.type "BaseException") = some true) (tyC : PySem.W.typeIn K (.ref C) = some (.type "type")) (kC : PySem.W.keepIn K (.ref C) = true)
    (sup : PySem.W.ks_superIn K C C "__init__" = some (some (.builtin "ValueError.__init__"))) (opq : PySem.W.nsIn K PySem.cStatics "thirdparty.any" = some none) (own : PySem.W.mroIn K C (.ref C) = some true) (val : PySem.W.subIn K (.ref C) (.type "ValueError") = some true)
    (ini : PySem.W.findIn K (.ref C) "__init__" = some (some (.ref fI))) (typ : PySem.W.typeIn K (.ref fI) = some (.type "function")) (no : PySem.W.findIn K (.ref C) fld = some none) : ERow pf K qual st C fI fld x where
  ex := ⟨_, ⟨⟨oc, cl, ccl, .none, kV, doc, pm, ct, od, cld, cdd, an, osl, csl, ccs, name, cc, c, cvs, file, tf, rfl, l, hc, lcc, lc, hvs, hf⟩⟩, fun s us _ hl => BindsTo.of_eq (by rw [List.append_nil]; exact hb _ _ _ _ _ us (by simpa using hl))⟩
  sup := ⟨⟨⟨nm, q, N, bs, bm, sn, sub, ab, col, dd, k0, k1, k2, k3, k5, hC, hbm⟩, sa, exC, tyC, kC⟩, sup, opq, own, val⟩
  ini := ini
  typ := typ
  no := no
theorem bt_super : bootBuiltins "super" = some (.type "super") := by decide +kernel
theorem edef_of {pf : Str} {P : Program} {w : World} {K : PySem.W.Frag} {G : Nat → Option CI} {mg : Str → Option Value} {base : Heap} {c : Nat} {qual x fld : Str} {st : Stmt} {C fI : Addr} {e : Expr} {p0 p1 p2 p3 p4 q1 q2 q3 q4 : Pos} {ar : Arg} {okV : V → Prop} {te : TE}
    (R : ERow pf K qual st C fI fld x) (hG : G c = some ⟨C, [fld]⟩) (hpf : P.main.file = pf) (htop : (P.main.scope.names.lookup ("super" : Str)).isSome = false) (nos : mg "super" = none)
    (hbody : defBody st = [.Expr (.Call (.Attribute (.Call (.Name "super" p0) [] [] p1) "__init__" p2) [e] [] p3) p4, .Assign [.Attribute (.Name "self" q1) fld q2] (.Name x q3) q4])
    (S : NdefX.NScope ["self", x, "__class__"] ["self", x] ["__class__"] (defScope st)) (har : ((defArgs st).posonlyargs ++ (defArgs st).args).head? = some ar) (hself : ar.arg = "self") (hsup : (defScope st).names.lookup ("super" : Str) = some .globalImplicit)
    (hboot : bootBuiltins "super" = some (.type "super")) (hx : (x == ("__debug__" : Str)) = false) (hx2 : (x == ("__classdict__" : Str)) = false)
    (hev : ∃ pl : Sem Bool, ∀ env : Env, eval (.Call (.Attribute (.Call (.Name "super" p0) [] [] p1) "__init__" p2) [e] [] p3) env = (do
        let ov ← attributeBase (.Call (.Name "super" p0) [] [] p1) "__init__" env (eval (.Call (.Name "super" p0) [] [] p1) env)
        standAt p2.atName
        let (f, first) ← holding [ov] (getMethod ov "__init__" pl)
        callWith p3 f first (backTo p3 (starEach [e] env)) []))
    (hst : ∀ env : Env, starEach [e] env = (false, eval e env) :: starEach [] env) (hsw : ∀ env : Env, swapsWith (.Call (.Attribute (.Call (.Name "super" p0) [] [] p1) "__init__" p2) [e] [] p3) none p4.line env = pure false) (hsw2 : ∀ env : Env, swapsWith (.Name x q3) (some (.Attribute (.Name "self" q1) fld q2)) q4.line env = pure false)
    (he : ∀ (F : NdefX.NF) (A : Around) (outer : List Env) (s : Shared) (H : Hp) (E : XK), F.scope = defScope st → PE (NdefX.ncx (L2.CX P w) P w K mg base ["self", x, "__class__"] F fI A outer s H E) e te)
    (hte : ∀ (a D : V) (v : V) (H : Hp) (Q : VK), okV v → (∀ u, Q u H) → te [some a, some v, some D] H Q) : EDef P w K G mg base 1 c okV := by
  obtain ⟨fd, X, B⟩ := R.ex
  rw [hbody] at X
  exact ⟨C, fld, x, fI, fd, hG, R.sup.oex, R.ini, R.typ, B, fnok_exc hpf htop X R.sup nos S har hself hsup R.no hboot hx hx2 hev hst hsw hsw2 he hte⟩
section
variable {P : Program} {w : World} {K : PySem.W.Frag} {mg : Str → Option Value} {base : Heap} {G : Nat → Option CI} {x : Str} {fI : Addr} {F : NdefX.NF} {A : Around} {outer : List Env} {s : Shared} {H : Hp} {E : XK} {sc : Scope}
theorem pe_msg {pre : Str} {j : Nat} {pc pn pb : Pos} (S : NdefX.NScope ["self", x, "__class__"] ["self", x] ["__class__"] sc) (hF : F.scope = sc) (hx : (x == ("__debug__" : Str)) = false) (hx2 : (x == ("__classdict__" : Str)) = false) :
    PE (NdefX.ncx (L2.CX P w) P w K mg base ["self", x, "__class__"] F fI A outer s H E) (.BinOp (.Constant (.str pre) j pc) .Add (.Name x pn) pb) (tI K G (iBin dAdd (iC (.str pre)) (iVar 1))) :=
  ri_bin (X := NdefX.ncx (L2.CX P w) P w K mg base ["self", x, "__class__"] F fI A outer s H E) op_addA opi_add (rp_i ri_str) (rp_i (ri_var 1 rfl (.inl (by rw [show (NdefX.ncx (L2.CX P w) P w K mg base ["self", x, "__class__"] F fI A outer s H E).env.scope = F.scope from rfl, hF]; exact S.par _ (by simp))) hx hx2))
theorem te_msg {pre : Str} (hp : pre.length ≤ 1000) (a c v : V) (H : Hp) (Q : VK) (hv : okStr v) (q : ∀ u, Q u H) : tI K G (iBin dAdd (iC (.str pre)) (iVar 1)) [some a, some v, some c] H Q := by
  obtain ⟨z, rfl, hz⟩ := hv
  refine ⟨_, _, _, .str (pre ++ z), envx (d := .str z) fun F => .str z, ?_, fun u _ => q u⟩
  show (some (D.str pre)).bind (fun y => (some (D.str z)).bind fun y' => dAdd y y') = _
  show (if pre.length + z.length ≤ sizeLine then some (D.str (pre ++ z)) else none) = _
  rw [if_pos (Nat.le_trans (Nat.add_le_add hp hz) (by decide))]
theorem pe_msgI {pre : Str} {j : Nat} {pc pn pb ps pq : Pos} (S : NdefX.NScope ["self", x, "__class__"] ["self", x] ["__class__"] sc) (hF : F.scope = sc) (hx : (x == ("__debug__" : Str)) = false) (hx2 : (x == ("__classdict__" : Str)) = false)
    (hg : sc.names.lookup ("str" : Str) = some .globalImplicit) (hm : mg "str" = none) (hb : bootBuiltins "str" = some (.type "str")) :
    PE (NdefX.ncx (L2.CX P w) P w K mg base ["self", x, "__class__"] F fI A outer s H E) (.BinOp (.Constant (.str pre) j pc) .Add (.Call (.Name "str" ps) [.Name x pn] [] pq) pb) (tI K G (iBin dAdd (iC (.str pre)) (iUn dStrI (iVar 1)))) :=
  ri_bin (X := NdefX.ncx (L2.CX P w) P w K mg base ["self", x, "__class__"] F fI A outer s H E) op_addA opi_add (rp_i ri_str) (rp_i (ri_t1 call_str_int opc_strI (show F.scope.names.lookup ("str" : Str) = _ by rw [hF]; exact hg) hm hb (rp_i (ri_var 1 rfl (.inl (by rw [show (NdefX.ncx (L2.CX P w) P w K mg base ["self", x, "__class__"] F fI A outer s H E).env.scope = F.scope from rfl, hF]; exact S.par _ (by simp))) hx hx2))))
theorem te_msgI {pre : Str} (hp : pre.length ≤ 1000) (a c v : V) (H : Hp) (Q : VK) (hv : okInt v) (q : ∀ u, Q u H) : tI K G (iBin dAdd (iC (.str pre)) (iUn dStrI (iVar 1))) [some a, some v, some c] H Q := by
  obtain ⟨z, rfl, hz⟩ := hv
  refine ⟨_, _, _, .str (pre ++ Str.ofString (toString z)), envx (d := .int z) fun F => .int z, ?_, fun u _ => q u⟩
  have e1 : dStrI (.int z) = some (.str (Str.ofString (toString z))) := if_pos hz
  show (some (D.str pre)).bind (fun y => ((some (D.int z)).bind dStrI).bind fun y' => dAdd y y') = _
  rw [Option.bind_some, Option.bind_some, e1, Option.bind_some]
  show (if pre.length + (Str.ofString (toString z)).length ≤ sizeLine then some (D.str (pre ++ Str.ofString (toString z))) else none) = _
  rw [if_pos (Nat.le_trans (Nat.add_le_add hp (PyProof.Rows.int_text_len_1921 hz)) (by decide))]
end
end Pl
/-! # What a suite reads of an error with a field -/
set_option Elab.async false
set_option linter.all false
set_option maxRecDepth 100000
set_option maxHeartbeats 2000000
namespace Pl
open PySem PySem.Spec L2
open PyProof.Rows hiding St
section
variable {X : Cx} {G : Nat → Option CI} {W : WX} {e : Expr} {pos p p' : Pos}
/-- the j-th field of the error that the slot i holds -/
def eXf (i : Nat) (a : Addr) (x : Ex) (j : Nat) : M PV := fun ρ => match ρ.at i with
  | some (.adr a') => if a' = a then (x.ds[j]?).map fun d => (.ok (.val d), ρ) else none
  | _ => none
theorem eXf_some {i : Nat} {a : Addr} {x : Ex} {j : Nat} {ρ : En} {r : Except Ex PV × En} (h : eXf i a x j ρ = some r) : ρ.at i = some (.adr a) ∧ ∃ d, x.ds[j]? = some d ∧ r = (.ok (.val d), ρ) := by
  unfold eXf at h
  split at h
  · split at h
    · rename_i h1 h2
      subst h2
      cases hd : x.ds[j]? with
      | none => rw [hd] at h; cases h
      | some d => rw [hd] at h; cases h; exact ⟨h1, d, rfl, rfl⟩
    · cases h
  · cases h
theorem re_xf {n fld : Str} {i j : Nat} {np : Pos} {a : Addr} {oe : Obj} {cd : Option Addr} {pn : List (Addr × Obj)} {x : Ex} {ci : CI} (T : XfC X.K ci.adr) (hno : PySem.W.findIn X.K (.ref ci.adr) fld = some none) (hg : G x.c = some ci) (hz : Zc (.ref ci.adr) cd oe) (hf : ∃ vs, oe.data = .fields vs) (hnd : ci.names.Nodup) (hj : ci.names[j]? = some fld)
    (hN : X.N[i]? = some n) (hvis : Vis X.env.scope n) (hb : attributeBase (.Name n np) fld X.env (eval (.Name n np) X.env) = eval (.Name n np) X.env := by rfl) (hd1 : (n == ("__debug__" : Str)) = false := by decide) (hd2 : (n == ("__classdict__" : Str)) = false := by decide) :
    RE (X.suite a ((a, oe) :: pn)) G (Known X.K G x (.ref ci.adr) cd) W (.Attribute (.Name n np) fld pos) (eXf i a x j) := fun Z hZ =>
  PE.lo (pe_xf (X := X) T hno hz hf (pe_var (X := X.suite a ((a, oe) :: pn)) hN hvis hd1 hd2) hb) fun σ H Q ⟨F, ρ, r, ρ', E, hf', q1, q2⟩ => by
    obtain ⟨h1, d, hd, hr⟩ := eXf_some hf'
    cases hr
    obtain ⟨ci', hg', hcc, hx⟩ := (show ExOk X.K G Z.f x (.ref ci.adr) cd from hZ)
    have hg'' : G x.c = some ci := hg
    rw [hg''] at hg'
    cases hg'
    rcases hx with ⟨h0, _⟩ | ⟨dd, vs, hcd, hne, hF, hlen, hR⟩
    · rw [h0] at hd; cases hd
    · obtain ⟨v, hv, hrep⟩ := hR.get hd
      refine ⟨.ref a, sl_some (E.adr i a h1), rfl, rfl, dd, ci.names.zip vs, v, hcd, E.ext _ _ (E.gf _ _ hF), lookup_zip hnd hj hv, ?_⟩
      exact q1 _ rfl F v H Gr.rfl E (hrep.gr E.gf)
end
section
open PySem.W PySem.Calls
theorem ans_true {K : Frag} {D a : Addr} {c : Value} {P : Heap → Prop} (ty : ∀ (M : Model) (h : Heap), P h → Looks M h (typeOf (.ref a)) (.ref D)) (e : kitOne K (.ref D) c = some true) : Answers (fun s => K.In s.heap ∧ P s.heap) (.ref a) c true := by
  intro dep tk prog w A R s hs
  obtain ⟨h0, g, d, tt, os⟩ := s
  obtain ⟨⟨hX, hp⟩, hq⟩ := hs
  unfold Builtin.«isinstance.nested»
  refine wpAny_bind ((ty (model prog w) h0 hp).at ?_)
  unfold kitOne at e
  by_cases q : (Value.ref D == c) = true
  · rw [if_pos q]
    first
      | exact hq tt
      | exact wpAny_bind (wpAny_rule (hq tt))
      | exact wpAny_bind (wpAny_rule (wpAny_pure (hq tt)))
      | exact wpAny_pure (hq tt)
  · rw [if_neg q] at e ⊢
    obtain ⟨h1, h2, h3⟩ := kit_cls (M := model prog w) hX e
    refine wpAny_bind (h1.at ?_)
    rw [if_pos (by decide)]
    k_delta "plainIsInstance"
    refine wpAny_bind (wpAny_bind (h2.at ?_))
    rw [if_neg (by decide)]
    have LI : Looks (model prog w) h0 (isInstance (.ref a) c) true := (ty (model prog w) h0 hp).andThen h3
    refine wpAny_bind (LI.at ?_)
    first
      | exact wpAny_pure (wpAny_pure (hq tt))
      | exact wpAny_pure (hq tt)
      | (rw [if_pos rfl]; exact wpAny_pure (wpAny_pure (hq tt)))
      | (rw [if_pos rfl]; exact wpAny_bind (wpAny_pure (wpAny_pure (hq tt))))
end
section
variable {X : Cx} {G : Nat → Option CI} {W : WX} {e : Expr} {pos p p' : Pos}
/-- isinstance(e, c) of the error that the suite holds, where it is one -/
theorem call_isX {aa D : Addr} {oe : Obj} {cd : Option Addr} {pn : List (Addr × Obj)} (hz : Zc (.ref D) cd oe) : CallR (X.suite aa ((aa, oe) :: pn)) (.builtin "isinstance") (fun xs H Q => ∃ (c : V) (cv : Value), xs = [.ref aa, c] ∧ (∀ u, RelV c u → u = cv) ∧ PySem.W.kitOne X.K (.ref D) cv = some true ∧ Q (.bl true) H) := by
  intro pins s σ H xs us Q I r h
  obtain ⟨c, cv, rfl, hcv, e, q⟩ := h
  cases r with
  | cons rx rr =>
    cases rr with
    | cons rt rr =>
      cases rr
      cases rx
      have ec := hcv _ rt
      subst ec
      obtain ⟨hget, _⟩ := I.pin (aa, oe) (List.mem_append.mpr (.inl List.mem_cons_self))
      have ty : ∀ (M : Model) (h : Heap), h.get? aa = some oe → PySem.W.Looks M h (typeOf (.ref aa)) (.ref D) := fun M h hh => by
        rw [← hz.1]
        exact (PySem.W.Looks.ld hh).andThen .now
      exact call_isinstance (S := fun _ R s => (X.K.In s.heap ∧ s.heap.get? aa = some oe) ∧ ∀ tk, R (.ok (.ret (.bool true))) { s with toks := tk })
        (fun prog w A R s hs => isinstance_outer (ans_true (P := fun h => h.get? aa = some oe) ty e 0 _ prog w A R s hs) (fun z => nomatch z)) ⟨⟨I.kIn, hget⟩, fun tk => ⟨.bl true, H, I.tok tk, rfl, q⟩⟩
theorem ri_isX {x n : Str} {i : Nat} {np : Pos} {aa D : Addr} {oe : Obj} {cd : Option Addr} {pn : List (Addr × Obj)} {ce : Expr} {cv : V} {u : Value} (hz : Zc (.ref D) cd oe) (hk : PySem.W.kitOne X.K (.ref D) u = some true)
    (hN : X.N[i]? = some n) (hvis : Vis X.env.scope n) (hl : Gl (X.suite aa ((aa, oe) :: pn)) x) (hm : X.mg x = none) (hv : bootBuiltins x = some (.builtin "isinstance")) (hc : PE (X.suite aa ((aa, oe) :: pn)) ce (tC cv)) (hcv : ClsV cv u)
    (hn : x ≠ "__name__" := by decide) (hdb : (x == ("__debug__" : Str)) = false := by decide) (hs : starEach [.Name n np, ce] (X.suite aa ((aa, oe) :: pn)).env = (false, eval (.Name n np) (X.suite aa ((aa, oe) :: pn)).env) :: starEach [ce] (X.suite aa ((aa, oe) :: pn)).env := by rfl) (hs' : starEach [ce] (X.suite aa ((aa, oe) :: pn)).env = (false, eval ce (X.suite aa ((aa, oe) :: pn)).env) :: starEach [] (X.suite aa ((aa, oe) :: pn)).env := by rfl) (hpl : (backTo pos (starEach [ce] (X.suite aa ((aa, oe) :: pn)).env)).any (·.1) = false := by rfl)
    (hd1 : (n == ("__debug__" : Str)) = false := by decide) (hd2 : (n == ("__classdict__" : Str)) = false := by decide) :
    RI (X.suite aa ((aa, oe) :: pn)) G (.Call (.Name x p) [.Name n np, ce] [] pos) (iIsE i aa true) :=
  PE.lo (pe_callB (call_isX hz) hl hm hv (pa_cons (pe_var (X := X.suite aa ((aa, oe) :: pn)) hN hvis hd1 hd2) (pa_cons hc pa_nil hs') hs) hn hdb hs hpl) fun σ H Q ⟨Z, F, ρ, d, E, hf, q⟩ => by
    obtain ⟨h1, rfl⟩ := iIsE_some hf
    exact ⟨_, sl_some (E.adr i aa h1), cv, u, rfl, fun w hw => hcv.eq hw, hk, q _ (.bl true)⟩
end
end Pl
/-! # Comprehensions with two sources -/
set_option Elab.async false
set_option linter.all false
set_option maxRecDepth 100000
set_option maxHeartbeats 2000000
namespace Pl
open PySem PySem.Spec L2
open PyProof.Rows hiding St
def lcGo2 (vs vs1 : List Nat) (g : Tg) (tt : M Bool) (fi1 : M (List D)) (g1 : Tg) (tt1 : M Bool) (fe : M PV) : List D → List D → M (List D)
  | [], acc => mR acc
  | d :: ds, acc => fun ρ => match g d ρ with
    | none => none
    | some ρ1 => mB tt (fun b => if b = true then mB fi1 (fun ds1 ρ3 => match lcGo vs1 g1 tt1 fe ds1 acc (wipeE ρ3 vs1) with
        | some (.ok acc', ρ4) => lcGo2 vs vs1 g tt fi1 g1 tt1 fe ds acc' (wipeE ρ4 vs)
        | _ => none)
      else fun ρ2 => lcGo2 vs vs1 g tt fi1 g1 tt1 fe ds acc (wipeE ρ2 vs)) ρ1
def eLc2 (vs vs1 : List Nat) (fi : M (List D)) (g : Tg) (tt : M Bool) (fi1 : M (List D)) (g1 : Tg) (tt1 : M Bool) (fe : M PV) : M PV := mB fi fun ds ρ => match lcGo2 vs vs1 g tt fi1 g1 tt1 fe ds [] (wipeE ρ vs) with
  | some (.ok acc, ρ') => some (.ok (.own (.lst acc)), unwipe ρ ρ' vs)
  | _ => none
def tItx (K : PySem.W.Frag) (G : Nat → Option CI) (Φ : Zone → Prop) (f : M (List D)) : TI := fun σ H Q => ∃ Z, Φ Z ∧ tIt K G Z W0 f σ H Q
theorem wipe_sub {σ : L2.St} {vs vs1 : List Nat} (h : ∀ i ∈ vs1, i ∈ vs) : L2.wipe (L2.wipe σ vs1) vs = L2.wipe σ vs := by
  have b : But vs1 (L2.wipe σ vs) (L2.wipe (L2.wipe σ vs) vs1) := ⟨wipe_length _ _, fun j hj => wipe_get hj⟩
  have key : ∀ (us : List Nat) (a b : L2.St), a.length = b.length → (∀ j, j ∉ us → a[j]? = b[j]?) → L2.wipe a us = L2.wipe b us := by
    intro us
    induction us with
    | nil => intro a b hl hh; exact List.ext_getElem? fun n => hh n (by simp)
    | cons u us ih =>
      intro a b hl hh
      apply List.ext_getElem?
      intro n
      by_cases hn : n ∈ u :: us
      · have h1 : (L2.wipe a (u :: us)).length = (L2.wipe b (u :: us)).length := by rw [wipe_length, wipe_length, hl]
        have h2 := wipe_none (σ := a) hn
        have h3 := wipe_none (σ := b) hn
        rw [sl_get] at h2 h3
        by_cases hlt : n < (L2.wipe a (u :: us)).length
        · rw [List.getElem?_eq_getElem hlt] at h2 ⊢
          rw [List.getElem?_eq_getElem (h1 ▸ hlt)] at h3 ⊢
          have h2 : (L2.wipe a (u :: us))[n] = none := h2
          have h3 : (L2.wipe b (u :: us))[n]'(h1 ▸ hlt) = none := h3
          rw [h2, h3]
        · rw [List.getElem?_eq_none_iff.mpr (Nat.le_of_not_lt hlt), List.getElem?_eq_none_iff.mpr (h1 ▸ Nat.le_of_not_lt hlt)]
      · rw [wipe_get hn, wipe_get hn, hh n hn]
  exact key vs _ _ (wipe_length _ _) fun j hj => wipe_get fun z => hj (h j z)
section
variable {X : Cx} {G : Nat → Option CI} {Φ : Zone → Prop} {W : WX} {e a b c : Expr} {es : List Expr} {pos p p' apos : Pos} {st : Stmt} {rest : List Stmt}
theorem lc2_all {Z : Zone} {vs vs1 is is1 : List Nat} {fi fi1 : M (List D)} {g g1 : Tg} {tt tt1 : M Bool} {fe : M PV} (hZ : Φ Z) (hΦ : ∀ Z D o, Φ Z → Φ (Zone.plus Z D o)) (his : ∀ i ∈ is, i ∈ vs) (his1 : ∀ i ∈ is1, i ∈ vs1) (hvs : ∀ i ∈ vs1, i ∈ vs) :
    ∀ σ H Q, tE X.K G Z W (eLc2 vs vs1 fi g tt fi1 g1 tt1 fe) σ H Q → tLc2 (tIt X.K G Z W fi) (tG X.K G is g) (tTx X.K G Φ tt) (tItx X.K G Φ fi1) (tG X.K G is1 g1) (tTx X.K G Φ tt1) (tEx X.K G Φ fe) vs vs1 σ H Q := fun σ H0 Q ⟨F0, ρ0, r, ρr, E0, hf, q1, q2⟩ => by
  unfold eLc2 at hf
  rcases mB_cases hf with ⟨x, h1, rfl⟩ | ⟨ds, ρ1, h1, h2⟩
  · exact ⟨F0, ρ0, _, _, E0, h1, fun _ e => (by cases e), fun y e => by cases e; exact q2 _ rfl⟩
  · refine ⟨F0, ρ0, _, _, E0, h1, fun ds' e F1 J H1 g1' E1 hJ => ?_, fun y e => by cases e⟩
    cases e
    split at h2
    · rename_i accf ρf hgo
      cases h2
      intro D hD
      have hZD : Z.h D = none := E1.fresh hD
      have hFD : F1 D = none := E1.ext.free hD
      have hfD : Z.f D = none := E1.gf.free hFD
      have hp : ∀ i, Z.pin i ≠ some D := fun i h => by
        obtain ⟨u, hu⟩ := E1.pinH i D h
        rw [hD] at hu; cases hu
      have start : EnvOk X.K G (Z.plus D (.lst [])) F1 (wipeE ρ1 vs) (L2.wipe σ vs) (upd H1 D (.lst [])) := by
        have E2 := (E1.newOwn (o := .lst []) hD).wipe vs
        refine E2.plus upd_same hFD fun ho => ?_
        obtain ⟨_, u, hu⟩ := (E1.wipe vs).there ho
        rw [hD] at hu; cases hu
      refine ⟨fun i m H => m = ds.length - i ∧ i ≤ ds.length ∧ ∃ F ρ acc accd, Gr F1 F ∧ EnvOk X.K G (Z.plus D (.lst acc)) F ρ (L2.wipe σ vs) H ∧ Reps X.K G F accd acc ∧ lcGo2 vs vs1 g tt fi1 g1 tt1 fe (ds.drop i) accd ρ = some (.ok accf, ρf),
        ⟨_, rfl, Nat.zero_le _, F1, _, [], [], Gr.rfl, start, .nil, hgo⟩, ?_⟩
      rintro i m H ⟨rfl, hi, F, ρ, acc, accd, gF, E, hacc, hl⟩
      have gH : Gr F1 H := gF.trans E.ext
      rcases Nat.lt_or_ge i ds.length with hlt | hge
      · refine .inr ⟨hJ.go i _ H gH (List.getElem?_eq_getElem hlt), ?_⟩
        rw [List.drop_eq_getElem_cons hlt] at hl
        unfold lcGo2 at hl
        split at hl
        · cases hl
        · rename_i ρ2 hg2
          refine ⟨fun H' => i + 1 ≤ ds.length ∧ ∃ F ρ acc accd, Gr F1 F ∧ EnvOk X.K G (Z.plus D (.lst acc)) F ρ (L2.wipe σ vs) H' ∧ Reps X.K G F accd acc ∧ lcGo2 vs vs1 g tt fi1 g1 tt1 fe (ds.drop (i + 1)) accd ρ = some (.ok accf, ρf), fun H' ⟨a, z⟩ => ⟨_, by omega, rfl, a, z⟩, fun x H' hy => ?_⟩
          have hy2 : ∃ F2, Gr F F2 ∧ EnvOk X.K G (Z.plus D (.lst acc)) F2 ρ (L2.wipe σ vs) H' ∧ Rep X.K G F2 ds[i] x := by
            rcases hJ.yld i _ H x H' gH (List.getElem?_eq_getElem hlt) hy with ⟨rfl, hr⟩ | ⟨pp, o, hp0, rfl, hr⟩
            · exact ⟨F, Gr.rfl, E, hr.gr gF⟩
            · exact ⟨_, Gr.new (E.ext.free hp0), E.new hp0, hr F gF (E.ext.free hp0)⟩
          obtain ⟨F2, g2, E2, hr⟩ := hy2
          refine ⟨_, F2, ρ, _, ρ2, E2, hr, hg2, fun σ2 b2 E3 => ⟨b2.wipe his, ?_⟩⟩
          have hw := b2.wipe his
          refine ⟨_, hΦ Z D (.lst acc) hZ, ?_⟩
          rcases mB_cases hl with ⟨y, h3, e⟩ | ⟨bb, ρ3, h3, h4⟩
          · cases e
          · refine ⟨F2, ρ2, _, _, E3, h3, fun b' e F3 H3 g3 E4 => ?_, fun y e => by cases e⟩
            cases e
            cases bb with
            | false =>
              refine iteF ⟨hlt, F3, _, acc, accd, (gF.trans g2).trans g3, ?_, hacc.gr (g2.trans g3), h4⟩
              have := E4.wipe vs
              rw [hw] at this
              exact this
            | true =>
              refine iteT ⟨_, hΦ Z D (.lst acc) hZ, ?_⟩
              rw [if_pos rfl] at h4
              rcases mB_cases h4 with ⟨y, h5, e⟩ | ⟨ds1, ρ5, h5, h6⟩
              · cases e
              · refine ⟨F3, ρ3, _, _, E4, h5, fun ds1' e F5 J1 H5 g5 E5 hJ1 => ?_, fun y e => by cases e⟩
                cases e
                split at h6
                · rename_i acc2 ρ6 hin
                  refine ⟨fun j k H => k = ds1.length - j ∧ j ≤ ds1.length ∧ ∃ F ρ acc accd, Gr F5 F ∧ EnvOk X.K G (Z.plus D (.lst acc)) F ρ (L2.wipe σ2 vs1) H ∧ Reps X.K G F accd acc ∧ lcGo vs1 g1 tt1 fe (ds1.drop j) accd ρ = some (.ok acc2, ρ6),
                    ⟨_, rfl, Nat.zero_le _, F5, _, acc, accd, Gr.rfl, E5.wipe vs1, hacc.gr ((g2.trans g3).trans g5), hin⟩, ?_⟩
                  rintro j k H ⟨rfl, hj, F6, ρ7, acc3, accd3, gF6, E6, hacc3, hl1⟩
                  have gH1 : Gr F5 H := gF6.trans E6.ext
                  have gF16 : Gr F1 F6 := (((gF.trans g2).trans g3).trans g5).trans gF6
                  rcases Nat.lt_or_ge j ds1.length with hlt1 | hge1
                  · refine .inr ⟨hJ1.go j _ H gH1 (List.getElem?_eq_getElem hlt1), ?_⟩
                    rw [List.drop_eq_getElem_cons hlt1] at hl1
                    unfold lcGo at hl1
                    split at hl1
                    · cases hl1
                    · rename_i ρ8 hg8
                      refine ⟨fun H' => j + 1 ≤ ds1.length ∧ ∃ F ρ acc accd, Gr F5 F ∧ EnvOk X.K G (Z.plus D (.lst acc)) F ρ (L2.wipe σ2 vs1) H' ∧ Reps X.K G F accd acc ∧ lcGo vs1 g1 tt1 fe (ds1.drop (j + 1)) accd ρ = some (.ok acc2, ρ6), fun H' ⟨a, z⟩ => ⟨_, by omega, rfl, a, z⟩, fun x H' hy => ?_⟩
                      have hy2 : ∃ F7, Gr F6 F7 ∧ EnvOk X.K G (Z.plus D (.lst acc3)) F7 ρ7 (L2.wipe σ2 vs1) H' ∧ Rep X.K G F7 ds1[j] x := by
                        rcases hJ1.yld j _ H x H' gH1 (List.getElem?_eq_getElem hlt1) hy with ⟨rfl, hr⟩ | ⟨pp, o, hp0, rfl, hr⟩
                        · exact ⟨F6, Gr.rfl, E6, hr.gr gF6⟩
                        · exact ⟨_, Gr.new (E6.ext.free hp0), E6.new hp0, hr F6 gF6 (E6.ext.free hp0)⟩
                      obtain ⟨F7, g7, E7, hr7⟩ := hy2
                      refine ⟨_, F7, ρ7, _, ρ8, E7, hr7, hg8, fun σ3 b3 E8 => ⟨b3.wipe his1, ?_⟩⟩
                      have hw1 := b3.wipe his1
                      refine ⟨_, hΦ Z D (.lst acc3) hZ, ?_⟩
                      rcases mB_cases hl1 with ⟨y, h9, e⟩ | ⟨bb1, ρ9, h9, h10⟩
                      · cases e
                      · refine ⟨F7, ρ8, _, _, E8, h9, fun b' e F9 H9 g9 E9 => ?_, fun y e => by cases e⟩
                        cases e
                        cases bb1 with
                        | false =>
                          refine iteF ⟨hlt1, F9, _, acc3, accd3, (gF6.trans g7).trans g9, ?_, hacc3.gr (g7.trans g9), h10⟩
                          have := E9.wipe vs1
                          rw [hw1] at this
                          exact this
                        | true =>
                          refine iteT ⟨_, hΦ Z D (.lst acc3) hZ, ?_⟩
                          rw [if_pos rfl] at h10
                          rcases mB_cases h10 with ⟨y, h11, e⟩ | ⟨pv, ρ10, h11, h12⟩
                          · cases e
                          · refine ⟨F9, ρ9, _, _, E9, h11, fun pv' e F10 y H10 g10 E10 hv => ?_, fun y e => by cases e⟩
                            cases e
                            obtain ⟨d, hd, h13⟩ := mO_some h12
                            obtain ⟨F11, g11, E11, hr11⟩ := hv.frz E10 hd
                            split at h13
                            · rename_i hsz
                              have hacc11 := hacc3.gr ((g7.trans g9).trans (g10.trans g11))
                              refine ⟨acc3, E11.atD hp, by rw [← hacc11.length]; exact hsz, hlt1, F11, _, acc3 ++ [y], accd3 ++ [d], ((gF6.trans g7).trans g9).trans (g10.trans g11), ?_, Reps.append hacc11 (.cons hr11 .nil), h13⟩
                              have hO := E11.notOw hp
                              have hF11 := E11.noF hfD
                              have E12 := (((E11.minus hZD hp).alter (o := .lst (acc3 ++ [y])) hF11 hZD hp hO).plus (D := D) upd_same hF11 hO).wipe vs1
                              rw [hw1] at E12
                              exact E12
                            · cases h13
                  · refine .inl ⟨hJ1.stop j H gH1 hge1, ?_⟩
                    rw [List.drop_of_length_le hge1] at hl1
                    cases hl1
                    refine ⟨hlt, F6, _, acc3, acc2, gF16, ?_, hacc3, h6⟩
                    have := E6.wipe vs
                    rw [wipe_sub hvs, hw] at this
                    exact this
                · cases h6
      · refine .inl ⟨hJ.stop i H gH hge, ?_⟩
        rw [List.drop_of_length_le hge] at hl
        cases hl
        have hv : ∀ (i : Nat) (d : D'), ρ1.at i = some (.val d) → ∃ v, sl σ i = some v ∧ Rep X.K G F d v := fun i d h => by
          obtain ⟨v, h1, h2⟩ := E1.val i d h
          exact ⟨v, h1, h2.gr gF⟩
        have EB := E.behind hv E1.len
        exact q1 _ rfl F (.ref D) H (g1'.trans gF) (EB.minus hZD hp) ⟨D, rfl, E.noF hfD, hZD, ⟨acc, E.atD hp, hacc⟩, EB.notOw hp⟩
    · cases h2
section
variable {elt tg iter tg1 iter1 : Expr} {ifs ifs1 : List Expr} {scope : Scope} {own : List (Str × Nat)} {is is1 vs1 : List Nat} {fi fi1 : M (List D)} {g g1 : Tg} {tt tt1 : M Bool} {fe : M PV}
theorem re_lc2 (hΦ : ∀ Z D o, Φ Z → Φ (Zone.plus Z D o)) (hc : X.calm = true) (hN : X.N.Nodup) (hi : RIt X G Φ W tg iter fi) (ok : BlkOk X.N X.env.scope scope own)
    (hg : ∀ (s : Shared) (H : Hp) (C : Addr) (cl : List (Str × Addr)) (fp : List Addr), RG (X.blk s H scope (compEnvC scope cl C X.env) fp) G is tg g) (ht : ∀ (s : Shared) (H : Hp) (C : Addr) (cl : List (Str × Addr)) (fp : List Addr), RTs (X.blk s H scope (compEnvC scope cl C X.env) fp) G Φ W0 ifs tt)
    (hi1 : ∀ (s : Shared) (H : Hp) (C : Addr) (cl : List (Str × Addr)) (fp : List Addr), RIt (X.blk s H scope (compEnvC scope cl C X.env) fp) G Φ W0 tg1 iter1 fi1)
    (hg1 : ∀ (s : Shared) (H : Hp) (C : Addr) (cl : List (Str × Addr)) (fp : List Addr), RG (X.blk s H scope (compEnvC scope cl C X.env) fp) G is1 tg1 g1) (ht1 : ∀ (s : Shared) (H : Hp) (C : Addr) (cl : List (Str × Addr)) (fp : List Addr), RTs (X.blk s H scope (compEnvC scope cl C X.env) fp) G Φ W0 ifs1 tt1)
    (he : ∀ (s : Shared) (H : Hp) (C : Addr) (cl : List (Str × Addr)) (fp : List Addr), RE (X.blk s H scope (compEnvC scope cl C X.env) fp) G Φ W0 elt fe) (his : ∀ i ∈ is, i ∈ own.map (·.2)) (his1 : ∀ i ∈ is1, i ∈ vs1) (hvs : ∀ i ∈ vs1, i ∈ own.map (·.2))
    (hs : ∀ x, foldedSetIterable iter X.env x = pure x := by intro _; rfl) (hs1 : ∀ env x, foldedSetIterable iter1 env x = pure x := by intro _ _; rfl) :
    RE X G Φ W (.ListComp elt [⟨tg, iter, ifs, 0⟩, ⟨tg1, iter1, ifs1, 0⟩] scope pos) (eLc2 (own.map (·.2)) vs1 fi g tt fi1 g1 tt1 fe) := fun Z hZ =>
  PE.lo (pe_lc2 (g := tG X.K G is g) (tt := tTx X.K G Φ tt) (wi1 := tItx X.K G Φ fi1) (g1 := tG X.K G is1 g1) (tt1 := tTx X.K G Φ tt1) (te := tEx X.K G Φ fe) hc hN (hi Z hZ) ok hvs hg (fun s H C cl fp => ⟨fun pins s' σ H Q I ⟨Z', hZ', q⟩ => (ht s _ C cl fp Z' hZ').run pins s' σ H Q I q⟩)
    (fun s H C cl fp => ⟨fun pins s' σ H Q I ⟨Z', hZ', q⟩ => (hi1 s _ C cl fp Z' hZ').run pins s' σ H Q I q⟩) hg1 (fun s H C cl fp => ⟨fun pins s' σ H Q I ⟨Z', hZ', q⟩ => (ht1 s _ C cl fp Z' hZ').run pins s' σ H Q I q⟩)
    (fun s H C cl fp => ⟨fun pins s' σ H Q I ⟨Z', hZ', q⟩ => (he s _ C cl fp Z' hZ').run pins s' σ H Q I q⟩) hs hs1) (lc2_all hZ hΦ his his1 hvs)
theorem rs_lc2V {y : Str} {py : Pos} {i : Nat} {spos : Pos} (hΦ : ∀ Z D o, Φ Z → Φ (Zone.plus Z D o)) (hc : X.calm = true) (hN : X.N.Nodup) (hy : X.N[i]? = some y) (hyl : X.env.scope.names.lookup y = some .local)
    (hsw : swapsWith (.ListComp elt [⟨tg, iter, ifs, 0⟩, ⟨tg1, iter1, ifs1, 0⟩] scope pos) (some (.Name y py)) spos.line X.env = pure true) (hi : RIt X G Φ W tg iter fi) (ok : BlkOk X.N X.env.scope scope own)
    (hg : ∀ (s : Shared) (H : Hp) (C : Addr) (cl : List (Str × Addr)) (fp : List Addr), RG (X.blk s H scope (compEnvC scope cl C X.env) fp) G is tg g) (ht : ∀ (s : Shared) (H : Hp) (C : Addr) (cl : List (Str × Addr)) (fp : List Addr), RTs (X.blk s H scope (compEnvC scope cl C X.env) fp) G Φ W0 ifs tt)
    (hi1 : ∀ (s : Shared) (H : Hp) (C : Addr) (cl : List (Str × Addr)) (fp : List Addr), RIt (X.blk s H scope (compEnvC scope cl C X.env) fp) G Φ W0 tg1 iter1 fi1)
    (hg1 : ∀ (s : Shared) (H : Hp) (C : Addr) (cl : List (Str × Addr)) (fp : List Addr), RG (X.blk s H scope (compEnvC scope cl C X.env) fp) G is1 tg1 g1) (ht1 : ∀ (s : Shared) (H : Hp) (C : Addr) (cl : List (Str × Addr)) (fp : List Addr), RTs (X.blk s H scope (compEnvC scope cl C X.env) fp) G Φ W0 ifs1 tt1)
    (he : ∀ (s : Shared) (H : Hp) (C : Addr) (cl : List (Str × Addr)) (fp : List Addr), RE (X.blk s H scope (compEnvC scope cl C X.env) fp) G Φ W0 elt fe) (his : ∀ i ∈ is, i ∈ own.map (·.2)) (his1 : ∀ i ∈ is1, i ∈ vs1) (hvs : ∀ i ∈ vs1, i ∈ own.map (·.2))
    (hs : ∀ x, foldedSetIterable iter X.env x = pure x := by intro _; rfl) (hs1 : ∀ env x, foldedSetIterable iter1 env x = pure x := by intro _ _; rfl) :
    RS X G Φ W (.Assign [.Name y py] (.ListComp elt [⟨tg, iter, ifs, 0⟩, ⟨tg1, iter1, ifs1, 0⟩] scope pos) spos) (sAsgV i (eLc2 (own.map (·.2)) vs1 fi g tt fi1 g1 tt1 fe)) := fun Z hZ =>
  PS.lo (ps_setLc2 (g := tG X.K G is g) (tt := tTx X.K G Φ tt) (wi1 := tItx X.K G Φ fi1) (g1 := tG X.K G is1 g1) (tt1 := tTx X.K G Φ tt1) (te := tEx X.K G Φ fe) hc hN hy hyl hsw (hi Z hZ) ok hvs hg (fun s H C cl fp => ⟨fun pins s' σ H Q I ⟨Z', hZ', q⟩ => (ht s _ C cl fp Z' hZ').run pins s' σ H Q I q⟩)
    (fun s H C cl fp => ⟨fun pins s' σ H Q I ⟨Z', hZ', q⟩ => (hi1 s _ C cl fp Z' hZ').run pins s' σ H Q I q⟩) hg1 (fun s H C cl fp => ⟨fun pins s' σ H Q I ⟨Z', hZ', q⟩ => (ht1 s _ C cl fp Z' hZ').run pins s' σ H Q I q⟩)
    (fun s H C cl fp => ⟨fun pins s' σ H Q I ⟨Z', hZ', q⟩ => (he s _ C cl fp Z' hZ').run pins s' σ H Q I q⟩) hs hs1) fun D σ H ⟨F, ρ, r, ρ', E, hf, q1, q2⟩ => by
    unfold sAsgV at hf
    refine lc2_all hZ hΦ his his1 hvs σ H _ ?_
    rcases mB_cases hf with ⟨x, h1, rfl⟩ | ⟨pv, ρ1, h1, h2⟩
    · exact ⟨F, ρ, _, _, E, h1, fun _ e => (by cases e), fun y e => by cases e; exact q2 _ rfl⟩
    · refine ⟨F, ρ, _, _, E, h1, fun pv' e F1 v H1 g1 E1 hv => ?_, fun y e => by cases e⟩
      cases e
      obtain ⟨d, hd, h3⟩ := mO_some h2
      cases h3
      obtain ⟨F2, g2, E2, hr⟩ := hv.frz E1 hd
      exact q1 _ rfl F2 _ H1 (g1.trans g2) (put_any E2 hr)
end
end
end Pl
/-! # list(text), text[::-1], xs.extend, sep.join, text.index -/
set_option Elab.async false
set_option linter.all false
set_option maxRecDepth 100000
set_option maxHeartbeats 2000000
namespace Pl
open PySem PySem.Spec L2
open PyProof.Rows hiding St
def chars (z : Str) : List Str := z.cps.toList.map fun c => ⟨#[c]⟩
section
variable {X : Cx} {G : Nat → Option CI} {Φ : Zone → Prop} {W : WX} {e a b c : Expr} {es : List Expr} {pos p p' apos : Pos}
/-! ### list(text) -/
theorem call_list_strR (hc : X.calm = true) : CallR X (.type "list") (fun xs H Q => ∃ z, xs = [.str z] ∧ z.length ≤ sizeLine ∧ ∀ l, H l = none → Q (.ref l) (upd H l (.lst ((chars z).map V.str)))) := by
  intro pins s σ H xs us Q I r h
  obtain ⟨z, rfl, hz, q⟩ := h
  obtain ⟨u, rfl, rx⟩ := vals1 r
  obtain ⟨t, rfl⟩ := rx
  refine call_list_str (I.ok.hd hc) z t (fun h' tk acc' c' kp ho hi => ?_) hz
  have hv : Vals ((chars z).map V.str) acc'.toList := by
    refine vals_of_idx _ _ (by simp [chars, hi.1]) fun j u hu => ?_
    obtain ⟨c, u', hc', rfl⟩ := hi.2 j u (by simpa using hu)
    exact ⟨.str ⟨#[c]⟩, by simp [chars, hc'], _, rfl⟩
  have hok : ObjOk X.prog X.w (upd H s.heap.objs.size (.lst ((chars z).map V.str))) h' s.heap.objs.size (.lst ((chars z).map V.str)) :=
    ⟨by rw [List.length_map]; unfold chars; rw [List.length_map]; exact hz, acc'.toList, c', hv, by simpa using ho⟩
  exact ⟨.ref s.heap.objs.size, _, I.laid (t' := tk) (o := .lst ((chars z).map V.str)) kp (Nat.le_refl _) hok, rfl, q _ (I.hok.fresh (Nat.le_refl _))⟩
def dLstS : D → Option PV
  | .str z => if z.length ≤ sizeLine then some (.own (.lst ((chars z).map D.str))) else none
  | _ => none
theorem reps_strs {K : PySem.W.Frag} {F : Hp} : ∀ zs : List Str, Reps K G F (zs.map D.str) (zs.map V.str)
  | [] => .nil
  | z :: zs => .cons (.str z) (reps_strs zs)
theorem opf_listS : OpF1 X G (fun x H Q => ∃ z, [x] = [V.str z] ∧ z.length ≤ sizeLine ∧ ∀ l, H l = none → Q (.ref l) (upd H l (.lst ((chars z).map V.str)))) dLstS := fun Z F ρ σ H x pv u Q E h hu q => by
  cases x <;> first | (cases h; done) | skip
  rename_i z
  unfold dLstS at h
  dsimp only at h
  split at h
  · cases h
    cases pk_str hu
    exact ⟨z, rfl, ‹_›, new_own E rfl (reps_strs _) q⟩
  · cases h
theorem re_lstS {f : M PV} (hc : X.calm = true) (hl : Gl X "list") (hm : X.mg "list" = none) (ha : RE X G Φ W a f) (hs : starEach [a] X.env = (false, eval a X.env) :: starEach [] X.env := by rfl) (hpl : (backTo pos (starEach [] X.env)).any (·.1) = false := by rfl) :
    RE X G Φ W (.Call (.Name "list" p) [a] [] pos) (eF dLstS f) := fun Z hZ => PE.lo (pe_callTy (call_list_strR hc) hl hm bt_list (pa_cons (ha Z hZ) pa_nil hs) (by decide) (by decide) hs hpl) (tE_F opf_listS)
/-! ### text[::-1] -/
def revS (z : Str) : Str := ⟨z.cps.toList.reverse.toArray⟩
theorem pick_rev (z : Str) : ((Builtin.Str.strSliceIndices none none (-1) z.length).filterMap (z.cps[·]?)) = z.cps.toList.reverse := by
  have e : Builtin.Str.strSliceIndices none none (-1) z.length = sliceRange ((z.length : Int) - 1) (-1) (-1) := rfl
  rw [e, PySem.W.krv_sliceRange, PySem.W.krv_range, List.filterMap_reverse]
  exact congrArg List.reverse (PySem.W.krv_all z.cps)
theorem pe_revS {te : TE} {k : Nat} {p1 p2 p3 : Pos} (he : PE X e te) : PE X (.Subscript e (.Slice none none (some (.UnaryOp .USub (.Constant (.int 1) k p1) p2)) p3) pos) (fun σ H Q => te σ H fun x H1 => ∃ z, x = .str z ∧ z.length ≤ sizeLine ∧ Q (.str (revS z)) H1) := by
  refine ⟨fun pins s σ H Q I h => ?_⟩
  refine Subscript_ (thn (he.run pins s σ H _ I h) fun v s1 hx => ?_)
  obtain ⟨x, H1, I1, r1, z, ex, hz, q⟩ := hx
  subst ex
  obtain ⟨t, rfl⟩ := r1
  have hst : PO X (some (.UnaryOp .USub (.Constant (.int 1) k p1) p2)) (tPart (tUn (rU fun i => .int (-i)) (tC (.int 1)))) := po_some (pe_un un_neg pe_int)
  refine wpAny_Slice (thn (po_none.run pins s1 σ H1 (fun o H2 => o = none ∧ H2 = H1) I1 ⟨rfl, rfl⟩) fun vl s2 hl => ?_)
  obtain ⟨l, H2, I2, pl, el, e2⟩ := hl
  subst el e2
  refine thn (po_none.run pins s2 σ H2 (fun o H3 => o = none ∧ H3 = H2) I2 ⟨rfl, rfl⟩) fun vu s3 hu => ?_
  obtain ⟨u, H3, I3, pu, eu, e3⟩ := hu
  subst eu e3
  refine thn (hst.run pins s3 σ H3 (fun o H4 => o = some (-1) ∧ H4 = H3) I3 ⟨1, rfl, -1, rfl, rfl, rfl⟩) fun vs s4 ho => ?_
  obtain ⟨o, H4, I4, ps, eo, e4⟩ := ho
  subst eo e4
  have I5 : L2.Inv X pins σ H4 { s4 with heap := s4.heap.push { cls := .type "slice", data := .fields #[vl, vu, vs] } } := I4.kept (t' := s4.toks) fun b ob q => Heap.get?_push_of_some _ q
  obtain ⟨l', rfl, hl1⟩ := IsPart.raw pl
  obtain ⟨u', rfl, hu1⟩ := IsPart.raw pu
  obtain ⟨st, rfl, hst1⟩ := IsPart.raw ps
  show wpAny (model X.prog X.w) X.A (subscriptTail e (.Slice none none (some (.UnaryOp .USub (.Constant (.int 1) k p1) p2)) p3) (.str z t) (.ref s4.heap.objs.size)) (EP X pins σ Q) X.xe { s4 with heap := s4.heap.push { cls := .type "slice", data := .fields #[partValue l', partValue u', partValue st] } }
  refine tail_any (ops := [.str z t, .ref s4.heap.objs.size]) (typeIs_str _ _ _) (PySem.F.slot_str_getitem.lookup) ?_ (by with_unfolding_all rfl)
  refine wpAny_getItem_str_slice (l := l') (u := u') (st := st) ⟨_, Heap.get?_push_size _ rfl, rfl, rfl⟩ (by rw [hst1]; rfl) ?_
  have e1 : sliceMade z t l' u' st = .str (revS z) := by
    unfold sliceMade slicePicked
    rw [hst1, hl1, hu1]
    show (if ((-1 : Int) == 1 && _) = true then _ else Made.str ⟨((Builtin.Str.strSliceIndices none none (-1) z.length).filterMap (z.cps[·]?)).toArray⟩) = _
    rw [pick_rev, if_neg (by simp)]; rfl
  rw [e1]
  exact ⟨by show z.cps.toList.reverse.toArray.size ≤ sizeLine; rw [List.size_toArray, List.length_reverse, Array.length_toList]; exact hz, .str (revS z), H4, I5.tok _, ⟨_, rfl⟩, q⟩
def dRevS : D → Option D
  | .str z => if z.length ≤ sizeLine then some (.str (revS z)) else none
  | _ => none
theorem opu_revS : OpU X G (fun x H Q => ∃ z, x = .str z ∧ z.length ≤ sizeLine ∧ Q (.str (revS z)) H) dRevS := fun Z F ρ σ H x d u Q E h hu q => by
  cases x <;> first | (cases h; done) | skip
  rename_i z
  unfold dRevS at h
  dsimp only at h
  split at h
  · cases h
    cases pk_str hu
    exact ⟨z, rfl, ‹_›, q _ (.str _)⟩
  · cases h
theorem re_revS {f : M PV} {k : Nat} {p1 p2 p3 : Pos} (h : RE X G Φ W e f) : RE X G Φ W (.Subscript e (.Slice none none (some (.UnaryOp .USub (.Constant (.int 1) k p1) p2)) p3) pos) (eUn dRevS f) := fun Z hZ =>
  PE.lo (pe_revS (h Z hZ)) (tE_un opu_revS)
theorem ri_revS {f : Inr} {k : Nat} {p1 p2 p3 : Pos} (h : RP X G e f) : RI X G (.Subscript e (.Slice none none (some (.UnaryOp .USub (.Constant (.int 1) k p1) p2)) p3) pos) (iUn dRevS f) :=
  PE.lo (pe_revS h) fun σ H Q ⟨Z, F, ρ, d, E, hf, q⟩ => by
    unfold iUn at hf
    cases h1 : f ρ with
    | none => rw [h1] at hf; cases hf
    | some x =>
      rw [h1] at hf
      exact ⟨Z, F, ρ, x, E, h1, fun u hu => opu_revS Z F ρ σ H x d u Q E hf hu q⟩
/-! ### a method of a text with one argument that is evaluated -/
def eM1 (g : Str → D → Option D) (fa : Inr) (fb : M PV) : M PV := fun ρ => match fa ρ with
  | some (.str a) => (mB fb fun pv => mB (mO pv.tree) fun y => mB (mO (g a y)) fun d => mR (.val d)) ρ
  | _ => none
def OpM (X : Cx) (G : Nat → Option CI) (r : V → List V → Hp → VK → Prop) (g : Str → D → Option D) : Prop :=
  ∀ Z F ρ σ H a y d v (Q : VK), EnvOk X.K G Z F ρ σ H → g a y = some d → Pk X.K G F H y v → (∀ w, Rep X.K G F d w → Q w H) → r (.str a) [v] H Q
theorem tE_m1 {Z : Zone} {r : V → List V → Hp → VK → Prop} {g : Str → D → Option D} {fa : Inr} {fb : M PV} (hg : OpM X G r g) : ∀ σ H Q, tE X.K G Z W (eM1 g fa fb) σ H Q → tM1 r (tP X.K G fa) (tE X.K G Z W fb) σ H Q := fun σ H Q ⟨F, ρ, r, ρ', E, hf, q1, q2⟩ => by
  unfold eM1 at hf
  split at hf
  · rename_i a ha
    refine ⟨Z, F, ρ, .str a, E, ha, fun v hv => ?_⟩
    cases pk_str hv
    refine ⟨⟨a, rfl⟩, ?_⟩
    rcases mB_cases hf with ⟨x, h1, rfl⟩ | ⟨pv, ρ1, h1, h2⟩
    · exact ⟨F, ρ, _, _, E, h1, fun _ e => (by cases e), fun y e => by cases e; exact q2 _ rfl⟩
    · refine ⟨F, ρ, _, _, E, h1, fun pv' e F1 v H1 g1 E1 hv => ?_, fun y e => by cases e⟩
      cases e
      obtain ⟨y, hy, h3⟩ := mO_some h2
      obtain ⟨F2, g2, E2, hr⟩ := hv.frz E1 hy
      obtain ⟨d, hd, h7⟩ := mO_some h3
      cases h7
      exact hg Z F2 _ σ H1 a y d v Q E2 hd (hr.pk E2.ext) fun w hw => q1 _ rfl F2 w H1 (g1.trans g2) E2 hw
  · cases hf
def strsOf : List D → Option (List Str)
  | [] => some []
  | .str z :: ds => (strsOf ds).map (z :: ·)
  | _ :: _ => none
theorem strsOf_map : ∀ {ds : List D} {zs : List Str}, strsOf ds = some zs → ds = zs.map D.str
  | [], zs, h => by cases h; rfl
  | .str z :: ds, zs, h => by
    rw [strsOf] at h
    cases h2 : strsOf ds with
    | none => rw [h2] at h; cases h
    | some ys => rw [h2] at h; cases h; rw [strsOf_map h2]; rfl
  | .non :: _, _, h => by cases h
  | .bl _ :: _, _, h => by cases h
  | .int _ :: _, _, h => by cases h
  | .tup _ :: _, _, h => by cases h
  | .lst _ :: _, _, h => by cases h
  | .dct _ _ :: _, _, h => by cases h
  | .obj _ _ :: _, _, h => by cases h
theorem reps_strs_eq {K : PySem.W.Frag} {F : Hp} : ∀ {zs : List Str} {vs : List V}, Reps K G F (zs.map D.str) vs → vs = zs.map V.str
  | [], _, h => by cases h; rfl
  | z :: zs, _, h => by
    cases h with
    | cons a b =>
      cases a
      rw [reps_strs_eq b]; rfl
def dJoin (a : Str) : D → Option D
  | .lst ds => (strsOf ds).bind fun ys => if (ys.map (·.length)).sum + ys.length * a.length ≤ 16777216 then some (.str (PySem.Txt.join a ys)) else none
  | .tup ds => (strsOf ds).bind fun ys => if (ys.map (·.length)).sum + ys.length * a.length ≤ 16777216 then some (.str (PySem.Txt.join a ys)) else none
  | _ => none
theorem opm_join : OpM X G (fun x xs H Q => ∃ a p, ∃ ys : List Str, x = .str a ∧ xs = [.ref p] ∧ (SqL X.K H p (ys.map V.str) ∨ SqT X.K H p (ys.map V.str)) ∧ (ys.map (·.length)).sum + ys.length * a.length ≤ 16777216 ∧ Q (.str (PySem.Txt.join a ys)) H) dJoin := fun Z F ρ σ H a y d v Q E h hv q => by
  have key : ∀ ds : List D, ((strsOf ds).bind fun ys => if (ys.map (·.length)).sum + ys.length * a.length ≤ 16777216 then some (D.str (PySem.Txt.join a ys)) else none) = some d → ∃ ys, ds = ys.map D.str ∧ (ys.map (·.length)).sum + ys.length * a.length ≤ 16777216 ∧ d = .str (PySem.Txt.join a ys) := fun ds h => by
    cases h2 : strsOf ds with
    | none => rw [h2] at h; cases h
    | some ys =>
      rw [h2, Option.bind_some] at h
      split at h
      · cases h; exact ⟨ys, strsOf_map h2, ‹_›, rfl⟩
      · cases h
  cases y <;> first | (cases h; done) | skip
  · rename_i ds
    obtain ⟨ys, rfl, hs, rfl⟩ := key ds h
    obtain ⟨p, vs, rfl, hq, hr⟩ := hv
    rw [reps_strs_eq hr] at hq
    exact ⟨a, p, ys, rfl, rfl, .inr hq, hs, q _ (.str _)⟩
  · rename_i ds
    obtain ⟨ys, rfl, hs, rfl⟩ := key ds h
    obtain ⟨p, vs, rfl, hq, hr⟩ := hv
    rw [reps_strs_eq hr] at hq
    exact ⟨a, p, ys, rfl, rfl, .inl hq, hs, q _ (.str _)⟩
theorem re_join {fa : Inr} {fb : M PV} (ha : RP X G a fa) (hb : RE X G Φ W b fb) (hs : starEach [b] X.env = [(false, eval b X.env)] := by rfl) (hbase : attributeBase a "join" X.env (eval a X.env) = eval a X.env := by rfl) (hline : (apos.endLine == pos.line) = true := by rfl) :
    RE X G Φ W (.Call (.Attribute a "join" apos) [b] [] pos) (eM1 dJoin fa fb) := fun Z hZ => PE.lo (pe_join ha (hb Z hZ) hs hbase hline) (tE_m1 opm_join)
/-- text.index(sign), where it stands there -/
def dIdxS (a : Str) : D → Option D
  | .str b => if 0 ≤ PySem.Txt.find a b then some (.int (PySem.Txt.find a b)) else none
  | _ => none
theorem opm_index : OpM X G (fun x xs H Q => ∃ a b i rest, x = .str a ∧ xs = [.str b] ∧ Builtin.Str.occurrences a b 0 a.length 1 = i :: rest ∧ Q (.int (i : Nat)) H) dIdxS := fun Z F ρ σ H a y d v Q E h hv q => by
  cases y <;> first | (cases h; done) | skip
  rename_i b
  unfold dIdxS at h
  dsimp only at h
  split at h
  · rename_i h0
    cases h
    cases pk_str hv
    cases ho : Builtin.Str.occurrences a b 0 a.length 1 with
    | nil =>
      unfold PySem.Txt.find at h0
      rw [ho] at h0
      exact absurd h0 (by decide)
    | cons i rest =>
      have : PySem.Txt.find a b = (i : Int) := by unfold PySem.Txt.find; rw [ho]
      rw [this] at q
      exact ⟨a, b, i, rest, rfl, rfl, ho, q _ (.int _)⟩
  · cases h
theorem re_indexS {fa : Inr} {fb : M PV} (ha : RP X G a fa) (hb : RE X G Φ W b fb) (hs : starEach [b] X.env = [(false, eval b X.env)] := by rfl) (hbase : attributeBase a "index" X.env (eval a X.env) = eval a X.env := by rfl) (hline : (apos.endLine == pos.line) = true := by rfl) :
    RE X G Φ W (.Call (.Attribute a "index" apos) [b] [] pos) (eM1 dIdxS fa fb) := fun Z hZ => PE.lo (pe_m1 F.slot_str_index F.type_str_index mt_sindex ha (hb Z hZ) hs hbase hline) (tE_m1 opm_index)
/-! ### xs.extend(ys) -/
def sExt (i : Nat) (f : M PV) : M Fl := fun ρ0 => if lstAt ρ0 i = true then (mB f fun pv => match pv with
  | .own (.lst es) => mB (chg i fun ds => if ds.length + es.length ≤ sizeLine then some (ds ++ es) else none) fun _ => mR .next
  | _ => fun _ => none) ρ0 else none
theorem rs_ext {i : Nat} {x : Str} {fe : M PV} {xp : Pos} (h : RE X G Φ W e fe) (hN : X.N[i]? = some x := by rfl) (hv : Vis X.env.scope x := by first | exact Or.inl rfl | exact Or.inr (Or.inl rfl) | exact Or.inr (Or.inr rfl))
    (hbase : attributeBase (.Name x xp) "extend" X.env (eval (.Name x xp) X.env) = eval (.Name x xp) X.env := by rfl)
    (hfew : ((backTo p (starEach [e] X.env)).all (fun x => !x.1) && (backToKw p (keywordEach [] X.env)).all (fun x => x.1.isSome)
      && decide (([e] : List Expr).length + ([] : List Keyword).length + (if ([] : List Keyword).isEmpty then 0 else 1) < 30)) = true := by rfl)
    (hline : (apos.endLine == p.line) = true := by rfl) (hs : starEach [e] X.env = (false, eval e X.env) :: starEach [] X.env := by rfl) (hplain : (backTo p (starEach [] X.env)).any (·.1) = false := by rfl)
    (hsw : swapsWith (.Call (.Attribute (.Name x xp) "extend" apos) [e] [] p) none pos.line X.env = pure false := by rfl)
    (hd : (x == ("__debug__" : Str)) = false := by decide) (hcd : (x == ("__classdict__" : Str)) = false := by decide) :
    RS X G Φ W (.Expr (.Call (.Attribute (.Name x xp) "extend" apos) [e] [] p) pos) (sExt i fe) := fun Z hZ =>
  PS.lo (ps_expr (pe_bm PySem.F.plainAttrs_list PySem.F.slot_list_extend PySem.F.type_list_extend mt_extend (pe_var hN hv hd hcd) (pa_cons (h Z hZ) pa_nil hs) hbase hfew hline hs hplain) hsw) fun D σ H ⟨F, ρ, r, ρ', E, hf, q1, q2⟩ => by
    unfold sExt at hf
    split at hf
    · rename_i hl
      obtain ⟨l, vs, s, hH⟩ := lstAt_ok E hl
      refine ⟨_, sl_some s, .inl ⟨rfl, _, SqL.of hH⟩, ?_⟩
      rcases mB_cases hf with ⟨x, h1, rfl⟩ | ⟨pv, ρ1, h1, h2⟩
      · exact ⟨F, ρ, _, _, E, h1, fun _ e => (by cases e), fun y e => by cases e; exact q2 _ rfl⟩
      · refine ⟨F, ρ, _, _, E, h1, fun pv' e F1 v H1 g1 E1 hv => ?_, fun y e => by cases e⟩
        cases e
        split at h2
        · rename_i es
          obtain ⟨b, rfl, hFb, hZb, ⟨ws, hb, hrb⟩, hob⟩ := hv
          rcases mB_cases h2 with ⟨x, h4, rfl⟩ | ⟨u, ρ2, h4, h5⟩
          · obtain ⟨_, _, _, _, _, _, _, _, e, _⟩ := chg_ok E1 h4
            cases e
          · cases h5
            obtain ⟨l', vs', ds, ds', s', hH', hr', hg, _, fin⟩ := chg_ok E1 h4
            rw [s] at s'; cases s'
            split at hg
            · cases hg
              refine ⟨l, b, vs', ws, rfl, rfl, hH', hb, by rw [← hr'.length, ← hrb.length]; assumption, q1 _ rfl F1 σ _ g1 (fin _ (Reps.append hr' hrb))⟩
            · cases hg
        · cases h2
    · cases hf
/-! ### [..] * k of a new list -/
def eRepL (f : M PV) (g : Inr) : M PV := mB f fun pv => match pv with
  | .own (.lst ds) => fun ρ => match g ρ with
    | some (.int k) => if -1000 ≤ k ∧ k ≤ 1000 ∧ ds.length * k.toNat ≤ sizeLine then some (.ok (.own (.lst (List.replicate k.toNat ds).flatten)), ρ) else none
    | _ => none
  | _ => fun _ => none
theorem re_repL {f : M PV} {g : Inr} (ha : RE X G Φ W a f) (hb : RP X G b g) : RE X G Φ W (.BinOp a .Mult b pos) (eRepL f g) := fun Z hZ => PE.lo (pe_op op_rep (ha Z hZ) hb) fun σ H Q ⟨F, ρ, r, ρ', E, hf, q1, q2⟩ => by
  unfold eRepL at hf
  rcases mB_cases hf with ⟨x, h1, rfl⟩ | ⟨pv, ρ1, h1, h2⟩
  · exact ⟨F, ρ, _, _, E, h1, fun _ e => (by cases e), fun y e => by cases e; exact q2 _ rfl⟩
  · refine ⟨F, ρ, _, _, E, h1, fun pv' e F1 v H1 g1 E1 hv => ?_, fun y e => by cases e⟩
    cases e
    split at h2
    · rename_i ds
      obtain ⟨b, rfl, hFb, hZb, ⟨ws, hb, hrb⟩, hob⟩ := hv
      split at h2
      · rename_i k hg
        split at h2
        · rename_i hk
          cases h2
          refine ⟨Z, F1, _, .int k, E1, hg, fun v hv => ?_⟩
          cases pk_int hv
          refine ⟨b, k, ws, rfl, rfl, hb, by omega, by omega, by rw [← hrb.length]; exact hk.2.2, ?_⟩
          exact new_own E1 rfl (reps_rep hrb k.toNat) fun F' w H' g' E' hw => q1 _ rfl F' w H' (g1.trans g') E' hw
        · cases h2
      · cases h2
    · cases h2
end
end Pl
/-! # calling an instance that has its own __call__ -/
set_option Elab.async false
set_option linter.all false
set_option maxRecDepth 100000
set_option maxHeartbeats 2000000
namespace Pl
open PySem PySem.Spec L2
open PyProof.Rows hiding St
def tCallOS (X : Cx) (C : Addr) (sp : Sp) (E : L2.St → XK) (ta : TE) (t : TA) : TE := fun σ H Q => ta σ H fun x H1 => ∃ a, x = .ref a ∧ t σ H1 fun vs H2 => StX.InsC X H2 a C ∧ sp (x :: vs) H2 Q (E σ)
section
variable {X : Cx} {G : Nat → Option CI} {Φ : Zone → Prop} {W : WX} {e fe : Expr} {es : List Expr} {pos : Pos}
theorem run_fnSc {CX : CXT} {k : Nat} {f : Addr} {fd : FuncData} {ps : List Str} {sp : Sp} {E : L2.St → XK} {pins : List (Addr × Obj)} {σ : L2.St} {H : Hp} {s : Shared} {Q : VK} {us : List Value} {vs : List V} (F : FnOk X.prog X.w X.K X.mg X.base CX k f fd ps sp) (hr : Room k X.A) (hb : Binds X.K fd ps []) (hx : PassesAt CX X σ (E σ))
    (I : L2.Inv X pins σ H s) (r : Vals vs us) (h : sp vs H Q (E σ)) : codeAny (model X.prog X.w) X.A (.call (.ref f) ⟨us, []⟩) (fun r s' => match r with | .ok (.ret v) => EP X pins σ Q v s' | .ok _ => False | .error e => X.xe e s') s := by
  have hl : us.length = ps.length := by rw [← r.length]; exact F.len _ _ _ _ h
  have b := hb s us I.kIn (by rw [List.append_nil]; exact hl)
  rw [List.append_nil] at b
  refine codeAny_mono (F.run X.A X.stack s H ⟨us, []⟩ us vs Q (E σ) hr I.env0 b r h) fun r s' hq => ?_
  cases r with
  | error e => exact hx pins H s e s' I hq
  | ok fl =>
    cases fl with
    | ret u => exact I.after hq
    | next => exact False.elim hq
    | brk => exact False.elim hq
    | cont => exact False.elim hq
theorem pe_callOS {CX : CXT} {k : Nat} {g C : Addr} {fd : FuncData} {ps : List Str} {sp : Sp} {E : L2.St → XK} {tf : TE} {t : TA} (hf : PE X fe tf) (c : StX.CallO X.K C g) (F : FnOk X.prog X.w X.K X.mg X.base CX k g fd ps sp) (hr : Room k X.A) (hb : Binds X.K fd ps []) (hx : ∀ σ, PassesAt CX X σ (E σ)) (ha : PA X (e :: es) t)
    (ht : eval (.Call fe (e :: es) [] pos) X.env = (do callWith pos (← eval fe X.env) [] (backTo pos (starEach (e :: es) X.env)) (backToKw pos (keywordEach [] X.env))) := by rfl)
    (he : starEach (e :: es) X.env = (false, eval e X.env) :: starEach es X.env := by rfl) (hpl : (backTo pos (starEach es X.env)).any (·.1) = false := by rfl) : PE X (.Call fe (e :: es) [] pos) (tCallOS X C sp E tf t) := by
  refine ⟨fun pins s σ H Q I h => ?_⟩
  refine Call_ (thn (hf.run pins s σ H _ I h) fun u s1 ⟨y, H1, I1, ry, a, ey, q⟩ => ?_) ht
  subst ey
  obtain rfl : u = Value.ref a := ry
  refine StX.callO_with (thn (ha.run pos pins s1 σ H1 _ I1 q) fun us s2 ⟨vs, H2, I2, r, hi, q2⟩ => ?_) he hpl
  obtain ⟨ox, od, J, hd⟩ := StX.insC_at I2 hi
  exact ⟨⟨C, ox, od, J, hd⟩, wpAny_call (PySem.W.kco_code I2.kIn J hd c.at_ c.fn c.fi (run_fnSc (us := .ref a :: us) (vs := .ref a :: vs) F hr hb (hx σ) I2 (.cons rfl r) q2))⟩
theorem tE_callO {Z : Zone} {c : Nat} {i : CI} {den : Den} {o : M PV} {f : M (List Ag)} {t : TA} (ht : t = tA X.K G Z W f) (hi : G c = some i) : ∀ σ H Q, tE X.K G Z W (eMeth c den o f) σ H Q → tCallOS X i.adr (spD X.K G den) (fun σ cls d H' => W cls d σ H') (tE X.K G Z W o) t σ H Q := fun σ H Q ⟨F, ρ, r, ρ', E, hf, q1, q2⟩ => by
  subst ht
  unfold eMeth at hf
  rcases mB_cases hf with ⟨x, h1, rfl⟩ | ⟨pv, ρ1, h1, h2⟩
  · exact ⟨F, ρ, _, _, E, h1, fun _ e => (by cases e), fun y e => by cases e; exact q2 _ rfl⟩
  · refine ⟨F, ρ, _, _, E, h1, fun pv' e F1 v H1 g1 E1 hv => ?_, fun y e => by cases e⟩
    cases e
    obtain ⟨cs, hcs, h3⟩ := mO_some h2
    cases recv_some hcs
    have hr : Rep X.K G F1 (.obj c cs) v := hv
    have there : ∀ {F H : Hp}, Ext F H → Rep X.K G F (.obj c cs) v → ∃ a dx fs, v = .ref a ∧ H a = some (.ins i.adr dx fs) := fun {F H} ex hr => by
      cases hr with
      | obj hg hF hl r =>
        rw [hi] at hg; cases hg
        exact ⟨_, _, _, rfl, ex _ _ hF⟩
    obtain ⟨a, dx, fs, e1, e2⟩ := there E1.ext hr
    refine ⟨a, e1, ?_⟩
    rcases mB_cases h3 with ⟨x, h4, rfl⟩ | ⟨as, ρ2, h4, h5⟩
    · exact ⟨F1, ρ1, _, _, E1, h4, fun _ e => (by cases e), fun y e => by cases e; exact (q2 _ rfl).gr g1⟩
    · refine ⟨F1, ρ1, _, _, E1, h4, fun as' e F3 vs H3 g3 E3 hA => ?_, fun y e => by cases e⟩
      cases e
      obtain ⟨ds, hds, h6⟩ := mO_some h5
      have hR : Reps X.K G F3 (.obj c cs :: ds) (v :: vs) := .cons (Rep.gr g3 hr) (ags_reps hA hds)
      obtain ⟨a3, dx3, fs3, e31, e32⟩ := there E3.ext (Rep.gr g3 hr)
      have ea : a3 = a := by rw [e1] at e31; cases e31; rfl
      subst ea
      refine ⟨.inr ⟨dx3, fs3, e32⟩, ?_⟩
      unfold callV at h6
      split at h6
      · rename_i r' hden
        cases h6
        refine ⟨F3, (D.obj c cs :: ds).map PV.val, none, _, none, args_vals E3 hR, hden, fun pv e F' v H' g E' hp => ?_, fun x e F' c dd H' g E' hx => ?_⟩
        · exact q1 pv e F' v H' ((g1.trans g3).trans g) (E3.back g E') (hp.back E3 fun {ρ2 l} e ho => (E3.there (by rw [← e]; exact ho)).2)
        · exact q2 x e F' c dd σ H' ((g1.trans g3).trans g) (E3.back g E') hx
      · cases h6
/-- f(e, ..), f an instance of the class cc -/
theorem re_callO {k cc : Nat} {i : CI} {f : Addr} {fd : FuncData} {ps : List Str} {den : Den} {fo : M PV} {fa : M (List Ag)} (hi : G cc = some i) (hC : StX.CallO X.K i.adr f) (F : DOk X.prog X.w X.K G X.mg X.base k f fd ps den) (hr : Room k X.A) (hb : Binds X.K fd ps [])
    (tk : Takes X W) (ho : RE X G Φ W fe fo) (ha : RA X G Φ W (e :: es) fa) (ht : eval (.Call fe (e :: es) [] pos) X.env = (do callWith pos (← eval fe X.env) [] (backTo pos (starEach (e :: es) X.env)) (backToKw pos (keywordEach [] X.env))) := by rfl)
    (hst : starEach (e :: es) X.env = (false, eval e X.env) :: starEach es X.env := by rfl) (hpl : (backTo pos (starEach es X.env)).any (·.1) = false := by rfl) : RE X G Φ W (.Call fe (e :: es) [] pos) (eMeth cc den fo fa) := fun Z hZ =>
  PE.lo (pe_callOS (ho Z hZ) hC F.fn hr hb (fun σ => passAt' tk σ) (ha Z hZ) ht hst hpl) (tE_callO rfl hi)
end
end Pl
/-! # The own functions, run step by step in plain Lean -/
set_option linter.all false
namespace Pl
open PySem PySem.Spec L2
section
variable {ρ ρ1 ρ2 : En} {d x y : D} {b b' k : Bool} {f g h : Inr} {u v : En → Option Bool}
theorem v_bin {o : D → D → Option D} (h1 : f ρ = some x) (h2 : g ρ = some y) (h3 : o x y = some d) : iBin o f g ρ = some d := by unfold iBin; rw [h1, Option.bind_some, h2, Option.bind_some, h3]
theorem v_un {o : D → Option D} (h1 : f ρ = some x) (h3 : o x = some d) : iUn o f ρ = some d := by unfold iUn; rw [h1, Option.bind_some, h3]
theorem v_bl (h : u ρ = some b) : iBl u ρ = some (.bl b) := by unfold iBl; rw [h]; rfl
theorem v_and (h1 : f ρ = some (.bl b)) (h2 : b = true → g ρ = some (.bl b')) : iAnd f g ρ = some (.bl (b && b')) := by
  unfold iAnd; rw [h1]
  cases b with
  | true => exact h2 rfl
  | false => rfl
theorem v_or (h1 : f ρ = some (.bl b)) (h2 : b = false → g ρ = some (.bl b')) : iOr f g ρ = some (.bl (b || b')) := by
  unfold iOr; rw [h1]
  cases b with
  | false => exact h2 rfl
  | true => rfl
theorem v_if (h1 : u ρ = some b) (ht : b = true → f ρ = some x) (hf : b = false → g ρ = some y) : iIf u f g ρ = some (if b = true then x else y) := by
  unfold iIf; rw [h1]
  cases b with
  | true => exact (ht rfl).trans (by rw [if_pos rfl])
  | false => exact (hf rfl).trans (by rw [if_neg Bool.false_ne_true])
theorem u_of (h : f ρ = some (.bl b)) : uOf f ρ = some b := by unfold uOf; rw [h]
theorem u_tru (h : f ρ = some d) (h2 : d.truth = some b) : uTru f ρ = some b := by unfold uTru; rw [h, Option.bind_some, h2]
theorem u_not (h : u ρ = some b) : uNot u ρ = some (!b) := by unfold uNot; rw [h]; rfl
theorem u_and (h1 : u ρ = some b) (h2 : b = true → v ρ = some b') : uAnd u v ρ = some (b && b') := by
  unfold uAnd; rw [h1]
  cases b with
  | true => exact h2 rfl
  | false => rfl
theorem u_or (h1 : u ρ = some b) (h2 : b = false → v ρ = some b') : uOr u v ρ = some (b || b') := by
  unfold uOr; rw [h1]
  cases b with
  | false => exact h2 rfl
  | true => rfl
end
section
variable {ρ ρ1 ρ2 ρ3 : En} {d x y : D} {b b' k : Bool} {fi : Inr} {u : En → Option Bool} {f g : M PV} {t t' : M Bool} {a a' : M (List Ag)} {as as' : List Ag} {ds cs cs' : List D} {pv pv' : PV} {den : Den} {c n : Nat}
theorem e_i (h : fi ρ = some d) : eI fi ρ = some (.ok (.val d), ρ) := by unfold eI; rw [h]; rfl
theorem a_nil : aNil ρ = some (.ok [], ρ) := rfl
theorem a_cons (h1 : f ρ = some (.ok pv, ρ1)) (h2 : pv.tree = some d) (h3 : a ρ1 = some (.ok as, ρ2)) : aCons f a ρ = some (.ok (.d d :: as), ρ2) := by
  unfold aCons; rw [mB_ok h1, h2]
  show mB a _ ρ1 = _
  rw [mB_ok h3]; rfl
theorem e_tup (h : a ρ = some (.ok as, ρ1)) (h2 : Ag.ds as = some ds) (h3 : ds.length ≤ sizeLine) : eTup a ρ = some (.ok (.val (.tup ds)), ρ1) := by
  unfold eTup; rw [mB_ok h, h2]
  show (if ds.length ≤ sizeLine then mR (PV.val (.tup ds)) else fun _ => none) ρ1 = _
  rw [if_pos h3]; rfl
theorem e_lst (h : a ρ = some (.ok as, ρ1)) (h2 : Ag.ds as = some ds) (h3 : ds.length ≤ sizeLine) : eLst a ρ = some (.ok (.own (.lst ds)), ρ1) := by
  unfold eLst; rw [mB_ok h, h2]
  show (if ds.length ≤ sizeLine then mR (PV.own (.lst ds)) else fun _ => none) ρ1 = _
  rw [if_pos h3]; rfl
theorem e_callV {r : Except Ex PV} (h : den (ds.map PV.val) = some (r, none)) : callV den ds ρ = some (r, ρ) := by unfold callV; rw [h]
theorem e_call {r : Except Ex PV} (h : a ρ = some (.ok as, ρ1)) (h2 : Ag.ds as = some ds) (h3 : den (ds.map PV.val) = some (r, none)) : eCall den a ρ = some (r, ρ1) := by
  unfold eCall; rw [mB_ok h, h2]
  exact e_callV h3
theorem e_make {r : Except Ex PV} (h : a ρ = some (.ok as, ρ1)) (h2 : Ag.ds as = some ds) (h3 : makeV c n den ds ρ1 = some (r, ρ1)) : eMake c n den a ρ = some (r, ρ1) := by
  unfold eMake; rw [mB_ok h, h2]
  exact h3
theorem e_makeD {dfl : List D} {r : Except Ex PV} (h : a ρ = some (.ok as, ρ1)) (h2 : Ag.ds as = some ds) (h3 : makeV c n den (ds ++ dfl) ρ1 = some (r, ρ1)) : eMakeD c n den dfl a ρ = some (r, ρ1) := by
  unfold eMakeD; rw [mB_ok h, h2]
  exact h3
theorem m_ok (h : den (.bor (.ins c []) :: ds.map PV.val) = some (.ok (.val .non), some (.ins c cs))) (hl : cs.length = n) : makeV c n den ds ρ = some (.ok (.val (.obj c cs)), ρ) := by
  unfold makeV; rw [h]
  show (if c = c ∧ cs.length = n then _ else none) = _
  rw [if_pos ⟨rfl, hl⟩]
theorem m_er {x : Ex} {o : OD} (h : den (.bor (.ins c []) :: ds.map PV.val) = some (.error x, some o)) : makeV c n den ds ρ = some (.error x, ρ) := by unfold makeV; rw [h]
theorem e_bin {o : D → D → Option D} (h1 : f ρ = some (.ok pv, ρ1)) (t1 : pv.tree = some x) (h2 : g ρ1 = some (.ok pv', ρ2)) (t2 : pv'.tree = some y) (h3 : o x y = some d) : eBin o f g ρ = some (.ok (.val d), ρ2) := by
  unfold eBin; rw [mB_ok h1, t1]
  show mB g _ ρ1 = _
  rw [mB_ok h2, t2]
  show mB (mO (o x y)) _ ρ2 = _
  rw [h3]; rfl
theorem e_un {o : D → Option D} (h1 : f ρ = some (.ok pv, ρ1)) (t1 : pv.tree = some x) (h3 : o x = some d) : eUn o f ρ = some (.ok (.val d), ρ1) := by
  unfold eUn; rw [mB_ok h1, t1]
  show mB (mO (o x)) _ ρ1 = _
  rw [h3]; rfl
theorem e_if {r : Option (Except Ex PV × En)} (h : t ρ = some (.ok b, ρ1)) (ht : b = true → f ρ1 = r) (hf : b = false → g ρ1 = r) : eIf t f g ρ = r := by
  unfold eIf; rw [mB_ok h]
  cases b with
  | true => rw [if_pos rfl]; exact ht rfl
  | false => rw [if_neg Bool.false_ne_true]; exact hf rfl
theorem e_and (h1 : f ρ = some (.ok (.val (.bl b)), ρ1)) (h2 : b = true → g ρ1 = some (.ok (.val (.bl b')), ρ1)) : eAnd f g ρ = some (.ok (.val (.bl (b && b'))), ρ1) := by
  unfold eAnd; rw [mB_ok h1]
  cases b with
  | true => exact h2 rfl
  | false => rfl
theorem e_or (h1 : f ρ = some (.ok (.val (.bl b)), ρ1)) (h2 : b = false → g ρ1 = some (.ok (.val (.bl b')), ρ1)) : eOr f g ρ = some (.ok (.val (.bl (b || b'))), ρ1) := by
  unfold eOr; rw [mB_ok h1]
  cases b with
  | false => exact h2 rfl
  | true => rfl
theorem e_bl (h : t ρ = some (.ok b, ρ1)) : eBl t ρ = some (.ok (.val (.bl b)), ρ1) := by unfold eBl; rw [mB_ok h]; rfl
theorem e_isT {is : D → Option Bool} (h : fi ρ = some d) (h2 : is d = some b) : eIsT is fi ρ = some (.ok (.val (.bl b)), ρ) := by unfold eIsT; rw [h, Option.bind_some, h2]; rfl
theorem e_eqO {neg : Bool} (h1 : f ρ = some (.ok (.val (.obj c cs)), ρ1)) (h2 : g ρ1 = some (.ok pv', ρ2)) (t2 : pv'.tree = some y) (h4 : den [.val (.obj c cs), .val y] = some (.ok (.val (.bl k)), none)) : eEqO neg c den f g ρ = some (.ok (.val (.bl (xor neg k))), ρ2) := by
  unfold eEqO; rw [mB_ok h1]
  have : recv c (.val (.obj c cs)) = some cs := by show (if c = c then some _ else none) = _; rw [if_pos rfl]
  rw [this]
  show mB g _ ρ1 = _
  rw [mB_ok h2, t2]
  show (match den [.val (.obj c cs), .val y] with | some (.ok (.val (.bl k)), none) => _ | _ => none) = _
  rw [h4]
theorem e_own2 {r : Except Ex PV} (h1 : f ρ = some (.ok (.val (.obj c cs)), ρ1)) (h2 : g ρ1 = some (.ok (.val (.obj c cs')), ρ2)) (h4 : den [.val (.obj c cs), .val (.obj c cs')] = some (r, none)) : eOwn2 c den f g ρ = some (r, ρ2) := by
  unfold eOwn2; rw [mB_ok h1]
  have : ∀ z, recv c (.val (.obj c z)) = some z := fun z => by show (if c = c then some _ else none) = _; rw [if_pos rfl]
  rw [this]
  show mB g _ ρ1 = _
  rw [mB_ok h2, this]
  exact e_callV (ds := [.obj c cs, .obj c cs']) h4
theorem e_own1 {r : Except Ex PV} (h1 : f ρ = some (.ok (.val (.obj c cs)), ρ1)) (h4 : den [.val (.obj c cs)] = some (r, none)) : eOwn1 c den f ρ = some (r, ρ1) := by
  unfold eOwn1; rw [mB_ok h1]
  have : ∀ z, recv c (.val (.obj c z)) = some z := fun z => by show (if c = c then some _ else none) = _; rw [if_pos rfl]
  rw [this]
  exact e_callV (ds := [.obj c cs]) h4
theorem e_meth {r : Except Ex PV} (h1 : f ρ = some (.ok (.val (.obj c cs)), ρ1)) (h2 : a ρ1 = some (.ok as, ρ2)) (h3 : Ag.ds as = some ds) (h4 : den ((D.obj c cs :: ds).map PV.val) = some (r, none)) : eMeth c den f a ρ = some (r, ρ2) := by
  unfold eMeth; rw [mB_ok h1]
  have : ∀ z, recv c (.val (.obj c z)) = some z := fun z => by show (if c = c then some _ else none) = _; rw [if_pos rfl]
  rw [this]
  show mB a _ ρ1 = _
  rw [mB_ok h2, h3]
  exact e_callV h4
theorem b_u (h : u ρ = some b) : bU u ρ = some (.ok b, ρ) := by unfold bU; rw [h]; rfl
theorem b_val (h : f ρ = some (.ok (.val (.bl b)), ρ1)) : bVal f ρ = some (.ok b, ρ1) := by unfold bVal; rw [mB_ok h]; rfl
theorem b_tru (h : f ρ = some (.ok pv, ρ1)) (h2 : pv.tree = some d) (h3 : d.truth = some b) : bTru f ρ = some (.ok b, ρ1) := by
  unfold bTru; rw [mB_ok h, h2]
  show (mO d.truth) ρ1 = _
  rw [h3]; rfl
theorem b_not (h : t ρ = some (.ok b, ρ1)) : bNot t ρ = some (.ok (!b), ρ1) := by unfold bNot; rw [mB_ok h]; rfl
theorem b_and (h1 : t ρ = some (.ok b, ρ1)) (h2 : b = true → t' ρ1 = some (.ok b', ρ1)) : bAnd t t' ρ = some (.ok (b && b'), ρ1) := by
  unfold bAnd; rw [mB_ok h1]
  cases b with
  | true => rw [if_pos rfl]; exact h2 rfl
  | false => rfl
theorem b_or (h1 : t ρ = some (.ok b, ρ1)) (h2 : b = false → t' ρ1 = some (.ok b', ρ1)) : bOr t t' ρ = some (.ok (b || b'), ρ1) := by
  unfold bOr; rw [mB_ok h1]
  cases b with
  | false => rw [if_neg Bool.false_ne_true]; exact h2 rfl
  | true => rfl
end
section
variable {ρ ρ1 ρ2 : En} {d : D} {b : Bool} {e : M PV} {t : M Bool} {f g h : M Fl} {pv : PV} {i : Nat} {r : Option (Except Ex Fl × En)}
theorem s_next (h2 : g ρ = r) : sSeq (mR .next) g ρ = r := h2
theorem s_seq (h1 : f ρ = some (.ok .next, ρ1)) (h2 : g ρ1 = r) : sSeq f g ρ = r := by unfold sSeq; rw [mB_ok h1]; exact h2
theorem s_seq_ret (h1 : f ρ = some (.ok (.ret pv), ρ1)) : sSeq f g ρ = some (.ok (.ret pv), ρ1) := by unfold sSeq; rw [mB_ok h1]; rfl
theorem s_seq_err {x : Ex} (h1 : f ρ = some (.error x, ρ1)) : sSeq f g ρ = some (.error x, ρ1) := by unfold sSeq; rw [mB_er h1]
theorem s_seq2 (hh : sSeq f (sSeq g h) ρ = r) : sSeq (sSeq f g) h ρ = r := by
  rw [← hh]
  unfold sSeq mB
  cases f ρ with
  | none => rfl
  | some q =>
    obtain ⟨q1, q2⟩ := q
    cases q1 with
    | error x => rfl
    | ok fl => cases fl <;> rfl
theorem seq_assoc : sSeq (sSeq f g) h = sSeq f (sSeq g h) := funext fun ρ => s_seq2 rfl
theorem s_if (h1 : t ρ = some (.ok b, ρ1)) (ht : b = true → f ρ1 = r) (hf : b = false → g ρ1 = r) : sIf t f g ρ = r := by
  unfold sIf; rw [mB_ok h1]
  cases b with
  | true => rw [if_pos rfl]; exact ht rfl
  | false => rw [if_neg Bool.false_ne_true]; exact hf rfl
theorem s_ifq (h1 : t ρ = some (.ok b, ρ1)) (ht : b = true → sSeq f h ρ1 = r) (hf : b = false → sSeq g h ρ1 = r) : sSeq (sIf t f g) h ρ = r := by
  unfold sSeq sIf; unfold mB; rw [h1]
  cases b with
  | true => exact ht rfl
  | false => exact hf rfl
theorem s_ret (h : e ρ = some (.ok pv, ρ1)) : sRet e ρ = some (.ok (.ret pv), ρ1) := by unfold sRet; rw [mB_ok h]; rfl
theorem s_retq (h1 : e ρ = some (.ok pv, ρ1)) : sSeq (sRet e) h ρ = some (.ok (.ret pv), ρ1) := s_seq_ret (s_ret h1)
theorem s_set (h : e ρ = some (.ok pv, ρ1)) : sAsg i e ρ = some (.ok .next, ρ1.set i (some pv)) := by unfold sAsg; rw [mB_ok h]
theorem s_setV (h : e ρ = some (.ok pv, ρ1)) (h2 : pv.tree = some d) : sAsgV i e ρ = some (.ok .next, ρ1.set i (some (.val d))) := by
  unfold sAsgV; rw [mB_ok h, h2]; rfl
theorem s_exp (h : e ρ = some (.ok pv, ρ1)) : sExp e ρ = some (.ok .next, ρ1) := by unfold sExp; rw [mB_ok h]; rfl
theorem s_exp_err {x : Ex} (h : e ρ = some (.error x, ρ1)) : sExp e ρ = some (.error x, ρ1) := by unfold sExp; rw [mB_er h]
theorem s_fld {c j : Nat} {cs : List D} (h : e ρ = some (.ok pv, ρ1)) (h2 : pv.tree = some d) (h3 : ρ1.at i = some (.bor (.ins c cs))) (h4 : cs.length = j) : sFld i c j e ρ = some (.ok .next, ρ1.set i (some (.bor (.ins c (cs ++ [d]))))) := by
  unfold sFld; rw [mB_ok h, h2]
  show (match ρ1.at i with | some (.bor (.ins c' cs)) => _ | _ => none) = _
  rw [h3]
  show (if c = c ∧ cs.length = j then _ else none) = _
  rw [if_pos ⟨rfl, h4⟩]
theorem s_app {ds : List D} (h0 : ρ.at i = some (.own (.lst ds))) (h : e ρ = some (.ok pv, ρ)) (h2 : pv.tree = some d) (h3 : ds.length < sizeLine) : sApp i e ρ = some (.ok .next, ρ.set i (some (.own (.lst (ds ++ [d]))))) := by
  have q : lstAt ρ i = true := by unfold lstAt; rw [h0]
  unfold sApp
  rw [if_pos q, mB_ok h, h2]
  show mB (chg i _) _ ρ = _
  have : chg i (fun ds => if ds.length < sizeLine then some (ds ++ [d]) else none) ρ = some (.ok (), ρ.set i (some (.own (.lst (ds ++ [d]))))) := by
    unfold chg; rw [h0]
    show (if ds.length < sizeLine then some (ds ++ [d]) else none).map _ = _
    rw [if_pos h3]; rfl
  rw [mB_ok this]; rfl
theorem den_ret {n N : Nat} {as : List PV} {ρ' : En} (h0 : lentB as = true) (h1 : as.length = n) (h2 : f (as.map some ++ List.replicate (N - n) none) = some (.ok (.ret pv), ρ')) (h3 : leftOf as ρ' = some none) : denB n N f as = some (.ok pv, none) := by
  unfold denB; rw [if_pos h0]; unfold denOf; rw [if_pos h1, h2]; dsimp only; rw [h3]; rfl
theorem den_end {n N : Nat} {as : List PV} {ρ' : En} {o : Option OD} (h0 : lentB as = true) (h1 : as.length = n) (h2 : f (as.map some ++ List.replicate (N - n) none) = some (.ok .next, ρ')) (h3 : leftOf as ρ' = some o) : denB n N f as = some (.ok (.val .non), o) := by
  unfold denB; rw [if_pos h0]; unfold denOf; rw [if_pos h1, h2]; dsimp only; rw [h3]; rfl
theorem den_err {n N : Nat} {as : List PV} {ρ' : En} {x : Ex} {o : Option OD} (h0 : lentB as = true) (h1 : as.length = n) (h2 : f (as.map some ++ List.replicate (N - n) none) = some (.error x, ρ')) (h3 : leftOf as ρ' = some o) : denB n N f as = some (.error x, o) := by
  unfold denB; rw [if_pos h0]; unfold denOf; rw [if_pos h1, h2]; dsimp only; rw [h3]; rfl
end
theorem den_retE {f : M Fl} {n N : Nat} {as : List PV} {ρ' : En} {pv pv' : PV} (h0 : lentB as = true) (h1 : as.length = n) (h2 : f (as.map some ++ List.replicate (N - n) none) = some (.ok (.ret pv'), ρ')) (h3 : leftOf as ρ' = some none) (hp : pv' = pv) : denB n N f as = some (.ok pv, none) := hp ▸ den_ret h0 h1 h2 h3
theorem s_seqE {ρ ρ1 ρ1' : En} {f g : M Fl} {r : Option (Except Ex Fl × En)} (h1 : f ρ = some (.ok .next, ρ1)) (e : ρ1 = ρ1') (h2 : g ρ1' = r) : sSeq f g ρ = r := s_seq h1 (e ▸ h2)
theorem s_retE {ρ ρ1 : En} {e : M PV} {pv pv' : PV} (h : e ρ = some (.ok pv, ρ1)) (hp : pv = pv') : sRet e ρ = some (.ok (.ret pv'), ρ1) := hp ▸ s_ret h
theorem s_retqE {ρ ρ1 : En} {e : M PV} {g : M Fl} {pv pv' : PV} (h : e ρ = some (.ok pv, ρ1)) (hp : pv = pv') : sSeq (sRet e) g ρ = some (.ok (.ret pv'), ρ1) := hp ▸ s_retq h
/-! ### operators -/
theorem o_add {i j : Int} : dAdd (.int i) (.int j) = some (.int (i + j)) := rfl
theorem o_sub {i j : Int} : dSub (.int i) (.int j) = some (.int (i - j)) := rfl
theorem o_mul {i j : Int} (h : i.natAbs.log2 + j.natAbs.log2 < 100000000) : dMul (.int i) (.int j) = some (.int (i * j)) := by
  show (if okMul i j = true then _ else none) = _
  rw [if_pos (show okMul i j = true from decide_eq_true h)]
theorem o_mod {i j : Int} (h : 0 < j) : dMod (.int i) (.int j) = some (.int (i % j)) := by
  show (if decide (0 < j) = true then _ else none) = _
  rw [if_pos (decide_eq_true h)]
theorem o_divP {i j : Int} (h : j ≠ 0) : dDivP (.int i) (.int j) = some (.int (i.fdiv j)) := by
  show (if decide (j ≠ 0) = true then _ else none) = _
  rw [if_pos (decide_eq_true h)]
theorem o_div {i j : Int} (h : 0 < j) (h2 : j.natAbs.log2 < 9000) : dDiv (.int i) (.int j) = some (.int (i / j)) := by
  show (if (decide (0 < j) && decide (j.natAbs.log2 < 9000)) = true then _ else none) = _
  rw [if_pos (by rw [decide_eq_true h, decide_eq_true h2]; rfl)]
theorem o_cmp {g : Int → Int → Bool} {i j : Int} : dCmp2 g (.int i) (.int j) = some (.bl (g i j)) := rfl
theorem o_eqI {n : Bool} {i j : Int} : dEqF n (.int i) (.int j) = some (.bl (xor n (decide (i = j)))) := by
  show some (D.bl (xor n (decide (V.int i = V.int j)))) = _
  congr 3
  exact decide_eq_decide.mpr ⟨fun h => V.int.inj h, fun h => by rw [h]⟩
theorem o_eqS {n : Bool} {i j : Str} : dEqF n (.str i) (.str j) = some (.bl (xor n (decide (i = j)))) := by
  show some (D.bl (xor n (decide (V.str i = V.str j)))) = _
  congr 3
  exact decide_eq_decide.mpr ⟨fun h => V.str.inj h, fun h => by rw [h]⟩
theorem o_eqB {n : Bool} {i j : Bool} : dEqF n (.bl i) (.bl j) = some (.bl (xor n (decide (i = j)))) := by
  show some (D.bl (xor n (decide (V.bl i = V.bl j)))) = _
  congr 3
  exact decide_eq_decide.mpr ⟨fun h => V.bl.inj h, fun h => by rw [h]⟩
theorem o_gcd {i j : Int} : dGcd (.int i) (.int j) = some (.int (Nat.gcd i.natAbs j.natAbs : Nat)) := rfl
theorem o_neg {i : Int} : dNeg (.int i) = some (.int (-i)) := rfl
theorem o_abs {i : Int} : dAbs (.int i) = some (.int (i.natAbs : Int)) := by
  show some (D.int (if i < 0 then -i else i)) = _
  congr 2
  split <;> omega
theorem o_pow {i j : Int} (h1 : 0 ≤ j) (h2 : j ≤ 1000000) (h3 : i.natAbs < 2 ^ 64) : dPow (.int i) (.int j) = some (.int (i ^ j.toNat)) := by
  show (if (decide (0 ≤ j) && decide (j ≤ 1000000) && decide (i.natAbs < 2 ^ 64)) = true then _ else none) = _
  rw [if_pos (by rw [decide_eq_true h1, decide_eq_true h2, decide_eq_true h3]; rfl)]
theorem s_setVE {ρ ρ1 ρ2 : En} {e : M PV} {pv : PV} {d : D} {i : Nat} (h : e ρ = some (.ok pv, ρ1)) (h2 : pv.tree = some d) (q : ρ1.set i (some (.val d)) = ρ2) : sAsgV i e ρ = some (.ok .next, ρ2) := q ▸ s_setV h h2
theorem s_appE {ρ ρ2 : En} {e : M PV} {pv : PV} {d : D} {i : Nat} {ds : List D} (h0 : ρ.at i = some (.own (.lst ds))) (h : e ρ = some (.ok pv, ρ)) (h2 : pv.tree = some d) (h3 : ds.length < sizeLine) (q : ρ.set i (some (.own (.lst (ds ++ [d])))) = ρ2) : sApp i e ρ = some (.ok .next, ρ2) := q ▸ s_app h0 h h2 h3
/-! ### loops -/
section
variable {ρ ρ1 ρ2 : En} {t : M Bool} {body : M Fl} {n : Nat} {g : Tg} {d : D} {ds : List D}
theorem wl_end (h : t ρ = some (.ok false, ρ1)) : wl t body (n + 1) ρ = some (.ok .next, ρ1) := by
  show mB t _ ρ = _
  rw [mB_ok h]; rfl
theorem wl_go (h : t ρ = some (.ok true, ρ1)) (h2 : body ρ1 = some (.ok .next, ρ2)) : wl t body (n + 1) ρ = wl t body n ρ2 := by
  show mB t _ ρ = _
  rw [mB_ok h, if_pos rfl, mB_ok h2]
theorem loop_nil : loop g body [] ρ = some (.ok .next, ρ) := rfl
theorem loop_go (h : g d ρ = some ρ1) (h2 : body ρ1 = some (.ok .next, ρ2)) : loop g body (d :: ds) ρ = loop g body ds ρ2 := by
  show (match g d ρ with | none => none | some ρ1 => _) = _
  rw [h]
  show mB body _ ρ1 = _
  rw [mB_ok h2]
theorem loop_ret {pv : PV} (h : g d ρ = some ρ1) (h2 : body ρ1 = some (.ok (.ret pv), ρ2)) : loop g body (d :: ds) ρ = some (.ok (.ret pv), ρ2) := by
  show (match g d ρ with | none => none | some ρ1 => _) = _
  rw [h]
  show mB body _ ρ1 = _
  rw [mB_ok h2]; rfl
/-- a loop by its invariant: i items are done -/
theorem loop_inv (P : Nat → En → Prop) : ∀ (ds : List D) (i : Nat) (ρ : En), P i ρ → (∀ (j : Nat) (d : D) (ρ : En), ds[j]? = some d → P (i + j) ρ → ∃ ρ1 ρ2, g d ρ = some ρ1 ∧ body ρ1 = some (.ok .next, ρ2) ∧ P (i + j + 1) ρ2) →
    ∃ ρ', loop g body ds ρ = some (.ok .next, ρ') ∧ P (i + ds.length) ρ'
  | [], i, ρ, h, _ => ⟨ρ, rfl, h⟩
  | d :: ds, i, ρ, h, k => by
    obtain ⟨ρ1, ρ2, h1, h2, h3⟩ := k 0 d ρ rfl h
    obtain ⟨ρ', q1, q2⟩ := loop_inv P ds (i + 1) ρ2 h3 fun j d' ρ e hp => by
      obtain ⟨r1, r2, a, b, c⟩ := k (j + 1) d' ρ e (by rw [show i + (j + 1) = i + 1 + j by omega]; exact hp)
      exact ⟨r1, r2, a, b, by rw [show i + 1 + j + 1 = i + (j + 1) + 1 by omega]; exact c⟩
    refine ⟨ρ', (loop_go h1 h2).trans q1, ?_⟩
    rw [show i + (d :: ds).length = i + 1 + ds.length by rw [List.length_cons]; omega]
    exact q2
theorem s_for {fi : M (List D)} {r : Option (Except Ex Fl × En)} (h : fi ρ = some (.ok ds, ρ1)) (h2 : loop g body ds ρ1 = r) : sFor fi g body ρ = r := by
  unfold sFor; rw [mB_ok h]; exact h2
theorem i_rng {f : Inr} {n : Nat} (h : f ρ = some (.int (n : Int))) (hn : (n : Int) < 2 ^ 62) : itRng1 f ρ = some (.ok ((List.range n).map fun k => .int (k : Nat)), ρ) := by
  unfold itRng1; rw [h]
  show (if (n : Int) < 2 ^ 62 ∧ -(2 ^ 62) ≤ (n : Int) then _ else none) = _
  rw [if_pos ⟨hn, by omega⟩]
  rfl
theorem s_tryas_hit {i : Nat} {hit : Nat → Option Bool} {fs : Addr → Ex → M Fl} {x : Ex} {fl : Fl} (hb : body ρ = some (.error x, ρ1)) (hh : hit x.c = some true) (hs : ∀ a, ∃ ρ3, fs a x (ρ1.set i (some (.adr a))) = some (.ok fl, ρ3) ∧ ρ3.set i none = ρ2) : sTryAs i hit body fs ρ = some (.ok fl, ρ2) :=
  sTryAs_ok (r := (fl, ρ2)) hb hh hs
end
/-- a number of less than k bits -/
def Sm (k : Nat) (i : Int) : Prop := i.natAbs < 2 ^ k
theorem Sm.log {k : Nat} {i : Int} (h : Sm k i) : i.natAbs.log2 ≤ k := by
  by_cases e : i.natAbs = 0
  · rw [e]; exact Nat.zero_le _
  · exact Nat.le_of_lt ((Nat.log2_lt e).mpr h)
theorem Sm.mul {j k : Nat} {a b : Int} (h : Sm j a) (h' : Sm k b) : Sm (j + k) (a * b) := by
  unfold Sm at *
  rw [Int.natAbs_mul, Nat.pow_add]
  exact Nat.mul_lt_mul'' h h'
theorem Sm.mono {j k : Nat} {a : Int} (h : Sm j a) (hk : j ≤ k) : Sm k a := Nat.lt_of_lt_of_le h (Nat.pow_le_pow_right (by decide) hk)
theorem Sm.add {k : Nat} {a b : Int} (h : Sm k a) (h' : Sm k b) : Sm (k + 1) (a + b) := by
  unfold Sm at *
  have := Int.natAbs_add_le a b
  rw [Nat.pow_succ]; omega
theorem Sm.neg {k : Nat} {a : Int} (h : Sm k a) : Sm k (-a) := by unfold Sm at *; rw [Int.natAbs_neg]; exact h
theorem Sm.sub {k : Nat} {a b : Int} (h : Sm k a) (h' : Sm k b) : Sm (k + 1) (a - b) := by rw [Int.sub_eq_add_neg]; exact h.add h'.neg
theorem Sm.okm {j k : Nat} {a b : Int} (h : Sm j a) (h' : Sm k b) (hk : j + k < 100000000) : a.natAbs.log2 + b.natAbs.log2 < 100000000 := by have := h.log; have := h'.log; omega
theorem okm_small {a b : Int} (h : a.natAbs < 4294967296) (h' : b.natAbs < 4294967296) : a.natAbs.log2 + b.natAbs.log2 < 100000000 :=
  Sm.okm (j := 32) (k := 32) (by unfold Sm; exact h) (by unfold Sm; exact h') (by decide)
theorem eqd_T2 {n : Bool} {a b c d : Int} : dEqD n (.tup [.int a, .int b]) (.tup [.int c, .int d]) = some (.bl (xor n (decide (a = c) && decide (b = d)))) := by
  have h : ∀ p q : Int, SeqAt.shaped (.tuple [.int p, .int q]) = true := fun p q => by simp [SeqAt.shaped, PyData.canLay0, PyData.canLayAll0, PyData.depth, PyData.depthAll]
  simp only [dEqD, D.data, datas, Option.map_some, h, Bool.and_self, if_true, PyData.eqv, PyData.eqvAll, Bool.and_true]
  rfl
/-! ### what a body returns, whatever it leaves in its frame -/
def Rt (f : M Fl) (ρ : En) (pv : PV) : Prop := ∃ ρ', f ρ = some (.ok (.ret pv), ρ')
section
variable {ρ ρ1 ρ1' : En} {b : Bool} {e : M PV} {t : M Bool} {f g h : M Fl} {pv pv' : PV} {d : D} {i : Nat}
theorem Rt.next (h : Rt g ρ pv) : Rt (sSeq (mR .next) g) ρ pv := h
theorem Rt.seq (h1 : f ρ = some (.ok .next, ρ1)) (h2 : Rt g ρ1 pv) : Rt (sSeq f g) ρ pv := by obtain ⟨r, h2⟩ := h2; exact ⟨r, s_seq h1 h2⟩
theorem Rt.seqE (h1 : f ρ = some (.ok .next, ρ1)) (q : ρ1 = ρ1') (h2 : Rt g ρ1' pv) : Rt (sSeq f g) ρ pv := .seq h1 (q ▸ h2)
theorem Rt.seq2 (hh : Rt (sSeq f (sSeq g h)) ρ pv) : Rt (sSeq (sSeq f g) h) ρ pv := by obtain ⟨r, hh⟩ := hh; exact ⟨r, s_seq2 hh⟩
theorem Rt.ifq (h1 : t ρ = some (.ok b, ρ1)) (ht : b = true → Rt (sSeq f h) ρ1 pv) (hf : b = false → Rt (sSeq g h) ρ1 pv) : Rt (sSeq (sIf t f g) h) ρ pv := by
  cases b with
  | true => obtain ⟨r, q⟩ := ht rfl; exact ⟨r, s_ifq h1 (fun _ => q) fun z => by cases z⟩
  | false => obtain ⟨r, q⟩ := hf rfl; exact ⟨r, s_ifq h1 (fun z => by cases z) fun _ => q⟩
theorem Rt.if_ (h1 : t ρ = some (.ok b, ρ1)) (ht : b = true → Rt f ρ1 pv) (hf : b = false → Rt g ρ1 pv) : Rt (sIf t f g) ρ pv := by
  cases b with
  | true => obtain ⟨r, q⟩ := ht rfl; exact ⟨r, s_if h1 (fun _ => q) fun z => by cases z⟩
  | false => obtain ⟨r, q⟩ := hf rfl; exact ⟨r, s_if h1 (fun z => by cases z) fun _ => q⟩
theorem Rt.ret (h : e ρ = some (.ok pv', ρ1)) (q : pv' = pv) : Rt (sRet e) ρ pv := ⟨ρ1, q ▸ s_ret h⟩
theorem Rt.retq (h1 : e ρ = some (.ok pv', ρ1)) (q : pv' = pv) : Rt (sSeq (sRet e) h) ρ pv := ⟨ρ1, q ▸ s_retq h1⟩
theorem den_rt {n N : Nat} {as : List PV} (h0 : lentB as = true) (h1 : as.length = n) (h3 : ∀ ρ', leftOf as ρ' = some none) (h2 : Rt f (as.map some ++ List.replicate (N - n) none) pv) : denB n N f as = some (.ok pv, none) := by
  obtain ⟨r, h2⟩ := h2; exact den_ret h0 h1 h2 (h3 r)
end
section
variable {ρ ρ1 ρ2 : En} {d x y z : D} {b b' k : Bool} {fa fb fc : Inr} {f g h : M Fl} {e e' : M PV} {pv : PV} {cs : List D} {c : Nat} {den : Den} {ε : Ex} {a : M (List Ag)}
theorem v_chain {o o' : D → D → Option D} (h1 : fa ρ = some x) (h2 : fb ρ = some y) (h3 : o x y = some (.bl b)) (h4 : b = true → fc ρ = some z ∧ o' y z = some (.bl b')) : iChain o o' fa fb fc ρ = some (.bl (b && b')) := by
  unfold iChain
  rw [h1, h2, Option.bind_some, Option.bind_some, h3]
  cases b with
  | true =>
    obtain ⟨q1, q2⟩ := h4 rfl
    show (fc ρ).bind _ = _
    rw [q1, Option.bind_some, q2]; rfl
  | false => rfl
theorem recv_obj : recv c (.val (.obj c cs)) = some cs := by show (if c = c then some cs else none) = _; rw [if_pos rfl]
theorem e_prop (h1 : e ρ = some (.ok (.val (.obj c cs)), ρ1)) (h2 : den [.val (.obj c cs)] = some (.ok pv, none)) : eProp c den e ρ = some (.ok pv, ρ1) := by
  unfold eProp; rw [mB_ok h1, recv_obj]
  show (match den [.val (.obj c cs)] with | some (.ok pv, none) => some (Except.ok pv, ρ1) | _ => none) = _
  rw [h2]
theorem e_meth_er (h : e ρ = some (.error ε, ρ1)) : eMeth c den e a ρ = some (.error ε, ρ1) := by unfold eMeth; rw [mB_er h]
theorem a_cons_er (h : e ρ = some (.error ε, ρ1)) : aCons e a ρ = some (.error ε, ρ1) := by unfold aCons; rw [mB_er h]
theorem a_cons_er2 (h : e ρ = some (.ok pv, ρ1)) (h2 : pv.tree = some d) (h3 : a ρ1 = some (.error ε, ρ2)) : aCons e a ρ = some (.error ε, ρ2) := by
  unfold aCons; rw [mB_ok h, h2]
  show mB a _ ρ1 = _
  rw [mB_er h3]
theorem e_call_er (h : a ρ = some (.error ε, ρ1)) : eCall den a ρ = some (.error ε, ρ1) := by unfold eCall; rw [mB_er h]
theorem s_ret_er (h : e ρ = some (.error ε, ρ1)) : sRet e ρ = some (.error ε, ρ1) := by unfold sRet; rw [mB_er h]
theorem s_setV_er {i : Nat} (h : e ρ = some (.error ε, ρ1)) : sAsgV i e ρ = some (.error ε, ρ1) := by unfold sAsgV; rw [mB_er h]
theorem s_set_er {i : Nat} (h : e ρ = some (.error ε, ρ1)) : sAsg i e ρ = some (.error ε, ρ1) := by unfold sAsg; rw [mB_er h]
/-- a body that ends with an error -/
def Er (f : M Fl) (ρ : En) (x : Ex) : Prop := ∃ ρ', f ρ = some (.error x, ρ')
theorem Er.seq (h1 : f ρ = some (.ok .next, ρ1)) (h2 : Er g ρ1 ε) : Er (sSeq f g) ρ ε := by obtain ⟨r, h2⟩ := h2; exact ⟨r, s_seq h1 h2⟩
theorem Er.now (h : Er f ρ ε) : Er (sSeq f g) ρ ε := by obtain ⟨r, h⟩ := h; exact ⟨r, s_seq_err h⟩
theorem Er.next (h : Er g ρ ε) : Er (sSeq (mR .next) g) ρ ε := h
theorem Er.seq2 (hh : Er (sSeq f (sSeq g h)) ρ ε) : Er (sSeq (sSeq f g) h) ρ ε := by obtain ⟨r, hh⟩ := hh; exact ⟨r, s_seq2 hh⟩
theorem Er.ifq {t : M Bool} (h1 : t ρ = some (.ok b, ρ1)) (ht : b = true → Er (sSeq f h) ρ1 ε) (hf : b = false → Er (sSeq g h) ρ1 ε) : Er (sSeq (sIf t f g) h) ρ ε := by
  cases b with
  | true => obtain ⟨r, q⟩ := ht rfl; exact ⟨r, s_ifq h1 (fun _ => q) fun z => by cases z⟩
  | false => obtain ⟨r, q⟩ := hf rfl; exact ⟨r, s_ifq h1 (fun z => by cases z) fun _ => q⟩
theorem Er.ret (h : e ρ = some (.error ε, ρ1)) : Er (sRet e) ρ ε := ⟨ρ1, s_ret_er h⟩
theorem den_er {n N : Nat} {as : List PV} (h0 : lentB as = true) (h1 : as.length = n) (h3 : ∀ ρ', leftOf as ρ' = some none) (h2 : Er f (as.map some ++ List.replicate (N - n) none) ε) : denB n N f as = some (.error ε, none) := by
  obtain ⟨r, h2⟩ := h2; exact den_err h0 h1 h2 (h3 r)
theorem s_try_hit {hit : Nat → Option Bool} {fl : Fl} (hb : f ρ = some (.error ε, ρ1)) (hh : hit ε.c = some true) (hs : g ρ1 = some (.ok fl, ρ2)) : sTry hit f g ρ = some (.ok fl, ρ2) := by
  unfold sTry
  rw [hb]
  show (match hit ε.c with | some true => _ | some false => _ | none => _) = _
  rw [hh]
  show (match g ρ1 with | some (.ok fl, ρ2) => _ | _ => _) = _
  rw [hs]
theorem s_try_ok {hit : Nat → Option Bool} {fl : Fl} (hb : f ρ = some (.ok fl, ρ1)) : sTry hit f g ρ = some (.ok fl, ρ1) := by unfold sTry; rw [hb]
theorem ix_ok {ds : List D} {j : Nat} (h : ds[j]? = some d) : dIx (.lst ds) (.int (j : Int)) = some d := by
  obtain ⟨hj, e⟩ := List.getElem?_eq_some_iff.mp h
  show atI ds (j : Int) = _
  unfold atI ixN
  simp [hj, e]
theorem ix_okT {ds : List D} {j : Nat} (h : ds[j]? = some d) : dIx (.tup ds) (.int (j : Int)) = some d := by
  obtain ⟨hj, e⟩ := List.getElem?_eq_some_iff.mp h
  show atI ds (j : Int) = _
  unfold atI ixN
  simp [hj, e]
end
section
variable {ρ ρ1 ρ2 ρ3 : En} {d x y z : D} {b b' k : Bool} {fa fb fc : Inr} {e e' : M PV} {pv pv' : PV} {cs ds ds' : List D} {c : Nat} {den : Den} {ε : Ex} {a : M (List Ag)} {as : List Ag}
theorem e_f {g : D → Option PV} (h : e ρ = some (.ok pv, ρ1)) (h2 : pv.tree = some x) (h3 : g x = some pv') : eF g e ρ = some (.ok pv', ρ1) := by
  unfold eF; rw [mB_ok h, h2]
  show (mO (g x)) ρ1 = _
  rw [h3]; rfl
theorem e_f2 {g : D → D → Option PV} {q : PV} (h1 : e ρ = some (.ok pv, ρ1)) (t1 : pv.tree = some x) (h2 : e' ρ1 = some (.ok pv', ρ2)) (t2 : pv'.tree = some y) (h3 : g x y = some q) : eF2 g e e' ρ = some (.ok q, ρ2) := by
  unfold eF2; rw [mB_ok h1, t1]
  show mB e' _ ρ1 = _
  rw [mB_ok h2, t2]
  show (mO (g x y)) ρ2 = _
  rw [h3]; rfl
theorem p_f {g : D → Option PV} (h : fa ρ = some x) (h3 : g x = some pv) : pF g fa ρ = some (.ok pv, ρ) := by unfold pF; rw [h, Option.bind_some, h3]; rfl
theorem p_f2 {g : D → D → Option PV} (h : fa ρ = some x) (h2 : fb ρ = some y) (h3 : g x y = some pv) : pF2 g fa fb ρ = some (.ok pv, ρ) := by unfold pF2; rw [h, h2, Option.bind_some, Option.bind_some, h3]; rfl
theorem e_lenO {n : Int} (h1 : e ρ = some (.ok (.val (.obj c cs)), ρ1)) (h2 : den [.val (.obj c cs)] = some (.ok (.val (.int n)), none)) (h3 : 0 ≤ n) (h4 : n < 2 ^ 63) : eLenO c den e ρ = some (.ok (.val (.int n)), ρ1) := by
  unfold eLenO; rw [mB_ok h1, recv_obj]
  show (match den [.val (.obj c cs)] with | some (.ok (.val (.int n)), none) => (if 0 ≤ n ∧ n < 2 ^ 63 then some (Except.ok (PV.val (D.int n)), ρ1) else none : Option (Except Ex PV × En)) | _ => none) = _
  rw [h2]
  exact if_pos ⟨h3, h4⟩
theorem tup_ofL : dTupOf (.lst ds) = some (.val (.tup ds)) := rfl
theorem tup_ofT : dTupOf (.tup ds) = some (.val (.tup ds)) := rfl
theorem i_lst (h : e ρ = some (.ok pv, ρ1)) (h2 : pv.tree = some (.lst ds)) : itLst e ρ = some (.ok ds, ρ1) := by
  unfold itLst; rw [mB_ok h, h2]; rfl
theorem i_tup (h : e ρ = some (.ok pv, ρ1)) (h2 : pv.tree = some (.tup ds)) : itTup e ρ = some (.ok ds, ρ1) := by
  unfold itTup; rw [mB_ok h, h2]; rfl
theorem i_zipM {b1 b2 : Bool} (h : e ρ = some (.ok pv, ρ1)) (h2 : pv.tree = some (if b1 = true then .lst ds else .tup ds)) (h' : e' ρ1 = some (.ok pv', ρ2)) (h2' : pv'.tree = some (if b2 = true then .lst ds' else .tup ds')) : itZipM e e' ρ = some (.ok (dZip ds ds'), ρ2) := by
  unfold itZipM; rw [mB_ok h, h2]
  show mB e' _ ρ1 = _
  rw [mB_ok h', h2']
  cases b1 <;> cases b2 <;> rfl
theorem i_alt1 (h : fa ρ = some (.lst ds)) : alt (itLst (eI fa)) (itTup (eI fa)) ρ = some (.ok ds, ρ) := alt_l (i_lst (e_i h) rfl)
theorem i_alt2 (h : fa ρ = some (.tup ds)) : alt (itLst (eI fa)) (itTup (eI fa)) ρ = some (.ok ds, ρ) := (alt_r (by unfold itLst; rw [mB_ok (e_i h)]; rfl)).trans (i_tup (e_i h) rfl)

end
theorem s_par2 {ρ ρ1 : En} {i j : Nat} {x y : D} {a : M (List Ag)} {as : List Ag} (h : a ρ = some (.ok as, ρ1)) (h2 : Ag.ds as = some [x, y]) : sPar [i, j] a ρ = some (.ok .next, (ρ1.set i (some (.val x))).set j (some (.val y))) := by
  unfold sPar; rw [mB_ok h, h2]; rfl
theorem s_par3 {ρ ρ1 : En} {i j l : Nat} {x y z : D} {a : M (List Ag)} {as : List Ag} (h : a ρ = some (.ok as, ρ1)) (h2 : Ag.ds as = some [x, y, z]) : sPar [i, j, l] a ρ = some (.ok .next, ((ρ1.set i (some (.val x))).set j (some (.val y))).set l (some (.val z))) := by
  unfold sPar; rw [mB_ok h, h2]; rfl
section
variable {α : Type} {ρ ρ1 : En} {ds : List D} {vs : List Nat} {fi : M (List D)} {g : Tg} {fe : M PV} {tt : M Bool}
theorem lcGo_ok {δ φ : α → D} {p : α → Bool} {w : En} : ∀ (xs : List α) (acc : List D), (∀ x ∈ xs, ∃ ρ2 pv, g (δ x) w = some ρ2 ∧ tt ρ2 = some (.ok (p x), ρ2) ∧ (p x = true → fe ρ2 = some (.ok pv, ρ2) ∧ pv.tree = some (φ x)) ∧ wipeE ρ2 vs = w) → acc.length + xs.length ≤ sizeLine →
    lcGo vs g tt fe (xs.map δ) acc w = some (.ok (acc ++ (xs.filter p).map φ), w)
  | [], acc, _, _ => by simp [lcGo]; rfl
  | x :: xs, acc, h, hl => by
    obtain ⟨ρ2, pv, h1, h2, h3, h4⟩ := h x (List.mem_cons_self ..)
    rw [List.length_cons] at hl
    show (match g (δ x) w with | none => none | some ρ1 => _) = _
    rw [h1]
    show mB tt _ ρ2 = _
    rw [mB_ok h2]
    cases hp : p x with
    | true =>
      obtain ⟨q1, q2⟩ := h3 hp
      rw [if_pos rfl, mB_ok q1, q2]
      show (if acc.length < sizeLine then _ else fun _ => none) ρ2 = _
      rw [if_pos (by omega), h4, lcGo_ok xs (acc ++ [φ x]) (fun z hz => h z (List.mem_cons_of_mem _ hz)) (by rw [List.length_append]; show acc.length + 1 + _ ≤ _; omega)]
      simp [hp]
    | false =>
      rw [if_neg Bool.false_ne_true, h4, lcGo_ok xs acc (fun z hz => h z (List.mem_cons_of_mem _ hz)) (by omega)]
      simp [hp]
theorem e_lcF {δ φ : α → D} {p : α → Bool} {xs : List α} (h : fi ρ = some (.ok ds, ρ1)) (hds : ds = xs.map δ) (hl : xs.length ≤ sizeLine) (hu : unwipe ρ1 (wipeE ρ1 vs) vs = ρ1)
    (step : ∀ x ∈ xs, ∃ ρ2 pv, g (δ x) (wipeE ρ1 vs) = some ρ2 ∧ tt ρ2 = some (.ok (p x), ρ2) ∧ (p x = true → fe ρ2 = some (.ok pv, ρ2) ∧ pv.tree = some (φ x)) ∧ wipeE ρ2 vs = wipeE ρ1 vs) : eLc vs fi g tt fe ρ = some (.ok (.own (.lst ((xs.filter p).map φ))), ρ1) := by
  subst hds
  unfold eLc; rw [mB_ok h]
  show (match lcGo vs g tt fe (xs.map δ) [] (wipeE ρ1 vs) with | some (.ok acc, ρ') => _ | _ => none) = _
  rw [lcGo_ok xs [] step (by simpa using hl), List.nil_append]
  show some (Except.ok (ε := Ex) (PV.own (OD.lst ((xs.filter p).map φ))), unwipe ρ1 (wipeE ρ1 vs) vs) = _
  rw [hu]
theorem e_lc {δ φ : α → D} {xs : List α} (h : fi ρ = some (.ok ds, ρ1)) (hds : ds = xs.map δ) (hl : xs.length ≤ sizeLine) (hu : unwipe ρ1 (wipeE ρ1 vs) vs = ρ1)
    (step : ∀ x ∈ xs, ∃ ρ2 pv, g (δ x) (wipeE ρ1 vs) = some ρ2 ∧ fe ρ2 = some (.ok pv, ρ2) ∧ pv.tree = some (φ x) ∧ wipeE ρ2 vs = wipeE ρ1 vs) : eLc vs fi g bYes fe ρ = some (.ok (.own (.lst (xs.map φ))), ρ1) := by
  have := e_lcF (p := fun _ => true) (φ := φ) h hds hl hu fun x hx => by
    obtain ⟨ρ2, pv, h1, h2, h3, h4⟩ := step x hx
    exact ⟨ρ2, pv, h1, rfl, fun _ => ⟨h2, h3⟩, h4⟩
  rwa [List.filter_eq_self.mpr fun _ _ => rfl] at this
end
/-! ### == of data -/
/-- numbers, None, texts, tuples and lists of these, at most n deep (no truth values: True == 1) -/
def plainD : Nat → D → Bool
  | _, .non => true
  | _, .int _ => true
  | _, .str x => PyData.strOk x
  | n + 1, .tup ds => ds.all (plainD n)
  | n + 1, .lst ds => ds.all (plainD n)
  | _, _ => false
theorem datas_ok {n : Nat} (ih : ∀ d, plainD n d = true → ∃ p, d.data = some p ∧ p.canLay0 = true ∧ p.depth ≤ n) : ∀ ds : List D, ds.all (plainD n) = true → ∃ ps, datas ds = some ps ∧ PyData.canLayAll0 ps = true ∧ PyData.depthAll ps ≤ n
  | [], _ => ⟨[], rfl, rfl, Nat.zero_le _⟩
  | d :: ds, h => by
    rw [List.all_cons, Bool.and_eq_true] at h
    obtain ⟨p, h1, h2, h3⟩ := ih d h.1
    obtain ⟨ps, k1, k2, k3⟩ := datas_ok ih ds h.2
    refine ⟨p :: ps, by rw [datas, h1, k1], by rw [PyData.canLayAll0, h2, k2]; rfl, by rw [PyData.depthAll]; omega⟩
theorem data_ok : ∀ (n : Nat) (d : D), plainD n d = true → ∃ p, d.data = some p ∧ p.canLay0 = true ∧ p.depth ≤ n
  | _, .non, _ => ⟨_, rfl, rfl, Nat.zero_le _⟩
  | _, .int _, _ => ⟨_, rfl, rfl, Nat.zero_le _⟩
  | _, .str _, h => ⟨_, rfl, by cases ‹Nat› <;> exact h, Nat.zero_le _⟩
  | 0, .tup _, h => by cases h
  | 0, .lst _, h => by cases h
  | n + 1, .tup ds, h => by
    obtain ⟨ps, h1, h2, h3⟩ := datas_ok (data_ok n) ds h
    exact ⟨.tuple ps, by rw [D.data, h1]; rfl, h2, by rw [PyData.depth]; omega⟩
  | n + 1, .lst ds, h => by
    obtain ⟨ps, h1, h2, h3⟩ := datas_ok (data_ok n) ds h
    exact ⟨.list ps, by rw [D.data, h1]; rfl, h2, by rw [PyData.depth]; omega⟩
  | 0, .bl _, h => by cases h
  | 0, .dct _ _, h => by cases h
  | 0, .obj _ _, h => by cases h
  | _ + 1, .bl _, h => by cases h
  | _ + 1, .dct _ _, h => by cases h
  | _ + 1, .obj _ _, h => by cases h
theorem eqd_same {n : Nat} {b : Bool} {d : D} (h : plainD n d = true) (hn : n ≤ 64) : dEqD b d d = some (.bl (!b)) := by
  obtain ⟨p, h1, h2, h3⟩ := data_ok n d h
  have hs : SeqAt.shaped p = true := by unfold SeqAt.shaped; rw [h2, decide_eq_true (by omega)]; rfl
  unfold dEqD; rw [h1]
  show (if SeqAt.shaped p && SeqAt.shaped p then some (D.bl (xor b (PyData.eqv p p))) else none) = _
  rw [hs, SeqAt.eqv_refl p h2]
  cases b <;> rfl
theorem datas_mem : ∀ {ds : List D} {ps : List PyData}, datas ds = some ps → ∀ p ∈ ps, ∃ d ∈ ds, d.data = some p
  | [], _, h, p, hp => by cases h; cases hp
  | d :: ds, ps, h, p, hp => by
    rw [datas] at h
    cases h1 : d.data with
    | none => rw [h1] at h; cases h
    | some x =>
      cases h2 : datas ds with
      | none => rw [h1, h2] at h; cases h
      | some xs =>
        rw [h1, h2] at h
        cases h
        rcases List.mem_cons.mp hp with rfl | hp
        · exact ⟨d, List.mem_cons_self .., h1⟩
        · obtain ⟨d', q1, q2⟩ := datas_mem h2 p hp
          exact ⟨d', List.mem_cons_of_mem _ q1, q2⟩
/-- None is in no list of tuples -/
theorem in_none {b : Bool} {n : Nat} {ds : List D} (hp : ds.all (plainD n) = true) (hn : n < 64) (h : ∀ d ∈ ds, ∃ es, d = .tup es) : dInD b .non (.lst ds) = some (.bl b) := by
  obtain ⟨ps, h1, h2, h3⟩ := datas_ok (data_ok n) ds hp
  have hs : SeqAt.shaped (.list ps) = true := by
    unfold SeqAt.shaped
    rw [PyData.canLay0, PyData.depth, h2, decide_eq_true (by omega)]; rfl
  have ha : (ps.any fun z => PyData.eqv z .none) = false := by
    rw [List.any_eq_false]
    intro p hp'
    obtain ⟨d, hd, e⟩ := datas_mem h1 p hp'
    obtain ⟨es, rfl⟩ := h d hd
    rw [D.data] at e
    cases h4 : datas es with
    | none => rw [h4] at e; cases e
    | some xs => rw [h4] at e; cases e; simp [PyData.eqv]
  have hd : D.data (.lst ds) = some (.list ps) := by rw [D.data, h1]; rfl
  show (match D.data .non, D.data (.lst ds) with
    | some d, some (.list ds) => if SeqAt.shaped d && SeqAt.shaped (.list ds) then some (D.bl (xor b (ds.any fun z => PyData.eqv z d))) else none
    | _, _ => none) = _
  rw [hd]
  show (if SeqAt.shaped .none && SeqAt.shaped (.list ps) then some (D.bl (xor b (ps.any fun z => PyData.eqv z .none))) else none) = _
  rw [hs, ha]
  cases b <;> rfl
section
variable {ρ ρ1 ρ2 : En} {d : D} {e : M PV} {pv : PV} {i : Nat} {ds ds0 : List D} {fk : Inr} {k : Int} {j : Nat}
theorem s_appE2 (h0 : ρ.at i = some (.own (.lst ds0))) (h : e ρ = some (.ok pv, ρ1)) (h2 : pv.tree = some d) (h1 : ρ1.at i = some (.own (.lst ds))) (h3 : ds.length < sizeLine) (q : ρ1.set i (some (.own (.lst (ds ++ [d])))) = ρ2) : sApp i e ρ = some (.ok .next, ρ2) := by
  subst q
  have q : lstAt ρ i = true := by unfold lstAt; rw [h0]
  unfold sApp
  rw [if_pos q, mB_ok h, h2]
  show mB (chg i _) _ ρ1 = _
  have : chg i (fun ds => if ds.length < sizeLine then some (ds ++ [d]) else none) ρ1 = some (.ok (), ρ1.set i (some (.own (.lst (ds ++ [d]))))) := by
    unfold chg; rw [h1]
    show (if ds.length < sizeLine then some (ds ++ [d]) else none).map _ = _
    rw [if_pos h3]; rfl
  rw [mB_ok this]; rfl
theorem s_sub (h : e ρ = some (.ok pv, ρ1)) (h2 : pv.tree = some d) (hk : fk ρ1 = some (.int k)) (h1 : ρ1.at i = some (.own (.lst ds))) (hj : ixN ds.length k = some j) : sSet i fk e ρ = some (.ok .next, ρ1.set i (some (.own (.lst (ds.set j d))))) := by
  unfold sSet
  rw [mB_ok h, h2]
  show (match fk ρ1 with | some (.int k) => (mB (chg i fun ds => (ixN ds.length k).map fun j => ds.set j d) fun _ => mR Fl.next) ρ1 | _ => none) = _
  rw [hk]
  have : chg i (fun ds => (ixN ds.length k).map fun j => ds.set j d) ρ1 = some (.ok (), ρ1.set i (some (.own (.lst (ds.set j d))))) := by
    unfold chg; rw [h1]
    show ((ixN ds.length k).map fun j => ds.set j d).map _ = _
    rw [hj]; rfl
  show mB (chg i _) _ ρ1 = _
  rw [mB_ok this]; rfl
theorem s_subB (h : e ρ = some (.ok pv, ρ1)) (h2 : pv.tree = some d) (hk : fk ρ1 = some (.int k)) (h1 : ρ1.at i = some (.bor (.lst ds))) (hj : ixN ds.length k = some j) : sSet i fk e ρ = some (.ok .next, ρ1.set i (some (.bor (.lst (ds.set j d))))) := by
  unfold sSet
  rw [mB_ok h, h2]
  show (match fk ρ1 with | some (.int k) => (mB (chg i fun ds => (ixN ds.length k).map fun j => ds.set j d) fun _ => mR Fl.next) ρ1 | _ => none) = _
  rw [hk]
  have : chg i (fun ds => (ixN ds.length k).map fun j => ds.set j d) ρ1 = some (.ok (), ρ1.set i (some (.bor (.lst (ds.set j d))))) := by
    unfold chg; rw [h1]
    show ((ixN ds.length k).map fun j => ds.set j d).map _ = _
    rw [hj]; rfl
  show mB (chg i _) _ ρ1 = _
  rw [mB_ok this]; rfl
end
theorem s_asgT {ρ ρ1 ρ2 : En} {g : Tg} {e : M PV} {pv : PV} {d : D} (h : e ρ = some (.ok pv, ρ1)) (h2 : pv.tree = some d) (h3 : g d ρ1 = some ρ2) : sAsgT g e ρ = some (.ok .next, ρ2) := by
  unfold sAsgT; rw [mB_ok h, h2]
  show (g d ρ1).map _ = _
  rw [h3]; rfl
theorem den_retL {f : M Fl} {n N : Nat} {as : List PV} {ρ' : En} {pv : PV} {o : Option OD} (h0 : lentB as = true) (h1 : as.length = n) (h2 : f (as.map some ++ List.replicate (N - n) none) = some (.ok (.ret pv), ρ')) (h3 : leftOf as ρ' = some o) : denB n N f as = some (.ok pv, o) := by
  unfold denB; rw [if_pos h0]; unfold denOf; rw [if_pos h1, h2]; dsimp only; rw [h3]; rfl
theorem e_callB {den : Den} {i : Nat} {a : M (List Ag)} {as : List Ag} {ds : List D} {ρ ρ1 : En} {o o' : OD} {r : Except Ex PV} (h0 : ρ.at i = some (.own o)) (h : a ρ = some (.ok as, ρ1)) (h2 : Ag.ds as = some ds) (h1 : ρ1.at i = some (.own o)) (h3 : den (.bor o :: ds.map PV.val) = some (r, some o')) :
    eCallB den i a ρ = some (r, ρ1.set i (some (.own o'))) := by
  have l : ∀ {ρ : En}, ρ.at i = some (.own o) → lent1 i ρ = some (o, PV.own) := fun {ρ} e => by unfold lent1; rw [e]
  unfold eCallB
  rw [if_pos (by rw [l h0]; rfl), mB_ok h, h2]
  show callB den i ds ρ1 = _
  unfold callB
  rw [l h1]
  show (match den (.bor o :: ds.map PV.val) with | some (r, some o') => some (r, ρ1.set i (some (PV.own o'))) | _ => none) = _
  rw [h3]
theorem e_callBB {den : Den} {i : Nat} {a : M (List Ag)} {as : List Ag} {ds : List D} {ρ ρ1 : En} {o o1 o' : OD} {r : Except Ex PV} (h0 : ρ.at i = some (.bor o)) (h : a ρ = some (.ok as, ρ1)) (h2 : Ag.ds as = some ds) (h1 : ρ1.at i = some (.bor o1)) (h3 : den (.bor o1 :: ds.map PV.val) = some (r, some o')) :
    eCallB den i a ρ = some (r, ρ1.set i (some (.bor o'))) := by
  have l : ∀ {o : OD} {ρ : En}, ρ.at i = some (.bor o) → lent1 i ρ = some (o, PV.bor) := fun {o} {ρ} e => by unfold lent1; rw [e]
  unfold eCallB
  rw [if_pos (by rw [l h0]; rfl), mB_ok h, h2]
  show callB den i ds ρ1 = _
  unfold callB
  rw [l h1]
  show (match den (.bor o1 :: ds.map PV.val) with | some (r, some o') => some (r, ρ1.set i (some (PV.bor o'))) | _ => none) = _
  rw [h3]
theorem p_some {f : Inr} {ρ : En} {i : Int} (h : f ρ = some (.int i)) : dPart (some f) ρ = some (some i) := by unfold dPart; dsimp only; rw [h]
theorem e_slice {f : M PV} {lo hi : Option Inr} {ρ ρ1 : En} {pv pv' : PV} {x : D} {l r : Option Int} (h : f ρ = some (.ok pv, ρ1)) (h2 : pv.tree = some x) (h3 : dPart lo ρ1 = some l) (h4 : dPart hi ρ1 = some r) (h5 : dSlice x l r = some pv') : eSlice f lo hi ρ = some (.ok pv', ρ1) := by
  unfold eSlice; rw [mB_ok h, h2]
  show ((dPart lo ρ1).bind fun l => (dPart hi ρ1).bind fun h => (dSlice x l h).map fun pv => (Except.ok pv, ρ1)) = _
  rw [h3, Option.bind_some, h4, Option.bind_some, h5]; rfl
/-- a loop that may return early -/
theorem loop_ex {g : Tg} {body : M Fl} (P : Nat → En → Prop) (R : Nat → PV → Prop) : ∀ (ds : List D) (i : Nat) (ρ : En), P i ρ →
    (∀ (j : Nat) (d : D) (ρ : En), ds[j]? = some d → P (i + j) ρ → (∃ ρ1 ρ2, g d ρ = some ρ1 ∧ (body ρ1 = some (.ok .next, ρ2) ∨ body ρ1 = some (.ok .cont, ρ2)) ∧ P (i + j + 1) ρ2) ∨ ∃ ρ1 ρ2 pv, g d ρ = some ρ1 ∧ body ρ1 = some (.ok (.ret pv), ρ2) ∧ R (i + j) pv) →
    (∃ ρ', loop g body ds ρ = some (.ok .next, ρ') ∧ P (i + ds.length) ρ') ∨ ∃ j pv ρ', j < ds.length ∧ loop g body ds ρ = some (.ok (.ret pv), ρ') ∧ R (i + j) pv
  | [], i, ρ, h, _ => .inl ⟨ρ, rfl, h⟩
  | d :: ds, i, ρ, h, k => by
    rcases k 0 d ρ rfl h with ⟨ρ1, ρ2, h1, h2, h3⟩ | ⟨ρ1, ρ2, pv, h1, h2, h3⟩
    · have go : loop g body (d :: ds) ρ = loop g body ds ρ2 := by
        show (match g d ρ with | none => none | some ρ1 => _) = _
        rw [h1]
        show mB body _ ρ1 = _
        rcases h2 with h2 | h2 <;> rw [mB_ok h2]
      rw [go]
      rcases loop_ex P R ds (i + 1) ρ2 h3 (fun j d' ρ e hp => by
        have := k (j + 1) d' ρ e (by rw [show i + (j + 1) = i + 1 + j by omega]; exact hp)
        rwa [show i + (j + 1) = i + 1 + j by omega] at this) with ⟨ρ', q1, q2⟩ | ⟨j, pv, ρ', hj, q1, q2⟩
      · exact .inl ⟨ρ', q1, by rw [List.length_cons, show i + (ds.length + 1) = i + 1 + ds.length by omega]; exact q2⟩
      · exact .inr ⟨j + 1, pv, ρ', by rw [List.length_cons]; omega, q1, by rw [show i + (j + 1) = i + 1 + j by omega]; exact q2⟩
    · exact .inr ⟨0, pv, ρ2, by rw [List.length_cons]; omega, loop_ret h1 h2, h3⟩
theorem Rt.for_ret {fi : M (List D)} {g : Tg} {body f : M Fl} {ρ ρ1 ρ2 : En} {ds : List D} {pv : PV} (h : fi ρ = some (.ok ds, ρ1)) (h2 : loop g body ds ρ1 = some (.ok (.ret pv), ρ2)) : Rt (sSeq (sFor fi g body) f) ρ pv := ⟨ρ2, s_seq_ret (s_for h h2)⟩
/-- a slot that holds nothing or a tree -/
def VN (p : Option PV) : Prop := p = none ∨ ∃ d, p = some (.val d)
theorem VN.no : VN none := .inl rfl
theorem VN.va {d : D} : VN (some (.val d)) := .inr ⟨d, rfl⟩
theorem set_at {ρ : En} {v : Nat} : ρ.set v (ρ.at v) = ρ := by
  refine List.ext_getElem? fun i => ?_
  rw [List.getElem?_set]
  split
  · rename_i h
    subst h
    unfold En.at
    rw [List.getD_eq_getElem?_getD]
    split
    · rename_i h2
      rw [List.getElem?_eq_getElem h2]; rfl
    · rename_i h2
      rw [List.getElem?_eq_none (by omega)]
  · rfl
theorem unwipe1 {ρ : En} {v : Nat} {p : Option PV} (h : VN p) (e : ρ.at v = p := by rfl) : unwipe ρ (wipeE ρ [v]) [v] = ρ := by
  have w : wipeE ρ [v] = ρ.set v none := rfl
  rcases h with rfl | ⟨d, rfl⟩
  · have : unwipe ρ (wipeE ρ [v]) [v] = (wipeE ρ [v]).set v none := by
      show (match ρ.at v with | some (.val d) => _ | _ => _) = _
      rw [e]; rfl
    rw [this, w, List.set_set]
    conv => rhs; rw [← set_at (ρ := ρ) (v := v), e]
  · have : unwipe ρ (wipeE ρ [v]) [v] = (wipeE ρ [v]).set v (some (.val d)) := by
      show (match ρ.at v with | some (.val d) => _ | _ => _) = _
      rw [e]; rfl
    rw [this, w, List.set_set]
    conv => rhs; rw [← set_at (ρ := ρ) (v := v), e]
theorem i_obj {c : Nat} {den : Den} {e : M PV} {ρ ρ1 : En} {cs ds : List D} {d : D} (h : e ρ = some (.ok (.val (.obj c cs)), ρ1)) (h2 : den [.val (.obj c cs)] = some (.ok (.val d), none)) (h3 : itsOf d = some ds) : itObj c den e ρ = some (.ok ds, ρ1) := by
  unfold itObj
  rw [mB_ok h, recv_obj]
  show (match den [.val (.obj c cs)] with | some (.ok (.val d), none) => (itsOf d).map fun xs => ((Except.ok xs : Except Ex (List D)), ρ1) | _ => none) = _
  rw [h2]
  dsimp only
  rw [h3]
  rfl
theorem i_enumT {e : M PV} {ρ ρ1 : En} {pv : PV} {ds : List D} (h : e ρ = some (.ok pv, ρ1)) (h2 : pv.tree = some (.tup ds)) : itEnum e ρ = some (.ok (dEnum ds), ρ1) := by
  unfold itEnum; rw [mB_ok h, h2]; rfl
theorem i_enumL {e : M PV} {ρ ρ1 : En} {pv : PV} {ds : List D} (h : e ρ = some (.ok pv, ρ1)) (h2 : pv.tree = some (.lst ds)) : itEnum e ρ = some (.ok (dEnum ds), ρ1) := by
  unfold itEnum; rw [mB_ok h, h2]; rfl
/-! ### a block that changes what it is lent; min, max, sum, find, pop -/
theorem lcGo_st {vs : List Nat} {g : Tg} {fe : M PV} (P : Nat → List D → En → Prop) : ∀ (ds : List D) (n : Nat) (acc : List D) (w : En), P n acc w → acc.length = n → n + ds.length ≤ sizeLine →
    (∀ (j : Nat) (d : D) (acc : List D) (w : En), ds[j]? = some d → P (n + j) acc w → ∃ ρ1 ρ2 pv x, g d w = some ρ1 ∧ fe ρ1 = some (.ok pv, ρ2) ∧ pv.tree = some x ∧ P (n + j + 1) (acc ++ [x]) (wipeE ρ2 vs)) →
    ∃ acc' w', lcGo vs g bYes fe ds acc w = some (.ok acc', w') ∧ P (n + ds.length) acc' w'
  | [], n, acc, w, h, _, _, _ => ⟨acc, w, rfl, h⟩
  | d :: ds, n, acc, w, h, ha, hl, k => by
    obtain ⟨ρ1, ρ2, pv, x, h1, h2, h3, h4⟩ := k 0 d acc w rfl h
    rw [List.length_cons] at hl
    obtain ⟨acc', w', q1, q2⟩ := lcGo_st P ds (n + 1) (acc ++ [x]) (wipeE ρ2 vs) h4 (by rw [List.length_append, ha]; rfl) (by omega) fun j d' a' w2 hj hp => by
      have := k (j + 1) d' a' w2 hj (by rw [show n + (j + 1) = n + 1 + j by omega]; exact hp)
      rwa [show n + (j + 1) + 1 = n + 1 + j + 1 by omega] at this
    refine ⟨acc', w', ?_, by rw [List.length_cons, show n + (ds.length + 1) = n + 1 + ds.length by omega]; exact q2⟩
    show (match g d w with | none => none | some ρ1 => _) = _
    rw [h1]
    show mB bYes _ ρ1 = _
    rw [mB_ok (show bYes ρ1 = some (.ok true, ρ1) from rfl), if_pos rfl, mB_ok h2, h3]
    show (if acc.length < sizeLine then _ else fun _ => none) ρ2 = _
    rw [if_pos (by omega)]
    exact q1
theorem e_lcS {vs : List Nat} {g : Tg} {fe : M PV} {fi : M (List D)} {ds : List D} {ρ ρ1 : En} (P : Nat → List D → En → Prop) (h : fi ρ = some (.ok ds, ρ1)) (h0 : P 0 [] (wipeE ρ1 vs)) (hl : ds.length ≤ sizeLine)
    (k : ∀ (j : Nat) (d : D) (acc : List D) (w : En), ds[j]? = some d → P j acc w → ∃ ρ1 ρ2 pv x, g d w = some ρ1 ∧ fe ρ1 = some (.ok pv, ρ2) ∧ pv.tree = some x ∧ P (j + 1) (acc ++ [x]) (wipeE ρ2 vs)) :
    ∃ acc' w', eLc vs fi g bYes fe ρ = some (.ok (.own (.lst acc')), unwipe ρ1 w' vs) ∧ P ds.length acc' w' := by
  obtain ⟨acc', w', q1, q2⟩ := lcGo_st P ds 0 [] (wipeE ρ1 vs) h0 rfl (by omega) fun j d acc w hj hp => by
    have := k j d acc w hj (by rwa [Nat.zero_add] at hp)
    rwa [Nat.zero_add]
  rw [Nat.zero_add] at q2
  refine ⟨acc', w', ?_, q2⟩
  unfold eLc
  rw [mB_ok h]
  show (match lcGo vs g bYes fe ds [] (wipeE ρ1 vs) with | some (.ok acc, ρ') => some ((Except.ok (PV.own (OD.lst acc)) : Except Ex PV), unwipe ρ1 ρ' vs) | _ => none) = _
  rw [q1]
theorem e_callBO {den : Den} {i : Nat} {a : M (List Ag)} {as : List Ag} {ds : List D} {ρ ρ1 : En} {o o1 o' : OD} {r : Except Ex PV} (h0 : ρ.at i = some (.own o)) (h : a ρ = some (.ok as, ρ1)) (h2 : Ag.ds as = some ds) (h1 : ρ1.at i = some (.own o1)) (h3 : den (.bor o1 :: ds.map PV.val) = some (r, some o')) :
    eCallB den i a ρ = some (r, ρ1.set i (some (.own o'))) := by
  have l : ∀ {o : OD} {ρ : En}, ρ.at i = some (.own o) → lent1 i ρ = some (o, PV.own) := fun {o} {ρ} e => by unfold lent1; rw [e]
  unfold eCallB
  rw [if_pos (by rw [l h0]; rfl), mB_ok h, h2]
  show callB den i ds ρ1 = _
  unfold callB
  rw [l h1]
  show (match den (.bor o1 :: ds.map PV.val) with | some (r, some o') => some (r, ρ1.set i (some (PV.own o'))) | _ => none) = _
  rw [h3]
theorem o_min {i j : Int} : dMin2 (.int i) (.int j) = some (.int (if j < i then j else i)) := rfl
theorem o_max {i j : Int} : dMax2 (.int i) (.int j) = some (.int (if j > i then j else i)) := rfl
theorem dInts_ok : ∀ ns : List Int, dInts (ns.map D.int) = some ns
  | [] => rfl
  | n :: ns => by rw [List.map_cons, dInts, dInts_ok ns]; rfl
theorem o_sum {ns : List Int} : dSum (.lst (ns.map D.int)) = some (.int ns.sum) := by unfold dSum; dsimp only; rw [dInts_ok]; rfl
theorem o_find {x y : Str} : dFind (.str x) (.str y) = some (.int (Txt.find x y)) := rfl
theorem e_popB {i : Nat} {fk : Inr} {ρ : En} {ds : List D} {d : D} {k : Int} {j : Nat} (h : ρ.at i = some (.bor (.lst ds))) (hk : fk ρ = some (.int k)) (hs : smI k = true) (hj : ixN ds.length k = some j) (hd : ds[j]? = some d) : ePop i fk ρ = some (.ok (.val d), ρ.set i (some (.bor (.lst (ds.eraseIdx j))))) := by
  unfold ePop
  have h1 : lstV ρ i = some ds := by unfold lstV; rw [h]
  have hc : chg i (fun ds => some (ds.eraseIdx j)) ρ = some (.ok (), ρ.set i (some (.bor (.lst (ds.eraseIdx j))))) := by unfold chg; rw [h]; rfl
  rw [h1, hk]
  dsimp only
  rw [if_pos hs, hj]
  dsimp only
  rw [hd]
  dsimp only
  rw [mB_ok hc]
  rfl
theorem e_popO {i : Nat} {fk : Inr} {ρ : En} {ds : List D} {d : D} {k : Int} {j : Nat} (h : ρ.at i = some (.own (.lst ds))) (hk : fk ρ = some (.int k)) (hs : smI k = true) (hj : ixN ds.length k = some j) (hd : ds[j]? = some d) : ePop i fk ρ = some (.ok (.val d), ρ.set i (some (.own (.lst (ds.eraseIdx j))))) := by
  unfold ePop
  have h1 : lstV ρ i = some ds := by unfold lstV; rw [h]
  have hc : chg i (fun ds => some (ds.eraseIdx j)) ρ = some (.ok (), ρ.set i (some (.own (.lst (ds.eraseIdx j))))) := by unfold chg; rw [h]; rfl
  rw [h1, hk]
  dsimp only
  rw [if_pos hs, hj]
  dsimp only
  rw [hd]
  dsimp only
  rw [mB_ok hc]
  rfl
theorem i_rngE {f : M PV} {ρ ρ1 : En} {pv : PV} {n : Nat} (h : f ρ = some (.ok pv, ρ1)) (h2 : pv.tree = some (.int (n : Int))) (hn : n < 1000000) : itRngE f ρ = some (.ok ((List.range n).map fun k => .int ((k : Nat) : Int)), ρ1) := by
  unfold itRngE
  rw [mB_ok h, h2, mB_ok (show mO (some (D.int (n : Int))) ρ1 = some (.ok (D.int (n : Int)), ρ1) from rfl)]
  dsimp only
  unfold rngI
  rw [if_pos (by unfold smI; simp only [Bool.and_eq_true, decide_eq_true_eq]; omega), Int.toNat_natCast]
  rfl
/-! ### an == of a thing with itself: true, or not said -/
def ToT (e : M PV) (ρ : En) : Prop := e ρ = none ∨ e ρ = some (.ok (.val (.bl true)), ρ)
theorem eoD_rfl {c0 : Nat} {good : List D → Bool} {den : Den} (hr : ∀ cs b, good cs = true → den [.val (.obj c0 cs), .val (.obj c0 cs)] = some (.ok (.val (.bl b)), none) → b = true) : EoRfl (eoD c0 good den) := fun c cs b h => by
  unfold eoD at h
  split at h
  · rename_i hh
    obtain ⟨rfl, hg⟩ := hh
    split at h
    · rename_i b' hd
      cases h
      exact hr cs _ hg hd
    · cases h
  · cases h
theorem eoOr_rfl {e e' : EO} (h : EoRfl e) (h' : EoRfl e') : EoRfl (eoOr e e') := fun c cs b hb => by
  unfold eoOr at hb
  split at hb
  · rename_i b' hd; cases hb; exact h c cs _ hd
  · exact h' c cs b hb
theorem to_i {f : Inr} {ρ : En} (h : f ρ = some (.bl true)) : ToT (eI f) ρ := .inr (by unfold eI; rw [h]; rfl)
theorem to_eqI {f g : Inr} {w : Int} {ρ : En} (h1 : f ρ = some (.int w)) (h2 : g ρ = some (.int w)) : ToT (eI (iBin (dEqF false) f g)) ρ := to_i (by rw [v_bin h1 h2 o_eqI, decide_eq_true rfl]; rfl)
theorem to_and {f g : M PV} {ρ : En} (hf : ToT f ρ) (hg : ToT g ρ) : ToT (eAnd f g) ρ := by
  rcases hf with h | h
  · exact .inl (by unfold eAnd mB; rw [h])
  · rcases hg with h2 | h2
    · exact .inl (by unfold eAnd; rw [mB_ok h]; exact h2)
    · exact .inr (by unfold eAnd; rw [mB_ok h]; exact h2)
theorem to_eqR {fa fb : M PV} {ρ : En} {pv : PV} {x : D} {eo : EO} {n : Nat} (ha : fa ρ = some (.ok pv, ρ)) (hx : pv.tree = some x) (hb : fb ρ = some (.ok pv, ρ)) (hr : EoRfl eo) : ToT (eF2 (dEqR false eo n) fa fb) ρ := by
  have e : eF2 (dEqR false eo n) fa fb ρ = mO (dEqR false eo n x x) ρ := by
    unfold eF2
    rw [mB_ok ha, hx]
    show mB fb _ ρ = _
    rw [mB_ok hb, hx]; rfl
  unfold ToT
  rw [e]
  unfold dEqR
  cases h : eqT (eqR eo n) x x with
  | none => exact .inl rfl
  | some b =>
    cases eqT_rfl (eqR_rfl hr n) x b h
    exact .inr rfl
theorem den_to {n N : Nat} {e : M PV} {as : List PV} {b : Bool} (h0 : lentB as = true) (h1 : as.length = n) (h3 : leftOf as (as.map some ++ List.replicate (N - n) none) = some none) (h : ToT e (as.map some ++ List.replicate (N - n) none)) (hd : denB n N (sRet e) as = some (.ok (.val (.bl b)), none)) : b = true := by
  rcases h with h | h
  · exfalso
    unfold denB at hd
    rw [if_pos h0] at hd
    unfold denOf at hd
    rw [if_pos h1, show sRet e (as.map some ++ List.replicate (N - n) none) = none by unfold sRet mB; rw [h]] at hd
    cases hd
  · rw [den_ret h0 h1 (s_ret h) h3] at hd
    cases hd; rfl
end Pl
/-! # Words as lists of signs -/
set_option linter.all false
namespace Pl
open PySem PySem.Spec L2 PyProof Builtin.Str
/-- a word of signs -/
abbrev sW (l : List Nat) : Str := ⟨l.toArray⟩
theorem sw_inj {a b : List Nat} : sW a = sW b ↔ a = b := ⟨fun h => by
  have := congrArg (fun s : Str => s.cps.toList) h
  simpa using this, fun h => by rw [h]⟩
theorem find_w {l : List Nat} {i c : Nat} (nd : l.Nodup) (h : l[i]? = some c) : Txt.find (sW l) (sW [c]) = (i : Int) := by
  have at_ : ∀ k, StrLaws.At (sW l) (sW [c]) (sW l).length k ↔ l[k]? = some c := fun k => by
    unfold StrLaws.At subAt
    have e1 : (sW l).length = l.length := rfl
    have e2 : (sW [c]).length = 1 := rfl
    rw [e1, e2]
    simp only [beq_iff_eq]
    constructor
    · rintro ⟨h1, h2⟩
      have := congrArg Array.toList h2
      simp at this
      rw [List.take_one] at this
      rw [← List.head?_drop]
      cases hh : (l.drop k).head? with
      | none => rw [hh] at this; simp at this
      | some z => rw [hh] at this; simp at this; rw [this]
    · intro h2
      obtain ⟨hk, e⟩ := List.getElem?_eq_some_iff.mp h2
      refine ⟨by omega, ?_⟩
      apply Array.ext'
      simp
      rw [List.take_one, List.head?_drop, h2]; rfl
  rcases PyProof.Rows.find_whole (sW l) (sW [c]) with ⟨_, h2⟩ | ⟨j, h1, h2, _⟩
  · exact absurd ((at_ i).mpr h) (h2 i)
  · rw [h1]
    have hj := (at_ j).mp h2
    obtain ⟨a1, a2⟩ := List.getElem?_eq_some_iff.mp h
    obtain ⟨b1, b2⟩ := List.getElem?_eq_some_iff.mp hj
    have := (List.getElem_inj nd (h₀ := b1) (h₁ := a1)).mp (b2.trans a2.symm)
    rw [this]
section
variable {l l' : List Nat} {i c : Nat} {n : Bool} {e : M PV} {ρ ρ1 : En}
theorem dlen_w (h : l.length ≤ 1000) : dLen (.str (sW l)) = some (.int (l.length : Int)) := by
  show (if (sW l).length ≤ sizeLine then some (D.int ((sW l).length : Int)) else none) = _
  rw [if_pos (show (sW l).length ≤ sizeLine from Nat.le_trans h (by decide))]; rfl
theorem dix_w (hl : l.length ≤ 1000) (h : l[i]? = some c) : dIx (.str (sW l)) (.int (i : Int)) = some (.str (sW [c])) := by
  obtain ⟨hj, e⟩ := List.getElem?_eq_some_iff.mp h
  show (if (sW l).length ≤ sizeLine then (atI (sW l).cps.toList (i : Int)).map fun c => D.str ⟨#[c]⟩ else none) = _
  rw [if_pos (show (sW l).length ≤ sizeLine from Nat.le_trans hl (by decide))]
  unfold atI ixN
  simp [hj, e]
theorem dadd_w (h : l.length + l'.length ≤ 1000) : dAdd (.str (sW l)) (.str (sW l')) = some (.str (sW (l ++ l'))) := by
  show (if (sW l).length + (sW l').length ≤ sizeLine then some (D.str (sW l ++ sW l')) else none) = _
  rw [if_pos (show (sW l).length + (sW l').length ≤ sizeLine from Nat.le_trans h (by decide))]
  congr 2
  apply congrArg Str.mk
  apply Array.ext'
  show (l.toArray ++ l'.toArray).toList = _
  simp
theorem cutw_hi (hl : l.length ≤ 1000) (h : i ≤ l.length) : dSlice (.str (sW l)) none (some (i : Int)) = some (.val (.str (sW (l.take i)))) := by
  show (if (sW l).length ≤ sizeLine then some (PV.val (.str (cutS (sW l) none (some (i : Int))))) else none) = _
  rw [if_pos (show (sW l).length ≤ sizeLine from Nat.le_trans hl (by decide))]
  unfold cutS
  rw [HT.sIx_nat, HT.sIx_none, List.drop_zero, Nat.sub_zero, Nat.min_eq_left (show i ≤ (sW l).length from h)]
theorem cutw_lo (hl : l.length ≤ 1000) (h : i ≤ l.length) : dSlice (.str (sW l)) (some (i : Int)) none = some (.val (.str (sW (l.drop i)))) := by
  show (if (sW l).length ≤ sizeLine then some (PV.val (.str (cutS (sW l) (some (i : Int)) none))) else none) = _
  rw [if_pos (show (sW l).length ≤ sizeLine from Nat.le_trans hl (by decide))]
  unfold cutS
  rw [HT.sIx_nat, HT.sIx_none, Nat.min_eq_left (show i ≤ (sW l).length from h)]
  have : (List.drop i (sW l).cps.toList).take ((sW l).length - i) = l.drop i := List.take_of_length_le (by rw [List.length_drop]; exact Nat.le_refl _)
  rw [this]
theorem cutw_lh {j : Nat} (hl : l.length ≤ 1000) (h : i ≤ l.length) (h2 : j ≤ l.length) : dSlice (.str (sW l)) (some (i : Int)) (some (j : Int)) = some (.val (.str (sW ((l.drop i).take (j - i))))) := by
  show (if (sW l).length ≤ sizeLine then some (PV.val (.str (cutS (sW l) (some (i : Int)) (some (j : Int))))) else none) = _
  rw [if_pos (show (sW l).length ≤ sizeLine from Nat.le_trans hl (by decide))]
  unfold cutS
  rw [HT.sIx_nat, HT.sIx_nat, Nat.min_eq_left (show i ≤ (sW l).length from h), Nat.min_eq_left (show j ≤ (sW l).length from h2)]
theorem i_w (h : e ρ = some (.ok (.val (.str (sW l))), ρ1)) : itStr e ρ = some (.ok (l.map fun c => .str (sW [c])), ρ1) := by
  unfold itStr; rw [mB_ok h]; rfl
theorem ins_w : dInS n (.str (sW [c])) (.str (sW l)) = some (.bl (xor n (decide (c ∈ l)))) := by
  show (if (sW [c]).cps.size = 1 then some (D.bl (xor n (decide (c ∈ l)))) else none) = _
  exact if_pos rfl
theorem eq_w : dEqF n (.str (sW l)) (.str (sW l')) = some (.bl (xor n (decide (l = l')))) := by
  rw [o_eqS]
  congr 3
  exact decide_eq_decide.mpr sw_inj
end
/-! ### comprehensions with two sources -/
section
variable {α β : Type} {ρ ρ1 : En} {ds : List D} {vs vs1 : List Nat} {fi fi1 : M (List D)} {g g1 : Tg} {fe : M PV}
theorem lcGo2_ok {δ : α → D} {δ1 : β → D} {φ : α → β → D} {ys : List β} {w : En} : ∀ (xs : List α) (acc : List D), (∀ x ∈ xs, ∃ ρ2 ρ3, g (δ x) w = some ρ2 ∧ fi1 ρ2 = some (.ok (ys.map δ1), ρ3) ∧ (∀ y ∈ ys, ∃ ρ4 pv, g1 (δ1 y) (wipeE ρ3 vs1) = some ρ4 ∧ fe ρ4 = some (.ok pv, ρ4) ∧ pv.tree = some (φ x y) ∧ wipeE ρ4 vs1 = wipeE ρ3 vs1) ∧ wipeE (wipeE ρ3 vs1) vs = w) → acc.length + xs.length * ys.length ≤ sizeLine →
    lcGo2 vs vs1 g bYes fi1 g1 bYes fe (xs.map δ) acc w = some (.ok (acc ++ xs.flatMap fun x => ys.map (φ x)), w)
  | [], acc, _, _ => by simp [lcGo2]; rfl
  | x :: xs, acc, h, hl => by
    obtain ⟨ρ2, ρ3, h1, h2, h3, h4⟩ := h x (List.mem_cons_self ..)
    rw [List.length_cons, Nat.succ_mul] at hl
    show (match g (δ x) w with | none => none | some ρ1 => _) = _
    rw [h1]
    show mB bYes _ ρ2 = _
    rw [mB_ok (show bYes ρ2 = some (.ok true, ρ2) from rfl), if_pos rfl, mB_ok h2]
    have hin := lcGo_ok (vs := vs1) (g := g1) (fe := fe) (tt := bYes) (δ := δ1) (φ := φ x) (p := fun _ => true) (w := wipeE ρ3 vs1) ys acc (fun y hy => by
      obtain ⟨ρ4, pv, a1, a2, a3, a4⟩ := h3 y hy
      exact ⟨ρ4, pv, a1, rfl, fun _ => ⟨a2, a3⟩, a4⟩) (by omega)
    rw [List.filter_eq_self.mpr fun _ _ => rfl] at hin
    show (match lcGo vs1 g1 bYes fe (ys.map δ1) acc (wipeE ρ3 vs1) with | some (.ok acc', ρ4) => lcGo2 vs vs1 g bYes fi1 g1 bYes fe (xs.map δ) acc' (wipeE ρ4 vs) | _ => none) = _
    rw [hin]
    show lcGo2 vs vs1 g bYes fi1 g1 bYes fe (xs.map δ) (acc ++ ys.map (φ x)) (wipeE (wipeE ρ3 vs1) vs) = _
    rw [h4, lcGo2_ok xs (acc ++ ys.map (φ x)) (fun z hz => h z (List.mem_cons_of_mem _ hz)) (by rw [List.length_append, List.length_map]; omega), List.flatMap_cons, List.append_assoc]
theorem e_lc2 {δ : α → D} {δ1 : β → D} {φ : α → β → D} {xs : List α} {ys : List β} (h : fi ρ = some (.ok ds, ρ1)) (hds : ds = xs.map δ) (hl : xs.length * ys.length ≤ sizeLine) (hu : unwipe ρ1 (wipeE ρ1 vs) vs = ρ1)
    (step : ∀ x ∈ xs, ∃ ρ2 ρ3, g (δ x) (wipeE ρ1 vs) = some ρ2 ∧ fi1 ρ2 = some (.ok (ys.map δ1), ρ3) ∧ (∀ y ∈ ys, ∃ ρ4 pv, g1 (δ1 y) (wipeE ρ3 vs1) = some ρ4 ∧ fe ρ4 = some (.ok pv, ρ4) ∧ pv.tree = some (φ x y) ∧ wipeE ρ4 vs1 = wipeE ρ3 vs1) ∧ wipeE (wipeE ρ3 vs1) vs = wipeE ρ1 vs) :
    eLc2 vs vs1 fi g bYes fi1 g1 bYes fe ρ = some (.ok (.own (.lst (xs.flatMap fun x => ys.map (φ x)))), ρ1) := by
  subst hds
  unfold eLc2
  rw [mB_ok h]
  show (match lcGo2 vs vs1 g bYes fi1 g1 bYes fe (xs.map δ) [] (wipeE ρ1 vs) with | some (.ok acc, ρ') => some ((Except.ok (PV.own (OD.lst acc)) : Except Ex PV), unwipe ρ1 ρ' vs) | _ => none) = _
  rw [lcGo2_ok xs [] step (by simpa using hl), List.nil_append]
  show some (Except.ok (ε := Ex) (PV.own (OD.lst (xs.flatMap fun x => ys.map (φ x)))), unwipe ρ1 (wipeE ρ1 vs) vs) = _
  rw [hu]
end
/-! ### errors with a field; texts -/
section
variable {ρ ρ1 ρ2 : En} {f fb : M PV} {pv : PV} {d y : D} {i j c : Nat} {x : Ex} {l : List Nat} {ds es : List D}
theorem e_xf {a : Addr} (h : ρ.at i = some (.adr a)) (hd : x.ds[j]? = some d) : eXf i a x j ρ = some (.ok (.val d), ρ) := by
  unfold eXf; rw [h]; dsimp only; rw [if_pos rfl, hd]; rfl
theorem s_raiseF {ok : D → Bool} (h : f ρ = some (.ok pv, ρ1)) (ht : pv.tree = some d) (ho : ok d = true) : sRaiseF c ok f ρ = some (.error ⟨c, [d]⟩, ρ1) := by
  unfold sRaiseF
  rw [mB_ok h, ht]
  show (if ok d = true then fun ρ => some ((Except.error ⟨c, [d]⟩ : Except Ex Fl), ρ) else fun _ => none) ρ1 = _
  rw [if_pos ho]
theorem e_m1 {g : Str → D → Option D} {fa : Inr} {z : Str} (ha : fa ρ = some (.str z)) (hb : fb ρ = some (.ok pv, ρ1)) (ht : pv.tree = some y) (hg : g z y = some d) : eM1 g fa fb ρ = some (.ok (.val d), ρ1) := by
  unfold eM1
  rw [ha]
  show mB fb _ ρ = _
  rw [mB_ok hb, ht]
  show mB (mO (g z y)) _ ρ1 = _
  rw [hg]; rfl
theorem s_ext {ds' : List D} (h0 : lstAt ρ i = true) (h : f ρ = some (.ok (.own (.lst es)), ρ1)) (h1 : ρ1.at i = some (.own (.lst ds))) (hl : ds.length + es.length ≤ sizeLine) (hd : ds ++ es = ds') (h2 : ρ1.set i (some (.own (.lst ds'))) = ρ2) : sExt i f ρ = some (.ok .next, ρ2) := by
  unfold sExt
  rw [if_pos h0, mB_ok h]
  show mB (chg i fun ds => if ds.length + es.length ≤ sizeLine then some (ds ++ es) else none) _ ρ1 = _
  rw [mB_ok (show chg i (fun ds => if ds.length + es.length ≤ sizeLine then some (ds ++ es) else none) ρ1 = some (.ok (), ρ2) from by
    unfold chg
    rw [h1]
    dsimp only
    rw [if_pos hl, hd]
    show some (Except.ok (ε := Ex) (), ρ1.set i (some (.own (.lst ds')))) = _
    rw [h2])]
  rfl
theorem lst_w (h : l.length ≤ 1000) : dLstS (.str (sW l)) = some (.own (.lst (l.map fun c => .str (sW [c])))) := by
  show (if (sW l).length ≤ sizeLine then some (PV.own (.lst ((chars (sW l)).map D.str))) else none) = _
  rw [if_pos (show (sW l).length ≤ sizeLine from Nat.le_trans h (by decide))]
  unfold chars
  rw [List.map_map]; rfl
theorem rev_w (h : l.length ≤ 1000) : dRevS (.str (sW l)) = some (.str (sW l.reverse)) := by
  show (if (sW l).length ≤ sizeLine then some (D.str (revS (sW l))) else none) = _
  rw [if_pos (show (sW l).length ≤ sizeLine from Nat.le_trans h (by decide))]; rfl
theorem i_rev (h : f ρ = some (.ok pv, ρ1)) (ht : pv.tree = some (.lst ds)) : itRev f ρ = some (.ok ds.reverse, ρ1) := by
  unfold itRev; rw [mB_ok h, ht]; rfl
theorem loop_er {g : Tg} {body : M Fl} {ds : List D} (h : g d ρ = some ρ1) (h2 : body ρ1 = some (.error x, ρ2)) : loop g body (d :: ds) ρ = some (.error x, ρ2) := by
  unfold loop
  rw [h]
  dsimp only
  rw [mB_er h2]
theorem e_bin_er {o : D → D → Option D} (h1 : f ρ = some (.error x, ρ1)) : eBin o f fb ρ = some (.error x, ρ1) := by unfold eBin; rw [mB_er h1]
theorem e_bin_er2 {o : D → D → Option D} (h1 : f ρ = some (.ok pv, ρ1)) (t1 : pv.tree = some d) (h2 : fb ρ1 = some (.error x, ρ2)) : eBin o f fb ρ = some (.error x, ρ2) := by
  unfold eBin; rw [mB_ok h1, t1]
  show mB fb _ ρ1 = _
  rw [mB_er h2]
theorem e_make_er {n : Nat} {den : Den} {a : M (List Ag)} (h : a ρ = some (.error x, ρ1)) : eMake c n den a ρ = some (.error x, ρ1) := by unfold eMake; rw [mB_er h]
end
/-- a list drawn from a state that is lent -/
theorem e_draw {α σ : Type} {E : σ → Option PV → En} {F : α → D} {Q : α → Prop} {vs : List Nat} {g : Tg} {fe : M PV} {fi : M (List D)} {ds : List D} {ρ : En} {z0 : σ} (h : fi ρ = some (.ok ds, E z0 none)) (hw : wipeE (E z0 none) vs = E z0 none) (hl : ds.length ≤ sizeLine)
    (step : ∀ d z, d ∈ ds → ∃ a y pv, Q a ∧ g d (E z none) = some (E z (some (.val d))) ∧ fe (E z (some (.val d))) = some (.ok pv, E y (some (.val d))) ∧ pv.tree = some (F a) ∧ wipeE (E y (some (.val d))) vs = E y none) (hu : ∀ y, unwipe (E z0 none) (E y none) vs = E y none) :
    ∃ (as : List α) (y : σ), as.length = ds.length ∧ (∀ a ∈ as, Q a) ∧ eLc vs fi g bYes fe ρ = some (.ok (.own (.lst (as.map F))), E y none) := by
  obtain ⟨acc', w', q, as, y, rfl, hal, haq, rfl⟩ := e_lcS (vs := vs) (g := g) (fe := fe) (fi := fi) (ds := ds) (ρ := ρ) (ρ1 := E z0 none)
    (fun j acc w => ∃ (as : List α) (y : σ), acc = as.map F ∧ as.length = j ∧ (∀ a ∈ as, Q a) ∧ w = E y none) h ⟨[], z0, rfl, rfl, (fun _ h => nomatch h), hw⟩ hl (by
      rintro j d acc w hj ⟨as, z, rfl, hal, haq, rfl⟩
      obtain ⟨a, y, pv, ha, h1, h2, h3, h4⟩ := step d z (List.mem_of_getElem? hj)
      refine ⟨_, _, pv, F a, h1, h2, h3, as ++ [a], y, by rw [List.map_append]; rfl, by rw [List.length_append, hal]; rfl, ?_, h4⟩
      intro x hx
      rcases List.mem_append.mp hx with h | h
      · exact haq x h
      · rw [List.mem_singleton.mp h]; exact ha)
  exact ⟨as, y, hal, haq, by rw [q, hu]⟩
theorem list_fun {α : Type} {F : α → D} {as : List α} {n : Nat} (x0 : α) (h : as.length = n) : as.map F = (List.range n).map fun i => F (as.getD i x0) := by
  refine List.ext_getElem? fun i => ?_
  rw [List.getElem?_map, List.getElem?_map]
  by_cases hi : i < n
  · rw [List.getElem?_range hi, List.getElem?_eq_getElem (by omega)]
    show some (F as[i]) = some (F (as.getD i x0))
    rw [List.getD_eq_getElem?_getD, List.getElem?_eq_getElem (by omega)]; rfl
  · rw [List.getElem?_eq_none (by omega), List.getElem?_eq_none (by rw [List.length_range]; omega)]; rfl
theorem getD_all {α : Type} {Q : α → Prop} {as : List α} {x0 : α} (h : ∀ a ∈ as, Q a) (h0 : Q x0) (i : Nat) : Q (as.getD i x0) := by
  rw [List.getD_eq_getElem?_getD]
  cases hi : as[i]? with
  | none => exact h0
  | some z => exact h z (List.mem_of_getElem? hi)
theorem e_repL {f : M PV} {g : Inr} {ρ ρ1 : En} {ds : List D} {k : Nat} (h : f ρ = some (.ok (.own (.lst ds)), ρ1)) (hg : g ρ1 = some (.int (k : Int))) (hk : k ≤ 1000) (hl : ds.length ≤ 1000) : eRepL f g ρ = some (.ok (.own (.lst (List.replicate k ds).flatten)), ρ1) := by
  unfold eRepL
  rw [mB_ok h]
  show (match g ρ1 with
    | some (.int k) => if -1000 ≤ k ∧ k ≤ 1000 ∧ ds.length * k.toNat ≤ sizeLine then some ((Except.ok (PV.own (OD.lst (List.replicate k.toNat ds).flatten)) : Except Ex PV), ρ1) else none
    | _ => none) = _
  rw [hg]
  refine if_pos ⟨by omega, by omega, ?_⟩
  rw [Int.toNat_natCast]
  exact Nat.le_trans (Nat.mul_le_mul hl hk) (by decide)
theorem e_andE {f g : M PV} {ρ ρ1 ρ2 : En} {b b' : Bool} (h1 : f ρ = some (.ok (.val (.bl b)), ρ1)) (h2 : b = true → g ρ1 = some (.ok (.val (.bl b')), ρ2)) (hb : b = true := by rfl) : eAnd f g ρ = some (.ok (.val (.bl b')), ρ2) := by
  subst hb
  unfold eAnd; rw [mB_ok h1]
  exact h2 rfl
end Pl
set_option Elab.async false
set_option linter.all false
set_option maxRecDepth 100000
set_option maxHeartbeats 4000000
namespace LW
open PySem PySem.Spec L2 Pl
open PyProof.Rows hiding St
/-! ### the text by places -/
def top (i : Nat) : Stmt := PySem.Challenge.pw_wordweight_k10_weights_of_machines.main.body.getD i (.Pass ⟨0, 0, 0, 0⟩)
abbrev s_Refused_init : Stmt := inClass (top 6) 0
abbrev s_law_state : Stmt := top 28
abbrev s_law_take : Stmt := top 29
abbrev s_law_letters : Stmt := top 33
abbrev s_law_gcd : Stmt := top 24
abbrev s_law_frac : Stmt := top 25
abbrev s_law_item : Stmt := top 32
abbrev s_law_square : Stmt := top 35
abbrev s_law_plan : Stmt := top 36
abbrev s_Ratio_init : Stmt := inClass (top 10) 0
abbrev s_law_ratios : Stmt := top 37
abbrev s_Matrix_init : Stmt := inClass (top 15) 0
abbrev s_Alphabet_init : Stmt := inClass (top 22) 0
abbrev s_Matrix_len : Stmt := inClass (top 15) 1
abbrev s_Machine_init : Stmt := inClass (top 18) 0
abbrev s_law_machine : Stmt := top 38
abbrev s_law_pair : Stmt := top 30
abbrev s_law_pairs : Stmt := top 31
abbrev s_law_word : Stmt := top 34
abbrev s_law_mul : Stmt := top 27
abbrev s_law_add : Stmt := top 26
abbrev s_law_dot : Stmt := top 39
abbrev s_law_after : Stmt := top 40
abbrev s_law_weight_of : Stmt := top 42
abbrev s_law_before : Stmt := top 41
abbrev s_Alphabet_index : Stmt := inClass (top 22) 5
abbrev s_Ratio_add : Stmt := inClass (top 10) 1
abbrev s_Ratio_mul : Stmt := inClass (top 10) 3
abbrev s_combine : Stmt := top 14
abbrev s_Matrix_before : Stmt := inClass (top 15) 8
abbrev s_Machine_row_after : Stmt := inClass (top 18) 3
abbrev s_dot : Stmt := top 13
abbrev s_Machine_weight : Stmt := inClass (top 18) 5
abbrev s_Matrix_times : Stmt := inClass (top 15) 10
abbrev s_Machine_column_before : Stmt := inClass (top 18) 4
abbrev s_law_refused : Stmt := top 43
abbrev s_law_bad : Stmt := top 44
abbrev s_Machine_size : Stmt := inClass (top 18) 2
abbrev s_Machine_call : Stmt := inClass (top 18) 6
abbrev s_law : Stmt := top 45
/-! ### the classes -/
def GG (c_Ratio c_Matrix c_Alphabet c_Machine c_ZeroDivisor c_Malformed c_Refused : Addr) : Nat → Option CI
  | 0 => some ⟨c_Ratio, ["n", "d"]⟩
  | 1 => some ⟨c_Matrix, ["rows", "width"]⟩
  | 2 => some ⟨c_Alphabet, ["letters"]⟩
  | 3 => some ⟨c_Machine, ["alphabet", "row", "matrices", "column"]⟩
  | 100 => some ⟨c_ZeroDivisor, []⟩
  | 101 => some ⟨c_Malformed, []⟩
  | 102 => some ⟨c_Refused, ["reason"]⟩
  | _ => none
/-! ### what the top has written -/
structure Tx (K : PySem.W.Frag) (mg : Str → Option Value) (a_Refused_init a_law_state a_law_take a_law_letters a_law_gcd a_law_frac a_law_item a_law_square a_law_plan a_Ratio_init a_law_ratios a_Matrix_init a_Alphabet_init a_Matrix_len a_Machine_init a_law_machine a_law_pair a_law_pairs a_law_word a_law_mul a_law_add a_law_dot a_law_after a_law_weight_of a_law_before a_Alphabet_index a_Ratio_add a_Ratio_mul a_combine a_Matrix_before a_Machine_row_after a_dot a_Machine_weight a_Matrix_times a_Machine_column_before a_law_refused a_law_bad a_Machine_size a_Machine_call a_law c_Ratio c_Matrix c_Alphabet c_Machine c_Fault c_Malformed c_Refused c_ZeroDivisor t_MOST_LETTERS t_SMALL : Addr) : Prop where
  g_law_state : mg "_law_state" = some (.ref a_law_state)
  g_law_take : mg "_law_take" = some (.ref a_law_take)
  g_law_letters : mg "_law_letters" = some (.ref a_law_letters)
  g_law_gcd : mg "_law_gcd" = some (.ref a_law_gcd)
  g_law_frac : mg "_law_frac" = some (.ref a_law_frac)
  g_law_item : mg "_law_item" = some (.ref a_law_item)
  g_law_square : mg "_law_square" = some (.ref a_law_square)
  g_law_plan : mg "_law_plan" = some (.ref a_law_plan)
  g_law_ratios : mg "_law_ratios" = some (.ref a_law_ratios)
  g_law_machine : mg "_law_machine" = some (.ref a_law_machine)
  g_law_pair : mg "_law_pair" = some (.ref a_law_pair)
  g_law_pairs : mg "_law_pairs" = some (.ref a_law_pairs)
  g_law_word : mg "_law_word" = some (.ref a_law_word)
  g_law_mul : mg "_law_mul" = some (.ref a_law_mul)
  g_law_add : mg "_law_add" = some (.ref a_law_add)
  g_law_dot : mg "_law_dot" = some (.ref a_law_dot)
  g_law_after : mg "_law_after" = some (.ref a_law_after)
  g_law_weight_of : mg "_law_weight_of" = some (.ref a_law_weight_of)
  g_law_before : mg "_law_before" = some (.ref a_law_before)
  g_combine : mg "combine" = some (.ref a_combine)
  g_dot : mg "dot" = some (.ref a_dot)
  g_law_refused : mg "_law_refused" = some (.ref a_law_refused)
  g_law_bad : mg "_law_bad" = some (.ref a_law_bad)
  g_law : mg "law" = some (.ref a_law)
  g_Ratio : mg "Ratio" = some (.ref c_Ratio)
  g_Matrix : mg "Matrix" = some (.ref c_Matrix)
  g_Alphabet : mg "Alphabet" = some (.ref c_Alphabet)
  g_Machine : mg "Machine" = some (.ref c_Machine)
  g_Fault : mg "Fault" = some (.ref c_Fault)
  g_Malformed : mg "Malformed" = some (.ref c_Malformed)
  g_Refused : mg "Refused" = some (.ref c_Refused)
  g_ZeroDivisor : mg "ZeroDivisor" = some (.ref c_ZeroDivisor)
  ma_Ratio_init : PySem.W.findIn K (.ref c_Ratio) "__init__" = some (some (.ref a_Ratio_init))
  mf_Ratio_init : PySem.W.isFn K (.ref a_Ratio_init) = true
  mk_Ratio_init : PySem.W.keepIn K (.ref a_Ratio_init) = true
  ma_Matrix_init : PySem.W.findIn K (.ref c_Matrix) "__init__" = some (some (.ref a_Matrix_init))
  mf_Matrix_init : PySem.W.isFn K (.ref a_Matrix_init) = true
  mk_Matrix_init : PySem.W.keepIn K (.ref a_Matrix_init) = true
  ma_Alphabet_init : PySem.W.findIn K (.ref c_Alphabet) "__init__" = some (some (.ref a_Alphabet_init))
  mf_Alphabet_init : PySem.W.isFn K (.ref a_Alphabet_init) = true
  mk_Alphabet_init : PySem.W.keepIn K (.ref a_Alphabet_init) = true
  ma_Matrix_len : PySem.W.findIn K (.ref c_Matrix) "__len__" = some (some (.ref a_Matrix_len))
  mf_Matrix_len : PySem.W.isFn K (.ref a_Matrix_len) = true
  mk_Matrix_len : PySem.W.keepIn K (.ref a_Matrix_len) = true
  ma_Machine_init : PySem.W.findIn K (.ref c_Machine) "__init__" = some (some (.ref a_Machine_init))
  mf_Machine_init : PySem.W.isFn K (.ref a_Machine_init) = true
  mk_Machine_init : PySem.W.keepIn K (.ref a_Machine_init) = true
  ma_Alphabet_index : PySem.W.findIn K (.ref c_Alphabet) "index" = some (some (.ref a_Alphabet_index))
  mf_Alphabet_index : PySem.W.isFn K (.ref a_Alphabet_index) = true
  mk_Alphabet_index : PySem.W.keepIn K (.ref a_Alphabet_index) = true
  ma_Ratio_add : PySem.W.findIn K (.ref c_Ratio) "__add__" = some (some (.ref a_Ratio_add))
  mf_Ratio_add : PySem.W.isFn K (.ref a_Ratio_add) = true
  mk_Ratio_add : PySem.W.keepIn K (.ref a_Ratio_add) = true
  ma_Ratio_mul : PySem.W.findIn K (.ref c_Ratio) "__mul__" = some (some (.ref a_Ratio_mul))
  mf_Ratio_mul : PySem.W.isFn K (.ref a_Ratio_mul) = true
  mk_Ratio_mul : PySem.W.keepIn K (.ref a_Ratio_mul) = true
  ma_Matrix_before : PySem.W.findIn K (.ref c_Matrix) "before" = some (some (.ref a_Matrix_before))
  mf_Matrix_before : PySem.W.isFn K (.ref a_Matrix_before) = true
  mk_Matrix_before : PySem.W.keepIn K (.ref a_Matrix_before) = true
  ma_Machine_row_after : PySem.W.findIn K (.ref c_Machine) "row_after" = some (some (.ref a_Machine_row_after))
  mf_Machine_row_after : PySem.W.isFn K (.ref a_Machine_row_after) = true
  mk_Machine_row_after : PySem.W.keepIn K (.ref a_Machine_row_after) = true
  ma_Machine_weight : PySem.W.findIn K (.ref c_Machine) "weight" = some (some (.ref a_Machine_weight))
  mf_Machine_weight : PySem.W.isFn K (.ref a_Machine_weight) = true
  mk_Machine_weight : PySem.W.keepIn K (.ref a_Machine_weight) = true
  ma_Matrix_times : PySem.W.findIn K (.ref c_Matrix) "times" = some (some (.ref a_Matrix_times))
  mf_Matrix_times : PySem.W.isFn K (.ref a_Matrix_times) = true
  mk_Matrix_times : PySem.W.keepIn K (.ref a_Matrix_times) = true
  ma_Machine_column_before : PySem.W.findIn K (.ref c_Machine) "column_before" = some (some (.ref a_Machine_column_before))
  mf_Machine_column_before : PySem.W.isFn K (.ref a_Machine_column_before) = true
  mk_Machine_column_before : PySem.W.keepIn K (.ref a_Machine_column_before) = true
  ma_Machine_size : PySem.W.findIn K (.ref c_Machine) "size" = some (some (.ref a_Machine_size))
  mf_Machine_size : PySem.W.isFn K (.ref a_Machine_size) = true
  mk_Machine_size : PySem.W.keepIn K (.ref a_Machine_size) = true
  ma_Machine_call : PySem.W.findIn K (.ref c_Machine) "__call__" = some (some (.ref a_Machine_call))
  mf_Machine_call : PySem.W.isFn K (.ref a_Machine_call) = true
  fi_Machine_call : PySem.W.fnIn K a_Machine_call = true
  mk_Machine_call : PySem.W.keepIn K (.ref a_Machine_call) = true
  er_Refused : ERow PySem.Challenge.pw_wordweight_k10_weights_of_machines.main.file K "Refused.__init__" s_Refused_init c_Refused a_Refused_init "reason" "reason"
  f_law_state : FnT K "_law_state" "_law_state" s_law_state a_law_state ["script"] []
  f_law_take : FnT K "_law_take" "_law_take" s_law_take a_law_take ["state", "m"] []
  f_law_letters : FnT K "_law_letters" "_law_letters" s_law_letters a_law_letters ["state", "most"] []
  f_law_gcd : FnT K "_law_gcd" "_law_gcd" s_law_gcd a_law_gcd ["a", "b"] []
  f_law_frac : FnT K "_law_frac" "_law_frac" s_law_frac a_law_frac ["n", "d"] []
  f_law_item : FnT K "_law_item" "_law_item" s_law_item a_law_item ["state"] []
  f_law_square : FnT K "_law_square" "_law_square" s_law_square a_law_square ["state", "n"] []
  f_law_plan : FnT K "_law_plan" "_law_plan" s_law_plan a_law_plan ["state", "letters", "most"] []
  f_Ratio_init : FnT K "__init__" "Ratio.__init__" s_Ratio_init a_Ratio_init ["self", "n", "d"] [V.int 1]
  f_law_ratios : FnT K "_law_ratios" "_law_ratios" s_law_ratios a_law_ratios ["items"] []
  f_Matrix_init : FnT K "__init__" "Matrix.__init__" s_Matrix_init a_Matrix_init ["self", "rows", "width"] []
  f_Alphabet_init : FnT K "__init__" "Alphabet.__init__" s_Alphabet_init a_Alphabet_init ["self", "letters"] []
  f_Matrix_len : FnT K "__len__" "Matrix.__len__" s_Matrix_len a_Matrix_len ["self"] []
  f_Machine_init : FnT K "__init__" "Machine.__init__" s_Machine_init a_Machine_init ["self", "alphabet", "row", "matrices", "column"] []
  f_law_machine : FnT K "_law_machine" "_law_machine" s_law_machine a_law_machine ["plan"] []
  f_law_pair : FnT K "_law_pair" "_law_pair" s_law_pair a_law_pair ["value"] []
  f_law_pairs : FnT K "_law_pairs" "_law_pairs" s_law_pairs a_law_pairs ["values"] []
  f_law_word : FnT K "_law_word" "_law_word" s_law_word a_law_word ["state", "letters", "most"] []
  f_law_mul : FnT K "_law_mul" "_law_mul" s_law_mul a_law_mul ["a", "b"] []
  f_law_add : FnT K "_law_add" "_law_add" s_law_add a_law_add ["a", "b"] []
  f_law_dot : FnT K "_law_dot" "_law_dot" s_law_dot a_law_dot ["a", "b"] []
  f_law_after : FnT K "_law_after" "_law_after" s_law_after a_law_after ["plan", "word"] []
  f_law_weight_of : FnT K "_law_weight_of" "_law_weight_of" s_law_weight_of a_law_weight_of ["plan", "word"] []
  f_law_before : FnT K "_law_before" "_law_before" s_law_before a_law_before ["plan", "word"] []
  f_Alphabet_index : FnT K "index" "Alphabet.index" s_Alphabet_index a_Alphabet_index ["self", "letter"] []
  f_Ratio_add : FnT K "__add__" "Ratio.__add__" s_Ratio_add a_Ratio_add ["self", "other"] []
  f_Ratio_mul : FnT K "__mul__" "Ratio.__mul__" s_Ratio_mul a_Ratio_mul ["self", "other"] []
  f_combine : FnT K "combine" "combine" s_combine a_combine ["rows", "width", "weights"] []
  f_Matrix_before : FnT K "before" "Matrix.before" s_Matrix_before a_Matrix_before ["self", "row"] []
  f_Machine_row_after : FnT K "row_after" "Machine.row_after" s_Machine_row_after a_Machine_row_after ["self", "word"] []
  f_dot : FnT K "dot" "dot" s_dot a_dot ["a", "b"] []
  f_Machine_weight : FnT K "weight" "Machine.weight" s_Machine_weight a_Machine_weight ["self", "word"] []
  f_Matrix_times : FnT K "times" "Matrix.times" s_Matrix_times a_Matrix_times ["self", "x"] []
  f_Machine_column_before : FnT K "column_before" "Machine.column_before" s_Machine_column_before a_Machine_column_before ["self", "word"] []
  f_law_refused : FnT K "_law_refused" "_law_refused" s_law_refused a_law_refused ["machine"] []
  f_law_bad : FnT K "_law_bad" "_law_bad" s_law_bad a_law_bad ["machine", "pick"] []
  f_Machine_size : FnT K "size" "Machine.size" s_Machine_size a_Machine_size ["self"] []
  f_Machine_call : FnT K "__call__" "Machine.__call__" s_Machine_call a_Machine_call ["self", "word"] []
  f_law : FnT K "law" "law" s_law a_law ["script"] []
  z_abs : mg "abs" = none
  z_bool : mg "bool" = none
  z_int : mg "int" = none
  z_isinstance : mg "isinstance" = none
  z_len : mg "len" = none
  z_list : mg "list" = none
  z_range : mg "range" = none
  z_reversed : mg "reversed" = none
  z_str : mg "str" = none
  z_super : mg "super" = none
  z_tuple : mg "tuple" = none
  z_zip : mg "zip" = none
  v_MOST_LETTERS : mg "MOST_LETTERS" = some (.int 4 t_MOST_LETTERS)
  v_SMALL : mg "SMALL" = some (.str "abcdefghijklmnopqrstuvwxyz" t_SMALL)
  g_gcd : mg "gcd" = some (.builtin "math.gcd")
  pg_Ratio : PySem.W.plainGet K c_Ratio Str.empty = true
  hd_Ratio : PySem.W.hasDictIn K c_Ratio = true
  po_Ratio : PySem.W.plainOver K c_Ratio = true
  sa_Ratio : PySem.W.findIn K (.ref c_Ratio) "__setattr__" = some (some (.builtin "object.__setattr__"))
  ma_Ratio : PySem.W.makesIn K c_Ratio = true
  kp_Ratio : PySem.W.keepIn K (.ref c_Ratio) = true
  n_Ratio_n : PySem.W.findIn K (.ref c_Ratio) "n" = some none
  n_Ratio_d : PySem.W.findIn K (.ref c_Ratio) "d" = some none
  cc_Ratio : PySem.W.findIn K (.ref c_Ratio) "__class__" = some (some (.builtin "object.__class__"))
  mo_Ratio : PySem.W.mroIn K c_Ratio (.type "object") = some true
  ic_Ratio : PySem.W.isClsIn K c_Ratio = true
  tc_Ratio : PySem.W.typeIn K (.ref c_Ratio) = some (.type "type")
  ob_Ratio_NoneType : PySem.W.subIn K (.ref c_Ratio) (.type "NoneType") = some false
  bo_Ratio_NoneType : PySem.W.subIn K (.type "NoneType") (.ref c_Ratio) = some false
  ob_Ratio_bool : PySem.W.subIn K (.ref c_Ratio) (.type "bool") = some false
  bo_Ratio_bool : PySem.W.subIn K (.type "bool") (.ref c_Ratio) = some false
  ob_Ratio_int : PySem.W.subIn K (.ref c_Ratio) (.type "int") = some false
  bo_Ratio_int : PySem.W.subIn K (.type "int") (.ref c_Ratio) = some false
  ob_Ratio_str : PySem.W.subIn K (.ref c_Ratio) (.type "str") = some false
  bo_Ratio_str : PySem.W.subIn K (.type "str") (.ref c_Ratio) = some false
  ob_Ratio_tuple : PySem.W.subIn K (.ref c_Ratio) (.type "tuple") = some false
  bo_Ratio_tuple : PySem.W.subIn K (.type "tuple") (.ref c_Ratio) = some false
  ob_Ratio_list : PySem.W.subIn K (.ref c_Ratio) (.type "list") = some false
  bo_Ratio_list : PySem.W.subIn K (.type "list") (.ref c_Ratio) = some false
  ob_Ratio_dict : PySem.W.subIn K (.ref c_Ratio) (.type "dict") = some false
  bo_Ratio_dict : PySem.W.subIn K (.type "dict") (.ref c_Ratio) = some false
  ne_Ratio : PySem.W.findIn K (.ref c_Ratio) "__ne__" = some (some (.builtin "object.__ne__"))
  sf_Ratio : PySem.W.selfFirst K c_Ratio = true
  oo_Ratio_Matrix : PySem.W.subIn K (.ref c_Ratio) (.ref c_Matrix) = some false
  on_Ratio_Matrix : ¬ c_Ratio = c_Matrix
  oo_Ratio_Alphabet : PySem.W.subIn K (.ref c_Ratio) (.ref c_Alphabet) = some false
  on_Ratio_Alphabet : ¬ c_Ratio = c_Alphabet
  oo_Ratio_Machine : PySem.W.subIn K (.ref c_Ratio) (.ref c_Machine) = some false
  on_Ratio_Machine : ¬ c_Ratio = c_Machine
  pg_Matrix : PySem.W.plainGet K c_Matrix Str.empty = true
  hd_Matrix : PySem.W.hasDictIn K c_Matrix = true
  po_Matrix : PySem.W.plainOver K c_Matrix = true
  sa_Matrix : PySem.W.findIn K (.ref c_Matrix) "__setattr__" = some (some (.builtin "object.__setattr__"))
  ma_Matrix : PySem.W.makesIn K c_Matrix = true
  kp_Matrix : PySem.W.keepIn K (.ref c_Matrix) = true
  n_Matrix_rows : PySem.W.findIn K (.ref c_Matrix) "rows" = some none
  n_Matrix_width : PySem.W.findIn K (.ref c_Matrix) "width" = some none
  cc_Matrix : PySem.W.findIn K (.ref c_Matrix) "__class__" = some (some (.builtin "object.__class__"))
  mo_Matrix : PySem.W.mroIn K c_Matrix (.type "object") = some true
  ic_Matrix : PySem.W.isClsIn K c_Matrix = true
  tc_Matrix : PySem.W.typeIn K (.ref c_Matrix) = some (.type "type")
  ob_Matrix_NoneType : PySem.W.subIn K (.ref c_Matrix) (.type "NoneType") = some false
  bo_Matrix_NoneType : PySem.W.subIn K (.type "NoneType") (.ref c_Matrix) = some false
  ob_Matrix_bool : PySem.W.subIn K (.ref c_Matrix) (.type "bool") = some false
  bo_Matrix_bool : PySem.W.subIn K (.type "bool") (.ref c_Matrix) = some false
  ob_Matrix_int : PySem.W.subIn K (.ref c_Matrix) (.type "int") = some false
  bo_Matrix_int : PySem.W.subIn K (.type "int") (.ref c_Matrix) = some false
  ob_Matrix_str : PySem.W.subIn K (.ref c_Matrix) (.type "str") = some false
  bo_Matrix_str : PySem.W.subIn K (.type "str") (.ref c_Matrix) = some false
  ob_Matrix_tuple : PySem.W.subIn K (.ref c_Matrix) (.type "tuple") = some false
  bo_Matrix_tuple : PySem.W.subIn K (.type "tuple") (.ref c_Matrix) = some false
  ob_Matrix_list : PySem.W.subIn K (.ref c_Matrix) (.type "list") = some false
  bo_Matrix_list : PySem.W.subIn K (.type "list") (.ref c_Matrix) = some false
  ob_Matrix_dict : PySem.W.subIn K (.ref c_Matrix) (.type "dict") = some false
  bo_Matrix_dict : PySem.W.subIn K (.type "dict") (.ref c_Matrix) = some false
  ne_Matrix : PySem.W.findIn K (.ref c_Matrix) "__ne__" = some (some (.builtin "object.__ne__"))
  sf_Matrix : PySem.W.selfFirst K c_Matrix = true
  oo_Matrix_Ratio : PySem.W.subIn K (.ref c_Matrix) (.ref c_Ratio) = some false
  on_Matrix_Ratio : ¬ c_Matrix = c_Ratio
  oo_Matrix_Alphabet : PySem.W.subIn K (.ref c_Matrix) (.ref c_Alphabet) = some false
  on_Matrix_Alphabet : ¬ c_Matrix = c_Alphabet
  oo_Matrix_Machine : PySem.W.subIn K (.ref c_Matrix) (.ref c_Machine) = some false
  on_Matrix_Machine : ¬ c_Matrix = c_Machine
  pg_Alphabet : PySem.W.plainGet K c_Alphabet Str.empty = true
  hd_Alphabet : PySem.W.hasDictIn K c_Alphabet = true
  po_Alphabet : PySem.W.plainOver K c_Alphabet = true
  sa_Alphabet : PySem.W.findIn K (.ref c_Alphabet) "__setattr__" = some (some (.builtin "object.__setattr__"))
  ma_Alphabet : PySem.W.makesIn K c_Alphabet = true
  kp_Alphabet : PySem.W.keepIn K (.ref c_Alphabet) = true
  n_Alphabet_letters : PySem.W.findIn K (.ref c_Alphabet) "letters" = some none
  cc_Alphabet : PySem.W.findIn K (.ref c_Alphabet) "__class__" = some (some (.builtin "object.__class__"))
  mo_Alphabet : PySem.W.mroIn K c_Alphabet (.type "object") = some true
  ic_Alphabet : PySem.W.isClsIn K c_Alphabet = true
  tc_Alphabet : PySem.W.typeIn K (.ref c_Alphabet) = some (.type "type")
  ob_Alphabet_NoneType : PySem.W.subIn K (.ref c_Alphabet) (.type "NoneType") = some false
  bo_Alphabet_NoneType : PySem.W.subIn K (.type "NoneType") (.ref c_Alphabet) = some false
  ob_Alphabet_bool : PySem.W.subIn K (.ref c_Alphabet) (.type "bool") = some false
  bo_Alphabet_bool : PySem.W.subIn K (.type "bool") (.ref c_Alphabet) = some false
  ob_Alphabet_int : PySem.W.subIn K (.ref c_Alphabet) (.type "int") = some false
  bo_Alphabet_int : PySem.W.subIn K (.type "int") (.ref c_Alphabet) = some false
  ob_Alphabet_str : PySem.W.subIn K (.ref c_Alphabet) (.type "str") = some false
  bo_Alphabet_str : PySem.W.subIn K (.type "str") (.ref c_Alphabet) = some false
  ob_Alphabet_tuple : PySem.W.subIn K (.ref c_Alphabet) (.type "tuple") = some false
  bo_Alphabet_tuple : PySem.W.subIn K (.type "tuple") (.ref c_Alphabet) = some false
  ob_Alphabet_list : PySem.W.subIn K (.ref c_Alphabet) (.type "list") = some false
  bo_Alphabet_list : PySem.W.subIn K (.type "list") (.ref c_Alphabet) = some false
  ob_Alphabet_dict : PySem.W.subIn K (.ref c_Alphabet) (.type "dict") = some false
  bo_Alphabet_dict : PySem.W.subIn K (.type "dict") (.ref c_Alphabet) = some false
  ne_Alphabet : PySem.W.findIn K (.ref c_Alphabet) "__ne__" = some (some (.builtin "object.__ne__"))
  sf_Alphabet : PySem.W.selfFirst K c_Alphabet = true
  oo_Alphabet_Ratio : PySem.W.subIn K (.ref c_Alphabet) (.ref c_Ratio) = some false
  on_Alphabet_Ratio : ¬ c_Alphabet = c_Ratio
  oo_Alphabet_Matrix : PySem.W.subIn K (.ref c_Alphabet) (.ref c_Matrix) = some false
  on_Alphabet_Matrix : ¬ c_Alphabet = c_Matrix
  oo_Alphabet_Machine : PySem.W.subIn K (.ref c_Alphabet) (.ref c_Machine) = some false
  on_Alphabet_Machine : ¬ c_Alphabet = c_Machine
  pg_Machine : PySem.W.plainGet K c_Machine Str.empty = true
  hd_Machine : PySem.W.hasDictIn K c_Machine = true
  po_Machine : PySem.W.plainOver K c_Machine = true
  sa_Machine : PySem.W.findIn K (.ref c_Machine) "__setattr__" = some (some (.builtin "object.__setattr__"))
  ma_Machine : PySem.W.makesIn K c_Machine = true
  kp_Machine : PySem.W.keepIn K (.ref c_Machine) = true
  n_Machine_alphabet : PySem.W.findIn K (.ref c_Machine) "alphabet" = some none
  n_Machine_row : PySem.W.findIn K (.ref c_Machine) "row" = some none
  n_Machine_matrices : PySem.W.findIn K (.ref c_Machine) "matrices" = some none
  n_Machine_column : PySem.W.findIn K (.ref c_Machine) "column" = some none
  cc_Machine : PySem.W.findIn K (.ref c_Machine) "__class__" = some (some (.builtin "object.__class__"))
  mo_Machine : PySem.W.mroIn K c_Machine (.type "object") = some true
  ic_Machine : PySem.W.isClsIn K c_Machine = true
  tc_Machine : PySem.W.typeIn K (.ref c_Machine) = some (.type "type")
  ob_Machine_NoneType : PySem.W.subIn K (.ref c_Machine) (.type "NoneType") = some false
  bo_Machine_NoneType : PySem.W.subIn K (.type "NoneType") (.ref c_Machine) = some false
  ob_Machine_bool : PySem.W.subIn K (.ref c_Machine) (.type "bool") = some false
  bo_Machine_bool : PySem.W.subIn K (.type "bool") (.ref c_Machine) = some false
  ob_Machine_int : PySem.W.subIn K (.ref c_Machine) (.type "int") = some false
  bo_Machine_int : PySem.W.subIn K (.type "int") (.ref c_Machine) = some false
  ob_Machine_str : PySem.W.subIn K (.ref c_Machine) (.type "str") = some false
  bo_Machine_str : PySem.W.subIn K (.type "str") (.ref c_Machine) = some false
  ob_Machine_tuple : PySem.W.subIn K (.ref c_Machine) (.type "tuple") = some false
  bo_Machine_tuple : PySem.W.subIn K (.type "tuple") (.ref c_Machine) = some false
  ob_Machine_list : PySem.W.subIn K (.ref c_Machine) (.type "list") = some false
  bo_Machine_list : PySem.W.subIn K (.type "list") (.ref c_Machine) = some false
  ob_Machine_dict : PySem.W.subIn K (.ref c_Machine) (.type "dict") = some false
  bo_Machine_dict : PySem.W.subIn K (.type "dict") (.ref c_Machine) = some false
  ne_Machine : PySem.W.findIn K (.ref c_Machine) "__ne__" = some (some (.builtin "object.__ne__"))
  sf_Machine : PySem.W.selfFirst K c_Machine = true
  oo_Machine_Ratio : PySem.W.subIn K (.ref c_Machine) (.ref c_Ratio) = some false
  on_Machine_Ratio : ¬ c_Machine = c_Ratio
  oo_Machine_Matrix : PySem.W.subIn K (.ref c_Machine) (.ref c_Matrix) = some false
  on_Machine_Matrix : ¬ c_Machine = c_Matrix
  oo_Machine_Alphabet : PySem.W.subIn K (.ref c_Machine) (.ref c_Alphabet) = some false
  on_Machine_Alphabet : ¬ c_Machine = c_Alphabet
  hn : PySem.W.specialIn K (.builtin "object.__class__") "__get__" = some (some (.builtin "getset_descriptor.__get__"))
  ht : PySem.W.takesIn K (.builtin "object.__class__") = some true
  ex_ZeroDivisor : PySem.W.excIn K c_ZeroDivisor [.type "ValueError", .type "Exception", .type "BaseException", .type "object"] "ValueError.__new__" = true
  kp_ZeroDivisor : PySem.W.keepIn K (.ref c_ZeroDivisor) = true
  ex_Malformed : PySem.W.excIn K c_Malformed [.type "ValueError", .type "Exception", .type "BaseException", .type "object"] "ValueError.__new__" = true
  kp_Malformed : PySem.W.keepIn K (.ref c_Malformed) = true
  eb_Fault : PySem.W.subIn K (.ref c_Fault) (.type "BaseException") = some true
  et_Fault : PySem.W.typeIn K (.ref c_Fault) = some (.type "type")
  ed_Fault : PySem.W.hasDictIn K c_Fault = true
  eb_Malformed : PySem.W.subIn K (.ref c_Malformed) (.type "BaseException") = some true
  et_Malformed : PySem.W.typeIn K (.ref c_Malformed) = some (.type "type")
  ed_Malformed : PySem.W.hasDictIn K c_Malformed = true
  eb_Refused : PySem.W.subIn K (.ref c_Refused) (.type "BaseException") = some true
  et_Refused : PySem.W.typeIn K (.ref c_Refused) = some (.type "type")
  ed_Refused : PySem.W.hasDictIn K c_Refused = true
  eb_ZeroDivisor : PySem.W.subIn K (.ref c_ZeroDivisor) (.type "BaseException") = some true
  et_ZeroDivisor : PySem.W.typeIn K (.ref c_ZeroDivisor) = some (.type "type")
  ed_ZeroDivisor : PySem.W.hasDictIn K c_ZeroDivisor = true
  xg_Malformed : PySem.W.findIn K (.ref c_Malformed) "__getattribute__" = some (some (.builtin "BaseException.__getattribute__"))
  xk_Malformed : PySem.W.findIn K (.ref c_Malformed) "__getattr__" = some none
  xa_Malformed : PySem.W.findIn K (.ref c_Malformed) "__class__" = some (some (.builtin "object.__class__"))
  xm_Malformed : PySem.W.mroIn K c_Malformed (.type "object") = some true
  xg_Refused : PySem.W.findIn K (.ref c_Refused) "__getattribute__" = some (some (.builtin "BaseException.__getattribute__"))
  xk_Refused : PySem.W.findIn K (.ref c_Refused) "__getattr__" = some none
  xa_Refused : PySem.W.findIn K (.ref c_Refused) "__class__" = some (some (.builtin "object.__class__"))
  xm_Refused : PySem.W.mroIn K c_Refused (.type "object") = some true
  es_Malformed_Fault : PySem.W.subIn K (.ref c_Malformed) (.ref c_Fault) = some true
  en_Malformed_Fault : ¬ c_Malformed = c_Fault
  es_Refused_Fault : PySem.W.subIn K (.ref c_Refused) (.ref c_Fault) = some true
  en_Refused_Fault : ¬ c_Refused = c_Fault
  es_ZeroDivisor_Fault : PySem.W.subIn K (.ref c_ZeroDivisor) (.ref c_Fault) = some true
  en_ZeroDivisor_Fault : ¬ c_ZeroDivisor = c_Fault
  ei_Fault : PySem.W.isClsIn K c_Fault = true
section
variable {P : Program} {w : World} {K : PySem.W.Frag} {mg : Str → Option Value} {base : Heap} {a_Refused_init a_law_state a_law_take a_law_letters a_law_gcd a_law_frac a_law_item a_law_square a_law_plan a_Ratio_init a_law_ratios a_Matrix_init a_Alphabet_init a_Matrix_len a_Machine_init a_law_machine a_law_pair a_law_pairs a_law_word a_law_mul a_law_add a_law_dot a_law_after a_law_weight_of a_law_before a_Alphabet_index a_Ratio_add a_Ratio_mul a_combine a_Matrix_before a_Machine_row_after a_dot a_Machine_weight a_Matrix_times a_Machine_column_before a_law_refused a_law_bad a_Machine_size a_Machine_call a_law c_Ratio c_Matrix c_Alphabet c_Machine c_Fault c_Malformed c_Refused c_ZeroDivisor t_MOST_LETTERS t_SMALL : Addr}
theorem gg_lt {c : Nat} {i : CI} (hc : c < 100) (h : (GG c_Ratio c_Matrix c_Alphabet c_Machine c_ZeroDivisor c_Malformed c_Refused) c = some i) : (c = 0 ∧ i = ⟨c_Ratio, ["n", "d"]⟩) ∨ (c = 1 ∧ i = ⟨c_Matrix, ["rows", "width"]⟩) ∨ (c = 2 ∧ i = ⟨c_Alphabet, ["letters"]⟩) ∨ (c = 3 ∧ i = ⟨c_Machine, ["alphabet", "row", "matrices", "column"]⟩) := by
  unfold GG at h
  split at h
  · cases h; exact Or.inl ⟨rfl, rfl⟩
  · cases h; exact Or.inr (Or.inl ⟨rfl, rfl⟩)
  · cases h; exact Or.inr (Or.inr (Or.inl ⟨rfl, rfl⟩))
  · cases h; exact Or.inr (Or.inr (Or.inr (⟨rfl, rfl⟩)))
  · exact absurd hc (by decide)
  · exact absurd hc (by decide)
  · exact absurd hc (by decide)
  · cases h
theorem Tx.gok (T : Tx K mg a_Refused_init a_law_state a_law_take a_law_letters a_law_gcd a_law_frac a_law_item a_law_square a_law_plan a_Ratio_init a_law_ratios a_Matrix_init a_Alphabet_init a_Matrix_len a_Machine_init a_law_machine a_law_pair a_law_pairs a_law_word a_law_mul a_law_add a_law_dot a_law_after a_law_weight_of a_law_before a_Alphabet_index a_Ratio_add a_Ratio_mul a_combine a_Matrix_before a_Machine_row_after a_dot a_Machine_weight a_Matrix_times a_Machine_column_before a_law_refused a_law_bad a_Machine_size a_Machine_call a_law c_Ratio c_Matrix c_Alphabet c_Machine c_Fault c_Malformed c_Refused c_ZeroDivisor t_MOST_LETTERS t_SMALL) : GOk K (GG c_Ratio c_Matrix c_Alphabet c_Machine c_ZeroDivisor c_Malformed c_Refused) where
  cls := fun c i hc h => by
    rcases gg_lt hc h with ⟨rfl, rfl⟩ | ⟨rfl, rfl⟩ | ⟨rfl, rfl⟩ | ⟨rfl, rfl⟩
    · exact ⟨T.pg_Ratio, T.hd_Ratio, T.po_Ratio, T.sa_Ratio⟩
    · exact ⟨T.pg_Matrix, T.hd_Matrix, T.po_Matrix, T.sa_Matrix⟩
    · exact ⟨T.pg_Alphabet, T.hd_Alphabet, T.po_Alphabet, T.sa_Alphabet⟩
    · exact ⟨T.pg_Machine, T.hd_Machine, T.po_Machine, T.sa_Machine⟩
  fld := fun c i f hc h hf => by
    rcases gg_lt hc h with ⟨rfl, rfl⟩ | ⟨rfl, rfl⟩ | ⟨rfl, rfl⟩ | ⟨rfl, rfl⟩
    · simp only [List.mem_cons, List.not_mem_nil, or_false] at hf; rcases hf with rfl | rfl
      · exact T.n_Ratio_n
      · exact T.n_Ratio_d
    · simp only [List.mem_cons, List.not_mem_nil, or_false] at hf; rcases hf with rfl | rfl
      · exact T.n_Matrix_rows
      · exact T.n_Matrix_width
    · simp only [List.mem_cons, List.not_mem_nil, or_false] at hf; rcases hf with rfl
      · exact T.n_Alphabet_letters
    · simp only [List.mem_cons, List.not_mem_nil, or_false] at hf; rcases hf with rfl | rfl | rfl | rfl
      · exact T.n_Machine_alphabet
      · exact T.n_Machine_row
      · exact T.n_Machine_matrices
      · exact T.n_Machine_column
  nd := fun c i hc h => by
    rcases gg_lt hc h with ⟨rfl, rfl⟩ | ⟨rfl, rfl⟩ | ⟨rfl, rfl⟩ | ⟨rfl, rfl⟩
    · show (["n", "d"] : List Str).Nodup
      decide +kernel
    · show (["rows", "width"] : List Str).Nodup
      decide +kernel
    · show (["letters"] : List Str).Nodup
      decide +kernel
    · show (["alphabet", "row", "matrices", "column"] : List Str).Nodup
      decide +kernel
  few := fun c i hc h => by
    rcases gg_lt hc h with ⟨rfl, rfl⟩ | ⟨rfl, rfl⟩ | ⟨rfl, rfl⟩ | ⟨rfl, rfl⟩
    · show 2 ≤ 100
      decide
    · show 2 ≤ 100
      decide
    · show 1 ≤ 100
      decide
    · show 4 ≤ 100
      decide
theorem Tx.gis (T : Tx K mg a_Refused_init a_law_state a_law_take a_law_letters a_law_gcd a_law_frac a_law_item a_law_square a_law_plan a_Ratio_init a_law_ratios a_Matrix_init a_Alphabet_init a_Matrix_len a_Machine_init a_law_machine a_law_pair a_law_pairs a_law_word a_law_mul a_law_add a_law_dot a_law_after a_law_weight_of a_law_before a_Alphabet_index a_Ratio_add a_Ratio_mul a_combine a_Matrix_before a_Machine_row_after a_dot a_Machine_weight a_Matrix_times a_Machine_column_before a_law_refused a_law_bad a_Machine_size a_Machine_call a_law c_Ratio c_Matrix c_Alphabet c_Machine c_Fault c_Malformed c_Refused c_ZeroDivisor t_MOST_LETTERS t_SMALL) : GIs K (GG c_Ratio c_Matrix c_Alphabet c_Machine c_ZeroDivisor c_Malformed c_Refused) where
  ha := fun c i hc h => by
    rcases gg_lt hc h with ⟨rfl, rfl⟩ | ⟨rfl, rfl⟩ | ⟨rfl, rfl⟩ | ⟨rfl, rfl⟩
    · exact T.cc_Ratio
    · exact T.cc_Matrix
    · exact T.cc_Alphabet
    · exact T.cc_Machine
  hn := T.hn
  ht := T.ht
  hm := fun c i hc h => by
    rcases gg_lt hc h with ⟨rfl, rfl⟩ | ⟨rfl, rfl⟩ | ⟨rfl, rfl⟩ | ⟨rfl, rfl⟩
    · exact T.mo_Ratio
    · exact T.mo_Matrix
    · exact T.mo_Alphabet
    · exact T.mo_Machine
theorem kit_own {t : Value} {C : Addr} {b : Bool} (hne : ¬ t = .ref C) (hi : PySem.W.isClsIn K C = true) (ht : PySem.W.typeIn K (.ref C) = some (.type "type")) (h : PySem.W.subIn K t (.ref C) = some b) : PySem.W.kitOne K t (.ref C) = some b := by
  have e : ((PySem.W.clsIn K C).isSome && PySem.W.typeIn K (.ref C) == some (.type "type")) = true := by rw [show (PySem.W.clsIn K C).isSome = true from hi, ht]; rfl
  unfold PySem.W.kitOne
  rw [beq_eq_false_iff_ne.mpr hne, if_neg Bool.false_ne_true]
  show (if ((PySem.W.clsIn K C).isSome && PySem.W.typeIn K (.ref C) == some (.type "type")) = true then PySem.W.subIn K t (.ref C) else none) = some b
  rw [if_pos e]; exact h
theorem kit_self {C : Addr} : PySem.W.kitOne K (.ref C) (.ref C) = some true := by unfold PySem.W.kitOne; rw [if_pos (beq_self_eq_true _)]
theorem kit_blt {C : Addr} {U : String} {b : Bool} (hm : PySem.W.kitMeta U = true) (h : PySem.W.subIn K (.ref C) (.type U) = some b) : PySem.W.kitOne K (.ref C) (.type U) = some b := by
  unfold PySem.W.kitOne
  rw [show ((Value.ref C == Value.type U) = false) from rfl, if_neg Bool.false_ne_true]
  show (if PySem.W.kitMeta U = true then PySem.W.subIn K (.ref C) (.type U) else none) = some b
  rw [if_pos hm]; exact h
theorem Tx.kit (T : Tx K mg a_Refused_init a_law_state a_law_take a_law_letters a_law_gcd a_law_frac a_law_item a_law_square a_law_plan a_Ratio_init a_law_ratios a_Matrix_init a_Alphabet_init a_Matrix_len a_Machine_init a_law_machine a_law_pair a_law_pairs a_law_word a_law_mul a_law_add a_law_dot a_law_after a_law_weight_of a_law_before a_Alphabet_index a_Ratio_add a_Ratio_mul a_combine a_Matrix_before a_Machine_row_after a_dot a_Machine_weight a_Matrix_times a_Machine_column_before a_law_refused a_law_bad a_Machine_size a_Machine_call a_law c_Ratio c_Matrix c_Alphabet c_Machine c_Fault c_Malformed c_Refused c_ZeroDivisor t_MOST_LETTERS t_SMALL) : GKit K (GG c_Ratio c_Matrix c_Alphabet c_Machine c_ZeroDivisor c_Malformed c_Refused) 4 where
  le := by decide
  ex := fun c hc => match c, hc with | 0, _ => ⟨_, rfl⟩ | 1, _ => ⟨_, rfl⟩ | 2, _ => ⟨_, rfl⟩ | 3, _ => ⟨_, rfl⟩
  oo := fun c c2 i i2 hc hc2 h h2 => by
    rcases gg_lt (Nat.lt_of_lt_of_le hc (by decide)) h with ⟨rfl, rfl⟩ | ⟨rfl, rfl⟩ | ⟨rfl, rfl⟩ | ⟨rfl, rfl⟩ <;> rcases gg_lt (Nat.lt_of_lt_of_le hc2 (by decide)) h2 with ⟨rfl, rfl⟩ | ⟨rfl, rfl⟩ | ⟨rfl, rfl⟩ | ⟨rfl, rfl⟩
    · exact kit_self
    · exact kit_own (fun z => T.on_Ratio_Matrix (Value.ref.inj z)) T.ic_Matrix T.tc_Matrix T.oo_Ratio_Matrix
    · exact kit_own (fun z => T.on_Ratio_Alphabet (Value.ref.inj z)) T.ic_Alphabet T.tc_Alphabet T.oo_Ratio_Alphabet
    · exact kit_own (fun z => T.on_Ratio_Machine (Value.ref.inj z)) T.ic_Machine T.tc_Machine T.oo_Ratio_Machine
    · exact kit_own (fun z => T.on_Matrix_Ratio (Value.ref.inj z)) T.ic_Ratio T.tc_Ratio T.oo_Matrix_Ratio
    · exact kit_self
    · exact kit_own (fun z => T.on_Matrix_Alphabet (Value.ref.inj z)) T.ic_Alphabet T.tc_Alphabet T.oo_Matrix_Alphabet
    · exact kit_own (fun z => T.on_Matrix_Machine (Value.ref.inj z)) T.ic_Machine T.tc_Machine T.oo_Matrix_Machine
    · exact kit_own (fun z => T.on_Alphabet_Ratio (Value.ref.inj z)) T.ic_Ratio T.tc_Ratio T.oo_Alphabet_Ratio
    · exact kit_own (fun z => T.on_Alphabet_Matrix (Value.ref.inj z)) T.ic_Matrix T.tc_Matrix T.oo_Alphabet_Matrix
    · exact kit_self
    · exact kit_own (fun z => T.on_Alphabet_Machine (Value.ref.inj z)) T.ic_Machine T.tc_Machine T.oo_Alphabet_Machine
    · exact kit_own (fun z => T.on_Machine_Ratio (Value.ref.inj z)) T.ic_Ratio T.tc_Ratio T.oo_Machine_Ratio
    · exact kit_own (fun z => T.on_Machine_Matrix (Value.ref.inj z)) T.ic_Matrix T.tc_Matrix T.oo_Machine_Matrix
    · exact kit_own (fun z => T.on_Machine_Alphabet (Value.ref.inj z)) T.ic_Alphabet T.tc_Alphabet T.oo_Machine_Alphabet
    · exact kit_self
  bo := fun c i TT hc h hT => by
    rcases gg_lt (Nat.lt_of_lt_of_le hc (by decide)) h with ⟨rfl, rfl⟩ | ⟨rfl, rfl⟩ | ⟨rfl, rfl⟩ | ⟨rfl, rfl⟩
    · simp only [List.mem_cons, List.not_mem_nil, or_false] at hT; rcases hT with rfl | rfl | rfl | rfl | rfl | rfl | rfl
      · exact kit_own (fun z => by cases z) T.ic_Ratio T.tc_Ratio T.bo_Ratio_NoneType
      · exact kit_own (fun z => by cases z) T.ic_Ratio T.tc_Ratio T.bo_Ratio_bool
      · exact kit_own (fun z => by cases z) T.ic_Ratio T.tc_Ratio T.bo_Ratio_int
      · exact kit_own (fun z => by cases z) T.ic_Ratio T.tc_Ratio T.bo_Ratio_str
      · exact kit_own (fun z => by cases z) T.ic_Ratio T.tc_Ratio T.bo_Ratio_tuple
      · exact kit_own (fun z => by cases z) T.ic_Ratio T.tc_Ratio T.bo_Ratio_list
      · exact kit_own (fun z => by cases z) T.ic_Ratio T.tc_Ratio T.bo_Ratio_dict
    · simp only [List.mem_cons, List.not_mem_nil, or_false] at hT; rcases hT with rfl | rfl | rfl | rfl | rfl | rfl | rfl
      · exact kit_own (fun z => by cases z) T.ic_Matrix T.tc_Matrix T.bo_Matrix_NoneType
      · exact kit_own (fun z => by cases z) T.ic_Matrix T.tc_Matrix T.bo_Matrix_bool
      · exact kit_own (fun z => by cases z) T.ic_Matrix T.tc_Matrix T.bo_Matrix_int
      · exact kit_own (fun z => by cases z) T.ic_Matrix T.tc_Matrix T.bo_Matrix_str
      · exact kit_own (fun z => by cases z) T.ic_Matrix T.tc_Matrix T.bo_Matrix_tuple
      · exact kit_own (fun z => by cases z) T.ic_Matrix T.tc_Matrix T.bo_Matrix_list
      · exact kit_own (fun z => by cases z) T.ic_Matrix T.tc_Matrix T.bo_Matrix_dict
    · simp only [List.mem_cons, List.not_mem_nil, or_false] at hT; rcases hT with rfl | rfl | rfl | rfl | rfl | rfl | rfl
      · exact kit_own (fun z => by cases z) T.ic_Alphabet T.tc_Alphabet T.bo_Alphabet_NoneType
      · exact kit_own (fun z => by cases z) T.ic_Alphabet T.tc_Alphabet T.bo_Alphabet_bool
      · exact kit_own (fun z => by cases z) T.ic_Alphabet T.tc_Alphabet T.bo_Alphabet_int
      · exact kit_own (fun z => by cases z) T.ic_Alphabet T.tc_Alphabet T.bo_Alphabet_str
      · exact kit_own (fun z => by cases z) T.ic_Alphabet T.tc_Alphabet T.bo_Alphabet_tuple
      · exact kit_own (fun z => by cases z) T.ic_Alphabet T.tc_Alphabet T.bo_Alphabet_list
      · exact kit_own (fun z => by cases z) T.ic_Alphabet T.tc_Alphabet T.bo_Alphabet_dict
    · simp only [List.mem_cons, List.not_mem_nil, or_false] at hT; rcases hT with rfl | rfl | rfl | rfl | rfl | rfl | rfl
      · exact kit_own (fun z => by cases z) T.ic_Machine T.tc_Machine T.bo_Machine_NoneType
      · exact kit_own (fun z => by cases z) T.ic_Machine T.tc_Machine T.bo_Machine_bool
      · exact kit_own (fun z => by cases z) T.ic_Machine T.tc_Machine T.bo_Machine_int
      · exact kit_own (fun z => by cases z) T.ic_Machine T.tc_Machine T.bo_Machine_str
      · exact kit_own (fun z => by cases z) T.ic_Machine T.tc_Machine T.bo_Machine_tuple
      · exact kit_own (fun z => by cases z) T.ic_Machine T.tc_Machine T.bo_Machine_list
      · exact kit_own (fun z => by cases z) T.ic_Machine T.tc_Machine T.bo_Machine_dict
  ob := fun c i TT hc h hT => by
    rcases gg_lt (Nat.lt_of_lt_of_le hc (by decide)) h with ⟨rfl, rfl⟩ | ⟨rfl, rfl⟩ | ⟨rfl, rfl⟩ | ⟨rfl, rfl⟩
    · simp only [List.mem_cons, List.not_mem_nil, or_false] at hT; rcases hT with rfl | rfl | rfl | rfl | rfl | rfl | rfl
      · exact kit_blt (by decide +kernel) T.ob_Ratio_NoneType
      · exact kit_blt (by decide +kernel) T.ob_Ratio_bool
      · exact kit_blt (by decide +kernel) T.ob_Ratio_int
      · exact kit_blt (by decide +kernel) T.ob_Ratio_str
      · exact kit_blt (by decide +kernel) T.ob_Ratio_tuple
      · exact kit_blt (by decide +kernel) T.ob_Ratio_list
      · exact kit_blt (by decide +kernel) T.ob_Ratio_dict
    · simp only [List.mem_cons, List.not_mem_nil, or_false] at hT; rcases hT with rfl | rfl | rfl | rfl | rfl | rfl | rfl
      · exact kit_blt (by decide +kernel) T.ob_Matrix_NoneType
      · exact kit_blt (by decide +kernel) T.ob_Matrix_bool
      · exact kit_blt (by decide +kernel) T.ob_Matrix_int
      · exact kit_blt (by decide +kernel) T.ob_Matrix_str
      · exact kit_blt (by decide +kernel) T.ob_Matrix_tuple
      · exact kit_blt (by decide +kernel) T.ob_Matrix_list
      · exact kit_blt (by decide +kernel) T.ob_Matrix_dict
    · simp only [List.mem_cons, List.not_mem_nil, or_false] at hT; rcases hT with rfl | rfl | rfl | rfl | rfl | rfl | rfl
      · exact kit_blt (by decide +kernel) T.ob_Alphabet_NoneType
      · exact kit_blt (by decide +kernel) T.ob_Alphabet_bool
      · exact kit_blt (by decide +kernel) T.ob_Alphabet_int
      · exact kit_blt (by decide +kernel) T.ob_Alphabet_str
      · exact kit_blt (by decide +kernel) T.ob_Alphabet_tuple
      · exact kit_blt (by decide +kernel) T.ob_Alphabet_list
      · exact kit_blt (by decide +kernel) T.ob_Alphabet_dict
    · simp only [List.mem_cons, List.not_mem_nil, or_false] at hT; rcases hT with rfl | rfl | rfl | rfl | rfl | rfl | rfl
      · exact kit_blt (by decide +kernel) T.ob_Machine_NoneType
      · exact kit_blt (by decide +kernel) T.ob_Machine_bool
      · exact kit_blt (by decide +kernel) T.ob_Machine_int
      · exact kit_blt (by decide +kernel) T.ob_Machine_str
      · exact kit_blt (by decide +kernel) T.ob_Machine_tuple
      · exact kit_blt (by decide +kernel) T.ob_Machine_list
      · exact kit_blt (by decide +kernel) T.ob_Machine_dict
theorem Tx.mk_Ratio (T : Tx K mg a_Refused_init a_law_state a_law_take a_law_letters a_law_gcd a_law_frac a_law_item a_law_square a_law_plan a_Ratio_init a_law_ratios a_Matrix_init a_Alphabet_init a_Matrix_len a_Machine_init a_law_machine a_law_pair a_law_pairs a_law_word a_law_mul a_law_add a_law_dot a_law_after a_law_weight_of a_law_before a_Alphabet_index a_Ratio_add a_Ratio_mul a_combine a_Matrix_before a_Machine_row_after a_dot a_Machine_weight a_Matrix_times a_Machine_column_before a_law_refused a_law_bad a_Machine_size a_Machine_call a_law c_Ratio c_Matrix c_Alphabet c_Machine c_Fault c_Malformed c_Refused c_ZeroDivisor t_MOST_LETTERS t_SMALL) : Mk K c_Ratio a_Ratio_init := ⟨T.ma_Ratio, T.ma_Ratio_init, T.mf_Ratio_init, T.kp_Ratio⟩
theorem Tx.mk_Matrix (T : Tx K mg a_Refused_init a_law_state a_law_take a_law_letters a_law_gcd a_law_frac a_law_item a_law_square a_law_plan a_Ratio_init a_law_ratios a_Matrix_init a_Alphabet_init a_Matrix_len a_Machine_init a_law_machine a_law_pair a_law_pairs a_law_word a_law_mul a_law_add a_law_dot a_law_after a_law_weight_of a_law_before a_Alphabet_index a_Ratio_add a_Ratio_mul a_combine a_Matrix_before a_Machine_row_after a_dot a_Machine_weight a_Matrix_times a_Machine_column_before a_law_refused a_law_bad a_Machine_size a_Machine_call a_law c_Ratio c_Matrix c_Alphabet c_Machine c_Fault c_Malformed c_Refused c_ZeroDivisor t_MOST_LETTERS t_SMALL) : Mk K c_Matrix a_Matrix_init := ⟨T.ma_Matrix, T.ma_Matrix_init, T.mf_Matrix_init, T.kp_Matrix⟩
theorem Tx.mk_Alphabet (T : Tx K mg a_Refused_init a_law_state a_law_take a_law_letters a_law_gcd a_law_frac a_law_item a_law_square a_law_plan a_Ratio_init a_law_ratios a_Matrix_init a_Alphabet_init a_Matrix_len a_Machine_init a_law_machine a_law_pair a_law_pairs a_law_word a_law_mul a_law_add a_law_dot a_law_after a_law_weight_of a_law_before a_Alphabet_index a_Ratio_add a_Ratio_mul a_combine a_Matrix_before a_Machine_row_after a_dot a_Machine_weight a_Matrix_times a_Machine_column_before a_law_refused a_law_bad a_Machine_size a_Machine_call a_law c_Ratio c_Matrix c_Alphabet c_Machine c_Fault c_Malformed c_Refused c_ZeroDivisor t_MOST_LETTERS t_SMALL) : Mk K c_Alphabet a_Alphabet_init := ⟨T.ma_Alphabet, T.ma_Alphabet_init, T.mf_Alphabet_init, T.kp_Alphabet⟩
theorem Tx.mk_Machine (T : Tx K mg a_Refused_init a_law_state a_law_take a_law_letters a_law_gcd a_law_frac a_law_item a_law_square a_law_plan a_Ratio_init a_law_ratios a_Matrix_init a_Alphabet_init a_Matrix_len a_Machine_init a_law_machine a_law_pair a_law_pairs a_law_word a_law_mul a_law_add a_law_dot a_law_after a_law_weight_of a_law_before a_Alphabet_index a_Ratio_add a_Ratio_mul a_combine a_Matrix_before a_Machine_row_after a_dot a_Machine_weight a_Matrix_times a_Machine_column_before a_law_refused a_law_bad a_Machine_size a_Machine_call a_law c_Ratio c_Matrix c_Alphabet c_Machine c_Fault c_Malformed c_Refused c_ZeroDivisor t_MOST_LETTERS t_SMALL) : Mk K c_Machine a_Machine_init := ⟨T.ma_Machine, T.ma_Machine_init, T.mf_Machine_init, T.kp_Machine⟩
theorem Tx.m_Ratio_init (T : Tx K mg a_Refused_init a_law_state a_law_take a_law_letters a_law_gcd a_law_frac a_law_item a_law_square a_law_plan a_Ratio_init a_law_ratios a_Matrix_init a_Alphabet_init a_Matrix_len a_Machine_init a_law_machine a_law_pair a_law_pairs a_law_word a_law_mul a_law_add a_law_dot a_law_after a_law_weight_of a_law_before a_Alphabet_index a_Ratio_add a_Ratio_mul a_combine a_Matrix_before a_Machine_row_after a_dot a_Machine_weight a_Matrix_times a_Machine_column_before a_law_refused a_law_bad a_Machine_size a_Machine_call a_law c_Ratio c_Matrix c_Alphabet c_Machine c_Fault c_Malformed c_Refused c_ZeroDivisor t_MOST_LETTERS t_SMALL) : Meth K c_Ratio "__init__" a_Ratio_init := ⟨T.ma_Ratio_init, T.mf_Ratio_init, T.mk_Ratio_init⟩
theorem Tx.m_Matrix_init (T : Tx K mg a_Refused_init a_law_state a_law_take a_law_letters a_law_gcd a_law_frac a_law_item a_law_square a_law_plan a_Ratio_init a_law_ratios a_Matrix_init a_Alphabet_init a_Matrix_len a_Machine_init a_law_machine a_law_pair a_law_pairs a_law_word a_law_mul a_law_add a_law_dot a_law_after a_law_weight_of a_law_before a_Alphabet_index a_Ratio_add a_Ratio_mul a_combine a_Matrix_before a_Machine_row_after a_dot a_Machine_weight a_Matrix_times a_Machine_column_before a_law_refused a_law_bad a_Machine_size a_Machine_call a_law c_Ratio c_Matrix c_Alphabet c_Machine c_Fault c_Malformed c_Refused c_ZeroDivisor t_MOST_LETTERS t_SMALL) : Meth K c_Matrix "__init__" a_Matrix_init := ⟨T.ma_Matrix_init, T.mf_Matrix_init, T.mk_Matrix_init⟩
theorem Tx.m_Alphabet_init (T : Tx K mg a_Refused_init a_law_state a_law_take a_law_letters a_law_gcd a_law_frac a_law_item a_law_square a_law_plan a_Ratio_init a_law_ratios a_Matrix_init a_Alphabet_init a_Matrix_len a_Machine_init a_law_machine a_law_pair a_law_pairs a_law_word a_law_mul a_law_add a_law_dot a_law_after a_law_weight_of a_law_before a_Alphabet_index a_Ratio_add a_Ratio_mul a_combine a_Matrix_before a_Machine_row_after a_dot a_Machine_weight a_Matrix_times a_Machine_column_before a_law_refused a_law_bad a_Machine_size a_Machine_call a_law c_Ratio c_Matrix c_Alphabet c_Machine c_Fault c_Malformed c_Refused c_ZeroDivisor t_MOST_LETTERS t_SMALL) : Meth K c_Alphabet "__init__" a_Alphabet_init := ⟨T.ma_Alphabet_init, T.mf_Alphabet_init, T.mk_Alphabet_init⟩
theorem Tx.m_Matrix_len (T : Tx K mg a_Refused_init a_law_state a_law_take a_law_letters a_law_gcd a_law_frac a_law_item a_law_square a_law_plan a_Ratio_init a_law_ratios a_Matrix_init a_Alphabet_init a_Matrix_len a_Machine_init a_law_machine a_law_pair a_law_pairs a_law_word a_law_mul a_law_add a_law_dot a_law_after a_law_weight_of a_law_before a_Alphabet_index a_Ratio_add a_Ratio_mul a_combine a_Matrix_before a_Machine_row_after a_dot a_Machine_weight a_Matrix_times a_Machine_column_before a_law_refused a_law_bad a_Machine_size a_Machine_call a_law c_Ratio c_Matrix c_Alphabet c_Machine c_Fault c_Malformed c_Refused c_ZeroDivisor t_MOST_LETTERS t_SMALL) : Meth K c_Matrix "__len__" a_Matrix_len := ⟨T.ma_Matrix_len, T.mf_Matrix_len, T.mk_Matrix_len⟩
theorem Tx.m_Machine_init (T : Tx K mg a_Refused_init a_law_state a_law_take a_law_letters a_law_gcd a_law_frac a_law_item a_law_square a_law_plan a_Ratio_init a_law_ratios a_Matrix_init a_Alphabet_init a_Matrix_len a_Machine_init a_law_machine a_law_pair a_law_pairs a_law_word a_law_mul a_law_add a_law_dot a_law_after a_law_weight_of a_law_before a_Alphabet_index a_Ratio_add a_Ratio_mul a_combine a_Matrix_before a_Machine_row_after a_dot a_Machine_weight a_Matrix_times a_Machine_column_before a_law_refused a_law_bad a_Machine_size a_Machine_call a_law c_Ratio c_Matrix c_Alphabet c_Machine c_Fault c_Malformed c_Refused c_ZeroDivisor t_MOST_LETTERS t_SMALL) : Meth K c_Machine "__init__" a_Machine_init := ⟨T.ma_Machine_init, T.mf_Machine_init, T.mk_Machine_init⟩
theorem Tx.m_Alphabet_index (T : Tx K mg a_Refused_init a_law_state a_law_take a_law_letters a_law_gcd a_law_frac a_law_item a_law_square a_law_plan a_Ratio_init a_law_ratios a_Matrix_init a_Alphabet_init a_Matrix_len a_Machine_init a_law_machine a_law_pair a_law_pairs a_law_word a_law_mul a_law_add a_law_dot a_law_after a_law_weight_of a_law_before a_Alphabet_index a_Ratio_add a_Ratio_mul a_combine a_Matrix_before a_Machine_row_after a_dot a_Machine_weight a_Matrix_times a_Machine_column_before a_law_refused a_law_bad a_Machine_size a_Machine_call a_law c_Ratio c_Matrix c_Alphabet c_Machine c_Fault c_Malformed c_Refused c_ZeroDivisor t_MOST_LETTERS t_SMALL) : Meth K c_Alphabet "index" a_Alphabet_index := ⟨T.ma_Alphabet_index, T.mf_Alphabet_index, T.mk_Alphabet_index⟩
theorem Tx.m_Ratio_add (T : Tx K mg a_Refused_init a_law_state a_law_take a_law_letters a_law_gcd a_law_frac a_law_item a_law_square a_law_plan a_Ratio_init a_law_ratios a_Matrix_init a_Alphabet_init a_Matrix_len a_Machine_init a_law_machine a_law_pair a_law_pairs a_law_word a_law_mul a_law_add a_law_dot a_law_after a_law_weight_of a_law_before a_Alphabet_index a_Ratio_add a_Ratio_mul a_combine a_Matrix_before a_Machine_row_after a_dot a_Machine_weight a_Matrix_times a_Machine_column_before a_law_refused a_law_bad a_Machine_size a_Machine_call a_law c_Ratio c_Matrix c_Alphabet c_Machine c_Fault c_Malformed c_Refused c_ZeroDivisor t_MOST_LETTERS t_SMALL) : Meth K c_Ratio "__add__" a_Ratio_add := ⟨T.ma_Ratio_add, T.mf_Ratio_add, T.mk_Ratio_add⟩
theorem Tx.m_Ratio_mul (T : Tx K mg a_Refused_init a_law_state a_law_take a_law_letters a_law_gcd a_law_frac a_law_item a_law_square a_law_plan a_Ratio_init a_law_ratios a_Matrix_init a_Alphabet_init a_Matrix_len a_Machine_init a_law_machine a_law_pair a_law_pairs a_law_word a_law_mul a_law_add a_law_dot a_law_after a_law_weight_of a_law_before a_Alphabet_index a_Ratio_add a_Ratio_mul a_combine a_Matrix_before a_Machine_row_after a_dot a_Machine_weight a_Matrix_times a_Machine_column_before a_law_refused a_law_bad a_Machine_size a_Machine_call a_law c_Ratio c_Matrix c_Alphabet c_Machine c_Fault c_Malformed c_Refused c_ZeroDivisor t_MOST_LETTERS t_SMALL) : Meth K c_Ratio "__mul__" a_Ratio_mul := ⟨T.ma_Ratio_mul, T.mf_Ratio_mul, T.mk_Ratio_mul⟩
theorem Tx.m_Matrix_before (T : Tx K mg a_Refused_init a_law_state a_law_take a_law_letters a_law_gcd a_law_frac a_law_item a_law_square a_law_plan a_Ratio_init a_law_ratios a_Matrix_init a_Alphabet_init a_Matrix_len a_Machine_init a_law_machine a_law_pair a_law_pairs a_law_word a_law_mul a_law_add a_law_dot a_law_after a_law_weight_of a_law_before a_Alphabet_index a_Ratio_add a_Ratio_mul a_combine a_Matrix_before a_Machine_row_after a_dot a_Machine_weight a_Matrix_times a_Machine_column_before a_law_refused a_law_bad a_Machine_size a_Machine_call a_law c_Ratio c_Matrix c_Alphabet c_Machine c_Fault c_Malformed c_Refused c_ZeroDivisor t_MOST_LETTERS t_SMALL) : Meth K c_Matrix "before" a_Matrix_before := ⟨T.ma_Matrix_before, T.mf_Matrix_before, T.mk_Matrix_before⟩
theorem Tx.m_Machine_row_after (T : Tx K mg a_Refused_init a_law_state a_law_take a_law_letters a_law_gcd a_law_frac a_law_item a_law_square a_law_plan a_Ratio_init a_law_ratios a_Matrix_init a_Alphabet_init a_Matrix_len a_Machine_init a_law_machine a_law_pair a_law_pairs a_law_word a_law_mul a_law_add a_law_dot a_law_after a_law_weight_of a_law_before a_Alphabet_index a_Ratio_add a_Ratio_mul a_combine a_Matrix_before a_Machine_row_after a_dot a_Machine_weight a_Matrix_times a_Machine_column_before a_law_refused a_law_bad a_Machine_size a_Machine_call a_law c_Ratio c_Matrix c_Alphabet c_Machine c_Fault c_Malformed c_Refused c_ZeroDivisor t_MOST_LETTERS t_SMALL) : Meth K c_Machine "row_after" a_Machine_row_after := ⟨T.ma_Machine_row_after, T.mf_Machine_row_after, T.mk_Machine_row_after⟩
theorem Tx.m_Machine_weight (T : Tx K mg a_Refused_init a_law_state a_law_take a_law_letters a_law_gcd a_law_frac a_law_item a_law_square a_law_plan a_Ratio_init a_law_ratios a_Matrix_init a_Alphabet_init a_Matrix_len a_Machine_init a_law_machine a_law_pair a_law_pairs a_law_word a_law_mul a_law_add a_law_dot a_law_after a_law_weight_of a_law_before a_Alphabet_index a_Ratio_add a_Ratio_mul a_combine a_Matrix_before a_Machine_row_after a_dot a_Machine_weight a_Matrix_times a_Machine_column_before a_law_refused a_law_bad a_Machine_size a_Machine_call a_law c_Ratio c_Matrix c_Alphabet c_Machine c_Fault c_Malformed c_Refused c_ZeroDivisor t_MOST_LETTERS t_SMALL) : Meth K c_Machine "weight" a_Machine_weight := ⟨T.ma_Machine_weight, T.mf_Machine_weight, T.mk_Machine_weight⟩
theorem Tx.m_Matrix_times (T : Tx K mg a_Refused_init a_law_state a_law_take a_law_letters a_law_gcd a_law_frac a_law_item a_law_square a_law_plan a_Ratio_init a_law_ratios a_Matrix_init a_Alphabet_init a_Matrix_len a_Machine_init a_law_machine a_law_pair a_law_pairs a_law_word a_law_mul a_law_add a_law_dot a_law_after a_law_weight_of a_law_before a_Alphabet_index a_Ratio_add a_Ratio_mul a_combine a_Matrix_before a_Machine_row_after a_dot a_Machine_weight a_Matrix_times a_Machine_column_before a_law_refused a_law_bad a_Machine_size a_Machine_call a_law c_Ratio c_Matrix c_Alphabet c_Machine c_Fault c_Malformed c_Refused c_ZeroDivisor t_MOST_LETTERS t_SMALL) : Meth K c_Matrix "times" a_Matrix_times := ⟨T.ma_Matrix_times, T.mf_Matrix_times, T.mk_Matrix_times⟩
theorem Tx.m_Machine_column_before (T : Tx K mg a_Refused_init a_law_state a_law_take a_law_letters a_law_gcd a_law_frac a_law_item a_law_square a_law_plan a_Ratio_init a_law_ratios a_Matrix_init a_Alphabet_init a_Matrix_len a_Machine_init a_law_machine a_law_pair a_law_pairs a_law_word a_law_mul a_law_add a_law_dot a_law_after a_law_weight_of a_law_before a_Alphabet_index a_Ratio_add a_Ratio_mul a_combine a_Matrix_before a_Machine_row_after a_dot a_Machine_weight a_Matrix_times a_Machine_column_before a_law_refused a_law_bad a_Machine_size a_Machine_call a_law c_Ratio c_Matrix c_Alphabet c_Machine c_Fault c_Malformed c_Refused c_ZeroDivisor t_MOST_LETTERS t_SMALL) : Meth K c_Machine "column_before" a_Machine_column_before := ⟨T.ma_Machine_column_before, T.mf_Machine_column_before, T.mk_Machine_column_before⟩
theorem Tx.m_Machine_size (T : Tx K mg a_Refused_init a_law_state a_law_take a_law_letters a_law_gcd a_law_frac a_law_item a_law_square a_law_plan a_Ratio_init a_law_ratios a_Matrix_init a_Alphabet_init a_Matrix_len a_Machine_init a_law_machine a_law_pair a_law_pairs a_law_word a_law_mul a_law_add a_law_dot a_law_after a_law_weight_of a_law_before a_Alphabet_index a_Ratio_add a_Ratio_mul a_combine a_Matrix_before a_Machine_row_after a_dot a_Machine_weight a_Matrix_times a_Machine_column_before a_law_refused a_law_bad a_Machine_size a_Machine_call a_law c_Ratio c_Matrix c_Alphabet c_Machine c_Fault c_Malformed c_Refused c_ZeroDivisor t_MOST_LETTERS t_SMALL) : Meth K c_Machine "size" a_Machine_size := ⟨T.ma_Machine_size, T.mf_Machine_size, T.mk_Machine_size⟩
theorem Tx.m_Machine_call (T : Tx K mg a_Refused_init a_law_state a_law_take a_law_letters a_law_gcd a_law_frac a_law_item a_law_square a_law_plan a_Ratio_init a_law_ratios a_Matrix_init a_Alphabet_init a_Matrix_len a_Machine_init a_law_machine a_law_pair a_law_pairs a_law_word a_law_mul a_law_add a_law_dot a_law_after a_law_weight_of a_law_before a_Alphabet_index a_Ratio_add a_Ratio_mul a_combine a_Matrix_before a_Machine_row_after a_dot a_Machine_weight a_Matrix_times a_Machine_column_before a_law_refused a_law_bad a_Machine_size a_Machine_call a_law c_Ratio c_Matrix c_Alphabet c_Machine c_Fault c_Malformed c_Refused c_ZeroDivisor t_MOST_LETTERS t_SMALL) : Meth K c_Machine "__call__" a_Machine_call := ⟨T.ma_Machine_call, T.mf_Machine_call, T.mk_Machine_call⟩
/-! ### the defs -/
theorem ns_Refused_init : NdefX.NScope ["self", "reason", "__class__"] ["self", "reason"] ["__class__"] (defScope s_Refused_init) := NdefX.nscope_by (by decide +kernel)
theorem ok_Refused_init (T : Tx K mg a_Refused_init a_law_state a_law_take a_law_letters a_law_gcd a_law_frac a_law_item a_law_square a_law_plan a_Ratio_init a_law_ratios a_Matrix_init a_Alphabet_init a_Matrix_len a_Machine_init a_law_machine a_law_pair a_law_pairs a_law_word a_law_mul a_law_add a_law_dot a_law_after a_law_weight_of a_law_before a_Alphabet_index a_Ratio_add a_Ratio_mul a_combine a_Matrix_before a_Machine_row_after a_dot a_Machine_weight a_Matrix_times a_Machine_column_before a_law_refused a_law_bad a_Machine_size a_Machine_call a_law c_Ratio c_Matrix c_Alphabet c_Machine c_Fault c_Malformed c_Refused c_ZeroDivisor t_MOST_LETTERS t_SMALL) (hN : base.NoSeer) (hT : P.given.tree = none) (hP : P.main = PySem.Challenge.pw_wordweight_k10_weights_of_machines.main) : EDef P w K (GG c_Ratio c_Matrix c_Alphabet c_Machine c_ZeroDivisor c_Malformed c_Refused) mg base 1 102 okStr :=
  edef_of T.er_Refused rfl (by rw [hP]) (by rw [hP]; decide +kernel) T.z_super rfl ns_Refused_init rfl rfl rfl bt_super rfl rfl ⟨_, fun _ => rfl⟩ (fun _ => rfl) (fun _ => rfl) (fun _ => rfl) (fun F A outer s H E hF => pe_msg (G := fun _ => none) ns_Refused_init hF rfl rfl) (te_msg (G := fun _ => none) (by decide +kernel))
/-- names: 0 script, 1 seed, 2 total, 3 cell -/
noncomputable def w_law_state_0 : M Fl := (sSeq (sAsgV 1 (eI (iBin dAdd (iBin dMul (iVar 1) (iC (.int 1000003))) (iUn dAbs (iVar 3)))))
    (sAsgV 2 (eI (iBin dMod (iUn dInt (iBin dAdd (iBin dMul (iVar 2) (iC (.int 48271))) (iVar 3))) (iC (.int 2147483647))))))
noncomputable def b_law_state : M Fl := (sSeq (sAsgV 1 (eI (iC (.int 0))))
    (sSeq (sAsgV 2 (eI (iC (.int 1))))
    (sSeq (sFor (itLst (eSlice (eI (iVar 0)) none (some (iC (.int 63))))) (gName 3) w_law_state_0)
    (sRet (eLst (aCons (eI (iVar 1)) (aCons (eI (iVar 2)) aNil)))))))
noncomputable def den_law_state : Den := denB 1 4 b_law_state
theorem sc_law_state : FnScope ["script", "seed", "total", "cell"] ["script"] (defScope s_law_state) := ⟨rfl, rfl, rfl, by decide +kernel, rfl, by decide +kernel, by decide +kernel⟩
theorem ok_law_state (T : Tx K mg a_Refused_init a_law_state a_law_take a_law_letters a_law_gcd a_law_frac a_law_item a_law_square a_law_plan a_Ratio_init a_law_ratios a_Matrix_init a_Alphabet_init a_Matrix_len a_Machine_init a_law_machine a_law_pair a_law_pairs a_law_word a_law_mul a_law_add a_law_dot a_law_after a_law_weight_of a_law_before a_Alphabet_index a_Ratio_add a_Ratio_mul a_combine a_Matrix_before a_Machine_row_after a_dot a_Machine_weight a_Matrix_times a_Machine_column_before a_law_refused a_law_bad a_Machine_size a_Machine_call a_law c_Ratio c_Matrix c_Alphabet c_Machine c_Fault c_Malformed c_Refused c_ZeroDivisor t_MOST_LETTERS t_SMALL) (hN : base.NoSeer) (hT : P.given.tree = none) (hP : P.main = PySem.Challenge.pw_wordweight_k10_weights_of_machines.main)  : DD P w K (GG c_Ratio c_Matrix c_Alphabet c_Machine c_ZeroDivisor c_Malformed c_Refused) mg base 1 a_law_state ["script"] den_law_state [] := by
  exact dd_of T.f_law_state sc_law_state fun cdv A outer s H E hr =>
    (rb_cons (rs_setV (hx := by first | exact Or.inl rfl | exact Or.inr rfl) (i := 1) sc_law_state.nd (re_i ri_int))
    (rb_cons (rs_setV (hx := by first | exact Or.inl rfl | exact Or.inr rfl) (i := 2) sc_law_state.nd (re_i ri_int))
    (rb_cons (rs_for po_def rfl (rit_lst (re_slice (re_i (ri_var 0)) part_none (part_some ri_int))) (rg_name (i := 3) sc_law_state.nd) (rb_cons (rs_setV (hx := by first | exact Or.inl rfl | exact Or.inr rfl) (i := 1) sc_law_state.nd (re_i (ri_bin op_addA opi_add (rp_i (ri_bin op_mulY opi_mul (rp_i (ri_var 1)) (rp_i ri_int))) (rp_i (ri_c1 call_abs opc_abs rfl T.z_abs bt_abs (rp_i (ri_var 3)))))))
    (rb_one (rs_setV (hx := by first | exact Or.inl rfl | exact Or.inr rfl) (i := 2) sc_law_state.nd (re_i (ri_bin op_mod opi_mod (rp_i (ri_t1 call_int1 opc_int rfl T.z_int bt_int (rp_i (ri_bin op_addA opi_add (rp_i (ri_bin op_mulY opi_mul (rp_i (ri_var 2)) (rp_i ri_int))) (rp_i (ri_var 3)))))) (rp_i ri_int)))))))
    (rb_one (rs_ret (re_lst (ra_cons (re_i (ri_var 1)) (ra_cons (re_i (ri_var 2)) ra_nil))))))))
/-- names: 0 state, 1 m, 2 value -/
noncomputable def b_law_take : M Fl := (sSeq (sIf (bU (uOf (iBin (dCmp2 fun i j => decide (j < i)) (iBin dIx (pVar 0) (iC (.int 0))) (iC (.int 0))))) (sSeq (sAsgV 2 (eI (iBin dMod (iUn dInt (iBin dIx (pVar 0) (iC (.int 0)))) (iVar 1))))
    (sSeq (sSet 0 (iC (.int 0)) (eI (iBin dDivP (iBin dIx (pVar 0) (iC (.int 0))) (iVar 1))))
    (sRet (eI (iVar 2))))) (mR .next))
    (sSeq (sSet 0 (iC (.int 1)) (eI (iBin dMod (iUn dInt (iBin dAdd (iBin dMul (iBin dIx (pVar 0) (iC (.int 1))) (iC (.int 48271))) (iC (.int 11)))) (iC (.int 2147483647)))))
    (sRet (eI (iBin dMod (iUn dInt (iBin dDivP (iBin dIx (pVar 0) (iC (.int 1))) (iC (.int 7)))) (iVar 1))))))
noncomputable def den_law_take : Den := denB 2 3 b_law_take
theorem sc_law_take : FnScope ["state", "m", "value"] ["state", "m"] (defScope s_law_take) := ⟨rfl, rfl, rfl, by decide +kernel, rfl, by decide +kernel, by decide +kernel⟩
theorem ok_law_take (T : Tx K mg a_Refused_init a_law_state a_law_take a_law_letters a_law_gcd a_law_frac a_law_item a_law_square a_law_plan a_Ratio_init a_law_ratios a_Matrix_init a_Alphabet_init a_Matrix_len a_Machine_init a_law_machine a_law_pair a_law_pairs a_law_word a_law_mul a_law_add a_law_dot a_law_after a_law_weight_of a_law_before a_Alphabet_index a_Ratio_add a_Ratio_mul a_combine a_Matrix_before a_Machine_row_after a_dot a_Machine_weight a_Matrix_times a_Machine_column_before a_law_refused a_law_bad a_Machine_size a_Machine_call a_law c_Ratio c_Matrix c_Alphabet c_Machine c_Fault c_Malformed c_Refused c_ZeroDivisor t_MOST_LETTERS t_SMALL) (hN : base.NoSeer) (hT : P.given.tree = none) (hP : P.main = PySem.Challenge.pw_wordweight_k10_weights_of_machines.main)  : DD P w K (GG c_Ratio c_Matrix c_Alphabet c_Machine c_ZeroDivisor c_Malformed c_Refused) mg base 41 a_law_take ["state", "m"] den_law_take [] := by
  exact dd_of T.f_law_take sc_law_take fun cdv A outer s H E hr =>
    (rb_cons (rs_if (rt_u (ru_cmp op_gt opi_cmp (rp_i (ri_ix (rp_var 0) (rp_i ri_int))) (rp_i ri_int) (nomark _))) (rb_cons (rs_setV (hx := by first | exact Or.inl rfl | exact Or.inr rfl) (i := 2) sc_law_take.nd (re_i (ri_bin op_mod opi_mod (rp_i (ri_t1 call_int1 opc_int rfl T.z_int bt_int (rp_i (ri_ix (rp_var 0) (rp_i ri_int))))) (rp_i (ri_var 1)))))
    (rb_cons (rs_sub (i := 0) (re_i (ri_bin (op_fdivP hN hT rfl rfl rfl (hr.mono (by decide))) opi_divP (rp_i (ri_ix (rp_var 0) (rp_i ri_int))) (rp_i (ri_var 1)))) ri_int)
    (rb_one (rs_ret (re_i (ri_var 2)))))) rb_nil)
    (rb_cons (rs_sub (i := 0) (re_i (ri_bin op_mod opi_mod (rp_i (ri_t1 call_int1 opc_int rfl T.z_int bt_int (rp_i (ri_bin op_addA opi_add (rp_i (ri_bin op_mulY opi_mul (rp_i (ri_ix (rp_var 0) (rp_i ri_int))) (rp_i ri_int))) (rp_i ri_int))))) (rp_i ri_int))) ri_int)
    (rb_one (rs_ret (re_i (ri_bin op_mod opi_mod (rp_i (ri_t1 call_int1 opc_int rfl T.z_int bt_int (rp_i (ri_bin (op_fdivP hN hT rfl rfl rfl (hr.mono (by decide))) opi_divP (rp_i (ri_ix (rp_var 0) (rp_i ri_int))) (rp_i ri_int))))) (rp_i (ri_var 1))))))))
/-- names: 0 state, 1 most, 2 marks, 3 found, 4 k, 5 at -/
noncomputable def w_law_letters_0 : M Fl := (sSeq (sAsgV 5 (eCallB den_law_take 0 (aCons (eI (iUn dLen (iVar 2))) aNil)))
    (sSeq (sAsgV 3 (eI (iBin dAdd (iVar 3) (iBin dIx (iVar 2) (iVar 5)))))
    (sAsgV 2 (eBin dAdd (eSlice (eI (iVar 2)) none (some (iVar 5))) (eSlice (eI (iVar 2)) (some (iBin dAdd (iVar 5) (iC (.int 1)))) none)))))
noncomputable def b_law_letters : M Fl := (sSeq (sAsgV 2 (eI (iC (.str "abcxz"))))
    (sSeq (sAsgV 3 (eI (iC (.str ""))))
    (sSeq (sFor (itRngE (eBin dAdd (eI (iC (.int 1))) (eCallB den_law_take 0 (aCons (eI (iVar 1)) aNil)))) (gName 4) w_law_letters_0)
    (sRet (eI (iVar 3))))))
noncomputable def den_law_letters : Den := denB 2 6 b_law_letters
theorem sc_law_letters : FnScope ["state", "most", "marks", "found", "k", "at"] ["state", "most"] (defScope s_law_letters) := ⟨rfl, rfl, rfl, by decide +kernel, rfl, by decide +kernel, by decide +kernel⟩
theorem ok_law_letters (T : Tx K mg a_Refused_init a_law_state a_law_take a_law_letters a_law_gcd a_law_frac a_law_item a_law_square a_law_plan a_Ratio_init a_law_ratios a_Matrix_init a_Alphabet_init a_Matrix_len a_Machine_init a_law_machine a_law_pair a_law_pairs a_law_word a_law_mul a_law_add a_law_dot a_law_after a_law_weight_of a_law_before a_Alphabet_index a_Ratio_add a_Ratio_mul a_combine a_Matrix_before a_Machine_row_after a_dot a_Machine_weight a_Matrix_times a_Machine_column_before a_law_refused a_law_bad a_Machine_size a_Machine_call a_law c_Ratio c_Matrix c_Alphabet c_Machine c_Fault c_Malformed c_Refused c_ZeroDivisor t_MOST_LETTERS t_SMALL) (hN : base.NoSeer) (hT : P.given.tree = none) (hP : P.main = PySem.Challenge.pw_wordweight_k10_weights_of_machines.main) (h_law_take : DD P w K (GG c_Ratio c_Matrix c_Alphabet c_Machine c_ZeroDivisor c_Malformed c_Refused) mg base 41 a_law_take ["state", "m"] den_law_take []) : DD P w K (GG c_Ratio c_Matrix c_Alphabet c_Machine c_ZeroDivisor c_Malformed c_Refused) mg base 42 a_law_letters ["state", "most"] den_law_letters [] := by
  obtain ⟨fd_law_take, du_law_take, D_law_take, B_law_take, V_law_take, BD_law_take, K_law_take⟩ := h_law_take
  exact dd_of T.f_law_letters sc_law_letters fun cdv A outer s H E hr =>
    (rb_cons (rs_setV (hx := by first | exact Or.inl rfl | exact Or.inr rfl) (i := 2) sc_law_letters.nd (re_i ri_str))
    (rb_cons (rs_setV (hx := by first | exact Or.inl rfl | exact Or.inr rfl) (i := 3) sc_law_letters.nd (re_i ri_str))
    (rb_cons (rs_for po_def rfl (rit_rngE rfl T.z_range (re_bin op_addA opi_add (re_i ri_int) (re_callB (i := 0) D_law_take (hr.mono (by decide)) rfl T.g_law_take K_law_take B_law_take tk_def (ra_cons (re_i (ri_var 1)) ra_nil)))) (rg_name (i := 4) sc_law_letters.nd) (rb_cons (rs_setV (hx := by first | exact Or.inl rfl | exact Or.inr rfl) (i := 5) sc_law_letters.nd (re_callB (i := 0) D_law_take (hr.mono (by decide)) rfl T.g_law_take K_law_take B_law_take tk_def (ra_cons (re_i (ri_c1 call_lenA opc_len rfl T.z_len bt_len (rp_i (ri_var 2)))) ra_nil)))
    (rb_cons (rs_setV (hx := by first | exact Or.inl rfl | exact Or.inr rfl) (i := 3) sc_law_letters.nd (re_i (ri_bin op_addA opi_add (rp_i (ri_var 3)) (rp_i (ri_ix (rp_i (ri_var 2)) (rp_i (ri_var 5)))))))
    (rb_one (rs_setV (hx := by first | exact Or.inl rfl | exact Or.inr rfl) (i := 2) sc_law_letters.nd (re_bin op_addA opi_add (re_slice (re_i (ri_var 2)) part_none (part_some (ri_var 5))) (re_slice (re_i (ri_var 2)) (part_some (ri_bin op_addA opi_add (rp_i (ri_var 5)) (rp_i ri_int))) part_none)))))))
    (rb_one (rs_ret (re_i (ri_var 3)))))))
/-- names: 0 a, 1 b -/
noncomputable def w_law_gcd_0 : M Fl := (sPar [0, 1] (aCons (eI (iVar 1)) (aCons (eI (iBin dMod (iUn dInt (iVar 0)) (iVar 1))) aNil)))
noncomputable def b_law_gcd : M Fl := (sSeq (sAsgV 0 (eI (iUn dAbs (iVar 0))))
    (sSeq (sAsgV 1 (eI (iUn dAbs (iVar 1))))
    (sSeq (sWhile (bU (uOf (iBin (dEqF true) (iVar 1) (iC (.int 0))))) w_law_gcd_0)
    (sRet (eI (iVar 0))))))
noncomputable def den_law_gcd : Den := denB 2 2 b_law_gcd
theorem sc_law_gcd : FnScope ["a", "b"] ["a", "b"] (defScope s_law_gcd) := ⟨rfl, rfl, rfl, by decide +kernel, rfl, by decide +kernel, by decide +kernel⟩
theorem ok_law_gcd (T : Tx K mg a_Refused_init a_law_state a_law_take a_law_letters a_law_gcd a_law_frac a_law_item a_law_square a_law_plan a_Ratio_init a_law_ratios a_Matrix_init a_Alphabet_init a_Matrix_len a_Machine_init a_law_machine a_law_pair a_law_pairs a_law_word a_law_mul a_law_add a_law_dot a_law_after a_law_weight_of a_law_before a_Alphabet_index a_Ratio_add a_Ratio_mul a_combine a_Matrix_before a_Machine_row_after a_dot a_Machine_weight a_Matrix_times a_Machine_column_before a_law_refused a_law_bad a_Machine_size a_Machine_call a_law c_Ratio c_Matrix c_Alphabet c_Machine c_Fault c_Malformed c_Refused c_ZeroDivisor t_MOST_LETTERS t_SMALL) (hN : base.NoSeer) (hT : P.given.tree = none) (hP : P.main = PySem.Challenge.pw_wordweight_k10_weights_of_machines.main)  : DD P w K (GG c_Ratio c_Matrix c_Alphabet c_Machine c_ZeroDivisor c_Malformed c_Refused) mg base 1 a_law_gcd ["a", "b"] den_law_gcd [] := by
  exact dd_of T.f_law_gcd sc_law_gcd fun cdv A outer s H E hr =>
    (rb_cons (rs_setV (hx := by first | exact Or.inl rfl | exact Or.inr rfl) (i := 0) sc_law_gcd.nd (re_i (ri_c1 call_abs opc_abs rfl T.z_abs bt_abs (rp_i (ri_var 0)))))
    (rb_cons (rs_setV (hx := by first | exact Or.inl rfl | exact Or.inr rfl) (i := 1) sc_law_gcd.nd (re_i (ri_c1 call_abs opc_abs rfl T.z_abs bt_abs (rp_i (ri_var 1)))))
    (rb_cons (rs_while po_def (rt_u (ru_cmp op_ne opi_neF (rp_i (ri_var 1)) (rp_i ri_int) (nomark _))) (rb_one (rs_par (i := 0) (j := 1) sc_law_gcd.nd (by decide) rfl (ra_cons (re_i (ri_var 1)) (ra_cons (re_i (ri_bin op_mod opi_mod (rp_i (ri_t1 call_int1 opc_int rfl T.z_int bt_int (rp_i (ri_var 0)))) (rp_i (ri_var 1)))) ra_nil)))))
    (rb_one (rs_ret (re_i (ri_var 0)))))))
/-- names: 0 n, 1 d, 2 g -/
noncomputable def b_law_frac : M Fl := (sSeq (sIf (bU (uOf (iBin (dCmp2 fun i j => decide (i < j)) (iVar 1) (iC (.int 0))))) (sPar [0, 1] (aCons (eI (iUn dNeg (iVar 0))) (aCons (eI (iUn dNeg (iVar 1))) aNil))) (mR .next))
    (sSeq (sAsgV 2 (eCall den_law_gcd (aCons (eI (iVar 0)) (aCons (eI (iVar 1)) aNil))))
    (sRet (eTup (aCons (eI (iBin dDivP (iVar 0) (iVar 2))) (aCons (eI (iBin dDivP (iVar 1) (iVar 2))) aNil))))))
noncomputable def den_law_frac : Den := denB 2 3 b_law_frac
theorem sc_law_frac : FnScope ["n", "d", "g"] ["n", "d"] (defScope s_law_frac) := ⟨rfl, rfl, rfl, by decide +kernel, rfl, by decide +kernel, by decide +kernel⟩
theorem ok_law_frac (T : Tx K mg a_Refused_init a_law_state a_law_take a_law_letters a_law_gcd a_law_frac a_law_item a_law_square a_law_plan a_Ratio_init a_law_ratios a_Matrix_init a_Alphabet_init a_Matrix_len a_Machine_init a_law_machine a_law_pair a_law_pairs a_law_word a_law_mul a_law_add a_law_dot a_law_after a_law_weight_of a_law_before a_Alphabet_index a_Ratio_add a_Ratio_mul a_combine a_Matrix_before a_Machine_row_after a_dot a_Machine_weight a_Matrix_times a_Machine_column_before a_law_refused a_law_bad a_Machine_size a_Machine_call a_law c_Ratio c_Matrix c_Alphabet c_Machine c_Fault c_Malformed c_Refused c_ZeroDivisor t_MOST_LETTERS t_SMALL) (hN : base.NoSeer) (hT : P.given.tree = none) (hP : P.main = PySem.Challenge.pw_wordweight_k10_weights_of_machines.main) (h_law_gcd : DD P w K (GG c_Ratio c_Matrix c_Alphabet c_Machine c_ZeroDivisor c_Malformed c_Refused) mg base 1 a_law_gcd ["a", "b"] den_law_gcd []) : DD P w K (GG c_Ratio c_Matrix c_Alphabet c_Machine c_ZeroDivisor c_Malformed c_Refused) mg base 41 a_law_frac ["n", "d"] den_law_frac [] := by
  obtain ⟨fd_law_gcd, du_law_gcd, D_law_gcd, B_law_gcd, V_law_gcd, BD_law_gcd, K_law_gcd⟩ := h_law_gcd
  exact dd_of T.f_law_frac sc_law_frac fun cdv A outer s H E hr =>
    (rb_cons (rs_if (rt_u (ru_cmp op_lt opi_cmp (rp_i (ri_var 1)) (rp_i ri_int) (nomark _))) (rb_one (rs_par (i := 0) (j := 1) sc_law_frac.nd (by decide) rfl (ra_cons (re_i (ri_un un_neg opu_neg (rp_i (ri_var 0)))) (ra_cons (re_i (ri_un un_neg opu_neg (rp_i (ri_var 1)))) ra_nil)))) rb_nil)
    (rb_cons (rs_setV (hx := by first | exact Or.inl rfl | exact Or.inr rfl) (i := 2) sc_law_frac.nd (re_call D_law_gcd (hr.mono (by decide)) rfl T.g_law_gcd K_law_gcd B_law_gcd tk_def (ra_cons (re_i (ri_var 0)) (ra_cons (re_i (ri_var 1)) ra_nil))))
    (rb_one (rs_ret (re_tup (ra_cons (re_i (ri_bin (op_fdivP hN hT rfl rfl rfl (hr.mono (by decide))) opi_divP (rp_i (ri_var 0)) (rp_i (ri_var 2)))) (ra_cons (re_i (ri_bin (op_fdivP hN hT rfl rfl rfl (hr.mono (by decide))) opi_divP (rp_i (ri_var 1)) (rp_i (ri_var 2)))) ra_nil)))))))
/-- names: 0 state, 1 n -/
noncomputable def b_law_item : M Fl := (sSeq (sAsgV 1 (eBin dSub (eCallB den_law_take 0 (aCons (eI (iC (.int 5))) aNil)) (eI (iC (.int 2)))))
    (sSeq (sIf (bVal (eBin (dEqF false) (eCallB den_law_take 0 (aCons (eI (iC (.int 6))) aNil)) (eI (iC (.int 0))))) (sRet (eCall den_law_frac (aCons (eI (iVar 1)) (aCons (eI (iC (.int 2))) aNil)))) (mR .next))
    (sRet (eTup (aCons (eI (iVar 1)) (aCons (eI (iC (.int 1))) aNil))))))
noncomputable def den_law_item : Den := denB 1 2 b_law_item
theorem sc_law_item : FnScope ["state", "n"] ["state"] (defScope s_law_item) := ⟨rfl, rfl, rfl, by decide +kernel, rfl, by decide +kernel, by decide +kernel⟩
theorem ok_law_item (T : Tx K mg a_Refused_init a_law_state a_law_take a_law_letters a_law_gcd a_law_frac a_law_item a_law_square a_law_plan a_Ratio_init a_law_ratios a_Matrix_init a_Alphabet_init a_Matrix_len a_Machine_init a_law_machine a_law_pair a_law_pairs a_law_word a_law_mul a_law_add a_law_dot a_law_after a_law_weight_of a_law_before a_Alphabet_index a_Ratio_add a_Ratio_mul a_combine a_Matrix_before a_Machine_row_after a_dot a_Machine_weight a_Matrix_times a_Machine_column_before a_law_refused a_law_bad a_Machine_size a_Machine_call a_law c_Ratio c_Matrix c_Alphabet c_Machine c_Fault c_Malformed c_Refused c_ZeroDivisor t_MOST_LETTERS t_SMALL) (hN : base.NoSeer) (hT : P.given.tree = none) (hP : P.main = PySem.Challenge.pw_wordweight_k10_weights_of_machines.main) (h_law_take : DD P w K (GG c_Ratio c_Matrix c_Alphabet c_Machine c_ZeroDivisor c_Malformed c_Refused) mg base 41 a_law_take ["state", "m"] den_law_take []) (h_law_frac : DD P w K (GG c_Ratio c_Matrix c_Alphabet c_Machine c_ZeroDivisor c_Malformed c_Refused) mg base 41 a_law_frac ["n", "d"] den_law_frac []) : DD P w K (GG c_Ratio c_Matrix c_Alphabet c_Machine c_ZeroDivisor c_Malformed c_Refused) mg base 42 a_law_item ["state"] den_law_item [] := by
  obtain ⟨fd_law_take, du_law_take, D_law_take, B_law_take, V_law_take, BD_law_take, K_law_take⟩ := h_law_take
  obtain ⟨fd_law_frac, du_law_frac, D_law_frac, B_law_frac, V_law_frac, BD_law_frac, K_law_frac⟩ := h_law_frac
  exact dd_of T.f_law_item sc_law_item fun cdv A outer s H E hr =>
    (rb_cons (rs_setV (hx := by first | exact Or.inl rfl | exact Or.inr rfl) (i := 1) sc_law_item.nd (re_bin op_sub opi_sub (re_callB (i := 0) D_law_take (hr.mono (by decide)) rfl T.g_law_take K_law_take B_law_take tk_def (ra_cons (re_i ri_int) ra_nil)) (re_i ri_int)))
    (rb_cons (rs_if (rt_cmp op_eq opi_eqF (re_callB (i := 0) D_law_take (hr.mono (by decide)) rfl T.g_law_take K_law_take B_law_take tk_def (ra_cons (re_i ri_int) ra_nil)) (re_i ri_int) (nomark _)) (rb_one (rs_ret (re_call D_law_frac (hr.mono (by decide)) rfl T.g_law_frac K_law_frac B_law_frac tk_def (ra_cons (re_i (ri_var 1)) (ra_cons (re_i ri_int) ra_nil))))) rb_nil)
    (rb_one (rs_ret (re_tup (ra_cons (re_i (ri_var 1)) (ra_cons (re_i ri_int) ra_nil)))))))
/-- names: 0 state, 1 n, 2 rows, 3 i, 4 j -/
noncomputable def w_law_square_0 : M Fl := (sApp 2 (eLc [4] (itRng1 (iVar 1)) (gName 4) bYes (eCallB den_law_item 0 aNil)))
noncomputable def b_law_square : M Fl := (sSeq (sAsg 2 (eLst aNil))
    (sSeq (sFor (itRng1 (iVar 1)) (gName 3) w_law_square_0)
    (sRet (eMove 2))))
noncomputable def den_law_square : Den := denB 2 5 b_law_square
theorem sc_law_square : FnScope ["state", "n", "rows", "i", "j"] ["state", "n"] (defScope s_law_square) := ⟨rfl, rfl, rfl, by decide +kernel, rfl, by decide +kernel, by decide +kernel⟩
theorem ok_law_square (T : Tx K mg a_Refused_init a_law_state a_law_take a_law_letters a_law_gcd a_law_frac a_law_item a_law_square a_law_plan a_Ratio_init a_law_ratios a_Matrix_init a_Alphabet_init a_Matrix_len a_Machine_init a_law_machine a_law_pair a_law_pairs a_law_word a_law_mul a_law_add a_law_dot a_law_after a_law_weight_of a_law_before a_Alphabet_index a_Ratio_add a_Ratio_mul a_combine a_Matrix_before a_Machine_row_after a_dot a_Machine_weight a_Matrix_times a_Machine_column_before a_law_refused a_law_bad a_Machine_size a_Machine_call a_law c_Ratio c_Matrix c_Alphabet c_Machine c_Fault c_Malformed c_Refused c_ZeroDivisor t_MOST_LETTERS t_SMALL) (hN : base.NoSeer) (hT : P.given.tree = none) (hP : P.main = PySem.Challenge.pw_wordweight_k10_weights_of_machines.main) (h_law_item : DD P w K (GG c_Ratio c_Matrix c_Alphabet c_Machine c_ZeroDivisor c_Malformed c_Refused) mg base 42 a_law_item ["state"] den_law_item []) : DD P w K (GG c_Ratio c_Matrix c_Alphabet c_Machine c_ZeroDivisor c_Malformed c_Refused) mg base 43 a_law_square ["state", "n"] den_law_square [] := by
  obtain ⟨fd_law_item, du_law_item, D_law_item, B_law_item, V_law_item, BD_law_item, K_law_item⟩ := h_law_item
  exact dd_of T.f_law_square sc_law_square fun cdv A outer s H E hr =>
    (rb_cons (rs_set (hx := by first | exact Or.inl rfl | exact Or.inr rfl) (i := 2) sc_law_square.nd (re_lst ra_nil))
    (rb_cons (rs_for po_def rfl (rit_rng1 rfl T.z_range (ri_var 1)) (rg_name (i := 3) sc_law_square.nd) (rb_one (rs_app (i := 2) (re_lc (own := [("j", 4)]) (fun _ _ _ _ => trivial) rfl sc_law_square.nd (rit_rng1 rfl T.z_range (ri_var 1)) (blk_by (by kernel_rfl)) (fun _ _ _ _ _ => (rg_name (i := 4) sc_law_square.nd)) (fun _ _ _ _ _ => rts_nil) (fun _ _ _ _ _ => (re_callB (i := 0) D_law_item (hr.mono (by decide)) rfl T.g_law_item K_law_item B_law_item takes0 ra_nil)) (by decide)))))
    (rb_one (rs_ret (re_move 2)))))
/-- names: 0 state, 1 letters, 2 most, 3 n, 4 row, 5 k, 6 squares, 7 mark -/
noncomputable def b_law_plan : M Fl := (sSeq (sAsgV 3 (eCallB den_law_take 0 (aCons (eI (iBin dAdd (iVar 2) (iC (.int 1)))) aNil)))
    (sSeq (sAsgV 4 (eLc [5] (itRng1 (iVar 3)) (gName 5) bYes (eCallB den_law_item 0 aNil)))
    (sSeq (sAsgV 6 (eLc [7] (itStr (eI (iVar 1))) (gName 7) bYes (eCallB den_law_square 0 (aCons (eI (iVar 3)) aNil))))
    (sRet (eTup (aCons (eI (iVar 1)) (aCons (eI (iVar 4)) (aCons (eI (iVar 6)) (aCons (eLc [5] (itRng1 (iVar 3)) (gName 5) bYes (eCallB den_law_item 0 aNil)) aNil)))))))))
noncomputable def den_law_plan : Den := denB 3 8 b_law_plan
theorem sc_law_plan : FnScope ["state", "letters", "most", "n", "row", "k", "squares", "mark"] ["state", "letters", "most"] (defScope s_law_plan) := ⟨rfl, rfl, rfl, by decide +kernel, rfl, by decide +kernel, by decide +kernel⟩
theorem ok_law_plan (T : Tx K mg a_Refused_init a_law_state a_law_take a_law_letters a_law_gcd a_law_frac a_law_item a_law_square a_law_plan a_Ratio_init a_law_ratios a_Matrix_init a_Alphabet_init a_Matrix_len a_Machine_init a_law_machine a_law_pair a_law_pairs a_law_word a_law_mul a_law_add a_law_dot a_law_after a_law_weight_of a_law_before a_Alphabet_index a_Ratio_add a_Ratio_mul a_combine a_Matrix_before a_Machine_row_after a_dot a_Machine_weight a_Matrix_times a_Machine_column_before a_law_refused a_law_bad a_Machine_size a_Machine_call a_law c_Ratio c_Matrix c_Alphabet c_Machine c_Fault c_Malformed c_Refused c_ZeroDivisor t_MOST_LETTERS t_SMALL) (hN : base.NoSeer) (hT : P.given.tree = none) (hP : P.main = PySem.Challenge.pw_wordweight_k10_weights_of_machines.main) (h_law_take : DD P w K (GG c_Ratio c_Matrix c_Alphabet c_Machine c_ZeroDivisor c_Malformed c_Refused) mg base 41 a_law_take ["state", "m"] den_law_take []) (h_law_item : DD P w K (GG c_Ratio c_Matrix c_Alphabet c_Machine c_ZeroDivisor c_Malformed c_Refused) mg base 42 a_law_item ["state"] den_law_item []) (h_law_square : DD P w K (GG c_Ratio c_Matrix c_Alphabet c_Machine c_ZeroDivisor c_Malformed c_Refused) mg base 43 a_law_square ["state", "n"] den_law_square []) : DD P w K (GG c_Ratio c_Matrix c_Alphabet c_Machine c_ZeroDivisor c_Malformed c_Refused) mg base 44 a_law_plan ["state", "letters", "most"] den_law_plan [] := by
  obtain ⟨fd_law_take, du_law_take, D_law_take, B_law_take, V_law_take, BD_law_take, K_law_take⟩ := h_law_take
  obtain ⟨fd_law_item, du_law_item, D_law_item, B_law_item, V_law_item, BD_law_item, K_law_item⟩ := h_law_item
  obtain ⟨fd_law_square, du_law_square, D_law_square, B_law_square, V_law_square, BD_law_square, K_law_square⟩ := h_law_square
  exact dd_of T.f_law_plan sc_law_plan fun cdv A outer s H E hr =>
    (rb_cons (rs_setV (hx := by first | exact Or.inl rfl | exact Or.inr rfl) (i := 3) sc_law_plan.nd (re_callB (i := 0) D_law_take (hr.mono (by decide)) rfl T.g_law_take K_law_take B_law_take tk_def (ra_cons (re_i (ri_bin op_addA opi_add (rp_i (ri_var 2)) (rp_i ri_int))) ra_nil)))
    (rb_cons (rs_lcV (own := [("k", 5)]) (fun _ _ _ _ => trivial) rfl sc_law_plan.nd (i := 4) rfl rfl rfl (rit_rng1 rfl T.z_range (ri_var 3)) (blk_by (by kernel_rfl)) (fun _ _ _ _ _ => (rg_name (i := 5) sc_law_plan.nd)) (fun _ _ _ _ _ => rts_nil) (fun _ _ _ _ _ => (re_callB (i := 0) D_law_item (hr.mono (by decide)) rfl T.g_law_item K_law_item B_law_item takes0 ra_nil)) (by decide))
    (rb_cons (rs_lcV (own := [("mark", 7)]) (fun _ _ _ _ => trivial) rfl sc_law_plan.nd (i := 6) rfl rfl rfl (rit_str (re_i (ri_var 1))) (blk_by (by kernel_rfl)) (fun _ _ _ _ _ => (rg_name (i := 7) sc_law_plan.nd)) (fun _ _ _ _ _ => rts_nil) (fun _ _ _ _ _ => (re_callB (i := 0) D_law_square (hr.mono (by decide)) rfl T.g_law_square K_law_square B_law_square takes0 (ra_cons (re_i (ri_var 3)) ra_nil))) (by decide))
    (rb_one (rs_ret (re_tup (ra_cons (re_i (ri_var 1)) (ra_cons (re_i (ri_var 4)) (ra_cons (re_i (ri_var 6)) (ra_cons (re_lc (own := [("k", 5)]) (fun _ _ _ _ => trivial) rfl sc_law_plan.nd (rit_rng1 rfl T.z_range (ri_var 3)) (blk_by (by kernel_rfl)) (fun _ _ _ _ _ => (rg_name (i := 5) sc_law_plan.nd)) (fun _ _ _ _ _ => rts_nil) (fun _ _ _ _ _ => (re_callB (i := 0) D_law_item (hr.mono (by decide)) rfl T.g_law_item K_law_item B_law_item takes0 ra_nil)) (by decide)) ra_nil))))))))))
/-- names: 0 self, 1 n, 2 d, 3 common -/
noncomputable def b_Ratio_init : M Fl := (sSeq (sIf (bU (uOf (iBin (dEqF false) (iVar 2) (iC (.int 0))))) (sRaise 100) (mR .next))
    (sSeq (sAsgV 3 (eI (iIf (uOf (iBin (dCmp2 fun i j => decide (j < i)) (iVar 2) (iC (.int 0)))) (iBin dGcd (iVar 1) (iVar 2)) (iUn dNeg (iBin dGcd (iVar 1) (iVar 2))))))
    (sSeq (sFld 0 0 0 (eI (iBin dDivP (iVar 1) (iVar 3))))
    (sFld 0 0 1 (eI (iBin dDivP (iVar 2) (iVar 3)))))))
noncomputable def den_Ratio_init : Den := denB 3 4 b_Ratio_init
theorem sc_Ratio_init : FnScope ["self", "n", "d", "common"] ["self", "n", "d"] (defScope s_Ratio_init) := ⟨rfl, rfl, rfl, by decide +kernel, rfl, by decide +kernel, by decide +kernel⟩
theorem ok_Ratio_init (T : Tx K mg a_Refused_init a_law_state a_law_take a_law_letters a_law_gcd a_law_frac a_law_item a_law_square a_law_plan a_Ratio_init a_law_ratios a_Matrix_init a_Alphabet_init a_Matrix_len a_Machine_init a_law_machine a_law_pair a_law_pairs a_law_word a_law_mul a_law_add a_law_dot a_law_after a_law_weight_of a_law_before a_Alphabet_index a_Ratio_add a_Ratio_mul a_combine a_Matrix_before a_Machine_row_after a_dot a_Machine_weight a_Matrix_times a_Machine_column_before a_law_refused a_law_bad a_Machine_size a_Machine_call a_law c_Ratio c_Matrix c_Alphabet c_Machine c_Fault c_Malformed c_Refused c_ZeroDivisor t_MOST_LETTERS t_SMALL) (hN : base.NoSeer) (hT : P.given.tree = none) (hP : P.main = PySem.Challenge.pw_wordweight_k10_weights_of_machines.main)  : DD P w K (GG c_Ratio c_Matrix c_Alphabet c_Machine c_ZeroDivisor c_Malformed c_Refused) mg base 41 a_Ratio_init ["self", "n", "d"] den_Ratio_init [V.int 1] := by
  exact dd_of T.f_Ratio_init sc_Ratio_init fun cdv A outer s H E hr =>
    (rb_cons (rs_if (rt_u (ru_cmp op_eq opi_eqF (rp_i (ri_var 2)) (rp_i ri_int) (nomark _))) (rb_one (rs_raise rfl rfl tk_def PySem.F.excBase_ValueError T.ex_ZeroDivisor T.g_ZeroDivisor T.kp_ZeroDivisor (raises_own T.eb_ZeroDivisor T.et_ZeroDivisor) rfl)) rb_nil)
    (rb_cons (rs_setV (hx := by first | exact Or.inl rfl | exact Or.inr rfl) (i := 3) sc_Ratio_init.nd (re_i (ri_if (ru_cmp op_gt opi_cmp (rp_i (ri_var 2)) (rp_i ri_int) (nomark _)) (ri_f2 cr_gcd opc_gcd rfl T.g_gcd (rp_i (ri_var 1)) (rp_i (ri_var 2))) (ri_un un_neg opu_neg (rp_i (ri_f2 cr_gcd opc_gcd rfl T.g_gcd (rp_i (ri_var 1)) (rp_i (ri_var 2))))))))
    (rb_cons (rs_fld (i := 0) T.gok rfl (by decide) rfl rfl (re_i (ri_bin (op_fdivP hN hT rfl rfl rfl (hr.mono (by decide))) opi_divP (rp_i (ri_var 1)) (rp_i (ri_var 3)))))
    (rb_one (rs_fld (i := 0) T.gok rfl (by decide) rfl rfl (re_i (ri_bin (op_fdivP hN hT rfl rfl rfl (hr.mono (by decide))) opi_divP (rp_i (ri_var 2)) (rp_i (ri_var 3)))))))))
/-- names: 0 items, 1 item -/
noncomputable def b_law_ratios : M Fl := (sRet (eLc [1] (itLst (eI (iVar 0))) (gName 1) bYes (eMake 0 2 den_Ratio_init (aCons (eI (iBin dIx (iVar 1) (iC (.int 0)))) (aCons (eI (iBin dIx (iVar 1) (iC (.int 1)))) aNil)))))
noncomputable def den_law_ratios : Den := denB 1 2 b_law_ratios
theorem sc_law_ratios : FnScope ["items", "item"] ["items"] (defScope s_law_ratios) := ⟨rfl, rfl, rfl, by decide +kernel, rfl, by decide +kernel, by decide +kernel⟩
theorem ok_law_ratios (T : Tx K mg a_Refused_init a_law_state a_law_take a_law_letters a_law_gcd a_law_frac a_law_item a_law_square a_law_plan a_Ratio_init a_law_ratios a_Matrix_init a_Alphabet_init a_Matrix_len a_Machine_init a_law_machine a_law_pair a_law_pairs a_law_word a_law_mul a_law_add a_law_dot a_law_after a_law_weight_of a_law_before a_Alphabet_index a_Ratio_add a_Ratio_mul a_combine a_Matrix_before a_Machine_row_after a_dot a_Machine_weight a_Matrix_times a_Machine_column_before a_law_refused a_law_bad a_Machine_size a_Machine_call a_law c_Ratio c_Matrix c_Alphabet c_Machine c_Fault c_Malformed c_Refused c_ZeroDivisor t_MOST_LETTERS t_SMALL) (hN : base.NoSeer) (hT : P.given.tree = none) (hP : P.main = PySem.Challenge.pw_wordweight_k10_weights_of_machines.main) (h_Ratio_init : DD P w K (GG c_Ratio c_Matrix c_Alphabet c_Machine c_ZeroDivisor c_Malformed c_Refused) mg base 41 a_Ratio_init ["self", "n", "d"] den_Ratio_init [V.int 1]) : DD P w K (GG c_Ratio c_Matrix c_Alphabet c_Machine c_ZeroDivisor c_Malformed c_Refused) mg base 43 a_law_ratios ["items"] den_law_ratios [] := by
  obtain ⟨fd_Ratio_init, du_Ratio_init, D_Ratio_init, B_Ratio_init, V_Ratio_init, BD_Ratio_init, K_Ratio_init⟩ := h_Ratio_init
  exact dd_of T.f_law_ratios sc_law_ratios fun cdv A outer s H E hr =>
    (rb_one (rs_ret (re_lc (own := [("item", 1)]) (fun _ _ _ _ => trivial) rfl sc_law_ratios.nd (rit_lst (re_i (ri_var 0))) (blk_by (by kernel_rfl)) (fun _ _ _ _ _ => (rg_name (i := 1) sc_law_ratios.nd)) (fun _ _ _ _ _ => rts_nil) (fun _ _ _ _ _ => (re_make rfl rfl T.mk_Ratio D_Ratio_init (hr.mono (by decide)) rfl T.g_Ratio B_Ratio_init takes0 (ra_cons (re_i (ri_ix (rp_i (ri_var 1)) (rp_i ri_int))) (ra_cons (re_i (ri_ix (rp_i (ri_var 1)) (rp_i ri_int))) ra_nil)))) (by decide))))
/-- names: 0 self, 1 rows, 2 width, 3 row -/
noncomputable def b_Matrix_init : M Fl := (sSeq (sFld 0 1 0 (eF dTupOf (eLc [3] (alt (itLst (eI (iVar 1))) (itTup (eI (iVar 1)))) (gName 3) bYes (eF dTupOf (eI (iVar 3))))))
    (sFld 0 1 1 (eI (iVar 2))))
noncomputable def den_Matrix_init : Den := denB 3 4 b_Matrix_init
theorem sc_Matrix_init : FnScope ["self", "rows", "width", "row"] ["self", "rows", "width"] (defScope s_Matrix_init) := ⟨rfl, rfl, rfl, by decide +kernel, rfl, by decide +kernel, by decide +kernel⟩
theorem ok_Matrix_init (T : Tx K mg a_Refused_init a_law_state a_law_take a_law_letters a_law_gcd a_law_frac a_law_item a_law_square a_law_plan a_Ratio_init a_law_ratios a_Matrix_init a_Alphabet_init a_Matrix_len a_Machine_init a_law_machine a_law_pair a_law_pairs a_law_word a_law_mul a_law_add a_law_dot a_law_after a_law_weight_of a_law_before a_Alphabet_index a_Ratio_add a_Ratio_mul a_combine a_Matrix_before a_Machine_row_after a_dot a_Machine_weight a_Matrix_times a_Machine_column_before a_law_refused a_law_bad a_Machine_size a_Machine_call a_law c_Ratio c_Matrix c_Alphabet c_Machine c_Fault c_Malformed c_Refused c_ZeroDivisor t_MOST_LETTERS t_SMALL) (hN : base.NoSeer) (hT : P.given.tree = none) (hP : P.main = PySem.Challenge.pw_wordweight_k10_weights_of_machines.main)  : DD P w K (GG c_Ratio c_Matrix c_Alphabet c_Machine c_ZeroDivisor c_Malformed c_Refused) mg base 1 a_Matrix_init ["self", "rows", "width"] den_Matrix_init [] := by
  exact dd_of T.f_Matrix_init sc_Matrix_init fun cdv A outer s H E hr =>
    (rb_cons (rs_fld (i := 0) T.gok rfl (by decide) rfl rfl (re_tupOf rfl T.z_tuple (re_lc (own := [("row", 3)]) (fun _ _ _ _ => trivial) rfl sc_Matrix_init.nd (rit_alt (rit_lst (re_i (ri_var 1))) (rit_tup (re_i (ri_var 1)))) (blk_by (by kernel_rfl)) (fun _ _ _ _ _ => (rg_name (i := 3) sc_Matrix_init.nd)) (fun _ _ _ _ _ => rts_nil) (fun _ _ _ _ _ => (re_tupOf rfl T.z_tuple (re_i (ri_var 3)))) (by decide))))
    (rb_one (rs_fld (i := 0) T.gok rfl (by decide) rfl rfl (re_i (ri_var 2)))))
/-- names: 0 self, 1 letters, 2 k -/
noncomputable def w_Alphabet_init_0 : M Fl := (sIf (bOr (bU (uOf (iBin (dInS true) (iBin dIx (iVar 1) (iVar 2)) (iC (.str "abcdefghijklmnopqrstuvwxyz"))))) (bVal (eBin (dInS false) (eI (iBin dIx (iVar 1) (iVar 2))) (eSlice (eI (iVar 1)) none (some (iVar 2)))))) (sRaise 101) (mR .next))
noncomputable def b_Alphabet_init : M Fl := (sSeq (sIf (bU (uOr (uNot (uOf (iUn (dIs (isD 4 [.str])) (iVar 1)))) (uOr (uOf (iBin (dCmp2 fun i j => decide (i < j)) (iUn dLen (iVar 1)) (iC (.int 1)))) (uOf (iBin (dCmp2 fun i j => decide (j < i)) (iUn dLen (iVar 1)) (iC (.int 4))))))) (sRaise 101) (mR .next))
    (sSeq (sFor (itRng1 (iUn dLen (iVar 1))) (gName 2) w_Alphabet_init_0)
    (sFld 0 2 0 (eI (iVar 1)))))
noncomputable def den_Alphabet_init : Den := denB 2 3 b_Alphabet_init
theorem sc_Alphabet_init : FnScope ["self", "letters", "k"] ["self", "letters"] (defScope s_Alphabet_init) := ⟨rfl, rfl, rfl, by decide +kernel, rfl, by decide +kernel, by decide +kernel⟩
theorem ok_Alphabet_init (T : Tx K mg a_Refused_init a_law_state a_law_take a_law_letters a_law_gcd a_law_frac a_law_item a_law_square a_law_plan a_Ratio_init a_law_ratios a_Matrix_init a_Alphabet_init a_Matrix_len a_Machine_init a_law_machine a_law_pair a_law_pairs a_law_word a_law_mul a_law_add a_law_dot a_law_after a_law_weight_of a_law_before a_Alphabet_index a_Ratio_add a_Ratio_mul a_combine a_Matrix_before a_Machine_row_after a_dot a_Machine_weight a_Matrix_times a_Machine_column_before a_law_refused a_law_bad a_Machine_size a_Machine_call a_law c_Ratio c_Matrix c_Alphabet c_Machine c_Fault c_Malformed c_Refused c_ZeroDivisor t_MOST_LETTERS t_SMALL) (hN : base.NoSeer) (hT : P.given.tree = none) (hP : P.main = PySem.Challenge.pw_wordweight_k10_weights_of_machines.main)  : DD P w K (GG c_Ratio c_Matrix c_Alphabet c_Machine c_ZeroDivisor c_Malformed c_Refused) mg base 1 a_Alphabet_init ["self", "letters"] den_Alphabet_init [] := by
  exact dd_of T.f_Alphabet_init sc_Alphabet_init fun cdv A outer s H E hr =>
    (rb_cons (rs_if (rt_u (ru_w (rw_or (ru_not (ru_val (ri_is T.gok T.gis (isF_of T.kit (.cons ⟨fun _ q => (by cases q), rfl⟩ .nil)) rfl T.z_isinstance bt_isinstance (pe_bltn (v := V.ty _) rfl T.z_str bt_str rfl) (.ty _) (rp_i (ri_var 1))))) (rw_or (ru_cmp op_lt opi_cmp (rp_i (ri_c1 call_lenA opc_len rfl T.z_len bt_len (rp_i (ri_var 1)))) (rp_i ri_int) (nomark _)) (rw_or1 (ru_cmp op_gt opi_cmp (rp_i (ri_c1 call_lenA opc_len rfl T.z_len bt_len (rp_i (ri_var 1)))) (rp_i (ri_gint (i := 4) rfl T.v_MOST_LETTERS)) (nomark _))))))) (rb_one (rs_raise rfl rfl tk_def PySem.F.excBase_ValueError T.ex_Malformed T.g_Malformed T.kp_Malformed (raises_own T.eb_Malformed T.et_Malformed) rfl)) rb_nil)
    (rb_cons (rs_for po_def rfl (rit_rng1 rfl T.z_range (ri_c1 call_lenA opc_len rfl T.z_len bt_len (rp_i (ri_var 1)))) (rg_name (i := 2) sc_Alphabet_init.nd) (rb_one (rs_if (rt_w (rwt_or (rt_u (ru_cmp op_notInS opi_notInS (rp_i (ri_ix (rp_i (ri_var 1)) (rp_i (ri_var 2)))) (rp_i (ri_gstr (i := "abcdefghijklmnopqrstuvwxyz") rfl T.v_SMALL)) (by with_unfolding_all rfl))) (rwt_or1 (rt_cmp op_inS opi_inS (re_i (ri_ix (rp_i (ri_var 1)) (rp_i (ri_var 2)))) (re_slice (re_i (ri_var 1)) part_none (part_some (ri_var 2))) (by with_unfolding_all rfl))))) (rb_one (rs_raise rfl rfl tk_def PySem.F.excBase_ValueError T.ex_Malformed T.g_Malformed T.kp_Malformed (raises_own T.eb_Malformed T.et_Malformed) rfl)) rb_nil)))
    (rb_one (rs_fld (i := 0) T.gok rfl (by decide) rfl rfl (re_i (ri_var 1))))))
/-- names: 0 self -/
noncomputable def b_Matrix_len : M Fl := (sRet (eI (iUn dLen (iUn (dFld 1 0) (iVar 0)))))
noncomputable def den_Matrix_len : Den := denB 1 1 b_Matrix_len
theorem sc_Matrix_len : FnScope ["self"] ["self"] (defScope s_Matrix_len) := ⟨rfl, rfl, rfl, by decide +kernel, rfl, by decide +kernel, by decide +kernel⟩
theorem ok_Matrix_len (T : Tx K mg a_Refused_init a_law_state a_law_take a_law_letters a_law_gcd a_law_frac a_law_item a_law_square a_law_plan a_Ratio_init a_law_ratios a_Matrix_init a_Alphabet_init a_Matrix_len a_Machine_init a_law_machine a_law_pair a_law_pairs a_law_word a_law_mul a_law_add a_law_dot a_law_after a_law_weight_of a_law_before a_Alphabet_index a_Ratio_add a_Ratio_mul a_combine a_Matrix_before a_Machine_row_after a_dot a_Machine_weight a_Matrix_times a_Machine_column_before a_law_refused a_law_bad a_Machine_size a_Machine_call a_law c_Ratio c_Matrix c_Alphabet c_Machine c_Fault c_Malformed c_Refused c_ZeroDivisor t_MOST_LETTERS t_SMALL) (hN : base.NoSeer) (hT : P.given.tree = none) (hP : P.main = PySem.Challenge.pw_wordweight_k10_weights_of_machines.main)  : DD P w K (GG c_Ratio c_Matrix c_Alphabet c_Machine c_ZeroDivisor c_Malformed c_Refused) mg base 1 a_Matrix_len ["self"] den_Matrix_len [] := by
  exact dd_of T.f_Matrix_len sc_Matrix_len fun cdv A outer s H E hr =>
    (rb_one (rs_ret (re_i (ri_c1 call_lenA opc_len rfl T.z_len bt_len (rp_i (ri_fld T.gok rfl (by decide) rfl (rp_i (ri_var 0))))))))
/-- names: 0 self, 1 alphabet, 2 row, 3 matrices, 4 column, 5 matrix -/
noncomputable def w_Machine_init_0 : M Fl := (sIf (bOr (bVal (eBin (dEqF true) (eLenO 1 den_Matrix_len (eI (iVar 5))) (eI (iUn dLen (iUn (dFld 3 1) (pVar 0)))))) (bU (uOf (iBin (dEqF true) (iUn (dFld 1 1) (iVar 5)) (iUn dLen (iUn (dFld 3 1) (pVar 0))))))) (sRaise 101) (mR .next))
noncomputable def t_Machine_init_4 : M Fl := (sSeq (sIf (bU (uOr (uOf (iBin (dEqF true) (iUn dLen (iUn (dFld 3 1) (pVar 0))) (iUn dLen (iUn (dFld 3 3) (pVar 0))))) (uOf (iBin (dEqF true) (iUn dLen (iUn (dFld 3 2) (pVar 0))) (iUn dLen (iUn (dFld 2 0) (iVar 1))))))) (sRaise 101) (mR .next))
    (sFor (itTup (eI (iUn (dFld 3 2) (pVar 0)))) (gName 5) w_Machine_init_0))
noncomputable def t_Machine_init_3 : M Fl := (sSeq (sFld 0 3 3 (eF dTupOf (eI (iVar 4))))
    t_Machine_init_4)
noncomputable def t_Machine_init_2 : M Fl := (sSeq (sFld 0 3 2 (eF dTupOf (eI (iVar 3))))
    t_Machine_init_3)
noncomputable def t_Machine_init_1 : M Fl := (sSeq (sFld 0 3 1 (eF dTupOf (eI (iVar 2))))
    t_Machine_init_2)
noncomputable def b_Machine_init : M Fl := (sSeq (sFld 0 3 0 (eI (iVar 1)))
    t_Machine_init_1)
noncomputable def den_Machine_init : Den := denB 5 6 b_Machine_init
theorem sc_Machine_init : FnScope ["self", "alphabet", "row", "matrices", "column", "matrix"] ["self", "alphabet", "row", "matrices", "column"] (defScope s_Machine_init) := ⟨rfl, rfl, rfl, by decide +kernel, rfl, by decide +kernel, by decide +kernel⟩
theorem ok_Machine_init (T : Tx K mg a_Refused_init a_law_state a_law_take a_law_letters a_law_gcd a_law_frac a_law_item a_law_square a_law_plan a_Ratio_init a_law_ratios a_Matrix_init a_Alphabet_init a_Matrix_len a_Machine_init a_law_machine a_law_pair a_law_pairs a_law_word a_law_mul a_law_add a_law_dot a_law_after a_law_weight_of a_law_before a_Alphabet_index a_Ratio_add a_Ratio_mul a_combine a_Matrix_before a_Machine_row_after a_dot a_Machine_weight a_Matrix_times a_Machine_column_before a_law_refused a_law_bad a_Machine_size a_Machine_call a_law c_Ratio c_Matrix c_Alphabet c_Machine c_Fault c_Malformed c_Refused c_ZeroDivisor t_MOST_LETTERS t_SMALL) (hN : base.NoSeer) (hT : P.given.tree = none) (hP : P.main = PySem.Challenge.pw_wordweight_k10_weights_of_machines.main) (h_Matrix_len : DD P w K (GG c_Ratio c_Matrix c_Alphabet c_Machine c_ZeroDivisor c_Malformed c_Refused) mg base 1 a_Matrix_len ["self"] den_Matrix_len []) : DD P w K (GG c_Ratio c_Matrix c_Alphabet c_Machine c_ZeroDivisor c_Malformed c_Refused) mg base 3 a_Machine_init ["self", "alphabet", "row", "matrices", "column"] den_Machine_init [] := by
  obtain ⟨fd_Matrix_len, du_Matrix_len, D_Matrix_len, B_Matrix_len, V_Matrix_len, BD_Matrix_len, K_Matrix_len⟩ := h_Matrix_len
  exact dd_of T.f_Machine_init sc_Machine_init fun cdv A outer s H E hr =>
    (rb_cons (rs_fld (i := 0) T.gok rfl (by decide) rfl rfl (re_i (ri_var 1)))
    (rb_cons (rs_fld (i := 0) T.gok rfl (by decide) rfl rfl (re_tupOf rfl T.z_tuple (re_i (ri_var 2))))
    (rb_cons (rs_fld (i := 0) T.gok rfl (by decide) rfl rfl (re_tupOf rfl T.z_tuple (re_i (ri_var 3))))
    (rb_cons (rs_fld (i := 0) T.gok rfl (by decide) rfl rfl (re_tupOf rfl T.z_tuple (re_i (ri_var 4))))
    (rb_cons (rs_if (rt_u (ru_w (rw_or (ru_cmp op_ne opi_neF (rp_i (ri_c1 call_lenA opc_len rfl T.z_len bt_len (rp_i (ri_fld T.gok rfl (by decide) rfl (rp_var 0))))) (rp_i (ri_c1 call_lenA opc_len rfl T.z_len bt_len (rp_i (ri_fld T.gok rfl (by decide) rfl (rp_var 0))))) (nomark _)) (rw_or1 (ru_cmp op_ne opi_neF (rp_i (ri_c1 call_lenA opc_len rfl T.z_len bt_len (rp_i (ri_fld T.gok rfl (by decide) rfl (rp_var 0))))) (rp_i (ri_c1 call_lenA opc_len rfl T.z_len bt_len (rp_i (ri_fld T.gok rfl (by decide) rfl (rp_i (ri_var 1)))))) (nomark _)))))) (rb_one (rs_raise rfl rfl tk_def PySem.F.excBase_ValueError T.ex_Malformed T.g_Malformed T.kp_Malformed (raises_own T.eb_Malformed T.et_Malformed) rfl)) rb_nil)
    (rb_one (rs_for po_def rfl (rit_tup (re_i (ri_fld T.gok rfl (by decide) rfl (rp_var 0)))) (rg_name (i := 5) sc_Machine_init.nd) (rb_one (rs_if (rt_w (rwt_or (rt_cmp op_ne opi_neF (re_lenO rfl T.m_Matrix_len D_Matrix_len (hr.mono (by decide)) B_Matrix_len rfl T.z_len (re_i (ri_var 5))) (re_i (ri_c1 call_lenA opc_len rfl T.z_len bt_len (rp_i (ri_fld T.gok rfl (by decide) rfl (rp_var 0))))) (nomark _)) (rwt_or1 (rt_u (ru_cmp op_ne opi_neF (rp_i (ri_fld T.gok rfl (by decide) rfl (rp_i (ri_var 5)))) (rp_i (ri_c1 call_lenA opc_len rfl T.z_len bt_len (rp_i (ri_fld T.gok rfl (by decide) rfl (rp_var 0))))) (nomark _)))))) (rb_one (rs_raise rfl rfl tk_def PySem.F.excBase_ValueError T.ex_Malformed T.g_Malformed T.kp_Malformed (raises_own T.eb_Malformed T.et_Malformed) rfl)) rb_nil)))))))))
/-- names: 0 plan, 1 letters, 2 row, 3 squares, 4 column, 5 matrices, 6 rows, 7 items -/
noncomputable def w_law_machine_0 : M Fl := (sApp 5 (eMake 1 2 den_Matrix_init (aCons (eLc [7] (itLst (eI (iVar 6))) (gName 7) bYes (eCall den_law_ratios (aCons (eI (iVar 7)) aNil))) (aCons (eI (iUn dLen (iVar 2))) aNil))))
noncomputable def b_law_machine : M Fl := (sSeq (sAsgT (gTup [(gName 1), (gName 2), (gName 3), (gName 4)]) (eI (iVar 0)))
    (sSeq (sAsg 5 (eLst aNil))
    (sSeq (sFor (itLst (eI (iVar 3))) (gName 6) w_law_machine_0)
    (sRet (eMake 3 4 den_Machine_init (aCons (eMake 2 1 den_Alphabet_init (aCons (eI (iVar 1)) aNil)) (aCons (eCall den_law_ratios (aCons (eI (iVar 2)) aNil)) (aCons (eFrz 5) (aCons (eCall den_law_ratios (aCons (eI (iVar 4)) aNil)) aNil)))))))))
noncomputable def den_law_machine : Den := denB 1 8 b_law_machine
theorem sc_law_machine : FnScope ["plan", "letters", "row", "squares", "column", "matrices", "rows", "items"] ["plan"] (defScope s_law_machine) := ⟨rfl, rfl, rfl, by decide +kernel, rfl, by decide +kernel, by decide +kernel⟩
theorem ok_law_machine (T : Tx K mg a_Refused_init a_law_state a_law_take a_law_letters a_law_gcd a_law_frac a_law_item a_law_square a_law_plan a_Ratio_init a_law_ratios a_Matrix_init a_Alphabet_init a_Matrix_len a_Machine_init a_law_machine a_law_pair a_law_pairs a_law_word a_law_mul a_law_add a_law_dot a_law_after a_law_weight_of a_law_before a_Alphabet_index a_Ratio_add a_Ratio_mul a_combine a_Matrix_before a_Machine_row_after a_dot a_Machine_weight a_Matrix_times a_Machine_column_before a_law_refused a_law_bad a_Machine_size a_Machine_call a_law c_Ratio c_Matrix c_Alphabet c_Machine c_Fault c_Malformed c_Refused c_ZeroDivisor t_MOST_LETTERS t_SMALL) (hN : base.NoSeer) (hT : P.given.tree = none) (hP : P.main = PySem.Challenge.pw_wordweight_k10_weights_of_machines.main) (h_Matrix_init : DD P w K (GG c_Ratio c_Matrix c_Alphabet c_Machine c_ZeroDivisor c_Malformed c_Refused) mg base 1 a_Matrix_init ["self", "rows", "width"] den_Matrix_init []) (h_law_ratios : DD P w K (GG c_Ratio c_Matrix c_Alphabet c_Machine c_ZeroDivisor c_Malformed c_Refused) mg base 43 a_law_ratios ["items"] den_law_ratios []) (h_Machine_init : DD P w K (GG c_Ratio c_Matrix c_Alphabet c_Machine c_ZeroDivisor c_Malformed c_Refused) mg base 3 a_Machine_init ["self", "alphabet", "row", "matrices", "column"] den_Machine_init []) (h_Alphabet_init : DD P w K (GG c_Ratio c_Matrix c_Alphabet c_Machine c_ZeroDivisor c_Malformed c_Refused) mg base 1 a_Alphabet_init ["self", "letters"] den_Alphabet_init []) : DD P w K (GG c_Ratio c_Matrix c_Alphabet c_Machine c_ZeroDivisor c_Malformed c_Refused) mg base 44 a_law_machine ["plan"] den_law_machine [] := by
  obtain ⟨fd_Matrix_init, du_Matrix_init, D_Matrix_init, B_Matrix_init, V_Matrix_init, BD_Matrix_init, K_Matrix_init⟩ := h_Matrix_init
  obtain ⟨fd_law_ratios, du_law_ratios, D_law_ratios, B_law_ratios, V_law_ratios, BD_law_ratios, K_law_ratios⟩ := h_law_ratios
  obtain ⟨fd_Machine_init, du_Machine_init, D_Machine_init, B_Machine_init, V_Machine_init, BD_Machine_init, K_Machine_init⟩ := h_Machine_init
  obtain ⟨fd_Alphabet_init, du_Alphabet_init, D_Alphabet_init, B_Alphabet_init, V_Alphabet_init, BD_Alphabet_init, K_Alphabet_init⟩ := h_Alphabet_init
  exact dd_of T.f_law_machine sc_law_machine fun cdv A outer s H E hr =>
    (rb_cons (rs_asgT (re_i (ri_var 0)) (rg_tup rfl (rgs_cons (rg_name (i := 1) sc_law_machine.nd) (rgs_cons (rg_name (i := 2) sc_law_machine.nd) (rgs_cons (rg_name (i := 3) sc_law_machine.nd) (rgs_cons (rg_name (i := 4) sc_law_machine.nd) rgs_nil))))))
    (rb_cons (rs_set (hx := by first | exact Or.inl rfl | exact Or.inr rfl) (i := 5) sc_law_machine.nd (re_lst ra_nil))
    (rb_cons (rs_for po_def rfl (rit_lst (re_i (ri_var 3))) (rg_name (i := 6) sc_law_machine.nd) (rb_one (rs_app (i := 5) (re_make rfl rfl T.mk_Matrix D_Matrix_init (hr.mono (by decide)) rfl T.g_Matrix B_Matrix_init tk_def (ra_cons (re_lc (own := [("items", 7)]) (fun _ _ _ _ => trivial) rfl sc_law_machine.nd (rit_lst (re_i (ri_var 6))) (blk_by (by kernel_rfl)) (fun _ _ _ _ _ => (rg_name (i := 7) sc_law_machine.nd)) (fun _ _ _ _ _ => rts_nil) (fun _ _ _ _ _ => (re_call D_law_ratios (hr.mono (by decide)) rfl T.g_law_ratios K_law_ratios B_law_ratios takes0 (ra_cons (re_i (ri_var 7)) ra_nil))) (by decide)) (ra_cons (re_i (ri_c1 call_lenA opc_len rfl T.z_len bt_len (rp_i (ri_var 2)))) ra_nil))))))
    (rb_one (rs_ret (re_make rfl rfl T.mk_Machine D_Machine_init (hr.mono (by decide)) rfl T.g_Machine B_Machine_init tk_def (ra_cons (re_make rfl rfl T.mk_Alphabet D_Alphabet_init (hr.mono (by decide)) rfl T.g_Alphabet B_Alphabet_init tk_def (ra_cons (re_i (ri_var 1)) ra_nil)) (ra_cons (re_call D_law_ratios (hr.mono (by decide)) rfl T.g_law_ratios K_law_ratios B_law_ratios tk_def (ra_cons (re_i (ri_var 2)) ra_nil)) (ra_cons (re_frz 5) (ra_cons (re_call D_law_ratios (hr.mono (by decide)) rfl T.g_law_ratios K_law_ratios B_law_ratios tk_def (ra_cons (re_i (ri_var 4)) ra_nil)) ra_nil))))))))))
/-- names: 0 value -/
noncomputable def b_law_pair : M Fl := (sSeq (sIf (bU (uOr (uNot (uOf (iUn (dIs (isD 4 [(.obj 0)])) (iVar 0)))) (uOr (uOf (iUn (dIs (isD 4 [.bl])) (iUn (dFld 0 0) (iVar 0)))) (uOf (iUn (dIs (isD 4 [.bl])) (iUn (dFld 0 1) (iVar 0))))))) (sRet (eI (iC .non))) (mR .next))
    (sSeq (sIf (bOr (bU (uNot (uOf (iUn (dIs (isD 4 [.int])) (iUn (dFld 0 0) (iVar 0)))))) (bOr (bU (uNot (uOf (iUn (dIs (isD 4 [.int])) (iUn (dFld 0 1) (iVar 0)))))) (bOr (bU (uOf (iBin (dCmp2 fun i j => decide (i < j)) (iUn (dFld 0 1) (iVar 0)) (iC (.int 1))))) (bVal (eBin (dEqF true) (eCall den_law_gcd (aCons (eI (iUn (dFld 0 0) (iVar 0))) (aCons (eI (iUn (dFld 0 1) (iVar 0))) aNil))) (eI (iC (.int 1)))))))) (sRet (eI (iC .non))) (mR .next))
    (sRet (eTup (aCons (eI (iUn (dFld 0 0) (iVar 0))) (aCons (eI (iUn (dFld 0 1) (iVar 0))) aNil))))))
noncomputable def den_law_pair : Den := denB 1 1 b_law_pair
theorem sc_law_pair : FnScope ["value"] ["value"] (defScope s_law_pair) := ⟨rfl, rfl, rfl, by decide +kernel, rfl, by decide +kernel, by decide +kernel⟩
theorem ok_law_pair (T : Tx K mg a_Refused_init a_law_state a_law_take a_law_letters a_law_gcd a_law_frac a_law_item a_law_square a_law_plan a_Ratio_init a_law_ratios a_Matrix_init a_Alphabet_init a_Matrix_len a_Machine_init a_law_machine a_law_pair a_law_pairs a_law_word a_law_mul a_law_add a_law_dot a_law_after a_law_weight_of a_law_before a_Alphabet_index a_Ratio_add a_Ratio_mul a_combine a_Matrix_before a_Machine_row_after a_dot a_Machine_weight a_Matrix_times a_Machine_column_before a_law_refused a_law_bad a_Machine_size a_Machine_call a_law c_Ratio c_Matrix c_Alphabet c_Machine c_Fault c_Malformed c_Refused c_ZeroDivisor t_MOST_LETTERS t_SMALL) (hN : base.NoSeer) (hT : P.given.tree = none) (hP : P.main = PySem.Challenge.pw_wordweight_k10_weights_of_machines.main) (h_law_gcd : DD P w K (GG c_Ratio c_Matrix c_Alphabet c_Machine c_ZeroDivisor c_Malformed c_Refused) mg base 1 a_law_gcd ["a", "b"] den_law_gcd []) : DD P w K (GG c_Ratio c_Matrix c_Alphabet c_Machine c_ZeroDivisor c_Malformed c_Refused) mg base 2 a_law_pair ["value"] den_law_pair [] := by
  obtain ⟨fd_law_gcd, du_law_gcd, D_law_gcd, B_law_gcd, V_law_gcd, BD_law_gcd, K_law_gcd⟩ := h_law_gcd
  exact dd_of T.f_law_pair sc_law_pair fun cdv A outer s H E hr =>
    (rb_cons (rs_if (rt_u (ru_w (rw_or (ru_not (ru_val (ri_is T.gok T.gis (isF_of T.kit (.cons ⟨fun _ q => (by cases q; decide), rfl⟩ .nil)) rfl T.z_isinstance bt_isinstance (pe_glob (v := V.ref _) rfl T.g_Ratio rfl) (.own _) (rp_i (ri_var 0))))) (rw_or (ru_val (ri_is T.gok T.gis (isF_of T.kit (.cons ⟨fun _ q => (by cases q), rfl⟩ .nil)) rfl T.z_isinstance bt_isinstance (pe_bltn (v := V.ty _) rfl T.z_bool bt_bool rfl) (.ty _) (rp_i (ri_fld T.gok rfl (by decide) rfl (rp_i (ri_var 0)))))) (rw_or1 (ru_val (ri_is T.gok T.gis (isF_of T.kit (.cons ⟨fun _ q => (by cases q), rfl⟩ .nil)) rfl T.z_isinstance bt_isinstance (pe_bltn (v := V.ty _) rfl T.z_bool bt_bool rfl) (.ty _) (rp_i (ri_fld T.gok rfl (by decide) rfl (rp_i (ri_var 0))))))))))) (rb_one (rs_ret (re_i ri_non))) rb_nil)
    (rb_cons (rs_if (rt_w (rwt_or (rt_u (ru_not (ru_val (ri_is T.gok T.gis (isF_of T.kit (.cons ⟨fun _ q => (by cases q), rfl⟩ .nil)) rfl T.z_isinstance bt_isinstance (pe_bltn (v := V.ty _) rfl T.z_int bt_int rfl) (.ty _) (rp_i (ri_fld T.gok rfl (by decide) rfl (rp_i (ri_var 0)))))))) (rwt_or (rt_u (ru_not (ru_val (ri_is T.gok T.gis (isF_of T.kit (.cons ⟨fun _ q => (by cases q), rfl⟩ .nil)) rfl T.z_isinstance bt_isinstance (pe_bltn (v := V.ty _) rfl T.z_int bt_int rfl) (.ty _) (rp_i (ri_fld T.gok rfl (by decide) rfl (rp_i (ri_var 0)))))))) (rwt_or (rt_u (ru_cmp op_lt opi_cmp (rp_i (ri_fld T.gok rfl (by decide) rfl (rp_i (ri_var 0)))) (rp_i ri_int) (nomark _))) (rwt_or1 (rt_cmp op_ne opi_neF (re_call D_law_gcd (hr.mono (by decide)) rfl T.g_law_gcd K_law_gcd B_law_gcd tk_def (ra_cons (re_i (ri_fld T.gok rfl (by decide) rfl (rp_i (ri_var 0)))) (ra_cons (re_i (ri_fld T.gok rfl (by decide) rfl (rp_i (ri_var 0)))) ra_nil))) (re_i ri_int) (nomark _))))))) (rb_one (rs_ret (re_i ri_non))) rb_nil)
    (rb_one (rs_ret (re_tup (ra_cons (re_i (ri_fld T.gok rfl (by decide) rfl (rp_i (ri_var 0)))) (ra_cons (re_i (ri_fld T.gok rfl (by decide) rfl (rp_i (ri_var 0)))) ra_nil)))))))
/-- names: 0 values, 1 found, 2 value -/
noncomputable def b_law_pairs : M Fl := (sSeq (sIf (bU (uNot (uOf (iUn (dIs (isD 4 [.tup])) (iVar 0))))) (sRet (eI (iC .non))) (mR .next))
    (sSeq (sAsgV 1 (eLc [2] (itTup (eI (iVar 0))) (gName 2) bYes (eCall den_law_pair (aCons (eI (iVar 2)) aNil))))
    (sSeq (sIf (bU (uOf (iBin (dInD false) (iC .non) (iVar 1)))) (sRet (eI (iC .non))) (mR .next))
    (sRet (eI (iVar 1))))))
noncomputable def den_law_pairs : Den := denB 1 3 b_law_pairs
theorem sc_law_pairs : FnScope ["values", "found", "value"] ["values"] (defScope s_law_pairs) := ⟨rfl, rfl, rfl, by decide +kernel, rfl, by decide +kernel, by decide +kernel⟩
theorem ok_law_pairs (T : Tx K mg a_Refused_init a_law_state a_law_take a_law_letters a_law_gcd a_law_frac a_law_item a_law_square a_law_plan a_Ratio_init a_law_ratios a_Matrix_init a_Alphabet_init a_Matrix_len a_Machine_init a_law_machine a_law_pair a_law_pairs a_law_word a_law_mul a_law_add a_law_dot a_law_after a_law_weight_of a_law_before a_Alphabet_index a_Ratio_add a_Ratio_mul a_combine a_Matrix_before a_Machine_row_after a_dot a_Machine_weight a_Matrix_times a_Machine_column_before a_law_refused a_law_bad a_Machine_size a_Machine_call a_law c_Ratio c_Matrix c_Alphabet c_Machine c_Fault c_Malformed c_Refused c_ZeroDivisor t_MOST_LETTERS t_SMALL) (hN : base.NoSeer) (hT : P.given.tree = none) (hP : P.main = PySem.Challenge.pw_wordweight_k10_weights_of_machines.main) (h_law_pair : DD P w K (GG c_Ratio c_Matrix c_Alphabet c_Machine c_ZeroDivisor c_Malformed c_Refused) mg base 2 a_law_pair ["value"] den_law_pair []) : DD P w K (GG c_Ratio c_Matrix c_Alphabet c_Machine c_ZeroDivisor c_Malformed c_Refused) mg base 3 a_law_pairs ["values"] den_law_pairs [] := by
  obtain ⟨fd_law_pair, du_law_pair, D_law_pair, B_law_pair, V_law_pair, BD_law_pair, K_law_pair⟩ := h_law_pair
  exact dd_of T.f_law_pairs sc_law_pairs fun cdv A outer s H E hr =>
    (rb_cons (rs_if (rt_u (ru_not (ru_val (ri_is T.gok T.gis (isF_of T.kit (.cons ⟨fun _ q => (by cases q), rfl⟩ .nil)) rfl T.z_isinstance bt_isinstance (pe_bltn (v := V.ty _) rfl T.z_tuple bt_tuple rfl) (.ty _) (rp_i (ri_var 0)))))) (rb_one (rs_ret (re_i ri_non))) rb_nil)
    (rb_cons (rs_lcV (own := [("value", 2)]) (fun _ _ _ _ => trivial) rfl sc_law_pairs.nd (i := 1) rfl rfl rfl (rit_tup (re_i (ri_var 0))) (blk_by (by kernel_rfl)) (fun _ _ _ _ _ => (rg_name (i := 2) sc_law_pairs.nd)) (fun _ _ _ _ _ => rts_nil) (fun _ _ _ _ _ => (re_call D_law_pair (hr.mono (by decide)) rfl T.g_law_pair K_law_pair B_law_pair takes0 (ra_cons (re_i (ri_var 2)) ra_nil))) (by decide))
    (rb_cons (rs_if (rt_u (ru_cmp (op_inD (units_of1 hr)) opi_inD (rp_i ri_non) (rp_i (ri_var 1)) (by with_unfolding_all rfl))) (rb_one (rs_ret (re_i ri_non))) rb_nil)
    (rb_one (rs_ret (re_i (ri_var 1)))))))
/-- names: 0 state, 1 letters, 2 most, 3 word, 4 k -/
noncomputable def w_law_word_0 : M Fl := (sAsgV 3 (eBin dAdd (eI (iVar 3)) (eBin dIx (eI (iVar 1)) (eCallB den_law_take 0 (aCons (eI (iUn dLen (iVar 1))) aNil)))))
noncomputable def b_law_word : M Fl := (sSeq (sAsgV 3 (eI (iC (.str ""))))
    (sSeq (sFor (itRngE (eCallB den_law_take 0 (aCons (eI (iBin dAdd (iVar 2) (iC (.int 1)))) aNil))) (gName 4) w_law_word_0)
    (sRet (eI (iVar 3)))))
noncomputable def den_law_word : Den := denB 3 5 b_law_word
theorem sc_law_word : FnScope ["state", "letters", "most", "word", "k"] ["state", "letters", "most"] (defScope s_law_word) := ⟨rfl, rfl, rfl, by decide +kernel, rfl, by decide +kernel, by decide +kernel⟩
theorem ok_law_word (T : Tx K mg a_Refused_init a_law_state a_law_take a_law_letters a_law_gcd a_law_frac a_law_item a_law_square a_law_plan a_Ratio_init a_law_ratios a_Matrix_init a_Alphabet_init a_Matrix_len a_Machine_init a_law_machine a_law_pair a_law_pairs a_law_word a_law_mul a_law_add a_law_dot a_law_after a_law_weight_of a_law_before a_Alphabet_index a_Ratio_add a_Ratio_mul a_combine a_Matrix_before a_Machine_row_after a_dot a_Machine_weight a_Matrix_times a_Machine_column_before a_law_refused a_law_bad a_Machine_size a_Machine_call a_law c_Ratio c_Matrix c_Alphabet c_Machine c_Fault c_Malformed c_Refused c_ZeroDivisor t_MOST_LETTERS t_SMALL) (hN : base.NoSeer) (hT : P.given.tree = none) (hP : P.main = PySem.Challenge.pw_wordweight_k10_weights_of_machines.main) (h_law_take : DD P w K (GG c_Ratio c_Matrix c_Alphabet c_Machine c_ZeroDivisor c_Malformed c_Refused) mg base 41 a_law_take ["state", "m"] den_law_take []) : DD P w K (GG c_Ratio c_Matrix c_Alphabet c_Machine c_ZeroDivisor c_Malformed c_Refused) mg base 42 a_law_word ["state", "letters", "most"] den_law_word [] := by
  obtain ⟨fd_law_take, du_law_take, D_law_take, B_law_take, V_law_take, BD_law_take, K_law_take⟩ := h_law_take
  exact dd_of T.f_law_word sc_law_word fun cdv A outer s H E hr =>
    (rb_cons (rs_setV (hx := by first | exact Or.inl rfl | exact Or.inr rfl) (i := 3) sc_law_word.nd (re_i ri_str))
    (rb_cons (rs_for po_def rfl (rit_rngE rfl T.z_range (re_callB (i := 0) D_law_take (hr.mono (by decide)) rfl T.g_law_take K_law_take B_law_take tk_def (ra_cons (re_i (ri_bin op_addA opi_add (rp_i (ri_var 2)) (rp_i ri_int))) ra_nil))) (rg_name (i := 4) sc_law_word.nd) (rb_one (rs_setV (hx := by first | exact Or.inl rfl | exact Or.inr rfl) (i := 3) sc_law_word.nd (re_bin op_addA opi_add (re_i (ri_var 3)) (re_ix (re_i (ri_var 1)) (re_callB (i := 0) D_law_take (hr.mono (by decide)) rfl T.g_law_take K_law_take B_law_take tk_def (ra_cons (re_i (ri_c1 call_lenA opc_len rfl T.z_len bt_len (rp_i (ri_var 1)))) ra_nil)))))))
    (rb_one (rs_ret (re_i (ri_var 3))))))
/-- names: 0 a, 1 b -/
noncomputable def b_law_mul : M Fl := (sRet (eCall den_law_frac (aCons (eI (iBin dMul (iBin dIx (iVar 0) (iC (.int 0))) (iBin dIx (iVar 1) (iC (.int 0))))) (aCons (eI (iBin dMul (iBin dIx (iVar 0) (iC (.int 1))) (iBin dIx (iVar 1) (iC (.int 1))))) aNil))))
noncomputable def den_law_mul : Den := denB 2 2 b_law_mul
theorem sc_law_mul : FnScope ["a", "b"] ["a", "b"] (defScope s_law_mul) := ⟨rfl, rfl, rfl, by decide +kernel, rfl, by decide +kernel, by decide +kernel⟩
theorem ok_law_mul (T : Tx K mg a_Refused_init a_law_state a_law_take a_law_letters a_law_gcd a_law_frac a_law_item a_law_square a_law_plan a_Ratio_init a_law_ratios a_Matrix_init a_Alphabet_init a_Matrix_len a_Machine_init a_law_machine a_law_pair a_law_pairs a_law_word a_law_mul a_law_add a_law_dot a_law_after a_law_weight_of a_law_before a_Alphabet_index a_Ratio_add a_Ratio_mul a_combine a_Matrix_before a_Machine_row_after a_dot a_Machine_weight a_Matrix_times a_Machine_column_before a_law_refused a_law_bad a_Machine_size a_Machine_call a_law c_Ratio c_Matrix c_Alphabet c_Machine c_Fault c_Malformed c_Refused c_ZeroDivisor t_MOST_LETTERS t_SMALL) (hN : base.NoSeer) (hT : P.given.tree = none) (hP : P.main = PySem.Challenge.pw_wordweight_k10_weights_of_machines.main) (h_law_frac : DD P w K (GG c_Ratio c_Matrix c_Alphabet c_Machine c_ZeroDivisor c_Malformed c_Refused) mg base 41 a_law_frac ["n", "d"] den_law_frac []) : DD P w K (GG c_Ratio c_Matrix c_Alphabet c_Machine c_ZeroDivisor c_Malformed c_Refused) mg base 42 a_law_mul ["a", "b"] den_law_mul [] := by
  obtain ⟨fd_law_frac, du_law_frac, D_law_frac, B_law_frac, V_law_frac, BD_law_frac, K_law_frac⟩ := h_law_frac
  exact dd_of T.f_law_mul sc_law_mul fun cdv A outer s H E hr =>
    (rb_one (rs_ret (re_call D_law_frac (hr.mono (by decide)) rfl T.g_law_frac K_law_frac B_law_frac tk_def (ra_cons (re_i (ri_bin op_mulY opi_mul (rp_i (ri_ix (rp_i (ri_var 0)) (rp_i ri_int))) (rp_i (ri_ix (rp_i (ri_var 1)) (rp_i ri_int))))) (ra_cons (re_i (ri_bin op_mulY opi_mul (rp_i (ri_ix (rp_i (ri_var 0)) (rp_i ri_int))) (rp_i (ri_ix (rp_i (ri_var 1)) (rp_i ri_int))))) ra_nil)))))
/-- names: 0 a, 1 b -/
noncomputable def b_law_add : M Fl := (sRet (eCall den_law_frac (aCons (eI (iBin dAdd (iBin dMul (iBin dIx (iVar 0) (iC (.int 0))) (iBin dIx (iVar 1) (iC (.int 1)))) (iBin dMul (iBin dIx (iVar 1) (iC (.int 0))) (iBin dIx (iVar 0) (iC (.int 1)))))) (aCons (eI (iBin dMul (iBin dIx (iVar 0) (iC (.int 1))) (iBin dIx (iVar 1) (iC (.int 1))))) aNil))))
noncomputable def den_law_add : Den := denB 2 2 b_law_add
theorem sc_law_add : FnScope ["a", "b"] ["a", "b"] (defScope s_law_add) := ⟨rfl, rfl, rfl, by decide +kernel, rfl, by decide +kernel, by decide +kernel⟩
theorem ok_law_add (T : Tx K mg a_Refused_init a_law_state a_law_take a_law_letters a_law_gcd a_law_frac a_law_item a_law_square a_law_plan a_Ratio_init a_law_ratios a_Matrix_init a_Alphabet_init a_Matrix_len a_Machine_init a_law_machine a_law_pair a_law_pairs a_law_word a_law_mul a_law_add a_law_dot a_law_after a_law_weight_of a_law_before a_Alphabet_index a_Ratio_add a_Ratio_mul a_combine a_Matrix_before a_Machine_row_after a_dot a_Machine_weight a_Matrix_times a_Machine_column_before a_law_refused a_law_bad a_Machine_size a_Machine_call a_law c_Ratio c_Matrix c_Alphabet c_Machine c_Fault c_Malformed c_Refused c_ZeroDivisor t_MOST_LETTERS t_SMALL) (hN : base.NoSeer) (hT : P.given.tree = none) (hP : P.main = PySem.Challenge.pw_wordweight_k10_weights_of_machines.main) (h_law_frac : DD P w K (GG c_Ratio c_Matrix c_Alphabet c_Machine c_ZeroDivisor c_Malformed c_Refused) mg base 41 a_law_frac ["n", "d"] den_law_frac []) : DD P w K (GG c_Ratio c_Matrix c_Alphabet c_Machine c_ZeroDivisor c_Malformed c_Refused) mg base 42 a_law_add ["a", "b"] den_law_add [] := by
  obtain ⟨fd_law_frac, du_law_frac, D_law_frac, B_law_frac, V_law_frac, BD_law_frac, K_law_frac⟩ := h_law_frac
  exact dd_of T.f_law_add sc_law_add fun cdv A outer s H E hr =>
    (rb_one (rs_ret (re_call D_law_frac (hr.mono (by decide)) rfl T.g_law_frac K_law_frac B_law_frac tk_def (ra_cons (re_i (ri_bin op_addA opi_add (rp_i (ri_bin op_mulY opi_mul (rp_i (ri_ix (rp_i (ri_var 0)) (rp_i ri_int))) (rp_i (ri_ix (rp_i (ri_var 1)) (rp_i ri_int))))) (rp_i (ri_bin op_mulY opi_mul (rp_i (ri_ix (rp_i (ri_var 1)) (rp_i ri_int))) (rp_i (ri_ix (rp_i (ri_var 0)) (rp_i ri_int))))))) (ra_cons (re_i (ri_bin op_mulY opi_mul (rp_i (ri_ix (rp_i (ri_var 0)) (rp_i ri_int))) (rp_i (ri_ix (rp_i (ri_var 1)) (rp_i ri_int))))) ra_nil)))))
/-- names: 0 a, 1 b, 2 total, 3 k -/
noncomputable def w_law_dot_0 : M Fl := (sAsgV 2 (eCall den_law_add (aCons (eI (iVar 2)) (aCons (eCall den_law_mul (aCons (eI (iBin dIx (iVar 0) (iVar 3))) (aCons (eI (iBin dIx (iVar 1) (iVar 3))) aNil))) aNil))))
noncomputable def b_law_dot : M Fl := (sSeq (sAsgV 2 (eTup (aCons (eI (iC (.int 0))) (aCons (eI (iC (.int 1))) aNil))))
    (sSeq (sFor (itRng1 (iUn dLen (iVar 0))) (gName 3) w_law_dot_0)
    (sRet (eI (iVar 2)))))
noncomputable def den_law_dot : Den := denB 2 4 b_law_dot
theorem sc_law_dot : FnScope ["a", "b", "total", "k"] ["a", "b"] (defScope s_law_dot) := ⟨rfl, rfl, rfl, by decide +kernel, rfl, by decide +kernel, by decide +kernel⟩
theorem ok_law_dot (T : Tx K mg a_Refused_init a_law_state a_law_take a_law_letters a_law_gcd a_law_frac a_law_item a_law_square a_law_plan a_Ratio_init a_law_ratios a_Matrix_init a_Alphabet_init a_Matrix_len a_Machine_init a_law_machine a_law_pair a_law_pairs a_law_word a_law_mul a_law_add a_law_dot a_law_after a_law_weight_of a_law_before a_Alphabet_index a_Ratio_add a_Ratio_mul a_combine a_Matrix_before a_Machine_row_after a_dot a_Machine_weight a_Matrix_times a_Machine_column_before a_law_refused a_law_bad a_Machine_size a_Machine_call a_law c_Ratio c_Matrix c_Alphabet c_Machine c_Fault c_Malformed c_Refused c_ZeroDivisor t_MOST_LETTERS t_SMALL) (hN : base.NoSeer) (hT : P.given.tree = none) (hP : P.main = PySem.Challenge.pw_wordweight_k10_weights_of_machines.main) (h_law_add : DD P w K (GG c_Ratio c_Matrix c_Alphabet c_Machine c_ZeroDivisor c_Malformed c_Refused) mg base 42 a_law_add ["a", "b"] den_law_add []) (h_law_mul : DD P w K (GG c_Ratio c_Matrix c_Alphabet c_Machine c_ZeroDivisor c_Malformed c_Refused) mg base 42 a_law_mul ["a", "b"] den_law_mul []) : DD P w K (GG c_Ratio c_Matrix c_Alphabet c_Machine c_ZeroDivisor c_Malformed c_Refused) mg base 43 a_law_dot ["a", "b"] den_law_dot [] := by
  obtain ⟨fd_law_add, du_law_add, D_law_add, B_law_add, V_law_add, BD_law_add, K_law_add⟩ := h_law_add
  obtain ⟨fd_law_mul, du_law_mul, D_law_mul, B_law_mul, V_law_mul, BD_law_mul, K_law_mul⟩ := h_law_mul
  exact dd_of T.f_law_dot sc_law_dot fun cdv A outer s H E hr =>
    (rb_cons (rs_setV (hx := by first | exact Or.inl rfl | exact Or.inr rfl) (i := 2) sc_law_dot.nd (re_tup (ra_cons (re_i ri_int) (ra_cons (re_i ri_int) ra_nil))))
    (rb_cons (rs_for po_def rfl (rit_rng1 rfl T.z_range (ri_c1 call_lenA opc_len rfl T.z_len bt_len (rp_i (ri_var 0)))) (rg_name (i := 3) sc_law_dot.nd) (rb_one (rs_setV (hx := by first | exact Or.inl rfl | exact Or.inr rfl) (i := 2) sc_law_dot.nd (re_call D_law_add (hr.mono (by decide)) rfl T.g_law_add K_law_add B_law_add tk_def (ra_cons (re_i (ri_var 2)) (ra_cons (re_call D_law_mul (hr.mono (by decide)) rfl T.g_law_mul K_law_mul B_law_mul tk_def (ra_cons (re_i (ri_ix (rp_i (ri_var 0)) (rp_i (ri_var 3)))) (ra_cons (re_i (ri_ix (rp_i (ri_var 1)) (rp_i (ri_var 3)))) ra_nil))) ra_nil))))))
    (rb_one (rs_ret (re_i (ri_var 2))))))
/-- names: 0 plan, 1 word, 2 letters, 3 row, 4 squares, 5 column, 6 mark, 7 rows, 8 i, 9 j -/
noncomputable def w_law_after_0 : M Fl := (sSeq (sAsgV 7 (eI (iBin dIx (iVar 4) (iBin dFind (iVar 2) (iVar 6)))))
    (sAsgV 3 (eLc [9] (itRng1 (iUn dLen (iVar 3))) (gName 9) bYes (eCall den_law_dot (aCons (eI (iVar 3)) (aCons (eLc [8] (itRng1 (iUn dLen (iVar 3))) (gName 8) bYes (eI (iBin dIx (iBin dIx (iVar 7) (iVar 8)) (iVar 9)))) aNil))))))
noncomputable def b_law_after : M Fl := (sSeq (sAsgT (gTup [(gName 2), (gName 3), (gName 4), (gName 5)]) (eI (iVar 0)))
    (sSeq (sFor (itStr (eI (iVar 1))) (gName 6) w_law_after_0)
    (sRet (eI (iVar 3)))))
noncomputable def den_law_after : Den := denB 2 10 b_law_after
theorem sc_law_after : FnScope ["plan", "word", "letters", "row", "squares", "column", "mark", "rows", "i", "j"] ["plan", "word"] (defScope s_law_after) := ⟨rfl, rfl, rfl, by decide +kernel, rfl, by decide +kernel, by decide +kernel⟩
theorem ok_law_after (T : Tx K mg a_Refused_init a_law_state a_law_take a_law_letters a_law_gcd a_law_frac a_law_item a_law_square a_law_plan a_Ratio_init a_law_ratios a_Matrix_init a_Alphabet_init a_Matrix_len a_Machine_init a_law_machine a_law_pair a_law_pairs a_law_word a_law_mul a_law_add a_law_dot a_law_after a_law_weight_of a_law_before a_Alphabet_index a_Ratio_add a_Ratio_mul a_combine a_Matrix_before a_Machine_row_after a_dot a_Machine_weight a_Matrix_times a_Machine_column_before a_law_refused a_law_bad a_Machine_size a_Machine_call a_law c_Ratio c_Matrix c_Alphabet c_Machine c_Fault c_Malformed c_Refused c_ZeroDivisor t_MOST_LETTERS t_SMALL) (hN : base.NoSeer) (hT : P.given.tree = none) (hP : P.main = PySem.Challenge.pw_wordweight_k10_weights_of_machines.main) (h_law_dot : DD P w K (GG c_Ratio c_Matrix c_Alphabet c_Machine c_ZeroDivisor c_Malformed c_Refused) mg base 43 a_law_dot ["a", "b"] den_law_dot []) : DD P w K (GG c_Ratio c_Matrix c_Alphabet c_Machine c_ZeroDivisor c_Malformed c_Refused) mg base 44 a_law_after ["plan", "word"] den_law_after [] := by
  obtain ⟨fd_law_dot, du_law_dot, D_law_dot, B_law_dot, V_law_dot, BD_law_dot, K_law_dot⟩ := h_law_dot
  exact dd_of T.f_law_after sc_law_after fun cdv A outer s H E hr =>
    (rb_cons (rs_asgT (re_i (ri_var 0)) (rg_tup rfl (rgs_cons (rg_name (i := 2) sc_law_after.nd) (rgs_cons (rg_name (i := 3) sc_law_after.nd) (rgs_cons (rg_name (i := 4) sc_law_after.nd) (rgs_cons (rg_name (i := 5) sc_law_after.nd) rgs_nil))))))
    (rb_cons (rs_for po_def rfl (rit_str (re_i (ri_var 1))) (rg_name (i := 6) sc_law_after.nd) (rb_cons (rs_setV (hx := by first | exact Or.inl rfl | exact Or.inr rfl) (i := 7) sc_law_after.nd (re_i (ri_ix (rp_i (ri_var 4)) (rp_i (ri_find (rp_i (ri_var 2)) (rp_i (ri_var 6)))))))
    (rb_one (rs_setV (hx := by first | exact Or.inl rfl | exact Or.inr rfl) (i := 3) sc_law_after.nd (re_lc (own := [("j", 9)]) (fun _ _ _ _ => trivial) rfl sc_law_after.nd (rit_rng1 rfl T.z_range (ri_c1 call_lenA opc_len rfl T.z_len bt_len (rp_i (ri_var 3)))) (blk_by (by kernel_rfl)) (fun _ _ _ _ _ => (rg_name (i := 9) sc_law_after.nd)) (fun _ _ _ _ _ => rts_nil) (fun _ _ _ _ _ => (re_call D_law_dot (hr.mono (by decide)) rfl T.g_law_dot K_law_dot B_law_dot takes0 (ra_cons (re_i (ri_var 3)) (ra_cons (re_lc (own := [("i", 8)]) (fun _ _ _ _ => trivial) rfl sc_law_after.nd (rit_rng1 rfl T.z_range (ri_c1 call_lenA opc_len rfl T.z_len bt_len (rp_i (ri_var 3)))) (blk_by (by kernel_rfl)) (fun _ _ _ _ _ => (rg_name (i := 8) sc_law_after.nd)) (fun _ _ _ _ _ => rts_nil) (fun _ _ _ _ _ => (re_i (ri_ix (rp_i (ri_ix (rp_i (ri_var 7)) (rp_i (ri_var 8)))) (rp_i (ri_var 9))))) (by decide)) ra_nil)))) (by decide))))))
    (rb_one (rs_ret (re_i (ri_var 3))))))
/-- names: 0 plan, 1 word -/
noncomputable def b_law_weight_of : M Fl := (sRet (eCall den_law_dot (aCons (eCall den_law_after (aCons (eI (iVar 0)) (aCons (eI (iVar 1)) aNil))) (aCons (eI (iBin dIx (iVar 0) (iC (.int 3)))) aNil))))
noncomputable def den_law_weight_of : Den := denB 2 2 b_law_weight_of
theorem sc_law_weight_of : FnScope ["plan", "word"] ["plan", "word"] (defScope s_law_weight_of) := ⟨rfl, rfl, rfl, by decide +kernel, rfl, by decide +kernel, by decide +kernel⟩
theorem ok_law_weight_of (T : Tx K mg a_Refused_init a_law_state a_law_take a_law_letters a_law_gcd a_law_frac a_law_item a_law_square a_law_plan a_Ratio_init a_law_ratios a_Matrix_init a_Alphabet_init a_Matrix_len a_Machine_init a_law_machine a_law_pair a_law_pairs a_law_word a_law_mul a_law_add a_law_dot a_law_after a_law_weight_of a_law_before a_Alphabet_index a_Ratio_add a_Ratio_mul a_combine a_Matrix_before a_Machine_row_after a_dot a_Machine_weight a_Matrix_times a_Machine_column_before a_law_refused a_law_bad a_Machine_size a_Machine_call a_law c_Ratio c_Matrix c_Alphabet c_Machine c_Fault c_Malformed c_Refused c_ZeroDivisor t_MOST_LETTERS t_SMALL) (hN : base.NoSeer) (hT : P.given.tree = none) (hP : P.main = PySem.Challenge.pw_wordweight_k10_weights_of_machines.main) (h_law_dot : DD P w K (GG c_Ratio c_Matrix c_Alphabet c_Machine c_ZeroDivisor c_Malformed c_Refused) mg base 43 a_law_dot ["a", "b"] den_law_dot []) (h_law_after : DD P w K (GG c_Ratio c_Matrix c_Alphabet c_Machine c_ZeroDivisor c_Malformed c_Refused) mg base 44 a_law_after ["plan", "word"] den_law_after []) : DD P w K (GG c_Ratio c_Matrix c_Alphabet c_Machine c_ZeroDivisor c_Malformed c_Refused) mg base 45 a_law_weight_of ["plan", "word"] den_law_weight_of [] := by
  obtain ⟨fd_law_dot, du_law_dot, D_law_dot, B_law_dot, V_law_dot, BD_law_dot, K_law_dot⟩ := h_law_dot
  obtain ⟨fd_law_after, du_law_after, D_law_after, B_law_after, V_law_after, BD_law_after, K_law_after⟩ := h_law_after
  exact dd_of T.f_law_weight_of sc_law_weight_of fun cdv A outer s H E hr =>
    (rb_one (rs_ret (re_call D_law_dot (hr.mono (by decide)) rfl T.g_law_dot K_law_dot B_law_dot tk_def (ra_cons (re_call D_law_after (hr.mono (by decide)) rfl T.g_law_after K_law_after B_law_after tk_def (ra_cons (re_i (ri_var 0)) (ra_cons (re_i (ri_var 1)) ra_nil))) (ra_cons (re_i (ri_ix (rp_i (ri_var 0)) (rp_i ri_int))) ra_nil)))))
/-- names: 0 plan, 1 word, 2 letters, 3 row, 4 squares, 5 column, 6 mark, 7 rows, 8 items -/
noncomputable def w_law_before_0 : M Fl := (sSeq (sAsgV 7 (eI (iBin dIx (iVar 4) (iBin dFind (iVar 2) (iVar 6)))))
    (sAsgV 5 (eLc [8] (itLst (eI (iVar 7))) (gName 8) bYes (eCall den_law_dot (aCons (eI (iVar 8)) (aCons (eI (iVar 5)) aNil))))))
noncomputable def b_law_before : M Fl := (sSeq (sAsgT (gTup [(gName 2), (gName 3), (gName 4), (gName 5)]) (eI (iVar 0)))
    (sSeq (sFor (itLst (eF dRevL (eF dLstS (eI (iVar 1))))) (gName 6) w_law_before_0)
    (sRet (eI (iVar 5)))))
noncomputable def den_law_before : Den := denB 2 9 b_law_before
theorem sc_law_before : FnScope ["plan", "word", "letters", "row", "squares", "column", "mark", "rows", "items"] ["plan", "word"] (defScope s_law_before) := ⟨rfl, rfl, rfl, by decide +kernel, rfl, by decide +kernel, by decide +kernel⟩
theorem ok_law_before (T : Tx K mg a_Refused_init a_law_state a_law_take a_law_letters a_law_gcd a_law_frac a_law_item a_law_square a_law_plan a_Ratio_init a_law_ratios a_Matrix_init a_Alphabet_init a_Matrix_len a_Machine_init a_law_machine a_law_pair a_law_pairs a_law_word a_law_mul a_law_add a_law_dot a_law_after a_law_weight_of a_law_before a_Alphabet_index a_Ratio_add a_Ratio_mul a_combine a_Matrix_before a_Machine_row_after a_dot a_Machine_weight a_Matrix_times a_Machine_column_before a_law_refused a_law_bad a_Machine_size a_Machine_call a_law c_Ratio c_Matrix c_Alphabet c_Machine c_Fault c_Malformed c_Refused c_ZeroDivisor t_MOST_LETTERS t_SMALL) (hN : base.NoSeer) (hT : P.given.tree = none) (hP : P.main = PySem.Challenge.pw_wordweight_k10_weights_of_machines.main) (h_law_dot : DD P w K (GG c_Ratio c_Matrix c_Alphabet c_Machine c_ZeroDivisor c_Malformed c_Refused) mg base 43 a_law_dot ["a", "b"] den_law_dot []) : DD P w K (GG c_Ratio c_Matrix c_Alphabet c_Machine c_ZeroDivisor c_Malformed c_Refused) mg base 44 a_law_before ["plan", "word"] den_law_before [] := by
  obtain ⟨fd_law_dot, du_law_dot, D_law_dot, B_law_dot, V_law_dot, BD_law_dot, K_law_dot⟩ := h_law_dot
  exact dd_of T.f_law_before sc_law_before fun cdv A outer s H E hr =>
    (rb_cons (rs_asgT (re_i (ri_var 0)) (rg_tup rfl (rgs_cons (rg_name (i := 2) sc_law_before.nd) (rgs_cons (rg_name (i := 3) sc_law_before.nd) (rgs_cons (rg_name (i := 4) sc_law_before.nd) (rgs_cons (rg_name (i := 5) sc_law_before.nd) rgs_nil))))))
    (rb_cons (rs_for po_def rfl (rit_lst (re_revL (re_lstS rfl rfl T.z_list (re_i (ri_var 1))))) (rg_name (i := 6) sc_law_before.nd) (rb_cons (rs_setV (hx := by first | exact Or.inl rfl | exact Or.inr rfl) (i := 7) sc_law_before.nd (re_i (ri_ix (rp_i (ri_var 4)) (rp_i (ri_find (rp_i (ri_var 2)) (rp_i (ri_var 6)))))))
    (rb_one (rs_setV (hx := by first | exact Or.inl rfl | exact Or.inr rfl) (i := 5) sc_law_before.nd (re_lc (own := [("items", 8)]) (fun _ _ _ _ => trivial) rfl sc_law_before.nd (rit_lst (re_i (ri_var 7))) (blk_by (by kernel_rfl)) (fun _ _ _ _ _ => (rg_name (i := 8) sc_law_before.nd)) (fun _ _ _ _ _ => rts_nil) (fun _ _ _ _ _ => (re_call D_law_dot (hr.mono (by decide)) rfl T.g_law_dot K_law_dot B_law_dot takes0 (ra_cons (re_i (ri_var 8)) (ra_cons (re_i (ri_var 5)) ra_nil)))) (by decide))))))
    (rb_one (rs_ret (re_i (ri_var 5))))))
/-- names: 0 self, 1 letter -/
noncomputable def b_Alphabet_index : M Fl := (sSeq (sIf (bU (uOr (uNot (uOf (iUn (dIs (isD 4 [.str])) (iVar 1)))) (uOr (uOf (iBin (dEqF true) (iUn dLen (iVar 1)) (iC (.int 1)))) (uOf (iBin (dInS true) (iVar 1) (iUn (dFld 2 0) (iVar 0))))))) (sRaiseF 102 okStrD (eI (iC (.str "letter")))) (mR .next))
    (sRet (eI (iBin dFind (iUn (dFld 2 0) (iVar 0)) (iVar 1)))))
noncomputable def den_Alphabet_index : Den := denB 2 2 b_Alphabet_index
theorem sc_Alphabet_index : FnScope ["self", "letter"] ["self", "letter"] (defScope s_Alphabet_index) := ⟨rfl, rfl, rfl, by decide +kernel, rfl, by decide +kernel, by decide +kernel⟩
theorem ok_Alphabet_index (T : Tx K mg a_Refused_init a_law_state a_law_take a_law_letters a_law_gcd a_law_frac a_law_item a_law_square a_law_plan a_Ratio_init a_law_ratios a_Matrix_init a_Alphabet_init a_Matrix_len a_Machine_init a_law_machine a_law_pair a_law_pairs a_law_word a_law_mul a_law_add a_law_dot a_law_after a_law_weight_of a_law_before a_Alphabet_index a_Ratio_add a_Ratio_mul a_combine a_Matrix_before a_Machine_row_after a_dot a_Machine_weight a_Matrix_times a_Machine_column_before a_law_refused a_law_bad a_Machine_size a_Machine_call a_law c_Ratio c_Matrix c_Alphabet c_Machine c_Fault c_Malformed c_Refused c_ZeroDivisor t_MOST_LETTERS t_SMALL) (hN : base.NoSeer) (hT : P.given.tree = none) (hP : P.main = PySem.Challenge.pw_wordweight_k10_weights_of_machines.main) (h_Refused_init : EDef P w K (GG c_Ratio c_Matrix c_Alphabet c_Machine c_ZeroDivisor c_Malformed c_Refused) mg base 1 102 okStr) : DD P w K (GG c_Ratio c_Matrix c_Alphabet c_Machine c_ZeroDivisor c_Malformed c_Refused) mg base 3 a_Alphabet_index ["self", "letter"] den_Alphabet_index [] := by
  have ED_Refused := h_Refused_init
  exact dd_of T.f_Alphabet_index sc_Alphabet_index fun cdv A outer s H E hr =>
    (rb_cons (rs_if (rt_u (ru_w (rw_or (ru_not (ru_val (ri_is T.gok T.gis (isF_of T.kit (.cons ⟨fun _ q => (by cases q), rfl⟩ .nil)) rfl T.z_isinstance bt_isinstance (pe_bltn (v := V.ty _) rfl T.z_str bt_str rfl) (.ty _) (rp_i (ri_var 1))))) (rw_or (ru_cmp op_ne opi_neF (rp_i (ri_c1 call_lenA opc_len rfl T.z_len bt_len (rp_i (ri_var 1)))) (rp_i ri_int) (nomark _)) (rw_or1 (ru_cmp op_notInS opi_notInS (rp_i (ri_var 1)) (rp_i (ri_fld T.gok rfl (by decide) rfl (rp_i (ri_var 0)))) (by with_unfolding_all rfl))))))) (rb_one (rs_raiseF rfl ED_Refused okStr_of (hr.mono (by decide)) rfl tk_def T.g_Refused rfl (re_i ri_str))) rb_nil)
    (rb_one (rs_ret (re_i (ri_find (rp_i (ri_fld T.gok rfl (by decide) rfl (rp_i (ri_var 0)))) (rp_i (ri_var 1)))))))
/-- names: 0 self, 1 other -/
noncomputable def b_Ratio_add : M Fl := (sRet (eMake 0 2 den_Ratio_init (aCons (eI (iBin dAdd (iBin dMul (iUn (dFld 0 0) (iVar 0)) (iUn (dFld 0 1) (iVar 1))) (iBin dMul (iUn (dFld 0 0) (iVar 1)) (iUn (dFld 0 1) (iVar 0))))) (aCons (eI (iBin dMul (iUn (dFld 0 1) (iVar 0)) (iUn (dFld 0 1) (iVar 1)))) aNil))))
noncomputable def den_Ratio_add : Den := denB 2 2 b_Ratio_add
theorem sc_Ratio_add : FnScope ["self", "other"] ["self", "other"] (defScope s_Ratio_add) := ⟨rfl, rfl, rfl, by decide +kernel, rfl, by decide +kernel, by decide +kernel⟩
theorem ok_Ratio_add (T : Tx K mg a_Refused_init a_law_state a_law_take a_law_letters a_law_gcd a_law_frac a_law_item a_law_square a_law_plan a_Ratio_init a_law_ratios a_Matrix_init a_Alphabet_init a_Matrix_len a_Machine_init a_law_machine a_law_pair a_law_pairs a_law_word a_law_mul a_law_add a_law_dot a_law_after a_law_weight_of a_law_before a_Alphabet_index a_Ratio_add a_Ratio_mul a_combine a_Matrix_before a_Machine_row_after a_dot a_Machine_weight a_Matrix_times a_Machine_column_before a_law_refused a_law_bad a_Machine_size a_Machine_call a_law c_Ratio c_Matrix c_Alphabet c_Machine c_Fault c_Malformed c_Refused c_ZeroDivisor t_MOST_LETTERS t_SMALL) (hN : base.NoSeer) (hT : P.given.tree = none) (hP : P.main = PySem.Challenge.pw_wordweight_k10_weights_of_machines.main) (h_Ratio_init : DD P w K (GG c_Ratio c_Matrix c_Alphabet c_Machine c_ZeroDivisor c_Malformed c_Refused) mg base 41 a_Ratio_init ["self", "n", "d"] den_Ratio_init [V.int 1]) : DD P w K (GG c_Ratio c_Matrix c_Alphabet c_Machine c_ZeroDivisor c_Malformed c_Refused) mg base 43 a_Ratio_add ["self", "other"] den_Ratio_add [] := by
  obtain ⟨fd_Ratio_init, du_Ratio_init, D_Ratio_init, B_Ratio_init, V_Ratio_init, BD_Ratio_init, K_Ratio_init⟩ := h_Ratio_init
  exact dd_of T.f_Ratio_add sc_Ratio_add fun cdv A outer s H E hr =>
    (rb_one (rs_ret (re_make rfl rfl T.mk_Ratio D_Ratio_init (hr.mono (by decide)) rfl T.g_Ratio B_Ratio_init tk_def (ra_cons (re_i (ri_bin op_addA opi_add (rp_i (ri_bin op_mulY opi_mul (rp_i (ri_fld T.gok rfl (by decide) rfl (rp_i (ri_var 0)))) (rp_i (ri_fld T.gok rfl (by decide) rfl (rp_i (ri_var 1)))))) (rp_i (ri_bin op_mulY opi_mul (rp_i (ri_fld T.gok rfl (by decide) rfl (rp_i (ri_var 1)))) (rp_i (ri_fld T.gok rfl (by decide) rfl (rp_i (ri_var 0)))))))) (ra_cons (re_i (ri_bin op_mulY opi_mul (rp_i (ri_fld T.gok rfl (by decide) rfl (rp_i (ri_var 0)))) (rp_i (ri_fld T.gok rfl (by decide) rfl (rp_i (ri_var 1)))))) ra_nil)))))
/-- names: 0 self, 1 other -/
noncomputable def b_Ratio_mul : M Fl := (sRet (eMake 0 2 den_Ratio_init (aCons (eI (iBin dMul (iUn (dFld 0 0) (iVar 0)) (iUn (dFld 0 0) (iVar 1)))) (aCons (eI (iBin dMul (iUn (dFld 0 1) (iVar 0)) (iUn (dFld 0 1) (iVar 1)))) aNil))))
noncomputable def den_Ratio_mul : Den := denB 2 2 b_Ratio_mul
theorem sc_Ratio_mul : FnScope ["self", "other"] ["self", "other"] (defScope s_Ratio_mul) := ⟨rfl, rfl, rfl, by decide +kernel, rfl, by decide +kernel, by decide +kernel⟩
theorem ok_Ratio_mul (T : Tx K mg a_Refused_init a_law_state a_law_take a_law_letters a_law_gcd a_law_frac a_law_item a_law_square a_law_plan a_Ratio_init a_law_ratios a_Matrix_init a_Alphabet_init a_Matrix_len a_Machine_init a_law_machine a_law_pair a_law_pairs a_law_word a_law_mul a_law_add a_law_dot a_law_after a_law_weight_of a_law_before a_Alphabet_index a_Ratio_add a_Ratio_mul a_combine a_Matrix_before a_Machine_row_after a_dot a_Machine_weight a_Matrix_times a_Machine_column_before a_law_refused a_law_bad a_Machine_size a_Machine_call a_law c_Ratio c_Matrix c_Alphabet c_Machine c_Fault c_Malformed c_Refused c_ZeroDivisor t_MOST_LETTERS t_SMALL) (hN : base.NoSeer) (hT : P.given.tree = none) (hP : P.main = PySem.Challenge.pw_wordweight_k10_weights_of_machines.main) (h_Ratio_init : DD P w K (GG c_Ratio c_Matrix c_Alphabet c_Machine c_ZeroDivisor c_Malformed c_Refused) mg base 41 a_Ratio_init ["self", "n", "d"] den_Ratio_init [V.int 1]) : DD P w K (GG c_Ratio c_Matrix c_Alphabet c_Machine c_ZeroDivisor c_Malformed c_Refused) mg base 43 a_Ratio_mul ["self", "other"] den_Ratio_mul [] := by
  obtain ⟨fd_Ratio_init, du_Ratio_init, D_Ratio_init, B_Ratio_init, V_Ratio_init, BD_Ratio_init, K_Ratio_init⟩ := h_Ratio_init
  exact dd_of T.f_Ratio_mul sc_Ratio_mul fun cdv A outer s H E hr =>
    (rb_one (rs_ret (re_make rfl rfl T.mk_Ratio D_Ratio_init (hr.mono (by decide)) rfl T.g_Ratio B_Ratio_init tk_def (ra_cons (re_i (ri_bin op_mulY opi_mul (rp_i (ri_fld T.gok rfl (by decide) rfl (rp_i (ri_var 0)))) (rp_i (ri_fld T.gok rfl (by decide) rfl (rp_i (ri_var 1)))))) (ra_cons (re_i (ri_bin op_mulY opi_mul (rp_i (ri_fld T.gok rfl (by decide) rfl (rp_i (ri_var 0)))) (rp_i (ri_fld T.gok rfl (by decide) rfl (rp_i (ri_var 1)))))) ra_nil)))))
/-- names: 0 rows, 1 width, 2 weights, 3 out, 4 _, 5 row, 6 weight, 7 x, 8 y -/
noncomputable def w_combine_0 : M Fl := (sIf (bU (uOf (iBin (dEqF true) (iUn (dFld 0 0) (iVar 6)) (iC (.int 0))))) (sAsgV 3 (eLc [7, 8] (itZipM (eI (iVar 3)) (eI (iVar 5))) (gTup [(gName 7), (gName 8)]) bYes (eOwn2 0 den_Ratio_add (eI (iVar 7)) (eOwn2 0 den_Ratio_mul (eI (iVar 6)) (eI (iVar 8)))))) (mR .next))
noncomputable def b_combine : M Fl := (sSeq (sAsgV 3 (eLc [4] (itRng1 (iVar 1)) (gName 4) bYes (eMakeD 0 2 den_Ratio_init [.int 1] (aCons (eI (iC (.int 0))) aNil))))
    (sSeq (sFor (itZipM (eI (iVar 0)) (eI (iVar 2))) (gTup [(gName 5), (gName 6)]) w_combine_0)
    (sRet (eF dTupOf (eI (iVar 3))))))
noncomputable def den_combine : Den := denB 3 9 b_combine
theorem sc_combine : FnScope ["rows", "width", "weights", "out", "_", "row", "weight", "x", "y"] ["rows", "width", "weights"] (defScope s_combine) := ⟨rfl, rfl, rfl, by decide +kernel, rfl, by decide +kernel, by decide +kernel⟩
theorem ok_combine (T : Tx K mg a_Refused_init a_law_state a_law_take a_law_letters a_law_gcd a_law_frac a_law_item a_law_square a_law_plan a_Ratio_init a_law_ratios a_Matrix_init a_Alphabet_init a_Matrix_len a_Machine_init a_law_machine a_law_pair a_law_pairs a_law_word a_law_mul a_law_add a_law_dot a_law_after a_law_weight_of a_law_before a_Alphabet_index a_Ratio_add a_Ratio_mul a_combine a_Matrix_before a_Machine_row_after a_dot a_Machine_weight a_Matrix_times a_Machine_column_before a_law_refused a_law_bad a_Machine_size a_Machine_call a_law c_Ratio c_Matrix c_Alphabet c_Machine c_Fault c_Malformed c_Refused c_ZeroDivisor t_MOST_LETTERS t_SMALL) (hN : base.NoSeer) (hT : P.given.tree = none) (hP : P.main = PySem.Challenge.pw_wordweight_k10_weights_of_machines.main) (h_Ratio_init : DD P w K (GG c_Ratio c_Matrix c_Alphabet c_Machine c_ZeroDivisor c_Malformed c_Refused) mg base 41 a_Ratio_init ["self", "n", "d"] den_Ratio_init [V.int 1]) (h_Ratio_add : DD P w K (GG c_Ratio c_Matrix c_Alphabet c_Machine c_ZeroDivisor c_Malformed c_Refused) mg base 43 a_Ratio_add ["self", "other"] den_Ratio_add []) (h_Ratio_mul : DD P w K (GG c_Ratio c_Matrix c_Alphabet c_Machine c_ZeroDivisor c_Malformed c_Refused) mg base 43 a_Ratio_mul ["self", "other"] den_Ratio_mul []) : DD P w K (GG c_Ratio c_Matrix c_Alphabet c_Machine c_ZeroDivisor c_Malformed c_Refused) mg base 44 a_combine ["rows", "width", "weights"] den_combine [] := by
  obtain ⟨fd_Ratio_init, du_Ratio_init, D_Ratio_init, B_Ratio_init, V_Ratio_init, BD_Ratio_init, K_Ratio_init⟩ := h_Ratio_init
  obtain ⟨fd_Ratio_add, du_Ratio_add, D_Ratio_add, B_Ratio_add, V_Ratio_add, BD_Ratio_add, K_Ratio_add⟩ := h_Ratio_add
  obtain ⟨fd_Ratio_mul, du_Ratio_mul, D_Ratio_mul, B_Ratio_mul, V_Ratio_mul, BD_Ratio_mul, K_Ratio_mul⟩ := h_Ratio_mul
  exact dd_of T.f_combine sc_combine fun cdv A outer s H E hr =>
    (rb_cons (rs_lcV (own := [("_", 4)]) (fun _ _ _ _ => trivial) rfl sc_combine.nd (i := 3) rfl rfl rfl (rit_rng1 rfl T.z_range (ri_var 1)) (blk_by (by kernel_rfl)) (fun _ _ _ _ _ => (rg_name (i := 4) sc_combine.nd)) (fun _ _ _ _ _ => rts_nil) (fun _ _ _ _ _ => (re_makeD (dvs := [V.int 1]) rfl rfl T.mk_Ratio D_Ratio_init (hr.mono (by decide)) rfl T.g_Ratio BD_Ratio_init V_Ratio_init ⟨rfl, trivial⟩ takes0 (ra_cons (re_i ri_int) ra_nil))) (by decide))
    (rb_cons (rs_for po_def rfl (rit_zipM rfl T.z_zip (re_i (ri_var 0)) (re_i (ri_var 2))) (rg_tup rfl (rgs_cons (rg_name (i := 5) sc_combine.nd) (rgs_cons (rg_name (i := 6) sc_combine.nd) rgs_nil))) (rb_one (rs_if (rt_u (ru_cmp op_ne opi_neF (rp_i (ri_fld T.gok rfl (by decide) rfl (rp_i (ri_var 6)))) (rp_i ri_int) (nomark _))) (rb_one (rs_lcV (own := [("x", 7), ("y", 8)]) (fun _ _ _ _ => trivial) rfl sc_combine.nd (i := 3) rfl rfl rfl (rit_zipM rfl T.z_zip (re_i (ri_var 3)) (re_i (ri_var 5))) (blk_by (by kernel_rfl)) (fun _ _ _ _ _ => (rg_tup rfl (rgs_cons (rg_name (i := 7) sc_combine.nd) (rgs_cons (rg_name (i := 8) sc_combine.nd) rgs_nil)))) (fun _ _ _ _ _ => rts_nil) (fun _ _ _ _ _ => (re_own2 rfl T.sf_Ratio T.m_Ratio_add D_Ratio_add (hr.mono (by decide)) B_Ratio_add takes0 (re_i (ri_var 7)) (re_own2 rfl T.sf_Ratio T.m_Ratio_mul D_Ratio_mul (hr.mono (by decide)) B_Ratio_mul takes0 (re_i (ri_var 6)) (re_i (ri_var 8))))) (by decide))) rb_nil)))
    (rb_one (rs_ret (re_tupOf rfl T.z_tuple (re_i (ri_var 3)))))))
/-- names: 0 self, 1 row -/
noncomputable def b_Matrix_before : M Fl := (sRet (eCall den_combine (aCons (eI (iUn (dFld 1 0) (iVar 0))) (aCons (eI (iUn (dFld 1 1) (iVar 0))) (aCons (eI (iVar 1)) aNil)))))
noncomputable def den_Matrix_before : Den := denB 2 2 b_Matrix_before
theorem sc_Matrix_before : FnScope ["self", "row"] ["self", "row"] (defScope s_Matrix_before) := ⟨rfl, rfl, rfl, by decide +kernel, rfl, by decide +kernel, by decide +kernel⟩
theorem ok_Matrix_before (T : Tx K mg a_Refused_init a_law_state a_law_take a_law_letters a_law_gcd a_law_frac a_law_item a_law_square a_law_plan a_Ratio_init a_law_ratios a_Matrix_init a_Alphabet_init a_Matrix_len a_Machine_init a_law_machine a_law_pair a_law_pairs a_law_word a_law_mul a_law_add a_law_dot a_law_after a_law_weight_of a_law_before a_Alphabet_index a_Ratio_add a_Ratio_mul a_combine a_Matrix_before a_Machine_row_after a_dot a_Machine_weight a_Matrix_times a_Machine_column_before a_law_refused a_law_bad a_Machine_size a_Machine_call a_law c_Ratio c_Matrix c_Alphabet c_Machine c_Fault c_Malformed c_Refused c_ZeroDivisor t_MOST_LETTERS t_SMALL) (hN : base.NoSeer) (hT : P.given.tree = none) (hP : P.main = PySem.Challenge.pw_wordweight_k10_weights_of_machines.main) (h_combine : DD P w K (GG c_Ratio c_Matrix c_Alphabet c_Machine c_ZeroDivisor c_Malformed c_Refused) mg base 44 a_combine ["rows", "width", "weights"] den_combine []) : DD P w K (GG c_Ratio c_Matrix c_Alphabet c_Machine c_ZeroDivisor c_Malformed c_Refused) mg base 45 a_Matrix_before ["self", "row"] den_Matrix_before [] := by
  obtain ⟨fd_combine, du_combine, D_combine, B_combine, V_combine, BD_combine, K_combine⟩ := h_combine
  exact dd_of T.f_Matrix_before sc_Matrix_before fun cdv A outer s H E hr =>
    (rb_one (rs_ret (re_call D_combine (hr.mono (by decide)) rfl T.g_combine K_combine B_combine tk_def (ra_cons (re_i (ri_fld T.gok rfl (by decide) rfl (rp_i (ri_var 0)))) (ra_cons (re_i (ri_fld T.gok rfl (by decide) rfl (rp_i (ri_var 0)))) (ra_cons (re_i (ri_var 1)) ra_nil))))))
/-- names: 0 self, 1 word, 2 vector, 3 letter -/
noncomputable def w_Machine_row_after_0 : M Fl := (sAsgV 2 (eMeth 1 den_Matrix_before (eBin dIx (eI (iUn (dFld 3 2) (iVar 0))) (eMeth 2 den_Alphabet_index (eI (iUn (dFld 3 0) (iVar 0))) (aCons (eI (iVar 3)) aNil))) (aCons (eI (iVar 2)) aNil)))
noncomputable def b_Machine_row_after : M Fl := (sSeq (sAsgV 2 (eI (iUn (dFld 3 1) (iVar 0))))
    (sSeq (sFor (itStr (eI (iVar 1))) (gName 3) w_Machine_row_after_0)
    (sRet (eI (iVar 2)))))
noncomputable def den_Machine_row_after : Den := denB 2 4 b_Machine_row_after
theorem sc_Machine_row_after : FnScope ["self", "word", "vector", "letter"] ["self", "word"] (defScope s_Machine_row_after) := ⟨rfl, rfl, rfl, by decide +kernel, rfl, by decide +kernel, by decide +kernel⟩
theorem ok_Machine_row_after (T : Tx K mg a_Refused_init a_law_state a_law_take a_law_letters a_law_gcd a_law_frac a_law_item a_law_square a_law_plan a_Ratio_init a_law_ratios a_Matrix_init a_Alphabet_init a_Matrix_len a_Machine_init a_law_machine a_law_pair a_law_pairs a_law_word a_law_mul a_law_add a_law_dot a_law_after a_law_weight_of a_law_before a_Alphabet_index a_Ratio_add a_Ratio_mul a_combine a_Matrix_before a_Machine_row_after a_dot a_Machine_weight a_Matrix_times a_Machine_column_before a_law_refused a_law_bad a_Machine_size a_Machine_call a_law c_Ratio c_Matrix c_Alphabet c_Machine c_Fault c_Malformed c_Refused c_ZeroDivisor t_MOST_LETTERS t_SMALL) (hN : base.NoSeer) (hT : P.given.tree = none) (hP : P.main = PySem.Challenge.pw_wordweight_k10_weights_of_machines.main) (h_Matrix_before : DD P w K (GG c_Ratio c_Matrix c_Alphabet c_Machine c_ZeroDivisor c_Malformed c_Refused) mg base 45 a_Matrix_before ["self", "row"] den_Matrix_before []) (h_Alphabet_index : DD P w K (GG c_Ratio c_Matrix c_Alphabet c_Machine c_ZeroDivisor c_Malformed c_Refused) mg base 3 a_Alphabet_index ["self", "letter"] den_Alphabet_index []) : DD P w K (GG c_Ratio c_Matrix c_Alphabet c_Machine c_ZeroDivisor c_Malformed c_Refused) mg base 46 a_Machine_row_after ["self", "word"] den_Machine_row_after [] := by
  obtain ⟨fd_Matrix_before, du_Matrix_before, D_Matrix_before, B_Matrix_before, V_Matrix_before, BD_Matrix_before, K_Matrix_before⟩ := h_Matrix_before
  obtain ⟨fd_Alphabet_index, du_Alphabet_index, D_Alphabet_index, B_Alphabet_index, V_Alphabet_index, BD_Alphabet_index, K_Alphabet_index⟩ := h_Alphabet_index
  exact dd_of T.f_Machine_row_after sc_Machine_row_after fun cdv A outer s H E hr =>
    (rb_cons (rs_setV (hx := by first | exact Or.inl rfl | exact Or.inr rfl) (i := 2) sc_Machine_row_after.nd (re_i (ri_fld T.gok rfl (by decide) rfl (rp_i (ri_var 0)))))
    (rb_cons (rs_for po_def rfl (rit_str (re_i (ri_var 1))) (rg_name (i := 3) sc_Machine_row_after.nd) (rb_one (rs_setV (hx := by first | exact Or.inl rfl | exact Or.inr rfl) (i := 2) sc_Machine_row_after.nd (re_meth T.gok rfl (by decide) (show ¬ ("before" : Str) ∈ (["rows", "width"] : List Str) by decide +kernel) T.m_Matrix_before D_Matrix_before (hr.mono (by decide)) B_Matrix_before tk_def (re_ix (re_i (ri_fld T.gok rfl (by decide) rfl (rp_i (ri_var 0)))) (re_meth T.gok rfl (by decide) (show ¬ ("index" : Str) ∈ (["letters"] : List Str) by decide +kernel) T.m_Alphabet_index D_Alphabet_index (hr.mono (by decide)) B_Alphabet_index tk_def (re_i (ri_fld T.gok rfl (by decide) rfl (rp_i (ri_var 0)))) (ra_cons (re_i (ri_var 3)) ra_nil))) (ra_cons (re_i (ri_var 2)) ra_nil)))))
    (rb_one (rs_ret (re_i (ri_var 2))))))
/-- names: 0 a, 1 b, 2 out, 3 x, 4 y -/
noncomputable def w_dot_0 : M Fl := (sIf (bU (uAnd (uOf (iBin (dEqF true) (iUn (dFld 0 0) (iVar 3)) (iC (.int 0)))) (uOf (iBin (dEqF true) (iUn (dFld 0 0) (iVar 4)) (iC (.int 0)))))) (sAsgV 2 (eOwn2 0 den_Ratio_add (eI (iVar 2)) (eOwn2 0 den_Ratio_mul (eI (iVar 3)) (eI (iVar 4))))) (mR .next))
noncomputable def b_dot : M Fl := (sSeq (sAsgV 2 (eMakeD 0 2 den_Ratio_init [.int 1] (aCons (eI (iC (.int 0))) aNil)))
    (sSeq (sFor (itZipM (eI (iVar 0)) (eI (iVar 1))) (gTup [(gName 3), (gName 4)]) w_dot_0)
    (sRet (eI (iVar 2)))))
noncomputable def den_dot : Den := denB 2 5 b_dot
theorem sc_dot : FnScope ["a", "b", "out", "x", "y"] ["a", "b"] (defScope s_dot) := ⟨rfl, rfl, rfl, by decide +kernel, rfl, by decide +kernel, by decide +kernel⟩
theorem ok_dot (T : Tx K mg a_Refused_init a_law_state a_law_take a_law_letters a_law_gcd a_law_frac a_law_item a_law_square a_law_plan a_Ratio_init a_law_ratios a_Matrix_init a_Alphabet_init a_Matrix_len a_Machine_init a_law_machine a_law_pair a_law_pairs a_law_word a_law_mul a_law_add a_law_dot a_law_after a_law_weight_of a_law_before a_Alphabet_index a_Ratio_add a_Ratio_mul a_combine a_Matrix_before a_Machine_row_after a_dot a_Machine_weight a_Matrix_times a_Machine_column_before a_law_refused a_law_bad a_Machine_size a_Machine_call a_law c_Ratio c_Matrix c_Alphabet c_Machine c_Fault c_Malformed c_Refused c_ZeroDivisor t_MOST_LETTERS t_SMALL) (hN : base.NoSeer) (hT : P.given.tree = none) (hP : P.main = PySem.Challenge.pw_wordweight_k10_weights_of_machines.main) (h_Ratio_init : DD P w K (GG c_Ratio c_Matrix c_Alphabet c_Machine c_ZeroDivisor c_Malformed c_Refused) mg base 41 a_Ratio_init ["self", "n", "d"] den_Ratio_init [V.int 1]) (h_Ratio_add : DD P w K (GG c_Ratio c_Matrix c_Alphabet c_Machine c_ZeroDivisor c_Malformed c_Refused) mg base 43 a_Ratio_add ["self", "other"] den_Ratio_add []) (h_Ratio_mul : DD P w K (GG c_Ratio c_Matrix c_Alphabet c_Machine c_ZeroDivisor c_Malformed c_Refused) mg base 43 a_Ratio_mul ["self", "other"] den_Ratio_mul []) : DD P w K (GG c_Ratio c_Matrix c_Alphabet c_Machine c_ZeroDivisor c_Malformed c_Refused) mg base 44 a_dot ["a", "b"] den_dot [] := by
  obtain ⟨fd_Ratio_init, du_Ratio_init, D_Ratio_init, B_Ratio_init, V_Ratio_init, BD_Ratio_init, K_Ratio_init⟩ := h_Ratio_init
  obtain ⟨fd_Ratio_add, du_Ratio_add, D_Ratio_add, B_Ratio_add, V_Ratio_add, BD_Ratio_add, K_Ratio_add⟩ := h_Ratio_add
  obtain ⟨fd_Ratio_mul, du_Ratio_mul, D_Ratio_mul, B_Ratio_mul, V_Ratio_mul, BD_Ratio_mul, K_Ratio_mul⟩ := h_Ratio_mul
  exact dd_of T.f_dot sc_dot fun cdv A outer s H E hr =>
    (rb_cons (rs_setV (hx := by first | exact Or.inl rfl | exact Or.inr rfl) (i := 2) sc_dot.nd (re_makeD (dvs := [V.int 1]) rfl rfl T.mk_Ratio D_Ratio_init (hr.mono (by decide)) rfl T.g_Ratio BD_Ratio_init V_Ratio_init ⟨rfl, trivial⟩ tk_def (ra_cons (re_i ri_int) ra_nil)))
    (rb_cons (rs_for po_def rfl (rit_zipM rfl T.z_zip (re_i (ri_var 0)) (re_i (ri_var 1))) (rg_tup rfl (rgs_cons (rg_name (i := 3) sc_dot.nd) (rgs_cons (rg_name (i := 4) sc_dot.nd) rgs_nil))) (rb_one (rs_if (rt_u (ru_w (rw_and (ru_cmp op_ne opi_neF (rp_i (ri_fld T.gok rfl (by decide) rfl (rp_i (ri_var 3)))) (rp_i ri_int) (nomark _)) (rw_and1 (ru_cmp op_ne opi_neF (rp_i (ri_fld T.gok rfl (by decide) rfl (rp_i (ri_var 4)))) (rp_i ri_int) (nomark _)))))) (rb_one (rs_setV (hx := by first | exact Or.inl rfl | exact Or.inr rfl) (i := 2) sc_dot.nd (re_own2 rfl T.sf_Ratio T.m_Ratio_add D_Ratio_add (hr.mono (by decide)) B_Ratio_add tk_def (re_i (ri_var 2)) (re_own2 rfl T.sf_Ratio T.m_Ratio_mul D_Ratio_mul (hr.mono (by decide)) B_Ratio_mul tk_def (re_i (ri_var 3)) (re_i (ri_var 4)))))) rb_nil)))
    (rb_one (rs_ret (re_i (ri_var 2))))))
/-- names: 0 self, 1 word -/
noncomputable def b_Machine_weight : M Fl := (sRet (eCall den_dot (aCons (eMeth 3 den_Machine_row_after (eI (iVar 0)) (aCons (eI (iVar 1)) aNil)) (aCons (eI (iUn (dFld 3 3) (iVar 0))) aNil))))
noncomputable def den_Machine_weight : Den := denB 2 2 b_Machine_weight
theorem sc_Machine_weight : FnScope ["self", "word"] ["self", "word"] (defScope s_Machine_weight) := ⟨rfl, rfl, rfl, by decide +kernel, rfl, by decide +kernel, by decide +kernel⟩
theorem ok_Machine_weight (T : Tx K mg a_Refused_init a_law_state a_law_take a_law_letters a_law_gcd a_law_frac a_law_item a_law_square a_law_plan a_Ratio_init a_law_ratios a_Matrix_init a_Alphabet_init a_Matrix_len a_Machine_init a_law_machine a_law_pair a_law_pairs a_law_word a_law_mul a_law_add a_law_dot a_law_after a_law_weight_of a_law_before a_Alphabet_index a_Ratio_add a_Ratio_mul a_combine a_Matrix_before a_Machine_row_after a_dot a_Machine_weight a_Matrix_times a_Machine_column_before a_law_refused a_law_bad a_Machine_size a_Machine_call a_law c_Ratio c_Matrix c_Alphabet c_Machine c_Fault c_Malformed c_Refused c_ZeroDivisor t_MOST_LETTERS t_SMALL) (hN : base.NoSeer) (hT : P.given.tree = none) (hP : P.main = PySem.Challenge.pw_wordweight_k10_weights_of_machines.main) (h_dot : DD P w K (GG c_Ratio c_Matrix c_Alphabet c_Machine c_ZeroDivisor c_Malformed c_Refused) mg base 44 a_dot ["a", "b"] den_dot []) (h_Machine_row_after : DD P w K (GG c_Ratio c_Matrix c_Alphabet c_Machine c_ZeroDivisor c_Malformed c_Refused) mg base 46 a_Machine_row_after ["self", "word"] den_Machine_row_after []) : DD P w K (GG c_Ratio c_Matrix c_Alphabet c_Machine c_ZeroDivisor c_Malformed c_Refused) mg base 47 a_Machine_weight ["self", "word"] den_Machine_weight [] := by
  obtain ⟨fd_dot, du_dot, D_dot, B_dot, V_dot, BD_dot, K_dot⟩ := h_dot
  obtain ⟨fd_Machine_row_after, du_Machine_row_after, D_Machine_row_after, B_Machine_row_after, V_Machine_row_after, BD_Machine_row_after, K_Machine_row_after⟩ := h_Machine_row_after
  exact dd_of T.f_Machine_weight sc_Machine_weight fun cdv A outer s H E hr =>
    (rb_one (rs_ret (re_call D_dot (hr.mono (by decide)) rfl T.g_dot K_dot B_dot tk_def (ra_cons (re_meth T.gok rfl (by decide) (show ¬ ("row_after" : Str) ∈ (["alphabet", "row", "matrices", "column"] : List Str) by decide +kernel) T.m_Machine_row_after D_Machine_row_after (hr.mono (by decide)) B_Machine_row_after tk_def (re_i (ri_var 0)) (ra_cons (re_i (ri_var 1)) ra_nil)) (ra_cons (re_i (ri_fld T.gok rfl (by decide) rfl (rp_i (ri_var 0)))) ra_nil)))))
/-- names: 0 self, 1 x, 2 row -/
noncomputable def b_Matrix_times : M Fl := (sRet (eF dTupOf (eLc [2] (itTup (eI (iUn (dFld 1 0) (iVar 0)))) (gName 2) bYes (eCall den_dot (aCons (eI (iVar 2)) (aCons (eI (iVar 1)) aNil))))))
noncomputable def den_Matrix_times : Den := denB 2 3 b_Matrix_times
theorem sc_Matrix_times : FnScope ["self", "x", "row"] ["self", "x"] (defScope s_Matrix_times) := ⟨rfl, rfl, rfl, by decide +kernel, rfl, by decide +kernel, by decide +kernel⟩
theorem ok_Matrix_times (T : Tx K mg a_Refused_init a_law_state a_law_take a_law_letters a_law_gcd a_law_frac a_law_item a_law_square a_law_plan a_Ratio_init a_law_ratios a_Matrix_init a_Alphabet_init a_Matrix_len a_Machine_init a_law_machine a_law_pair a_law_pairs a_law_word a_law_mul a_law_add a_law_dot a_law_after a_law_weight_of a_law_before a_Alphabet_index a_Ratio_add a_Ratio_mul a_combine a_Matrix_before a_Machine_row_after a_dot a_Machine_weight a_Matrix_times a_Machine_column_before a_law_refused a_law_bad a_Machine_size a_Machine_call a_law c_Ratio c_Matrix c_Alphabet c_Machine c_Fault c_Malformed c_Refused c_ZeroDivisor t_MOST_LETTERS t_SMALL) (hN : base.NoSeer) (hT : P.given.tree = none) (hP : P.main = PySem.Challenge.pw_wordweight_k10_weights_of_machines.main) (h_dot : DD P w K (GG c_Ratio c_Matrix c_Alphabet c_Machine c_ZeroDivisor c_Malformed c_Refused) mg base 44 a_dot ["a", "b"] den_dot []) : DD P w K (GG c_Ratio c_Matrix c_Alphabet c_Machine c_ZeroDivisor c_Malformed c_Refused) mg base 45 a_Matrix_times ["self", "x"] den_Matrix_times [] := by
  obtain ⟨fd_dot, du_dot, D_dot, B_dot, V_dot, BD_dot, K_dot⟩ := h_dot
  exact dd_of T.f_Matrix_times sc_Matrix_times fun cdv A outer s H E hr =>
    (rb_one (rs_ret (re_tupOf rfl T.z_tuple (re_lc (own := [("row", 2)]) (fun _ _ _ _ => trivial) rfl sc_Matrix_times.nd (rit_tup (re_i (ri_fld T.gok rfl (by decide) rfl (rp_i (ri_var 0))))) (blk_by (by kernel_rfl)) (fun _ _ _ _ _ => (rg_name (i := 2) sc_Matrix_times.nd)) (fun _ _ _ _ _ => rts_nil) (fun _ _ _ _ _ => (re_call D_dot (hr.mono (by decide)) rfl T.g_dot K_dot B_dot takes0 (ra_cons (re_i (ri_var 2)) (ra_cons (re_i (ri_var 1)) ra_nil)))) (by decide)))))
/-- names: 0 self, 1 word, 2 vector, 3 letter -/
noncomputable def w_Machine_column_before_0 : M Fl := (sAsgV 2 (eMeth 1 den_Matrix_times (eBin dIx (eI (iUn (dFld 3 2) (iVar 0))) (eMeth 2 den_Alphabet_index (eI (iUn (dFld 3 0) (iVar 0))) (aCons (eI (iVar 3)) aNil))) (aCons (eI (iVar 2)) aNil)))
noncomputable def b_Machine_column_before : M Fl := (sSeq (sAsgV 2 (eI (iUn (dFld 3 3) (iVar 0))))
    (sSeq (sFor (itRev (eF dLstS (eI (iVar 1)))) (gName 3) w_Machine_column_before_0)
    (sRet (eI (iVar 2)))))
noncomputable def den_Machine_column_before : Den := denB 2 4 b_Machine_column_before
theorem sc_Machine_column_before : FnScope ["self", "word", "vector", "letter"] ["self", "word"] (defScope s_Machine_column_before) := ⟨rfl, rfl, rfl, by decide +kernel, rfl, by decide +kernel, by decide +kernel⟩
theorem ok_Machine_column_before (T : Tx K mg a_Refused_init a_law_state a_law_take a_law_letters a_law_gcd a_law_frac a_law_item a_law_square a_law_plan a_Ratio_init a_law_ratios a_Matrix_init a_Alphabet_init a_Matrix_len a_Machine_init a_law_machine a_law_pair a_law_pairs a_law_word a_law_mul a_law_add a_law_dot a_law_after a_law_weight_of a_law_before a_Alphabet_index a_Ratio_add a_Ratio_mul a_combine a_Matrix_before a_Machine_row_after a_dot a_Machine_weight a_Matrix_times a_Machine_column_before a_law_refused a_law_bad a_Machine_size a_Machine_call a_law c_Ratio c_Matrix c_Alphabet c_Machine c_Fault c_Malformed c_Refused c_ZeroDivisor t_MOST_LETTERS t_SMALL) (hN : base.NoSeer) (hT : P.given.tree = none) (hP : P.main = PySem.Challenge.pw_wordweight_k10_weights_of_machines.main) (h_Matrix_times : DD P w K (GG c_Ratio c_Matrix c_Alphabet c_Machine c_ZeroDivisor c_Malformed c_Refused) mg base 45 a_Matrix_times ["self", "x"] den_Matrix_times []) (h_Alphabet_index : DD P w K (GG c_Ratio c_Matrix c_Alphabet c_Machine c_ZeroDivisor c_Malformed c_Refused) mg base 3 a_Alphabet_index ["self", "letter"] den_Alphabet_index []) : DD P w K (GG c_Ratio c_Matrix c_Alphabet c_Machine c_ZeroDivisor c_Malformed c_Refused) mg base 46 a_Machine_column_before ["self", "word"] den_Machine_column_before [] := by
  obtain ⟨fd_Matrix_times, du_Matrix_times, D_Matrix_times, B_Matrix_times, V_Matrix_times, BD_Matrix_times, K_Matrix_times⟩ := h_Matrix_times
  obtain ⟨fd_Alphabet_index, du_Alphabet_index, D_Alphabet_index, B_Alphabet_index, V_Alphabet_index, BD_Alphabet_index, K_Alphabet_index⟩ := h_Alphabet_index
  exact dd_of T.f_Machine_column_before sc_Machine_column_before fun cdv A outer s H E hr =>
    (rb_cons (rs_setV (hx := by first | exact Or.inl rfl | exact Or.inr rfl) (i := 2) sc_Machine_column_before.nd (re_i (ri_fld T.gok rfl (by decide) rfl (rp_i (ri_var 0)))))
    (rb_cons (rs_for po_def rfl (rit_rev rfl T.z_reversed (re_lstS rfl rfl T.z_list (re_i (ri_var 1)))) (rg_name (i := 3) sc_Machine_column_before.nd) (rb_one (rs_setV (hx := by first | exact Or.inl rfl | exact Or.inr rfl) (i := 2) sc_Machine_column_before.nd (re_meth T.gok rfl (by decide) (show ¬ ("times" : Str) ∈ (["rows", "width"] : List Str) by decide +kernel) T.m_Matrix_times D_Matrix_times (hr.mono (by decide)) B_Matrix_times tk_def (re_ix (re_i (ri_fld T.gok rfl (by decide) rfl (rp_i (ri_var 0)))) (re_meth T.gok rfl (by decide) (show ¬ ("index" : Str) ∈ (["letters"] : List Str) by decide +kernel) T.m_Alphabet_index D_Alphabet_index (hr.mono (by decide)) B_Alphabet_index tk_def (re_i (ri_fld T.gok rfl (by decide) rfl (rp_i (ri_var 0)))) (ra_cons (re_i (ri_var 3)) ra_nil))) (ra_cons (re_i (ri_var 2)) ra_nil)))))
    (rb_one (rs_ret (re_i (ri_var 2))))))
/-- names: 0 machine, 1 count, 2 turn, 3 bad -/
noncomputable def w_law_refused_0 : M Fl := (sTryAs 3 (fun c => if c = 100 then some true else if c = 101 then some true else if c = 102 then some true else none) (sSeq (sIf (bU (uOf (iBin (dEqF false) (iVar 2) (iC (.int 0))))) (sExp (eMeth 3 den_Machine_weight (eI (iVar 0)) (aCons (eI (iC (.str "q"))) aNil))) (mR .next))
    (sSeq (sIf (bU (uOf (iBin (dEqF false) (iVar 2) (iC (.int 1))))) (sExp (eMeth 3 den_Machine_row_after (eI (iVar 0)) (aCons (eI (iC (.str "qq"))) aNil))) (mR .next))
    (sIf (bU (uOf (iBin (dEqF false) (iVar 2) (iC (.int 2))))) (sExp (eMeth 3 den_Machine_column_before (eI (iVar 0)) (aCons (eI (iC (.str "q"))) aNil))) (mR .next)))) (fun a x => if x.c = 102 then (sIf (bAnd (bU (uOf (iIsE 3 a true))) (bVal (eBin (dEqF false) (eXf 3 a x 0) (eI (iC (.str "letter")))))) (sAsgV 1 (eI (iBin dAdd (iVar 1) (iC (.int 1))))) (mR .next)) else fun _ => none))
noncomputable def b_law_refused : M Fl := (sSeq (sAsgV 1 (eI (iC (.int 0))))
    (sSeq (sFor (itRng1 (iC (.int 3))) (gName 2) w_law_refused_0)
    (sRet (eI (iBin (dEqF false) (iVar 1) (iC (.int 3)))))))
noncomputable def den_law_refused : Den := denB 1 4 b_law_refused
theorem sc_law_refused : FnScope ["machine", "count", "turn", "bad"] ["machine"] (defScope s_law_refused) := ⟨rfl, rfl, rfl, by decide +kernel, rfl, by decide +kernel, by decide +kernel⟩
theorem ok_law_refused (T : Tx K mg a_Refused_init a_law_state a_law_take a_law_letters a_law_gcd a_law_frac a_law_item a_law_square a_law_plan a_Ratio_init a_law_ratios a_Matrix_init a_Alphabet_init a_Matrix_len a_Machine_init a_law_machine a_law_pair a_law_pairs a_law_word a_law_mul a_law_add a_law_dot a_law_after a_law_weight_of a_law_before a_Alphabet_index a_Ratio_add a_Ratio_mul a_combine a_Matrix_before a_Machine_row_after a_dot a_Machine_weight a_Matrix_times a_Machine_column_before a_law_refused a_law_bad a_Machine_size a_Machine_call a_law c_Ratio c_Matrix c_Alphabet c_Machine c_Fault c_Malformed c_Refused c_ZeroDivisor t_MOST_LETTERS t_SMALL) (hN : base.NoSeer) (hT : P.given.tree = none) (hP : P.main = PySem.Challenge.pw_wordweight_k10_weights_of_machines.main) (h_Machine_weight : DD P w K (GG c_Ratio c_Matrix c_Alphabet c_Machine c_ZeroDivisor c_Malformed c_Refused) mg base 47 a_Machine_weight ["self", "word"] den_Machine_weight []) (h_Machine_row_after : DD P w K (GG c_Ratio c_Matrix c_Alphabet c_Machine c_ZeroDivisor c_Malformed c_Refused) mg base 46 a_Machine_row_after ["self", "word"] den_Machine_row_after []) (h_Machine_column_before : DD P w K (GG c_Ratio c_Matrix c_Alphabet c_Machine c_ZeroDivisor c_Malformed c_Refused) mg base 46 a_Machine_column_before ["self", "word"] den_Machine_column_before []) : DD P w K (GG c_Ratio c_Matrix c_Alphabet c_Machine c_ZeroDivisor c_Malformed c_Refused) mg base 48 a_law_refused ["machine"] den_law_refused [] := by
  obtain ⟨fd_Machine_weight, du_Machine_weight, D_Machine_weight, B_Machine_weight, V_Machine_weight, BD_Machine_weight, K_Machine_weight⟩ := h_Machine_weight
  obtain ⟨fd_Machine_row_after, du_Machine_row_after, D_Machine_row_after, B_Machine_row_after, V_Machine_row_after, BD_Machine_row_after, K_Machine_row_after⟩ := h_Machine_row_after
  obtain ⟨fd_Machine_column_before, du_Machine_column_before, D_Machine_column_before, B_Machine_column_before, V_Machine_column_before, BD_Machine_column_before, K_Machine_column_before⟩ := h_Machine_column_before
  exact dd_of T.f_law_refused sc_law_refused fun cdv A outer s H E hr =>
    (rb_cons (rs_setV (hx := by first | exact Or.inl rfl | exact Or.inr rfl) (i := 1) sc_law_refused.nd (re_i ri_int))
    (rb_cons (rs_for po_def rfl (rit_rng1 rfl T.z_range ri_int) (rg_name (i := 2) sc_law_refused.nd) (rb_one (rs_try_as (i := 3) rfl rfl sc_law_refused.nd rfl rfl ⟨rfl, by decide, Or.inl T.g_Fault⟩ tk_def (fun c ci b hg hb => by
      unfold GG at hg
      split at hg
      · cases hb
      · cases hb
      · cases hb
      · cases hb
      · cases hb; cases hg; exact PySem.W.exm_ref T.eb_Fault T.ed_Fault T.et_Fault T.es_ZeroDivisor_Fault
      · cases hb; cases hg; exact PySem.W.exm_ref T.eb_Fault T.ed_Fault T.et_Fault T.es_Malformed_Fault
      · cases hb; cases hg; exact PySem.W.exm_ref T.eb_Fault T.ed_Fault T.et_Fault T.es_Refused_Fault
      · cases hg) (fun W1 pn1 xe1 tk1 po1 => (rb_cons (rs_if (rt_u (ru_cmp op_eq opi_eqF (rp_i (ri_var 2)) (rp_i ri_int) (nomark _))) (rb_one (rs_expr (re_meth T.gok rfl (by decide) (show ¬ ("weight" : Str) ∈ (["alphabet", "row", "matrices", "column"] : List Str) by decide +kernel) T.m_Machine_weight D_Machine_weight (hr.mono (by decide)) B_Machine_weight tk1 (re_i (ri_var 0)) (ra_cons (re_i ri_str) ra_nil)))) rb_nil)
    (rb_cons (rs_if (rt_u (ru_cmp op_eq opi_eqF (rp_i (ri_var 2)) (rp_i ri_int) (nomark _))) (rb_one (rs_expr (re_meth T.gok rfl (by decide) (show ¬ ("row_after" : Str) ∈ (["alphabet", "row", "matrices", "column"] : List Str) by decide +kernel) T.m_Machine_row_after D_Machine_row_after (hr.mono (by decide)) B_Machine_row_after tk1 (re_i (ri_var 0)) (ra_cons (re_i ri_str) ra_nil)))) rb_nil)
    (rb_one (rs_if (rt_u (ru_cmp op_eq opi_eqF (rp_i (ri_var 2)) (rp_i ri_int) (nomark _))) (rb_one (rs_expr (re_meth T.gok rfl (by decide) (show ¬ ("column_before" : Str) ∈ (["alphabet", "row", "matrices", "column"] : List Str) by decide +kernel) T.m_Machine_column_before D_Machine_column_before (hr.mono (by decide)) B_Machine_column_before tk1 (re_i (ri_var 0)) (ra_cons (re_i ri_str) ra_nil)))) rb_nil))))) (fun a oe x ci d pn hg hh hz hd => by
        show RB _ _ _ _ _ (if _ then _ else _)
        by_cases hx102 : x.c = 102
        · rw [if_pos hx102]
          have hg0 := hg
          rw [hx102] at hg
          cases hg
          exact (rb_one (rs_if (rt_w (rwt_and (rt_u (ru_val (ri_isX hz kit_self rfl (Or.inl rfl) rfl T.z_isinstance bt_isinstance (pe_glob (v := V.ref _) rfl T.g_Refused rfl) (.own _)))) (rwt_and1 (rt_cmp op_eq opi_eqF (re_xf (x := x) ⟨T.xg_Refused, T.xk_Refused, T.eb_Refused, T.ed_Refused⟩ T.er_Refused.no hg0 hz hd (show (["reason"] : List Str).Nodup by decide +kernel) rfl rfl (Or.inl rfl)) (re_i ri_str) (nomark _))))) (rb_one (rs_setV (hx := by first | exact Or.inl rfl | exact Or.inr rfl) (i := 1) sc_law_refused.nd (re_i (ri_bin op_addA opi_add (rp_i (ri_var 1)) (rp_i ri_int))))) rb_nil))
        · rw [if_neg hx102]
          exact rb_none))))
    (rb_one (rs_ret (re_i (ri_cmp op_eq opi_eqF (rp_i (ri_var 1)) (rp_i ri_int) (nomark _)))))))
/-- names: 0 machine, 1 pick, 2 row, 3 matrices, 4 column, 5 wide, 6 k, 7 j, 8 bad -/
noncomputable def b_law_bad : M Fl := (sSeq (sAsgT (gTup [(gName 2), (gName 3), (gName 4)]) (eTup (aCons (eI (iUn (dFld 3 1) (iVar 0))) (aCons (eI (iUn (dFld 3 2) (iVar 0))) (aCons (eI (iUn (dFld 3 3) (iVar 0))) aNil)))))
    (sSeq (sAsgV 5 (eMake 1 2 den_Matrix_init (aCons (eLc [7] (itRng1 (iUn dLen (iVar 2))) (gName 7) bYes (eLc [6] (itRng1 (iBin dAdd (iUn dLen (iVar 2)) (iC (.int 1)))) (gName 6) bYes (eMakeD 0 2 den_Ratio_init [.int 1] (aCons (eI (iC (.int 0))) aNil)))) (aCons (eI (iBin dAdd (iUn dLen (iVar 2)) (iC (.int 1)))) aNil))))
    (sSeq (sTryAs 8 (fun c => if c = 100 then some true else if c = 101 then some true else if c = 102 then some true else none) (sSeq (sIf (bU (uOf (iBin (dEqF false) (iVar 1) (iC (.int 0))))) (sExp (eMake 3 4 den_Machine_init (aCons (eI (iUn (dFld 3 0) (iVar 0))) (aCons (eF2 dCatT (eI (iVar 2)) (eTup (aCons (eMakeD 0 2 den_Ratio_init [.int 1] (aCons (eI (iC (.int 1))) aNil)) aNil))) (aCons (eI (iVar 3)) (aCons (eI (iVar 4)) aNil)))))) (mR .next))
    (sSeq (sIf (bU (uOf (iBin (dEqF false) (iVar 1) (iC (.int 1))))) (sExp (eMake 3 4 den_Machine_init (aCons (eI (iUn (dFld 3 0) (iVar 0))) (aCons (eI (iVar 2)) (aCons (eSlice (eI (iVar 3)) (some (iC (.int 1))) none) (aCons (eI (iVar 4)) aNil)))))) (mR .next))
    (sSeq (sIf (bU (uOf (iBin (dEqF false) (iVar 1) (iC (.int 2))))) (sExp (eMake 3 4 den_Machine_init (aCons (eI (iUn (dFld 3 0) (iVar 0))) (aCons (eF2 dCatT (eI (iVar 2)) (eTup (aCons (eMakeD 0 2 den_Ratio_init [.int 1] (aCons (eI (iC (.int 1))) aNil)) aNil))) (aCons (eI (iVar 3)) (aCons (eF2 dCatT (eI (iVar 4)) (eTup (aCons (eMakeD 0 2 den_Ratio_init [.int 1] (aCons (eI (iC (.int 0))) aNil)) aNil))) aNil)))))) (mR .next))
    (sIf (bU (uOf (iBin (dEqF false) (iVar 1) (iC (.int 3))))) (sExp (eMake 3 4 den_Machine_init (aCons (eI (iUn (dFld 3 0) (iVar 0))) (aCons (eI (iVar 2)) (aCons (eF2 dCatT (eSlice (eI (iVar 3)) (some (iC (.int 1))) none) (eTup (aCons (eI (iVar 5)) aNil))) (aCons (eI (iVar 4)) aNil)))))) (mR .next))))) (fun a x => if x.c = 101 ∧ x.ds = [] then (sRet (eI (iIsE 8 a true))) else fun _ => none))
    (sRet (eI (iC (.bl false)))))))
noncomputable def den_law_bad : Den := denB 2 9 b_law_bad
theorem sc_law_bad : FnScope ["machine", "pick", "row", "matrices", "column", "wide", "k", "j", "bad"] ["machine", "pick"] (defScope s_law_bad) := ⟨rfl, rfl, rfl, by decide +kernel, rfl, by decide +kernel, by decide +kernel⟩
theorem ok_law_bad (T : Tx K mg a_Refused_init a_law_state a_law_take a_law_letters a_law_gcd a_law_frac a_law_item a_law_square a_law_plan a_Ratio_init a_law_ratios a_Matrix_init a_Alphabet_init a_Matrix_len a_Machine_init a_law_machine a_law_pair a_law_pairs a_law_word a_law_mul a_law_add a_law_dot a_law_after a_law_weight_of a_law_before a_Alphabet_index a_Ratio_add a_Ratio_mul a_combine a_Matrix_before a_Machine_row_after a_dot a_Machine_weight a_Matrix_times a_Machine_column_before a_law_refused a_law_bad a_Machine_size a_Machine_call a_law c_Ratio c_Matrix c_Alphabet c_Machine c_Fault c_Malformed c_Refused c_ZeroDivisor t_MOST_LETTERS t_SMALL) (hN : base.NoSeer) (hT : P.given.tree = none) (hP : P.main = PySem.Challenge.pw_wordweight_k10_weights_of_machines.main) (h_Matrix_init : DD P w K (GG c_Ratio c_Matrix c_Alphabet c_Machine c_ZeroDivisor c_Malformed c_Refused) mg base 1 a_Matrix_init ["self", "rows", "width"] den_Matrix_init []) (h_Ratio_init : DD P w K (GG c_Ratio c_Matrix c_Alphabet c_Machine c_ZeroDivisor c_Malformed c_Refused) mg base 41 a_Ratio_init ["self", "n", "d"] den_Ratio_init [V.int 1]) (h_Machine_init : DD P w K (GG c_Ratio c_Matrix c_Alphabet c_Machine c_ZeroDivisor c_Malformed c_Refused) mg base 3 a_Machine_init ["self", "alphabet", "row", "matrices", "column"] den_Machine_init []) : DD P w K (GG c_Ratio c_Matrix c_Alphabet c_Machine c_ZeroDivisor c_Malformed c_Refused) mg base 43 a_law_bad ["machine", "pick"] den_law_bad [] := by
  obtain ⟨fd_Matrix_init, du_Matrix_init, D_Matrix_init, B_Matrix_init, V_Matrix_init, BD_Matrix_init, K_Matrix_init⟩ := h_Matrix_init
  obtain ⟨fd_Ratio_init, du_Ratio_init, D_Ratio_init, B_Ratio_init, V_Ratio_init, BD_Ratio_init, K_Ratio_init⟩ := h_Ratio_init
  obtain ⟨fd_Machine_init, du_Machine_init, D_Machine_init, B_Machine_init, V_Machine_init, BD_Machine_init, K_Machine_init⟩ := h_Machine_init
  exact dd_of T.f_law_bad sc_law_bad fun cdv A outer s H E hr =>
    (rb_cons (rs_asgT (re_tup (ra_cons (re_i (ri_fld T.gok rfl (by decide) rfl (rp_i (ri_var 0)))) (ra_cons (re_i (ri_fld T.gok rfl (by decide) rfl (rp_i (ri_var 0)))) (ra_cons (re_i (ri_fld T.gok rfl (by decide) rfl (rp_i (ri_var 0)))) ra_nil)))) (rg_tup rfl (rgs_cons (rg_name (i := 2) sc_law_bad.nd) (rgs_cons (rg_name (i := 3) sc_law_bad.nd) (rgs_cons (rg_name (i := 4) sc_law_bad.nd) rgs_nil)))))
    (rb_cons (rs_setV (hx := by first | exact Or.inl rfl | exact Or.inr rfl) (i := 5) sc_law_bad.nd (re_make rfl rfl T.mk_Matrix D_Matrix_init (hr.mono (by decide)) rfl T.g_Matrix B_Matrix_init tk_def (ra_cons (re_lc (own := [("j", 7)]) (fun _ _ _ _ => trivial) rfl sc_law_bad.nd (rit_rng1 rfl T.z_range (ri_c1 call_lenA opc_len rfl T.z_len bt_len (rp_i (ri_var 2)))) (blk_by (by kernel_rfl)) (fun _ _ _ _ _ => (rg_name (i := 7) sc_law_bad.nd)) (fun _ _ _ _ _ => rts_nil) (fun _ _ _ _ _ => (re_lc (own := [("k", 6)]) (fun _ _ _ _ => trivial) rfl sc_law_bad.nd (rit_rng1 rfl T.z_range (ri_bin op_addA opi_add (rp_i (ri_c1 call_lenA opc_len rfl T.z_len bt_len (rp_i (ri_var 2)))) (rp_i ri_int))) (blk_by (by kernel_rfl)) (fun _ _ _ _ _ => (rg_name (i := 6) sc_law_bad.nd)) (fun _ _ _ _ _ => rts_nil) (fun _ _ _ _ _ => (re_makeD (dvs := [V.int 1]) rfl rfl T.mk_Ratio D_Ratio_init (hr.mono (by decide)) rfl T.g_Ratio BD_Ratio_init V_Ratio_init ⟨rfl, trivial⟩ takes0 (ra_cons (re_i ri_int) ra_nil))) (by decide))) (by decide)) (ra_cons (re_i (ri_bin op_addA opi_add (rp_i (ri_c1 call_lenA opc_len rfl T.z_len bt_len (rp_i (ri_var 2)))) (rp_i ri_int))) ra_nil))))
    (rb_cons (rs_try_as (i := 8) rfl rfl sc_law_bad.nd rfl rfl ⟨rfl, by decide, Or.inl T.g_Fault⟩ tk_def (fun c ci b hg hb => by
      unfold GG at hg
      split at hg
      · cases hb
      · cases hb
      · cases hb
      · cases hb
      · cases hb; cases hg; exact PySem.W.exm_ref T.eb_Fault T.ed_Fault T.et_Fault T.es_ZeroDivisor_Fault
      · cases hb; cases hg; exact PySem.W.exm_ref T.eb_Fault T.ed_Fault T.et_Fault T.es_Malformed_Fault
      · cases hb; cases hg; exact PySem.W.exm_ref T.eb_Fault T.ed_Fault T.et_Fault T.es_Refused_Fault
      · cases hg) (fun W1 pn1 xe1 tk1 po1 => (rb_cons (rs_if (rt_u (ru_cmp op_eq opi_eqF (rp_i (ri_var 1)) (rp_i ri_int) (nomark _))) (rb_one (rs_expr (re_make rfl rfl T.mk_Machine D_Machine_init (hr.mono (by decide)) rfl T.g_Machine B_Machine_init tk1 (ra_cons (re_i (ri_fld T.gok rfl (by decide) rfl (rp_i (ri_var 0)))) (ra_cons (re_catT (re_i (ri_var 2)) (re_tup (ra_cons (re_makeD (dvs := [V.int 1]) rfl rfl T.mk_Ratio D_Ratio_init (hr.mono (by decide)) rfl T.g_Ratio BD_Ratio_init V_Ratio_init ⟨rfl, trivial⟩ tk1 (ra_cons (re_i ri_int) ra_nil)) ra_nil))) (ra_cons (re_i (ri_var 3)) (ra_cons (re_i (ri_var 4)) ra_nil))))))) rb_nil)
    (rb_cons (rs_if (rt_u (ru_cmp op_eq opi_eqF (rp_i (ri_var 1)) (rp_i ri_int) (nomark _))) (rb_one (rs_expr (re_make rfl rfl T.mk_Machine D_Machine_init (hr.mono (by decide)) rfl T.g_Machine B_Machine_init tk1 (ra_cons (re_i (ri_fld T.gok rfl (by decide) rfl (rp_i (ri_var 0)))) (ra_cons (re_i (ri_var 2)) (ra_cons (re_slice (re_i (ri_var 3)) (part_some ri_int) part_none) (ra_cons (re_i (ri_var 4)) ra_nil))))))) rb_nil)
    (rb_cons (rs_if (rt_u (ru_cmp op_eq opi_eqF (rp_i (ri_var 1)) (rp_i ri_int) (nomark _))) (rb_one (rs_expr (re_make rfl rfl T.mk_Machine D_Machine_init (hr.mono (by decide)) rfl T.g_Machine B_Machine_init tk1 (ra_cons (re_i (ri_fld T.gok rfl (by decide) rfl (rp_i (ri_var 0)))) (ra_cons (re_catT (re_i (ri_var 2)) (re_tup (ra_cons (re_makeD (dvs := [V.int 1]) rfl rfl T.mk_Ratio D_Ratio_init (hr.mono (by decide)) rfl T.g_Ratio BD_Ratio_init V_Ratio_init ⟨rfl, trivial⟩ tk1 (ra_cons (re_i ri_int) ra_nil)) ra_nil))) (ra_cons (re_i (ri_var 3)) (ra_cons (re_catT (re_i (ri_var 4)) (re_tup (ra_cons (re_makeD (dvs := [V.int 1]) rfl rfl T.mk_Ratio D_Ratio_init (hr.mono (by decide)) rfl T.g_Ratio BD_Ratio_init V_Ratio_init ⟨rfl, trivial⟩ tk1 (ra_cons (re_i ri_int) ra_nil)) ra_nil))) ra_nil))))))) rb_nil)
    (rb_one (rs_if (rt_u (ru_cmp op_eq opi_eqF (rp_i (ri_var 1)) (rp_i ri_int) (nomark _))) (rb_one (rs_expr (re_make rfl rfl T.mk_Machine D_Machine_init (hr.mono (by decide)) rfl T.g_Machine B_Machine_init tk1 (ra_cons (re_i (ri_fld T.gok rfl (by decide) rfl (rp_i (ri_var 0)))) (ra_cons (re_i (ri_var 2)) (ra_cons (re_catT (re_slice (re_i (ri_var 3)) (part_some ri_int) part_none) (re_tup (ra_cons (re_i (ri_var 5)) ra_nil))) (ra_cons (re_i (ri_var 4)) ra_nil))))))) rb_nil)))))) (fun a oe x ci d pn hg hh hz hd => by
        show RB _ _ _ _ _ (if _ then _ else _)
        by_cases hx101 : x.c = 101 ∧ x.ds = []
        · rw [if_pos hx101]
          rw [hx101.1] at hg
          cases hg
          intro Z hZ
          obtain ⟨i1, h1, h2, ⟨_, h3⟩ | ⟨_, _, _, hne, _⟩⟩ := id hZ
          · subst h3
            exact rb_at hZ (rb_one (rs_ret (re_i (ri_isE ⟨T.xg_Malformed, T.xk_Malformed, T.eb_Malformed, T.ed_Malformed, T.xa_Malformed, T.hn, T.ht, T.xm_Malformed⟩ hz hd kit_self rfl (Or.inl rfl) rfl T.z_isinstance bt_isinstance (pe_glob (v := V.ref _) rfl T.g_Malformed rfl) (.own _)))))
          · exact absurd hx101.2 hne
        · rw [if_neg hx101]
          exact rb_none))
    (rb_one (rs_ret (re_i ri_bl))))))
/-- names: 0 self -/
noncomputable def b_Machine_size : M Fl := (sRet (eI (iUn dLen (iUn (dFld 3 1) (iVar 0)))))
noncomputable def den_Machine_size : Den := denB 1 1 b_Machine_size
theorem sc_Machine_size : FnScope ["self"] ["self"] (defScope s_Machine_size) := ⟨rfl, rfl, rfl, by decide +kernel, rfl, by decide +kernel, by decide +kernel⟩
theorem ok_Machine_size (T : Tx K mg a_Refused_init a_law_state a_law_take a_law_letters a_law_gcd a_law_frac a_law_item a_law_square a_law_plan a_Ratio_init a_law_ratios a_Matrix_init a_Alphabet_init a_Matrix_len a_Machine_init a_law_machine a_law_pair a_law_pairs a_law_word a_law_mul a_law_add a_law_dot a_law_after a_law_weight_of a_law_before a_Alphabet_index a_Ratio_add a_Ratio_mul a_combine a_Matrix_before a_Machine_row_after a_dot a_Machine_weight a_Matrix_times a_Machine_column_before a_law_refused a_law_bad a_Machine_size a_Machine_call a_law c_Ratio c_Matrix c_Alphabet c_Machine c_Fault c_Malformed c_Refused c_ZeroDivisor t_MOST_LETTERS t_SMALL) (hN : base.NoSeer) (hT : P.given.tree = none) (hP : P.main = PySem.Challenge.pw_wordweight_k10_weights_of_machines.main)  : DD P w K (GG c_Ratio c_Matrix c_Alphabet c_Machine c_ZeroDivisor c_Malformed c_Refused) mg base 1 a_Machine_size ["self"] den_Machine_size [] := by
  exact dd_of T.f_Machine_size sc_Machine_size fun cdv A outer s H E hr =>
    (rb_one (rs_ret (re_i (ri_c1 call_lenA opc_len rfl T.z_len bt_len (rp_i (ri_fld T.gok rfl (by decide) rfl (rp_i (ri_var 0))))))))
/-- names: 0 self, 1 word -/
noncomputable def b_Machine_call : M Fl := (sRet (eMeth 3 den_Machine_weight (eI (iVar 0)) (aCons (eI (iVar 1)) aNil)))
noncomputable def den_Machine_call : Den := denB 2 2 b_Machine_call
theorem sc_Machine_call : FnScope ["self", "word"] ["self", "word"] (defScope s_Machine_call) := ⟨rfl, rfl, rfl, by decide +kernel, rfl, by decide +kernel, by decide +kernel⟩
theorem ok_Machine_call (T : Tx K mg a_Refused_init a_law_state a_law_take a_law_letters a_law_gcd a_law_frac a_law_item a_law_square a_law_plan a_Ratio_init a_law_ratios a_Matrix_init a_Alphabet_init a_Matrix_len a_Machine_init a_law_machine a_law_pair a_law_pairs a_law_word a_law_mul a_law_add a_law_dot a_law_after a_law_weight_of a_law_before a_Alphabet_index a_Ratio_add a_Ratio_mul a_combine a_Matrix_before a_Machine_row_after a_dot a_Machine_weight a_Matrix_times a_Machine_column_before a_law_refused a_law_bad a_Machine_size a_Machine_call a_law c_Ratio c_Matrix c_Alphabet c_Machine c_Fault c_Malformed c_Refused c_ZeroDivisor t_MOST_LETTERS t_SMALL) (hN : base.NoSeer) (hT : P.given.tree = none) (hP : P.main = PySem.Challenge.pw_wordweight_k10_weights_of_machines.main) (h_Machine_weight : DD P w K (GG c_Ratio c_Matrix c_Alphabet c_Machine c_ZeroDivisor c_Malformed c_Refused) mg base 47 a_Machine_weight ["self", "word"] den_Machine_weight []) : DD P w K (GG c_Ratio c_Matrix c_Alphabet c_Machine c_ZeroDivisor c_Malformed c_Refused) mg base 48 a_Machine_call ["self", "word"] den_Machine_call [] := by
  obtain ⟨fd_Machine_weight, du_Machine_weight, D_Machine_weight, B_Machine_weight, V_Machine_weight, BD_Machine_weight, K_Machine_weight⟩ := h_Machine_weight
  exact dd_of T.f_Machine_call sc_Machine_call fun cdv A outer s H E hr =>
    (rb_one (rs_ret (re_meth T.gok rfl (by decide) (show ¬ ("weight" : Str) ∈ (["alphabet", "row", "matrices", "column"] : List Str) by decide +kernel) T.m_Machine_weight D_Machine_weight (hr.mono (by decide)) B_Machine_weight tk_def (re_i (ri_var 0)) (ra_cons (re_i (ri_var 1)) ra_nil))))
/-- names: 0 script, 1 state, 2 letters, 3 plan, 4 machine, 5 turn, 6 word, 7 due, 8 at, 9 first, 10 second -/
noncomputable def w_law_0 : M Fl := (sSeq (sAsgV 6 (eCallB den_law_word 1 (aCons (eI (iVar 2)) (aCons (eI (iC (.int 4))) aNil))))
    (sSeq (sAsgV 7 (eCall den_law_weight_of (aCons (eI (iVar 3)) (aCons (eI (iVar 6)) aNil))))
    (sSeq (sIf (bOr (bVal (eBin (dEqD true) (eCall den_law_pair (aCons (eMeth 3 den_Machine_weight (eI (iVar 4)) (aCons (eI (iVar 6)) aNil)) aNil)) (eI (iVar 7)))) (bVal (eBin (dEqD true) (eCall den_law_pair (aCons (eMeth 3 den_Machine_call (eI (iVar 4)) (aCons (eI (iVar 6)) aNil)) aNil)) (eI (iVar 7))))) (sRet (eI (iC (.bl false)))) (mR .next))
    (sSeq (sAsgV 8 (eCallB den_law_take 1 (aCons (eI (iBin dAdd (iUn dLen (iVar 6)) (iC (.int 1)))) aNil)))
    (sSeq (sPar [9, 10] (aCons (eCall den_law_pairs (aCons (eMeth 3 den_Machine_row_after (eI (iVar 4)) (aCons (eSlice (eI (iVar 6)) none (some (iVar 8))) aNil)) aNil)) (aCons (eCall den_law_pairs (aCons (eMeth 3 den_Machine_column_before (eI (iVar 4)) (aCons (eSlice (eI (iVar 6)) (some (iVar 8)) none) aNil)) aNil)) aNil)))
    (sSeq (sIf (bOr (bVal (eBin (dEqD true) (eI (iVar 9)) (eCall den_law_after (aCons (eI (iVar 3)) (aCons (eSlice (eI (iVar 6)) none (some (iVar 8))) aNil))))) (bVal (eBin (dEqD true) (eI (iVar 10)) (eCall den_law_before (aCons (eI (iVar 3)) (aCons (eSlice (eI (iVar 6)) (some (iVar 8)) none) aNil)))))) (sRet (eI (iC (.bl false)))) (mR .next))
    (sIf (bVal (eBin (dEqD true) (eCall den_law_dot (aCons (eI (iVar 9)) (aCons (eI (iVar 10)) aNil))) (eI (iVar 7)))) (sRet (eI (iC (.bl false)))) (mR .next))))))))
noncomputable def t_law_5 : M Fl := (sSeq (sFor (itRng1 (iC (.int 3))) (gName 5) w_law_0)
    (sRet (eAnd (eCall den_law_refused (aCons (eI (iVar 4)) aNil)) (eCall den_law_bad (aCons (eI (iVar 4)) (aCons (eCallB den_law_take 1 (aCons (eI (iC (.int 4))) aNil)) aNil))))))
noncomputable def t_law_4 : M Fl := (sSeq (sIf (bOr (bVal (eBin (dEqF true) (eMeth 3 den_Machine_size (eI (iVar 4)) aNil) (eI (iUn dLen (iBin dIx (iVar 3) (iC (.int 1))))))) (bOr (bVal (eBin (dEqD true) (eCall den_law_pairs (aCons (eI (iUn (dFld 3 1) (iVar 4))) aNil)) (eI (iBin dIx (iVar 3) (iC (.int 1)))))) (bVal (eBin (dEqD true) (eCall den_law_pairs (aCons (eI (iUn (dFld 3 3) (iVar 4))) aNil)) (eI (iBin dIx (iVar 3) (iC (.int 3)))))))) (sRet (eI (iC (.bl false)))) (mR .next))
    t_law_5)
noncomputable def t_law_3 : M Fl := (sSeq (sAsgV 4 (eCall den_law_machine (aCons (eI (iVar 3)) aNil)))
    t_law_4)
noncomputable def t_law_2 : M Fl := (sSeq (sAsgV 3 (eCallB den_law_plan 1 (aCons (eI (iVar 2)) (aCons (eI (iC (.int 3))) aNil))))
    t_law_3)
noncomputable def t_law_1 : M Fl := (sSeq (sAsgV 2 (eCallB den_law_letters 1 (aCons (eI (iC (.int 3))) aNil)))
    t_law_2)
noncomputable def b_law : M Fl := (sSeq (sAsg 1 (eCall den_law_state (aCons (eI (iVar 0)) aNil)))
    t_law_1)
noncomputable def den_law : Den := denB 1 11 b_law
theorem sc_law : FnScope ["script", "state", "letters", "plan", "machine", "turn", "word", "due", "at", "first", "second"] ["script"] (defScope s_law) := ⟨rfl, rfl, rfl, by decide +kernel, rfl, by decide +kernel, by decide +kernel⟩
theorem ok_law (T : Tx K mg a_Refused_init a_law_state a_law_take a_law_letters a_law_gcd a_law_frac a_law_item a_law_square a_law_plan a_Ratio_init a_law_ratios a_Matrix_init a_Alphabet_init a_Matrix_len a_Machine_init a_law_machine a_law_pair a_law_pairs a_law_word a_law_mul a_law_add a_law_dot a_law_after a_law_weight_of a_law_before a_Alphabet_index a_Ratio_add a_Ratio_mul a_combine a_Matrix_before a_Machine_row_after a_dot a_Machine_weight a_Matrix_times a_Machine_column_before a_law_refused a_law_bad a_Machine_size a_Machine_call a_law c_Ratio c_Matrix c_Alphabet c_Machine c_Fault c_Malformed c_Refused c_ZeroDivisor t_MOST_LETTERS t_SMALL) (hN : base.NoSeer) (hT : P.given.tree = none) (hP : P.main = PySem.Challenge.pw_wordweight_k10_weights_of_machines.main) {fd : FuncData} (F : FunD K "law" "law" (defArgs s_law) (defBody s_law) (defScope s_law) [] [] a_law fd) (h_law_state : DD P w K (GG c_Ratio c_Matrix c_Alphabet c_Machine c_ZeroDivisor c_Malformed c_Refused) mg base 1 a_law_state ["script"] den_law_state []) (h_law_letters : DD P w K (GG c_Ratio c_Matrix c_Alphabet c_Machine c_ZeroDivisor c_Malformed c_Refused) mg base 42 a_law_letters ["state", "most"] den_law_letters []) (h_law_plan : DD P w K (GG c_Ratio c_Matrix c_Alphabet c_Machine c_ZeroDivisor c_Malformed c_Refused) mg base 44 a_law_plan ["state", "letters", "most"] den_law_plan []) (h_law_machine : DD P w K (GG c_Ratio c_Matrix c_Alphabet c_Machine c_ZeroDivisor c_Malformed c_Refused) mg base 44 a_law_machine ["plan"] den_law_machine []) (h_Machine_size : DD P w K (GG c_Ratio c_Matrix c_Alphabet c_Machine c_ZeroDivisor c_Malformed c_Refused) mg base 1 a_Machine_size ["self"] den_Machine_size []) (h_law_pairs : DD P w K (GG c_Ratio c_Matrix c_Alphabet c_Machine c_ZeroDivisor c_Malformed c_Refused) mg base 3 a_law_pairs ["values"] den_law_pairs []) (h_law_word : DD P w K (GG c_Ratio c_Matrix c_Alphabet c_Machine c_ZeroDivisor c_Malformed c_Refused) mg base 42 a_law_word ["state", "letters", "most"] den_law_word []) (h_law_weight_of : DD P w K (GG c_Ratio c_Matrix c_Alphabet c_Machine c_ZeroDivisor c_Malformed c_Refused) mg base 45 a_law_weight_of ["plan", "word"] den_law_weight_of []) (h_law_pair : DD P w K (GG c_Ratio c_Matrix c_Alphabet c_Machine c_ZeroDivisor c_Malformed c_Refused) mg base 2 a_law_pair ["value"] den_law_pair []) (h_Machine_weight : DD P w K (GG c_Ratio c_Matrix c_Alphabet c_Machine c_ZeroDivisor c_Malformed c_Refused) mg base 47 a_Machine_weight ["self", "word"] den_Machine_weight []) (h_Machine_call : DD P w K (GG c_Ratio c_Matrix c_Alphabet c_Machine c_ZeroDivisor c_Malformed c_Refused) mg base 48 a_Machine_call ["self", "word"] den_Machine_call []) (h_law_take : DD P w K (GG c_Ratio c_Matrix c_Alphabet c_Machine c_ZeroDivisor c_Malformed c_Refused) mg base 41 a_law_take ["state", "m"] den_law_take []) (h_Machine_column_before : DD P w K (GG c_Ratio c_Matrix c_Alphabet c_Machine c_ZeroDivisor c_Malformed c_Refused) mg base 46 a_Machine_column_before ["self", "word"] den_Machine_column_before []) (h_Machine_row_after : DD P w K (GG c_Ratio c_Matrix c_Alphabet c_Machine c_ZeroDivisor c_Malformed c_Refused) mg base 46 a_Machine_row_after ["self", "word"] den_Machine_row_after []) (h_law_after : DD P w K (GG c_Ratio c_Matrix c_Alphabet c_Machine c_ZeroDivisor c_Malformed c_Refused) mg base 44 a_law_after ["plan", "word"] den_law_after []) (h_law_before : DD P w K (GG c_Ratio c_Matrix c_Alphabet c_Machine c_ZeroDivisor c_Malformed c_Refused) mg base 44 a_law_before ["plan", "word"] den_law_before []) (h_law_dot : DD P w K (GG c_Ratio c_Matrix c_Alphabet c_Machine c_ZeroDivisor c_Malformed c_Refused) mg base 43 a_law_dot ["a", "b"] den_law_dot []) (h_law_refused : DD P w K (GG c_Ratio c_Matrix c_Alphabet c_Machine c_ZeroDivisor c_Malformed c_Refused) mg base 48 a_law_refused ["machine"] den_law_refused []) (h_law_bad : DD P w K (GG c_Ratio c_Matrix c_Alphabet c_Machine c_ZeroDivisor c_Malformed c_Refused) mg base 43 a_law_bad ["machine", "pick"] den_law_bad []) : DOk P w K (GG c_Ratio c_Matrix c_Alphabet c_Machine c_ZeroDivisor c_Malformed c_Refused) mg base 49 a_law fd ["script"] den_law := by
  obtain ⟨fd_law_state, du_law_state, D_law_state, B_law_state, V_law_state, BD_law_state, K_law_state⟩ := h_law_state
  obtain ⟨fd_law_letters, du_law_letters, D_law_letters, B_law_letters, V_law_letters, BD_law_letters, K_law_letters⟩ := h_law_letters
  obtain ⟨fd_law_plan, du_law_plan, D_law_plan, B_law_plan, V_law_plan, BD_law_plan, K_law_plan⟩ := h_law_plan
  obtain ⟨fd_law_machine, du_law_machine, D_law_machine, B_law_machine, V_law_machine, BD_law_machine, K_law_machine⟩ := h_law_machine
  obtain ⟨fd_Machine_size, du_Machine_size, D_Machine_size, B_Machine_size, V_Machine_size, BD_Machine_size, K_Machine_size⟩ := h_Machine_size
  obtain ⟨fd_law_pairs, du_law_pairs, D_law_pairs, B_law_pairs, V_law_pairs, BD_law_pairs, K_law_pairs⟩ := h_law_pairs
  obtain ⟨fd_law_word, du_law_word, D_law_word, B_law_word, V_law_word, BD_law_word, K_law_word⟩ := h_law_word
  obtain ⟨fd_law_weight_of, du_law_weight_of, D_law_weight_of, B_law_weight_of, V_law_weight_of, BD_law_weight_of, K_law_weight_of⟩ := h_law_weight_of
  obtain ⟨fd_law_pair, du_law_pair, D_law_pair, B_law_pair, V_law_pair, BD_law_pair, K_law_pair⟩ := h_law_pair
  obtain ⟨fd_Machine_weight, du_Machine_weight, D_Machine_weight, B_Machine_weight, V_Machine_weight, BD_Machine_weight, K_Machine_weight⟩ := h_Machine_weight
  obtain ⟨fd_Machine_call, du_Machine_call, D_Machine_call, B_Machine_call, V_Machine_call, BD_Machine_call, K_Machine_call⟩ := h_Machine_call
  obtain ⟨fd_law_take, du_law_take, D_law_take, B_law_take, V_law_take, BD_law_take, K_law_take⟩ := h_law_take
  obtain ⟨fd_Machine_column_before, du_Machine_column_before, D_Machine_column_before, B_Machine_column_before, V_Machine_column_before, BD_Machine_column_before, K_Machine_column_before⟩ := h_Machine_column_before
  obtain ⟨fd_Machine_row_after, du_Machine_row_after, D_Machine_row_after, B_Machine_row_after, V_Machine_row_after, BD_Machine_row_after, K_Machine_row_after⟩ := h_Machine_row_after
  obtain ⟨fd_law_after, du_law_after, D_law_after, B_law_after, V_law_after, BD_law_after, K_law_after⟩ := h_law_after
  obtain ⟨fd_law_before, du_law_before, D_law_before, B_law_before, V_law_before, BD_law_before, K_law_before⟩ := h_law_before
  obtain ⟨fd_law_dot, du_law_dot, D_law_dot, B_law_dot, V_law_dot, BD_law_dot, K_law_dot⟩ := h_law_dot
  obtain ⟨fd_law_refused, du_law_refused, D_law_refused, B_law_refused, V_law_refused, BD_law_refused, K_law_refused⟩ := h_law_refused
  obtain ⟨fd_law_bad, du_law_bad, D_law_bad, B_law_bad, V_law_bad, BD_law_bad, K_law_bad⟩ := h_law_bad
  exact dok_of F sc_law fun cdv A outer s H E hr =>
    (rb_cons (rs_set (hx := by first | exact Or.inl rfl | exact Or.inr rfl) (i := 1) sc_law.nd (re_call D_law_state (hr.mono (by decide)) rfl T.g_law_state K_law_state B_law_state tk_def (ra_cons (re_i (ri_var 0)) ra_nil)))
    (rb_cons (rs_setV (hx := by first | exact Or.inl rfl | exact Or.inr rfl) (i := 2) sc_law.nd (re_callB (i := 1) D_law_letters (hr.mono (by decide)) rfl T.g_law_letters K_law_letters B_law_letters tk_def (ra_cons (re_i ri_int) ra_nil)))
    (rb_cons (rs_setV (hx := by first | exact Or.inl rfl | exact Or.inr rfl) (i := 3) sc_law.nd (re_callB (i := 1) D_law_plan (hr.mono (by decide)) rfl T.g_law_plan K_law_plan B_law_plan tk_def (ra_cons (re_i (ri_var 2)) (ra_cons (re_i ri_int) ra_nil))))
    (rb_cons (rs_setV (hx := by first | exact Or.inl rfl | exact Or.inr rfl) (i := 4) sc_law.nd (re_call D_law_machine (hr.mono (by decide)) rfl T.g_law_machine K_law_machine B_law_machine tk_def (ra_cons (re_i (ri_var 3)) ra_nil)))
    (rb_cons (rs_if (rt_w (rwt_or (rt_cmp op_ne opi_neF (re_meth0 T.gok rfl (by decide) (show ¬ ("size" : Str) ∈ (["alphabet", "row", "matrices", "column"] : List Str) by decide +kernel) T.m_Machine_size D_Machine_size (hr.mono (by decide)) B_Machine_size tk_def (re_i (ri_var 4))) (re_i (ri_c1 call_lenA opc_len rfl T.z_len bt_len (rp_i (ri_ix (rp_i (ri_var 3)) (rp_i ri_int))))) (nomark _)) (rwt_or (rt_cmp (op_neD (units_of hr)) opi_neD (re_call D_law_pairs (hr.mono (by decide)) rfl T.g_law_pairs K_law_pairs B_law_pairs tk_def (ra_cons (re_i (ri_fld T.gok rfl (by decide) rfl (rp_i (ri_var 4)))) ra_nil)) (re_i (ri_ix (rp_i (ri_var 3)) (rp_i ri_int))) (nomark _)) (rwt_or1 (rt_cmp (op_neD (units_of hr)) opi_neD (re_call D_law_pairs (hr.mono (by decide)) rfl T.g_law_pairs K_law_pairs B_law_pairs tk_def (ra_cons (re_i (ri_fld T.gok rfl (by decide) rfl (rp_i (ri_var 4)))) ra_nil)) (re_i (ri_ix (rp_i (ri_var 3)) (rp_i ri_int))) (nomark _)))))) (rb_one (rs_ret (re_i ri_bl))) rb_nil)
    (rb_cons (rs_for po_def rfl (rit_rng1 rfl T.z_range ri_int) (rg_name (i := 5) sc_law.nd) (rb_cons (rs_setV (hx := by first | exact Or.inl rfl | exact Or.inr rfl) (i := 6) sc_law.nd (re_callB (i := 1) D_law_word (hr.mono (by decide)) rfl T.g_law_word K_law_word B_law_word tk_def (ra_cons (re_i (ri_var 2)) (ra_cons (re_i ri_int) ra_nil))))
    (rb_cons (rs_setV (hx := by first | exact Or.inl rfl | exact Or.inr rfl) (i := 7) sc_law.nd (re_call D_law_weight_of (hr.mono (by decide)) rfl T.g_law_weight_of K_law_weight_of B_law_weight_of tk_def (ra_cons (re_i (ri_var 3)) (ra_cons (re_i (ri_var 6)) ra_nil))))
    (rb_cons (rs_if (rt_w (rwt_or (rt_cmp (op_neD (units_of hr)) opi_neD (re_call D_law_pair (hr.mono (by decide)) rfl T.g_law_pair K_law_pair B_law_pair tk_def (ra_cons (re_meth T.gok rfl (by decide) (show ¬ ("weight" : Str) ∈ (["alphabet", "row", "matrices", "column"] : List Str) by decide +kernel) T.m_Machine_weight D_Machine_weight (hr.mono (by decide)) B_Machine_weight tk_def (re_i (ri_var 4)) (ra_cons (re_i (ri_var 6)) ra_nil)) ra_nil)) (re_i (ri_var 7)) (nomark _)) (rwt_or1 (rt_cmp (op_neD (units_of hr)) opi_neD (re_call D_law_pair (hr.mono (by decide)) rfl T.g_law_pair K_law_pair B_law_pair tk_def (ra_cons (re_callO rfl ⟨T.ma_Machine_call, T.mf_Machine_call, T.fi_Machine_call⟩ D_Machine_call (hr.mono (by decide)) B_Machine_call tk_def (re_i (ri_var 4)) (ra_cons (re_i (ri_var 6)) ra_nil)) ra_nil)) (re_i (ri_var 7)) (nomark _))))) (rb_one (rs_ret (re_i ri_bl))) rb_nil)
    (rb_cons (rs_setV (hx := by first | exact Or.inl rfl | exact Or.inr rfl) (i := 8) sc_law.nd (re_callB (i := 1) D_law_take (hr.mono (by decide)) rfl T.g_law_take K_law_take B_law_take tk_def (ra_cons (re_i (ri_bin op_addA opi_add (rp_i (ri_c1 call_lenA opc_len rfl T.z_len bt_len (rp_i (ri_var 6)))) (rp_i ri_int))) ra_nil)))
    (rb_cons (rs_par (i := 9) (j := 10) sc_law.nd (by decide) rfl (ra_cons (re_call D_law_pairs (hr.mono (by decide)) rfl T.g_law_pairs K_law_pairs B_law_pairs tk_def (ra_cons (re_meth T.gok rfl (by decide) (show ¬ ("row_after" : Str) ∈ (["alphabet", "row", "matrices", "column"] : List Str) by decide +kernel) T.m_Machine_row_after D_Machine_row_after (hr.mono (by decide)) B_Machine_row_after tk_def (re_i (ri_var 4)) (ra_cons (re_slice (re_i (ri_var 6)) part_none (part_some (ri_var 8))) ra_nil)) ra_nil)) (ra_cons (re_call D_law_pairs (hr.mono (by decide)) rfl T.g_law_pairs K_law_pairs B_law_pairs tk_def (ra_cons (re_meth T.gok rfl (by decide) (show ¬ ("column_before" : Str) ∈ (["alphabet", "row", "matrices", "column"] : List Str) by decide +kernel) T.m_Machine_column_before D_Machine_column_before (hr.mono (by decide)) B_Machine_column_before tk_def (re_i (ri_var 4)) (ra_cons (re_slice (re_i (ri_var 6)) (part_some (ri_var 8)) part_none) ra_nil)) ra_nil)) ra_nil)))
    (rb_cons (rs_if (rt_w (rwt_or (rt_cmp (op_neD (units_of hr)) opi_neD (re_i (ri_var 9)) (re_call D_law_after (hr.mono (by decide)) rfl T.g_law_after K_law_after B_law_after tk_def (ra_cons (re_i (ri_var 3)) (ra_cons (re_slice (re_i (ri_var 6)) part_none (part_some (ri_var 8))) ra_nil))) (nomark _)) (rwt_or1 (rt_cmp (op_neD (units_of hr)) opi_neD (re_i (ri_var 10)) (re_call D_law_before (hr.mono (by decide)) rfl T.g_law_before K_law_before B_law_before tk_def (ra_cons (re_i (ri_var 3)) (ra_cons (re_slice (re_i (ri_var 6)) (part_some (ri_var 8)) part_none) ra_nil))) (nomark _))))) (rb_one (rs_ret (re_i ri_bl))) rb_nil)
    (rb_one (rs_if (rt_cmp (op_neD (units_of hr)) opi_neD (re_call D_law_dot (hr.mono (by decide)) rfl T.g_law_dot K_law_dot B_law_dot tk_def (ra_cons (re_i (ri_var 9)) (ra_cons (re_i (ri_var 10)) ra_nil))) (re_i (ri_var 7)) (nomark _)) (rb_one (rs_ret (re_i ri_bl))) rb_nil)))))))))
    (rb_one (rs_ret (re_and (re_call D_law_refused (hr.mono (by decide)) rfl T.g_law_refused K_law_refused B_law_refused tk_def (ra_cons (re_i (ri_var 4)) ra_nil)) (re_one (re_call D_law_bad (hr.mono (by decide)) rfl T.g_law_bad K_law_bad B_law_bad tk_def (ra_cons (re_i (ri_var 4)) (ra_cons (re_callB (i := 1) D_law_take (hr.mono (by decide)) rfl T.g_law_take K_law_take B_law_take tk_def (ra_cons (re_i ri_int) ra_nil)) ra_nil)))))))))))))
/-! ### all of them -/
theorem ok_all (T : Tx K mg a_Refused_init a_law_state a_law_take a_law_letters a_law_gcd a_law_frac a_law_item a_law_square a_law_plan a_Ratio_init a_law_ratios a_Matrix_init a_Alphabet_init a_Matrix_len a_Machine_init a_law_machine a_law_pair a_law_pairs a_law_word a_law_mul a_law_add a_law_dot a_law_after a_law_weight_of a_law_before a_Alphabet_index a_Ratio_add a_Ratio_mul a_combine a_Matrix_before a_Machine_row_after a_dot a_Machine_weight a_Matrix_times a_Machine_column_before a_law_refused a_law_bad a_Machine_size a_Machine_call a_law c_Ratio c_Matrix c_Alphabet c_Machine c_Fault c_Malformed c_Refused c_ZeroDivisor t_MOST_LETTERS t_SMALL) (hN : base.NoSeer) (hT : P.given.tree = none) (hP : P.main = PySem.Challenge.pw_wordweight_k10_weights_of_machines.main) {fd : FuncData} (F : FunD K "law" "law" (defArgs s_law) (defBody s_law) (defScope s_law) [] [] a_law fd) : DOk P w K (GG c_Ratio c_Matrix c_Alphabet c_Machine c_ZeroDivisor c_Malformed c_Refused) mg base 49 a_law fd ["script"] den_law := by
  have h_Refused_init := ok_Refused_init (P := P) (w := w) T hN hT hP 
  have h_law_state := ok_law_state (P := P) (w := w) T hN hT hP 
  have h_law_take := ok_law_take (P := P) (w := w) T hN hT hP 
  have h_law_letters := ok_law_letters (P := P) (w := w) T hN hT hP h_law_take
  have h_law_gcd := ok_law_gcd (P := P) (w := w) T hN hT hP 
  have h_law_frac := ok_law_frac (P := P) (w := w) T hN hT hP h_law_gcd
  have h_law_item := ok_law_item (P := P) (w := w) T hN hT hP h_law_take h_law_frac
  have h_law_square := ok_law_square (P := P) (w := w) T hN hT hP h_law_item
  have h_law_plan := ok_law_plan (P := P) (w := w) T hN hT hP h_law_take h_law_item h_law_square
  have h_Ratio_init := ok_Ratio_init (P := P) (w := w) T hN hT hP 
  have h_law_ratios := ok_law_ratios (P := P) (w := w) T hN hT hP h_Ratio_init
  have h_Matrix_init := ok_Matrix_init (P := P) (w := w) T hN hT hP 
  have h_Alphabet_init := ok_Alphabet_init (P := P) (w := w) T hN hT hP 
  have h_Matrix_len := ok_Matrix_len (P := P) (w := w) T hN hT hP 
  have h_Machine_init := ok_Machine_init (P := P) (w := w) T hN hT hP h_Matrix_len
  have h_law_machine := ok_law_machine (P := P) (w := w) T hN hT hP h_Matrix_init h_law_ratios h_Machine_init h_Alphabet_init
  have h_law_pair := ok_law_pair (P := P) (w := w) T hN hT hP h_law_gcd
  have h_law_pairs := ok_law_pairs (P := P) (w := w) T hN hT hP h_law_pair
  have h_law_word := ok_law_word (P := P) (w := w) T hN hT hP h_law_take
  have h_law_mul := ok_law_mul (P := P) (w := w) T hN hT hP h_law_frac
  have h_law_add := ok_law_add (P := P) (w := w) T hN hT hP h_law_frac
  have h_law_dot := ok_law_dot (P := P) (w := w) T hN hT hP h_law_add h_law_mul
  have h_law_after := ok_law_after (P := P) (w := w) T hN hT hP h_law_dot
  have h_law_weight_of := ok_law_weight_of (P := P) (w := w) T hN hT hP h_law_dot h_law_after
  have h_law_before := ok_law_before (P := P) (w := w) T hN hT hP h_law_dot
  have h_Alphabet_index := ok_Alphabet_index (P := P) (w := w) T hN hT hP h_Refused_init
  have h_Ratio_add := ok_Ratio_add (P := P) (w := w) T hN hT hP h_Ratio_init
  have h_Ratio_mul := ok_Ratio_mul (P := P) (w := w) T hN hT hP h_Ratio_init
  have h_combine := ok_combine (P := P) (w := w) T hN hT hP h_Ratio_init h_Ratio_add h_Ratio_mul
  have h_Matrix_before := ok_Matrix_before (P := P) (w := w) T hN hT hP h_combine
  have h_Machine_row_after := ok_Machine_row_after (P := P) (w := w) T hN hT hP h_Matrix_before h_Alphabet_index
  have h_dot := ok_dot (P := P) (w := w) T hN hT hP h_Ratio_init h_Ratio_add h_Ratio_mul
  have h_Machine_weight := ok_Machine_weight (P := P) (w := w) T hN hT hP h_dot h_Machine_row_after
  have h_Matrix_times := ok_Matrix_times (P := P) (w := w) T hN hT hP h_dot
  have h_Machine_column_before := ok_Machine_column_before (P := P) (w := w) T hN hT hP h_Matrix_times h_Alphabet_index
  have h_law_refused := ok_law_refused (P := P) (w := w) T hN hT hP h_Machine_weight h_Machine_row_after h_Machine_column_before
  have h_law_bad := ok_law_bad (P := P) (w := w) T hN hT hP h_Matrix_init h_Ratio_init h_Machine_init
  have h_Machine_size := ok_Machine_size (P := P) (w := w) T hN hT hP 
  have h_Machine_call := ok_Machine_call (P := P) (w := w) T hN hT hP h_Machine_weight
  exact ok_law T hN hT hP F h_law_state h_law_letters h_law_plan h_law_machine h_Machine_size h_law_pairs h_law_word h_law_weight_of h_law_pair h_Machine_weight h_Machine_call h_law_take h_Machine_column_before h_Machine_row_after h_law_after h_law_before h_law_dot h_law_refused h_law_bad
end
end LW
namespace LW
open PySem PySem.Spec L2 Pl
open PyProof.Rows hiding St
theorem fin {w : World} {K : PySem.W.Frag} {mg : Str → Option Value} {fa : Addr} {h : Heap} {a_Refused_init a_law_state a_law_take a_law_letters a_law_gcd a_law_frac a_law_item a_law_square a_law_plan a_Ratio_init a_law_ratios a_Matrix_init a_Alphabet_init a_Matrix_len a_Machine_init a_law_machine a_law_pair a_law_pairs a_law_word a_law_mul a_law_add a_law_dot a_law_after a_law_weight_of a_law_before a_Alphabet_index a_Ratio_add a_Ratio_mul a_combine a_Matrix_before a_Machine_row_after a_dot a_Machine_weight a_Matrix_times a_Machine_column_before a_law_refused a_law_bad a_Machine_size a_Machine_call a_law c_Ratio c_Matrix c_Alphabet c_Machine c_Fault c_Malformed c_Refused c_ZeroDivisor t_MOST_LETTERS t_SMALL : Addr} (X : K.In h) (G : h.Ns mainGlobals mg) (hfa : mg "law" = some (.ref fa)) (T : Tx K mg a_Refused_init a_law_state a_law_take a_law_letters a_law_gcd a_law_frac a_law_item a_law_square a_law_plan a_Ratio_init a_law_ratios a_Matrix_init a_Alphabet_init a_Matrix_len a_Machine_init a_law_machine a_law_pair a_law_pairs a_law_word a_law_mul a_law_add a_law_dot a_law_after a_law_weight_of a_law_before a_Alphabet_index a_Ratio_add a_Ratio_mul a_combine a_Matrix_before a_Machine_row_after a_dot a_Machine_weight a_Matrix_times a_Machine_column_before a_law_refused a_law_bad a_Machine_size a_Machine_call a_law c_Ratio c_Matrix c_Alphabet c_Machine c_Fault c_Malformed c_Refused c_ZeroDivisor t_MOST_LETTERS t_SMALL) :
    ∃ (fd : FuncData) (G : Nat → Option CI), (∀ (s : Shared) (u : Value), BindsTo s fd ⟨[u], []⟩ [("script", u)]) ∧ ∀ base : Heap, K.In base → base.Ns mainGlobals mg → base.NoSeer → DOk PySem.Challenge.rw_wordweight_k10_weights_of_machines.prog w K G mg base 49 fa fd ["script"] den_law := by
  have e := hfa.symm.trans T.g_law
  cases e
  obtain ⟨fd, dus, F, _⟩ := T.f_law
  exact ⟨fd, (GG c_Ratio c_Matrix c_Alphabet c_Machine c_ZeroDivisor c_Malformed c_Refused), fun s u => F.bindsA (ps := ["script"]) (fun _ _ _ _ _ _ us hl => match us, hl with | [_], _ => rfl) s [u] rfl, fun base _ _ hN => ok_all (P := PySem.Challenge.rw_wordweight_k10_weights_of_machines.prog) T hN rfl rfl F⟩
end LW
set_option linter.all false
set_option maxRecDepth 100000
set_option maxHeartbeats 4000000
namespace LW
open PySem PySem.Spec L2 Pl
/-- the common divisor with the sign of the denominator -/
def cm (n d : Int) : Int := if 0 < d then (Nat.gcd n.natAbs d.natAbs : Nat) else -(Nat.gcd n.natAbs d.natAbs : Nat)
theorem cm_ne {n d : Int} (h : d ≠ 0) : cm n d ≠ 0 := by
  have : Nat.gcd n.natAbs d.natAbs ≠ 0 := by
    intro e
    have := Nat.eq_zero_of_gcd_eq_zero_right e
    omega
  unfold cm
  split <;> omega
abbrev I (i : Int) : D := .int i
def ra (n d : Int) : D := .obj 0 [.int (n.fdiv (cm n d)), .int (d.fdiv (cm n d))]
theorem init_ok {n d : Int} (h : d ≠ 0) : den_Ratio_init [.bor (.ins 0 []), .val (.int n), .val (.int d)] = some (.ok (.val .non), some (.ins 0 [.int (n.fdiv (cm n d)), .int (d.fdiv (cm n d))])) := by
  refine' den_end rfl rfl ?h ?l
  case h =>
    unfold b_Ratio_init
    refine s_ifq (b_u (u_of (v_bin rfl rfl o_eqI))) (fun hb => absurd (by simpa using hb) h) (fun _ => s_next ?_)
    refine s_seqE (ρ1' := [some (.bor (.ins 0 [])), some (.val (.int n)), some (.val (.int d)), some (.val (.int (cm n d)))]) (s_setV (e_i (v_if (u_of (v_bin rfl rfl o_cmp)) (fun _ => v_bin rfl rfl o_gcd) (fun _ => v_un (v_bin rfl rfl o_gcd) o_neg))) rfl) ?_ ?_
    · unfold cm
      by_cases hd : 0 < d
      · simp [hd]
      · simp [hd]
    · refine s_seq (s_fld (e_i (v_bin (o := dDivP) rfl rfl (o_divP (cm_ne h)))) rfl rfl rfl) ?_
      exact s_fld (e_i (v_bin (o := dDivP) rfl rfl (o_divP (cm_ne h)))) rfl rfl rfl
  case l => rfl
theorem init_no {n : Int} : den_Ratio_init [.bor (.ins 0 []), .val (.int n), .val (.int 0)] = some (.error ⟨100, []⟩, some (.ins 0 [])) := by
  refine' den_err rfl rfl ?h ?l
  case h =>
    unfold b_Ratio_init
    refine s_ifq (b_u (u_of (v_bin rfl rfl o_eqI))) (fun hb => s_seq_err rfl) (fun h => absurd h (by decide))
  case l => rfl
theorem mk_ok {n d : Int} (h : d ≠ 0) {ρ : En} : makeV 0 2 den_Ratio_init [.int n, .int d] ρ = some (.ok (.val (ra n d)), ρ) := m_ok (init_ok h) rfl
/-! ### lowest terms -/
theorem low (n d : Int) (h : d ≠ 0) : ∃ p q, n = cm n d * p ∧ d = cm n d * q ∧ 0 < q ∧ Nat.gcd p.natAbs q.natAbs = 1 ∧ n.fdiv (cm n d) = p ∧ d.fdiv (cm n d) = q := by
  have hc := cm_ne (n := n) h
  have g0 : 0 < Nat.gcd n.natAbs d.natAbs := Nat.gcd_pos_of_pos_right _ (by omega)
  obtain ⟨p0, hp⟩ : ((Nat.gcd n.natAbs d.natAbs : Nat) : Int) ∣ n := Int.ofNat_dvd_left.mpr (Nat.gcd_dvd_left _ _)
  obtain ⟨q0, hq⟩ : ((Nat.gcd n.natAbs d.natAbs : Nat) : Int) ∣ d := Int.ofNat_dvd_left.mpr (Nat.gcd_dvd_right _ _)
  have hg : Nat.gcd p0.natAbs q0.natAbs = 1 := by
    have e1 : n.natAbs = Nat.gcd n.natAbs d.natAbs * p0.natAbs := by
      have := congrArg Int.natAbs hp
      rw [Int.natAbs_mul, Int.natAbs_natCast] at this
      exact this
    have e2 : d.natAbs = Nat.gcd n.natAbs d.natAbs * q0.natAbs := by
      have := congrArg Int.natAbs hq
      rw [Int.natAbs_mul, Int.natAbs_natCast] at this
      exact this
    have e3 : Nat.gcd n.natAbs d.natAbs = Nat.gcd n.natAbs d.natAbs * Nat.gcd p0.natAbs q0.natAbs := by
      rw [← Nat.gcd_mul_left, ← e1, ← e2]
    exact Nat.eq_of_mul_eq_mul_left g0 (by rw [Nat.mul_one]; exact e3.symm)
  generalize hG : Nat.gcd n.natAbs d.natAbs = g at *
  have key : ∀ p q : Int, n = cm n d * p → d = cm n d * q → 0 < q → Nat.gcd p.natAbs q.natAbs = 1 → ∃ p q, n = cm n d * p ∧ d = cm n d * q ∧ 0 < q ∧ Nat.gcd p.natAbs q.natAbs = 1 ∧ n.fdiv (cm n d) = p ∧ d.fdiv (cm n d) = q := fun p q h1 h2 h3 h4 => by
    refine ⟨p, q, h1, h2, h3, h4, ?_, ?_⟩
    · generalize cm n d = c at *
      rw [h1]; exact Int.mul_fdiv_cancel_left p hc
    · generalize cm n d = c at *
      rw [h2]; exact Int.mul_fdiv_cancel_left q hc
  by_cases hd : 0 < d
  · have ec : cm n d = (g : Int) := by unfold cm; rw [if_pos hd, hG]
    refine key p0 q0 (by rw [ec]; exact hp) (by rw [ec]; exact hq) ?_ hg
    rw [hq] at hd
    exact Int.pos_of_mul_pos_right hd (by omega)
  · have ec : cm n d = -(g : Int) := by unfold cm; rw [if_neg hd, hG]
    refine key (-p0) (-q0) (by rw [ec, Int.neg_mul_neg]; exact hp) (by rw [ec, Int.neg_mul_neg]; exact hq) ?_ (by rw [Int.natAbs_neg, Int.natAbs_neg]; exact hg)
    have hd' : d < 0 := by omega
    rw [hq] at hd'
    have : (g : Int) * -q0 > 0 := by rw [Int.mul_neg]; omega
    exact Int.pos_of_mul_pos_right this (by omega)
/-- two fractions in lowest terms -/
theorem low_eq {p q p' q' : Int} (h : p * q' = p' * q) (hq : 0 < q) (hq' : 0 < q') (c : Nat.gcd p.natAbs q.natAbs = 1) (c' : Nat.gcd p'.natAbs q'.natAbs = 1) : p = p' ∧ q = q' := by
  have e : p.natAbs * q'.natAbs = p'.natAbs * q.natAbs := by rw [← Int.natAbs_mul, ← Int.natAbs_mul, h]
  have d1 : q.natAbs ∣ q'.natAbs := by
    refine Nat.Coprime.dvd_of_dvd_mul_left (Nat.Coprime.symm c) ?_
    rw [e]; exact Nat.dvd_mul_left _ _
  have d2 : q'.natAbs ∣ q.natAbs := by
    refine Nat.Coprime.dvd_of_dvd_mul_left (Nat.Coprime.symm c') ?_
    rw [← e]; exact Nat.dvd_mul_left _ _
  have eq : q = q' := by have := Nat.dvd_antisymm d1 d2; omega
  subst eq
  exact ⟨Int.eq_of_mul_eq_mul_right (by omega) h, rfl⟩
theorem ra_same {n d n' d' : Int} (h : d ≠ 0) (h' : d' ≠ 0) (e : n * d' = n' * d) : n.fdiv (cm n d) = n'.fdiv (cm n' d') ∧ d.fdiv (cm n d) = d'.fdiv (cm n' d') := by
  have hc := cm_ne (n := n) h
  have hc' := cm_ne (n := n') h'
  obtain ⟨p, q, h1, h2, h3, h4, h5, h6⟩ := low n d h
  obtain ⟨p', q', h1', h2', h3', h4', h5', h6'⟩ := low n' d' h'
  rw [h5, h6, h5', h6']
  generalize cm n d = c at *
  generalize cm n' d' = c' at *
  refine low_eq ?_ h3 h3' h4 h4'
  have : (c * c') * (p * q') = (c * c') * (p' * q) := by
    have e' := e
    rw [h1, h2, h1', h2'] at e'
    grind
  exact Int.eq_of_mul_eq_mul_left (Int.mul_ne_zero hc hc') this
theorem ra_cross {n d n' d' : Int} (h : d ≠ 0) (h' : d' ≠ 0) (e1 : n.fdiv (cm n d) = n'.fdiv (cm n' d')) (e2 : d.fdiv (cm n d) = d'.fdiv (cm n' d')) : n * d' = n' * d := by
  obtain ⟨p, q, h1, h2, h3, h4, h5, h6⟩ := low n d h
  obtain ⟨p', q', h1', h2', h3', h4', h5', h6'⟩ := low n' d' h'
  rw [h5, h5'] at e1
  rw [h6, h6'] at e2
  subst e1 e2
  generalize cm n d = c at *
  generalize cm n' d' = c' at *
  rw [h1, h2, h1', h2']
  grind

theorem mk1 {n : Int} {ρ : En} : makeV 0 2 den_Ratio_init [.int n, .int 1] ρ = some (.ok (.val (.obj 0 [.int n, .int 1])), ρ) := by
  have e : cm n 1 = 1 := by unfold cm; simp
  have := mk_ok (n := n) (d := 1) (by decide) (ρ := ρ)
  unfold ra at this
  rw [e] at this
  simpa using this
theorem sm_div {K : Nat} {n c p : Int} (h : n = c * p) (hc : c ≠ 0) (hn : Sm K n) : Sm K p := by
  unfold Sm at *
  have : n.natAbs = c.natAbs * p.natAbs := by rw [h, Int.natAbs_mul]
  have h2 : 1 * p.natAbs ≤ c.natAbs * p.natAbs := Nat.mul_le_mul_right _ (by omega)
  omega

/-! ### numbers in lowest terms -/
abbrev T2 (p q : Int) : D := .tup [.int p, .int q]
abbrev Ob (p q : Int) : D := .obj 0 [.int p, .int q]
def nu (n d : Int) : Int := n.fdiv (cm n d)
def de (n d : Int) : Int := d.fdiv (cm n d)
structure Lo (p q : Int) : Prop where
  pos : 0 < q
  cop : Nat.gcd p.natAbs q.natAbs = 1
theorem Lo.ne {p q : Int} (h : Lo p q) : q ≠ 0 := Int.ne_of_gt h.pos
theorem lo (n d : Int) (h : d ≠ 0) : Lo (nu n d) (de n d) ∧ nu n d * d = n * de n d := by
  obtain ⟨p, q, h1, h2, h3, h4, h5, h6⟩ := low n d h
  unfold nu de
  rw [h5, h6]
  refine ⟨⟨h3, h4⟩, ?_⟩
  generalize cm n d = c at *
  rw [h1, h2]; grind
theorem lo_uniq {p q p' q' : Int} (h : Lo p q) (h' : Lo p' q') (e : p * q' = p' * q) : p = p' ∧ q = q' := low_eq e h.pos h'.pos h.cop h'.cop
theorem lo_is {p q : Int} (h : Lo p q) : nu p q = p ∧ de p q = q := by
  obtain ⟨l, e⟩ := lo p q h.ne
  exact lo_uniq l h e
theorem nu_sm {K : Nat} {n d : Int} (h : d ≠ 0) (hn : Sm K n) : Sm K (nu n d) := by
  obtain ⟨p, q, h1, h2, h3, h4, h5, h6⟩ := low n d h
  unfold nu; rw [h5]; exact sm_div h1 (cm_ne h) hn
theorem de_sm {K : Nat} {n d : Int} (h : d ≠ 0) (hd : Sm K d) : Sm K (de n d) := by
  obtain ⟨p, q, h1, h2, h3, h4, h5, h6⟩ := low n d h
  unfold de; rw [h6]; exact sm_div h2 (cm_ne h) hd
theorem mkR {n d : Int} (h : d ≠ 0) {ρ : En} : makeV 0 2 den_Ratio_init [.int n, .int d] ρ = some (.ok (.val (Ob (nu n d) (de n d))), ρ) := mk_ok h
theorem mkR0 {n : Int} {ρ : En} : makeV 0 2 den_Ratio_init [.int n, .int 0] ρ = some (.error ⟨100, []⟩, ρ) := m_er init_no
theorem lo_one (n : Int) : Lo n 1 := ⟨by decide, Nat.gcd_one_right _⟩
theorem mkI {n : Int} {ρ : En} : makeV 0 2 den_Ratio_init [.int n, .int 1] ρ = some (.ok (.val (Ob n 1)), ρ) := mk1

/-! ### the core's rationals -/
abbrev Rq (q : Rat) : D := .obj 0 [.int q.num, .int (q.den : Int)]
abbrev Tq (q : Rat) : D := .tup [.int q.num, .int (q.den : Int)]
theorem rat_lo (q : Rat) : Lo q.num (q.den : Int) := ⟨by have := q.den_nz; omega, by rw [Int.natAbs_natCast]; exact q.reduced⟩
theorem den_ne (q : Rat) : (q.den : Int) ≠ 0 := by have := q.den_nz; omega
theorem den_pos (q : Rat) : 0 < (q.den : Int) := by have := q.den_nz; omega
theorem nude {n d : Int} (h : d ≠ 0) : nu n d = (Rat.divInt n d).num ∧ de n d = ((Rat.divInt n d).den : Int) := by
  obtain ⟨l, e⟩ := lo n d h
  have l' := rat_lo (Rat.divInt n d)
  have e' : (Rat.divInt n d).num * d = n * ((Rat.divInt n d).den : Int) := (Rat.divInt_eq_divInt_iff (den_ne _) h).mp (Rat.num_divInt_den _)
  refine lo_uniq l l' (Int.eq_of_mul_eq_mul_right h ?_)
  calc nu n d * (Rat.divInt n d).den * d = (nu n d * d) * (Rat.divInt n d).den := by grind
    _ = de n d * (n * (Rat.divInt n d).den) := by rw [e]; grind
    _ = (Rat.divInt n d).num * de n d * d := by rw [← e']; grind
theorem mkQ {n d : Int} (h : d ≠ 0) {ρ : En} : makeV 0 2 den_Ratio_init [.int n, .int d] ρ = some (.ok (.val (Rq (Rat.divInt n d))), ρ) := by
  have := mkR (n := n) h (ρ := ρ)
  rwa [(nude h).1, (nude h).2] at this
theorem divInt_one (n : Int) : Rat.divInt n 1 = (n : Rat) := by have := Rat.num_divInt_den (n : Rat); rwa [Rat.num_intCast, Rat.den_intCast] at this
theorem q_add (a b : Rat) : Rat.divInt (a.num * b.den + b.num * a.den) (a.den * b.den) = a + b := by
  have := Rat.divInt_add_divInt a.num b.num (den_ne a) (den_ne b)
  rw [Rat.num_divInt_den, Rat.num_divInt_den] at this
  exact this.symm
theorem q_sub (a b : Rat) : Rat.divInt (a.num * b.den - b.num * a.den) (a.den * b.den) = a - b := by
  have := q_add a (-b)
  rw [Rat.neg_num, Rat.neg_den, Int.neg_mul, ← Int.sub_eq_add_neg] at this
  rw [this]; grind
theorem q_mul (a b : Rat) : Rat.divInt (a.num * b.num) (a.den * b.den) = a * b := by
  have := Rat.divInt_mul_divInt a.num b.num (d₁ := a.den) (d₂ := b.den)
  rw [Rat.num_divInt_den, Rat.num_divInt_den] at this
  exact this.symm
theorem q_eq {a b : Rat} (h : a.num = b.num) (h2 : (a.den : Int) = b.den) : a = b := Rat.ext h (by omega)
/-- numerator and denominator of less than K bits -/
structure Sq (K : Nat) (q : Rat) : Prop where
  n : Sm K q.num
  d : Sm K (q.den : Int)
theorem Sq.mono {j k : Nat} {q : Rat} (h : Sq j q) (hk : j ≤ k) : Sq k q := ⟨h.n.mono hk, h.d.mono hk⟩
theorem sq_div {K : Nat} {n d : Int} (h : d ≠ 0) (hn : Sm K n) (hd : Sm K d) : Sq K (Rat.divInt n d) := by
  have h1 := nu_sm h hn
  have h2 := de_sm (n := n) h hd
  rw [(nude h).1] at h1
  rw [(nude h).2] at h2
  exact ⟨h1, h2⟩
theorem Sq.add {j k : Nat} {a b : Rat} (h : Sq j a) (h' : Sq k b) : Sq (j + k + 1) (a + b) := by
  rw [← q_add]
  exact sq_div (Int.mul_ne_zero (den_ne a) (den_ne b)) ((h.n.mul h'.d).add ((h'.n.mul h.d).mono (by omega))) ((h.d.mul h'.d).mono (by omega))
theorem Sq.sub {j k : Nat} {a b : Rat} (h : Sq j a) (h' : Sq k b) : Sq (j + k + 1) (a - b) := by
  rw [← q_sub]
  exact sq_div (Int.mul_ne_zero (den_ne a) (den_ne b)) ((h.n.mul h'.d).sub ((h'.n.mul h.d).mono (by omega))) ((h.d.mul h'.d).mono (by omega))
theorem Sq.mul {j k : Nat} {a b : Rat} (h : Sq j a) (h' : Sq k b) : Sq (j + k) (a * b) := by
  rw [← q_mul]
  exact sq_div (Int.mul_ne_zero (den_ne a) (den_ne b)) (h.n.mul h'.n) (h.d.mul h'.d)
theorem sq_zero : Sq 1 0 := ⟨by show (0 : Nat) < 2 ^ 1; decide, by show (1 : Nat) < 2 ^ 1; decide⟩
theorem sq_one : Sq 1 1 := ⟨by show (1 : Nat) < 2 ^ 1; decide, by show (1 : Nat) < 2 ^ 1; decide⟩
theorem num_ne {a : Rat} (h : a ≠ 0) : a.num ≠ 0 := fun z => h (Rat.num_eq_zero.mp z)

theorem qadd_ok {K : Nat} {a b : Rat} (hK : K ≤ 10000000) (ha : Sq K a) (hb : Sq K b) : den_Ratio_add [.val (Rq a), .val (Rq b)] = some (.ok (.val (Rq (a + b))), none) := by
  refine den_rt rfl rfl (fun _ => rfl) ?_
  unfold b_Ratio_add
  exact Rt.ret (e_make (a_cons (e_i (v_bin (v_bin (v_un rfl rfl) (v_un rfl rfl) (o_mul (ha.n.okm hb.d (by omega)))) (v_bin (v_un rfl rfl) (v_un rfl rfl) (o_mul (hb.n.okm ha.d (by omega)))) o_add)) rfl (a_cons (e_i (v_bin (v_un rfl rfl) (v_un rfl rfl) (o_mul (ha.d.okm hb.d (by omega))))) rfl a_nil)) rfl (mkQ (Int.mul_ne_zero (den_ne a) (den_ne b)))) (by rw [q_add])
theorem qmul_ok {K : Nat} {a b : Rat} (hK : K ≤ 10000000) (ha : Sq K a) (hb : Sq K b) : den_Ratio_mul [.val (Rq a), .val (Rq b)] = some (.ok (.val (Rq (a * b))), none) := by
  refine den_rt rfl rfl (fun _ => rfl) ?_
  unfold b_Ratio_mul
  exact Rt.ret (e_make (a_cons (e_i (v_bin (v_un rfl rfl) (v_un rfl rfl) (o_mul (ha.n.okm hb.n (by omega))))) rfl (a_cons (e_i (v_bin (v_un rfl rfl) (v_un rfl rfl) (o_mul (ha.d.okm hb.d (by omega))))) rfl a_nil)) rfl (mkQ (Int.mul_ne_zero (den_ne a) (den_ne b)))) (by rw [q_mul])
theorem mkq0 {ρ : En} : makeV 0 2 den_Ratio_init [.int 0, .int 1] ρ = some (.ok (.val (Rq 0)), ρ) := mk1
theorem mkq1 {ρ : En} : makeV 0 2 den_Ratio_init [.int 1, .int 1] ρ = some (.ok (.val (Rq 1)), ρ) := mk1
theorem mkqI {n : Int} {ρ : En} : makeV 0 2 den_Ratio_init [.int n, .int 1] ρ = some (.ok (.val (Rq n)), ρ) := by
  have := mkQ (n := n) (d := 1) (by decide) (ρ := ρ)
  rwa [divInt_one] at this

/-! ### rows and matrices -/
abbrev Rg {α : Type} (n : Nat) (f : Nat → α) : List α := (List.range n).map f
abbrev RowQ (w : Nat) (r : Nat → Rat) : D := .tup (Rg w fun j => Rq (r j))
abbrev RowT (w : Nat) (r : Nat → Rat) : D := .tup (Rg w fun j => Tq (r j))
abbrev MQ (h w : Nat) (f : Nat → Nat → Rat) : D := .obj 1 [.tup (Rg h fun i => RowQ w (f i)), .int (w : Int)]
abbrev MT (h w : Nat) (f : Nat → Nat → Rat) : D := .tup (Rg h fun i => RowT w (f i))
def sumN : Nat → (Nat → Rat) → Rat
  | 0, _ => 0
  | n + 1, f => sumN n f + f n
theorem sumN_sq {K : Nat} {f : Nat → Rat} (h : ∀ i, Sq K (f i)) : ∀ n, Sq (n * (K + 1) + 1) (sumN n f)
  | 0 => sq_zero.mono (by omega)
  | n + 1 => ((sumN_sq h n).add (h n)).mono (by rw [Nat.succ_mul]; omega)
theorem rg_get {α : Type} {n i : Nat} {f : Nat → α} (h : i < n) : (Rg n f)[i]? = some (f i) := by rw [List.getElem?_map, List.getElem?_range h]; rfl
theorem rg_len {α : Type} {n : Nat} {f : Nat → α} : (Rg n f).length = n := by rw [List.length_map, List.length_range]
theorem rg_zip {n : Nat} {f g : Nat → D} : dZip (Rg n f) (Rg n g) = Rg n fun i => .tup [f i, g i] := by
  unfold dZip
  refine List.ext_getElem? fun i => ?_
  rw [List.getElem?_map]
  by_cases h : i < n
  · rw [show ((Rg n f).zip (Rg n g))[i]? = some (f i, g i) from List.getElem?_zip_eq_some.mpr ⟨rg_get h, rg_get h⟩, rg_get h]; rfl
  · rw [List.getElem?_eq_none (by rw [List.length_zip, rg_len, rg_len]; omega), List.getElem?_eq_none (by rw [rg_len]; omega)]; rfl
theorem rg_map {α β : Type} {n : Nat} {f : Nat → α} {g : α → β} : (Rg n f).map g = Rg n fun i => g (f i) := by rw [List.map_map]; rfl
theorem rg_eq {α : Type} {n : Nat} {f g : Nat → α} (h : ∀ i, i < n → f i = g i) : Rg n f = Rg n g := List.map_congr_left fun i hi => h i (List.mem_range.mp hi)
theorem rg_sz {n : Nat} (h : n ≤ 1000) : (List.range n).length ≤ sizeLine := by rw [List.length_range]; exact Nat.le_trans h (by decide)
theorem mem_rg {n i : Nat} (h : i ∈ List.range n) : i < n := List.mem_range.mp h
theorem rg_succ {α : Type} {n : Nat} {f : Nat → α} : Rg (n + 1) f = Rg n f ++ [f n] := by
  show (List.range (n + 1)).map f = _
  rw [List.range_succ, List.map_append]; rfl
theorem rg_set {α : Type} {n k : Nat} {f : Nat → α} {x : α} : (Rg n f).set k x = Rg n fun i => if i = k then x else f i := by
  refine List.ext_getElem? fun i => ?_
  by_cases h : i < n
  · rw [rg_get h, List.getElem?_set]
    by_cases e : k = i
    · subst e; rw [if_pos rfl, if_pos (by rw [rg_len]; exact h), if_pos rfl]
    · rw [if_neg e, rg_get h, if_neg (fun z => e z.symm)]
  · rw [List.getElem?_eq_none (by rw [List.length_set, rg_len]; omega), List.getElem?_eq_none (by rw [rg_len]; omega)]
theorem ixN_nat {n j : Nat} {k : Int} (h : j < n) (e : k = (j : Int)) : ixN n k = some j := by
  subst e; unfold ixN; simp [h]
theorem mq_congr {h w : Nat} {f g : Nat → Nat → Rat} (e : ∀ i j, i < h → j < w → f i j = g i j) : MQ h w f = MQ h w g := by
  have : (Rg h fun i => RowQ w (f i)) = Rg h fun i => RowQ w (g i) := rg_eq fun i hi => by
    have : (Rg w fun j => Rq (f i j)) = Rg w fun j => Rq (g i j) := rg_eq fun j hj => by rw [e i j hi hj]
    show D.tup _ = D.tup _
    rw [this]
  show D.obj 1 _ = D.obj 1 _
  rw [this]
theorem sumN_congr {n : Nat} {f g : Nat → Rat} (e : ∀ i, i < n → f i = g i) : sumN n f = sumN n g := by
  induction n with
  | zero => rfl
  | succ n ih => show sumN n f + f n = sumN n g + g n; rw [ih fun i hi => e i (by omega), e n (by omega)]
theorem sumN_add {n : Nat} {f g : Nat → Rat} : sumN n (fun i => f i + g i) = sumN n f + sumN n g := by
  induction n with
  | zero => exact (Rat.add_zero 0).symm
  | succ n ih => show sumN n _ + (f n + g n) = (sumN n f + f n) + (sumN n g + g n); rw [ih]; grind
theorem sumN_zero {n : Nat} : sumN n (fun _ => 0) = 0 := by
  induction n with
  | zero => rfl
  | succ n ih => show sumN n _ + 0 = 0; rw [ih]; exact Rat.add_zero 0
theorem sumN_one {n k : Nat} {f : Nat → Rat} (h : k < n) : sumN n (fun i => if i = k then f i else 0) = f k := by
  induction n with
  | zero => omega
  | succ n ih =>
    show sumN n _ + (if n = k then f n else 0) = _
    by_cases e : n = k
    · subst e
      rw [if_pos rfl, sumN_congr (g := fun _ => 0) fun i hi => if_neg (by omega), sumN_zero, Rat.zero_add]
    · rw [if_neg e, ih (by omega), Rat.add_zero]
theorem plainM {h w : Nat} {f : Nat → Nat → Rat} : plainD 3 (.lst (Rg h fun i => RowT w (f i))) = true := by simp [plainD]
theorem plainR {w : Nat} {f : Nat → Rat} : plainD 3 (RowT w f) = true := by simp [plainD]
theorem rt_congr {w : Nat} {f g : Nat → Rat} (e : ∀ j, j < w → f j = g j) : RowT w f = RowT w g := by
  have : (Rg w fun j => Tq (f j)) = Rg w fun j => Tq (g j) := rg_eq fun j hj => by rw [e j hj]
  show D.tup _ = D.tup _
  rw [this]

/-! ### the program's matrices -/
theorem combine_ok {K k w : Nat} {f : Nat → Nat → Rat} {g : Nat → Rat} (hK : k * (2 * K + 1) + 2 * K + 2 ≤ 10000000) (hf : ∀ i j, Sq K (f i j)) (hg : ∀ i, Sq K (g i)) (hk : k ≤ 1000) (hw : w ≤ 1000) :
    den_combine [.val (.tup (Rg k fun i => RowQ w (f i))), .val (.int (w : Int)), .val (RowQ k g)] = some (.ok (.val (RowQ w fun j => sumN k fun i => g i * f i j)), none) := by
  have hs : ∀ n j, n ≤ k → Sq 10000000 (sumN n fun i => g i * f i j) := fun n j hn => (sumN_sq (fun i => (hg i).mul (hf i j)) n).mono (by
    have : n * (K + K + 1) ≤ k * (K + K + 1) := Nat.mul_le_mul_right _ hn
    have e : k * (2 * K + 1) = k * (K + K + 1) := by rw [Nat.two_mul]
    omega)
  let A : En := [some (.val (.tup (Rg k fun i => RowQ w (f i)))), some (.val (.int (w : Int))), some (.val (RowQ k g))]
  obtain ⟨ρ', h1, o5, o6, rfl⟩ := loop_inv (g := gTup [gName 5, gName 6]) (body := w_combine_0)
    (fun n ρ => ∃ o5 o6, ρ = A ++ [some (.val (.lst (Rg w fun j => Rq (sumN n fun i => g i * f i j)))), none, o5, o6, none, none])
    (Rg k fun i => .tup [RowQ w (f i), Rq (g i)]) 0 (A ++ [some (.val (.lst (Rg w fun j => Rq 0))), none, none, none, none, none]) ⟨none, none, rfl⟩ (by
      rintro n d ρ hn ⟨o5, o6, rfl⟩
      have hn' : n < k := by
        have := (List.getElem?_eq_some_iff.mp hn).1
        rwa [rg_len] at this
      rw [rg_get hn'] at hn
      cases hn
      rw [Nat.zero_add]
      refine ⟨_, A ++ [some (.val (.lst (Rg w fun j => Rq (sumN (n + 1) fun i => g i * f i j)))), none, some (.val (RowQ w (f n))), some (.val (Rq (g n))), none, none], rfl, ?_, _, _, rfl⟩
      unfold w_combine_0
      refine s_if (b_u (u_of (v_bin (v_un rfl rfl) rfl o_eqI))) (fun h => ?_) (fun h => ?_)
      · refine s_setVE (e_lc (xs := List.range w) (φ := fun j => Rq (sumN (n + 1) fun i => g i * f i j)) (i_zipM (b1 := true) (b2 := false) (e_i rfl) rfl (e_i rfl) rfl) rg_zip (rg_sz hw) rfl fun j hj => ?_) rfl rfl
        refine ⟨_, _, rfl, e_own2 (e_i rfl) (e_own2 (e_i rfl) (e_i rfl) (qmul_ok (K := K) (by omega) (hg n) (hf n j))) (qadd_ok (K := 10000000) (by omega) (hs n j (by omega)) (((hg n).mul (hf n j)).mono (by omega))), rfl, rfl⟩
      · have h0 : g n = 0 := by
          have : (g n).num = 0 := by simpa using h
          exact Rat.num_eq_zero.mp this
        have e : (fun j => Rq (sumN (n + 1) fun i => g i * f i j)) = fun j => Rq (sumN n fun i => g i * f i j) := by
          funext j
          show Rq (sumN n (fun i => g i * f i j) + g n * f n j) = _
          rw [h0, Rat.zero_mul, Rat.add_zero]
        rw [e]; rfl)
  refine den_rt rfl rfl (fun _ => rfl) ?_
  unfold b_combine
  refine' Rt.seq (s_setV (e_lc (xs := List.range w) (φ := fun j => Rq 0) (i_rng (n := w) rfl (by omega)) rfl (rg_sz hw) rfl fun j hj => ⟨_, _, rfl, e_makeD (a_cons (e_i rfl) rfl a_nil) rfl mkq0, rfl, rfl⟩) rfl) ?_
  refine' Rt.seq (s_for (i_zipM (b1 := false) (b2 := false) (e_i rfl) rfl (e_i rfl) rfl) (by rw [rg_zip]; exact h1)) ?_
  rw [Nat.zero_add, rg_len]
  exact Rt.ret (e_f (e_i rfl) rfl rfl) rfl
theorem minit_ok {h w : Nat} {b : Bool} {f : Nat → Nat → Rat} (hh : h ≤ 1000) : den_Matrix_init [.bor (.ins 1 []), .val (.lst (Rg h fun i => if b = true then .lst (Rg w fun j => Rq (f i j)) else RowQ w (f i))), .val (.int (w : Int))] = some (.ok (.val .non), some (.ins 1 [.tup (Rg h fun i => RowQ w (f i)), .int (w : Int)])) := by
  refine' den_end rfl rfl ?h ?l
  case h =>
    unfold b_Matrix_init
    refine s_seq (s_fld (d := .tup (Rg h fun i => RowQ w (f i))) (e_f (e_lc (xs := List.range h) (φ := fun i => RowQ w (f i)) (i_alt1 rfl) rfl (rg_sz hh) rfl fun i hi => ?_) rfl rfl) rfl rfl rfl) ?_
    · refine ⟨_, .val (RowQ w (f i)), rfl, e_f (e_i rfl) rfl ?_, rfl, rfl⟩
      cases b <;> rfl
    · exact s_fld (e_i rfl) rfl rfl rfl
  case l => rfl
theorem mkM1 {h w : Nat} {f : Nat → Nat → Rat} (hh : h ≤ 1000) {ρ : En} : makeV 1 2 den_Matrix_init [.lst (Rg h fun i => .lst (Rg w fun j => Rq (f i j))), .int (w : Int)] ρ = some (.ok (.val (MQ h w f)), ρ) := m_ok (minit_ok (b := true) hh) rfl
theorem mkM2 {h w : Nat} {f : Nat → Nat → Rat} (hh : h ≤ 1000) {ρ : En} : makeV 1 2 den_Matrix_init [.lst (Rg h fun i => RowQ w (f i)), .int (w : Int)] ρ = some (.ok (.val (MQ h w f)), ρ) := m_ok (minit_ok (b := false) hh) rfl
section
variable {K h w k : Nat} {f g : Nat → Nat → Rat}
theorem mlen_ok : den_Matrix_len [.val (MQ h w f)] = some (.ok (.val (.int (h : Int))), none) := by
  refine den_rt rfl rfl (fun _ => rfl) ?_
  unfold b_Matrix_len
  exact Rt.ret (e_i (v_un (v_un rfl rfl) rfl)) (by simp)
theorem mbefore_ok {g : Nat → Rat} (hK : k * (2 * K + 1) + 2 * K + 2 ≤ 10000000) (hf : ∀ i j, Sq K (f i j)) (hg : ∀ i, Sq K (g i)) (hk : k ≤ 1000) (hw : w ≤ 1000) : den_Matrix_before [.val (MQ k w f), .val (RowQ k g)] = some (.ok (.val (RowQ w fun j => sumN k fun i => g i * f i j)), none) := by
  refine den_rt rfl rfl (fun _ => rfl) ?_
  unfold b_Matrix_before
  exact Rt.ret (e_call (a_cons (e_i (v_un rfl rfl)) rfl (a_cons (e_i (v_un rfl rfl)) rfl (a_cons (e_i rfl) rfl a_nil))) rfl (combine_ok hK hf hg hk hw)) rfl
end
section
variable {K h w k : Nat} {f g : Nat → Nat → Rat}
end
section
variable {K h w k : Nat} {f g : Nat → Nat → Rat}
end

/-! ### the program's dot -/
theorem dot_ok {K n : Nat} {f g : Nat → Rat} (hK : n * (2 * K + 1) + 2 * K + 2 ≤ 10000000) (hf : ∀ i, Sq K (f i)) (hg : ∀ i, Sq K (g i)) : den_dot [.val (RowQ n f), .val (RowQ n g)] = some (.ok (.val (Rq (sumN n fun i => f i * g i))), none) := by
  have hs : ∀ m, m ≤ n → Sq 10000000 (sumN m fun i => f i * g i) := fun m hm => (sumN_sq (fun i => (hf i).mul (hg i)) m).mono (by
    have : m * (K + K + 1) ≤ n * (K + K + 1) := Nat.mul_le_mul_right _ hm
    have e : n * (2 * K + 1) = n * (K + K + 1) := by rw [Nat.two_mul]
    omega)
  obtain ⟨ρ', q, o3, o4, rfl⟩ := loop_inv (g := gTup [gName 3, gName 4]) (body := w_dot_0)
    (fun m ρ => ∃ o3 o4, ρ = [some (.val (RowQ n f)), some (.val (RowQ n g)), some (.val (Rq (sumN m fun i => f i * g i))), o3, o4])
    (Rg n fun i => .tup [Rq (f i), Rq (g i)]) 0 [some (.val (RowQ n f)), some (.val (RowQ n g)), some (.val (Rq 0)), none, none] ⟨_, _, rfl⟩ (by
      rintro m d ρ hm ⟨o3, o4, rfl⟩
      have hm' : m < n := by
        have := (List.getElem?_eq_some_iff.mp hm).1
        rwa [rg_len] at this
      rw [rg_get hm'] at hm
      cases hm
      rw [Nat.zero_add]
      refine ⟨_, [some (.val (RowQ n f)), some (.val (RowQ n g)), some (.val (Rq (sumN (m + 1) fun i => f i * g i))), some (.val (Rq (f m))), some (.val (Rq (g m)))], rfl, ?_, _, _, rfl⟩
      unfold w_dot_0
      refine s_if (b_u (u_and (u_of (v_bin (v_un rfl rfl) rfl o_eqI)) fun _ => u_of (v_bin (v_un rfl rfl) rfl o_eqI))) (fun z => ?_) (fun z => ?_)
      · exact s_setVE (e_own2 (e_i rfl) (e_own2 (e_i rfl) (e_i rfl) (qmul_ok (K := K) (by omega) (hf m) (hg m))) (qadd_ok (K := 10000000) (by omega) (hs m (by omega)) (((hf m).mul (hg m)).mono (by omega)))) rfl rfl
      · have z0 : f m * g m = 0 := by
          by_cases a : f m = 0
          · rw [a, Rat.zero_mul]
          · by_cases b : g m = 0
            · rw [b, Rat.mul_zero]
            · rw [decide_eq_false (num_ne a), decide_eq_false (num_ne b)] at z; cases z
        have e : sumN (m + 1) (fun i => f i * g i) = sumN m fun i => f i * g i := by
          show sumN m _ + f m * g m = _
          rw [z0, Rat.add_zero]
        rw [e]; rfl)
  rw [rg_len, Nat.zero_add] at q
  refine den_rt rfl rfl (fun _ => rfl) ?_
  unfold b_dot
  refine' Rt.seq (s_setV (e_makeD (a_cons (e_i rfl) rfl a_nil) rfl mkq0) rfl) ?_
  refine' Rt.seq (s_for (i_zipM (b1 := false) (b2 := false) (e_i rfl) rfl (e_i rfl) rfl) (by rw [rg_zip]; exact q)) ?_
  exact Rt.ret (e_i rfl) rfl

/-! ### machines over any letters: a matrix for each sign -/
abbrev AW (l : List Nat) : D := .obj 2 [.str (sW l)]
abbrev MG (l : List Nat) (n : Nat) (r : Nat → Rat) (m : Nat → Nat → Nat → Rat) (c : Nat → Rat) : D := .obj 3 [AW l, RowQ n r, .tup (l.map fun a => MQ n n (m a)), RowQ n c]
def sqD (b : Bool) (ds : List D) : D := if b = true then .lst ds else .tup ds
theorem sqD_tup {b : Bool} {ds : List D} : dTupOf (sqD b ds) = some (.val (.tup ds)) := by cases b <;> rfl
theorem tup_len {ds : List D} {k : Nat} (h : ds.length = k) : dLen (.tup ds) = some (.int (k : Int)) := by
  show some (D.int (ds.length : Int)) = _
  rw [h]
theorem rq_len {n : Nat} {r : Nat → Rat} : dLen (RowQ n r) = some (.int (n : Int)) := tup_len rg_len
theorem loop_same {g : Tg} {body : M Fl} {B : List D} {ρ : En} (P : En → Prop) (h0 : P ρ) (h : ∀ d ∈ B, ∀ ρ, P ρ → ∃ ρ1 ρ2, g d ρ = some ρ1 ∧ body ρ1 = some (.ok .next, ρ2) ∧ P ρ2) : ∃ ρ', loop g body B ρ = some (.ok .next, ρ') ∧ P ρ' := by
  obtain ⟨ρ', q, hp⟩ := loop_inv (fun _ ρ => P ρ) B 0 ρ h0 fun j d ρ hj hp => h d (List.mem_of_getElem? hj) ρ hp
  exact ⟨ρ', q, hp⟩
theorem machG_ok {l : List Nat} {b1 b2 b3 : Bool} {n : Nat} {r c : Nat → Rat} {m : Nat → Nat → Nat → Rat} (hl : l.length ≤ 1000) (hn : n ≤ 1000) {ρ : En} :
    makeV 3 4 den_Machine_init [AW l, sqD b1 (Rg n fun i => Rq (r i)), sqD b2 (l.map fun a => MQ n n (m a)), sqD b3 (Rg n fun i => Rq (c i))] ρ = some (.ok (.val (MG l n r m c)), ρ) := by
  let S : D := .obj 3 [AW l, RowQ n r, .tup (l.map fun a => MQ n n (m a)), RowQ n c]
  let o : OD := .ins 3 [AW l, RowQ n r, .tup (l.map fun a => MQ n n (m a)), RowQ n c]
  let A1 : Option PV := some (.val (AW l))
  let A2 : Option PV := some (.val (sqD b1 (Rg n fun i => Rq (r i))))
  let A3 : Option PV := some (.val (sqD b2 (l.map fun a => MQ n n (m a))))
  let A4 : Option PV := some (.val (sqD b3 (Rg n fun i => Rq (c i))))
  obtain ⟨ρ', q, o5, rfl⟩ := loop_same (g := gName 5) (body := w_Machine_init_0) (B := l.map fun a => MQ n n (m a)) (ρ := [some (.bor o), A1, A2, A3, A4, none]) (fun ρ => ∃ o5, ρ = [some (.bor o), A1, A2, A3, A4, o5]) ⟨_, rfl⟩ (by
    rintro d hd ρ ⟨o5, rfl⟩
    obtain ⟨a, ha, rfl⟩ := List.mem_map.mp hd
    refine ⟨_, [some (.bor o), A1, A2, A3, A4, some (.val (MQ n n (m a)))], rfl, ?_, _, rfl⟩
    unfold w_Machine_init_0
    refine s_if (b_or (b_val (e_bin (e_lenO (e_i rfl) mlen_ok (by omega) (by omega)) rfl (e_i (v_un (v_un rfl rfl) rq_len)) rfl o_eqI)) fun _ => b_u (u_of (v_bin (v_un rfl rfl) (v_un (v_un rfl rfl) rq_len) o_eqI))) (fun q => ?_) (fun _ => rfl)
    exfalso
    rw [decide_eq_true rfl] at q
    cases q)
  refine m_ok (cs := [AW l, RowQ n r, .tup (l.map fun a => MQ n n (m a)), RowQ n c]) ?_ rfl
  refine' den_end (ρ' := [some (.bor o), A1, A2, A3, A4, o5]) rfl rfl ?h ?l
  case h =>
    unfold b_Machine_init
    refine s_seq (s_fld (e_i rfl) rfl rfl rfl) ?_
    unfold t_Machine_init_1
    refine s_seq (s_fld (d := RowQ n r) (e_f (e_i rfl) rfl sqD_tup) rfl rfl rfl) ?_
    unfold t_Machine_init_2
    refine s_seq (s_fld (d := .tup (l.map fun a => MQ n n (m a))) (e_f (e_i rfl) rfl sqD_tup) rfl rfl rfl) ?_
    unfold t_Machine_init_3
    refine s_seq (s_fld (d := RowQ n c) (e_f (e_i rfl) rfl sqD_tup) rfl rfl rfl) ?_
    unfold t_Machine_init_4
    refine s_ifq (b_u (u_or (u_of (v_bin (v_un (v_un rfl rfl) rq_len) (v_un (v_un rfl rfl) rq_len) o_eqI)) fun _ => u_of (v_bin (v_un (x := .tup (l.map fun a => MQ n n (m a))) (v_un rfl rfl) (tup_len (by rw [List.length_map]))) (v_un (v_un rfl rfl) (dlen_w hl)) o_eqI))) (fun q => ?_) (fun _ => s_next ?_)
    · exfalso
      rw [decide_eq_true rfl, decide_eq_true rfl] at q
      cases q
    · exact s_for (i_tup (e_i (v_un rfl rfl)) rfl) q
  case l => rfl
theorem alphW_ok {l : List Nat} (h1 : 1 ≤ l.length) (h4 : l.length ≤ 4) (nd : l.Nodup) (hs : ∀ a ∈ l, 97 ≤ a ∧ a ≤ 122) {ρ : En} : makeV 2 1 den_Alphabet_init [.str (sW l)] ρ = some (.ok (.val (AW l)), ρ) := by
  have small : ("abcdefghijklmnopqrstuvwxyz" : Str) = sW ((List.range 26).map (· + 97)) := by decide +kernel
  obtain ⟨ρ', q, o2, rfl⟩ := loop_inv (g := gName 2) (body := w_Alphabet_init_0) (fun _ ρ => ∃ o2, ρ = [some (.bor (.ins 2 [])), some (.val (.str (sW l))), o2]) ((List.range l.length).map fun k => .int ((k : Nat) : Int)) 0 [some (.bor (.ins 2 [])), some (.val (.str (sW l))), none] ⟨_, rfl⟩ (by
    rintro k d ρ hk ⟨o2, rfl⟩
    have hk' : k < l.length := by
      have := (List.getElem?_eq_some_iff.mp hk).1
      simpa using this
    have hd : d = .int (k : Int) := by
      rw [List.getElem?_map, List.getElem?_range hk'] at hk
      exact (Option.some.inj hk).symm
    subst hd
    have hc : l[k]? = some l[k] := List.getElem?_eq_getElem hk'
    have hm := hs _ (List.getElem_mem hk')
    refine ⟨_, [some (.bor (.ins 2 [])), some (.val (.str (sW l))), some (.val (.int (k : Int)))], rfl, ?_, _, rfl⟩
    unfold w_Alphabet_init_0
    refine s_if (b_or (b_u (u_of (v_bin (v_bin rfl rfl (dix_w (by omega) hc)) rfl (by rw [small]; exact ins_w)))) fun _ => b_val (e_bin (e_i (v_bin rfl rfl (dix_w (by omega) hc))) rfl (e_slice (e_i rfl) rfl rfl (p_some rfl) (cutw_hi (by omega) (by omega))) rfl ins_w)) (fun q => ?_) (fun _ => rfl)
    exfalso
    have m1 : l[k] ∈ (List.range 26).map (· + 97) := List.mem_map.mpr ⟨l[k] - 97, List.mem_range.mpr (by omega), by omega⟩
    have m2 : ¬ l[k] ∈ l.take k := fun hh => by
      obtain ⟨i, hi, e⟩ := List.mem_take_iff_getElem.mp hh
      have := (List.getElem_inj nd).mp e
      omega
    rw [decide_eq_true m1, decide_eq_false m2] at q
    cases q)
  refine m_ok (cs := [.str (sW l)]) ?_ rfl
  refine' den_end rfl rfl ?h ?l
  case h =>
    unfold b_Alphabet_init
    refine s_ifq (b_u (u_or (u_not (u_of (v_un rfl rfl))) fun _ => u_or (u_of (v_bin (v_un rfl (dlen_w (by omega))) rfl o_cmp)) fun _ => u_of (v_bin (v_un rfl (dlen_w (by omega))) rfl o_cmp))) (fun q => ?_) (fun _ => s_next ?_)
    · exfalso
      rw [decide_eq_false (show ¬ (l.length : Int) < 1 by omega), decide_eq_false (show ¬ (4 : Int) < (l.length : Int) by omega)] at q
      simp [isT, D.ty] at q
    · refine s_seq (s_for (i_rng (n := l.length) (v_un rfl (dlen_w (by omega))) (by omega)) q) ?_
      exact s_fld (e_i rfl) rfl rfl rfl
  case l => rfl
theorem aidx_ok {l : List Nat} {i c : Nat} (hl : l.length ≤ 1000) (nd : l.Nodup) (h : l[i]? = some c) : den_Alphabet_index [.val (AW l), .val (.str (sW [c]))] = some (.ok (.val (.int (i : Int))), none) := by
  refine den_rt rfl rfl (fun _ => rfl) ?_
  unfold b_Alphabet_index
  refine Rt.ifq (b_u (u_or (u_not (u_of (v_un rfl rfl))) fun _ => u_or (u_of (v_bin (v_un rfl (dlen_w (l := [c]) (show 1 ≤ 1000 by decide))) rfl o_eqI)) fun _ => u_of (v_bin rfl (v_un rfl rfl) ins_w))) (fun q => ?_) (fun _ => Rt.next ?_)
  · exfalso
    rw [decide_eq_true (List.mem_of_getElem? h)] at q
    simp [isT, D.ty] at q
  · exact Rt.ret (e_i (v_bin (v_un rfl rfl) rfl o_find)) (by rw [find_w nd h])
theorem sizeG_ok {l : List Nat} {n : Nat} {r c : Nat → Rat} {m : Nat → Nat → Nat → Rat} : den_Machine_size [.val (MG l n r m c)] = some (.ok (.val (.int (n : Int))), none) := by
  refine den_rt rfl rfl (fun _ => rfl) ?_
  unfold b_Machine_size
  exact Rt.ret (e_i (v_un (v_un rfl rfl) rq_len)) rfl
/-! ### weights -/
def stepQ (n : Nat) (r : Nat → Rat) (m : Nat → Nat → Rat) : Nat → Rat := fun j => sumN n fun i => r i * m i j
def afterQ (n : Nat) (m : Nat → Nat → Nat → Rat) (w : List Nat) (r : Nat → Rat) : Nat → Rat := w.foldl (fun r a => stepQ n r (m a)) r
def wQ (n : Nat) (r : Nat → Rat) (m : Nat → Nat → Nat → Rat) (c : Nat → Rat) (w : List Nat) : Rat := sumN n fun i => afterQ n m w r i * c i
theorem afterQ_nil {n : Nat} {m : Nat → Nat → Nat → Rat} {r : Nat → Rat} : afterQ n m [] r = r := rfl
theorem afterQ_snoc {n : Nat} {m : Nat → Nat → Nat → Rat} {w : List Nat} {a : Nat} {r : Nat → Rat} : afterQ n m (w ++ [a]) r = stepQ n (afterQ n m w r) (m a) := by unfold afterQ; rw [List.foldl_append]; rfl
/-- bits of the k-th row -/
def bB (n K : Nat) : Nat → Nat
  | 0 => K
  | k + 1 => n * (bB n K k + K + 1) + 1 + K
theorem bB_ge {n K : Nat} : ∀ k, K ≤ bB n K k
  | 0 => Nat.le_refl _
  | k + 1 => by show K ≤ n * (bB n K k + K + 1) + 1 + K; omega
theorem bB_mono {n n' K K' : Nat} (hn : n ≤ n') (hK : K ≤ K') : ∀ {k k' : Nat}, k ≤ k' → bB n K k ≤ bB n' K' k'
  | 0, k', _ => Nat.le_trans hK (bB_ge k')
  | k + 1, k' + 1, h => by
    have ih := bB_mono hn hK (k := k) (k' := k') (by omega)
    have : n * (bB n K k + K + 1) ≤ n' * (bB n' K' k' + K' + 1) := Nat.mul_le_mul hn (by omega)
    show n * (bB n K k + K + 1) + 1 + K ≤ n' * (bB n' K' k' + K' + 1) + 1 + K'
    omega
theorem afterQ_sq {n K : Nat} {m : Nat → Nat → Nat → Rat} (hm : ∀ a i j, Sq K (m a i j)) : ∀ (w : List Nat) {r : Nat → Rat} {k : Nat}, (∀ i, Sq (bB n K k) (r i)) → ∀ i, Sq (bB n K (k + w.length)) (afterQ n m w r i)
  | [], r, k, h, i => h i
  | a :: w, r, k, h, i => by
    have : ∀ j, Sq (bB n K (k + 1)) (stepQ n r (m a) j) := fun j => (sumN_sq (fun i => (h i).mul (hm a i j)) n).mono (by show _ ≤ n * (bB n K k + K + 1) + 1 + K; omega)
    have := afterQ_sq hm w this i
    rw [List.length_cons, show k + (w.length + 1) = k + 1 + w.length by omega]
    exact this
/-- all items of a machine have less than K bits -/
structure MB (K : Nat) (r : Nat → Rat) (m : Nat → Nat → Nat → Rat) (c : Nat → Rat) : Prop where
  r : ∀ i, Sq K (r i)
  m : ∀ a i j, Sq K (m a i j)
  c : ∀ i, Sq K (c i)
theorem MB.mono {K K' : Nat} {r c : Nat → Rat} {m : Nat → Nat → Nat → Rat} (h : MB K r m c) (hk : K ≤ K') : MB K' r m c := ⟨fun i => (h.r i).mono hk, fun a i j => (h.m a i j).mono hk, fun i => (h.c i).mono hk⟩
theorem MB.w {K n : Nat} {r c : Nat → Rat} {m : Nat → Nat → Nat → Rat} (h : MB K r m c) (w : List Nat) : Sq (n * (bB n K w.length + K + 1) + 1) (wQ n r m c w) := sumN_sq (fun i => (by have := afterQ_sq (n := n) h.m w (k := 0) h.r i; rw [Nat.zero_add] at this; exact this.mul (h.c i))) n
theorem after_ok {l : List Nat} {n K : Nat} {r c : Nat → Rat} {m : Nat → Nat → Nat → Rat} (h : MB K r m c) (hl : l.length ≤ 1000) (nd : l.Nodup) (hn : n ≤ 1000) {w : List Nat} (hw : ∀ a ∈ w, a ∈ l) (hb : n * (2 * bB n K w.length + 1) + 2 * bB n K w.length + 2 ≤ 10000000) :
    den_Machine_row_after [.val (MG l n r m c), .val (.str (sW w))] = some (.ok (.val (RowQ n (afterQ n m w r))), none) := by
  obtain ⟨ρ', q, o3, rfl⟩ := loop_inv (g := gName 3) (body := w_Machine_row_after_0) (fun k ρ => ∃ o3, ρ = [some (.val (MG l n r m c)), some (.val (.str (sW w))), some (.val (RowQ n (afterQ n m (w.take k) r))), o3]) (w.map fun a => .str (sW [a])) 0 [some (.val (MG l n r m c)), some (.val (.str (sW w))), some (.val (RowQ n r)), none] ⟨_, rfl⟩ (by
    rintro k d ρ hk ⟨o3, rfl⟩
    rw [Nat.zero_add]
    obtain ⟨a, ha, rfl⟩ : ∃ a, w[k]? = some a ∧ d = .str (sW [a]) := by
      rw [List.getElem?_map] at hk
      cases hlk : w[k]? with
      | none => rw [hlk] at hk; cases hk
      | some b => rw [hlk] at hk; exact ⟨b, rfl, (Option.some.inj hk).symm⟩
    have hkl : k < w.length := (List.getElem?_eq_some_iff.mp ha).1
    have htk : w.take (k + 1) = w.take k ++ [a] := by rw [List.take_add_one, ha]; rfl
    obtain ⟨i, hi, hia⟩ := List.mem_iff_getElem.mp (hw a (List.mem_of_getElem? ha))
    have hli : l[i]? = some a := List.getElem?_eq_some_iff.mpr ⟨hi, hia⟩
    have hs : ∀ i, Sq (bB n K w.length) (afterQ n m (w.take k) r i) := fun i => (afterQ_sq h.m (w.take k) (k := 0) h.r i).mono (bB_mono (Nat.le_refl _) (Nat.le_refl _) (by rw [List.length_take]; omega))
    rw [htk, afterQ_snoc]
    refine ⟨_, [some (.val (MG l n r m c)), some (.val (.str (sW w))), some (.val (RowQ n (stepQ n (afterQ n m (w.take k) r) (m a)))), some (.val (.str (sW [a])))], rfl, ?_, _, rfl⟩
    unfold w_Machine_row_after_0
    have hx : dIx (.tup (l.map fun a => MQ n n (m a))) (.int (i : Int)) = some (MQ n n (m a)) := ix_okT (by rw [List.getElem?_map, hli]; rfl)
    exact s_setVE (e_meth (e_bin (e_i (v_un rfl rfl)) rfl (e_meth (e_i (v_un rfl rfl)) (a_cons (e_i rfl) rfl a_nil) rfl (aidx_ok hl nd hli)) rfl hx) (a_cons (e_i rfl) rfl a_nil) rfl (mbefore_ok hb (fun i j => (h.m a i j).mono (bB_ge _)) hs hn hn)) rfl rfl)
  refine den_rt rfl rfl (fun _ => rfl) ?_
  unfold b_Machine_row_after
  refine Rt.seq (s_setV (e_i (v_un rfl rfl)) rfl) ?_
  refine Rt.seq (s_for (i_w (e_i rfl)) q) ?_
  rw [List.length_map, Nat.zero_add, List.take_length]
  exact Rt.ret (e_i rfl) rfl
theorem weightG_ok {l : List Nat} {n K : Nat} {r c : Nat → Rat} {m : Nat → Nat → Nat → Rat} (h : MB K r m c) (hl : l.length ≤ 1000) (nd : l.Nodup) (hn : n ≤ 1000) {w : List Nat} (hw : ∀ a ∈ w, a ∈ l) (hb : n * (2 * bB n K w.length + 1) + 2 * bB n K w.length + 2 ≤ 10000000) :
    den_Machine_weight [.val (MG l n r m c), .val (.str (sW w))] = some (.ok (.val (Rq (wQ n r m c w))), none) := by
  refine den_rt rfl rfl (fun _ => rfl) ?_
  unfold b_Machine_weight
  refine Rt.ret (e_call (a_cons (e_meth (e_i rfl) (a_cons (e_i rfl) rfl a_nil) rfl (after_ok h hl nd hn hw hb)) rfl (a_cons (e_i (v_un rfl rfl)) rfl a_nil)) rfl (dot_ok hb (fun i => ?_) (fun i => (h.c i).mono (bB_ge _)))) rfl
  have := afterQ_sq (n := n) h.m w (k := 0) h.r i
  rwa [Nat.zero_add] at this

/-! ### rows cut and joined -/
theorem rg_app {n m : Nat} {α : Type} {f g : Nat → α} : Rg n f ++ Rg m g = Rg (n + m) fun i => if i < n then f i else g (i - n) := by
  refine List.ext_getElem? fun i => ?_
  by_cases h : i < n
  · rw [List.getElem?_append_left (by rw [rg_len]; exact h), rg_get h, rg_get (by omega), if_pos h]
  · rw [List.getElem?_append_right (by rw [rg_len]; omega), rg_len]
    by_cases h2 : i < n + m
    · rw [rg_get (by omega), rg_get h2, if_neg h]
    · rw [List.getElem?_eq_none (by rw [rg_len]; omega), List.getElem?_eq_none (by rw [rg_len]; omega)]
theorem rg_take {n m : Nat} {α : Type} {f : Nat → α} (h : m ≤ n) : (Rg n f).take m = Rg m f := by
  refine List.ext_getElem? fun i => ?_
  rw [List.getElem?_take]
  by_cases h2 : i < m
  · rw [if_pos h2, rg_get (by omega), rg_get h2]
  · rw [if_neg h2, List.getElem?_eq_none (by rw [rg_len]; omega)]
theorem rg_drop {n m : Nat} {α : Type} {f : Nat → α} : (Rg n f).drop m = Rg (n - m) fun i => f (m + i) := by
  refine List.ext_getElem? fun i => ?_
  rw [List.getElem?_drop]
  by_cases h2 : m + i < n
  · rw [rg_get h2, rg_get (by omega)]
  · rw [List.getElem?_eq_none (by rw [rg_len]; omega), List.getElem?_eq_none (by rw [rg_len]; omega)]
theorem cut_hi {xs : List D} {m : Nat} (h : m ≤ xs.length) : dCutL xs none (some (m : Int)) = xs.take m := by
  unfold dCutL
  rw [HT.sIx_nat, HT.sIx_none, List.drop_zero, Nat.sub_zero, Nat.min_eq_left h]
theorem cut_lo {xs : List D} {m : Nat} (h : m ≤ xs.length) : dCutL xs (some (m : Int)) none = xs.drop m := by
  unfold dCutL
  rw [HT.sIx_nat, HT.sIx_none, Nat.min_eq_left h]
  exact List.take_of_length_le (by rw [List.length_drop]; exact Nat.le_refl _)

/-! ### the Cauchy product, the program's -/
def catQ (n : Nat) (f g : Nat → Rat) : Nat → Rat := fun i => if i < n then f i else g (i - n)
theorem catT_q {n m : Nat} {f g : Nat → Rat} (hn : n ≤ 1000) (hm : m ≤ 1000) : dCatT (RowQ n f) (RowQ m g) = some (.val (RowQ (n + m) (catQ n f g))) := by
  show (if (Rg n fun j => Rq (f j)).length + (Rg m fun j => Rq (g j)).length ≤ sizeLine then some (PV.val (.tup (Rg n (fun j => Rq (f j)) ++ Rg m fun j => Rq (g j)))) else none) = _
  rw [if_pos (by rw [rg_len, rg_len]; exact Nat.le_trans (Nat.add_le_add hn hm) (by decide)), rg_app]
  congr 3
  refine rg_eq fun i hi => ?_
  show (if i < n then Rq (f i) else Rq (g (i - n))) = Rq (if i < n then f i else g (i - n))
  split <;> rfl
theorem rep_rg {n : Nat} {d : D} : (List.replicate n [d]).flatten = Rg n fun _ => d := by
  induction n with
  | zero => rfl
  | succ n ih => rw [rg_succ, ← ih, List.replicate_succ', List.flatten_append]; simp
theorem mtimes_ok {K h w : Nat} {f : Nat → Nat → Rat} {g : Nat → Rat} (hK : w * (2 * K + 1) + 2 * K + 2 ≤ 10000000) (hf : ∀ i j, Sq K (f i j)) (hg : ∀ i, Sq K (g i)) (hh : h ≤ 1000) : den_Matrix_times [.val (MQ h w f), .val (RowQ w g)] = some (.ok (.val (RowQ h fun i => sumN w fun j => f i j * g j)), none) := by
  refine den_rt rfl rfl (fun _ => rfl) ?_
  unfold b_Matrix_times
  exact Rt.ret (e_f (e_lc (xs := List.range h) (φ := fun i => Rq (sumN w fun j => f i j * g j)) (i_tup (e_i (v_un rfl rfl)) rfl) rfl (rg_sz hh) rfl fun i hi => ⟨_, _, rfl, e_call (a_cons (e_i rfl) rfl (a_cons (e_i rfl) rfl a_nil)) rfl (dot_ok hK (hf i) hg), rfl, rfl⟩) rfl rfl) rfl
def dotQ (n : Nat) (f g : Nat → Rat) : Rat := sumN n fun i => f i * g i
def prodM (n : Nat) (A : Nat → Nat → Rat) (c s : Nat → Rat) (B : Nat → Nat → Rat) : Nat → Nat → Rat := fun i => if i < n then catQ n (A i) fun j => dotQ n (A i) c * s j else catQ n (fun _ => 0) (B (i - n))
theorem catQ_sq {K n : Nat} {f g : Nat → Rat} (hf : ∀ i, Sq K (f i)) (hg : ∀ i, Sq K (g i)) (i : Nat) : Sq K (catQ n f g i) := by unfold catQ; split; exact hf i; exact hg _
theorem prodM_sq {K n : Nat} {A B : Nat → Nat → Rat} {c s : Nat → Rat} (hA : ∀ i j, Sq K (A i j)) (hB : ∀ i j, Sq K (B i j)) (hc : ∀ i, Sq K (c i)) (hs : ∀ i, Sq K (s i)) (i j : Nat) : Sq (n * (2 * K + 1) + K + 1) (prodM n A c s B i j) := by
  unfold prodM
  split
  · refine catQ_sq (fun j => (hA i j).mono (by omega)) (fun j => ?_) j
    have e : n * (2 * K + 1) = n * (K + K + 1) := by rw [Nat.two_mul]
    exact ((sumN_sq (fun t => (hA i t).mul (hc t)) n).mul (hs j)).mono (by omega)
  · exact catQ_sq (fun _ => sq_zero.mono (by omega)) (fun j => (hB _ j).mono (by omega)) j
abbrev CP (l : List Nat) (n : Nat) (r : Nat → Rat) (A : Nat → Nat → Nat → Rat) (c : Nat → Rat) (m : Nat) (s : Nat → Rat) (B : Nat → Nat → Nat → Rat) (d : Nat → Rat) : D :=
  MG l (n + m) (catQ n r fun j => dotQ n r c * s j) (fun a => prodM n (A a) c s (B a)) (catQ n (fun _ => 0) d)
theorem rows_cat {n m w : Nat} {f g : Nat → Nat → Rat} : (Rg n fun i => RowQ w (f i)) ++ (Rg m fun i => RowQ w (g i)) = Rg (n + m) fun i => RowQ w (if i < n then f i else g (i - n)) := by
  rw [rg_app]
  refine rg_eq fun i hi => ?_
  split <;> rfl
theorem dCat_l {xs ys : List D} (h : xs.length + ys.length ≤ 10000) : dCat (.lst xs) (.lst ys) = some (.own (.lst (xs ++ ys))) := if_pos (Nat.le_trans h (by decide))
theorem CP_mb {K n : Nat} {r c s d : Nat → Rat} {A B : Nat → Nat → Nat → Rat} (h1 : MB K r A c) (h2 : MB K s B d) : MB (n * (2 * K + 1) + K + 1) (catQ n r fun j => dotQ n r c * s j) (fun a => prodM n (A a) c s (B a)) (catQ n (fun _ => 0) d) where
  r := fun i => catQ_sq (fun i => (h1.r i).mono (by omega)) (fun j => by
    have e : n * (2 * K + 1) = n * (K + K + 1) := by rw [Nat.two_mul]
    exact ((sumN_sq (fun t => (h1.r t).mul (h1.c t)) n).mul (h2.r j)).mono (by omega)) i
  m := fun a => prodM_sq (h1.m a) (h2.m a) h1.c h2.r
  c := fun i => catQ_sq (fun _ => sq_zero.mono (by omega)) (fun j => (h2.c j).mono (by omega)) i
/-! ### its weights -/
theorem sumN_split {n m : Nat} {f : Nat → Rat} : sumN (n + m) f = sumN n f + sumN m fun i => f (n + i) := by
  induction m with
  | zero => exact (Rat.add_zero _).symm
  | succ m ih => show sumN (n + m) f + f (n + m) = sumN n f + (sumN m _ + f (n + m)); rw [ih]; grind
theorem sumN_mul {n : Nat} {f : Nat → Rat} {q : Rat} : sumN n (fun i => f i * q) = sumN n f * q := by
  induction n with
  | zero => exact (Rat.zero_mul q).symm
  | succ n ih => show sumN n _ + f n * q = (sumN n f + f n) * q; rw [ih]; grind
theorem sumN_mulL {n : Nat} {f : Nat → Rat} {q : Rat} : sumN n (fun i => q * f i) = q * sumN n f := by
  rw [Rat.mul_comm q, ← sumN_mul]; exact sumN_congr fun i _ => Rat.mul_comm _ _
theorem sumN_swap {n m : Nat} {f : Nat → Nat → Rat} : sumN n (fun i => sumN m fun j => f i j) = sumN m fun j => sumN n fun i => f i j := by
  induction n with
  | zero => exact (sumN_zero (n := m)).symm
  | succ n ih => show sumN n _ + sumN m (f n) = _; rw [ih, ← sumN_add]; rfl
theorem catQ_lo {n i : Nat} {f g : Nat → Rat} (h : i < n) : catQ n f g i = f i := if_pos h
theorem catQ_hi {n i : Nat} {f g : Nat → Rat} : catQ n f g (n + i) = g i := by
  unfold catQ
  rw [if_neg (by omega), Nat.add_sub_cancel_left]
/-- the sum over all cuts of the weight of the front times the row behind -/
def cutQ (n : Nat) (r : Nat → Rat) (A : Nat → Nat → Nat → Rat) (c : Nat → Rat) (m : Nat) (s : Nat → Rat) (B : Nat → Nat → Nat → Rat) (w : List Nat) (j : Nat) : Rat :=
  sumN (w.length + 1) fun k => wQ n r A c (w.take k) * afterQ m B (w.drop k) s j
theorem afterCP {n m : Nat} {r c s : Nat → Rat} {A B : Nat → Nat → Nat → Rat} (w : List Nat) :
    (∀ i, i < n → afterQ (n + m) (fun a => prodM n (A a) c s (B a)) w (catQ n r fun j => dotQ n r c * s j) i = afterQ n A w r i) ∧
    ∀ j, j < m → afterQ (n + m) (fun a => prodM n (A a) c s (B a)) w (catQ n r fun j => dotQ n r c * s j) (n + j) = cutQ n r A c m s B w j := by
  induction hw : w.length generalizing w with
  | zero =>
    have : w = [] := List.eq_nil_of_length_eq_zero hw
    subst this
    refine ⟨fun i hi => by rw [afterQ_nil, afterQ_nil, catQ_lo hi], fun j hj => ?_⟩
    have e : cutQ n r A c m s B [] j = 0 + wQ n r A c [] * s j := rfl
    rw [afterQ_nil, e, catQ_hi, Rat.zero_add]; rfl
  | succ k ih =>
    obtain ⟨w, a, rfl⟩ : ∃ w' a, w = w' ++ [a] := ⟨w.dropLast, w.getLast (by intro z; subst z; cases hw), (List.dropLast_concat_getLast _).symm⟩
    have hk : w.length = k := by rw [List.length_append] at hw; simpa using hw
    obtain ⟨ih1, ih2⟩ := ih w hk
    rw [afterQ_snoc]
    refine ⟨fun i hi => ?_, fun j hj => ?_⟩
    · unfold stepQ
      rw [sumN_split, sumN_congr (g := fun t => afterQ n A w r t * A a t i) fun t ht => by
        rw [ih1 t ht]
        show _ * prodM n (A a) c s (B a) t i = _
        unfold prodM
        rw [if_pos ht, catQ_lo hi], sumN_congr (n := m) (g := fun _ => 0) fun t ht => by
        show _ * prodM n (A a) c s (B a) (n + t) i = _
        unfold prodM
        rw [if_neg (by omega), catQ_lo hi, Rat.mul_zero], sumN_zero, Rat.add_zero, afterQ_snoc]; rfl
    · unfold stepQ
      rw [sumN_split, sumN_congr (g := fun t => afterQ n A w r t * (dotQ n (A a t) c * s j)) fun t ht => by
        rw [ih1 t ht]
        show _ * prodM n (A a) c s (B a) t (n + j) = _
        unfold prodM
        rw [if_pos ht, catQ_hi], sumN_congr (n := m) (g := fun t => cutQ n r A c m s B w t * B a t j) fun t ht => by
        rw [ih2 t ht]
        show _ * prodM n (A a) c s (B a) (n + t) (n + j) = _
        unfold prodM
        rw [if_neg (by omega), catQ_hi, Nat.add_sub_cancel_left]]
      have e1 : sumN n (fun t => afterQ n A w r t * (dotQ n (A a t) c * s j)) = wQ n r A c (w ++ [a]) * s j := by
        rw [sumN_congr (g := fun t => afterQ n A w r t * dotQ n (A a t) c * s j) fun t _ => (Rat.mul_assoc _ _ _).symm, sumN_mul]
        unfold wQ
        rw [afterQ_snoc]
        unfold stepQ dotQ
        rw [sumN_congr (f := fun i => (sumN n fun t => afterQ n A w r t * A a t i) * c i) (g := fun i => sumN n fun t => afterQ n A w r t * A a t i * c i) fun i _ => sumN_mul.symm, sumN_swap]
        congr 1
        refine sumN_congr fun t _ => ?_
        rw [← sumN_mulL]
        exact sumN_congr fun i _ => (Rat.mul_assoc _ _ _).symm
      have e2 : sumN m (fun t => cutQ n r A c m s B w t * B a t j) = sumN (w.length + 1) fun k => wQ n r A c (w.take k) * afterQ m B (w.drop k ++ [a]) s j := by
        unfold cutQ
        rw [sumN_congr (f := fun t => (sumN (w.length + 1) fun k => wQ n r A c (w.take k) * afterQ m B (w.drop k) s t) * B a t j) (g := fun t => sumN (w.length + 1) fun k => wQ n r A c (w.take k) * afterQ m B (w.drop k) s t * B a t j) fun t _ => sumN_mul.symm, sumN_swap]
        refine sumN_congr fun k _ => ?_
        rw [afterQ_snoc]
        unfold stepQ
        rw [← sumN_mulL]
        exact sumN_congr fun t _ => Rat.mul_assoc _ _ _
      rw [e1, e2, Rat.add_comm]
      unfold cutQ
      rw [List.length_append]
      show _ = sumN (w.length + 1) _ + _
      congr 1
      · refine sumN_congr fun k hk => ?_
        rw [List.take_append_of_le_length (by omega), List.drop_append_of_le_length (by omega)]
      · dsimp only
        rw [List.take_of_length_le (by simp), List.drop_eq_nil_of_le (by simp)]; rfl
theorem wCP {n m : Nat} {r c s d : Nat → Rat} {A B : Nat → Nat → Nat → Rat} (w : List Nat) :
    wQ (n + m) (catQ n r fun j => dotQ n r c * s j) (fun a => prodM n (A a) c s (B a)) (catQ n (fun _ => 0) d) w = sumN (w.length + 1) fun k => wQ n r A c (w.take k) * wQ m s B d (w.drop k) := by
  obtain ⟨h1, h2⟩ := afterCP (n := n) (m := m) (r := r) (c := c) (s := s) (A := A) (B := B) w
  unfold wQ
  rw [sumN_split, sumN_congr (n := n) (g := fun _ => 0) fun i hi => by rw [catQ_lo (f := fun _ => 0) hi, Rat.mul_zero], sumN_zero, Rat.zero_add, sumN_congr (n := m) (g := fun j => cutQ n r A c m s B w j * d j) fun j hj => by rw [h2 j hj, catQ_hi]]
  unfold cutQ wQ
  rw [sumN_congr (f := fun j => (sumN (w.length + 1) fun k => _ * _) * d j) (g := fun j => sumN (w.length + 1) fun k => (sumN n fun i => afterQ n A (w.take k) r i * c i) * afterQ m B (w.drop k) s j * d j) fun j _ => sumN_mul.symm, sumN_swap]
  refine sumN_congr fun k _ => ?_
  rw [← sumN_mulL]
  exact sumN_congr fun j _ => Rat.mul_assoc _ _ _
theorem wConst {q : Rat} (w : List Nat) : wQ 1 (fun _ => q) (fun _ _ _ => 0) (fun _ => 1) w = if w = [] then q else 0 := by
  cases w with
  | nil => show 0 + q * 1 = _; rw [if_pos rfl, Rat.zero_add, Rat.mul_one]
  | cons a w =>
    rw [if_neg (by simp)]
    have z : ∀ (w : List Nat) (r : Nat → Rat), (∀ i, r i = 0) → ∀ i, afterQ 1 (fun _ _ _ => 0) w r i = 0 := by
      intro w
      induction w with
      | nil => exact fun r h => h
      | cons b w ih => exact fun r h => ih _ fun i => by show 0 + r 0 * 0 = 0; rw [Rat.mul_zero, Rat.add_zero]
    show 0 + afterQ 1 (fun _ _ _ => 0) w (stepQ 1 (fun _ => q) fun _ _ => 0) 0 * 1 = 0
    rw [z w _ (fun i => by show 0 + q * 0 = 0; rw [Rat.mul_zero, Rat.add_zero]), Rat.zero_mul, Rat.add_zero]

/-! ### Kronecker products -/
def kr (m : Nat) (f g : Nat → Rat) : Nat → Rat := fun k => f (k / m) * g (k % m)
def krM (m : Nat) (A B : Nat → Nat → Rat) : Nat → Nat → Rat := fun p q => A (p / m) (q / m) * B (p % m) (q % m)
def idQ : Nat → Nat → Rat := fun i j => if j = i then 1 else 0
theorem rg_flat {α : Type} {n m : Nat} {φ : Nat → Nat → α} : ((List.range n).flatMap fun i => (List.range m).map (φ i)) = Rg (n * m) fun k => φ (k / m) (k % m) := by
  induction n with
  | zero => rw [Nat.zero_mul]; rfl
  | succ n ih =>
    rw [List.range_succ, List.flatMap_append, ih, Nat.succ_mul]
    show _ ++ (List.flatMap _ [n]) = _
    rw [List.flatMap_cons, List.flatMap_nil, List.append_nil]
    have : (Rg (n * m + m) fun k => φ (k / m) (k % m)) = (Rg (n * m) fun k => φ (k / m) (k % m)) ++ Rg m fun k => φ n k := by
      rw [rg_app]
      refine rg_eq fun i hi => ?_
      split
      · rfl
      · rename_i h
        have hm : 0 < m := by omega
        obtain ⟨j, rfl⟩ : ∃ j, i = n * m + j := ⟨i - n * m, by omega⟩
        have hj : j < m := by omega
        rw [Nat.add_sub_cancel_left, Nat.mul_comm n m, Nat.mul_add_div hm, Nat.div_eq_of_lt hj, Nat.mul_add_mod, Nat.mod_eq_of_lt hj, Nat.add_zero]
    rw [this]
theorem sumN_flat {n m : Nat} {F : Nat → Nat → Rat} : sumN (n * m) (fun k => F (k / m) (k % m)) = sumN n fun i => sumN m fun j => F i j := by
  induction n with
  | zero => rw [Nat.zero_mul]; rfl
  | succ n ih =>
    rw [Nat.succ_mul, sumN_split, ih]
    show _ = sumN n _ + sumN m _
    congr 1
    refine sumN_congr fun j hj => ?_
    have hm : 0 < m := by omega
    rw [Nat.mul_comm n m, Nat.mul_add_div hm, Nat.div_eq_of_lt hj, Nat.mul_add_mod, Nat.mod_eq_of_lt hj, Nat.add_zero]
theorem dLenMul {n m : Nat} (hn : n ≤ 1000) (hm : m ≤ 1000) : dMul (.int (n : Int)) (.int (m : Int)) = some (.int ((n * m : Nat) : Int)) := by
  rw [o_mul (okm_small (by omega) (by omega))]
  congr 2
theorem kr_sq {K m : Nat} {f g : Nat → Rat} (hf : ∀ i, Sq K (f i)) (hg : ∀ i, Sq K (g i)) (k : Nat) : Sq (2 * K) (kr m f g k) := ((hf _).mul (hg _)).mono (by omega)
theorem krM_sq {K m : Nat} {A B : Nat → Nat → Rat} (hA : ∀ i j, Sq K (A i j)) (hB : ∀ i j, Sq K (B i j)) (p q : Nat) : Sq (2 * K) (krM m A B p q) := ((hA _ _).mul (hB _ _)).mono (by omega)
theorem id_sq {K : Nat} (h : 1 ≤ K) (i j : Nat) : Sq K (idQ i j) := by unfold idQ; split; exact sq_one.mono h; exact sq_zero.mono h
/-! ### steps -/
theorem stepQ_congr {n : Nat} {r r' : Nat → Rat} {m : Nat → Nat → Rat} (h : ∀ i, i < n → r i = r' i) : stepQ n r m = stepQ n r' m := by
  funext j
  exact sumN_congr fun i hi => by rw [h i hi]
theorem afterQ_congr {n : Nat} {m : Nat → Nat → Nat → Rat} {r r' : Nat → Rat} (h : ∀ i, i < n → r i = r' i) : ∀ (w : List Nat) (i : Nat), i < n → afterQ n m w r i = afterQ n m w r' i
  | [], i, hi => h i hi
  | a :: w, i, _ => by
    show afterQ n m w (stepQ n r (m a)) i = afterQ n m w (stepQ n r' (m a)) i
    rw [stepQ_congr h]
theorem afterQ_cons {n : Nat} {m : Nat → Nat → Nat → Rat} {w : List Nat} {a : Nat} {r : Nat → Rat} : afterQ n m (a :: w) r = afterQ n m w (stepQ n r (m a)) := rfl
theorem stepQ_add {n : Nat} {r r' : Nat → Rat} {m : Nat → Nat → Rat} : stepQ n (fun i => r i + r' i) m = fun j => stepQ n r m j + stepQ n r' m j := by
  funext j
  unfold stepQ
  rw [← sumN_add]
  exact sumN_congr fun i _ => Rat.add_mul _ _ _
theorem afterQ_add {n : Nat} {m : Nat → Nat → Nat → Rat} : ∀ (w : List Nat) {r r' : Nat → Rat}, afterQ n m w (fun i => r i + r' i) = fun j => afterQ n m w r j + afterQ n m w r' j
  | [], _, _ => rfl
  | a :: w, r, r' => by
    rw [afterQ_cons, stepQ_add, afterQ_add w]; rfl
theorem stepQ_id {n : Nat} {r : Nat → Rat} {j : Nat} (h : j < n) : stepQ n r idQ j = r j := by
  unfold stepQ idQ
  rw [← sumN_one (f := r) h]
  refine sumN_congr fun i _ => ?_
  by_cases e : i = j
  · rw [if_pos e, if_pos e.symm, Rat.mul_one]
  · rw [if_neg e, if_neg (fun z => e z.symm), Rat.mul_zero]
theorem step_kr {n m : Nat} {x y : Nat → Rat} {A B : Nat → Nat → Rat} (q : Nat) : stepQ (n * m) (kr m x y) (krM m A B) q = stepQ n x A (q / m) * stepQ m y B (q % m) := by
  unfold stepQ kr krM
  rw [sumN_flat (F := fun i j => x i * y j * (A i (q / m) * B j (q % m))), ← sumN_mul]
  refine sumN_congr fun i _ => ?_
  rw [← sumN_mulL]
  refine sumN_congr fun j _ => ?_
  grind
theorem div_lt_of {k n m : Nat} (h : k < n * m) : k / m < n ∧ k % m < m := by
  have hm : 0 < m := by
    rcases Nat.eq_zero_or_pos m with e | e
    · subst e; omega
    · exact e
  exact ⟨(Nat.div_lt_iff_lt_mul hm).mpr h, Nat.mod_lt _ hm⟩
theorem w_kr {n m : Nat} {x y c d : Nat → Rat} : sumN (n * m) (fun k => kr m x y k * kr m c d k) = (sumN n fun i => x i * c i) * sumN m fun j => y j * d j := by
  unfold kr
  rw [sumN_flat (F := fun i j => x i * y j * (c i * d j)), ← sumN_mul]
  refine sumN_congr fun i _ => ?_
  rw [← sumN_mulL]
  refine sumN_congr fun j _ => ?_
  grind

/-! ### quotients by a word, the program's -/
def colQ (n : Nat) (m : Nat → Nat → Nat → Rat) (w : List Nat) (c : Nat → Rat) : Nat → Rat := w.foldr (fun a c i => sumN n fun j => m a i j * c j) c
theorem colQ_cons {n : Nat} {m : Nat → Nat → Nat → Rat} {a : Nat} {w : List Nat} {c : Nat → Rat} : colQ n m (a :: w) c = fun i => sumN n fun j => m a i j * colQ n m w c j := rfl
theorem colQ_sq {n K : Nat} {m : Nat → Nat → Nat → Rat} {c : Nat → Rat} (hm : ∀ a i j, Sq K (m a i j)) (hc : ∀ i, Sq K (c i)) : ∀ (w : List Nat) (i : Nat), Sq (bB n K w.length) (colQ n m w c i)
  | [], i => hc i
  | a :: w, i => (sumN_sq (fun j => (hm a i j).mul (colQ_sq hm hc w j)) n).mono (by
      have e : n * (K + bB n K w.length + 1) = n * (bB n K w.length + K + 1) := by rw [Nat.add_comm K]
      show _ ≤ n * (bB n K w.length + K + 1) + 1 + K
      omega)
theorem wQ_left {n : Nat} {r c : Nat → Rat} {m : Nat → Nat → Nat → Rat} {u w : List Nat} : wQ n (afterQ n m u r) m c w = wQ n r m c (u ++ w) := by
  unfold wQ afterQ
  rw [List.foldl_append]
theorem wQ_right {n : Nat} {r c : Nat → Rat} {m : Nat → Nat → Nat → Rat} : ∀ (u w : List Nat), wQ n r m (colQ n m u c) w = wQ n r m c (w ++ u)
  | [], w => by rw [List.append_nil]; rfl
  | a :: u, w => by
    rw [show w ++ a :: u = (w ++ [a]) ++ u by rw [List.append_assoc]; rfl, ← wQ_right u (w ++ [a])]
    unfold wQ
    rw [afterQ_snoc, colQ_cons]
    show sumN n (fun i => _ * sumN n fun j => _) = sumN n fun j => (sumN n fun i => afterQ n m w r i * m a i j) * _
    rw [sumN_congr (g := fun i => sumN n fun j => afterQ n m w r i * m a i j * colQ n m u c j) fun i _ => by
      rw [← sumN_mulL]
      exact sumN_congr fun j _ => (Rat.mul_assoc _ _ _).symm, sumN_swap]
    exact sumN_congr fun j _ => sumN_mul
theorem before_ok {l : List Nat} {n K : Nat} {r c : Nat → Rat} {m : Nat → Nat → Nat → Rat} (h : MB K r m c) (hl : l.length ≤ 1000) (nd : l.Nodup) (hn : n ≤ 1000) {w : List Nat} (hw : ∀ a ∈ w, a ∈ l) (hwl : w.length ≤ 1000) (hb : n * (2 * bB n K w.length + 1) + 2 * bB n K w.length + 2 ≤ 10000000) :
    den_Machine_column_before [.val (MG l n r m c), .val (.str (sW w))] = some (.ok (.val (RowQ n (colQ n m w c))), none) := by
  obtain ⟨ρ', q, o3, rfl⟩ := loop_inv (g := gName 3) (body := w_Machine_column_before_0) (fun k ρ => ∃ o3, ρ = [some (.val (MG l n r m c)), some (.val (.str (sW w))), some (.val (RowQ n (colQ n m (w.reverse.take k).reverse c))), o3]) (w.reverse.map fun a => .str (sW [a])) 0 [some (.val (MG l n r m c)), some (.val (.str (sW w))), some (.val (RowQ n c)), none] ⟨_, rfl⟩ (by
    rintro k d ρ hk ⟨o3, rfl⟩
    rw [Nat.zero_add]
    obtain ⟨a, ha, rfl⟩ : ∃ a, w.reverse[k]? = some a ∧ d = .str (sW [a]) := by
      rw [List.getElem?_map] at hk
      cases hlk : w.reverse[k]? with
      | none => rw [hlk] at hk; cases hk
      | some b => rw [hlk] at hk; exact ⟨b, rfl, (Option.some.inj hk).symm⟩
    have hkl : k < w.length := by
      have := (List.getElem?_eq_some_iff.mp ha).1
      rwa [List.length_reverse] at this
    have htk : (w.reverse.take (k + 1)).reverse = a :: (w.reverse.take k).reverse := by rw [List.take_add_one, ha]; simp
    obtain ⟨i, hi, hia⟩ := List.mem_iff_getElem.mp (hw a (List.mem_reverse.mp (List.mem_of_getElem? ha)))
    have hli : l[i]? = some a := List.getElem?_eq_some_iff.mpr ⟨hi, hia⟩
    have hs : ∀ i, Sq (bB n K w.length) (colQ n m (w.reverse.take k).reverse c i) := fun i => (colQ_sq (n := n) h.m h.c (w.reverse.take k).reverse i).mono (bB_mono (Nat.le_refl _) (Nat.le_refl _) (by rw [List.length_reverse, List.length_take, List.length_reverse]; omega))
    rw [htk, colQ_cons]
    refine ⟨_, [some (.val (MG l n r m c)), some (.val (.str (sW w))), some (.val (RowQ n fun i => sumN n fun j => m a i j * colQ n m (w.reverse.take k).reverse c j)), some (.val (.str (sW [a])))], rfl, ?_, _, rfl⟩
    unfold w_Machine_column_before_0
    have hx : dIx (.tup (l.map fun a => MQ n n (m a))) (.int (i : Int)) = some (MQ n n (m a)) := ix_okT (by rw [List.getElem?_map, hli]; rfl)
    exact s_setVE (e_meth (e_bin (e_i (v_un rfl rfl)) rfl (e_meth (e_i (v_un rfl rfl)) (a_cons (e_i rfl) rfl a_nil) rfl (aidx_ok hl nd hli)) rfl hx) (a_cons (e_i rfl) rfl a_nil) rfl (mtimes_ok hb (fun i j => (h.m a i j).mono (bB_ge _)) hs hn)) rfl rfl)
  refine den_rt rfl rfl (fun _ => rfl) ?_
  unfold b_Machine_column_before
  refine Rt.seq (s_setV (e_i (v_un rfl rfl)) rfl) ?_
  refine Rt.seq (s_for (i_rev (e_f (e_i rfl) rfl (lst_w hwl)) rfl) (by rw [← List.map_reverse]; exact q)) ?_
  rw [List.length_map, Nat.zero_add, List.take_length, List.reverse_reverse]
  exact Rt.ret (e_i rfl) rfl
theorem left_mb {K n : Nat} {r c : Nat → Rat} {m : Nat → Nat → Nat → Rat} (h : MB K r m c) (w : List Nat) : MB (bB n K w.length) (afterQ n m w r) m c := ⟨fun i => by
  have := afterQ_sq (n := n) h.m w (k := 0) h.r i
  rwa [Nat.zero_add] at this, fun a i j => (h.m a i j).mono (bB_ge _), fun i => (h.c i).mono (bB_ge _)⟩
theorem right_mb {K n : Nat} {r c : Nat → Rat} {m : Nat → Nat → Nat → Rat} (h : MB K r m c) (w : List Nat) : MB (bB n K w.length) r m (colQ n m w c) := ⟨fun i => (h.r i).mono (bB_ge _), fun a i j => (h.m a i j).mono (bB_ge _), colQ_sq h.m h.c w⟩
/-! ### a letter that is none -/
theorem aidx_er {l : List Nat} {a : Nat} (h : a ∉ l) : den_Alphabet_index [.val (AW l), .val (.str (sW [a]))] = some (.error ⟨102, [.str "letter"]⟩, none) := by
  refine den_er rfl rfl (fun _ => rfl) ?_
  unfold b_Alphabet_index
  refine Er.ifq (b_u (u_or (u_not (u_of (v_un rfl rfl))) fun _ => u_or (u_of (v_bin (v_un rfl (dlen_w (l := [a]) (show 1 ≤ 1000 by decide))) rfl o_eqI)) fun _ => u_of (v_bin rfl (v_un rfl rfl) ins_w))) (fun _ => ?_) (fun q => ?_)
  · exact Er.now ⟨_, s_raiseF (e_i rfl) rfl (by decide)⟩
  · exfalso
    rw [decide_eq_false h] at q
    simp [isT, D.ty] at q
/-- the first letter stands there, the second not -/
theorem after_er {l : List Nat} {n K : Nat} {r c : Nat → Rat} {m : Nat → Nat → Nat → Rat} (h : MB K r m c) (hl : l.length ≤ 1000) (nd : l.Nodup) (hn : n ≤ 1000) {a b : Nat} (ha : a ∈ l) (hbl : b ∉ l) (hb : n * (2 * K + 1) + 2 * K + 2 ≤ 10000000) :
    den_Machine_row_after [.val (MG l n r m c), .val (.str (sW [a, b]))] = some (.error ⟨102, [.str "letter"]⟩, none) := by
  obtain ⟨i, hi, hia⟩ := List.mem_iff_getElem.mp ha
  have hli : l[i]? = some a := List.getElem?_eq_some_iff.mpr ⟨hi, hia⟩
  have hx : dIx (.tup (l.map fun a => MQ n n (m a))) (.int (i : Int)) = some (MQ n n (m a)) := ix_okT (by rw [List.getElem?_map, hli]; rfl)
  refine den_er rfl rfl (fun _ => rfl) ?_
  unfold b_Machine_row_after
  refine Er.seq (s_setV (e_i (v_un rfl rfl)) rfl) ?_
  refine Er.now ⟨[some (.val (MG l n r m c)), some (.val (.str (sW [a, b]))), some (.val (RowQ n (stepQ n r (m a)))), some (.val (.str (sW [b])))], s_for (i_w (e_i rfl)) ?_⟩
  refine Eq.trans (loop_go (ρ2 := [some (.val (MG l n r m c)), some (.val (.str (sW [a, b]))), some (.val (RowQ n (stepQ n r (m a)))), some (.val (.str (sW [a])))]) rfl ?_) ?_
  · unfold w_Machine_row_after_0
    exact s_setVE (e_meth (e_bin (e_i (v_un rfl rfl)) rfl (e_meth (e_i (v_un rfl rfl)) (a_cons (e_i rfl) rfl a_nil) rfl (aidx_ok hl nd hli)) rfl hx) (a_cons (e_i rfl) rfl a_nil) rfl (mbefore_ok hb (h.m a) h.r hn hn)) rfl rfl
  · exact loop_er rfl (by
      unfold w_Machine_row_after_0
      exact s_setV_er (e_meth_er (e_bin_er2 (e_i (v_un rfl rfl)) rfl (e_meth (r := .error ⟨102, [.str "letter"]⟩) (e_i (v_un rfl rfl)) (a_cons (e_i rfl) rfl a_nil) rfl (aidx_er hbl)))))
theorem before_er {l : List Nat} {n K : Nat} {r c : Nat → Rat} {m : Nat → Nat → Nat → Rat} (h : MB K r m c) (hl : l.length ≤ 1000) (nd : l.Nodup) (hn : n ≤ 1000) {a b : Nat} (ha : a ∈ l) (hbl : b ∉ l) (hb : n * (2 * K + 1) + 2 * K + 2 ≤ 10000000) :
    den_Machine_column_before [.val (MG l n r m c), .val (.str (sW [b, a]))] = some (.error ⟨102, [.str "letter"]⟩, none) := by
  obtain ⟨i, hi, hia⟩ := List.mem_iff_getElem.mp ha
  have hli : l[i]? = some a := List.getElem?_eq_some_iff.mpr ⟨hi, hia⟩
  have hx : dIx (.tup (l.map fun a => MQ n n (m a))) (.int (i : Int)) = some (MQ n n (m a)) := ix_okT (by rw [List.getElem?_map, hli]; rfl)
  refine den_er rfl rfl (fun _ => rfl) ?_
  unfold b_Machine_column_before
  refine Er.seq (s_setV (e_i (v_un rfl rfl)) rfl) ?_
  refine Er.now ⟨[some (.val (MG l n r m c)), some (.val (.str (sW [b, a]))), some (.val (RowQ n fun i => sumN n fun j => m a i j * c j)), some (.val (.str (sW [b])))], s_for (i_rev (e_f (e_i rfl) rfl (lst_w (show 2 ≤ 1000 by decide))) rfl) ?_⟩
  refine Eq.trans (loop_go (ρ2 := [some (.val (MG l n r m c)), some (.val (.str (sW [b, a]))), some (.val (RowQ n fun i => sumN n fun j => m a i j * c j)), some (.val (.str (sW [a])))]) rfl ?_) ?_
  · unfold w_Machine_column_before_0
    exact s_setVE (e_meth (e_bin (e_i (v_un rfl rfl)) rfl (e_meth (e_i (v_un rfl rfl)) (a_cons (e_i rfl) rfl a_nil) rfl (aidx_ok hl nd hli)) rfl hx) (a_cons (e_i rfl) rfl a_nil) rfl (mtimes_ok hb (h.m a) h.c hn)) rfl rfl
  · exact loop_er rfl (by
      unfold w_Machine_column_before_0
      exact s_setV_er (e_meth_er (e_bin_er2 (e_i (v_un rfl rfl)) rfl (e_meth (r := .error ⟨102, [.str "letter"]⟩) (e_i (v_un rfl rfl)) (a_cons (e_i rfl) rfl a_nil) rfl (aidx_er hbl)))))

/-! ### the law's state: a seed and a running number -/
structure St where
  s : Int
  t : Int
  ok : t.natAbs < 2147483648
abbrev St.o (z : St) : OD := .lst [.int z.s, .int z.t]
abbrev Scr (ns : List Int) : D := .lst (ns.map D.int)
theorem mod31 {x : Int} : (x % 2147483647).natAbs < 2147483648 := by
  have h1 := Int.emod_nonneg x (show (2147483647 : Int) ≠ 0 by decide)
  have h2 := Int.emod_lt_of_pos x (show (0 : Int) < 2147483647 by decide)
  omega
/-- a number below m -/
theorem take_ok (z : St) {m : Nat} (hm : 0 < m) : ∃ (r : Nat) (y : St), r < m ∧ den_law_take [.bor z.o, .val (.int (m : Int))] = some (.ok (.val (.int (r : Int))), some y.o) := by
  obtain ⟨s, t, ok⟩ := z
  have hmi : (0 : Int) < (m : Int) := by omega
  have nat : ∀ x : Int, ∃ r : Nat, r < m ∧ x % (m : Int) = (r : Int) := fun x => by
    obtain ⟨r, hr⟩ := Int.eq_ofNat_of_zero_le (Int.emod_nonneg x (show (m : Int) ≠ 0 by omega))
    have := Int.emod_lt_of_pos x hmi
    exact ⟨r, by omega, hr⟩
  by_cases h : 0 < s
  · obtain ⟨r, hr, e⟩ := nat s
    refine ⟨r, ⟨s.fdiv m, t, ok⟩, hr, ?_⟩
    refine den_retL rfl rfl (ρ' := [some (.bor (.lst [.int (s.fdiv m), .int t])), some (.val (.int (m : Int))), some (.val (.int (r : Int)))]) ?_ rfl
    unfold b_law_take
    refine s_ifq (b_u (u_of (v_bin (v_bin rfl rfl (ix_ok (j := 0) rfl)) rfl o_cmp))) (fun _ => ?_) (fun q => by rw [decide_eq_true h] at q; cases q)
    refine s_seq2 (s_seq (s_setVE (ρ2 := [some (.bor (.lst [.int s, .int t])), some (.val (.int (m : Int))), some (.val (.int (r : Int)))]) (e_i (v_bin (v_un (v_bin rfl rfl (ix_ok (j := 0) rfl)) rfl) rfl (o_mod hmi))) rfl (by rw [e]; rfl)) (s_seq2 (s_seq (s_subB (j := 0) (e_i (v_bin (v_bin rfl rfl (ix_ok (j := 0) rfl)) rfl (o_divP (by omega)))) rfl rfl rfl rfl) ?_)))
    exact s_retq (e_i rfl)
  · obtain ⟨r, hr, e⟩ := nat (((t * 48271 + 11) % 2147483647).fdiv 7)
    refine ⟨r, ⟨s, (t * 48271 + 11) % 2147483647, mod31⟩, hr, ?_⟩
    refine den_retL rfl rfl (ρ' := [some (.bor (.lst [.int s, .int ((t * 48271 + 11) % 2147483647)])), some (.val (.int (m : Int))), none]) ?_ rfl
    unfold b_law_take
    refine s_ifq (b_u (u_of (v_bin (v_bin rfl rfl (ix_ok (j := 0) rfl)) rfl o_cmp))) (fun q => by rw [decide_eq_false h] at q; cases q) (fun _ => s_next ?_)
    refine s_seq (s_subB (j := 1) (e_i (v_bin (v_un (v_bin (v_bin (v_bin rfl rfl (ix_ok (j := 1) rfl)) rfl (o_mul (okm_small (show t.natAbs < 4294967296 by omega) (by decide)))) rfl o_add) rfl) rfl (o_mod (by decide)))) rfl rfl rfl rfl) ?_
    exact s_ret (Eq.trans (e_i (v_bin (v_un (v_bin (v_bin rfl rfl (ix_ok (j := 1) rfl)) rfl (o_divP (by decide))) rfl) rfl (o_mod hmi))) (by rw [e]; rfl))
theorem state_ok {ns : List Int} (hn : ns.length ≤ 63) (hb : ∀ z ∈ ns, Builtin.Int.intBits z ≤ 1048576) : ∃ z : St, den_law_state [.val (Scr ns)] = some (.ok (.own z.o), none) := by
  have sm : ∀ z ∈ ns, Sm 1048576 z := fun z hz => by
    have := hb z hz
    unfold Builtin.Int.intBits at this
    unfold Sm
    split at this
    · rename_i h0; simp at h0; subst h0; exact Nat.two_pow_pos _
    · exact Nat.lt_of_lt_of_le (Nat.lt_log2_self (n := z.natAbs)) (Nat.pow_le_pow_right (by decide) this)
  obtain ⟨ρ', q, s, t, o3, hs, ht, rfl⟩ := loop_inv (g := gName 3) (body := w_law_state_0) (fun k ρ => ∃ (s t : Int) (o3 : Option PV), Sm (1048576 + 21 * k) s ∧ t.natAbs < 2147483648 ∧ ρ = [some (.val (Scr ns)), some (.val (.int s)), some (.val (.int t)), o3]) (ns.map D.int) 0 [some (.val (Scr ns)), some (.val (.int 0)), some (.val (.int 1)), none] ⟨0, 1, none, by unfold Sm; exact Nat.two_pow_pos _, by decide, rfl⟩ (by
    rintro k d ρ hk ⟨s, t, o3, hs, ht, rfl⟩
    rw [Nat.zero_add] at hs ⊢
    obtain ⟨z, hz, rfl⟩ : ∃ z, ns[k]? = some z ∧ d = .int z := by
      rw [List.getElem?_map] at hk
      cases hlk : ns[k]? with
      | none => rw [hlk] at hk; cases hk
      | some b => rw [hlk] at hk; exact ⟨b, rfl, (Option.some.inj hk).symm⟩
    have hkl : k < ns.length := (List.getElem?_eq_some_iff.mp hz).1
    have hz := sm z (List.mem_of_getElem? hz)
    have hm : Sm 20 (1000003 : Int) := by unfold Sm; decide
    have h1 : Sm (1048576 + 21 * (k + 1)) (s * 1000003 + (z.natAbs : Int)) := by
      have := (hs.mul hm).add (b := (z.natAbs : Int)) (show Sm (1048576 + 21 * k + 20) (z.natAbs : Int) from (show Sm 1048576 (z.natAbs : Int) by unfold Sm at *; rw [Int.natAbs_natCast]; exact hz).mono (by omega))
      exact this.mono (by omega)
    refine ⟨_, [some (.val (Scr ns)), some (.val (.int (s * 1000003 + (z.natAbs : Int)))), some (.val (.int ((t * 48271 + z) % 2147483647))), some (.val (.int z))], rfl, ?_, _, _, _, h1, mod31, rfl⟩
    unfold w_law_state_0
    refine s_seq (s_setV (e_i (v_bin (v_bin rfl rfl (o_mul (hs.okm hm (by omega)))) (v_un rfl o_abs) o_add)) rfl) ?_
    exact s_setVE (e_i (v_bin (v_un (v_bin (v_bin rfl rfl (o_mul (okm_small (by omega) (by decide)))) rfl o_add) rfl) rfl (o_mod (by decide)))) rfl rfl)
  refine ⟨⟨s, t, ht⟩, ?_⟩
  refine den_rt rfl rfl (fun _ => rfl) ?_
  unfold b_law_state
  refine Rt.seq (s_setV (e_i rfl) rfl) ?_
  refine Rt.seq (s_setV (e_i rfl) rfl) ?_
  have hc : dSlice (Scr ns) none (some 63) = some (.own (.lst (ns.map D.int))) := by
    show some (PV.own (.lst (dCutL (ns.map D.int) none (some ((63 : Nat) : Int))))) = _
    unfold dCutL
    rw [HT.sIx_nat, HT.sIx_none, List.drop_zero, Nat.sub_zero, List.take_of_length_le (by rw [List.length_map]; omega)]
  refine Rt.seq (s_for (i_lst (e_slice (e_i rfl) rfl rfl (p_some rfl) hc) rfl) q) ?_
  exact Rt.ret (e_lst (a_cons (e_i rfl) rfl (a_cons (e_i rfl) rfl a_nil)) rfl (show 2 ≤ sizeLine by decide)) rfl

/-! ### the law's fractions -/
theorem gcd2_loop : ∀ (n y x : Nat), y < n → ∃ k, wl (bU (uOf (iBin (dEqF true) (iVar 1) (iC (.int 0))))) w_law_gcd_0 k [some (.val (.int (x : Int))), some (.val (.int (y : Int)))] =
    some (.ok .next, [some (.val (.int (Nat.gcd x y : Nat))), some (.val (.int 0))])
  | 0, _, _, h => absurd h (Nat.not_lt_zero _)
  | n + 1, y, x, h => by
    by_cases hy : y = 0
    · subst hy
      refine ⟨1, (wl_end (b_u (u_of (v_bin rfl rfl (o_eqI.trans ?_))))).trans ?_⟩
      · rfl
      · rw [Nat.gcd_zero_right]; rfl
    · obtain ⟨k, e⟩ := gcd2_loop n (x % y) y (by have := Nat.mod_lt x (Nat.pos_of_ne_zero hy); omega)
      refine ⟨k + 1, ?_⟩
      have h1 : (bU (uOf (iBin (dEqF true) (iVar 1) (iC (.int 0))))) [some (.val (.int (x : Int))), some (.val (.int (y : Int)))] = some (.ok true, [some (.val (.int (x : Int))), some (.val (.int (y : Int)))]) :=
        b_u (u_of (v_bin rfl rfl (o_eqI.trans (by rw [decide_eq_false (by omega)]; rfl))))
      have hyp : (0 : Int) < (y : Int) := by omega
      have h2 : w_law_gcd_0 [some (.val (.int (x : Int))), some (.val (.int (y : Int)))] = some (.ok .next, [some (.val (.int (y : Int))), some (.val (.int ((x : Int) % (y : Int))))]) := by
        unfold w_law_gcd_0
        exact Eq.trans (s_par2 (a_cons (e_i rfl) rfl (a_cons (e_i (v_bin (v_un rfl rfl) rfl (o_mod hyp))) rfl a_nil)) rfl) rfl
      refine (wl_go h1 h2).trans ?_
      refine Eq.trans ?_ (e.trans ?_)
      · rfl
      · rw [Nat.gcd_comm y, ← Nat.gcd_rec, Nat.gcd_comm y x]
theorem gcd2_ok {a b : Int} : den_law_gcd [.val (.int a), .val (.int b)] = some (.ok (.val (.int (Nat.gcd a.natAbs b.natAbs : Nat))), none) := by
  obtain ⟨k, e⟩ := gcd2_loop (b.natAbs + 1) b.natAbs a.natAbs (by omega)
  refine den_rt rfl rfl (fun _ => rfl) ?_
  unfold b_law_gcd
  refine Rt.seq (s_setV (e_i (v_un rfl o_abs)) rfl) ?_
  refine Rt.seq (s_setV (e_i (v_un rfl o_abs)) rfl) ?_
  exact Rt.seq (wl_sWhile e) (Rt.ret (e_i rfl) rfl)
theorem frac_ok {n d : Int} (h : d ≠ 0) : den_law_frac [.val (.int n), .val (.int d)] = some (.ok (.val (Tq (Rat.divInt n d))), none) := by
  show _ = some (Except.ok (PV.val (.tup [.int (Rat.divInt n d).num, .int ((Rat.divInt n d).den : Int)])), none)
  rw [← (nude (n := n) h).1, ← (nude (n := n) h).2]
  have hc := cm_ne (n := n) h
  refine den_rt rfl rfl (fun _ => rfl) ?_
  unfold b_law_frac
  refine Rt.ifq (b_u (u_of (v_bin rfl rfl o_cmp))) (fun hd => ?_) (fun hd => Rt.next ?_)
  · have hd' : d < 0 := by simpa using hd
    have ec : cm n d = -((Nat.gcd n.natAbs d.natAbs : Nat) : Int) := by unfold cm; rw [if_neg (by omega)]
    rw [ec] at hc
    refine Rt.seq (s_par2 (a_cons (e_i (v_un rfl o_neg)) rfl (a_cons (e_i (v_un rfl o_neg)) rfl a_nil)) rfl) ?_
    refine Rt.seq (s_setV (e_call (a_cons (e_i rfl) rfl (a_cons (e_i rfl) rfl a_nil)) rfl gcd2_ok) rfl) ?_
    rw [Int.natAbs_neg, Int.natAbs_neg]
    refine Rt.ret (e_tup (a_cons (e_i (v_bin rfl rfl (o_divP (by omega)))) rfl (a_cons (e_i (v_bin rfl rfl (o_divP (by omega)))) rfl a_nil)) rfl (show 2 ≤ sizeLine by decide)) ?_
    unfold nu de
    rw [ec, ← Int.neg_fdiv_neg n, ← Int.neg_fdiv_neg d, Int.neg_neg]
  · have hd' : ¬ d < 0 := by simpa using hd
    have ec : cm n d = ((Nat.gcd n.natAbs d.natAbs : Nat) : Int) := by unfold cm; rw [if_pos (by omega)]
    rw [ec] at hc
    refine Rt.seq (s_setV (e_call (a_cons (e_i rfl) rfl (a_cons (e_i rfl) rfl a_nil)) rfl gcd2_ok) rfl) ?_
    exact Rt.ret (e_tup (a_cons (e_i (v_bin rfl rfl (o_divP hc))) rfl (a_cons (e_i (v_bin rfl rfl (o_divP hc))) rfl a_nil)) rfl (show 2 ≤ sizeLine by decide)) (by unfold nu de; rw [ec])
theorem fadd_ok {K : Nat} {a b : Rat} (hK : K ≤ 10000000) (ha : Sq K a) (hb : Sq K b) : den_law_add [.val (Tq a), .val (Tq b)] = some (.ok (.val (Tq (a + b))), none) := by
  refine den_rt rfl rfl (fun _ => rfl) ?_
  unfold b_law_add
  exact Rt.ret (e_call (a_cons (e_i (v_bin (v_bin (v_bin rfl rfl rfl) (v_bin rfl rfl rfl) (o_mul (ha.n.okm hb.d (by omega)))) (v_bin (v_bin rfl rfl rfl) (v_bin rfl rfl rfl) (o_mul (hb.n.okm ha.d (by omega)))) o_add)) rfl (a_cons (e_i (v_bin (v_bin rfl rfl rfl) (v_bin rfl rfl rfl) (o_mul (ha.d.okm hb.d (by omega))))) rfl a_nil)) rfl (frac_ok (Int.mul_ne_zero (by have := den_pos a; omega) (by have := den_pos b; omega)))) (by rw [q_add])
theorem fmul_ok {K : Nat} {a b : Rat} (hK : K ≤ 10000000) (ha : Sq K a) (hb : Sq K b) : den_law_mul [.val (Tq a), .val (Tq b)] = some (.ok (.val (Tq (a * b))), none) := by
  refine den_rt rfl rfl (fun _ => rfl) ?_
  unfold b_law_mul
  exact Rt.ret (e_call (a_cons (e_i (v_bin (v_bin rfl rfl rfl) (v_bin rfl rfl rfl) (o_mul (ha.n.okm hb.n (by omega))))) rfl (a_cons (e_i (v_bin (v_bin rfl rfl rfl) (v_bin rfl rfl rfl) (o_mul (ha.d.okm hb.d (by omega))))) rfl a_nil)) rfl (frac_ok (Int.mul_ne_zero (by have := den_pos a; omega) (by have := den_pos b; omega)))) (by rw [q_mul])
theorem fpair_ok (q : Rat) : den_law_pair [.val (Rq q)] = some (.ok (.val (Tq q)), none) := by
  have hd := den_pos q
  refine den_rt rfl rfl (fun _ => rfl) ?_
  unfold b_law_pair
  refine Rt.ifq (b := false) (b_u (u_or (b := false) (b' := false) (u_not (b := true) (u_of (v_un rfl rfl))) fun _ => u_or (b := false) (b' := false) (u_of (v_un (v_un rfl rfl) rfl)) fun _ => u_of (v_un (v_un rfl rfl) rfl))) (fun z => by cases z) (fun _ => Rt.next ?_)
  refine Rt.ifq (b_or (b := false) (b_u (u_not (b := true) (u_of (v_un (v_un rfl rfl) rfl)))) fun _ => b_or (b := false) (b_u (u_not (b := true) (u_of (v_un (v_un rfl rfl) rfl)))) fun _ => b_or (b_u (u_of (v_bin (v_un rfl rfl) rfl o_cmp))) fun _ => b_val (e_bin (e_call (a_cons (e_i (v_un rfl rfl)) rfl (a_cons (e_i (v_un rfl rfl)) rfl a_nil)) rfl gcd2_ok) rfl (e_i rfl) rfl o_eqI)) (fun z => ?_) (fun _ => Rt.next ?_)
  · exfalso
    rw [(rat_lo q).cop, decide_eq_false (by omega)] at z
    cases z
  · exact Rt.ret (e_tup (a_cons (e_i (v_un rfl rfl)) rfl (a_cons (e_i (v_un rfl rfl)) rfl a_nil)) rfl (show 2 ≤ sizeLine by decide)) rfl

/-! ### what the law draws from its state -/
abbrev RowF (n : Nat) (f : Nat → Rat) : D := .lst (Rg n fun i => Tq (f i))
abbrev MatF (n : Nat) (f : Nat → Nat → Rat) : D := .lst (Rg n fun i => RowF n (f i))
theorem q_self (q : Rat) : Rat.divInt q.num (q.den : Int) = q := Rat.num_divInt_den q
theorem item_ok (z : St) : ∃ (q : Rat) (y : St), Sq 2 q ∧ den_law_item [.bor z.o] = some (.ok (.val (Tq q)), some y.o) := by
  obtain ⟨r, z1, hr, e1⟩ := take_ok z (m := 5) (by decide)
  obtain ⟨t, z2, ht, e2⟩ := take_ok z1 (m := 6) (by decide)
  have hs : Sm 2 ((r : Int) - 2) := by unfold Sm; show _ < 4; omega
  refine ⟨if (t : Int) = 0 then Rat.divInt ((r : Int) - 2) 2 else (((r : Int) - 2 : Int) : Rat), z2, ?_, den_retL rfl rfl (ρ' := [some (.bor z2.o), some (.val (.int ((r : Int) - 2)))]) ?_ rfl⟩
  · split
    · exact sq_div (by decide) hs (by unfold Sm; decide)
    · exact ⟨by rw [Rat.num_intCast]; exact hs, by rw [Rat.den_intCast]; show (1 : Int).natAbs < 2 ^ 2; decide⟩
  · unfold b_law_item
    refine s_seq (s_setV (e_bin (e_callBB (i := 0) rfl (a_cons (e_i rfl) rfl a_nil) rfl rfl e1) rfl (e_i rfl) rfl o_sub) rfl) ?_
    refine s_ifq (b_val (e_bin (e_callBB (i := 0) rfl (a_cons (e_i rfl) rfl a_nil) rfl rfl e2) rfl (e_i rfl) rfl o_eqI)) (fun q => ?_) (fun q => s_next ?_)
    · rw [if_pos (by simpa using q)]
      exact s_retq (e_call (a_cons (e_i rfl) rfl (a_cons (e_i rfl) rfl a_nil)) rfl (frac_ok (by decide)))
    · rw [if_neg (by simpa using q)]
      exact s_ret (e_tup (a_cons (e_i rfl) rfl (a_cons (e_i rfl) rfl a_nil)) rfl (show 2 ≤ sizeLine by decide))
def BL : List Nat := [97, 98, 99, 120, 122]
theorem cut_one {M : List Nat} {i : Nat} (h : i < M.length) : M = M.take i ++ M[i] :: M.drop (i + 1) := by
  rw [← List.drop_eq_getElem_cons h, List.take_append_drop]
theorem fletters_ok (z : St) {k : Nat} (hk1 : 1 ≤ k) (hk : k ≤ 4) : ∃ (l : List Nat) (y : St), 1 ≤ l.length ∧ l.length ≤ k ∧ l.Nodup ∧ (∀ a ∈ l, a ∈ BL) ∧ den_law_letters [.bor z.o, .val (.int (k : Int))] = some (.ok (.val (.str (sW l))), some y.o) := by
  obtain ⟨r, z1, hr, e1⟩ := take_ok z (m := k) (by omega)
  let K : Option PV := some (.val (.int (k : Int)))
  have hr1 : ((1 : Int) + (r : Int)) = ((1 + r : Nat) : Int) := by omega
  obtain ⟨ρ', q, F, M, y, o4, o5, hF, hM, hnd, hb, rfl⟩ := loop_inv (g := gName 4) (body := w_law_letters_0)
    (fun j ρ => ∃ (F M : List Nat) (y : St) (o4 o5 : Option PV), F.length = j ∧ M.length = 5 - j ∧ (F ++ M).Nodup ∧ (∀ a ∈ F ++ M, a ∈ BL) ∧ ρ = [some (.bor y.o), K, some (.val (.str (sW M))), some (.val (.str (sW F))), o4, o5])
    ((List.range (1 + r)).map fun k => .int ((k : Nat) : Int)) 0 [some (.bor z1.o), K, some (.val (.str (sW BL))), some (.val (.str (sW []))), none, none] ⟨[], BL, z1, none, none, rfl, rfl, by decide, by decide, rfl⟩ (by
    rintro j d ρ hj ⟨F, M, y, o4, o5, hF, hM, hnd, hb, rfl⟩
    rw [Nat.zero_add] at hF hM ⊢
    have hj' : j < 1 + r := by
      have := (List.getElem?_eq_some_iff.mp hj).1
      simpa using this
    obtain ⟨i, y', hi, e2⟩ := take_ok y (m := M.length) (by omega)
    have hi1 : ((i : Int) + 1) = ((i + 1 : Nat) : Int) := by omega
    have hp : List.Perm (F ++ [M[i]] ++ (M.take i ++ M.drop (i + 1))) (F ++ M) := by
      have h1 : F ++ [M[i]] ++ (M.take i ++ M.drop (i + 1)) = F ++ (M[i] :: (M.take i ++ M.drop (i + 1))) := by rw [List.append_assoc]; rfl
      have h2 : List.Perm (M[i] :: (M.take i ++ M.drop (i + 1))) M := by
        have := (List.perm_middle (a := M[i]) (l₁ := M.take i) (l₂ := M.drop (i + 1))).symm
        rwa [← cut_one hi] at this
      rw [h1]
      exact h2.append_left F
    refine ⟨_, [some (.bor y'.o), K, some (.val (.str (sW (M.take i ++ M.drop (i + 1))))), some (.val (.str (sW (F ++ [M[i]])))), some (.val d), some (.val (.int (i : Int)))], rfl, ?_, F ++ [M[i]], M.take i ++ M.drop (i + 1), y', _, _, by rw [List.length_append, hF]; rfl, by rw [List.length_append, List.length_take, List.length_drop]; omega, hp.nodup_iff.mpr hnd, fun a ha => hb a (hp.mem_iff.mp ha), rfl⟩
    unfold w_law_letters_0
    refine s_seq (s_setV (e_callBB (i := 0) rfl (a_cons (e_i (v_un rfl (dlen_w (by omega)))) rfl a_nil) rfl rfl e2) rfl) ?_
    refine s_seq (s_setV (e_i (v_bin rfl (v_bin rfl rfl (dix_w (by omega) (List.getElem?_eq_getElem hi))) (dadd_w (by show _ + 1 ≤ _; omega)))) rfl) ?_
    exact s_setVE (e_bin (e_slice (e_i rfl) rfl rfl (p_some rfl) (cutw_hi (by omega) (by omega))) rfl (e_slice (e_i rfl) rfl (p_some (v_bin rfl rfl (o_add.trans (by rw [hi1])))) rfl (cutw_lo (by omega) (by omega))) rfl (dadd_w (by rw [List.length_take, List.length_drop]; omega))) rfl rfl)
  rw [List.length_map, List.length_range, Nat.zero_add] at hF
  refine ⟨F, y, by omega, by omega, (List.nodup_append.mp hnd).1, fun a ha => hb a (List.mem_append_left _ ha), den_retL rfl rfl (ρ' := [some (.bor y.o), K, some (.val (.str (sW M))), some (.val (.str (sW F))), o4, o5]) ?_ rfl⟩
  have eb : ("abcxz" : Str) = sW BL := by decide +kernel
  unfold b_law_letters
  refine s_seq (s_setV (e_i (show iC (.str "abcxz") _ = some (.str (sW BL)) by rw [← eb]; rfl)) rfl) ?_
  refine s_seq (s_setV (d := .str (sW [])) (e_i rfl) rfl) ?_
  refine s_seq (s_for (i_rngE (n := 1 + r) (e_bin (e_i rfl) rfl (e_callBB (i := 0) rfl (a_cons (e_i rfl) rfl a_nil) rfl rfl e1) rfl (o_add.trans (by rw [hr1]))) rfl (by omega)) q) ?_
  exact s_ret (e_i rfl)
theorem fword_ok (z : St) {l : List Nat} {k : Nat} (h1 : 1 ≤ l.length) (hl : l.length ≤ 1000) (hk : k ≤ 100) : ∃ (w : List Nat) (y : St), w.length ≤ k ∧ (∀ a ∈ w, a ∈ l) ∧ den_law_word [.bor z.o, .val (.str (sW l)), .val (.int (k : Int))] = some (.ok (.val (.str (sW w))), some y.o) := by
  obtain ⟨r, z1, hr, e1⟩ := take_ok z (m := k + 1) (by omega)
  have hk1 : ((k : Int) + 1) = ((k + 1 : Nat) : Int) := by omega
  let L : Option PV := some (.val (.str (sW l)))
  let K : Option PV := some (.val (.int (k : Int)))
  obtain ⟨ρ', q, w, y, o4, hw, hm, rfl⟩ := loop_inv (g := gName 4) (body := w_law_word_0)
    (fun j ρ => ∃ (w : List Nat) (y : St) (o4 : Option PV), w.length = j ∧ (∀ a ∈ w, a ∈ l) ∧ ρ = [some (.bor y.o), L, K, some (.val (.str (sW w))), o4])
    ((List.range r).map fun k => .int ((k : Nat) : Int)) 0 [some (.bor z1.o), L, K, some (.val (.str (sW []))), none] ⟨[], z1, none, rfl, (fun _ h => nomatch h), rfl⟩ (by
    rintro j d ρ hj ⟨w, y, o4, hw, hm, rfl⟩
    rw [Nat.zero_add] at hw ⊢
    have hj' : j < r := by
      have := (List.getElem?_eq_some_iff.mp hj).1
      simpa using this
    obtain ⟨i, y', hi, e2⟩ := take_ok y (m := l.length) (by omega)
    refine ⟨_, [some (.bor y'.o), L, K, some (.val (.str (sW (w ++ [l[i]])))), some (.val d)], rfl, ?_, w ++ [l[i]], y', _, by rw [List.length_append, hw]; rfl, fun a ha => ?_, rfl⟩
    · unfold w_law_word_0
      exact s_setVE (e_bin (e_i rfl) rfl (e_bin (e_i rfl) rfl (e_callBB (i := 0) rfl (a_cons (e_i (v_un rfl (dlen_w hl))) rfl a_nil) rfl rfl e2) rfl (dix_w hl (List.getElem?_eq_getElem hi))) rfl (dadd_w (by show _ + 1 ≤ _; omega))) rfl rfl
    · rcases List.mem_append.mp ha with h | h
      · exact hm a h
      · rw [List.mem_singleton.mp h]; exact List.getElem_mem hi)
  rw [List.length_map, List.length_range, Nat.zero_add] at hw
  refine ⟨w, y, by omega, hm, den_retL rfl rfl (ρ' := [some (.bor y.o), L, K, some (.val (.str (sW w))), o4]) ?_ rfl⟩
  unfold b_law_word
  refine s_seq (s_setV (d := .str (sW [])) (e_i rfl) rfl) ?_
  refine s_seq (s_for (i_rngE (n := r) (e_callBB (i := 0) rfl (a_cons (e_i (v_bin rfl rfl (o_add.trans (by rw [hk1])))) rfl a_nil) rfl rfl e1) rfl (by omega)) q) ?_
  exact s_ret (e_i rfl)
theorem list_rgF {α : Type} {F : α → D} {as : List α} {n : Nat} (x0 : α) (h : as.length = n) : as.map F = Rg n fun i => F (as.getD i x0) := list_fun x0 h
theorem fsquare_ok (z : St) {n : Nat} (hn : n ≤ 1000) : ∃ (f : Nat → Nat → Rat) (y : St), (∀ i j, Sq 2 (f i j)) ∧ den_law_square [.bor z.o, .val (.int (n : Int))] = some (.ok (.own (.lst (Rg n fun i => RowF n (f i)))), some y.o) := by
  let N : Option PV := some (.val (.int (n : Int)))
  obtain ⟨ρ', q, fs, y, o3, hfl, hfq, rfl⟩ := loop_inv (g := gName 3) (body := w_law_square_0)
    (fun j ρ => ∃ (fs : List (Nat → Rat)) (y : St) (o3 : Option PV), fs.length = j ∧ (∀ f ∈ fs, ∀ i, Sq 2 (f i)) ∧ ρ = [some (.bor y.o), N, some (.own (.lst (fs.map (RowF n)))), o3, none])
    ((List.range n).map fun k => .int ((k : Nat) : Int)) 0 [some (.bor z.o), N, some (.own (.lst [])), none, none] ⟨[], z, none, rfl, (fun _ h => nomatch h), rfl⟩ (by
    rintro j d ρ hj ⟨fs, y, o3, hfl, hfq, rfl⟩
    rw [Nat.zero_add] at hfl ⊢
    have hj' : j < n := by
      have := (List.getElem?_eq_some_iff.mp hj).1
      simpa using this
    obtain ⟨as, y', hal, haq, e⟩ := e_draw (E := fun (z : St) v => [some (.bor z.o), N, some (.own (.lst (fs.map (RowF n)))), some (.val d), v]) (F := Tq) (Q := Sq 2) (vs := [4]) (g := gName 4) (fe := eCallB den_law_item 0 aNil) (ds := (List.range n).map fun k => .int ((k : Nat) : Int)) (z0 := y) (ρ := [some (.bor y.o), N, some (.own (.lst (fs.map (RowF n)))), some (.val d), none])
      (i_rng (f := iVar 1) (n := n) rfl (by omega)) rfl (by rw [List.length_map]; exact rg_sz hn) (fun d z _ => by
        obtain ⟨q, y, hq, e⟩ := item_ok z
        exact ⟨q, y, _, hq, rfl, e_callBB (i := 0) rfl a_nil rfl rfl e, rfl, rfl⟩) (fun _ => rfl)
    have hal : as.length = n := by rw [hal, List.length_map, List.length_range]
    refine ⟨_, [some (.bor y'.o), N, some (.own (.lst ((fs ++ [fun i => as.getD i 0]).map (RowF n)))), some (.val d), none], rfl, ?_, fs ++ [fun i => as.getD i 0], y', _, by rw [List.length_append, hfl]; rfl, fun f hf i => ?_, rfl⟩
    · unfold w_law_square_0
      refine s_appE2 (i := 2) rfl e rfl rfl (by rw [List.length_map]; exact Nat.lt_of_lt_of_le (show _ < 1000 by omega) (by decide)) ?_
      rw [List.map_append, list_rgF 0 hal]; rfl
    · rcases List.mem_append.mp hf with h | h
      · exact hfq f h i
      · rw [List.mem_singleton.mp h]
        exact getD_all haq (sq_zero.mono (by decide)) i)
  rw [List.length_map, List.length_range, Nat.zero_add] at hfl
  refine ⟨fun i => fs.getD i fun _ => 0, y, fun i j => getD_all (Q := fun f : Nat → Rat => ∀ j, Sq 2 (f j)) hfq (fun _ => sq_zero.mono (by decide)) i j, ?_⟩
  rw [← list_rgF (F := RowF n) (fun _ => 0) hfl]
  refine den_retL rfl rfl (ρ' := [some (.bor y.o), N, none, o3, none]) ?_ rfl
  unfold b_law_square
  refine s_seq (s_set (e_lst a_nil rfl (by decide))) ?_
  refine s_seq (s_for (i_rng (n := n) rfl (by omega)) q) ?_
  exact s_ret rfl
/-- a plan over the letters l with n states -/
structure Pn (n : Nat) where
  r : Nat → Rat
  m : Nat → Nat → Nat → Rat
  c : Nat → Rat
  b : MB 2 r m c
abbrev Pn.d {n : Nat} (p : Pn n) (l : List Nat) : D := .tup [.str (sW l), RowF n p.r, .lst (l.map fun a => MatF n (p.m a)), RowF n p.c]
theorem lookup_map {α : Type} {F : α → D} (x0 : α) : ∀ {l : List Nat} {ss : List α}, l.Nodup → ss.length = l.length → (l.map fun a => F (((l.zip ss).lookup a).getD x0)) = ss.map F
  | [], [], _, _ => rfl
  | a :: l, s :: ss, nd, h => by
    have ih := lookup_map (F := F) x0 (l := l) (ss := ss) (List.nodup_cons.mp nd).2 (by simpa using h)
    rw [List.map_cons, List.map_cons, ← ih, List.zip_cons_cons]
    congr 1
    · rw [List.lookup_cons, beq_self_eq_true]; rfl
    · refine List.map_congr_left fun b hb => ?_
      have : (b == a) = false := by
        rw [beq_eq_false_iff_ne]
        intro e
        subst e
        exact (List.nodup_cons.mp nd).1 hb
      rw [List.lookup_cons, this]
theorem lookup_mem {α : Type} {a : Nat} {f : α} : ∀ {l : List Nat} {ss : List α}, (l.zip ss).lookup a = some f → f ∈ ss
  | [], _, h => by cases h
  | b :: l, [], h => by cases h
  | b :: l, s :: ss, h => by
    rw [List.zip_cons_cons, List.lookup_cons] at h
    split at h
    · cases h; exact List.mem_cons_self ..
    · exact List.mem_cons_of_mem _ (lookup_mem h)
theorem fplan_ok (z : St) {l : List Nat} {k : Nat} (nd : l.Nodup) (hl : l.length ≤ 1000) (hk : k ≤ 100) : ∃ (n : Nat) (p : Pn n) (y : St), n ≤ k ∧ den_law_plan [.bor z.o, .val (.str (sW l)), .val (.int (k : Int))] = some (.ok (.val (p.d l)), some y.o) := by
  obtain ⟨n, z1, hr, e1⟩ := take_ok z (m := k + 1) (by omega)
  have hk1 : ((k : Int) + 1) = ((k + 1 : Nat) : Int) := by omega
  let L : Option PV := some (.val (.str (sW l)))
  let K : Option PV := some (.val (.int (k : Int)))
  let N : Option PV := some (.val (.int (n : Int)))
  have row : ∀ (z : St) (A B C : Option PV), ∃ (r : Nat → Rat) (y : St), (∀ i, Sq 2 (r i)) ∧ eLc [5] (itRng1 (iVar 3)) (gName 5) bYes (eCallB den_law_item 0 aNil) [some (.bor z.o), L, K, N, A, none, B, C] = some (.ok (.own (.lst (Rg n fun i => Tq (r i)))), [some (.bor y.o), L, K, N, A, none, B, C]) := by
    intro z A B C
    obtain ⟨as, y', hal, haq, e⟩ := e_draw (E := fun (z : St) v => [some (.bor z.o), L, K, N, A, v, B, C]) (F := Tq) (Q := Sq 2) (vs := [5]) (g := gName 5) (fe := eCallB den_law_item 0 aNil) (ds := (List.range n).map fun k => .int ((k : Nat) : Int)) (z0 := z) (ρ := [some (.bor z.o), L, K, N, A, none, B, C])
      (i_rng (f := iVar 3) (n := n) rfl (by omega)) rfl (by rw [List.length_map]; exact rg_sz (by omega)) (fun d z _ => by
        obtain ⟨q, y, hq, e⟩ := item_ok z
        exact ⟨q, y, _, hq, rfl, e_callBB (i := 0) rfl a_nil rfl rfl e, rfl, rfl⟩) (fun _ => rfl)
    have hal : as.length = n := by rw [hal, List.length_map, List.length_range]
    exact ⟨fun i => as.getD i 0, y', fun i => getD_all haq (sq_zero.mono (by decide)) i, by rw [e, list_rgF 0 hal]⟩
  obtain ⟨r, z2, hrq, e2⟩ := row z1 none none none
  let R : Option PV := some (.val (RowF n r))
  obtain ⟨ss, z3, hsl, hsq, e3⟩ := e_draw (E := fun (z : St) v => [some (.bor z.o), L, K, N, R, none, none, v]) (F := MatF n) (Q := fun f : Nat → Nat → Rat => ∀ i j, Sq 2 (f i j)) (fi := itStr (eI (iVar 1))) (vs := [7]) (g := gName 7) (fe := eCallB den_law_square 0 (aCons (eI (iVar 3)) aNil)) (ds := l.map fun c => .str (sW [c])) (z0 := z2) (ρ := [some (.bor z2.o), L, K, N, R, none, none, none])
    (i_w (e_i rfl)) rfl (by rw [List.length_map]; exact Nat.le_trans hl (by decide)) (fun d z _ => by
      obtain ⟨f, y, hf, e⟩ := fsquare_ok z (n := n) (by omega)
      exact ⟨f, y, _, hf, rfl, e_callBB (i := 0) rfl (a_cons (e_i rfl) rfl a_nil) rfl rfl e, rfl, rfl⟩) (fun _ => rfl)
  have hsl : ss.length = l.length := by rw [hsl, List.length_map]
  let S : Option PV := some (.val (.lst (ss.map (MatF n))))
  obtain ⟨c, z4, hcq, e4⟩ := row z3 R S none
  refine ⟨n, ⟨r, fun a => ((l.zip ss).lookup a).getD fun _ _ => 0, c, hrq, fun a => ?_, hcq⟩, z4, by omega, ?_⟩
  · cases h : (l.zip ss).lookup a with
    | none => exact fun _ _ => sq_zero.mono (by decide)
    | some f =>
      have hm : f ∈ ss := lookup_mem h
      exact hsq f hm
  · have hd : (l.map fun a => MatF n (((l.zip ss).lookup a).getD fun _ _ => 0)) = ss.map (MatF n) := lookup_map (F := MatF n) (fun _ _ => 0) nd hsl
    show _ = some (Except.ok (PV.val (.tup [.str (sW l), RowF n r, .lst (l.map fun a => MatF n (((l.zip ss).lookup a).getD fun _ _ => 0)), RowF n c])), some z4.o)
    rw [hd]
    refine den_retL rfl rfl (ρ' := [some (.bor z4.o), L, K, N, R, none, S, none]) ?_ rfl
    unfold b_law_plan
    refine s_seq (s_setV (e_callBB (i := 0) rfl (a_cons (e_i (v_bin rfl rfl (o_add.trans (by rw [hk1])))) rfl a_nil) rfl rfl e1) rfl) ?_
    refine s_seq (s_setV e2 rfl) ?_
    refine s_seq (s_setV e3 rfl) ?_
    exact s_ret (e_tup (a_cons (e_i rfl) rfl (a_cons (e_i rfl) rfl (a_cons (e_i rfl) rfl (a_cons e4 rfl a_nil)))) rfl (show 4 ≤ sizeLine by decide))
/-! ### machines from plans -/
theorem ratios_ok {n : Nat} {f : Nat → Rat} (hn : n ≤ 1000) : den_law_ratios [.val (RowF n f)] = some (.ok (.own (.lst (Rg n fun i => Rq (f i)))), none) := by
  refine den_rt rfl rfl (fun _ => rfl) ?_
  unfold b_law_ratios
  exact Rt.ret (e_lc (xs := List.range n) (φ := fun i => Rq (f i)) (i_lst (e_i rfl) rfl) rfl (rg_sz hn) rfl fun i hi => ⟨_, .val (Rq (f i)), rfl, e_make (a_cons (e_i (v_bin rfl rfl rfl)) rfl (a_cons (e_i (v_bin rfl rfl rfl)) rfl a_nil)) rfl (by rw [mkQ (n := (f i).num) (d := ((f i).den : Int)) (by have := den_pos (f i); omega), q_self]), rfl, rfl⟩) rfl
theorem fmach_ok {n : Nat} (p : Pn n) {l : List Nat} (h1 : 1 ≤ l.length) (h4 : l.length ≤ 4) (nd : l.Nodup) (hs : ∀ a ∈ l, 97 ≤ a ∧ a ≤ 122) (hn : n ≤ 1000) : den_law_machine [.val (p.d l)] = some (.ok (.val (MG l n p.r p.m p.c)), none) := by
  let P0 : Option PV := some (.val (p.d l))
  let P1 : Option PV := some (.val (.str (sW l)))
  let P2 : Option PV := some (.val (RowF n p.r))
  let P3 : Option PV := some (.val (.lst (l.map fun a => MatF n (p.m a))))
  let P4 : Option PV := some (.val (RowF n p.c))
  let MM : Nat → D := fun a => MQ n n (p.m a)
  have rlen : ∀ {f : Nat → Rat}, dLen (RowF n f) = some (.int (n : Int)) := fun {f} => by
    show some (D.int ((Rg n fun i => Tq (f i)).length : Int)) = _
    rw [rg_len]
  obtain ⟨ρ', q, o6, rfl⟩ := loop_inv (g := gName 6) (body := w_law_machine_0) (fun k ρ => ∃ o6, ρ = [P0, P1, P2, P3, P4, some (.own (.lst ((l.take k).map MM))), o6, none]) (l.map fun a => MatF n (p.m a)) 0 [P0, P1, P2, P3, P4, some (.own (.lst [])), none, none] ⟨none, rfl⟩ (by
    rintro k d ρ hk ⟨o6, rfl⟩
    rw [Nat.zero_add]
    obtain ⟨a, ha, rfl⟩ : ∃ a, l[k]? = some a ∧ d = MatF n (p.m a) := by
      rw [List.getElem?_map] at hk
      cases hlk : l[k]? with
      | none => rw [hlk] at hk; cases hk
      | some b => rw [hlk] at hk; exact ⟨b, rfl, (Option.some.inj hk).symm⟩
    have hkl : k < l.length := (List.getElem?_eq_some_iff.mp ha).1
    have htk : l.take (k + 1) = l.take k ++ [a] := by rw [List.take_add_one, ha]; rfl
    refine ⟨_, [P0, P1, P2, P3, P4, some (.own (.lst ((l.take (k + 1)).map MM))), some (.val (MatF n (p.m a))), none], rfl, ?_, _, rfl⟩
    unfold w_law_machine_0
    refine s_appE rfl (e_make (a_cons (e_lc (xs := List.range n) (φ := fun i => .lst (Rg n fun j => Rq (p.m a i j))) (i_lst (e_i rfl) rfl) rfl (rg_sz hn) rfl fun i hi => ⟨_, _, rfl, e_call (a_cons (e_i rfl) rfl a_nil) rfl (ratios_ok hn), rfl, rfl⟩) rfl (a_cons (e_i (v_un rfl rlen)) rfl a_nil)) rfl (mkM1 (f := p.m a) hn)) rfl (by rw [List.length_map, List.length_take]; exact Nat.lt_of_lt_of_le (show _ < 1000 by omega) (by decide)) ?_
    rw [htk, List.map_append]; rfl)
  refine den_rt rfl rfl (fun _ => rfl) ?_
  unfold b_law_machine
  refine Rt.seq (s_asgT (e_i rfl) rfl rfl) ?_
  refine Rt.seq (s_set (e_lst a_nil rfl (by decide))) ?_
  refine Rt.seq (s_for (i_lst (e_i rfl) rfl) q) ?_
  rw [List.length_map, Nat.zero_add, List.take_length]
  exact Rt.ret (e_make (a_cons (e_make (a_cons (e_i rfl) rfl a_nil) rfl (alphW_ok h1 h4 nd hs)) rfl (a_cons (e_call (a_cons (e_i rfl) rfl a_nil) rfl (ratios_ok hn)) rfl (a_cons (show eFrz 5 _ = some (.ok (.val (.lst (l.map MM))), _) from rfl) rfl (a_cons (e_call (a_cons (e_i rfl) rfl a_nil) rfl (ratios_ok hn)) rfl a_nil)))) rfl (machG_ok (b1 := true) (b2 := true) (b3 := true) (by omega) hn)) rfl
/-! ### the law's own weights -/
theorem fdot_ok {K n : Nat} {f g : Nat → Rat} (hn : n ≤ 1000) (hK : n * (2 * K + 1) + 2 * K + 2 ≤ 10000000) (hf : ∀ i, Sq K (f i)) (hg : ∀ i, Sq K (g i)) : den_law_dot [.val (RowF n f), .val (RowF n g)] = some (.ok (.val (Tq (sumN n fun i => f i * g i))), none) := by
  have hs : ∀ m, m ≤ n → Sq 10000000 (sumN m fun i => f i * g i) := fun m hm => (sumN_sq (fun i => (hf i).mul (hg i)) m).mono (by
    have : m * (K + K + 1) ≤ n * (K + K + 1) := Nat.mul_le_mul_right _ hm
    have e : n * (2 * K + 1) = n * (K + K + 1) := by rw [Nat.two_mul]
    omega)
  have rlen : dLen (RowF n f) = some (.int (n : Int)) := by
    show some (D.int ((Rg n fun i => Tq (f i)).length : Int)) = _
    rw [rg_len]
  obtain ⟨ρ', q, o3, rfl⟩ := loop_inv (g := gName 3) (body := w_law_dot_0) (fun m ρ => ∃ o3, ρ = [some (.val (RowF n f)), some (.val (RowF n g)), some (.val (Tq (sumN m fun i => f i * g i))), o3]) ((List.range n).map fun k => .int ((k : Nat) : Int)) 0 [some (.val (RowF n f)), some (.val (RowF n g)), some (.val (Tq 0)), none] ⟨none, rfl⟩ (by
    rintro m d ρ hm ⟨o3, rfl⟩
    have hm' : m < n := by
      have := (List.getElem?_eq_some_iff.mp hm).1
      simpa using this
    have hd : d = .int (m : Int) := by
      rw [List.getElem?_map, List.getElem?_range hm'] at hm
      exact (Option.some.inj hm).symm
    subst hd
    rw [Nat.zero_add]
    refine ⟨_, [some (.val (RowF n f)), some (.val (RowF n g)), some (.val (Tq (sumN (m + 1) fun i => f i * g i))), some (.val (.int (m : Int)))], rfl, ?_, _, rfl⟩
    unfold w_law_dot_0
    exact s_setVE (e_call (a_cons (e_i rfl) rfl (a_cons (e_call (a_cons (e_i (v_bin rfl rfl (ix_ok (rg_get hm')))) rfl (a_cons (e_i (v_bin rfl rfl (ix_ok (rg_get hm')))) rfl a_nil)) rfl (fmul_ok (K := K) (by omega) (hf m) (hg m))) rfl a_nil)) rfl (fadd_ok (K := 10000000) (by omega) (hs m (by omega)) (((hf m).mul (hg m)).mono (by omega)))) rfl rfl)
  refine den_rt rfl rfl (fun _ => rfl) ?_
  unfold b_law_dot
  refine Rt.seq (s_setV (d := Tq 0) (e_tup (a_cons (e_i rfl) rfl (a_cons (e_i rfl) rfl a_nil)) rfl (show 2 ≤ sizeLine by decide)) rfl) ?_
  refine Rt.seq (s_for (i_rng (n := n) (v_un rfl rlen) (by omega)) q) ?_
  rw [List.length_map, List.length_range, Nat.zero_add]
  exact Rt.ret (e_i rfl) rfl
theorem fafter_ok {n : Nat} (p : Pn n) {l : List Nat} (nd : l.Nodup) (hn : n ≤ 1000) {w : List Nat} (hw : ∀ a ∈ w, a ∈ l) (hb : n * (2 * bB n 2 w.length + 1) + 2 * bB n 2 w.length + 2 ≤ 10000000) :
    den_law_after [.val (p.d l), .val (.str (sW w))] = some (.ok (.val (RowF n (afterQ n p.m w p.r))), none) := by
  let P0 : Option PV := some (.val (p.d l))
  let P1 : Option PV := some (.val (.str (sW w)))
  let P2 : Option PV := some (.val (.str (sW l)))
  let P4 : Option PV := some (.val (.lst (l.map fun a => MatF n (p.m a))))
  let P5 : Option PV := some (.val (RowF n p.c))
  have rlen : ∀ {f : Nat → Rat}, dLen (RowF n f) = some (.int (n : Int)) := fun {f} => by
    show some (D.int ((Rg n fun i => Tq (f i)).length : Int)) = _
    rw [rg_len]
  obtain ⟨ρ', q, o6, o7, rfl⟩ := loop_inv (g := gName 6) (body := w_law_after_0) (fun k ρ => ∃ o6 o7, ρ = [P0, P1, P2, some (.val (RowF n (afterQ n p.m (w.take k) p.r))), P4, P5, o6, o7, none, none]) (w.map fun a => .str (sW [a])) 0 [P0, P1, P2, some (.val (RowF n p.r)), P4, P5, none, none, none, none] ⟨none, none, rfl⟩ (by
    rintro k d ρ hk ⟨o6, o7, rfl⟩
    rw [Nat.zero_add]
    obtain ⟨a, ha, rfl⟩ : ∃ a, w[k]? = some a ∧ d = .str (sW [a]) := by
      rw [List.getElem?_map] at hk
      cases hlk : w[k]? with
      | none => rw [hlk] at hk; cases hk
      | some b => rw [hlk] at hk; exact ⟨b, rfl, (Option.some.inj hk).symm⟩
    have hkl : k < w.length := (List.getElem?_eq_some_iff.mp ha).1
    have htk : w.take (k + 1) = w.take k ++ [a] := by rw [List.take_add_one, ha]; rfl
    obtain ⟨i, hi, hia⟩ := List.mem_iff_getElem.mp (hw a (List.mem_of_getElem? ha))
    have hli : l[i]? = some a := List.getElem?_eq_some_iff.mpr ⟨hi, hia⟩
    have hs : ∀ i, Sq (bB n 2 w.length) (afterQ n p.m (w.take k) p.r i) := fun i => (afterQ_sq p.b.m (w.take k) (k := 0) p.b.r i).mono (bB_mono (Nat.le_refl _) (Nat.le_refl _) (by rw [List.length_take]; omega))
    rw [htk, afterQ_snoc]
    have hx : dIx (.lst (l.map fun a => MatF n (p.m a))) (.int (i : Int)) = some (MatF n (p.m a)) := ix_ok (by rw [List.getElem?_map, hli]; rfl)
    have hf : dFind (.str (sW l)) (.str (sW [a])) = some (.int (i : Int)) := by rw [o_find, find_w nd hli]
    refine ⟨_, [P0, P1, P2, some (.val (RowF n (stepQ n (afterQ n p.m (w.take k) p.r) (p.m a)))), P4, P5, some (.val (.str (sW [a]))), some (.val (MatF n (p.m a))), none, none], rfl, ?_, _, _, rfl⟩
    unfold w_law_after_0
    refine s_seq (s_setV (e_i (v_bin rfl (v_bin rfl rfl hf) hx)) rfl) ?_
    refine s_setVE (d := RowF n (stepQ n (afterQ n p.m (w.take k) p.r) (p.m a))) (e_lc (xs := List.range n) (φ := fun j => Tq (stepQ n (afterQ n p.m (w.take k) p.r) (p.m a) j)) (i_rng (n := n) (v_un rfl rlen) (by omega)) rfl (rg_sz hn) rfl fun j hj => ⟨_, _, rfl, e_call (a_cons (e_i rfl) rfl (a_cons (e_lc (xs := List.range n) (φ := fun i => Tq (p.m a i j)) (i_rng (n := n) (v_un rfl rlen) (by omega)) rfl (rg_sz hn) rfl fun i hi => ⟨_, .val (Tq (p.m a i j)), rfl, e_i (v_bin (v_bin rfl rfl (ix_ok (rg_get (mem_rg hi)))) rfl (ix_ok (rg_get (mem_rg hj)))), rfl, rfl⟩) rfl a_nil)) rfl (fdot_ok hn hb hs fun i => (p.b.m a i j).mono (bB_ge _)), rfl, rfl⟩) rfl rfl)
  refine den_rt rfl rfl (fun _ => rfl) ?_
  unfold b_law_after
  refine Rt.seq (s_asgT (e_i rfl) rfl rfl) ?_
  refine Rt.seq (s_for (i_w (e_i rfl)) q) ?_
  rw [List.length_map, Nat.zero_add, List.take_length]
  exact Rt.ret (e_i rfl) rfl
theorem fweight_ok {n : Nat} (p : Pn n) {l : List Nat} (nd : l.Nodup) (hn : n ≤ 1000) {w : List Nat} (hw : ∀ a ∈ w, a ∈ l) (hb : n * (2 * bB n 2 w.length + 1) + 2 * bB n 2 w.length + 2 ≤ 10000000) :
    den_law_weight_of [.val (p.d l), .val (.str (sW w))] = some (.ok (.val (Tq (wQ n p.r p.m p.c w))), none) := by
  refine den_rt rfl rfl (fun _ => rfl) ?_
  unfold b_law_weight_of
  refine Rt.ret (e_call (a_cons (e_call (a_cons (e_i rfl) rfl (a_cons (e_i rfl) rfl a_nil)) rfl (fafter_ok p nd hn hw hb)) rfl (a_cons (e_i (v_bin rfl rfl rfl)) rfl a_nil)) rfl (fdot_ok hn hb (fun i => ?_) (fun i => (p.b.c i).mono (bB_ge _)))) rfl
  have := afterQ_sq (n := n) p.b.m w (k := 0) p.b.r i
  rwa [Nat.zero_add] at this
theorem tq_neg (q : Rat) : D.tup [.int (-q.num), .int (q.den : Int)] = Tq (-q) := by
  show _ = D.tup [.int (-q).num, .int ((-q).den : Int)]
  rw [Rat.neg_num, Rat.neg_den]
theorem tq_eq {neg : Bool} {q : Rat} : dEqD neg (Tq q) (Tq q) = some (.bl (xor neg true)) := by
  rw [eqd_T2, decide_eq_true rfl, decide_eq_true rfl]; rfl
theorem bl_ok {a : Nat} (h : a ∈ BL) : 97 ≤ a ∧ a ≤ 122 ∧ a ≠ 113 := by
  unfold BL at h
  simp only [List.mem_cons, List.not_mem_nil, or_false] at h
  omega

/-! ### machines that are refused -/
theorem init_er1 {l : List Nat} {rs ms cs : List D} {ρ : En} (hl : l.length ≤ 1000) (h : rs.length ≠ cs.length ∨ ms.length ≠ l.length) : makeV 3 4 den_Machine_init [AW l, .tup rs, .tup ms, .tup cs] ρ = some (.error ⟨101, []⟩, ρ) := by
  let o : OD := .ins 3 [AW l, .tup rs, .tup ms, .tup cs]
  refine m_er (o := o) ?_
  refine den_err (ρ' := [some (.bor o), some (.val (AW l)), some (.val (.tup rs)), some (.val (.tup ms)), some (.val (.tup cs)), none]) rfl rfl ?_ rfl
  unfold b_Machine_init
  refine s_seq (s_fld (e_i rfl) rfl rfl rfl) ?_
  unfold t_Machine_init_1
  refine s_seq (s_fld (d := .tup rs) (e_f (e_i rfl) rfl (sqD_tup (b := false))) rfl rfl rfl) ?_
  unfold t_Machine_init_2
  refine s_seq (s_fld (d := .tup ms) (e_f (e_i rfl) rfl (sqD_tup (b := false))) rfl rfl rfl) ?_
  unfold t_Machine_init_3
  refine s_seq (s_fld (d := .tup cs) (e_f (e_i rfl) rfl (sqD_tup (b := false))) rfl rfl rfl) ?_
  unfold t_Machine_init_4
  refine s_ifq (b_u (u_or (u_of (v_bin (v_un (v_un rfl rfl) (tup_len (ds := rs) rfl)) (v_un (v_un rfl rfl) (tup_len (ds := cs) rfl)) o_eqI)) fun _ => u_of (v_bin (v_un (v_un rfl rfl) (tup_len (ds := ms) rfl)) (v_un (v_un rfl rfl) (dlen_w hl)) o_eqI))) (fun _ => s_seq_err rfl) (fun q => ?_)
  exfalso
  rcases h with h | h
  · rw [decide_eq_false (show ¬ ((rs.length : Int) = cs.length) by omega)] at q
    cases q
  · rw [decide_eq_false (show ¬ ((ms.length : Int) = l.length) by omega)] at q
    cases hh : decide ((rs.length : Int) = cs.length) <;> rw [hh] at q <;> cases q
theorem init_loop {o : OD} {A1 A2 A3 A4 : Option PV} {n h w : Nat} {cs0 : List D} {r0 : D} {f : Nat → Nat → Rat} {tl : List D} (ho : o = .ins 3 (cs0)) (hr : dFld 3 1 (.obj 3 cs0) = some r0) (hlen : dLen r0 = some (.int (n : Int))) (hn : n ≤ 1000) (hh : h ≤ 1000) (hbad : h ≠ n ∨ w ≠ n) : ∀ (ms : List D), (∀ d ∈ ms, ∃ g, d = MQ n n g) → ∀ o5, ∃ o5', loop (gName 5) w_Machine_init_0 (ms ++ MQ h w f :: tl) [some (.bor o), A1, A2, A3, A4, o5] = some (.error ⟨101, []⟩, [some (.bor o), A1, A2, A3, A4, o5'])
  | [], _, o5 => by
    refine ⟨some (.val (MQ h w f)), loop_er (ρ1 := [some (.bor o), A1, A2, A3, A4, some (.val (MQ h w f))]) rfl ?_⟩
    subst ho
    unfold w_Machine_init_0
    refine s_if (b_or (b_val (e_bin (e_lenO (e_i rfl) mlen_ok (by omega) (by omega)) rfl (e_i (v_un (v_un rfl hr) hlen)) rfl o_eqI)) fun _ => b_u (u_of (v_bin (v_un rfl rfl) (v_un (v_un rfl hr) hlen) o_eqI))) (fun _ => rfl) (fun q => ?_)
    exfalso
    rcases hbad with e | e
    · rw [decide_eq_false (show ¬ ((h : Int) = n) by omega)] at q
      cases q
    · rw [decide_eq_false (show ¬ ((w : Int) = n) by omega)] at q
      cases hx : decide ((h : Int) = n) <;> rw [hx] at q <;> cases q
  | d :: ms, hm, o5 => by
    obtain ⟨g, rfl⟩ := hm d (List.mem_cons_self ..)
    obtain ⟨o5', ih⟩ := init_loop (A1 := A1) (A2 := A2) (A3 := A3) (A4 := A4) (f := f) (tl := tl) ho hr hlen hn hh hbad ms (fun x hx => hm x (List.mem_cons_of_mem _ hx)) (some (.val (MQ n n g)))
    refine ⟨o5', Eq.trans (loop_go (ρ2 := [some (.bor o), A1, A2, A3, A4, some (.val (MQ n n g))]) rfl ?_) ih⟩
    subst ho
    unfold w_Machine_init_0
    refine s_if (b_or (b_val (e_bin (e_lenO (e_i rfl) mlen_ok (by omega) (by omega)) rfl (e_i (v_un (v_un rfl hr) hlen)) rfl o_eqI)) fun _ => b_u (u_of (v_bin (v_un rfl rfl) (v_un (v_un rfl hr) hlen) o_eqI))) (fun q => ?_) (fun _ => rfl)
    exfalso
    rw [decide_eq_true rfl] at q
    cases q
theorem init_er2 {l : List Nat} {rs ms cs tl : List D} {n h w : Nat} {f : Nat → Nat → Rat} {ρ : En} (hl : l.length ≤ 1000) (hn : n ≤ 1000) (hh : h ≤ 1000) (h1 : rs.length = n) (h2 : cs.length = n) (h3 : (ms ++ MQ h w f :: tl).length = l.length) (hm : ∀ d ∈ ms, ∃ g, d = MQ n n g) (hbad : h ≠ n ∨ w ≠ n) :
    makeV 3 4 den_Machine_init [AW l, .tup rs, .tup (ms ++ MQ h w f :: tl), .tup cs] ρ = some (.error ⟨101, []⟩, ρ) := by
  let o : OD := .ins 3 [AW l, .tup rs, .tup (ms ++ MQ h w f :: tl), .tup cs]
  obtain ⟨o5, hq⟩ := init_loop (o := o) (A1 := some (.val (AW l))) (A2 := some (.val (.tup rs))) (A3 := some (.val (.tup (ms ++ MQ h w f :: tl)))) (A4 := some (.val (.tup cs))) (f := f) (tl := tl) rfl (show dFld 3 1 (.obj 3 [AW l, .tup rs, .tup (ms ++ MQ h w f :: tl), .tup cs]) = some (.tup rs) from rfl) (tup_len h1) hn hh hbad ms hm none
  refine m_er (o := o) ?_
  refine den_err (ρ' := [some (.bor o), some (.val (AW l)), some (.val (.tup rs)), some (.val (.tup (ms ++ MQ h w f :: tl))), some (.val (.tup cs)), o5]) rfl rfl ?_ rfl
  unfold b_Machine_init
  refine s_seq (s_fld (e_i rfl) rfl rfl rfl) ?_
  unfold t_Machine_init_1
  refine s_seq (s_fld (d := .tup rs) (e_f (e_i rfl) rfl (sqD_tup (b := false))) rfl rfl rfl) ?_
  unfold t_Machine_init_2
  refine s_seq (s_fld (d := .tup (ms ++ MQ h w f :: tl)) (e_f (e_i rfl) rfl (sqD_tup (b := false))) rfl rfl rfl) ?_
  unfold t_Machine_init_3
  refine s_seq (s_fld (d := .tup cs) (e_f (e_i rfl) rfl (sqD_tup (b := false))) rfl rfl rfl) ?_
  unfold t_Machine_init_4
  refine s_ifq (b_u (u_or (u_of (v_bin (v_un (v_un rfl rfl) (tup_len (ds := rs) rfl)) (v_un (v_un rfl rfl) (tup_len (ds := cs) rfl)) o_eqI)) fun _ => u_of (v_bin (v_un (v_un rfl rfl) (tup_len (ds := ms ++ MQ h w f :: tl) rfl)) (v_un (v_un rfl rfl) (dlen_w hl)) o_eqI))) (fun q => ?_) (fun _ => s_next ?_)
  · exfalso
    rw [decide_eq_true (show ((rs.length : Int) = cs.length) by omega), decide_eq_true (show (((ms ++ MQ h w f :: tl).length : Int) = l.length) by omega)] at q
    cases q
  · exact s_for (i_tup (e_i (v_un rfl rfl)) rfl) hq

/-! ### rows of the program told as pairs; the column before a word -/
theorem plainF {n : Nat} {f : Nat → Rat} : plainD 3 (RowF n f) = true := by simp [plainD]
theorem row_same {b : Bool} {n : Nat} {f : Nat → Rat} : dEqD b (RowF n f) (RowF n f) = some (.bl (!b)) := eqd_same plainF (by decide)
theorem fpairs_ok {n : Nat} {f : Nat → Rat} (hn : n ≤ 1000) : den_law_pairs [.val (RowQ n f)] = some (.ok (.val (RowF n f)), none) := by
  refine den_rt rfl rfl (fun _ => rfl) ?_
  unfold b_law_pairs
  refine Rt.ifq (b_u (u_not (b := true) (u_of (v_un rfl rfl)))) (fun z => by cases z) (fun _ => Rt.next ?_)
  refine Rt.seq (s_setV (e_lc (xs := List.range n) (φ := fun i => Tq (f i)) (i_tup (e_i rfl) rfl) rfl (rg_sz hn) rfl fun i hi => ⟨_, _, rfl, e_call (a_cons (e_i rfl) rfl a_nil) rfl (fpair_ok _), rfl, rfl⟩) rfl) ?_
  refine Rt.ifq (b_u (u_of (v_bin rfl rfl (in_none (n := 1) (ds := Rg n fun i => Tq (f i)) (by simp [plainD]) (by decide) (fun d hd => by obtain ⟨j, _, rfl⟩ := List.mem_map.mp hd; exact ⟨_, rfl⟩))))) (fun z => by cases z) (fun _ => Rt.next ?_)
  exact Rt.ret (e_i rfl) rfl
theorem fbefore_ok {n : Nat} (p : Pn n) {l : List Nat} (nd : l.Nodup) (hn : n ≤ 1000) {w : List Nat} (hw : ∀ a ∈ w, a ∈ l) (hwl : w.length ≤ 1000) (hb : n * (2 * bB n 2 w.length + 1) + 2 * bB n 2 w.length + 2 ≤ 10000000) :
    den_law_before [.val (p.d l), .val (.str (sW w))] = some (.ok (.val (RowF n (colQ n p.m w p.c))), none) := by
  let P0 : Option PV := some (.val (p.d l))
  let P1 : Option PV := some (.val (.str (sW w)))
  let P2 : Option PV := some (.val (.str (sW l)))
  let P3 : Option PV := some (.val (RowF n p.r))
  let P4 : Option PV := some (.val (.lst (l.map fun a => MatF n (p.m a))))
  obtain ⟨ρ', q, o6, o7, rfl⟩ := loop_inv (g := gName 6) (body := w_law_before_0) (fun k ρ => ∃ o6 o7, ρ = [P0, P1, P2, P3, P4, some (.val (RowF n (colQ n p.m (w.reverse.take k).reverse p.c))), o6, o7, none]) (w.reverse.map fun a => .str (sW [a])) 0 [P0, P1, P2, P3, P4, some (.val (RowF n p.c)), none, none, none] ⟨none, none, rfl⟩ (by
    rintro k d ρ hk ⟨o6, o7, rfl⟩
    rw [Nat.zero_add]
    obtain ⟨a, ha, rfl⟩ : ∃ a, w.reverse[k]? = some a ∧ d = .str (sW [a]) := by
      rw [List.getElem?_map] at hk
      cases hlk : w.reverse[k]? with
      | none => rw [hlk] at hk; cases hk
      | some b => rw [hlk] at hk; exact ⟨b, rfl, (Option.some.inj hk).symm⟩
    have hkl : k < w.length := by
      have := (List.getElem?_eq_some_iff.mp ha).1
      rwa [List.length_reverse] at this
    have htk : (w.reverse.take (k + 1)).reverse = a :: (w.reverse.take k).reverse := by rw [List.take_add_one, ha]; simp
    obtain ⟨i, hi, hia⟩ := List.mem_iff_getElem.mp (hw a (List.mem_reverse.mp (List.mem_of_getElem? ha)))
    have hli : l[i]? = some a := List.getElem?_eq_some_iff.mpr ⟨hi, hia⟩
    have hs : ∀ i, Sq (bB n 2 w.length) (colQ n p.m (w.reverse.take k).reverse p.c i) := fun i => (colQ_sq (n := n) p.b.m p.b.c (w.reverse.take k).reverse i).mono (bB_mono (Nat.le_refl _) (Nat.le_refl _) (by rw [List.length_reverse, List.length_take, List.length_reverse]; omega))
    rw [htk, colQ_cons]
    have hx : dIx (.lst (l.map fun a => MatF n (p.m a))) (.int (i : Int)) = some (MatF n (p.m a)) := ix_ok (by rw [List.getElem?_map, hli]; rfl)
    have hf : dFind (.str (sW l)) (.str (sW [a])) = some (.int (i : Int)) := by rw [o_find, find_w nd hli]
    refine ⟨_, [P0, P1, P2, P3, P4, some (.val (RowF n fun i => sumN n fun j => p.m a i j * colQ n p.m (w.reverse.take k).reverse p.c j)), some (.val (.str (sW [a]))), some (.val (MatF n (p.m a))), none], rfl, ?_, _, _, rfl⟩
    unfold w_law_before_0
    refine s_seq (s_setV (e_i (v_bin rfl (v_bin rfl rfl hf) hx)) rfl) ?_
    exact s_setVE (e_lc (xs := List.range n) (φ := fun i => Tq (sumN n fun j => p.m a i j * colQ n p.m (w.reverse.take k).reverse p.c j)) (i_lst (e_i rfl) rfl) rfl (rg_sz hn) rfl fun i hi => ⟨_, _, rfl, e_call (a_cons (e_i rfl) rfl (a_cons (e_i rfl) rfl a_nil)) rfl (fdot_ok hn hb (fun j => (p.b.m a i j).mono (bB_ge _)) hs), rfl, rfl⟩) rfl rfl)
  refine den_rt rfl rfl (fun _ => rfl) ?_
  unfold b_law_before
  refine Rt.seq (s_asgT (e_i rfl) rfl rfl) ?_
  refine Rt.seq (s_for (i_lst (e_f (e_f (e_i rfl) rfl (lst_w hwl)) rfl (show dRevL (.lst (w.map fun c => .str (sW [c]))) = some (.own (.lst (w.reverse.map fun c => .str (sW [c])))) by rw [List.map_reverse]; rfl)) rfl) q) ?_
  rw [List.length_map, Nat.zero_add, List.take_length, List.reverse_reverse]
  exact Rt.ret (e_i rfl) rfl

/-! ### the law -/
theorem v_isE {i : Nat} {a : Addr} {b : Bool} {ρ : En} (h : ρ.at i = some (.adr a)) : iIsE i a b ρ = some (.bl b) := by
  unfold iIsE
  rw [h]
  exact if_pos rfl
theorem after_er1 {l : List Nat} {n : Nat} {r c : Nat → Rat} {m : Nat → Nat → Nat → Rat} {b : Nat} {w : List Nat} (hb : b ∉ l) : den_Machine_row_after [.val (MG l n r m c), .val (.str (sW (b :: w)))] = some (.error ⟨102, [.str "letter"]⟩, none) := by
  refine den_er rfl rfl (fun _ => rfl) ?_
  unfold b_Machine_row_after
  refine Er.seq (s_setV (e_i (v_un rfl rfl)) rfl) ?_
  refine Er.now ⟨[some (.val (MG l n r m c)), some (.val (.str (sW (b :: w)))), some (.val (RowQ n r)), some (.val (.str (sW [b])))], s_for (i_w (e_i rfl)) (loop_er rfl ?_)⟩
  unfold w_Machine_row_after_0
  exact s_setV_er (e_meth_er (e_bin_er2 (e_i (v_un rfl rfl)) rfl (e_meth (r := .error ⟨102, [.str "letter"]⟩) (e_i (v_un rfl rfl)) (a_cons (e_i rfl) rfl a_nil) rfl (aidx_er hb))))
theorem before_er1 {l : List Nat} {n : Nat} {r c : Nat → Rat} {m : Nat → Nat → Nat → Rat} {b : Nat} (hb : b ∉ l) : den_Machine_column_before [.val (MG l n r m c), .val (.str (sW [b]))] = some (.error ⟨102, [.str "letter"]⟩, none) := by
  refine den_er rfl rfl (fun _ => rfl) ?_
  unfold b_Machine_column_before
  refine Er.seq (s_setV (e_i (v_un rfl rfl)) rfl) ?_
  refine Er.now ⟨[some (.val (MG l n r m c)), some (.val (.str (sW [b]))), some (.val (RowQ n c)), some (.val (.str (sW [b])))], s_for (i_rev (e_f (e_i rfl) rfl (lst_w (show 1 ≤ 1000 by decide))) rfl) (loop_er rfl ?_)⟩
  unfold w_Machine_column_before_0
  exact s_setV_er (e_meth_er (e_bin_er2 (e_i (v_un rfl rfl)) rfl (e_meth (r := .error ⟨102, [.str "letter"]⟩) (e_i (v_un rfl rfl)) (a_cons (e_i rfl) rfl a_nil) rfl (aidx_er hb))))
theorem weight_er1 {l : List Nat} {n : Nat} {r c : Nat → Rat} {m : Nat → Nat → Nat → Rat} {b : Nat} (hb : b ∉ l) : den_Machine_weight [.val (MG l n r m c), .val (.str (sW [b]))] = some (.error ⟨102, [.str "letter"]⟩, none) := by
  refine den_er rfl rfl (fun _ => rfl) ?_
  unfold b_Machine_weight
  exact Er.ret (e_call_er (a_cons_er (e_meth (r := .error ⟨102, [.str "letter"]⟩) (e_i rfl) (a_cons (e_i rfl) rfl a_nil) rfl (after_er1 hb))))
theorem mcall_ok {l : List Nat} {n : Nat} {r c : Nat → Rat} {m : Nat → Nat → Nat → Rat} {w : List Nat} {q : Rat} (h : den_Machine_weight [.val (MG l n r m c), .val (.str (sW w))] = some (.ok (.val (Rq q)), none)) : den_Machine_call [.val (MG l n r m c), .val (.str (sW w))] = some (.ok (.val (Rq q)), none) := by
  refine den_rt rfl rfl (fun _ => rfl) ?_
  unfold b_Machine_call
  exact Rt.ret (e_meth (e_i rfl) (a_cons (e_i rfl) rfl a_nil) rfl h) rfl
theorem refused_ok {l : List Nat} {n : Nat} {r c : Nat → Rat} {m : Nat → Nat → Nat → Rat} (h113 : 113 ∉ l) : den_law_refused [.val (MG l n r m c)] = some (.ok (.val (.bl true)), none) := by
  have eq1 : ("q" : Str) = sW [113] := by decide +kernel
  have eq2 : ("qq" : Str) = sW [113, 113] := by decide +kernel
  have hq : dEqF false (.str "letter") (.str "letter") = some (.bl true) := by
    rw [o_eqS, decide_eq_true rfl]; rfl
  let M_ : Option PV := some (.val (MG l n r m c))
  have w1 : den_Machine_weight [.val (MG l n r m c), .val (.str "q")] = some (.error ⟨102, [.str "letter"]⟩, none) := by rw [eq1]; exact weight_er1 h113
  have w2 : den_Machine_row_after [.val (MG l n r m c), .val (.str "qq")] = some (.error ⟨102, [.str "letter"]⟩, none) := by rw [eq2]; exact after_er1 h113
  have w3 : den_Machine_column_before [.val (MG l n r m c), .val (.str "q")] = some (.error ⟨102, [.str "letter"]⟩, none) := by rw [eq1]; exact before_er1 h113
  have hnd : ∀ {a : Addr} {k : Int} {t : Option PV}, (if (⟨102, [.str "letter"]⟩ : Ex).c = 102 then (sIf (bAnd (bU (uOf (iIsE 3 a true))) (bVal (eBin (dEqF false) (eXf 3 a ⟨102, [.str "letter"]⟩ 0) (eI (iC (.str "letter")))))) (sAsgV 1 (eI (iBin dAdd (iVar 1) (iC (.int 1))))) (mR .next)) else fun _ => none) [M_, some (.val (.int k)), t, some (.adr a)] = some (.ok .next, [M_, some (.val (.int (k + 1))), t, some (.adr a)]) := fun {a k t} => by
    rw [if_pos rfl]
    exact s_if (b_and (b := true) (b_u (u_of (v_isE rfl))) fun _ => b_val (e_bin (e_xf rfl rfl) rfl (e_i rfl) rfl hq)) (fun _ => s_setVE (e_i (v_bin rfl rfl o_add)) rfl rfl) (fun z => by cases z)
  obtain ⟨ρ', q, o2, o3, rfl⟩ := loop_inv (g := gName 2) (body := w_law_refused_0) (fun k ρ => ∃ o2 o3, ρ = [M_, some (.val (.int (k : Int))), o2, o3]) ((List.range 3).map fun k => .int ((k : Nat) : Int)) 0 [M_, some (.val (.int 0)), none, none] ⟨_, _, rfl⟩ (by
    rintro k d ρ hk ⟨o2, o3, rfl⟩
    rw [Nat.zero_add]
    have hk' : k < 3 := by
      have := (List.getElem?_eq_some_iff.mp hk).1
      simpa using this
    have hd : d = .int (k : Int) := by
      rw [List.getElem?_map, List.getElem?_range hk'] at hk
      exact (Option.some.inj hk).symm
    subst hd
    refine ⟨_, [M_, some (.val (.int ((k : Int) + 1))), some (.val (.int (k : Int))), none], rfl, ?_, _, _, rfl⟩
    unfold w_law_refused_0
    refine s_tryas_hit (x := ⟨102, [.str "letter"]⟩) (ρ1 := [M_, some (.val (.int (k : Int))), some (.val (.int (k : Int))), o3]) ?_ rfl fun a => ⟨_, hnd, rfl⟩
    match k, hk' with
    | 0, _ => exact s_ifq (b_u (u_of (v_bin rfl rfl o_eqI))) (fun _ => s_seq_err (s_exp_err (e_meth (r := .error ⟨102, [.str "letter"]⟩) (e_i rfl) (a_cons (e_i rfl) rfl a_nil) rfl w1))) (fun z => by cases z)
    | 1, _ => exact s_ifq (b_u (u_of (v_bin rfl rfl o_eqI))) (fun z => by cases z) (fun _ => s_next (s_ifq (b_u (u_of (v_bin rfl rfl o_eqI))) (fun _ => s_seq_err (s_exp_err (e_meth (r := .error ⟨102, [.str "letter"]⟩) (e_i rfl) (a_cons (e_i rfl) rfl a_nil) rfl w2))) (fun z => by cases z)))
    | 2, _ => exact s_ifq (b_u (u_of (v_bin rfl rfl o_eqI))) (fun z => by cases z) (fun _ => s_next (s_ifq (b_u (u_of (v_bin rfl rfl o_eqI))) (fun z => by cases z) (fun _ => s_next (s_if (b_u (u_of (v_bin rfl rfl o_eqI))) (fun _ => s_exp_err (e_meth (r := .error ⟨102, [.str "letter"]⟩) (e_i rfl) (a_cons (e_i rfl) rfl a_nil) rfl w3)) (fun z => by cases z))))))
  refine den_rt rfl rfl (fun _ => rfl) ?_
  unfold b_law_refused
  refine Rt.seq (s_setV (e_i rfl) rfl) ?_
  refine Rt.seq (s_for (i_rng (n := 3) rfl (by decide)) q) ?_
  exact Rt.ret (e_i (v_bin rfl rfl o_eqI)) rfl
theorem bad_ok {l : List Nat} {n : Nat} {r c : Nat → Rat} {m : Nat → Nat → Nat → Rat} {k : Nat} (h1 : 1 ≤ l.length) (hl : l.length ≤ 100) (hn : n ≤ 100) (hk : k < 4) : den_law_bad [.val (MG l n r m c), .val (.int (k : Int))] = some (.ok (.val (.bl true)), none) := by
  let ms : List D := l.map fun a => MQ n n (m a)
  let W : D := MQ n (n + 1) fun _ _ => 0
  have hn1 : ((n : Int) + 1) = ((n + 1 : Nat) : Int) := by omega
  let E : Option PV → En := fun o => [some (.val (MG l n r m c)), some (.val (.int (k : Int))), some (.val (RowQ n r)), some (.val (.tup ms)), some (.val (RowQ n c)), some (.val W), none, none, o]
  have hc : dSlice (.tup ms) (some 1) none = some (.val (.tup (ms.drop 1))) := by
    show some (PV.val (.tup (dCutL ms (some ((1 : Nat) : Int)) none))) = _
    unfold dCutL
    rw [HT.sIx_nat, HT.sIx_none, Nat.min_eq_left (show 1 ≤ ms.length by show 1 ≤ (l.map _).length; rw [List.length_map]; exact h1), List.take_of_length_le (by rw [List.length_drop]; exact Nat.le_refl _)]
  have mlen : ms.length = l.length := List.length_map _
  have mgood : ∀ d ∈ ms, ∃ g, d = MQ n n g := fun d hd => by
    obtain ⟨a, _, rfl⟩ := List.mem_map.mp hd
    exact ⟨_, rfl⟩
  have tup1 : ∀ {z : Int} {ρ : En}, eTup (aCons (eMakeD 0 2 den_Ratio_init [.int 1] (aCons (eI (iC (.int z))) aNil)) aNil) ρ = some (.ok (.val (.tup [Rq (z : Rat)])), ρ) := e_tup (a_cons (e_makeD (a_cons (e_i rfl) rfl a_nil) rfl mkqI) rfl a_nil) rfl (show 1 ≤ sizeLine by decide)
  have catc : ∀ {f : Nat → Rat} {q : Rat}, dCatT (RowQ n f) (.tup [Rq q]) = some (.val (RowQ (n + 1) (catQ n f fun _ => q))) := fun {f q} => catT_q (m := 1) (g := fun _ => q) (by omega) (by decide)
  have ex : ∀ {o : Option PV} {e : M PV} {g : M Fl}, e (E o) = some (.error ⟨101, []⟩, E o) → sSeq (sExp e) g (E o) = some (.error ⟨101, []⟩, E o) := fun h => s_seq_err (s_exp_err h)
  have split : ∃ a tl, l = a :: tl := by
    cases l with
    | nil => simp at h1
    | cons a tl => exact ⟨a, tl, rfl⟩
  refine' den_rt (pv := .val (.bl true)) rfl rfl (fun _ => rfl) ?_
  unfold b_law_bad
  refine Rt.seq (s_asgT (d := .tup [RowQ n r, .tup ms, RowQ n c]) (e_tup (a_cons (e_i (v_un rfl rfl)) rfl (a_cons (e_i (v_un rfl rfl)) rfl (a_cons (e_i (v_un rfl rfl)) rfl a_nil))) rfl (show 3 ≤ sizeLine by decide)) rfl rfl) ?_
  refine Rt.seq (s_setV (d := W) (e_make (a_cons (d := .lst (Rg n fun _ => .lst (Rg (n + 1) fun _ => Rq 0))) (e_lc (xs := List.range n) (φ := fun _ => .lst (Rg (n + 1) fun _ => Rq 0)) (i_rng (n := n) (v_un rfl rq_len) (by omega)) rfl (rg_sz (by omega)) rfl fun i hi => ⟨_, _, rfl, e_lc (xs := List.range (n + 1)) (φ := fun _ => Rq 0) (i_rng (n := n + 1) (v_bin (v_un rfl rq_len) rfl (o_add.trans (by rw [hn1]))) (by omega)) rfl (rg_sz (by omega)) rfl fun j hj => ⟨_, _, rfl, e_makeD (a_cons (e_i rfl) rfl a_nil) rfl mkqI, rfl, rfl⟩, rfl, rfl⟩) rfl (a_cons (e_i (v_bin (v_un rfl rq_len) rfl (o_add.trans (by rw [hn1])))) rfl a_nil)) rfl (mkM1 (f := fun _ _ => 0) (by omega))) rfl) ?_
  show Rt _ (E none) _
  refine ⟨E none, s_seq_ret (s_tryas_hit (x := ⟨101, []⟩) (ρ1 := E none) ?_ rfl fun a => ⟨E (some (.adr a)), ?_, rfl⟩)⟩
  · rcases (show k = 0 ∨ k = 1 ∨ k = 2 ∨ k = 3 by omega) with rfl | rfl | rfl | rfl
    · exact s_ifq (b_u (u_of (v_bin rfl rfl o_eqI))) (fun _ => ex (e_make (r := .error ⟨101, []⟩) (a_cons (e_i (v_un rfl rfl)) rfl (a_cons (e_f2 (e_i rfl) rfl tup1 rfl catc) rfl (a_cons (e_i rfl) rfl (a_cons (e_i rfl) rfl a_nil)))) rfl (init_er1 (by omega) (.inl (by rw [rg_len, rg_len]; omega))))) (fun z => by cases z)
    · exact s_ifq (b_u (u_of (v_bin rfl rfl o_eqI))) (fun z => by cases z) (fun _ => s_next (s_ifq (b_u (u_of (v_bin rfl rfl o_eqI))) (fun _ => ex (e_make (r := .error ⟨101, []⟩) (a_cons (e_i (v_un rfl rfl)) rfl (a_cons (e_i rfl) rfl (a_cons (e_slice (e_i rfl) rfl (p_some rfl) rfl hc) rfl (a_cons (e_i rfl) rfl a_nil)))) rfl (init_er1 (by omega) (.inr (by rw [List.length_drop, mlen]; omega))))) (fun z => by cases z)))
    · exact s_ifq (b_u (u_of (v_bin rfl rfl o_eqI))) (fun z => by cases z) (fun _ => s_next (s_ifq (b_u (u_of (v_bin rfl rfl o_eqI))) (fun z => by cases z) (fun _ => s_next (s_ifq (b_u (u_of (v_bin rfl rfl o_eqI))) (fun _ => ex (e_make (r := .error ⟨101, []⟩) (a_cons (e_i (v_un rfl rfl)) rfl (a_cons (e_f2 (e_i rfl) rfl tup1 rfl catc) rfl (a_cons (e_i rfl) rfl (a_cons (e_f2 (e_i rfl) rfl tup1 rfl catc) rfl a_nil)))) rfl (by
        obtain ⟨a, tl, rfl⟩ := split
        exact init_er2 (n := n + 1) (h := n) (w := n) (ms := []) (f := m a) (tl := tl.map fun a => MQ n n (m a)) (by omega) (by omega) (by omega) rg_len rg_len (by simp) (fun _ h => nomatch h) (.inl (by omega))))) (fun z => by cases z)))))
    · exact s_ifq (b_u (u_of (v_bin rfl rfl o_eqI))) (fun z => by cases z) (fun _ => s_next (s_ifq (b_u (u_of (v_bin rfl rfl o_eqI))) (fun z => by cases z) (fun _ => s_next (s_ifq (b_u (u_of (v_bin rfl rfl o_eqI))) (fun z => by cases z) (fun _ => s_next (s_if (b_u (u_of (v_bin rfl rfl o_eqI))) (fun _ => s_exp_err (e_make (r := .error ⟨101, []⟩) (a_cons (e_i (v_un rfl rfl)) rfl (a_cons (e_i rfl) rfl (a_cons (e_f2 (e_slice (e_i rfl) rfl (p_some rfl) rfl hc) rfl (e_tup (a_cons (e_i rfl) rfl a_nil) rfl (show 1 ≤ sizeLine by decide)) rfl (show dCatT (.tup (ms.drop 1)) (.tup [W]) = some (.val (.tup (ms.drop 1 ++ [W]))) from if_pos (by rw [List.length_drop, mlen]; exact Nat.le_trans (show _ ≤ 1000 by show _ + 1 ≤ 1000; omega) (by decide)))) rfl (a_cons (e_i rfl) rfl a_nil)))) rfl (init_er2 (n := n) (h := n) (w := n + 1) (ms := ms.drop 1) (tl := []) (by omega) (by omega) (by omega) rg_len rg_len (by rw [List.length_append, List.length_drop, mlen]; show l.length - 1 + 1 = _; omega) (fun d hd => mgood d (List.mem_of_mem_drop hd)) (.inr (by omega))))) (fun z => by cases z)))))))
  · rw [if_pos ⟨rfl, rfl⟩]
    exact s_ret (e_i (v_isE rfl))
theorem law_all {ns : List Int} (hn : ns.length ≤ 63) (hb : ∀ z ∈ ns, Builtin.Int.intBits z ≤ 1048576) : den_law [.val (Scr ns)] = some (.ok (.val (.bl true)), none) := by
  obtain ⟨z0, e0⟩ := state_ok hn hb
  obtain ⟨l, z1, l1, l3, nd, hl, e1⟩ := fletters_ok z0 (k := 3) (by decide) (by decide)
  obtain ⟨n, p, z2, n3, e2⟩ := fplan_ok z1 (l := l) (k := 3) nd (by omega) (by decide)
  have hs : ∀ a ∈ l, 97 ≤ a ∧ a ≤ 122 := fun a ha => ⟨(bl_ok (hl a ha)).1, (bl_ok (hl a ha)).2.1⟩
  have h113 : 113 ∉ l := fun h => (bl_ok (hl _ h)).2.2 rfl
  have bnd : ∀ {k : Nat}, k ≤ 4 → n * (2 * bB n 2 k + 1) + 2 * bB n 2 k + 2 ≤ 10000000 := fun {k} h3 => by
    have b1 := bB_mono n3 (Nat.le_refl 2) h3
    have b2 : bB 3 2 4 ≤ 5000 := by decide
    have : n * (2 * bB n 2 k + 1) ≤ 3 * (2 * bB n 2 k + 1) := Nat.mul_le_mul_right _ n3
    omega
  have rlen : ∀ {f : Nat → Rat}, dLen (RowF n f) = some (.int (n : Int)) := fun {f} => by
    show some (D.int ((Rg n fun i => Tq (f i)).length : Int)) = _
    rw [rg_len]
  let MA_ : D := MG l n p.r p.m p.c
  refine den_rt rfl rfl (fun _ => rfl) ?_
  unfold b_law
  show Rt _ [some (.val (Scr ns)), none, none, none, none, none, none, none, none, none, none] _
  refine' Rt.seq (s_set (e_call (a_cons (e_i rfl) rfl a_nil) rfl e0)) ?_
  dsimp only [List.set]
  unfold t_law_1
  refine' Rt.seq (s_setV (e_callB rfl (a_cons (e_i rfl) rfl a_nil) rfl rfl e1) rfl) ?_
  dsimp only [List.set]
  unfold t_law_2
  refine' Rt.seq (s_setV (e_callB rfl (a_cons (e_i rfl) rfl (a_cons (e_i rfl) rfl a_nil)) rfl rfl e2) rfl) ?_
  dsimp only [List.set]
  unfold t_law_3
  refine' Rt.seq (s_setV (e_call (a_cons (e_i rfl) rfl a_nil) rfl (fmach_ok p l1 (by omega) nd hs (by omega))) rfl) ?_
  dsimp only [List.set]
  unfold t_law_4
  refine' Rt.ifq (b_or (b := false) (b_val (e_bin (e_meth (e_i rfl) a_nil rfl sizeG_ok) rfl (e_i (v_un (v_bin rfl rfl (ix_okT (j := 1) rfl)) rlen)) rfl (o_eqI.trans (by rw [decide_eq_true rfl]; rfl)))) fun _ => b_or (b := false) (b_val (e_bin (e_call (a_cons (e_i (v_un rfl rfl)) rfl a_nil) rfl (fpairs_ok (by omega))) rfl (e_i (v_bin rfl rfl (ix_okT (j := 1) rfl))) rfl row_same)) fun _ => b_val (e_bin (e_call (a_cons (e_i (v_un rfl rfl)) rfl a_nil) rfl (fpairs_ok (by omega))) rfl (e_i (v_bin rfl rfl (ix_okT (j := 3) rfl))) rfl row_same)) (fun z => by cases z) (fun _ => Rt.next ?_)
  unfold t_law_5
  obtain ⟨ρ', hq, z, o5, o6, o7, o8, o9, o10, rfl⟩ := loop_same (g := gName 5) (body := w_law_0) (B := (List.range 3).map fun k => .int ((k : Nat) : Int)) (ρ := [some (.val (Scr ns)), some (.own z2.o), some (.val (.str (sW l))), some (.val (p.d l)), some (.val MA_), none, none, none, none, none, none]) (fun ρ => ∃ (z : St) (o5 o6 o7 o8 o9 o10 : Option PV), ρ = [some (.val (Scr ns)), some (.own z.o), some (.val (.str (sW l))), some (.val (p.d l)), some (.val MA_), o5, o6, o7, o8, o9, o10]) ⟨z2, _, _, _, _, _, _, rfl⟩ (by
    rintro d hd ρ ⟨z, o5, o6, o7, o8, o9, o10, rfl⟩
    obtain ⟨w, z', hw4, hwl, ew⟩ := fword_ok z (l := l) (k := 4) l1 (by omega) (by decide)
    obtain ⟨t, z'', ht, et⟩ := take_ok z' (m := w.length + 1) (by omega)
    have hw1 : ((w.length : Int) + 1) = ((w.length + 1 : Nat) : Int) := by omega
    have hul : ∀ a ∈ w.take t, a ∈ l := fun a h => hwl a (List.mem_of_mem_take h)
    have hvl : ∀ a ∈ w.drop t, a ∈ l := fun a h => hwl a (List.mem_of_mem_drop h)
    have hut : (w.take t).length ≤ 4 := by rw [List.length_take]; omega
    have hvt : (w.drop t).length ≤ 4 := by rw [List.length_drop]; omega
    have c1 : dSlice (.str (sW w)) none (some (t : Int)) = some (.val (.str (sW (w.take t)))) := cutw_hi (by omega) (by omega)
    have c2 : dSlice (.str (sW w)) (some (t : Int)) none = some (.val (.str (sW (w.drop t)))) := cutw_lo (by omega) (by omega)
    have hx := fweight_ok p nd (by omega) hwl (bnd hw4)
    have k1 := weightG_ok (l := l) (n := n) (K := 2) p.b (by omega) nd (by omega) (w := w) hwl (bnd hw4)
    have ka := after_ok (l := l) p.b (by omega) nd (by omega) hul (bnd hut)
    have kb := before_ok (l := l) p.b (by omega) nd (by omega) hvl (by omega) (bnd hvt)
    have fa := fafter_ok p nd (by omega) hul (bnd hut)
    have fb := fbefore_ok p nd (by omega) hvl (by omega) (bnd hvt)
    have hdot : (sumN n fun i => afterQ n p.m (w.take t) p.r i * colQ n p.m (w.drop t) p.c i) = wQ n p.r p.m p.c w := by
      have := wQ_right (n := n) (r := p.r) (c := p.c) (m := p.m) (w.drop t) (w.take t)
      rw [List.take_append_drop] at this
      exact this
    have kd : den_law_dot [.val (RowF n (afterQ n p.m (w.take t) p.r)), .val (RowF n (colQ n p.m (w.drop t) p.c))] = some (.ok (.val (Tq (wQ n p.r p.m p.c w))), none) := by
      rw [← hdot]
      refine fdot_ok (K := bB n 2 4) (by omega) (bnd (Nat.le_refl _)) (fun i => ?_) (fun i => (colQ_sq (n := n) p.b.m p.b.c (w.drop t) i).mono (bB_mono (Nat.le_refl _) (Nat.le_refl _) hvt))
      have := afterQ_sq (n := n) p.b.m (w.take t) (k := 0) p.b.r i
      rw [Nat.zero_add] at this
      exact this.mono (bB_mono (Nat.le_refl _) (Nat.le_refl _) hut)
    refine ⟨_, [some (.val (Scr ns)), some (.own z''.o), some (.val (.str (sW l))), some (.val (p.d l)), some (.val MA_), some (.val d), some (.val (.str (sW w))), some (.val (Tq (wQ n p.r p.m p.c w))), some (.val (.int (t : Int))), some (.val (RowF n (afterQ n p.m (w.take t) p.r))), some (.val (RowF n (colQ n p.m (w.drop t) p.c)))], rfl, ?_, z'', _, _, _, _, _, _, rfl⟩
    unfold w_law_0
    refine s_seq (s_setV (e_callB rfl (a_cons (e_i rfl) rfl (a_cons (e_i rfl) rfl a_nil)) rfl rfl ew) rfl) ?_
    refine s_seq (s_setV (e_call (a_cons (e_i rfl) rfl (a_cons (e_i rfl) rfl a_nil)) rfl hx) rfl) ?_
    refine s_ifq (b_or (b := false) (b_val (e_bin (e_call (a_cons (e_meth (e_i rfl) (a_cons (e_i rfl) rfl a_nil) rfl k1) rfl a_nil) rfl (fpair_ok _)) rfl (e_i rfl) rfl tq_eq)) fun _ => b_val (e_bin (e_call (a_cons (e_meth (e_i rfl) (a_cons (e_i rfl) rfl a_nil) rfl (mcall_ok k1)) rfl a_nil) rfl (fpair_ok _)) rfl (e_i rfl) rfl tq_eq)) (fun z => by cases z) (fun _ => s_next ?_)
    refine s_seq (s_setV (e_callB rfl (a_cons (e_i (v_bin (v_un rfl (dlen_w (by omega))) rfl (o_add.trans (by rw [hw1])))) rfl a_nil) rfl rfl et) rfl) ?_
    refine s_seq (s_par2 (a_cons (e_call (a_cons (e_meth (e_i rfl) (a_cons (e_slice (e_i rfl) rfl rfl (p_some rfl) c1) rfl a_nil) rfl ka) rfl a_nil) rfl (fpairs_ok (by omega))) rfl (a_cons (e_call (a_cons (e_meth (e_i rfl) (a_cons (e_slice (e_i rfl) rfl (p_some rfl) rfl c2) rfl a_nil) rfl kb) rfl a_nil) rfl (fpairs_ok (by omega))) rfl a_nil)) rfl) ?_
    refine s_ifq (b_or (b := false) (b_val (e_bin (e_i rfl) rfl (e_call (a_cons (e_i rfl) rfl (a_cons (e_slice (e_i rfl) rfl rfl (p_some rfl) c1) rfl a_nil)) rfl fa) rfl row_same)) fun _ => b_val (e_bin (e_i rfl) rfl (e_call (a_cons (e_i rfl) rfl (a_cons (e_slice (e_i rfl) rfl (p_some rfl) rfl c2) rfl a_nil)) rfl fb) rfl row_same)) (fun z => by cases z) (fun _ => s_next ?_)
    exact s_if (b_val (e_bin (e_call (a_cons (e_i rfl) rfl (a_cons (e_i rfl) rfl a_nil)) rfl kd) rfl (e_i rfl) rfl tq_eq)) (fun z => by cases z) (fun _ => rfl))
  refine' Rt.seq (s_for (i_rng (n := 3) rfl (by decide)) hq) ?_
  obtain ⟨t, z', ht, et⟩ := take_ok z (m := 4) (by decide)
  refine Rt.ret (e_andE (b := true) (b' := true) (e_call (a_cons (e_i rfl) rfl a_nil) rfl (refused_ok h113)) fun _ => e_call (a_cons (e_i rfl) rfl (a_cons (e_callB rfl (a_cons (e_i rfl) rfl a_nil) rfl rfl et) rfl a_nil)) rfl (bad_ok l1 (by omega) (by omega) ht)) rfl
theorem law_true : ∀ ns : List Int, ns.length ≤ 63 → (∀ z ∈ ns, Builtin.Int.intBits z ≤ 1048576) → den_law [.val (.lst (ns.map D.int))] = some (.ok (.val (.bl true)), none) := fun ns h hb => law_all h hb
end LW
set_option Elab.async false
set_option linter.all false
set_option maxRecDepth 100000
open PySem PySem.W PyProof.Rows
set_option maxRecDepth 100000 in
set_option maxHeartbeats 0 in
theorem PySem.Challenge.cw_wordweight_k10_weights_of_machines_holds : PySem.Challenge.rw_wordweight_k10_weights_of_machines.Holds := by
  w_on; o_law; k_head; (case hw => w_witness2)
  k_fill
  refine Pl.walk_law (l := PySem.Challenge.rw_wordweight_k10_weights_of_machines) (k := 49) (den := LW.den_law) rfl rfl ⟨rfl, by decide, by decide⟩ (by first | rfl | decide +kernel) (fun w h Y => PySem.W.kIn_of Y) ?F LW.law_true
  case F =>
    intro w mg fa h KX G hmg
    refine' LW.fin (mg := mg) KX G hmg ⟨?e_g_law_state, ?e_g_law_take, ?e_g_law_letters, ?e_g_law_gcd, ?e_g_law_frac, ?e_g_law_item, ?e_g_law_square, ?e_g_law_plan, ?e_g_law_ratios, ?e_g_law_machine, ?e_g_law_pair, ?e_g_law_pairs, ?e_g_law_word, ?e_g_law_mul, ?e_g_law_add, ?e_g_law_dot, ?e_g_law_after, ?e_g_law_weight_of, ?e_g_law_before, ?e_g_combine, ?e_g_dot, ?e_g_law_refused, ?e_g_law_bad, ?e_g_law, ?e_g_Ratio, ?e_g_Matrix, ?e_g_Alphabet, ?e_g_Machine, ?e_g_Fault, ?e_g_Malformed, ?e_g_Refused, ?e_g_ZeroDivisor, ?e_ma_Ratio_init, ?e_mf_Ratio_init, ?e_mk_Ratio_init, ?e_ma_Matrix_init, ?e_mf_Matrix_init, ?e_mk_Matrix_init, ?e_ma_Alphabet_init, ?e_mf_Alphabet_init, ?e_mk_Alphabet_init, ?e_ma_Matrix_len, ?e_mf_Matrix_len, ?e_mk_Matrix_len, ?e_ma_Machine_init, ?e_mf_Machine_init, ?e_mk_Machine_init, ?e_ma_Alphabet_index, ?e_mf_Alphabet_index, ?e_mk_Alphabet_index, ?e_ma_Ratio_add, ?e_mf_Ratio_add, ?e_mk_Ratio_add, ?e_ma_Ratio_mul, ?e_mf_Ratio_mul, ?e_mk_Ratio_mul, ?e_ma_Matrix_before, ?e_mf_Matrix_before, ?e_mk_Matrix_before, ?e_ma_Machine_row_after, ?e_mf_Machine_row_after, ?e_mk_Machine_row_after, ?e_ma_Machine_weight, ?e_mf_Machine_weight, ?e_mk_Machine_weight, ?e_ma_Matrix_times, ?e_mf_Matrix_times, ?e_mk_Matrix_times, ?e_ma_Machine_column_before, ?e_mf_Machine_column_before, ?e_mk_Machine_column_before, ?e_ma_Machine_size, ?e_mf_Machine_size, ?e_mk_Machine_size, ?e_ma_Machine_call, ?e_mf_Machine_call, ?e_fi_Machine_call, ?e_mk_Machine_call, ?e_er_Refused, ?e_f_law_state, ?e_f_law_take, ?e_f_law_letters, ?e_f_law_gcd, ?e_f_law_frac, ?e_f_law_item, ?e_f_law_square, ?e_f_law_plan, ?e_f_Ratio_init, ?e_f_law_ratios, ?e_f_Matrix_init, ?e_f_Alphabet_init, ?e_f_Matrix_len, ?e_f_Machine_init, ?e_f_law_machine, ?e_f_law_pair, ?e_f_law_pairs, ?e_f_law_word, ?e_f_law_mul, ?e_f_law_add, ?e_f_law_dot, ?e_f_law_after, ?e_f_law_weight_of, ?e_f_law_before, ?e_f_Alphabet_index, ?e_f_Ratio_add, ?e_f_Ratio_mul, ?e_f_combine, ?e_f_Matrix_before, ?e_f_Machine_row_after, ?e_f_dot, ?e_f_Machine_weight, ?e_f_Matrix_times, ?e_f_Machine_column_before, ?e_f_law_refused, ?e_f_law_bad, ?e_f_Machine_size, ?e_f_Machine_call, ?e_f_law, ?e_z_abs, ?e_z_bool, ?e_z_int, ?e_z_isinstance, ?e_z_len, ?e_z_list, ?e_z_range, ?e_z_reversed, ?e_z_str, ?e_z_super, ?e_z_tuple, ?e_z_zip, ?e_v_MOST_LETTERS, ?e_v_SMALL, ?e_g_gcd, ?e_pg_Ratio, ?e_hd_Ratio, ?e_po_Ratio, ?e_sa_Ratio, ?e_ma_Ratio, ?e_kp_Ratio, ?e_n_Ratio_n, ?e_n_Ratio_d, ?e_cc_Ratio, ?e_mo_Ratio, ?e_ic_Ratio, ?e_tc_Ratio, ?e_ob_Ratio_NoneType, ?e_bo_Ratio_NoneType, ?e_ob_Ratio_bool, ?e_bo_Ratio_bool, ?e_ob_Ratio_int, ?e_bo_Ratio_int, ?e_ob_Ratio_str, ?e_bo_Ratio_str, ?e_ob_Ratio_tuple, ?e_bo_Ratio_tuple, ?e_ob_Ratio_list, ?e_bo_Ratio_list, ?e_ob_Ratio_dict, ?e_bo_Ratio_dict, ?e_ne_Ratio, ?e_sf_Ratio, ?e_oo_Ratio_Matrix, ?e_on_Ratio_Matrix, ?e_oo_Ratio_Alphabet, ?e_on_Ratio_Alphabet, ?e_oo_Ratio_Machine, ?e_on_Ratio_Machine, ?e_pg_Matrix, ?e_hd_Matrix, ?e_po_Matrix, ?e_sa_Matrix, ?e_ma_Matrix, ?e_kp_Matrix, ?e_n_Matrix_rows, ?e_n_Matrix_width, ?e_cc_Matrix, ?e_mo_Matrix, ?e_ic_Matrix, ?e_tc_Matrix, ?e_ob_Matrix_NoneType, ?e_bo_Matrix_NoneType, ?e_ob_Matrix_bool, ?e_bo_Matrix_bool, ?e_ob_Matrix_int, ?e_bo_Matrix_int, ?e_ob_Matrix_str, ?e_bo_Matrix_str, ?e_ob_Matrix_tuple, ?e_bo_Matrix_tuple, ?e_ob_Matrix_list, ?e_bo_Matrix_list, ?e_ob_Matrix_dict, ?e_bo_Matrix_dict, ?e_ne_Matrix, ?e_sf_Matrix, ?e_oo_Matrix_Ratio, ?e_on_Matrix_Ratio, ?e_oo_Matrix_Alphabet, ?e_on_Matrix_Alphabet, ?e_oo_Matrix_Machine, ?e_on_Matrix_Machine, ?e_pg_Alphabet, ?e_hd_Alphabet, ?e_po_Alphabet, ?e_sa_Alphabet, ?e_ma_Alphabet, ?e_kp_Alphabet, ?e_n_Alphabet_letters, ?e_cc_Alphabet, ?e_mo_Alphabet, ?e_ic_Alphabet, ?e_tc_Alphabet, ?e_ob_Alphabet_NoneType, ?e_bo_Alphabet_NoneType, ?e_ob_Alphabet_bool, ?e_bo_Alphabet_bool, ?e_ob_Alphabet_int, ?e_bo_Alphabet_int, ?e_ob_Alphabet_str, ?e_bo_Alphabet_str, ?e_ob_Alphabet_tuple, ?e_bo_Alphabet_tuple, ?e_ob_Alphabet_list, ?e_bo_Alphabet_list, ?e_ob_Alphabet_dict, ?e_bo_Alphabet_dict, ?e_ne_Alphabet, ?e_sf_Alphabet, ?e_oo_Alphabet_Ratio, ?e_on_Alphabet_Ratio, ?e_oo_Alphabet_Matrix, ?e_on_Alphabet_Matrix, ?e_oo_Alphabet_Machine, ?e_on_Alphabet_Machine, ?e_pg_Machine, ?e_hd_Machine, ?e_po_Machine, ?e_sa_Machine, ?e_ma_Machine, ?e_kp_Machine, ?e_n_Machine_alphabet, ?e_n_Machine_row, ?e_n_Machine_matrices, ?e_n_Machine_column, ?e_cc_Machine, ?e_mo_Machine, ?e_ic_Machine, ?e_tc_Machine, ?e_ob_Machine_NoneType, ?e_bo_Machine_NoneType, ?e_ob_Machine_bool, ?e_bo_Machine_bool, ?e_ob_Machine_int, ?e_bo_Machine_int, ?e_ob_Machine_str, ?e_bo_Machine_str, ?e_ob_Machine_tuple, ?e_bo_Machine_tuple, ?e_ob_Machine_list, ?e_bo_Machine_list, ?e_ob_Machine_dict, ?e_bo_Machine_dict, ?e_ne_Machine, ?e_sf_Machine, ?e_oo_Machine_Ratio, ?e_on_Machine_Ratio, ?e_oo_Machine_Matrix, ?e_on_Machine_Matrix, ?e_oo_Machine_Alphabet, ?e_on_Machine_Alphabet, ?e_hn, ?e_ht, ?e_ex_ZeroDivisor, ?e_kp_ZeroDivisor, ?e_ex_Malformed, ?e_kp_Malformed, ?e_eb_Fault, ?e_et_Fault, ?e_ed_Fault, ?e_eb_Malformed, ?e_et_Malformed, ?e_ed_Malformed, ?e_eb_Refused, ?e_et_Refused, ?e_ed_Refused, ?e_eb_ZeroDivisor, ?e_et_ZeroDivisor, ?e_ed_ZeroDivisor, ?e_xg_Malformed, ?e_xk_Malformed, ?e_xa_Malformed, ?e_xm_Malformed, ?e_xg_Refused, ?e_xk_Refused, ?e_xa_Refused, ?e_xm_Refused, ?e_es_Malformed_Fault, ?e_en_Malformed_Fault, ?e_es_Refused_Fault, ?e_en_Refused_Fault, ?e_es_ZeroDivisor_Fault, ?e_en_ZeroDivisor_Fault, ?e_ei_Fault⟩
    (case e_g_law_state => (refine' PySem.W.mg_of KX G ?_; k_is))
    (case e_g_law_take => (refine' PySem.W.mg_of KX G ?_; k_is))
    (case e_g_law_letters => (refine' PySem.W.mg_of KX G ?_; k_is))
    (case e_g_law_gcd => (refine' PySem.W.mg_of KX G ?_; k_is))
    (case e_g_law_frac => (refine' PySem.W.mg_of KX G ?_; k_is))
    (case e_g_law_item => (refine' PySem.W.mg_of KX G ?_; k_is))
    (case e_g_law_square => (refine' PySem.W.mg_of KX G ?_; k_is))
    (case e_g_law_plan => (refine' PySem.W.mg_of KX G ?_; k_is))
    (case e_g_law_ratios => (refine' PySem.W.mg_of KX G ?_; k_is))
    (case e_g_law_machine => (refine' PySem.W.mg_of KX G ?_; k_is))
    (case e_g_law_pair => (refine' PySem.W.mg_of KX G ?_; k_is))
    (case e_g_law_pairs => (refine' PySem.W.mg_of KX G ?_; k_is))
    (case e_g_law_word => (refine' PySem.W.mg_of KX G ?_; k_is))
    (case e_g_law_mul => (refine' PySem.W.mg_of KX G ?_; k_is))
    (case e_g_law_add => (refine' PySem.W.mg_of KX G ?_; k_is))
    (case e_g_law_dot => (refine' PySem.W.mg_of KX G ?_; k_is))
    (case e_g_law_after => (refine' PySem.W.mg_of KX G ?_; k_is))
    (case e_g_law_weight_of => (refine' PySem.W.mg_of KX G ?_; k_is))
    (case e_g_law_before => (refine' PySem.W.mg_of KX G ?_; k_is))
    (case e_g_combine => (refine' PySem.W.mg_of KX G ?_; k_is))
    (case e_g_dot => (refine' PySem.W.mg_of KX G ?_; k_is))
    (case e_g_law_refused => (refine' PySem.W.mg_of KX G ?_; k_is))
    (case e_g_law_bad => (refine' PySem.W.mg_of KX G ?_; k_is))
    (case e_g_law => (refine' PySem.W.mg_of KX G ?_; k_is))
    (case e_g_Ratio => (refine' PySem.W.mg_of KX G ?_; k_is))
    (case e_g_Matrix => (refine' PySem.W.mg_of KX G ?_; k_is))
    (case e_g_Alphabet => (refine' PySem.W.mg_of KX G ?_; k_is))
    (case e_g_Machine => (refine' PySem.W.mg_of KX G ?_; k_is))
    (case e_g_Fault => (refine' PySem.W.mg_of KX G ?_; k_is))
    (case e_g_Malformed => (refine' PySem.W.mg_of KX G ?_; k_is))
    (case e_g_Refused => (refine' PySem.W.mg_of KX G ?_; k_is))
    (case e_g_ZeroDivisor => (refine' PySem.W.mg_of KX G ?_; k_is))
    (case e_ma_Ratio_init => k_is)
    (case e_mf_Ratio_init => k_is)
    (case e_mk_Ratio_init => k_is)
    (case e_ma_Matrix_init => k_is)
    (case e_mf_Matrix_init => k_is)
    (case e_mk_Matrix_init => k_is)
    (case e_ma_Alphabet_init => k_is)
    (case e_mf_Alphabet_init => k_is)
    (case e_mk_Alphabet_init => k_is)
    (case e_ma_Matrix_len => k_is)
    (case e_mf_Matrix_len => k_is)
    (case e_mk_Matrix_len => k_is)
    (case e_ma_Machine_init => k_is)
    (case e_mf_Machine_init => k_is)
    (case e_mk_Machine_init => k_is)
    (case e_ma_Alphabet_index => k_is)
    (case e_mf_Alphabet_index => k_is)
    (case e_mk_Alphabet_index => k_is)
    (case e_ma_Ratio_add => k_is)
    (case e_mf_Ratio_add => k_is)
    (case e_mk_Ratio_add => k_is)
    (case e_ma_Ratio_mul => k_is)
    (case e_mf_Ratio_mul => k_is)
    (case e_mk_Ratio_mul => k_is)
    (case e_ma_Matrix_before => k_is)
    (case e_mf_Matrix_before => k_is)
    (case e_mk_Matrix_before => k_is)
    (case e_ma_Machine_row_after => k_is)
    (case e_mf_Machine_row_after => k_is)
    (case e_mk_Machine_row_after => k_is)
    (case e_ma_Machine_weight => k_is)
    (case e_mf_Machine_weight => k_is)
    (case e_mk_Machine_weight => k_is)
    (case e_ma_Matrix_times => k_is)
    (case e_mf_Matrix_times => k_is)
    (case e_mk_Matrix_times => k_is)
    (case e_ma_Machine_column_before => k_is)
    (case e_mf_Machine_column_before => k_is)
    (case e_mk_Machine_column_before => k_is)
    (case e_ma_Machine_size => k_is)
    (case e_mf_Machine_size => k_is)
    (case e_mk_Machine_size => k_is)
    (case e_ma_Machine_call => k_is)
    (case e_mf_Machine_call => k_is)
    (case e_fi_Machine_call => k_is)
    (case e_mk_Machine_call => k_is)
    (case e_er_Refused => (refine' Pl.erow_mk ?l ?c ?lcc ?lc ?vs ?pf ?b ?C ?bm ?sa ?exC ?tyC ?kC ?sup ?opq ?own ?val ?ini ?typ ?no; (case ini => k_is); (case l => k_is); (case c => k_is); (case lcc => k_is); (case lc => k_is); (case vs => rfl); (case pf => first | rfl | decide +kernel); (case b => exact fun _ _ _ _ _ us hl => match us, hl with | [_, _], _ => rfl); (case C => k_is); (case bm => first | rfl | decide +kernel); (case sa => k_is); (case exC => k_is); (case tyC => k_is); (case kC => k_is); (case sup => first | ks_is | k_is); (case opq => k_is); (case own => k_is); (case val => k_is); (case typ => k_is); (case no => k_is)))
    (case e_f_law_state => (refine' Pl.fnt_mk ?l ?c ?k ?b; (case l => k_is); (case c => k_is); (case k => k_is); (case b => exact fun _ _ _ _ _ _ us hl => match us, hl with | [_], _ => rfl)))
    (case e_f_law_take => (refine' Pl.fnt_mk ?l ?c ?k ?b; (case l => k_is); (case c => k_is); (case k => k_is); (case b => exact fun _ _ _ _ _ _ us hl => match us, hl with | [_, _], _ => rfl)))
    (case e_f_law_letters => (refine' Pl.fnt_mk ?l ?c ?k ?b; (case l => k_is); (case c => k_is); (case k => k_is); (case b => exact fun _ _ _ _ _ _ us hl => match us, hl with | [_, _], _ => rfl)))
    (case e_f_law_gcd => (refine' Pl.fnt_mk ?l ?c ?k ?b; (case l => k_is); (case c => k_is); (case k => k_is); (case b => exact fun _ _ _ _ _ _ us hl => match us, hl with | [_, _], _ => rfl)))
    (case e_f_law_frac => (refine' Pl.fnt_mk ?l ?c ?k ?b; (case l => k_is); (case c => k_is); (case k => k_is); (case b => exact fun _ _ _ _ _ _ us hl => match us, hl with | [_, _], _ => rfl)))
    (case e_f_law_item => (refine' Pl.fnt_mk ?l ?c ?k ?b; (case l => k_is); (case c => k_is); (case k => k_is); (case b => exact fun _ _ _ _ _ _ us hl => match us, hl with | [_], _ => rfl)))
    (case e_f_law_square => (refine' Pl.fnt_mk ?l ?c ?k ?b; (case l => k_is); (case c => k_is); (case k => k_is); (case b => exact fun _ _ _ _ _ _ us hl => match us, hl with | [_, _], _ => rfl)))
    (case e_f_law_plan => (refine' Pl.fnt_mk ?l ?c ?k ?b; (case l => k_is); (case c => k_is); (case k => k_is); (case b => exact fun _ _ _ _ _ _ us hl => match us, hl with | [_, _, _], _ => rfl)))
    (case e_f_Ratio_init => (refine' Pl.fnt_mkD (by decide) (by decide) ?l ?c ?k ?lT ?hv ?b ?b2; (case l => k_is); (case c => k_is); (case k => k_is); (case lT => k_is); (case hv => exact .cons ⟨_, rfl⟩ (.nil)); (case b => exact fun _ _ _ _ _ _ _ us its hl hi => match us, its, hl, hi with | [_, _, _], [_], _, _ => ⟨_, rfl, rfl⟩); (case b2 => exact fun _ _ _ _ _ _ _ us its hl hi => match us, its, hl, hi with | [_, _], [_], _, _ => ⟨_, rfl, rfl⟩)))
    (case e_f_law_ratios => (refine' Pl.fnt_mk ?l ?c ?k ?b; (case l => k_is); (case c => k_is); (case k => k_is); (case b => exact fun _ _ _ _ _ _ us hl => match us, hl with | [_], _ => rfl)))
    (case e_f_Matrix_init => (refine' Pl.fnt_mk ?l ?c ?k ?b; (case l => k_is); (case c => k_is); (case k => k_is); (case b => exact fun _ _ _ _ _ _ us hl => match us, hl with | [_, _, _], _ => rfl)))
    (case e_f_Alphabet_init => (refine' Pl.fnt_mk ?l ?c ?k ?b; (case l => k_is); (case c => k_is); (case k => k_is); (case b => exact fun _ _ _ _ _ _ us hl => match us, hl with | [_, _], _ => rfl)))
    (case e_f_Matrix_len => (refine' Pl.fnt_mk ?l ?c ?k ?b; (case l => k_is); (case c => k_is); (case k => k_is); (case b => exact fun _ _ _ _ _ _ us hl => match us, hl with | [_], _ => rfl)))
    (case e_f_Machine_init => (refine' Pl.fnt_mk ?l ?c ?k ?b; (case l => k_is); (case c => k_is); (case k => k_is); (case b => exact fun _ _ _ _ _ _ us hl => match us, hl with | [_, _, _, _, _], _ => rfl)))
    (case e_f_law_machine => (refine' Pl.fnt_mk ?l ?c ?k ?b; (case l => k_is); (case c => k_is); (case k => k_is); (case b => exact fun _ _ _ _ _ _ us hl => match us, hl with | [_], _ => rfl)))
    (case e_f_law_pair => (refine' Pl.fnt_mk ?l ?c ?k ?b; (case l => k_is); (case c => k_is); (case k => k_is); (case b => exact fun _ _ _ _ _ _ us hl => match us, hl with | [_], _ => rfl)))
    (case e_f_law_pairs => (refine' Pl.fnt_mk ?l ?c ?k ?b; (case l => k_is); (case c => k_is); (case k => k_is); (case b => exact fun _ _ _ _ _ _ us hl => match us, hl with | [_], _ => rfl)))
    (case e_f_law_word => (refine' Pl.fnt_mk ?l ?c ?k ?b; (case l => k_is); (case c => k_is); (case k => k_is); (case b => exact fun _ _ _ _ _ _ us hl => match us, hl with | [_, _, _], _ => rfl)))
    (case e_f_law_mul => (refine' Pl.fnt_mk ?l ?c ?k ?b; (case l => k_is); (case c => k_is); (case k => k_is); (case b => exact fun _ _ _ _ _ _ us hl => match us, hl with | [_, _], _ => rfl)))
    (case e_f_law_add => (refine' Pl.fnt_mk ?l ?c ?k ?b; (case l => k_is); (case c => k_is); (case k => k_is); (case b => exact fun _ _ _ _ _ _ us hl => match us, hl with | [_, _], _ => rfl)))
    (case e_f_law_dot => (refine' Pl.fnt_mk ?l ?c ?k ?b; (case l => k_is); (case c => k_is); (case k => k_is); (case b => exact fun _ _ _ _ _ _ us hl => match us, hl with | [_, _], _ => rfl)))
    (case e_f_law_after => (refine' Pl.fnt_mk ?l ?c ?k ?b; (case l => k_is); (case c => k_is); (case k => k_is); (case b => exact fun _ _ _ _ _ _ us hl => match us, hl with | [_, _], _ => rfl)))
    (case e_f_law_weight_of => (refine' Pl.fnt_mk ?l ?c ?k ?b; (case l => k_is); (case c => k_is); (case k => k_is); (case b => exact fun _ _ _ _ _ _ us hl => match us, hl with | [_, _], _ => rfl)))
    (case e_f_law_before => (refine' Pl.fnt_mk ?l ?c ?k ?b; (case l => k_is); (case c => k_is); (case k => k_is); (case b => exact fun _ _ _ _ _ _ us hl => match us, hl with | [_, _], _ => rfl)))
    (case e_f_Alphabet_index => (refine' Pl.fnt_mk ?l ?c ?k ?b; (case l => k_is); (case c => k_is); (case k => k_is); (case b => exact fun _ _ _ _ _ _ us hl => match us, hl with | [_, _], _ => rfl)))
    (case e_f_Ratio_add => (refine' Pl.fnt_mk ?l ?c ?k ?b; (case l => k_is); (case c => k_is); (case k => k_is); (case b => exact fun _ _ _ _ _ _ us hl => match us, hl with | [_, _], _ => rfl)))
    (case e_f_Ratio_mul => (refine' Pl.fnt_mk ?l ?c ?k ?b; (case l => k_is); (case c => k_is); (case k => k_is); (case b => exact fun _ _ _ _ _ _ us hl => match us, hl with | [_, _], _ => rfl)))
    (case e_f_combine => (refine' Pl.fnt_mk ?l ?c ?k ?b; (case l => k_is); (case c => k_is); (case k => k_is); (case b => exact fun _ _ _ _ _ _ us hl => match us, hl with | [_, _, _], _ => rfl)))
    (case e_f_Matrix_before => (refine' Pl.fnt_mk ?l ?c ?k ?b; (case l => k_is); (case c => k_is); (case k => k_is); (case b => exact fun _ _ _ _ _ _ us hl => match us, hl with | [_, _], _ => rfl)))
    (case e_f_Machine_row_after => (refine' Pl.fnt_mk ?l ?c ?k ?b; (case l => k_is); (case c => k_is); (case k => k_is); (case b => exact fun _ _ _ _ _ _ us hl => match us, hl with | [_, _], _ => rfl)))
    (case e_f_dot => (refine' Pl.fnt_mk ?l ?c ?k ?b; (case l => k_is); (case c => k_is); (case k => k_is); (case b => exact fun _ _ _ _ _ _ us hl => match us, hl with | [_, _], _ => rfl)))
    (case e_f_Machine_weight => (refine' Pl.fnt_mk ?l ?c ?k ?b; (case l => k_is); (case c => k_is); (case k => k_is); (case b => exact fun _ _ _ _ _ _ us hl => match us, hl with | [_, _], _ => rfl)))
    (case e_f_Matrix_times => (refine' Pl.fnt_mk ?l ?c ?k ?b; (case l => k_is); (case c => k_is); (case k => k_is); (case b => exact fun _ _ _ _ _ _ us hl => match us, hl with | [_, _], _ => rfl)))
    (case e_f_Machine_column_before => (refine' Pl.fnt_mk ?l ?c ?k ?b; (case l => k_is); (case c => k_is); (case k => k_is); (case b => exact fun _ _ _ _ _ _ us hl => match us, hl with | [_, _], _ => rfl)))
    (case e_f_law_refused => (refine' Pl.fnt_mk ?l ?c ?k ?b; (case l => k_is); (case c => k_is); (case k => k_is); (case b => exact fun _ _ _ _ _ _ us hl => match us, hl with | [_], _ => rfl)))
    (case e_f_law_bad => (refine' Pl.fnt_mk ?l ?c ?k ?b; (case l => k_is); (case c => k_is); (case k => k_is); (case b => exact fun _ _ _ _ _ _ us hl => match us, hl with | [_, _], _ => rfl)))
    (case e_f_Machine_size => (refine' Pl.fnt_mk ?l ?c ?k ?b; (case l => k_is); (case c => k_is); (case k => k_is); (case b => exact fun _ _ _ _ _ _ us hl => match us, hl with | [_], _ => rfl)))
    (case e_f_Machine_call => (refine' Pl.fnt_mk ?l ?c ?k ?b; (case l => k_is); (case c => k_is); (case k => k_is); (case b => exact fun _ _ _ _ _ _ us hl => match us, hl with | [_, _], _ => rfl)))
    (case e_f_law => (refine' Pl.fnt_mk ?l ?c ?k ?b; (case l => k_is); (case c => k_is); (case k => k_is); (case b => exact fun _ _ _ _ _ _ us hl => match us, hl with | [_], _ => rfl)))
    (case e_z_abs => (refine' PySem.W.mg_none_of KX G ?_; k_is))
    (case e_z_bool => (refine' PySem.W.mg_none_of KX G ?_; k_is))
    (case e_z_int => (refine' PySem.W.mg_none_of KX G ?_; k_is))
    (case e_z_isinstance => (refine' PySem.W.mg_none_of KX G ?_; k_is))
    (case e_z_len => (refine' PySem.W.mg_none_of KX G ?_; k_is))
    (case e_z_list => (refine' PySem.W.mg_none_of KX G ?_; k_is))
    (case e_z_range => (refine' PySem.W.mg_none_of KX G ?_; k_is))
    (case e_z_reversed => (refine' PySem.W.mg_none_of KX G ?_; k_is))
    (case e_z_str => (refine' PySem.W.mg_none_of KX G ?_; k_is))
    (case e_z_super => (refine' PySem.W.mg_none_of KX G ?_; k_is))
    (case e_z_tuple => (refine' PySem.W.mg_none_of KX G ?_; k_is))
    (case e_z_zip => (refine' PySem.W.mg_none_of KX G ?_; k_is))
    (case e_v_MOST_LETTERS => (refine' PySem.W.mg_of KX G ?_; k_is))
    (case e_v_SMALL => (refine' PySem.W.mg_of KX G ?_; k_is))
    (case e_g_gcd => (refine' PySem.W.mg_of KX G ?_; k_is))
    (case e_pg_Ratio => k_is)
    (case e_hd_Ratio => k_is)
    (case e_po_Ratio => k_is)
    (case e_sa_Ratio => k_is)
    (case e_ma_Ratio => k_is)
    (case e_kp_Ratio => k_is)
    (case e_n_Ratio_n => k_is)
    (case e_n_Ratio_d => k_is)
    (case e_cc_Ratio => k_is)
    (case e_mo_Ratio => k_is)
    (case e_ic_Ratio => k_is)
    (case e_tc_Ratio => k_is)
    (case e_ob_Ratio_NoneType => k_is)
    (case e_bo_Ratio_NoneType => k_is)
    (case e_ob_Ratio_bool => k_is)
    (case e_bo_Ratio_bool => k_is)
    (case e_ob_Ratio_int => k_is)
    (case e_bo_Ratio_int => k_is)
    (case e_ob_Ratio_str => k_is)
    (case e_bo_Ratio_str => k_is)
    (case e_ob_Ratio_tuple => k_is)
    (case e_bo_Ratio_tuple => k_is)
    (case e_ob_Ratio_list => k_is)
    (case e_bo_Ratio_list => k_is)
    (case e_ob_Ratio_dict => k_is)
    (case e_bo_Ratio_dict => k_is)
    (case e_ne_Ratio => k_is)
    (case e_sf_Ratio => k_is)
    (case e_oo_Ratio_Matrix => k_is)
    (case e_on_Ratio_Matrix => decide)
    (case e_oo_Ratio_Alphabet => k_is)
    (case e_on_Ratio_Alphabet => decide)
    (case e_oo_Ratio_Machine => k_is)
    (case e_on_Ratio_Machine => decide)
    (case e_pg_Matrix => k_is)
    (case e_hd_Matrix => k_is)
    (case e_po_Matrix => k_is)
    (case e_sa_Matrix => k_is)
    (case e_ma_Matrix => k_is)
    (case e_kp_Matrix => k_is)
    (case e_n_Matrix_rows => k_is)
    (case e_n_Matrix_width => k_is)
    (case e_cc_Matrix => k_is)
    (case e_mo_Matrix => k_is)
    (case e_ic_Matrix => k_is)
    (case e_tc_Matrix => k_is)
    (case e_ob_Matrix_NoneType => k_is)
    (case e_bo_Matrix_NoneType => k_is)
    (case e_ob_Matrix_bool => k_is)
    (case e_bo_Matrix_bool => k_is)
    (case e_ob_Matrix_int => k_is)
    (case e_bo_Matrix_int => k_is)
    (case e_ob_Matrix_str => k_is)
    (case e_bo_Matrix_str => k_is)
    (case e_ob_Matrix_tuple => k_is)
    (case e_bo_Matrix_tuple => k_is)
    (case e_ob_Matrix_list => k_is)
    (case e_bo_Matrix_list => k_is)
    (case e_ob_Matrix_dict => k_is)
    (case e_bo_Matrix_dict => k_is)
    (case e_ne_Matrix => k_is)
    (case e_sf_Matrix => k_is)
    (case e_oo_Matrix_Ratio => k_is)
    (case e_on_Matrix_Ratio => decide)
    (case e_oo_Matrix_Alphabet => k_is)
    (case e_on_Matrix_Alphabet => decide)
    (case e_oo_Matrix_Machine => k_is)
    (case e_on_Matrix_Machine => decide)
    (case e_pg_Alphabet => k_is)
    (case e_hd_Alphabet => k_is)
    (case e_po_Alphabet => k_is)
    (case e_sa_Alphabet => k_is)
    (case e_ma_Alphabet => k_is)
    (case e_kp_Alphabet => k_is)
    (case e_n_Alphabet_letters => k_is)
    (case e_cc_Alphabet => k_is)
    (case e_mo_Alphabet => k_is)
    (case e_ic_Alphabet => k_is)
    (case e_tc_Alphabet => k_is)
    (case e_ob_Alphabet_NoneType => k_is)
    (case e_bo_Alphabet_NoneType => k_is)
    (case e_ob_Alphabet_bool => k_is)
    (case e_bo_Alphabet_bool => k_is)
    (case e_ob_Alphabet_int => k_is)
    (case e_bo_Alphabet_int => k_is)
    (case e_ob_Alphabet_str => k_is)
    (case e_bo_Alphabet_str => k_is)
    (case e_ob_Alphabet_tuple => k_is)
    (case e_bo_Alphabet_tuple => k_is)
    (case e_ob_Alphabet_list => k_is)
    (case e_bo_Alphabet_list => k_is)
    (case e_ob_Alphabet_dict => k_is)
    (case e_bo_Alphabet_dict => k_is)
    (case e_ne_Alphabet => k_is)
    (case e_sf_Alphabet => k_is)
    (case e_oo_Alphabet_Ratio => k_is)
    (case e_on_Alphabet_Ratio => decide)
    (case e_oo_Alphabet_Matrix => k_is)
    (case e_on_Alphabet_Matrix => decide)
    (case e_oo_Alphabet_Machine => k_is)
    (case e_on_Alphabet_Machine => decide)
    (case e_pg_Machine => k_is)
    (case e_hd_Machine => k_is)
    (case e_po_Machine => k_is)
    (case e_sa_Machine => k_is)
    (case e_ma_Machine => k_is)
    (case e_kp_Machine => k_is)
    (case e_n_Machine_alphabet => k_is)
    (case e_n_Machine_row => k_is)
    (case e_n_Machine_matrices => k_is)
    (case e_n_Machine_column => k_is)
    (case e_cc_Machine => k_is)
    (case e_mo_Machine => k_is)
    (case e_ic_Machine => k_is)
    (case e_tc_Machine => k_is)
    (case e_ob_Machine_NoneType => k_is)
    (case e_bo_Machine_NoneType => k_is)
    (case e_ob_Machine_bool => k_is)
    (case e_bo_Machine_bool => k_is)
    (case e_ob_Machine_int => k_is)
    (case e_bo_Machine_int => k_is)
    (case e_ob_Machine_str => k_is)
    (case e_bo_Machine_str => k_is)
    (case e_ob_Machine_tuple => k_is)
    (case e_bo_Machine_tuple => k_is)
    (case e_ob_Machine_list => k_is)
    (case e_bo_Machine_list => k_is)
    (case e_ob_Machine_dict => k_is)
    (case e_bo_Machine_dict => k_is)
    (case e_ne_Machine => k_is)
    (case e_sf_Machine => k_is)
    (case e_oo_Machine_Ratio => k_is)
    (case e_on_Machine_Ratio => decide)
    (case e_oo_Machine_Matrix => k_is)
    (case e_on_Machine_Matrix => decide)
    (case e_oo_Machine_Alphabet => k_is)
    (case e_on_Machine_Alphabet => decide)
    (case e_hn => k_is)
    (case e_ht => k_is)
    (case e_ex_ZeroDivisor => k_exc)
    (case e_kp_ZeroDivisor => k_is)
    (case e_ex_Malformed => k_exc)
    (case e_kp_Malformed => k_is)
    (case e_eb_Fault => k_is)
    (case e_et_Fault => k_is)
    (case e_ed_Fault => k_is)
    (case e_eb_Malformed => k_is)
    (case e_et_Malformed => k_is)
    (case e_ed_Malformed => k_is)
    (case e_eb_Refused => k_is)
    (case e_et_Refused => k_is)
    (case e_ed_Refused => k_is)
    (case e_eb_ZeroDivisor => k_is)
    (case e_et_ZeroDivisor => k_is)
    (case e_ed_ZeroDivisor => k_is)
    (case e_xg_Malformed => k_is)
    (case e_xk_Malformed => k_is)
    (case e_xa_Malformed => k_is)
    (case e_xm_Malformed => k_is)
    (case e_xg_Refused => k_is)
    (case e_xk_Refused => k_is)
    (case e_xa_Refused => k_is)
    (case e_xm_Refused => k_is)
    (case e_es_Malformed_Fault => k_is)
    (case e_en_Malformed_Fault => decide)
    (case e_es_Refused_Fault => k_is)
    (case e_en_Refused_Fault => decide)
    (case e_es_ZeroDivisor_Fault => k_is)
    (case e_en_ZeroDivisor_Fault => decide)
    (case e_ei_Fault => k_is)
