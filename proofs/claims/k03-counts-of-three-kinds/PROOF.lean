import PyProof.Rows.All
import Wide.All
import OpenK.AllK
import Wide.FinOn
import HandS.ForMost
import HandS.ForExc
import HandS.Walk
import HandS.TupAny
import HandS.Wide
import HandS.Deep
import HandS.IsInst
import KE.GoesMore
import HandS.SetFor
import HandS.Conv
import HandS.SortInts
import HandS.SortRule
import KE.KSortedM
import KE.SortData
import HandS.CallSlots
import KE.KSuper
import HandS.Nested
import HandS.More
import HandS.ExcInit
import KE.KExcSuper
import HandS.ExcField
import HandS.ExcIs
import KE.KExcIs
import HandS.Style
import HandS.List
import PySem.Challenge.RW_unseenprices_k03_counts_of_three_kinds
set_option Elab.async false
set_option linter.all false
set_option maxRecDepth 100000
set_option maxHeartbeats 4000000
/-! Mi 1: pure data, stores, what relates them to the abstract heap -/
namespace Mi
open PySem L2

inductive D where
  | non
  | bl (b : Bool)
  | int (i : Int)
  | str (x : Str)
  | tup (ds : List D)
  | lst (ds : List D)
  | frl (ds : List D)
  | obj (c : Nat) (ks : List Nat) (ds : List D)

/-- what a slot holds: data; a mutable thing by its place in the store; the caught error -/
inductive R where
  | v (d : D)
  | l (k : Nat)
  | e (c : Nat) (ks : List Nat) (ds : List D)

inductive Cell where
  | lst (ds : List D)
  | ins (c : Nat) (ks : List Nat) (ds : List D)
  | gone

/-- names of classes and fields by numbers -/
structure Sig where
  cn : Nat → Str
  fn : Nat → Str

abbrev Frag := PySem.W.Frag
abbrev MG := Str → Option Value

section
variable (K : Frag) (mg : MG) (g : Sig)
mutual
inductive At (F : Hp) : D → V → Prop
  | non : At F .non .non
  | bl (b : Bool) : At F (.bl b) (.bl b)
  | int (i : Int) : At F (.int i) (.int i)
  | str (x : Str) : At F (.str x) (.str x)
  | tup {ds : List D} {a : Addr} {xs : List V} : SqT K F a xs → AtL F ds xs → ds.length ≤ sizeLine → At F (.tup ds) (.ref a)
  | lst {ds : List D} {a : Addr} {xs : List V} : F a = some (.lst xs) → AtL F ds xs → ds.length ≤ sizeLine → At F (.lst ds) (.ref a)
  | frl {ds : List D} {a : Addr} {xs : List V} : SqL K F a xs → AtL F ds xs → ds.length ≤ sizeLine → At F (.frl ds) (.ref a)
  | obj {c : Nat} {ks : List Nat} {ds : List D} {a C dx : Addr} {fs : List (Str × V)} : mg (g.cn c) = some (.ref C) → F a = some (.ins C dx fs) → fs.map (·.1) = ks.map g.fn → AtL F ds (fs.map (·.2)) → At F (.obj c ks ds) (.ref a)
inductive AtL (F : Hp) : List D → List V → Prop
  | nil : AtL F [] []
  | cons {d : D} {ds : List D} {x : V} {xs : List V} : At F d x → AtL F ds xs → AtL F (d :: ds) (x :: xs)
end
end

structure Wd where
  F : Hp
  mu : List Addr
  xc : Option (Addr × Value × Option Addr)

section
variable {K : Frag} {mg : MG} {g : Sig}
theorem SqT.up {F F' : Hp} (h : ∀ a o, F a = some o → F' a = some o) {a : Addr} {xs : List V} (q : SqT K F a xs) : SqT K F' a xs := by
  rcases q with (q | ⟨o, q⟩) | q
  · exact .inl (.inl (h _ _ q))
  · exact .inl (.inr ⟨o, h _ _ q⟩)
  · exact .inr q
theorem SqL.up {F F' : Hp} (h : ∀ a o, F a = some o → F' a = some o) {a : Addr} {xs : List V} (q : SqL K F a xs) : SqL K F' a xs := by
  rcases q with (q | ⟨o, q⟩) | q
  · exact .inl (.inl (h _ _ q))
  · exact .inl (.inr ⟨o, h _ _ q⟩)
  · exact .inr q
mutual
theorem At.up {F F' : Hp} (h : ∀ a o, F a = some o → F' a = some o) : ∀ {d : D} {x : V}, At K mg g F d x → At K mg g F' d x
  | _, _, .non => .non
  | _, _, .bl b => .bl b
  | _, _, .int i => .int i
  | _, _, .str x => .str x
  | _, _, .tup q r z => .tup (SqT.up h q) (AtL.up h r) z
  | _, _, .lst q r z => .lst (h _ _ q) (AtL.up h r) z
  | _, _, .frl q r z => .frl (SqL.up h q) (AtL.up h r) z
  | _, _, .obj a b c r => .obj a (h _ _ b) c (AtL.up h r)
theorem AtL.up {F F' : Hp} (h : ∀ a o, F a = some o → F' a = some o) : ∀ {ds : List D} {xs : List V}, AtL K mg g F ds xs → AtL K mg g F' ds xs
  | _, _, .nil => .nil
  | _, _, .cons q r => .cons (At.up h q) (AtL.up h r)
end
theorem AtL.len {F : Hp} : ∀ {ds : List D} {xs : List V}, AtL K mg g F ds xs → ds.length = xs.length
  | _, _, .nil => rfl
  | _, _, .cons _ r => by rw [List.length_cons, List.length_cons, AtL.len r]
theorem AtL.get {F : Hp} : ∀ {ds : List D} {xs : List V} {i : Nat} {d : D}, AtL K mg g F ds xs → ds[i]? = some d → ∃ x, xs[i]? = some x ∧ At K mg g F d x
  | _, _, _, _, .nil, e => by simp at e
  | _, _, 0, _, .cons q _, e => by simp at e; subst e; exact ⟨_, rfl, q⟩
  | _, _, i + 1, _, .cons _ r, e => by
    obtain ⟨x, h1, h2⟩ := AtL.get (i := i) r (by simpa using e)
    exact ⟨x, by simpa using h1, h2⟩
theorem AtL.getV {F : Hp} : ∀ {ds : List D} {xs : List V} {i : Nat} {x : V}, AtL K mg g F ds xs → xs[i]? = some x → ∃ d, ds[i]? = some d ∧ At K mg g F d x
  | _, _, _, _, .nil, e => by simp at e
  | _, _, 0, _, .cons q _, e => by simp at e; subst e; exact ⟨_, rfl, q⟩
  | _, _, i + 1, _, .cons _ r, e => by
    obtain ⟨x, h1, h2⟩ := AtL.getV (i := i) r (by simpa using e)
    exact ⟨x, by simpa using h1, h2⟩
theorem AtL.app {F : Hp} : ∀ {ds es : List D} {xs ys : List V}, AtL K mg g F ds xs → AtL K mg g F es ys → AtL K mg g F (ds ++ es) (xs ++ ys)
  | _, _, _, _, .nil, s => s
  | _, _, _, _, .cons q r, s => .cons q (AtL.app r s)
theorem AtL.take {F : Hp} : ∀ {ds : List D} {xs : List V} (n : Nat), AtL K mg g F ds xs → AtL K mg g F (ds.take n) (xs.take n)
  | _, _, 0, _ => .nil
  | _, _, _ + 1, .nil => .nil
  | _, _, n + 1, .cons q r => .cons q (AtL.take n r)
theorem AtL.drop {F : Hp} : ∀ {ds : List D} {xs : List V} (n : Nat), AtL K mg g F ds xs → AtL K mg g F (ds.drop n) (xs.drop n)
  | _, _, 0, r => r
  | _, _, _ + 1, .nil => .nil
  | _, _, n + 1, .cons _ r => AtL.drop n r
theorem AtL.set {F : Hp} {d : D} {x : V} (q : At K mg g F d x) : ∀ {ds : List D} {xs : List V} (n : Nat), AtL K mg g F ds xs → AtL K mg g F (ds.set n d) (xs.set n x)
  | _, _, _, .nil => .nil
  | _, _, 0, .cons _ r => .cons q r
  | _, _, n + 1, .cons p r => .cons p (AtL.set q n r)
theorem AtL.rev {F : Hp} : ∀ {ds : List D} {xs : List V}, AtL K mg g F ds xs → AtL K mg g F ds.reverse xs.reverse
  | _, _, .nil => .nil
  | _, _, .cons q r => by
    rw [List.reverse_cons, List.reverse_cons]
    exact AtL.app (AtL.rev r) (.cons q .nil)
end

section
variable (K : Frag) (mg : MG) (g : Sig)
/-- the error of class c with the fields ks of the data ds: its class, its own dict -/
def ExcAt (F : Hp) (c : Nat) (ks : List Nat) (ds : List D) (cls : Value) (d : Option Addr) : Prop :=
  ∃ C, mg (g.cn c) = some (.ref C) ∧ cls = .ref C ∧ ((ks = [] ∧ ds = [] ∧ d = none) ∨ ∃ dd fs, d = some dd ∧ F dd = some (.xd fs) ∧ fs.map (·.1) = ks.map g.fn ∧ AtL K mg g F ds (fs.map (·.2)))
def RAt (wd : Wd) : R → V → Prop
  | .v d, x => At K mg g wd.F d x
  | .l k, x => ∃ a, wd.mu[k]? = some a ∧ x = .ref a
  | .e c ks ds, x => ∃ a cls d, wd.xc = some (a, cls, d) ∧ x = .ref a ∧ ExcAt K mg g wd.F c ks ds cls d
inductive RAtL (wd : Wd) : List R → List V → Prop
  | nil : RAtL wd [] []
  | cons {r : R} {rs : List R} {x : V} {xs : List V} : RAt K mg g wd r x → RAtL wd rs xs → RAtL wd (r :: rs) (x :: xs)
def CellAt (wd : Wd) (H : Hp) (a : Addr) : Cell → Prop
  | .lst ds => wd.F a = none ∧ ds.length ≤ sizeLine ∧ ∃ xs, H a = some (.lst xs) ∧ AtL K mg g wd.F ds xs
  | .ins c ks ds => wd.F a = none ∧ ∃ C dx fs, mg (g.cn c) = some (.ref C) ∧ H a = some (.ins C dx fs) ∧ fs.map (·.1) = ks.map g.fn ∧ AtL K mg g wd.F ds (fs.map (·.2))
  | .gone => ∃ o, H a = some o
structure Rel (wd : Wd) (S : List Cell) (H : Hp) : Prop where
  sub : ∀ a o, wd.F a = some o → H a = some o
  len : wd.mu.length = S.length
  nd : wd.mu.Nodup
  cell : ∀ (k : Nat) (a : Addr) (c : Cell), wd.mu[k]? = some a → S[k]? = some c → CellAt K mg g wd H a c
end
/-- from one state to a later one -/
structure Ext (wd : Wd) (H : Hp) (wd' : Wd) (H' : Hp) : Prop where
  mono : ∀ a o, wd.F a = some o → wd'.F a = some o
  fnew : ∀ a o, wd'.F a = some o → wd.F a = none → H a = none ∨ a ∈ wd.mu
  pre : ∃ nu, wd'.mu = wd.mu ++ nu ∧ ∀ a ∈ nu, H a = none
  keep : ∀ a o, H a = some o → a ∉ wd.mu → H' a = some o
  dom : ∀ a, H' a = none → H a = none
  xc : wd'.xc = wd.xc

section
variable {K : Frag} {mg : MG} {g : Sig} {wd wd1 wd2 : Wd} {H H1 H2 : Hp} {S : List Cell}
theorem Ext.refl (wd : Wd) (H : Hp) : Ext wd H wd H :=
  ⟨fun _ _ h => h, fun _ _ h h' => (by rw [h] at h'; cases h'), ⟨[], by simp, fun _ h => (by cases h)⟩, fun _ _ h _ => h, fun _ h => h, rfl⟩
theorem Ext.trans (a : Ext wd H wd1 H1) (b : Ext wd1 H1 wd2 H2) : Ext wd H wd2 H2 := by
  obtain ⟨nu, e1, n1⟩ := a.pre
  obtain ⟨nv, e2, n2⟩ := b.pre
  have cont : ∀ x o, H x = some o → x ∉ wd.mu → H1 x = some o ∧ x ∉ wd1.mu := fun x o h h' => ⟨a.keep x o h h', fun z => by
    rw [e1] at z
    rcases List.mem_append.mp z with z | z
    · exact h' z
    · rw [n1 x z] at h; cases h⟩
  refine ⟨fun x o h => b.mono x o (a.mono x o h), fun x o h h' => ?_, ⟨nu ++ nv, by rw [e2, e1, List.append_assoc], fun x hx => ?_⟩, fun x o h h' => ?_, fun x h => a.dom x (b.dom x h), b.xc.trans a.xc⟩
  · cases q : wd1.F x with
    | some o1 => exact a.fnew x o1 q h'
    | none =>
      rcases b.fnew x o h q with z | z
      · exact .inl (a.dom x z)
      · rw [e1] at z
        rcases List.mem_append.mp z with z | z
        · exact .inr z
        · exact .inl (n1 x z)
  · rcases List.mem_append.mp hx with z | z
    · exact n1 x z
    · exact a.dom x (n2 x z)
  · obtain ⟨h1, h2⟩ := cont x o h h'
    exact b.keep x o h1 h2
theorem ExcAt.up {F F' : Hp} (h : ∀ a o, F a = some o → F' a = some o) {c : Nat} {ks : List Nat} {ds : List D} {cls : Value} {d : Option Addr} (q : ExcAt K mg g F c ks ds cls d) : ExcAt K mg g F' c ks ds cls d := by
  obtain ⟨C, h1, h2, h3 | ⟨dd, fs, e1, e2, e3, e4⟩⟩ := q
  · exact ⟨C, h1, h2, .inl h3⟩
  · exact ⟨C, h1, h2, .inr ⟨dd, fs, e1, h _ _ e2, e3, AtL.up h e4⟩⟩
/-- later, whatever became of the heap -/
structure Lat (wd wd' : Wd) : Prop where
  mono : ∀ a o, wd.F a = some o → wd'.F a = some o
  pre : ∃ nu, wd'.mu = wd.mu ++ nu
  xc : wd'.xc = wd.xc
theorem Ext.lat {wd' : Wd} {H' : Hp} (x : Ext wd H wd' H') : Lat wd wd' := ⟨x.mono, let ⟨nu, e, _⟩ := x.pre; ⟨nu, e⟩, x.xc⟩
theorem Lat.refl (wd : Wd) : Lat wd wd := ⟨fun _ _ h => h, ⟨[], by simp⟩, rfl⟩
theorem Lat.trans {a b c : Wd} (x : Lat a b) (y : Lat b c) : Lat a c := ⟨fun p o h => y.mono p o (x.mono p o h), (by
  obtain ⟨u, e⟩ := x.pre
  obtain ⟨v, e'⟩ := y.pre
  exact ⟨u ++ v, by rw [e', e, List.append_assoc]⟩), y.xc.trans x.xc⟩
theorem RAt.lat (a : Lat wd wd1) {r : R} {x : V} (h : RAt K mg g wd r x) : RAt K mg g wd1 r x := by
  cases r with
  | v d => exact At.up a.mono h
  | l k =>
    obtain ⟨b, e, q⟩ := h
    obtain ⟨nu, e1⟩ := a.pre
    refine ⟨b, ?_, q⟩
    rw [e1, List.getElem?_append_left ((List.getElem?_eq_some_iff.mp e).1)]
    exact e
  | e c ks ds =>
    obtain ⟨b, cls, d, e, q, z⟩ := h
    exact ⟨b, cls, d, a.xc.trans e, q, ExcAt.up a.mono z⟩
theorem RAt.up (a : Ext wd H wd1 H1) {r : R} {x : V} (h : RAt K mg g wd r x) : RAt K mg g wd1 r x := RAt.lat a.lat h
theorem RAtL.lat (a : Lat wd wd1) : ∀ {rs : List R} {xs : List V}, RAtL K mg g wd rs xs → RAtL K mg g wd1 rs xs
  | _, _, .nil => .nil
  | _, _, .cons q r => .cons (RAt.lat a q) (RAtL.lat a r)
theorem RAtL.up (a : Ext wd H wd1 H1) : ∀ {rs : List R} {xs : List V}, RAtL K mg g wd rs xs → RAtL K mg g wd1 rs xs
  | _, _, .nil => .nil
  | _, _, .cons q r => .cons (RAt.up a q) (RAtL.up a r)
theorem RAtL.len : ∀ {rs : List R} {xs : List V}, RAtL K mg g wd rs xs → rs.length = xs.length
  | _, _, .nil => rfl
  | _, _, .cons _ r => by rw [List.length_cons, List.length_cons, RAtL.len r]
theorem Rel.live (r : Rel K mg g wd S H) {a : Addr} (h : a ∈ wd.mu) : ∃ o, H a = some o := by
  obtain ⟨k, hk, e⟩ := List.getElem_of_mem h
  have e1 : wd.mu[k]? = some a := by rw [List.getElem?_eq_getElem hk, e]
  have hk2 : k < S.length := by rw [← r.len]; exact hk
  have q := r.cell k a S[k] e1 (List.getElem?_eq_getElem hk2)
  cases z : S[k] with
  | lst ds => rw [z] at q; obtain ⟨_, _, xs, h, _⟩ := q; exact ⟨_, h⟩
  | ins c ks rs => rw [z] at q; obtain ⟨_, C, dx, fs, _, h, _⟩ := q; exact ⟨_, h⟩
  | gone => rw [z] at q; exact q
end

/-! ### a new object -/
section
variable {K : Frag} {mg : MG} {g : Sig} {wd : Wd} {H : Hp} {S : List Cell}
theorem Rel.noF (r : Rel K mg g wd S H) {p : Addr} (hp : H p = none) : wd.F p = none := by
  cases e : wd.F p with
  | none => rfl
  | some o => rw [r.sub p o e] at hp; cases hp
theorem Rel.noMu (r : Rel K mg g wd S H) {p : Addr} (hp : H p = none) : p ∉ wd.mu := fun h => by
  obtain ⟨o, e⟩ := r.live h
  rw [e] at hp; cases hp
/-- a tracked thing at a fresh place that nobody speaks of -/
theorem Ext.fresh {p : Addr} {o : HO} (hp : H p = none) : Ext wd H wd (upd H p o) :=
  ⟨fun _ _ h => h, fun _ _ h h' => (by rw [h] at h'; cases h'), ⟨[], by simp, fun _ h => (by cases h)⟩, fun a u h _ => (by rw [upd_ne (ne_of_none h hp)]; exact h),
    fun a h => (by
      by_cases e : a = p
      · rw [e]; exact hp
      · rw [upd_ne e] at h; exact h), rfl⟩
theorem CellAt.keepL {H' : Hp} {wd' : Wd} {a : Addr} {c : Cell} (x : Lat wd wd') (hF : wd.F a = none → wd'.F a = none) (hH : H a = H' a) (q : CellAt K mg g wd H a c) : CellAt K mg g wd' H' a c := by
  cases c with
  | lst ds =>
    obtain ⟨q0, qz, xs, q1, q2⟩ := q
    exact ⟨hF q0, qz, xs, hH ▸ q1, AtL.up x.mono q2⟩
  | ins c ks rs =>
    obtain ⟨q0, C, dx, fs, q1, q2, q3, q4⟩ := q
    exact ⟨hF q0, C, dx, fs, q1, hH ▸ q2, q3, AtL.up x.mono q4⟩
  | gone =>
    obtain ⟨o, q⟩ := q
    exact ⟨o, hH ▸ q⟩
theorem CellAt.keep {H' : Hp} {wd' : Wd} {H0 : Hp} {a : Addr} {c : Cell} (x : Ext wd H0 wd' H') (hF : wd.F a = none → wd'.F a = none) (hH : H a = H' a) (q : CellAt K mg g wd H a c) : CellAt K mg g wd' H' a c := CellAt.keepL x.lat hF hH q
theorem Rel.fresh {p : Addr} {o : HO} (r : Rel K mg g wd S H) (hp : H p = none) : Rel K mg g wd S (upd H p o) := by
  refine ⟨fun a u h => ?_, r.len, r.nd, fun k a c h1 h2 => ?_⟩
  · have := r.sub a u h
    rw [upd_ne (ne_of_none this hp)]; exact this
  · have hne : a ≠ p := fun e => r.noMu hp (e ▸ List.mem_of_getElem? h1)
    exact CellAt.keep (Ext.fresh (o := o) hp) (fun h => h) (by rw [upd_ne hne]) (r.cell k a c h1 h2)
/-- .. frozen -/
def Wd.frz (wd : Wd) (p : Addr) (o : HO) : Wd := { wd with F := upd wd.F p o }
theorem Ext.froz {p : Addr} {o : HO} (hp : H p = none) (hF : wd.F p = none) : Ext wd H (wd.frz p o) (upd H p o) := by
  refine ⟨fun a u h => ?_, fun a u h h' => ?_, ⟨[], by simp [Wd.frz], fun _ h => (by cases h)⟩, fun a u h _ => (by rw [upd_ne (ne_of_none h hp)]; exact h), fun a h => ?_, rfl⟩
  · show upd wd.F p o a = some u
    rw [upd_ne (ne_of_none h hF)]; exact h
  · by_cases e : a = p
    · exact .inl (e ▸ hp)
    · have h : upd wd.F p o a = some u := h
      rw [upd_ne e, h'] at h; cases h
  · by_cases e : a = p
    · rw [e]; exact hp
    · rw [upd_ne e] at h; exact h
theorem Rel.froz {p : Addr} {o : HO} (r : Rel K mg g wd S H) (hp : H p = none) : Rel K mg g (wd.frz p o) S (upd H p o) := by
  have hF := r.noF hp
  have X := Ext.froz (wd := wd) (H := H) (o := o) hp hF
  refine ⟨fun a u h => ?_, r.len, r.nd, fun k a c h1 h2 => ?_⟩
  · have h : upd wd.F p o a = some u := h
    by_cases e : a = p
    · subst e; rw [upd_same] at h ⊢; exact h
    · rw [upd_ne e] at h ⊢; exact r.sub a u h
  · have hne : a ≠ p := fun e => r.noMu hp (e ▸ List.mem_of_getElem? h1)
    exact CellAt.keep X (fun h => by show upd wd.F p o a = none; rw [upd_ne hne]; exact h) (by rw [upd_ne hne]) (r.cell k a c h1 h2)
/-- .. a cell of the store -/
def Wd.add (wd : Wd) (p : Addr) : Wd := { wd with mu := wd.mu ++ [p] }
theorem Ext.add {p : Addr} {o : HO} (hp : H p = none) : Ext wd H (wd.add p) (upd H p o) := by
  refine ⟨fun a u h => h, fun a u h h' => (by have h : wd.F a = some u := h; rw [h] at h'; cases h'), ⟨[p], rfl, fun a h => (by rw [List.mem_singleton.mp h]; exact hp)⟩, fun a u h _ => (by rw [upd_ne (ne_of_none h hp)]; exact h), fun a h => ?_, rfl⟩
  by_cases e : a = p
  · rw [e]; exact hp
  · rw [upd_ne e] at h; exact h
theorem Rel.add {p : Addr} {o : HO} {c : Cell} (r : Rel K mg g wd S H) (hp : H p = none) (hc : CellAt K mg g (wd.add p) (upd H p o) p c) : Rel K mg g (wd.add p) (S ++ [c]) (upd H p o) := by
  refine ⟨fun a u h => ?_, ?_, ?_, fun k a d h1 h2 => ?_⟩
  · have := r.sub a u h
    rw [upd_ne (ne_of_none this hp)]; exact this
  · show (wd.mu ++ [p]).length = _
    rw [List.length_append, List.length_append, r.len]; rfl
  · show (wd.mu ++ [p]).Nodup
    refine List.nodup_append.mpr ⟨r.nd, by simp, fun a ha b hb e => ?_⟩
    rw [List.mem_singleton.mp hb] at e
    exact r.noMu hp (e ▸ ha)
  · have h1 : (wd.mu ++ [p])[k]? = some a := h1
    by_cases hk : k < wd.mu.length
    · rw [List.getElem?_append_left hk] at h1
      rw [List.getElem?_append_left (by rw [← r.len]; exact hk)] at h2
      have hne : a ≠ p := fun e => r.noMu hp (e ▸ List.mem_of_getElem? h1)
      exact CellAt.keep (Ext.add (o := o) hp) (fun h => h) (by rw [upd_ne hne]) (r.cell k a d h1 h2)
    · have hk' : wd.mu.length ≤ k := Nat.le_of_not_lt hk
      rw [List.getElem?_append_right hk'] at h1
      rw [List.getElem?_append_right (by rw [← r.len]; exact hk')] at h2
      have z : k - wd.mu.length = 0 := by
        cases q : k - wd.mu.length with
        | zero => rfl
        | succ n => rw [q] at h1; simp at h1
      rw [z] at h1
      rw [← r.len, z] at h2
      simp at h1 h2
      subst h1 h2
      exact hc
/-- a cell changed -/
theorem Ext.chg {k : Nat} {a : Addr} {o : HO} (r : Rel K mg g wd S H) (hk : wd.mu[k]? = some a) : Ext wd H wd (upd H a o) := by
  refine ⟨fun _ _ h => h, fun _ _ h h' => (by rw [h] at h'; cases h'), ⟨[], by simp, fun _ h => (by cases h)⟩, fun b u h hb => ?_, fun b h => ?_, rfl⟩
  · rw [upd_ne (fun (e : b = a) => hb (by rw [e]; exact List.mem_of_getElem? hk))]; exact h
  · by_cases e : b = a
    · subst e; rw [upd_same] at h; cases h
    · rw [upd_ne e] at h; exact h
theorem Rel.chg {k : Nat} {a : Addr} {o : HO} {c0 c : Cell} (r : Rel K mg g wd S H) (hk : wd.mu[k]? = some a) (h0 : S[k]? = some c0) (hF : wd.F a = none) (hc : CellAt K mg g wd (upd H a o) a c) : Rel K mg g wd (S.set k c) (upd H a o) := by
  refine ⟨fun b u h => ?_, by rw [List.length_set]; exact r.len, r.nd, fun j b d h1 h2 => ?_⟩
  · have hne : b ≠ a := fun e => by rw [e, hF] at h; cases h
    rw [upd_ne hne]; exact r.sub b u h
  · by_cases hj : j = k
    · subst hj
      rw [hk] at h1; cases h1
      have hlt : j < S.length := (List.getElem?_eq_some_iff.mp h0).1
      rw [List.getElem?_set_self hlt] at h2
      cases h2
      exact hc
    · rw [List.getElem?_set_ne (Ne.symm hj)] at h2
      have hne : b ≠ a := fun e => hj (nd_ix r.nd h1 (e ▸ hk))
      exact CellAt.keep (Ext.chg (o := o) r hk) (fun h => h) (by rw [upd_ne hne]) (r.cell j b d h1 h2)
/-- the store cut to its first n cells -/
def Wd.cut (wd : Wd) (n : Nat) : Wd := { wd with mu := wd.mu.take n }
theorem Rel.cut (r : Rel K mg g wd S H) (n : Nat) : Rel K mg g (wd.cut n) (S.take n) H := by
  refine ⟨r.sub, ?_, ?_, fun k a c h1 h2 => ?_⟩
  · show (wd.mu.take n).length = _
    rw [List.length_take, List.length_take, r.len]
  · exact (List.take_sublist n wd.mu).nodup r.nd
  · have h1 : (wd.mu.take n)[k]? = some a := h1
    have hk : k < n := by
      have := (List.getElem?_eq_some_iff.mp h1).1
      rw [List.length_take] at this
      omega
    rw [List.getElem?_take_of_lt hk] at h1 h2
    have q := r.cell k a c h1 h2
    cases c with
    | lst ds => exact q
    | ins c ks ds => exact q
    | gone => exact q
theorem Ext.cut {wd' : Wd} {H' : Hp} (x : Ext wd H wd' H') (r : Rel K mg g wd S H) : Ext wd H (wd'.cut S.length) H' := by
  obtain ⟨nu, e, _⟩ := x.pre
  refine ⟨x.mono, x.fnew, ⟨[], ?_, fun _ h => (by cases h)⟩, x.keep, x.dom, x.xc⟩
  show wd'.mu.take S.length = wd.mu ++ []
  rw [e, ← r.len, List.take_left', List.append_nil]
  rfl
end
end Mi

/-! Mi 2: results, judgements, expressions -/
namespace Mi
open PySem L2

abbrev Env := List (Option R)
abbrev Sto := List Cell
inductive Res (α : Type) where
  | ok (a : α) (S : Sto)
  | exc (c : Nat) (ks : List Nat) (ds : List D) (S : Sto)
  | bad
def Res.bind {α β : Type} (m : Res α) (f : α → Sto → Res β) : Res β := match m with
  | .ok a S => f a S
  | .exc c ks ds S => .exc c ks ds S
  | .bad => .bad
abbrev EM := Env → Sto → Res R
abbrev AM := Env → Sto → Res (List R)
abbrev TM := Env → Sto → Res Bool

section
variable (K : Frag) (mg : MG) (g : Sig)
structure EnvAt (wd : Wd) (env : Env) (σ : L2.St) : Prop where
  len : env.length = σ.length
  at_ : ∀ (i : Nat) (r : R), env[i]? = some (some r) → ∃ v, σ[i]? = some (some v) ∧ RAt K mg g wd r v
def Post {α : Type} (W : WX) (σ : L2.St) (wd : Wd) (H : Hp) (k : α → Sto → Wd → Hp → Prop) : Res α → Prop
  | .ok a S' => ∀ wd' H', Ext wd H wd' H' → Rel K mg g wd' S' H' → k a S' wd' H'
  | .exc c ks ds S' => ∀ wd' cls d H', Ext wd H wd' H' → Rel K mg g wd' S' H' → ExcAt K mg g wd'.F c ks ds cls d → W cls d σ H'
  | .bad => False
end
section
variable {K : Frag} {mg : MG} {g : Sig} {α β : Type} {W : WX} {σ : L2.St} {wd wd1 : Wd} {H H1 : Hp} {k k' : α → Sto → Wd → Hp → Prop} {m : Res α}
theorem EnvAt.up {env : Env} (a : Ext wd H wd1 H1) (e : EnvAt K mg g wd env σ) : EnvAt K mg g wd1 env σ :=
  ⟨e.len, fun i r h => let ⟨v, h1, h2⟩ := e.at_ i r h; ⟨v, h1, RAt.up a h2⟩⟩
theorem EnvAt.set {env : Env} {i : Nat} {r : R} {v : V} (e : EnvAt K mg g wd env σ) (q : RAt K mg g wd r v) : EnvAt K mg g wd (env.set i (some r)) (σ.set i (some v)) := by
  refine ⟨by rw [List.length_set, List.length_set]; exact e.len, fun j u h => ?_⟩
  by_cases hij : i = j
  · subst hij
    by_cases hl : i < env.length
    · rw [List.getElem?_set_self hl] at h
      cases h
      exact ⟨v, by rw [List.getElem?_set_self (by rw [← e.len]; exact hl)], q⟩
    · rw [List.getElem?_eq_none (by rw [List.length_set]; omega)] at h
      cases h
  · rw [List.getElem?_set_ne hij] at h ⊢
    exact e.at_ j u h
theorem EnvAt.unset {env : Env} {i : Nat} {o : Option V} (e : EnvAt K mg g wd env σ) : EnvAt K mg g wd (env.set i none) (σ.set i o) := by
  refine ⟨by rw [List.length_set, List.length_set]; exact e.len, fun j u h => ?_⟩
  by_cases hij : i = j
  · subst hij
    by_cases hl : i < env.length
    · rw [List.getElem?_set_self hl] at h
      cases h
    · rw [List.getElem?_eq_none (by rw [List.length_set]; omega)] at h
      cases h
  · rw [List.getElem?_set_ne hij] at h ⊢
    exact e.at_ j u h
theorem Post.later (x : Ext wd H wd1 H1) : Post K mg g W σ wd H k m → Post K mg g W σ wd1 H1 k m := by
  cases m with
  | ok a S => exact fun h wd' H' e r => h wd' H' (x.trans e) r
  | exc c ks ds S => exact fun h wd' cls d H' e r z => h wd' cls d H' (x.trans e) r z
  | bad => exact fun h => h
theorem Post.bind {f : α → Sto → Res β} {k : β → Sto → Wd → Hp → Prop} : Post K mg g W σ wd H k (m.bind f) → Post K mg g W σ wd H (fun a S1 wd1 H1 => Post K mg g W σ wd1 H1 k (f a S1)) m := by
  cases m with
  | ok a S => exact fun h wd' H' e r => Post.later e h
  | exc c ks ds S => exact fun h => h
  | bad => exact fun h => h
theorem Post.imp (hk : ∀ a S wd' H', Ext wd H wd' H' → Rel K mg g wd' S H' → k a S wd' H' → k' a S wd' H') : Post K mg g W σ wd H k m → Post K mg g W σ wd H k' m := by
  cases m with
  | ok a S => exact fun h wd' H' e r => hk a S wd' H' e r (h wd' H' e r)
  | exc c ks ds S => exact fun h => h
  | bad => exact fun h => h
theorem Post.now {a : α} {S : Sto} (r : Rel K mg g wd S H) (h : Post K mg g W σ wd H k (.ok a S)) : k a S wd H := h wd H (Ext.refl wd H) r
end

/-! ### the judgements -/
def Rn (X : Cx) (e : Expr) : TE := fun σ H Q => ∀ pins s, Inv X pins σ H s → wpAny (model X.prog X.w) X.A (eval e X.env) (EP X pins σ Q) X.xe s
def RnT (X : Cx) (e : Expr) : TT := fun σ H Q => ∀ pins s, Inv X pins σ H s → wpAny (model X.prog X.w) X.A (isTrue e X.env (eval e X.env)) (TP X pins σ Q) X.xe s
def RnW (X : Cx) (e : Expr) : TT := fun σ H Q => ∀ (whole : Sem Value) pins s, Inv X pins σ H s → wpAny (model X.prog X.w) X.A (isTrue e X.env whole) (TP X pins σ Q) X.xe s
def RnA (X : Cx) (es : List Expr) : TA := fun σ H Q => ∀ (pos : Pos) pins s, Inv X pins σ H s → wpAny (model X.prog X.w) X.A (spliced (backTo pos (starEach es X.env))) (AP X pins σ Q) X.xe s
theorem pe_rn {X : Cx} {e : Expr} : PE X e (Rn X e) := ⟨fun pins s σ H Q I h => h pins s I⟩
theorem pt_rn {X : Cx} {e : Expr} : PT X e (RnT X e) := ⟨fun pins s σ H Q I h => h pins s I⟩
theorem pw_rn {X : Cx} {e : Expr} : PW X e (RnW X e) := ⟨fun wh pins s σ H Q I h => h wh pins s I⟩
theorem pa_rn {X : Cx} {es : List Expr} : PA X es (RnA X es) := ⟨fun pos pins s σ H Q I h => h pos pins s I⟩
theorem _root_.L2.PE.rn {X : Cx} {e : Expr} {t : TE} (h : PE X e t) {σ : L2.St} {H : Hp} {Q : VK} (q : t σ H Q) : Rn X e σ H Q := fun pins s I => h.run pins s σ H Q I q
theorem _root_.L2.PT.rn {X : Cx} {e : Expr} {t : TT} (h : PT X e t) {σ : L2.St} {H : Hp} {Q : Bool → Hp → Prop} (q : t σ H Q) : RnT X e σ H Q := fun pins s I => h.run pins s σ H Q I q
theorem _root_.L2.PW.rn {X : Cx} {e : Expr} {t : TT} (h : PW X e t) {σ : L2.St} {H : Hp} {Q : Bool → Hp → Prop} (q : t σ H Q) : RnW X e σ H Q := fun wh pins s I => h.run wh pins s σ H Q I q
theorem _root_.L2.PA.rn {X : Cx} {es : List Expr} {t : TA} (h : PA X es t) {σ : L2.St} {H : Hp} {Q : List V → Hp → Prop} (q : t σ H Q) : RnA X es σ H Q := fun pos pins s I => h.run pos pins s σ H Q I q

/-- the expression e behaves as f says -/
def JE (X : Cx) (W : WX) (xc : Option (Addr × Value × Option Addr)) (g : Sig) (e : Expr) (f : EM) : Prop :=
  ∀ (env : Env) (S : Sto) (wd : Wd) (σ : L2.St) (H : Hp) (Q : VK), wd.xc = xc → EnvAt X.K X.mg g wd env σ → Rel X.K X.mg g wd S H →
    Post X.K X.mg g W σ wd H (fun r _ wd' H' => ∀ v, RAt X.K X.mg g wd' r v → Q v H') (f env S) → Rn X e σ H Q
def JT (X : Cx) (W : WX) (xc : Option (Addr × Value × Option Addr)) (g : Sig) (e : Expr) (f : TM) : Prop :=
  ∀ (env : Env) (S : Sto) (wd : Wd) (σ : L2.St) (H : Hp) (Q : Bool → Hp → Prop), wd.xc = xc → EnvAt X.K X.mg g wd env σ → Rel X.K X.mg g wd S H →
    Post X.K X.mg g W σ wd H (fun b _ _ H' => Q b H') (f env S) → RnT X e σ H Q
def JW (X : Cx) (W : WX) (xc : Option (Addr × Value × Option Addr)) (g : Sig) (e : Expr) (f : TM) : Prop :=
  ∀ (env : Env) (S : Sto) (wd : Wd) (σ : L2.St) (H : Hp) (Q : Bool → Hp → Prop), wd.xc = xc → EnvAt X.K X.mg g wd env σ → Rel X.K X.mg g wd S H →
    Post X.K X.mg g W σ wd H (fun b _ _ H' => Q b H') (f env S) → RnW X e σ H Q
def JA (X : Cx) (W : WX) (xc : Option (Addr × Value × Option Addr)) (g : Sig) (es : List Expr) (f : AM) : Prop :=
  ∀ (env : Env) (S : Sto) (wd : Wd) (σ : L2.St) (H : Hp) (Q : List V → Hp → Prop), wd.xc = xc → EnvAt X.K X.mg g wd env σ → Rel X.K X.mg g wd S H →
    Post X.K X.mg g W σ wd H (fun rs _ wd' H' => ∀ vs, RAtL X.K X.mg g wd' rs vs → Q vs H') (f env S) → RnA X es σ H Q

/-! ### small meanings -/
def eVar (i : Nat) : EM := fun env S => match env[i]? with | some (some r) => .ok r S | _ => .bad
def eC (d : D) : EM := fun _ S => .ok (.v d) S
def eOp (op : R → R → Sto → Res R) (a b : EM) : EM := fun env S => (a env S).bind fun x S1 => (b env S1).bind fun y S2 => op x y S2
def eUn (op : R → Sto → Res R) (a : EM) : EM := fun env S => (a env S).bind fun x S1 => op x S1
def aNil : AM := fun _ S => .ok [] S
def aCons (a : EM) (r : AM) : AM := fun env S => (a env S).bind fun x S1 => (r env S1).bind fun xs S2 => .ok (x :: xs) S2
def eApp (f : List R → Sto → Res R) (a : AM) : EM := fun env S => (a env S).bind fun xs S1 => f xs S1
/-- a value's truth where it is a bool -/
def tOf (a : EM) : TM := fun env S => (a env S).bind fun x S1 => match x with | .v (.bl b) => .ok b S1 | _ => .bad
def tAndM (a b : TM) : TM := fun env S => (a env S).bind fun c S1 => if c = true then b env S1 else .ok false S1
def tOrM (a b : TM) : TM := fun env S => (a env S).bind fun c S1 => if c = true then .ok true S1 else b env S1
def tNotM (a : TM) : TM := fun env S => (a env S).bind fun c S1 => .ok (!c) S1
def eAndM (a b : EM) : EM := fun env S => (a env S).bind fun x S1 => match x with | .v (.bl true) => b env S1 | .v (.bl false) => .ok (.v (.bl false)) S1 | _ => .bad
def eOrM (a b : EM) : EM := fun env S => (a env S).bind fun x S1 => match x with | .v (.bl false) => b env S1 | .v (.bl true) => .ok (.v (.bl true)) S1 | _ => .bad
def eNotM (a : EM) : EM := fun env S => (a env S).bind fun x S1 => match x with | .v (.bl c) => .ok (.v (.bl (!c))) S1 | _ => .bad
def eIfM (t : TM) (a b : EM) : EM := fun env S => (t env S).bind fun c S1 => if c = true then a env S1 else b env S1

section
variable {X : Cx} {W : WX} {xc : Option (Addr × Value × Option Addr)} {g : Sig} {pos : Pos} {a b e : Expr} {fa fb : EM}
theorem je_var (i : Nat) {x : Str} (hN : X.N[i]? = some x := by rfl) (hv : Vis X.env.scope x := by first | exact Or.inl rfl | exact Or.inr (Or.inl rfl) | exact Or.inr (Or.inr rfl)) (hd : (x == ("__debug__" : Str)) = false := by decide) (hcd : (x == ("__classdict__" : Str)) = false := by decide) :
    JE X W xc g (.Name x pos) (eVar i) := by
  intro env S wd σ H Q hx he hr hp
  refine (pe_var hN hv hd hcd : PE X (.Name x pos) (tVar i)).rn ?_
  unfold eVar at hp
  cases h : env[i]? with
  | none => rw [h] at hp; exact hp.elim
  | some o =>
    cases o with
    | none => rw [h] at hp; exact hp.elim
    | some r =>
      rw [h] at hp
      obtain ⟨v, h1, h2⟩ := he.at_ i r h
      exact ⟨v, h1, Post.now hr hp v h2⟩
theorem je_const {t : Expr} {d : D} {v : V} (h : PE X t (tC v)) (hd : ∀ wd, At X.K X.mg g wd d v) : JE X W xc g t (eC d) := by
  intro env S wd σ H Q hx he hr hp
  exact h.rn (Post.now hr hp v (hd wd.F))
theorem je_int {i j} : JE X W xc g (.Constant (.int i) j pos) (eC (.int i)) := je_const pe_int fun _ => .int i
theorem je_bl {i j} : JE X W xc g (.Constant (.bool i) j pos) (eC (.bl i)) := je_const pe_bl fun _ => .bl i
theorem je_non {j} : JE X W xc g (.Constant .none j pos) (eC .non) := je_const pe_non fun _ => .non
theorem je_str {i j} : JE X W xc g (.Constant (.str i) j pos) (eC (.str i)) := je_const pe_str fun _ => .str i

/-- what a binary rule of the layer says of data -/
def D2 (X : Cx) (W : WX) (g : Sig) (r : R2) (op : R → R → Sto → Res R) : Prop :=
  ∀ (S : Sto) (wd : Wd) (σ : L2.St) (H : Hp) (x y : V) (p q : R) (Q : VK), Rel X.K X.mg g wd S H → RAt X.K X.mg g wd p x → RAt X.K X.mg g wd q y →
    Post X.K X.mg g W σ wd H (fun r _ wd' H' => ∀ v, RAt X.K X.mg g wd' r v → Q v H') (op p q S) → r x y H Q
def DA (X : Cx) (W : WX) (g : Sig) (r : List V → Hp → VK → Prop) (op : List R → Sto → Res R) : Prop :=
  ∀ (S : Sto) (wd : Wd) (σ : L2.St) (H : Hp) (xs : List V) (ps : List R) (Q : VK), Rel X.K X.mg g wd S H → RAtL X.K X.mg g wd ps xs →
    Post X.K X.mg g W σ wd H (fun r _ wd' H' => ∀ v, RAt X.K X.mg g wd' r v → Q v H') (op ps S) → r xs H Q
theorem je_op2 {r : R2} {op : R → R → Sto → Res R} (hop : ∀ {ta tb : TE}, PE X a ta → PE X b tb → PE X e (tOp r ta tb)) (hr : D2 X W g r op) (ha : JE X W xc g a fa) (hb : JE X W xc g b fb) : JE X W xc g e (eOp op fa fb) := by
  intro env S wd σ H Q hx he hl hp
  refine (hop pe_rn pe_rn).rn ?_
  refine ha env S wd σ H _ hx he hl (Post.imp (fun x S1 wd1 H1 x1 r1 h1 v hv => ?_) (Post.bind hp))
  refine hb env S1 wd1 σ H1 _ (x1.xc.trans hx) (he.up x1) r1 (Post.imp (fun y S2 wd2 H2 x2 r2 h2 u hu => ?_) (Post.bind h1))
  exact hr S2 wd2 σ H2 v u x y Q r2 (RAt.up x2 hv) hu h2
theorem je_un {r : V → Hp → VK → Prop} {op : R → Sto → Res R} (hop : ∀ {ta : TE}, PE X a ta → PE X e (tUn r ta))
    (hr : ∀ (S : Sto) (wd : Wd) (σ : L2.St) (H : Hp) (x : V) (p : R) (Q : VK), Rel X.K X.mg g wd S H → RAt X.K X.mg g wd p x → Post X.K X.mg g W σ wd H (fun r _ wd' H' => ∀ v, RAt X.K X.mg g wd' r v → Q v H') (op p S) → r x H Q)
    (ha : JE X W xc g a fa) : JE X W xc g e (eUn op fa) := by
  intro env S wd σ H Q hx he hl hp
  refine (hop pe_rn).rn ?_
  refine ha env S wd σ H _ hx he hl (Post.imp (fun x S1 wd1 H1 x1 r1 h1 v hv => ?_) (Post.bind hp))
  exact hr S1 wd1 σ H1 v x Q r1 hv h1
theorem ja_nil : JA X W xc g [] aNil := by
  intro env S wd σ H Q hx he hl hp
  exact (pa_nil : PA X [] tNil).rn (Post.now hl hp [] .nil)
theorem ja_cons {es : List Expr} {fr : AM} (ha : JE X W xc g a fa) (hr : JA X W xc g es fr) (hs : starEach (a :: es) X.env = (false, eval a X.env) :: starEach es X.env := by rfl) : JA X W xc g (a :: es) (aCons fa fr) := by
  intro env S wd σ H Q hx he hl hp
  refine (pa_cons pe_rn pa_rn hs).rn ?_
  refine ha env S wd σ H _ hx he hl (Post.imp (fun x S1 wd1 H1 x1 r1 h1 v hv => ?_) (Post.bind hp))
  refine hr env S1 wd1 σ H1 _ (x1.xc.trans hx) (he.up x1) r1 (Post.imp (fun y S2 wd2 H2 x2 r2 h2 u hu => ?_) (Post.bind h1))
  exact Post.now r2 h2 (v :: u) (.cons (RAt.up x2 hv) hu)
/-- a call, a display: the arguments, then a rule over their values -/
theorem je_app {es : List Expr} {fr : AM} {r : List V → Hp → VK → Prop} {op : List R → Sto → Res R} (hop : ∀ {t : TA}, PA X es t → PE X e (tCB r t)) (hr : DA X W g r op) (ha : JA X W xc g es fr) : JE X W xc g e (eApp op fr) := by
  intro env S wd σ H Q hx he hl hp
  refine (hop pa_rn).rn ?_
  refine ha env S wd σ H _ hx he hl (Post.imp (fun x S1 wd1 H1 x1 r1 h1 v hv => ?_) (Post.bind hp))
  exact hr S1 wd1 σ H1 v x Q r1 hv h1

/-! ### tests, and, or, not -/
theorem jt_of (ha : JE X W xc g a fa) (hw : ∀ whole, isTrue a X.env whole = (do let v ← whole; standAt a.pos; holding [v] (truthy v)) := by intro _; rfl) : JT X W xc g a (tOf fa) := by
  intro env S wd σ H Q hx he hl hp
  refine (pt_val pe_rn hw).rn ?_
  refine ha env S wd σ H _ hx he hl (Post.imp (fun x S1 wd1 H1 x1 r1 h1 v hv => ?_) (Post.bind hp))
  cases x with
  | v d =>
    cases d with
    | bl c =>
      cases hv
      exact ⟨c, rfl, Post.now r1 h1⟩
    | _ => exact h1.elim
  | _ => exact h1.elim
/-- a comparison as a test -/
theorem jt_cmp {op : CmpOp} {r : R2} {o : R → R → Sto → Res R} (ho : OpR X (compareOp op) r) (hm : behindInMarks op b = false) (hr : D2 X W g r o) (ha : JE X W xc g a fa) (hb : JE X W xc g b fb) : JT X W xc g (.Compare a [op] [b] pos) (tOf (eOp o fa fb)) := by
  intro env S wd σ H Q hx he hl hp
  refine (pt_cmpR ho pe_rn pe_rn hm).rn ?_
  have hp := Post.bind hp
  refine ha env S wd σ H _ hx he hl (Post.imp (fun x S1 wd1 H1 x1 r1 h1 v hv => ?_) (Post.bind hp))
  refine hb env S1 wd1 σ H1 _ (x1.xc.trans hx) (he.up x1) r1 (Post.imp (fun y S2 wd2 H2 x2 r2 h2 u hu => ?_) (Post.bind h1))
  refine hr S2 wd2 σ H2 v u x y _ r2 (RAt.up x2 hv) hu (Post.imp (fun z S3 wd3 H3 x3 r3 h3 w hw => ?_) h2)
  cases z with
  | v d =>
    cases d with
    | bl c =>
      cases hw
      exact ⟨c, rfl, Post.now r3 h3⟩
    | _ => exact h3.elim
  | _ => exact h3.elim
theorem JW.jt {f : TM} (h : JW X W xc g e f) : JT X W xc g e f := fun env S wd σ H Q hx he hl hp => fun pins s I => h env S wd σ H Q hx he hl hp (eval e X.env) pins s I
variable {ta tb : TM} {rest : List Expr}
theorem jw_and1 (ha : JT X W xc g a ta) : JW X W xc g (.BoolOp .And [a] pos) ta := by
  intro env S wd σ H Q hx he hl hp
  exact (pw_and1 pt_rn).rn (ha env S wd σ H _ hx he hl hp)
theorem jw_or1 (ha : JT X W xc g a ta) : JW X W xc g (.BoolOp .Or [a] pos) ta := by
  intro env S wd σ H Q hx he hl hp
  exact (pw_or1 pt_rn).rn (ha env S wd σ H _ hx he hl hp)
theorem jw_and (ha : JT X W xc g a ta) (hb : JW X W xc g (.BoolOp .And (b :: rest) pos) tb) : JW X W xc g (.BoolOp .And (a :: b :: rest) pos) (tAndM ta tb) := by
  intro env S wd σ H Q hx he hl hp
  refine (pw_and pt_rn pw_rn).rn ?_
  refine ha env S wd σ H _ hx he hl (Post.imp (fun c S1 wd1 H1 x1 r1 h1 => ?_) (Post.bind hp))
  cases c with
  | true => rw [if_pos rfl]; exact hb env S1 wd1 σ H1 _ (x1.xc.trans hx) (he.up x1) r1 h1
  | false => rw [if_neg Bool.false_ne_true]; exact Post.now r1 h1
theorem jw_or (ha : JT X W xc g a ta) (hb : JW X W xc g (.BoolOp .Or (b :: rest) pos) tb) : JW X W xc g (.BoolOp .Or (a :: b :: rest) pos) (tOrM ta tb) := by
  intro env S wd σ H Q hx he hl hp
  refine (pw_or pt_rn pw_rn).rn ?_
  refine ha env S wd σ H _ hx he hl (Post.imp (fun c S1 wd1 H1 x1 r1 h1 => ?_) (Post.bind hp))
  cases c with
  | false => rw [if_neg Bool.false_ne_true]; exact hb env S1 wd1 σ H1 _ (x1.xc.trans hx) (he.up x1) r1 h1
  | true => rw [if_pos rfl]; exact Post.now r1 h1
theorem jt_not (ha : JT X W xc g a ta) : JT X W xc g (.UnaryOp .Not a pos) (tNotM ta) := by
  intro env S wd σ H Q hx he hl hp
  refine (pt_not pt_rn).rn ?_
  refine ha env S wd σ H _ hx he hl (Post.imp (fun c S1 wd1 H1 x1 r1 h1 => ?_) (Post.bind hp))
  exact Post.now r1 h1
theorem je_one {op} (ha : JE X W xc g a fa) : JE X W xc g (.BoolOp op [a] pos) fa := by
  intro env S wd σ H Q hx he hl hp
  exact (pe_one pe_rn).rn (ha env S wd σ H _ hx he hl hp)
theorem je_and (ha : JE X W xc g a fa) (hb : JE X W xc g (.BoolOp .And (b :: rest) pos) fb) : JE X W xc g (.BoolOp .And (a :: b :: rest) pos) (eAndM fa fb) := by
  intro env S wd σ H Q hx he hl hp
  refine (pe_and pe_rn pe_rn).rn ?_
  refine ha env S wd σ H _ hx he hl (Post.imp (fun x S1 wd1 H1 x1 r1 h1 v hv => ?_) (Post.bind hp))
  cases x with
  | v d =>
    cases d with
    | bl c =>
      cases hv
      refine ⟨c, rfl, ?_⟩
      cases c with
      | true => rw [if_pos rfl]; exact hb env S1 wd1 σ H1 _ (x1.xc.trans hx) (he.up x1) r1 h1
      | false => rw [if_neg Bool.false_ne_true]; exact Post.now r1 h1 _ (.bl false)
    | _ => exact h1.elim
  | _ => exact h1.elim
theorem je_or (ha : JE X W xc g a fa) (hb : JE X W xc g (.BoolOp .Or (b :: rest) pos) fb) : JE X W xc g (.BoolOp .Or (a :: b :: rest) pos) (eOrM fa fb) := by
  intro env S wd σ H Q hx he hl hp
  refine (pe_or pe_rn pe_rn).rn ?_
  refine ha env S wd σ H _ hx he hl (Post.imp (fun x S1 wd1 H1 x1 r1 h1 v hv => ?_) (Post.bind hp))
  cases x with
  | v d =>
    cases d with
    | bl c =>
      cases hv
      refine ⟨c, rfl, ?_⟩
      cases c with
      | false => rw [if_neg Bool.false_ne_true]; exact hb env S1 wd1 σ H1 _ (x1.xc.trans hx) (he.up x1) r1 h1
      | true => rw [if_pos rfl]; exact Post.now r1 h1 _ (.bl true)
    | _ => exact h1.elim
  | _ => exact h1.elim
theorem je_not (ha : JE X W xc g a fa) : JE X W xc g (.UnaryOp .Not a pos) (eNotM fa) := by
  intro env S wd σ H Q hx he hl hp
  refine (pe_not pe_rn).rn ?_
  refine ha env S wd σ H _ hx he hl (Post.imp (fun x S1 wd1 H1 x1 r1 h1 v hv => ?_) (Post.bind hp))
  cases x with
  | v d =>
    cases d with
    | bl c =>
      cases hv
      exact ⟨c, rfl, Post.now r1 h1 _ (.bl _)⟩
    | _ => exact h1.elim
  | _ => exact h1.elim
theorem je_if {c : Expr} {tc : TM} (hc : JT X W xc g c tc) (ha : JE X W xc g a fa) (hb : JE X W xc g b fb) : JE X W xc g (.IfExp c a b pos) (eIfM tc fa fb) := by
  intro env S wd σ H Q hx he hl hp
  refine (pe_ifExp pt_rn pe_rn pe_rn).rn ?_
  refine hc env S wd σ H _ hx he hl (Post.imp (fun k S1 wd1 H1 x1 r1 h1 => ?_) (Post.bind hp))
  cases k with
  | true => rw [if_pos rfl]; exact ha env S1 wd1 σ H1 _ (x1.xc.trans hx) (he.up x1) r1 h1
  | false => rw [if_neg Bool.false_ne_true]; exact hb env S1 wd1 σ H1 _ (x1.xc.trans hx) (he.up x1) r1 h1
end
end Mi

/-! Mi 3: operators on data -/
namespace Mi
open PySem L2

/-- the items of a sequence as it stands -/
def R.seq (r : R) (S : Sto) : Option (List D) := match r with
  | .v (.tup ds) => some ds
  | .v (.lst ds) => some ds
  | .v (.frl ds) => some ds
  | .l k => match S[k]? with | some (.lst ds) => some ds | _ => none
  | _ => none
/-- the items of a list that is tracked (frozen or mutable) -/
def R.lis (r : R) (S : Sto) : Option (List D) := match r with
  | .v (.lst ds) => some ds
  | .l k => match S[k]? with | some (.lst ds) => some ds | _ => none
  | _ => none
/-- what is read off a value, as data -/
def R.rd (r : R) (S : Sto) : Option D := match r with
  | .v d => some d
  | .l k => match S[k]? with | some (.lst ds) => some (.lst ds) | _ => none
  | _ => none

section
variable {K : Frag} {mg : MG} {g : Sig} {wd : Wd} {S : Sto} {H : Hp} {r : R} {x : V} {ds : List D}
theorem Rel.atH (rl : Rel K mg g wd S H) {d : D} (h : At K mg g wd.F d x) : At K mg g H d x := At.up rl.sub h
theorem Rel.atHL (rl : Rel K mg g wd S H) {xs : List V} (h : AtL K mg g wd.F ds xs) : AtL K mg g H ds xs := AtL.up rl.sub h
theorem lis_at (rl : Rel K mg g wd S H) (h : RAt K mg g wd r x) (e : r.lis S = some ds) : ∃ a xs, x = .ref a ∧ H a = some (.lst xs) ∧ AtL K mg g wd.F ds xs ∧ ds.length ≤ sizeLine := by
  unfold R.lis at e
  split at e
  · cases e
    cases h with
    | lst q r z => exact ⟨_, _, rfl, rl.sub _ _ q, r, z⟩
  · split at e
    · cases e
      rename_i hk
      obtain ⟨a, ha, rfl⟩ := h
      obtain ⟨_, z, xs, h1, h2⟩ := rl.cell _ a _ ha hk
      exact ⟨a, xs, rfl, h1, h2, z⟩
    · cases e
  · cases e
theorem seq_at (rl : Rel K mg g wd S H) (h : RAt K mg g wd r x) (e : r.seq S = some ds) : ∃ a xs, x = .ref a ∧ (SqL K H a xs ∨ SqT K H a xs) ∧ AtL K mg g wd.F ds xs ∧ ds.length ≤ sizeLine := by
  unfold R.seq at e
  split at e
  · cases e
    cases h with
    | tup q r z => exact ⟨_, _, rfl, .inr (SqT.up rl.sub q), r, z⟩
  · cases e
    cases h with
    | lst q r z => exact ⟨_, _, rfl, .inl (SqL.of (rl.sub _ _ q)), r, z⟩
  · cases e
    cases h with
    | frl q r z => exact ⟨_, _, rfl, .inl (SqL.up rl.sub q), r, z⟩
  · split at e
    · cases e
      rename_i hk
      obtain ⟨a, ha, rfl⟩ := h
      obtain ⟨_, z, xs, h1, h2⟩ := rl.cell _ a _ ha hk
      exact ⟨a, xs, rfl, .inl (SqL.of h1), h2, z⟩
    · cases e
  · cases e
theorem rd_at (rl : Rel K mg g wd S H) (h : RAt K mg g wd r x) {d : D} (e : r.rd S = some d) : At K mg g H d x := by
  unfold R.rd at e
  split at e
  · cases e; exact rl.atH h
  · split at e
    · cases e
      rename_i hk
      obtain ⟨a, ha, rfl⟩ := h
      obtain ⟨_, z, xs, h1, h2⟩ := rl.cell _ a _ ha hk
      exact .lst h1 (rl.atHL h2) z
    · cases e
  · cases e
end

/-! ### data as the library's data -/
mutual
def D.py : D → PyData
  | .non => .none
  | .bl b => .bool b
  | .int i => .int i
  | .str x => .str x
  | .tup ds => .tuple (D.pyL ds)
  | .lst ds => .list (D.pyL ds)
  | .frl ds => .list (D.pyL ds)
  | .obj _ _ _ => .dict []
def D.pyL : List D → List PyData
  | [] => []
  | d :: ds => D.py d :: D.pyL ds
end
mutual
theorem dp_of {K : Frag} {mg : MG} {g : Sig} {H : Hp} : ∀ {d : D} {x : V}, At K mg g H d x → d.py.canLay0 = true → Dp K H x d.py
  | _, _, .non, _ => by rw [D.py]; exact .non
  | _, _, .bl b, _ => by rw [D.py]; exact .bl b
  | _, _, .int i, _ => by rw [D.py]; exact .int i
  | _, _, .str x, _ => by rw [D.py]; exact .str x
  | _, _, .tup q r _, h => by
    rw [D.py] at h ⊢
    exact .tup q (dp_ofL r (by simpa [PyData.canLay0] using h))
  | _, _, .lst q r _, h => by
    rw [D.py] at h ⊢
    exact .lst (SqL.of q) (dp_ofL r (by simpa [PyData.canLay0] using h))
  | _, _, .frl q r _, h => by
    rw [D.py] at h ⊢
    exact .lst q (dp_ofL r (by simpa [PyData.canLay0] using h))
  | _, _, .obj _ _ _ _, h => by rw [D.py] at h; simp [PyData.canLay0] at h
theorem dp_ofL {K : Frag} {mg : MG} {g : Sig} {H : Hp} : ∀ {ds : List D} {xs : List V}, AtL K mg g H ds xs → PyData.canLayAll0 (D.pyL ds) = true → DpAll K H xs (D.pyL ds)
  | _, _, .nil, _ => by rw [D.pyL]; exact .nil
  | _, _, .cons q r, h => by
    rw [D.pyL] at h ⊢
    simp only [PyData.canLayAll0, Bool.and_eq_true] at h
    exact .cons (dp_of q h.1) (dp_ofL r h.2)
end
/-- data that can be compared -/
def D.shp (d : D) : Bool := SeqAt.shaped d.py
def D.eqv (d e : D) : Bool := PyData.eqv d.py e.py

/-! ### binary operators -/
def opAdd (p q : R) (S : Sto) : Res R := match p, q with
  | .v (.int i), .v (.int j) => .ok (.v (.int (i + j))) S
  | .v (.tup xs), .v (.tup ys) => if xs.length + ys.length ≤ sizeLine then .ok (.v (.tup (xs ++ ys))) S else .bad
  | p, q => match p.lis S, q.lis S with
    | some xs, some ys => if xs.length + ys.length ≤ sizeLine then .ok (.v (.lst (xs ++ ys))) S else .bad
    | _, _ => .bad
def opI (f : Int → Int → Int) (c : Int → Int → Bool) (p q : R) (S : Sto) : Res R := match p, q with
  | .v (.int i), .v (.int j) => if c i j = true then .ok (.v (.int (f i j))) S else .bad
  | _, _ => .bad
def cmI (f : Int → Int → Bool) (p q : R) (S : Sto) : Res R := match p, q with
  | .v (.int i), .v (.int j) => .ok (.v (.bl (f i j))) S
  | _, _ => .bad
def cYes (_ _ : Int) : Bool := true
def cMul (i j : Int) : Bool := decide (-(2 ^ 64) < i ∧ i < 2 ^ 64) || decide (-(2 ^ 64) < j ∧ j < 2 ^ 64)
def cDiv (_ j : Int) : Bool := decide (0 < j) && decide (j.natAbs.log2 < 9000)
def cMod (_ j : Int) : Bool := decide (0 < j)
def cPow (i j : Int) : Bool := decide (0 ≤ j) && decide (j ≤ 1000000) && decide (i.natAbs < 2 ^ 64)
abbrev opSub := opI (· - ·) cYes
abbrev opMul := opI (· * ·) cMul
abbrev opDiv := opI (· / ·) cDiv
abbrev opMod := opI (· % ·) cMod
abbrev opPow := opI (fun i j => i ^ j.toNat) cPow
abbrev cmLt := cmI fun i j => decide (i < j)
abbrev cmLe := cmI fun i j => decide (i ≤ j)
abbrev cmGt := cmI fun i j => decide (j < i)
abbrev cmGe := cmI fun i j => decide (j ≤ i)
def cmEq (p q : R) (S : Sto) : Res R := match p.rd S, q.rd S with
  | some a, some b => if a.shp && b.shp then .ok (.v (.bl (a.eqv b))) S else .bad
  | _, _ => .bad
def cmNe (p q : R) (S : Sto) : Res R := match p.rd S, q.rd S with
  | some a, some b => if a.shp && b.shp then .ok (.v (.bl (!a.eqv b))) S else .bad
  | _, _ => .bad
def cmIs (p q : R) (S : Sto) : Res R := match p, q with
  | .v .non, .v .non => .ok (.v (.bl true)) S
  | .v _, .v .non => .ok (.v (.bl false)) S
  | .l _, .v .non => .ok (.v (.bl false)) S
  | _, _ => .bad
def cmIsNot (p q : R) (S : Sto) : Res R := match p, q with
  | .v .non, .v .non => .ok (.v (.bl false)) S
  | .v _, .v .non => .ok (.v (.bl true)) S
  | .l _, .v .non => .ok (.v (.bl true)) S
  | _, _ => .bad
def D.flat : D → Bool
  | .non => true
  | .bl _ => true
  | .int _ => true
  | .str _ => true
  | _ => false
def inD (d : D) (ds : List D) : Bool := ds.any fun z => z.eqv d
def cmIn (p q : R) (S : Sto) : Res R := match p, q.seq S with
  | .v d, some ds => if d.flat && ds.all D.flat then .ok (.v (.bl (inD d ds))) S else
      match q.lis S with
      | some es => if d.shp && (D.lst es).shp then .ok (.v (.bl (inD d es))) S else .bad
      | none => .bad
  | _, _ => .bad
def cmNotIn (p q : R) (S : Sto) : Res R := match p, q.seq S with
  | .v d, some ds => if d.flat && ds.all D.flat then .ok (.v (.bl (!inD d ds))) S else
      match q.lis S with
      | some es => if d.shp && (D.lst es).shp then .ok (.v (.bl (!inD d es))) S else .bad
      | none => .bad
  | _, _ => .bad
def unNeg (p : R) (S : Sto) : Res R := match p with
  | .v (.int i) => .ok (.v (.int (-i))) S
  | _ => .bad

section
variable {X : Cx} {W : WX} {g : Sig}
theorem d2_opI {f : Int → Int → Int} {c : Int → Int → Bool} {C : Int → Int → Prop} (hc : ∀ i j, c i j = true → C i j) : D2 X W g (rI C fun i j => .int (f i j)) (opI f c) := by
  intro S wd σ H x y p q Q hr hp hq h
  unfold opI at h
  split at h
  · split at h
    · rename_i i j hcc
      cases hp; cases hq
      exact ⟨i, j, rfl, rfl, hc i j hcc, Post.now hr h _ (.int _)⟩
    · exact h.elim
  · exact h.elim
theorem d2_opI0 {f : Int → Int → Int} : D2 X W g (rI0 fun i j => .int (f i j)) (opI f cYes) := by
  intro S wd σ H x y p q Q hr hp hq h
  unfold opI at h
  split at h
  · split at h
    · rename_i i j hcc
      cases hp; cases hq
      exact ⟨i, j, rfl, rfl, Post.now hr h _ (.int _)⟩
    · exact h.elim
  · exact h.elim
theorem d2_cmI {f : Int → Int → Bool} : D2 X W g (rI0 fun i j => .bl (f i j)) (cmI f) := by
  intro S wd σ H x y p q Q hr hp hq h
  unfold cmI at h
  split at h
  · rename_i i j
    cases hp; cases hq
    exact ⟨i, j, rfl, rfl, Post.now hr h _ (.bl _)⟩
  · exact h.elim
def rAddM (K : Frag) : R2 := fun x y H Q => (rI0 (fun i j => .int (i + j)) x y H Q) ∨ (rCatA K x y H Q) ∨ rCat x y H Q
theorem op_addM : OpR X (binaryOp .Add) (rAddM X.K) := OpR.or op_add (OpR.or op_catA op_cat)
theorem d2_add : D2 X W g (rAddM X.K) opAdd := by
  intro S wd σ H x y p q Q hr hp hq h
  unfold opAdd at h
  split at h
  · cases hp; cases hq
    exact .inl ⟨_, _, rfl, rfl, Post.now hr h _ (.int _)⟩
  · split at h
    · rename_i hz
      cases hp with
      | tup q1 r1 z1 =>
        cases hq with
        | tup q2 r2 z2 =>
          refine .inr (.inl ⟨_, _, _, _, rfl, rfl, SqT.up hr.sub q1, SqT.up hr.sub q2, by rw [← r1.len, ← r2.len]; exact hz, fun e => ?_, fun e1 e2 => ?_, fun e1 e2 p hp => ?_⟩)
          · subst e
            cases r1
            exact Post.now hr h _ (.tup q2 r2 z2)
          · subst e2
            cases r2
            rw [List.append_nil] at h
            exact Post.now hr h _ (.tup q1 r1 z1)
          · rename_i vs _ us
            have X1 := Ext.froz (wd := wd) (H := H) (o := .tup (vs ++ us)) hp (hr.noF hp)
            exact h _ _ X1 (hr.froz hp) _ (At.tup (SqT.of upd_same) (AtL.app (AtL.up X1.mono r1) (AtL.up X1.mono r2)) (by rw [List.length_append]; exact hz))
    · exact h.elim
  · split at h
    · split at h
      · rename_i xs ys e1 e2 hz
        obtain ⟨a, vs, rfl, h1, r1, z1⟩ := lis_at hr hp e1
        obtain ⟨b, us, rfl, h2, r2, z2⟩ := lis_at hr hq e2
        refine .inr (.inr ⟨a, b, vs, us, rfl, rfl, h1, h2, by rw [← r1.len, ← r2.len]; exact hz, fun p hp => ?_⟩)
        have X1 := Ext.froz (wd := wd) (H := H) (o := .lst (vs ++ us)) hp (hr.noF hp)
        exact h (wd.frz p _) _ X1 (hr.froz hp) _ (At.lst upd_same (AtL.app (AtL.up X1.mono r1) (AtL.up X1.mono r2)) (by rw [List.length_append]; exact hz))
      · exact h.elim
    · exact h.elim
theorem d2_eq : D2 X W g (rEqD X.K) cmEq := by
  intro S wd σ H x y p q Q hr hp hq h
  unfold cmEq at h
  split at h
  · split at h
    · rename_i a b e1 e2 hz
      rw [Bool.and_eq_true] at hz
      exact ⟨a.py, b.py, dp_of (rd_at hr hp e1) (SeqAt.canLay_of_shaped hz.1), dp_of (rd_at hr hq e2) (SeqAt.canLay_of_shaped hz.2), hz.1, hz.2, Post.now hr h _ (.bl _)⟩
    · exact h.elim
  · exact h.elim
theorem d2_ne : D2 X W g (rNeD X.K) cmNe := by
  intro S wd σ H x y p q Q hr hp hq h
  unfold cmNe at h
  split at h
  · split at h
    · rename_i a b e1 e2 hz
      rw [Bool.and_eq_true] at hz
      exact ⟨a.py, b.py, dp_of (rd_at hr hp e1) (SeqAt.canLay_of_shaped hz.1), dp_of (rd_at hr hq e2) (SeqAt.canLay_of_shaped hz.2), hz.1, hz.2, Post.now hr h _ (.bl _)⟩
    · exact h.elim
  · exact h.elim
theorem d2_is : D2 X W g (fun x y H Q => y = .non ∧ Q (.bl (decide (x = .non))) H) cmIs := by
  intro S wd σ H x y p q Q hr hp hq h
  unfold cmIs at h
  split at h
  · cases hp; cases hq
    exact ⟨rfl, Post.now hr h _ (.bl _)⟩
  · rename_i d hd
    cases hq
    refine ⟨rfl, ?_⟩
    have hx : decide (x = .non) = false := by
      cases hp <;> first | rfl | exact absurd rfl hd
    rw [hx]
    exact Post.now hr h _ (.bl _)
  · cases hq
    obtain ⟨a, _, rfl⟩ := hp
    exact ⟨rfl, Post.now hr h _ (.bl _)⟩
  · exact h.elim
theorem d2_isnot : D2 X W g (fun x y H Q => y = .non ∧ Q (.bl (!decide (x = .non))) H) cmIsNot := by
  intro S wd σ H x y p q Q hr hp hq h
  unfold cmIsNot at h
  split at h
  · cases hp; cases hq
    exact ⟨rfl, Post.now hr h _ (.bl _)⟩
  · rename_i d hd
    cases hq
    refine ⟨rfl, ?_⟩
    have hx : (!decide (x = .non)) = true := by
      cases hp <;> first | rfl | exact absurd rfl hd
    rw [hx]
    exact Post.now hr h _ (.bl _)
  · cases hq
    obtain ⟨a, _, rfl⟩ := hp
    exact ⟨rfl, Post.now hr h _ (.bl _)⟩
  · exact h.elim
theorem flat_at {K : Frag} {mg : MG} {F : Hp} {d : D} {x : V} (h : At K mg g F d x) (f : d.flat = true) : flatV x = true := by
  cases h <;> first | rfl | (simp [D.flat] at f; done)
theorem flat_atL {K : Frag} {mg : MG} {F : Hp} : ∀ {ds : List D} {xs : List V}, AtL K mg g F ds xs → ds.all D.flat = true → xs.all flatV = true
  | _, _, .nil, _ => rfl
  | _, _, .cons q r, f => by
    rw [List.all_cons, Bool.and_eq_true] at f
    rw [List.all_cons, flat_at q f.1, flat_atL r f.2]
    rfl
theorem eqV_at {K : Frag} {mg : MG} {F : Hp} {d e : D} {x y : V} (h : At K mg g F d x) (h' : At K mg g F e y) (f : d.flat = true) (f' : e.flat = true) : eqV x y = d.eqv e := by
  cases h <;> cases h' <;> first | (simp [D.flat] at f; done) | (simp [D.flat] at f'; done) | (simp [eqV, D.eqv, D.py, PyData.eqv]; done)
theorem inV_at {K : Frag} {mg : MG} {F : Hp} {d : D} {x : V} (h : At K mg g F d x) (f : d.flat = true) : ∀ {ds : List D} {xs : List V}, AtL K mg g F ds xs → ds.all D.flat = true → inV x xs = inD d ds
  | _, _, .nil, _ => rfl
  | _, _, .cons q r, fs => by
    rw [List.all_cons, Bool.and_eq_true] at fs
    have ih := inV_at h f r fs.2
    unfold inV inD at ih ⊢
    rw [List.any_cons, List.any_cons, eqV_at q h fs.1 f, ih]
def rInM (K : Frag) (neg : Bool) : R2 := fun x y H Q => rIn K neg x y H Q ∨ (if neg then rNotInD K x y H Q else rInD K x y H Q)
theorem op_inM (hu : X.A.units + 65 < cLine) : OpR X (compareOp .In) (rInM X.K false) := OpR.or op_in_seq (op_inD hu)
theorem op_notInM (hu : X.A.units + 65 < cLine) : OpR X (compareOp .NotIn) (rInM X.K true) := OpR.or op_notIn_seq (op_notInD hu)
theorem any_pyL (d : D) : ∀ ds : List D, (D.pyL ds).any (fun z => PyData.eqv z d.py) = inD d ds
  | [] => by rw [D.pyL]; rfl
  | e :: ds => by
    rw [D.pyL, List.any_cons, any_pyL d ds]
    rfl
theorem lis_rd {r : R} {S : Sto} {es : List D} (h : r.lis S = some es) : r.rd S = some (.lst es) := by
  unfold R.lis at h
  unfold R.rd
  split at h
  · cases h; rfl
  · split at h
    · cases h
      rename_i hk
      simp only [hk]
    · cases h
  · cases h
theorem d2_in : D2 X W g (rInM X.K false) cmIn := by
  intro S wd σ H x y p q Q hr hp hq h
  unfold cmIn at h
  split at h
  · rename_i d ds e1
    split at h
    · rename_i hz
      rw [Bool.and_eq_true] at hz
      obtain ⟨a, xs, rfl, h1, r1, z1⟩ := seq_at hr hq e1
      refine .inl ⟨a, xs, rfl, h1, flat_at hp hz.1, flat_atL r1 hz.2, ?_⟩
      show Q (.bl (inV x xs)) H
      rw [inV_at hp hz.1 r1 hz.2]
      exact Post.now hr h _ (.bl _)
    · split at h
      · split at h
        · rename_i es e2 hz
          rw [Bool.and_eq_true] at hz
          have hl : At X.K X.mg g H (.lst es) y := rd_at hr hq (lis_rd e2)
          have h2 := dp_of hl (SeqAt.canLay_of_shaped hz.2)
          have e3 : (D.lst es).py = .list (D.pyL es) := by rw [D.py]
          rw [e3] at h2
          refine .inr ⟨d.py, D.pyL es, dp_of (hr.atH hp) (SeqAt.canLay_of_shaped hz.1), h2, hz.1, (by rw [← e3]; exact hz.2), ?_⟩
          rw [any_pyL]
          exact Post.now hr h _ (.bl _)
        · exact h.elim
      · exact h.elim
  · exact h.elim
theorem d2_notin : D2 X W g (rInM X.K true) cmNotIn := by
  intro S wd σ H x y p q Q hr hp hq h
  unfold cmNotIn at h
  split at h
  · rename_i d ds e1
    split at h
    · rename_i hz
      rw [Bool.and_eq_true] at hz
      obtain ⟨a, xs, rfl, h1, r1, z1⟩ := seq_at hr hq e1
      refine .inl ⟨a, xs, rfl, h1, flat_at hp hz.1, flat_atL r1 hz.2, ?_⟩
      show Q (.bl (!inV x xs)) H
      rw [inV_at hp hz.1 r1 hz.2]
      exact Post.now hr h _ (.bl _)
    · split at h
      · split at h
        · rename_i es e2 hz
          rw [Bool.and_eq_true] at hz
          have hl : At X.K X.mg g H (.lst es) y := rd_at hr hq (lis_rd e2)
          have h2 := dp_of hl (SeqAt.canLay_of_shaped hz.2)
          have e3 : (D.lst es).py = .list (D.pyL es) := by rw [D.py]
          rw [e3] at h2
          refine .inr ⟨d.py, D.pyL es, dp_of (hr.atH hp) (SeqAt.canLay_of_shaped hz.1), h2, hz.1, (by rw [← e3]; exact hz.2), ?_⟩
          rw [any_pyL]
          exact Post.now hr h _ (.bl _)
        · exact h.elim
      · exact h.elim
  · exact h.elim
end

/-! ### the rules for expressions -/
section
variable {X : Cx} {W : WX} {xc : Option (Addr × Value × Option Addr)} {g : Sig} {pos : Pos} {a b c e : Expr} {fa fb fc : EM}
theorem je_add (ha : JE X W xc g a fa) (hb : JE X W xc g b fb) : JE X W xc g (.BinOp a .Add b pos) (eOp opAdd fa fb) := je_op2 (pe_op op_addM) d2_add ha hb
theorem je_sub (ha : JE X W xc g a fa) (hb : JE X W xc g b fb) : JE X W xc g (.BinOp a .Sub b pos) (eOp opSub fa fb) := je_op2 (pe_op op_sub) d2_opI0 ha hb
theorem je_mul (ha : JE X W xc g a fa) (hb : JE X W xc g b fb) : JE X W xc g (.BinOp a .Mult b pos) (eOp opMul fa fb) :=
  je_op2 (pe_op op_mul) (d2_opI fun i j h => by
    unfold cMul at h
    rw [Bool.or_eq_true, decide_eq_true_eq, decide_eq_true_eq] at h
    exact h) ha hb
theorem je_div (ha : JE X W xc g a fa) (hb : JE X W xc g b fb) : JE X W xc g (.BinOp a .FloorDiv b pos) (eOp opDiv fa fb) :=
  je_op2 (pe_op op_fdivW) (d2_opI fun i j h => by
    unfold cDiv at h
    rw [Bool.and_eq_true, decide_eq_true_eq, decide_eq_true_eq] at h
    exact h) ha hb
theorem je_mod (ha : JE X W xc g a fa) (hb : JE X W xc g b fb) : JE X W xc g (.BinOp a .Mod b pos) (eOp opMod fa fb) :=
  je_op2 (pe_op op_mod) (d2_opI fun i j h => by
    unfold cMod at h
    rw [decide_eq_true_eq] at h
    exact h) ha hb
theorem je_pow (ha : JE X W xc g a fa) (hb : JE X W xc g b fb) : JE X W xc g (.BinOp a .Pow b pos) (eOp opPow fa fb) :=
  je_op2 (pe_op op_pow) (d2_opI fun i j h => by
    unfold cPow at h
    rw [Bool.and_eq_true, Bool.and_eq_true, decide_eq_true_eq, decide_eq_true_eq, decide_eq_true_eq] at h
    exact ⟨h.1.1, h.1.2, h.2⟩) ha hb
theorem je_neg (ha : JE X W xc g a fa) : JE X W xc g (.UnaryOp .USub a pos) (eUn unNeg fa) := by
  refine je_un (pe_un un_neg) (fun S wd σ H x p Q hr hp h => ?_) ha
  unfold unNeg at h
  split at h
  · cases hp
    exact ⟨_, rfl, Post.now hr h _ (.int _)⟩
  · exact h.elim
/-- a comparison's operator with the rule of the layer and its meaning -/
inductive CmpM (X : Cx) (W : WX) (g : Sig) : CmpOp → (R → R → Sto → Res R) → Prop
  | mk {op : CmpOp} {r : R2} {o : R → R → Sto → Res R} (ho : OpR X (compareOp op) r) (hd : D2 X W g r o) : CmpM X W g op o
theorem cm_lt : CmpM X W g .Lt cmLt := ⟨op_lt, d2_cmI⟩
theorem cm_le : CmpM X W g .LtE cmLe := ⟨op_le, d2_cmI⟩
theorem cm_gt : CmpM X W g .Gt cmGt := ⟨op_gt, d2_cmI⟩
theorem cm_ge : CmpM X W g .GtE cmGe := ⟨op_ge, d2_cmI⟩
theorem cm_eq (hu : X.A.units + 64 < cLine) : CmpM X W g .Eq cmEq := ⟨op_eqD hu, d2_eq⟩
theorem cm_ne (hu : X.A.units + 64 < cLine) : CmpM X W g .NotEq cmNe := ⟨op_neD hu, d2_ne⟩
theorem cm_is : CmpM X W g .Is cmIs := ⟨op_isN, d2_is⟩
theorem cm_isnot : CmpM X W g .IsNot cmIsNot := ⟨op_notN, d2_isnot⟩
theorem cm_in (hu : X.A.units + 65 < cLine) : CmpM X W g .In cmIn := ⟨op_inM hu, d2_in⟩
theorem cm_notin (hu : X.A.units + 65 < cLine) : CmpM X W g .NotIn cmNotIn := ⟨op_notInM hu, d2_notin⟩
theorem je_cmp {op : CmpOp} {o : R → R → Sto → Res R} (hc : CmpM X W g op o) (ha : JE X W xc g a fa) (hb : JE X W xc g b fb) (hm : behindInMarks op b = false := by first | exact nobehind _ (by decide) (by decide) | rfl) : JE X W xc g (.Compare a [op] [b] pos) (eOp o fa fb) := by
  obtain ⟨ho, hd⟩ := hc
  exact je_op2 (fun p q => pe_cmpR ho p q hm) hd ha hb
theorem jt_cm {op : CmpOp} {o : R → R → Sto → Res R} (hc : CmpM X W g op o) (ha : JE X W xc g a fa) (hb : JE X W xc g b fb) (hm : behindInMarks op b = false := by first | exact nobehind _ (by decide) (by decide) | rfl) : JT X W xc g (.Compare a [op] [b] pos) (tOf (eOp o fa fb)) := by
  obtain ⟨ho, hd⟩ := hc
  exact jt_cmp ho hm hd ha hb
/-- a < b < c -/
def eChn (o o' : R → R → Sto → Res R) (fa fb fc : EM) : EM := fun env S => (fa env S).bind fun x S1 => (fb env S1).bind fun y S2 => (o x y S2).bind fun z S3 => match z with
  | .v (.bl true) => (fc env S3).bind fun w S4 => o' y w S4
  | .v (.bl false) => .ok (.v (.bl false)) S3
  | _ => .bad
theorem je_chn {op op' : CmpOp} {o o' : R → R → Sto → Res R} (hc : CmpM X W g op o) (hc' : CmpM X W g op' o') (ha : JE X W xc g a fa) (hb : JE X W xc g b fb) (hcc : JE X W xc g c fc) (hm : lastMarks [op, op'] [b, c] = false := by with_unfolding_all rfl) :
    JE X W xc g (.Compare a [op, op'] [b, c] pos) (eChn o o' fa fb fc) := by
  obtain ⟨ho, hd⟩ := hc
  obtain ⟨ho', hd'⟩ := hc'
  intro env S wd σ H Q hx he hl hp
  refine (pe_chain ho ho' pe_rn pe_rn pe_rn hm).rn ?_
  refine ha env S wd σ H _ hx he hl (Post.imp (fun x S1 wd1 H1 x1 r1 h1 v hv => ?_) (Post.bind hp))
  refine hb env S1 wd1 σ H1 _ (x1.xc.trans hx) (he.up x1) r1 (Post.imp (fun y S2 wd2 H2 x2 r2 h2 u hu => ?_) (Post.bind h1))
  refine hd S2 wd2 σ H2 v u x y _ r2 (RAt.up x2 hv) hu (Post.imp (fun z S3 wd3 H3 x3 r3 h3 w hw => ?_) (Post.bind h2))
  split at h3
  · cases hw
    refine ⟨true, rfl, ?_⟩
    rw [if_pos rfl]
    refine hcc env S3 wd3 σ H3 _ (x3.xc.trans (x2.xc.trans (x1.xc.trans hx))) ((he.up x1).up (x2.trans x3)) r3 (Post.imp (fun t S4 wd4 H4 x4 r4 h4 s hs => ?_) (Post.bind h3))
    exact hd' S4 wd4 σ H4 u s y t Q r4 (RAt.up (x3.trans x4) hu) hs h4
  · cases hw
    refine ⟨false, rfl, ?_⟩
    rw [if_neg Bool.false_ne_true]
    exact Post.now r3 h3 _ (.bl _)
  · exact h3.elim
/-- displays -/
def R.dat : R → Option D
  | .v d => some d
  | _ => none
def allD : List R → Option (List D)
  | [] => some []
  | .v d :: rs => match allD rs with | some ds => some (d :: ds) | none => none
  | _ :: _ => none
theorem allD_at {K : Frag} {mg : MG} {wd : Wd} : ∀ {rs : List R} {ds : List D} {xs : List V}, RAtL K mg g wd rs xs → allD rs = some ds → AtL K mg g wd.F ds xs
  | _, _, _, .nil, e => by cases e; exact .nil
  | _, _, _, .cons (r := r) q t, e => by
    cases r with
    | v d =>
      unfold allD at e
      split at e
      · rename_i ds' h
        cases e
        exact .cons q (allD_at t h)
      · cases e
    | l k => cases e
    | e c ks ds => cases e
def mTup (rs : List R) (S : Sto) : Res R := match allD rs with
  | some ds => if ds.length ≤ sizeLine then .ok (.v (.tup ds)) S else .bad
  | none => .bad
def mLst (rs : List R) (S : Sto) : Res R := match allD rs with
  | some ds => if ds.length ≤ sizeLine then .ok (.v (.lst ds)) S else .bad
  | none => .bad
/-- the same, mutable -/
def mLstM (rs : List R) (S : Sto) : Res R := match allD rs with
  | some ds => if ds.length ≤ sizeLine then .ok (.l S.length) (S ++ [.lst ds]) else .bad
  | none => .bad
theorem cellAt_new {K : Frag} {mg : MG} {wd : Wd} {S : Sto} {H : Hp} {p : Addr} {xs : List V} {ds : List D} (hr : Rel K mg g wd S H) (hp : H p = none) (q : AtL K mg g wd.F ds xs) (hz : ds.length ≤ sizeLine) : CellAt K mg g (wd.add p) (upd H p (.lst xs)) p (.lst ds) :=
  ⟨hr.noF hp, hz, xs, upd_same, q⟩
theorem rat_new {K : Frag} {mg : MG} {wd : Wd} {S : Sto} {H : Hp} {p : Addr} (hr : Rel K mg g wd S H) : RAt K mg g (wd.add p) (.l S.length) (.ref p) :=
  ⟨p, by show (wd.mu ++ [p])[S.length]? = some p; rw [← hr.len, List.getElem?_append_right (Nat.le_refl _)]; simp, rfl⟩
theorem da_tup : DA X W g (fun xs H Q => xs.length ≤ sizeLine ∧ ∀ p, H p = none → Q (.ref p) (upd H p (.tup xs))) mTup := by
  intro S wd σ H xs ps Q hr hp h
  unfold mTup at h
  split at h
  · split at h
    · rename_i ds e hz
      have q := allD_at hp e
      refine ⟨by rw [← q.len]; exact hz, fun p hp => ?_⟩
      have X1 := Ext.froz (wd := wd) (H := H) (o := .tup xs) hp (hr.noF hp)
      exact h _ _ X1 (hr.froz hp) _ (At.tup (SqT.of upd_same) (AtL.up X1.mono q) hz)
    · exact h.elim
  · exact h.elim
theorem da_lst : DA X W g (fun xs H Q => xs.length ≤ sizeLine ∧ ∀ p, H p = none → Q (.ref p) (upd H p (.lst xs))) mLst := by
  intro S wd σ H xs ps Q hr hp h
  unfold mLst at h
  split at h
  · split at h
    · rename_i ds e hz
      have q := allD_at hp e
      refine ⟨by rw [← q.len]; exact hz, fun p hp => ?_⟩
      have X1 := Ext.froz (wd := wd) (H := H) (o := .lst xs) hp (hr.noF hp)
      exact h _ _ X1 (hr.froz hp) _ (At.lst upd_same (AtL.up X1.mono q) hz)
    · exact h.elim
  · exact h.elim
theorem da_lstM : DA X W g (fun xs H Q => xs.length ≤ sizeLine ∧ ∀ p, H p = none → Q (.ref p) (upd H p (.lst xs))) mLstM := by
  intro S wd σ H xs ps Q hr hp h
  unfold mLstM at h
  split at h
  · split at h
    · rename_i ds e hz
      have q := allD_at hp e
      refine ⟨by rw [← q.len]; exact hz, fun p hp => ?_⟩
      exact h (wd.add p) _ (Ext.add hp) (hr.add hp (cellAt_new hr hp q hz)) _ (rat_new hr)
    · exact h.elim
  · exact h.elim
variable {es : List Expr} {fr : AM}
theorem je_tup {x1} (ha : JA X W xc g es fr) : JE X W xc g (.Tuple es x1 pos) (eApp mTup fr) := je_app (fun h => pe_tup h) da_tup ha
theorem je_lst (ha : JA X W xc g es fr) : JE X W xc g (.List es pos) (eApp mLst fr) := je_app (fun h => pe_lst h) da_lst ha
theorem je_lstM (ha : JA X W xc g es fr) : JE X W xc g (.List es pos) (eApp mLstM fr) := je_app (fun h => pe_lst h) da_lstM ha
end
end Mi

/-! Mi 4: statements -/
namespace Mi
open PySem L2

inductive Fl where
  | nx (env : Env)
  | rt (r : R)
  | bk (env : Env)
  | ct (env : Env)
inductive RS where
  | ok (f : Fl) (S : Sto)
  | exc (c : Nat) (ks : List Nat) (ds : List D) (env : Env) (S : Sto)
  | bad
abbrev SM := Env → Sto → RS
def RS.thn (m : RS) (f : Env → Sto → RS) : RS := match m with
  | .ok (.nx env) S => f env S
  | m => m
/-- an expression's result at a statement -/
def Res.thn {α : Type} (m : Res α) (env : Env) (f : α → Sto → RS) : RS := match m with
  | .ok a S => f a S
  | .exc c ks ds S => .exc c ks ds env S
  | .bad => .bad

section
variable (K : Frag) (mg : MG) (g : Sig)
def PostS (W : WX) (E : Ends) (wd : Wd) (H : Hp) : RS → Prop
  | .ok (.nx env') S' => ∀ wd' σ' H', Ext wd H wd' H' → Rel K mg g wd' S' H' → EnvAt K mg g wd' env' σ' → E.nx σ' H'
  | .ok (.bk env') S' => ∀ wd' σ' H', Ext wd H wd' H' → Rel K mg g wd' S' H' → EnvAt K mg g wd' env' σ' → E.bk σ' H'
  | .ok (.ct env') S' => ∀ wd' σ' H', Ext wd H wd' H' → Rel K mg g wd' S' H' → EnvAt K mg g wd' env' σ' → E.ct σ' H'
  | .ok (.rt r) S' => ∀ wd' v H', Ext wd H wd' H' → Rel K mg g wd' S' H' → RAt K mg g wd' r v → E.rt v H'
  | .exc c ks ds env' S' => ∀ wd' cls d σ' H', Ext wd H wd' H' → Rel K mg g wd' S' H' → EnvAt K mg g wd' env' σ' → ExcAt K mg g wd'.F c ks ds cls d → W cls d σ' H'
  | .bad => False
end
section
variable {K : Frag} {mg : MG} {g : Sig} {α : Type} {W : WX} {σ : L2.St} {wd wd1 : Wd} {H H1 : Hp} {E : Ends} {m : RS}
theorem PostS.later (x : Ext wd H wd1 H1) : PostS K mg g W E wd H m → PostS K mg g W E wd1 H1 m := by
  cases m with
  | ok f S =>
    cases f with
    | nx env => exact fun h wd' σ' H' e r q => h wd' σ' H' (x.trans e) r q
    | bk env => exact fun h wd' σ' H' e r q => h wd' σ' H' (x.trans e) r q
    | ct env => exact fun h wd' σ' H' e r q => h wd' σ' H' (x.trans e) r q
    | rt u => exact fun h wd' v H' e r q => h wd' v H' (x.trans e) r q
  | exc c ks ds env S => exact fun h wd' cls d σ' H' e r q z => h wd' cls d σ' H' (x.trans e) r q z
  | bad => exact fun h => h
/-- an expression ahead -/
theorem PostS.res {a : Res α} {env : Env} {f : α → Sto → RS} (he : EnvAt K mg g wd env σ) : PostS K mg g W E wd H (a.thn env f) → Post K mg g W σ wd H (fun r S1 wd1 H1 => PostS K mg g W E wd1 H1 (f r S1)) a := by
  cases a with
  | ok r S => exact fun h wd' H' e _ => PostS.later e h
  | exc c ks ds S => exact fun h wd' cls d H' e r z => h wd' cls d σ H' e r (he.up e) z
  | bad => exact fun h => h
end

def RnS (X : Cx) (st : Stmt) : TS := fun E σ H => ∀ pins s, Inv X pins σ H s → wpAny (model X.prog X.w) X.A (exec st X.env) (SP X pins E) X.xe s
def RnSs (X : Cx) (st : List Stmt) : TS := fun E σ H => ∀ pins s, Inv X pins σ H s → wpAny (model X.prog X.w) X.A (execs st X.env) (SP X pins E) X.xe s
def RnG (X : Cx) (tg : Expr) : TG := fun v σ H Q => ∀ pins s u, Inv X pins σ H s → RelV v u → wpAny (model X.prog X.w) X.A (assign tg X.env u) (fun _ s' => ∃ σ' H', Inv X pins σ' H' s' ∧ Q σ' H') X.xe s
def RnI (X : Cx) (tg iter : Expr) : TI := fun σ H Q => ∀ pins s, Inv X pins σ H s → wpAny (model X.prog X.w) X.A (eval iter X.env) (fun v s1 => wpAny (model X.prog X.w) X.A (pyIter v) (PIE X pins σ tg Q) X.xe s1) X.xe s
theorem ps_rn {X : Cx} {st : Stmt} : PS X st (RnS X st) := ⟨fun pins s σ H E I h => h pins s I⟩
theorem pss_rn {X : Cx} {st : List Stmt} : PSs X st (RnSs X st) := ⟨fun pins s σ H E I h => h pins s I⟩
theorem pg_rn {X : Cx} {tg : Expr} : PG X tg (RnG X tg) := ⟨fun pins s σ H v u Q I r h => h pins s u I r⟩
theorem pi_rn {X : Cx} {tg iter : Expr} : PI X tg iter (RnI X tg iter) := ⟨fun pins s σ H Q I h => h pins s I⟩
theorem _root_.L2.PS.rn {X : Cx} {st : Stmt} {t : TS} (h : PS X st t) {σ : L2.St} {H : Hp} {E : Ends} (q : t E σ H) : RnS X st E σ H := fun pins s I => h.run pins s σ H E I q
theorem _root_.L2.PSs.rn {X : Cx} {st : List Stmt} {t : TS} (h : PSs X st t) {σ : L2.St} {H : Hp} {E : Ends} (q : t E σ H) : RnSs X st E σ H := fun pins s I => h.run pins s σ H E I q
theorem _root_.L2.PG.rn {X : Cx} {tg : Expr} {t : TG} (h : PG X tg t) {v : V} {σ : L2.St} {H : Hp} {Q : L2.St → Hp → Prop} (q : t v σ H Q) : RnG X tg v σ H Q := fun pins s u I r => h.run pins s σ H v u Q I r q
theorem _root_.L2.PI.rn {X : Cx} {tg iter : Expr} {t : TI} (h : PI X tg iter t) {σ : L2.St} {H : Hp} {Q : It → Hp → Prop} (q : t σ H Q) : RnI X tg iter σ H Q := fun pins s I => h.run pins s σ H Q I q

def JS (X : Cx) (W : WX) (xc : Option (Addr × Value × Option Addr)) (g : Sig) (st : Stmt) (m : SM) : Prop :=
  ∀ (env : Env) (S : Sto) (wd : Wd) (σ : L2.St) (H : Hp) (E : Ends), wd.xc = xc → EnvAt X.K X.mg g wd env σ → Rel X.K X.mg g wd S H → PostS X.K X.mg g W E wd H (m env S) → RnS X st E σ H
def JB (X : Cx) (W : WX) (xc : Option (Addr × Value × Option Addr)) (g : Sig) (st : List Stmt) (m : SM) : Prop :=
  ∀ (env : Env) (S : Sto) (wd : Wd) (σ : L2.St) (H : Hp) (E : Ends), wd.xc = xc → EnvAt X.K X.mg g wd env σ → Rel X.K X.mg g wd S H → PostS X.K X.mg g W E wd H (m env S) → RnSs X st E σ H

def sNil : SM := fun env S => .ok (.nx env) S
def sSeq (a b : SM) : SM := fun env S => (a env S).thn b
def sSet (i : Nat) (e : EM) : SM := fun env S => (e env S).thn env fun r S1 => .ok (.nx (env.set i (some r))) S1
def sExpr (e : EM) : SM := fun env S => (e env S).thn env fun _ S1 => .ok (.nx env) S1
def sRet (e : EM) : SM := fun env S => (e env S).thn env fun r S1 => .ok (.rt r) S1
def sRetN : SM := fun _ S => .ok (.rt (.v .non)) S
def sIf (t : TM) (a b : SM) : SM := fun env S => (t env S).thn env fun c S1 => if c = true then a env S1 else b env S1
def sBrk : SM := fun env S => .ok (.bk env) S
def sCont : SM := fun env S => .ok (.ct env) S

section
variable {X : Cx} {W : WX} {xc : Option (Addr × Value × Option Addr)} {g : Sig} {pos : Pos} {a b e : Expr} {fe : EM} {st : Stmt} {sts : List Stmt} {m m' : SM}
theorem jb_nil : JB X W xc g [] sNil := by
  intro env S wd σ H E hx he hl hp
  exact (pss_nil : PSs X [] tNext).rn (hp wd σ H (Ext.refl wd H) hl he)
theorem jb_cons (h1 : JS X W xc g st m) (h2 : JB X W xc g sts m') : JB X W xc g (st :: sts) (sSeq m m') := by
  intro env S wd σ H E hx he hl hp
  refine (pss_cons ps_rn pss_rn).rn ?_
  refine h1 env S wd σ H _ hx he hl ?_
  unfold sSeq RS.thn at hp
  cases hm : m env S with
  | ok f S1 =>
    rw [hm] at hp
    cases f with
    | nx env1 => exact fun wd' σ' H' x r q => h2 env1 S1 wd' σ' H' E (x.xc.trans hx) q r (PostS.later x hp)
    | bk env1 => exact hp
    | ct env1 => exact hp
    | rt u => exact hp
  | exc c ks ds env1 S1 => rw [hm] at hp; exact hp
  | bad => rw [hm] at hp; exact hp.elim
theorem js_set (i : Nat) {x : Str} {pos' : Pos} (hN : X.N.Nodup) (ha : JE X W xc g e fe) (hi : X.N[i]? = some x := by rfl) (hx : Loc X.env.scope x := by first | exact Or.inl rfl | exact Or.inr rfl) (hs : swapsWith e (some (.Name x pos')) pos.line X.env = pure false := by rfl)
    (hf : X.fn x = true ∨ X.env.scope.names.lookup x = some .local := by first | exact .inl rfl | exact .inr rfl | assumption) : JS X W xc g (.Assign [.Name x pos'] e pos) (sSet i fe) := by
  intro env S wd σ H E hxc he hl hp
  refine (ps_set (pos := pos) (pos' := pos') hN hi hx pe_rn hs hf).rn ?_
  refine ha env S wd σ H _ hxc he hl (Post.imp (fun r S1 wd1 H1 x1 r1 h1 v hv => ?_) (PostS.res he hp))
  exact h1 wd1 _ H1 (Ext.refl _ _) r1 ((he.up x1).set hv)
theorem js_expr (ha : JE X W xc g e fe) (hs : swapsWith e none pos.line X.env = pure false := by rfl) : JS X W xc g (.Expr e pos) (sExpr fe) := by
  intro env S wd σ H E hxc he hl hp
  refine (ps_expr (pos := pos) pe_rn hs).rn ?_
  refine ha env S wd σ H _ hxc he hl (Post.imp (fun r S1 wd1 H1 x1 r1 h1 v hv => ?_) (PostS.res he hp))
  exact h1 wd1 _ H1 (Ext.refl _ _) r1 (he.up x1)
theorem js_ret (ha : JE X W xc g e fe) : JS X W xc g (.Return (some e) pos) (sRet fe) := by
  intro env S wd σ H E hxc he hl hp
  refine (ps_ret (pos := pos) pe_rn).rn ?_
  refine ha env S wd σ H _ hxc he hl (Post.imp (fun r S1 wd1 H1 x1 r1 h1 v hv => ?_) (PostS.res he hp))
  exact h1 wd1 _ H1 (Ext.refl _ _) r1 hv
theorem js_retN : JS X W xc g (.Return none pos) sRetN := by
  intro env S wd σ H E hxc he hl hp
  exact (ps_retN : PS X (.Return none pos) tRetN).rn (hp wd _ H (Ext.refl _ _) hl .non)
theorem js_if {c : Expr} {sa sb : List Stmt} {tc : TM} (hc : JT X W xc g c tc) (ha : JB X W xc g sa m) (hb : JB X W xc g sb m') : JS X W xc g (.If c sa sb pos) (sIf tc m m') := by
  intro env S wd σ H E hxc he hl hp
  refine (ps_if (pos := pos) pt_rn pss_rn pss_rn).rn ?_
  refine hc env S wd σ H _ hxc he hl (Post.imp (fun k S1 wd1 H1 x1 r1 h1 => ?_) (PostS.res he hp))
  cases k with
  | true => rw [if_pos rfl]; exact ha env S1 wd1 σ H1 E (x1.xc.trans hxc) (he.up x1) r1 h1
  | false => rw [if_neg Bool.false_ne_true]; exact hb env S1 wd1 σ H1 E (x1.xc.trans hxc) (he.up x1) r1 h1
theorem js_pass : JS X W xc g (.Pass pos) sNil := by
  intro env S wd σ H E hx he hl hp
  exact (ps_pass : PS X (.Pass pos) tNext).rn (hp wd σ H (Ext.refl wd H) hl he)
theorem js_break : JS X W xc g (.Break pos) sBrk := by
  intro env S wd σ H E hx he hl hp
  exact (ps_break : PS X (.Break pos) tBreak).rn (hp wd σ H (Ext.refl wd H) hl he)
theorem js_continue : JS X W xc g (.Continue pos) sCont := by
  intro env S wd σ H E hx he hl hp
  exact (ps_continue : PS X (.Continue pos) tCont).rn (hp wd σ H (Ext.refl wd H) hl he)
/-- x += e, ints -/
def sAug (i : Nat) (op : R → R → Sto → Res R) (e : EM) : SM := fun env S => match env[i]? with
  | some (some r) => (e env S).thn env fun q S1 => (op r q S1).thn env fun z S2 => .ok (.nx (env.set i (some z))) S2
  | _ => .bad
theorem js_aug (i : Nat) {x : Str} {pos' : Pos} {op : Operator} {f : Int → Int → Int} (ho : PIp X op (ipI f)) (hN : X.N.Nodup) (ha : JE X W xc g e fe) (hi : X.N[i]? = some x := by rfl) (hx : Loc X.env.scope x := by first | exact Or.inl rfl | exact Or.inr rfl)
    (hf : X.fn x = true ∨ X.env.scope.names.lookup x = some .local := by first | exact .inl rfl | exact .inr rfl | assumption) : JS X W xc g (.AugAssign (.Name x pos') op e pos) (sAug i (opI f cYes) fe) := by
  intro env S wd σ H E hxc he hl hp
  refine (ps_aug (pos := pos) (pos' := pos') hN hi hx pe_rn ho hf).rn ?_
  unfold sAug at hp
  split at hp
  · rename_i r hr
    obtain ⟨v, h1, h2⟩ := he.at_ i r hr
    refine ⟨v, h1, ?_⟩
    refine ha env S wd σ H _ hxc he hl (Post.imp (fun q S1 wd1 H1 x1 r1 h3 u hu => ?_) (PostS.res he hp))
    have h2' := RAt.up x1 h2
    unfold opI at h3
    split at h3
    · cases h2'; cases hu
      refine ⟨_, _, rfl, rfl, ?_⟩
      exact h3 wd1 _ H1 (Ext.refl _ _) r1 ((he.up x1).set (show RAt X.K X.mg g wd1 (.v (.int _)) (.int _) from .int _))
    · exact h3.elim
  · exact hp.elim
end

/-! ### targets -/
abbrev TgM := D → Env → Option Env
/-- they differ at these slots alone -/
def Off (vs : List Nat) (σ σ' : L2.St) : Prop := σ'.length = σ.length ∧ ∀ j, j ∉ vs → σ'[j]? = σ[j]?
theorem Off.refl (vs : List Nat) (σ : L2.St) : Off vs σ σ := ⟨rfl, fun _ _ => rfl⟩
theorem Off.trans {us vs : List Nat} {σ σ1 σ2 : L2.St} (a : Off us σ σ1) (b : Off vs σ1 σ2) : Off (us ++ vs) σ σ2 :=
  ⟨b.1.trans a.1, fun j h => (b.2 j (fun z => h (List.mem_append_right _ z))).trans (a.2 j (fun z => h (List.mem_append_left _ z)))⟩
def JG (X : Cx) (g : Sig) (tg : Expr) (vs : List Nat) (f : TgM) : Prop :=
  ∀ (env env' : Env) (S : Sto) (wd : Wd) (σ : L2.St) (H : Hp) (d : D) (v : V) (Q : L2.St → Hp → Prop), EnvAt X.K X.mg g wd env σ → Rel X.K X.mg g wd S H → At X.K X.mg g wd.F d v → f d env = some env' → (∀ σ', EnvAt X.K X.mg g wd env' σ' → Off vs σ σ' → Q σ' H) → RnG X tg v σ H Q
def tgName (i : Nat) : TgM := fun d env => some (env.set i (some (.v d)))
def tgL : List TgM → List D → Env → Option Env
  | [], [], env => some env
  | f :: fs, d :: ds, env => match f d env with | some env' => tgL fs ds env' | none => none
  | _, _, _ => none
def tgTup (fs : List TgM) : TgM := fun d env => match d with
  | .tup ds => if ds.length = fs.length then tgL fs ds env else none
  | _ => none
section
variable {X : Cx} {W : WX} {xc : Option (Addr × Value × Option Addr)} {g : Sig} {pos : Pos}
theorem jg_name (i : Nat) {x : Str} (hN : X.N.Nodup) (hi : X.N[i]? = some x := by rfl) (hx : Loc X.env.scope x := by first | exact Or.inl rfl | exact Or.inr rfl)
    (hf : X.fn x = true ∨ X.env.scope.names.lookup x = some .local := by first | exact .inl rfl | exact .inr rfl | assumption) : JG X g (.Name x pos) [i] (tgName i) := by
  intro env env' S wd σ H d v Q he hl hv hf' hq
  refine (pg_name (pos := pos) hN hi hx hf).rn ?_
  cases hf'
  exact hq _ (he.set hv) ⟨List.length_set, fun j h => List.getElem?_set_ne fun e => h (by rw [e]; exact List.mem_cons_self)⟩
/-- several names -/
inductive JGs (X : Cx) (g : Sig) : List Expr → List Nat → List TgM → Prop
  | nil : JGs X g [] [] []
  | cons {e : Expr} {es : List Expr} {us vs : List Nat} {f : TgM} {fs : List TgM} : JG X g e us f → JGs X g es vs fs → (assignEach (e :: es) X.env).map (·.2) = assign e X.env :: (assignEach es X.env).map (·.2) → JGs X g (e :: es) (us ++ vs) (f :: fs)
def RnGs (X : Cx) (ts : List Expr) : TGs := fun vs σ H Q => ∀ pins s us, Inv X pins σ H s → Vals vs us → wpAny (model X.prog X.w) X.A (assignInOrder ((assignEach ts X.env).map (·.2)) us) (fun _ s' => ∃ σ' H', Inv X pins σ' H' s' ∧ Q σ' H') X.xe s
theorem pgs_rn {ts : List Expr} : PGs X ts (RnGs X ts) := ⟨fun pins s σ H vs us Q I r h => h pins s us I r⟩
theorem JGs.run : ∀ {es : List Expr} {us : List Nat} {fs : List TgM}, JGs X g es us fs → ∀ (env env' : Env) (S : Sto) (wd : Wd) (σ : L2.St) (H : Hp) (ds : List D) (vs : List V) (Q : L2.St → Hp → Prop), EnvAt X.K X.mg g wd env σ → Rel X.K X.mg g wd S H → AtL X.K X.mg g wd.F ds vs → tgL fs ds env = some env' →
    (∀ σ', EnvAt X.K X.mg g wd env' σ' → Off us σ σ' → Q σ' H) → RnGs X es vs σ H Q
  | _, _, _, .nil, env, env', S, wd, σ, H, ds, vs, Q, he, hl, hv, hf, hq => by
    intro pins s us I r
    cases hv with
    | nil =>
      cases hf
      exact (pgs_nil : PGs X [] gNil).run pins s σ H [] us Q I r ⟨rfl, hq σ he (Off.refl _ _)⟩
    | cons _ _ => cases hf
  | _, _, _, .cons (f := f) (fs := fs) h1 h2 hs, env, env', S, wd, σ, H, ds, vs, Q, he, hl, hv, hf, hq => by
    intro pins s us I r
    cases hv with
    | nil => cases hf
    | cons q t =>
      rename_i d ds' x xs
      refine (pgs_cons (X := X) pg_rn pgs_rn hs).run pins s σ H _ us Q I r ⟨x, xs, rfl, ?_⟩
      unfold tgL at hf
      split at hf
      · rename_i env1 e1
        exact h1 env env1 S wd σ H d x _ he hl q e1 fun σ' he' o1 => JGs.run h2 env1 env' S wd σ' H ds' xs Q he' hl t hf fun σ2 he2 o2 => hq σ2 he2 (o1.trans o2)
      · cases hf
theorem JGs.len : ∀ {es : List Expr} {us : List Nat} {fs : List TgM}, JGs X g es us fs → es.length = fs.length
  | _, _, _, .nil => rfl
  | _, _, _, .cons _ r _ => by rw [List.length_cons, List.length_cons, JGs.len r]
theorem jg_tup {es : List Expr} {us : List Nat} {fs : List TgM} {k : Nat} (hc : X.calm = true) (h : JGs X g es us fs) (hn : (assignEach es X.env).length = fs.length := by rfl) (hst : (assignEach es X.env).findIdx? (·.1) = none := by rfl) : JG X g (.Tuple es k pos) us (tgTup fs) := by
  intro env env' S wd σ H d v Q he hl hv hf hq
  unfold tgTup at hf
  split at hf
  · split at hf
    · rename_i ds hz
      refine (pg_tup (pos := pos) (k := k) hc pgs_rn hn hst).rn ?_
      cases hv with
      | tup q r z =>
        exact ⟨_, _, rfl, SqT.up hl.sub q, by rw [← r.len]; exact hz, JGs.run h env env' S wd σ H ds _ Q he hl r hf hq⟩
    · cases hf
  · cases hf
/-- a, b = e -/
def sAsg (t : TgM) (e : EM) : SM := fun env S => (e env S).thn env fun r S1 => match r with
  | .v d => match t d env with | some env' => .ok (.nx env') S1 | none => .bad
  | _ => .bad
theorem js_asg {tg e : Expr} {us : List Nat} {fe : EM} {t : TgM} (hg : JG X g tg us t) (ha : JE X W xc g e fe) (hs : swapsWithSole [tg] e pos.line X.env = pure false := by rfl) (hw : swappedStores [tg] e X.env = pure none := by rfl)
    (h1 : (assignEach [tg] X.env).map (·.2) = [assign tg X.env] := by rfl) : JS X W xc g (.Assign [tg] e pos) (sAsg t fe) := by
  intro env S wd σ H E hxc he hl hp
  refine (ps_asg (pos := pos) pe_rn pg_rn hs hw h1).rn ?_
  refine ha env S wd σ H _ hxc he hl (Post.imp (fun r S1 wd1 H1 x1 r1 h1 v hv => ?_) (PostS.res he hp))
  cases r with
  | v d =>
    dsimp only at h1
    split at h1
    · rename_i env' e1
      exact hg env env' S1 wd1 σ H1 d v _ (he.up x1) r1 hv e1 fun σ' he' _ => h1 wd1 σ' H1 (Ext.refl _ _) r1 he'
    · exact h1.elim
  | _ => exact h1.elim
/-- a, b = e1, e2 -/
def sPar (i j : Nat) (a : AM) : SM := fun env S => (a env S).thn env fun rs S1 => match rs with
  | [p, q] => .ok (.nx ((env.set i (some p)).set j (some q))) S1
  | _ => .bad
theorem js_par (i j : Nat) {x y : Str} {a b : Expr} {fa : AM} {px py pt : Pos} {kt k2 pt2} (hc : X.calm = true) (hN : X.N.Nodup) (ha : JA X W xc g [a, b] fa) (hi : X.N[i]? = some x := by rfl) (hj : X.N[j]? = some y := by rfl) (hij : i ≠ j := by decide)
    (hx : X.env.scope.names.lookup x = some .local := by rfl) (hy : X.env.scope.names.lookup y = some .local := by rfl)
    (hw : swappedStores [.Tuple [.Name x px, .Name y py] kt pt] (.Tuple [a, b] k2 pt2) X.env = pure (some [x, y]) := by rfl)
    (hs : swapsWithSole [.Tuple [.Name x px, .Name y py] kt pt] (.Tuple [a, b] k2 pt2) pos.line X.env = pure false := by rfl) :
    JS X W xc g (.Assign [.Tuple [.Name x px, .Name y py] kt pt] (.Tuple [a, b] k2 pt2) pos) (sPar i j fa) := by
  intro env S wd σ H E hxc he hl hp
  refine (ps_par (pos := pos) hc hN hi hj hij hx hy pa_rn hw hs).rn ?_
  refine ha env S wd σ H _ hxc he hl (Post.imp (fun rs S1 wd1 H1 x1 r1 h1 vs hv => ?_) (PostS.res he hp))
  split at h1
  · cases hv with
    | cons q t =>
      cases t with
      | cons q2 t2 =>
        cases t2
        exact ⟨_, _, rfl, h1 wd1 _ H1 (Ext.refl _ _) r1 (((he.up x1).set q).set q2)⟩
  · exact h1.elim
end
end Mi

/-! Mi 5: what is walked, for, comprehensions -/
namespace MiT
open PySem PySem.Spec PyProof.Rows L2
open AutoSeq1 (wpAny_loadPart')
/-! ### enumerate(tuple) -/
theorem meets_enumerate_newT (l : Addr) (items : Array Value) (n : Nat) (dct : Option Addr) (sl : Array (Option Value)) :
    Meets (Builtin.«enumerate.__new__» ⟨[.type "enumerate", .ref l], []⟩) (fun _ R s => s.heap.get? l = some { cls := .type "tuple", dict := dct, data := .seq items n, slots := sl } ∧
      R (.ok (.ret (.ref (s.heap.push { cls := .type "tuple_iterator", data := .fields #[.ref l, .int 0 0] }).objs.size)))
        { s with heap := (s.heap.push { cls := .type "tuple_iterator", data := .fields #[.ref l, .int 0 0] }).push { cls := .type "enumerate", data := .fields #[.none, .bool false, .ref s.heap.objs.size, rawInt 0, .none, .none] } }) :=
  .of_wp fun prog w A R s h => by
    obtain ⟨hp, g, d, tk, os⟩ := s; obtain ⟨hl, h⟩ := h
    have hsub := sub_enumerate
    have hL : Heap.IsTuple (Shared.heap ⟨hp, g, d, tk, os⟩) l items := ⟨_, hl, rfl, n, rfl⟩
    wp_walk using wpAny_loadPart' hl
    refine wpAny_stack_any fun st => wpAny_pure ?_
    split
    · rename_i c _ _ _ _ _
      cases (c == Value.type "enumerate")
      · wp_walk using wpAny_loadPart' hl, wpAny_pyIter_tuple hL
        exact ⟨_, rfl, h⟩
      · wp_walk using wpAny_loadPart' hl, wpAny_pyIter_tuple hL
        exact ⟨_, rfl, h⟩
    · wp_walk using wpAny_loadPart' hl, wpAny_pyIter_tuple hL
      exact ⟨_, rfl, h⟩
section
variable {prog : Program} {w : World} {A : Around} {E : Value → Shared → Prop} {s : Shared}
theorem call_enumerate_tuple {l : Addr} {items : Array Value} {Q : Value → Shared → Prop} (hL : s.heap.IsTuple l items)
    (h : ∀ h', IsEnum h' (s.heap.objs.size + 1) s.heap.objs.size 0 .none → h'.IsTupleIter s.heap.objs.size l 0 → h'.objs.size = s.heap.objs.size + 2 →
      (∀ b o, s.heap.get? b = some o → h'.get? b = some o) → Q (.ref (s.heap.objs.size + 1)) { s with heap := h' }) :
    wpAny (model prog w) A (call (.type "enumerate") [.ref l]) Q E s := by
  obtain ⟨⟨c, dct, dt, sl⟩, hl, hc, n, hd⟩ := hL
  replace hc : c = .type "tuple" := hc
  replace hd : dt = .seq items n := hd
  subst hc hd
  refine callType_new F.called_enumerate (by decide) (F.typeCall_enumerate_1 _) (F.newCall_enumerate_1 _) (fun obj => F.args_object_init_2 obj _) F.entry_enumerate_new
    (meets_enumerate_newT l items n dct sl) ⟨hl, ?_⟩
  have hz : (s.heap.push { cls := .type "tuple_iterator", data := .fields #[.ref l, .int 0 0] }).objs.size = s.heap.objs.size + 1 := Heap.size_push ..
  show _ ∧ _
  rw [hz]
  have he : IsEnum ((s.heap.push { cls := .type "tuple_iterator", data := .fields #[.ref l, .int 0 0] }).push
      { cls := .type "enumerate", data := .fields #[.none, .bool false, .ref s.heap.objs.size, rawInt 0, .none, .none] }) (s.heap.objs.size + 1) s.heap.objs.size 0 .none := by
    have := Heap.get?_push_size (s.heap.push { cls := .type "tuple_iterator", data := .fields #[.ref l, .int 0 0] })
      (o := { cls := .type "enumerate", data := .fields #[.none, .bool false, .ref s.heap.objs.size, rawInt 0, .none, .none] }) rfl
    rw [hz] at this; exact this
  refine ⟨⟨_, he, rfl⟩, h _ he ⟨_, Heap.get?_push_of_some _ (Heap.get?_push_size _ rfl), rfl, rfl⟩ (by rw [Heap.size_push, hz]) fun b o x => Heap.get?_push_of_some _ (Heap.get?_push_of_some _ x)⟩
end
def IteT (K : PySem.W.Frag) (a : Addr) : It :=
  ⟨fun i H => ∃ (xs : List V) (x : V), SqT K H a xs ∧ xs[i]? = some x, fun i H v H' => ∃ T x, v = .ref T ∧ H T = none ∧ H' = upd H T (.tup [.int (i : Nat), x]) ∧ ∀ xs, SqT K H a xs → xs[i]? = some x, fun i H => ∃ xs : List V, SqT K H a xs ∧ xs.length ≤ i⟩
theorem ne_tupit {h : Heap} {a it t : Addr} {its : Array Value} {i : Nat} (ht : IsTup h a its) (hi : h.IsTupleIter it t i) : a ≠ it := fun z => by
  obtain ⟨o, h1, h2, n, h3⟩ := ht
  obtain ⟨o', g1, g2, g3⟩ := hi
  rw [z, g1] at h1; cases h1
  rw [g2] at h2
  exact absurd (Value.type.inj h2) (by decide)
theorem ne_enum {h : Heap} {a e it : Addr} {its : Array Value} {c : Int} {old : Value} (ht : IsTup h a its) (he : IsEnum h e it c old) : a ≠ e := fun z => by
  obtain ⟨o, h1, h2, n, h3⟩ := ht
  have he2 : h.get? e = some _ := he
  rw [z, he2] at h1; cases h1
  exact absurd (Value.type.inj h2) (by decide)
theorem turn_enumT {P : Program} {w : World} {K : PySem.W.Frag} {elts : List Expr} {kk : Nat} {tpos : Pos} (a e it : Addr) :
    Turn P w K (.Tuple elts kk tpos) (IteT K a) [e, it] e (fun i h => (∃ old, IsEnum h e it ((i : Nat) : Int) old) ∧ h.IsTupleIter it a i ∧ e ≠ it) where
  mem := by simp
  obj := fun i h st b hb => by
    obtain ⟨⟨old, he⟩, ⟨o, ho, hc, hd⟩, _⟩ := st
    have e' : b = e ∨ b = it := by simpa using hb
    rcases e' with z | z
    · rw [z]; exact ⟨_, he, fun v q => nomatch q⟩
    · rw [z]; exact ⟨o, ho, fun v q => by rw [hd] at q; cases q⟩
  keep := fun i h h' st k => let ⟨⟨old, he⟩, hi, hne⟩ := st; ⟨⟨old, k e (by simp) _ he⟩, hi.at fun o q => k it (by simp) o q, hne⟩
  item := by
    intro X hP hw hK hc i pins s σ H E I hf st hg
    subst hP hw hK
    obtain ⟨⟨old, he⟩, hit, hne⟩ := st
    obtain ⟨xs, x, hq, hx⟩ := hg
    obtain ⟨its, rv, p, hz⟩ := I.tuple hq
    obtain ⟨u, hu, ru⟩ := rv.get hx
    have nai := ne_tupit p hit
    have nae := ne_enum p he
    have hel : e < s.heap.objs.size := Heap.lt_size he
    have hil : it < s.heap.objs.size := by obtain ⟨_, q, _⟩ := hit; exact Heap.lt_size q
    have hisz : i < its.toArray.size := by
      have := (List.getElem?_eq_some_iff.mp hu).1
      simpa using this
    have Dr := Draws.tuple (prog := X.prog) (w := X.w) (A := X.A.in1) (I.ok.hd hc) it a nai its.toArray
    refine wpAny_pyNext_enum_itemD Dr he ⟨hit, p⟩ hisz hne (by simp [hne, Ne.symm nae]) fun u' h' tk hP ho hst' hT hsz hk => ?_
    have eu : u' = u := by
      have h1 : its.toArray[i]? = some u' := hP
      have h2 : its.toArray[i]? = some u := by simpa using hu
      rw [h1] at h2; exact Option.some.inj h2
    subst eu
    refine ⟨_, rfl, wpAny_letOwnedTupleGo_enum (s := { s with heap := h', toks := tk + 1 }) ho fun h'' he' sb => ?_⟩
    have hT2 : h''.get? s.heap.objs.size = some { cls := .type "tuple", data := .seq #[.int i tk, u'] } := (sb.2 _ (Nat.ne_of_gt hel)).trans hT
    have new : ObjOk X.prog X.w (upd H s.heap.objs.size (.tup [.int (i : Nat), x])) h'' s.heap.objs.size (.tup [.int (i : Nat), x]) :=
      ⟨by show 2 ≤ sizeLine; decide, [.int i tk, u'], .cons ⟨_, rfl⟩ (.cons ru .nil), ⟨_, hT2, rfl, _, rfl⟩⟩
    have I1 : Inv X pins σ (upd H s.heap.objs.size (.tup [.int (i : Nat), x])) { s with heap := h'', toks := tk + 1 } :=
      I.turnedNew (ch := [e, it]) (fun b ob hb q => (sb.2 b (fun z => hb (by simp [z]))).trans (hk b ob (fun z => hb (by simp [z])) (fun z => hb (by simp [z])) q)) hf (Nat.le_refl _) new
    refine ⟨.ref s.heap.objs.size, _, I1, rfl, ⟨_, x, rfl, I.hok.fresh (Nat.le_refl _), rfl, fun ys hy => by rw [I.tuple_inj hy hq]; exact hx⟩, ⟨⟨u', ?_⟩, hst'.1.at fun o q => (sb.2 it (Ne.symm hne)).trans q, hne⟩, fun b hb => ?_⟩
    · have e1 : ((i + 1 : Nat) : Int) = (i : Int) + 1 := by omega
      rw [e1]; exact he'
    · have hb' : b < s.heap.objs.size := by
        have e' : b = e ∨ b = it := by simpa using hb
        rcases e' with z | z
        · rw [z]; exact hel
        · rw [z]; exact hil
      rw [upd_ne (Nat.ne_of_lt hb')]
      exact (hf b hb).1
  done := by
    intro X hP hw hK hc i pins s σ H E I hf st hg
    subst hP hw hK
    obtain ⟨⟨old, he⟩, hit, hne⟩ := st
    obtain ⟨xs, hq, hx⟩ := hg
    obtain ⟨its, rv, p, hz⟩ := I.tuple hq
    obtain ⟨f0, f1, f2, f3, f4, f5⟩ := hf it (by simp)
    have hl := rv.length
    have hT : s.TypeIs (.ref e) "enumerate" := ⟨_, he, rfl⟩
    unfold pyNext
    refine wpAny_bind (wpAny_attempt (wpAny_callSpecial?_slot (name := Str.ofString "__next__") hT F.slot_enumerate_next
      (wpAny_call_entry F.slot_enumerate_next hT F.entry_enumerate_next ?_ (F.args_enumerate_next_1 _))))
    show wpAny _ _ (field (.ref e) 2 >>= _) _ _ _
    refine wpAny_bind (wpAny_field he rfl (x := .ref it) rfl ?_)
    refine wpAny_bind (wpAny_nextOf_tuple_end (I.ok.hd hc) hit p (by simp; omega) fun h' x he' hx' => ?_)
    obtain ⟨o, ho, hc⟩ := hx'
    refine wpAny_bind (wpAny_isInstance (T := "StopIteration") (b := true) ⟨o, ho, hc⟩ isSubtype_stop ?_)
    exact wpAny_pure ⟨rfl, I.turned (t' := s.toks) (fun b o hb q => he' b o hb q) f0 f1 f3 f4 f5⟩
  self := fun A i s Q E st h => let ⟨⟨_, he⟩, _⟩ := st; wpAny_pyIter_enum he h
def iEnumT (K : PySem.W.Frag) (ta : TA) : TI := fun σ H R => ta σ H fun vs H1 => ∃ a xs, vs = [.ref a] ∧ SqT K H1 a xs ∧ R (IteT K a) H1
theorem pi_enumT {X : Cx} {e : Expr} {ta : TA} {p pos tpos : Pos} {elts : List Expr} {kk : Nat} (hg : Gl X "enumerate") (hm : X.mg "enumerate" = none) (ha : PA X [e] ta) (hs : starEach [e] X.env = [(false, eval e X.env)] := by rfl) :
    PI X (.Tuple elts kk tpos) (.Call (.Name "enumerate" p) [e] [] pos) (iEnumT X.K ta) := by
  refine ⟨fun pins s σ H R I h => ?_⟩
  refine Call_ (ld_blt I hg hm boot_enumerate (PyProof.Rows.callWith_type1 (thn (ha.run pos pins s σ H _ I h) fun us s1 ⟨vs, H1, I1, r1, q1⟩ => ?_) hs rfl))
  obtain ⟨a, xs, ex, hq, q⟩ := q1
  subst ex
  cases r1 with
  | cons r rr =>
    cases rr
    cases r
    obtain ⟨its, rv, p', hz⟩ := I1.tuple hq
    refine call_enumerate_tuple p' fun h' he hit hsz hk => wpAny_pyIter_enum he ?_
    have I2 : Inv X pins σ H1 { s1 with heap := h' } := I1.kept (t' := s1.toks) hk
    refine ⟨s1.heap.objs.size + 1, [s1.heap.objs.size + 1, s1.heap.objs.size], _, _, H1, rfl, I2, turn_enumT a (s1.heap.objs.size + 1) s1.heap.objs.size, ⟨⟨.none, he⟩, hit, Nat.succ_ne_self _⟩, fun b hb => ?_, q⟩
    have e' : b = s1.heap.objs.size + 1 ∨ b = s1.heap.objs.size := by simpa using hb
    have hle : s1.heap.objs.size ≤ b := by
      rcases e' with z | z
      · rw [z]; exact Nat.le_add_right _ _
      · rw [z]; exact Nat.le_refl _
    exact I1.fpOk hle (I1.hok.fresh hle)
end MiT

/-! Mi 6: what is walked, for -/
namespace Mi
open PySem L2

/-- a mutable list that is walked stands as it stood -/
abbrev Gd := Option (Nat × List D)
def GdOk : Gd → Sto → Prop
  | none, _ => True
  | some (k, ds), S => S[k]? = some (.lst ds)
abbrev IM := Env → Sto → Res (List D × Gd)
def WalkOk (X : Cx) (g : Sig) (wd : Wd) (J : It) (items : List D) (gd : Gd) : Prop :=
  ∃ (n : Nat) (G : Hp → Prop) (Y : Nat → Hp → V → Hp → Prop), Walk J n G Y ∧ n = items.length ∧
    (∀ wd' S' H', Lat wd wd' → Rel X.K X.mg g wd' S' H' → GdOk gd S' → G H') ∧
    (∀ i wd' S' H' x H'', i < n → Lat wd wd' → Rel X.K X.mg g wd' S' H' → GdOk gd S' → Y i H' x H'' →
      ∃ wd'' d, Ext wd' H' wd'' H'' ∧ Rel X.K X.mg g wd'' S' H'' ∧ items[i]? = some d ∧ At X.K X.mg g wd''.F d x)
def JI (X : Cx) (W : WX) (xc : Option (Addr × Value × Option Addr)) (g : Sig) (tg iter : Expr) (f : IM) : Prop :=
  ∀ (env : Env) (S : Sto) (wd : Wd) (σ : L2.St) (H : Hp) (Q : It → Hp → Prop), wd.xc = xc → EnvAt X.K X.mg g wd env σ → Rel X.K X.mg g wd S H →
    Post X.K X.mg g W σ wd H (fun it S' wd' H' => ∀ J, WalkOk X g wd' J it.1 it.2 → Q J H') (f env S) → RnI X tg iter σ H Q

/-! ### sources -/
/-- a list that gives ds at all later times -/
def LSrc (X : Cx) (g : Sig) (wd : Wd) (a : Addr) (ds : List D) (gd : Gd) : Prop := ∀ wd' S' H', Lat wd wd' → Rel X.K X.mg g wd' S' H' → GdOk gd S' → ∃ xs, SqL X.K H' a xs ∧ AtL X.K X.mg g wd'.F ds xs
def TSrc (X : Cx) (g : Sig) (wd : Wd) (a : Addr) (ds : List D) (gd : Gd) : Prop := ∀ wd' S' H', Lat wd wd' → Rel X.K X.mg g wd' S' H' → GdOk gd S' → ∃ xs, SqT X.K H' a xs ∧ AtL X.K X.mg g wd'.F ds xs
/-- a sequence: its items and the guard -/
def srcOf (r : R) (S : Sto) : Option (List D × Gd) := match r with
  | .v (.tup ds) => some (ds, none)
  | .v (.lst ds) => some (ds, none)
  | .v (.frl ds) => some (ds, none)
  | .l k => match S[k]? with | some (.lst ds) => some (ds, some (k, ds)) | _ => none
  | _ => none
section
variable {X : Cx} {g : Sig} {wd : Wd} {S : Sto} {H : Hp}
theorem src_at {r : R} {x : V} {ds : List D} {gd : Gd} (hr : Rel X.K X.mg g wd S H) (h : RAt X.K X.mg g wd r x) (e : srcOf r S = some (ds, gd)) : ∃ a, x = .ref a ∧ GdOk gd S ∧ (LSrc X g wd a ds gd ∨ TSrc X g wd a ds gd) := by
  unfold srcOf at e
  split at e
  · cases e
    cases h with
    | tup q r z => exact ⟨_, rfl, trivial, .inr fun wd' S' H' l rl _ => ⟨_, SqT.up rl.sub (SqT.up l.mono q), AtL.up l.mono r⟩⟩
  · cases e
    cases h with
    | lst q r z => exact ⟨_, rfl, trivial, .inl fun wd' S' H' l rl _ => ⟨_, SqL.of (rl.sub _ _ (l.mono _ _ q)), AtL.up l.mono r⟩⟩
  · cases e
    cases h with
    | frl q r z => exact ⟨_, rfl, trivial, .inl fun wd' S' H' l rl _ => ⟨_, SqL.up rl.sub (SqL.up l.mono q), AtL.up l.mono r⟩⟩
  · split at e
    · cases e
      rename_i hk
      obtain ⟨a, ha, rfl⟩ := h
      refine ⟨a, rfl, hk, .inl fun wd' S' H' l rl gk => ?_⟩
      obtain ⟨nu, en⟩ := l.pre
      obtain ⟨_, z, xs, h1, h2⟩ := rl.cell _ a _ (by rw [en, List.getElem?_append_left ((List.getElem?_eq_some_iff.mp ha).1)]; exact ha) gk
      exact ⟨xs, SqL.of h1, h2⟩
    · cases e
  · cases e
theorem walk_lsrc {a : Addr} {ds : List D} {gd : Gd} (h : LSrc X g wd a ds gd) : WalkOk X g wd (Itl X.K a) ds gd := by
  refine ⟨ds.length, fun H => ∃ xs, SqL X.K H a xs ∧ xs.length = ds.length, fun i H x H' => H' = H ∧ ∀ xs, SqL X.K H a xs → xs[i]? = some x, ⟨fun i H hi ⟨xs, q, e⟩ => ⟨xs, xs[i]'(by omega), q, by simp [show i < xs.length by omega]⟩, fun H ⟨xs, q, e⟩ => ⟨xs, q, by omega⟩, fun _ _ _ _ _ _ y => y⟩, rfl, fun wd' S' H' l rl gk => ?_, fun i wd' S' H' x H'' hi l rl gk y => ?_⟩
  · obtain ⟨xs, q, r⟩ := h wd' S' H' l rl gk
    exact ⟨xs, q, r.len.symm⟩
  · obtain ⟨xs, q, r⟩ := h wd' S' H' l rl gk
    obtain ⟨rfl, y⟩ := y
    obtain ⟨d, e, z⟩ := r.getV (y xs q)
    exact ⟨wd', d, Ext.refl _ _, rl, e, z⟩
theorem walk_tsrc {a : Addr} {ds : List D} {gd : Gd} (h : TSrc X g wd a ds gd) : WalkOk X g wd (Itt X.K a) ds gd := by
  refine ⟨ds.length, fun H => ∃ xs, SqT X.K H a xs ∧ xs.length = ds.length, fun i H x H' => H' = H ∧ ∀ xs, SqT X.K H a xs → xs[i]? = some x, ⟨fun i H hi ⟨xs, q, e⟩ => ⟨xs, xs[i]'(by omega), q, by simp [show i < xs.length by omega]⟩, fun H ⟨xs, q, e⟩ => ⟨xs, q, by omega⟩, fun _ _ _ _ _ _ y => y⟩, rfl, fun wd' S' H' l rl gk => ?_, fun i wd' S' H' x H'' hi l rl gk y => ?_⟩
  · obtain ⟨xs, q, r⟩ := h wd' S' H' l rl gk
    exact ⟨xs, q, r.len.symm⟩
  · obtain ⟨xs, q, r⟩ := h wd' S' H' l rl gk
    obtain ⟨rfl, y⟩ := y
    obtain ⟨d, e, z⟩ := r.getV (y xs q)
    exact ⟨wd', d, Ext.refl _ _, rl, e, z⟩
/-- enumerate's pairs -/
def enumD : Nat → List D → List D
  | _, [] => []
  | k, d :: ds => .tup [.int (k : Int), d] :: enumD (k + 1) ds
theorem enumD_len : ∀ (k : Nat) (ds : List D), (enumD k ds).length = ds.length
  | _, [] => rfl
  | k, d :: ds => by rw [enumD, List.length_cons, List.length_cons, enumD_len]
theorem enumD_get : ∀ (k : Nat) (ds : List D) (i : Nat) (d : D), ds[i]? = some d → (enumD k ds)[i]? = some (.tup [.int ((k + i : Nat) : Int), d])
  | _, [], _, _, h => by simp at h
  | k, e :: ds, 0, d, h => by simp at h; subst h; rfl
  | k, e :: ds, i + 1, d, h => by
    rw [enumD, List.getElem?_cons_succ, enumD_get (k + 1) ds i d (by simpa using h)]
    have : k + 1 + i = k + (i + 1) := by omega
    rw [this]
theorem pair_new {wd' : Wd} {S' : Sto} {H' : Hp} {T : Addr} {i : Nat} {x : V} {d : D} (rl : Rel X.K X.mg g wd' S' H') (hT : H' T = none) (z : At X.K X.mg g wd'.F d x) :
    Ext wd' H' (wd'.frz T (.tup [.int (i : Nat), x])) (upd H' T (.tup [.int (i : Nat), x])) ∧ Rel X.K X.mg g (wd'.frz T (.tup [.int (i : Nat), x])) S' (upd H' T (.tup [.int (i : Nat), x])) ∧
      At X.K X.mg g (wd'.frz T (.tup [.int (i : Nat), x])).F (.tup [.int (i : Int), d]) (.ref T) := by
  have x1 := Ext.froz (wd := wd') (H := H') (o := .tup [.int (i : Nat), x]) hT (rl.noF hT)
  exact ⟨x1, rl.froz hT, .tup (SqT.of upd_same) (.cons (.int _) (.cons (At.up x1.mono z) .nil)) (by show 2 ≤ sizeLine; decide)⟩
theorem walk_lenum {a : Addr} {ds : List D} {gd : Gd} (h : LSrc X g wd a ds gd) : WalkOk X g wd (Ite X.K a) (enumD 0 ds) gd := by
  refine ⟨ds.length, fun H => ∃ xs, SqL X.K H a xs ∧ xs.length = ds.length, fun i H v H' => ∃ T x, v = .ref T ∧ H T = none ∧ H' = upd H T (.tup [.int (i : Nat), x]) ∧ ∀ xs, SqL X.K H a xs → xs[i]? = some x, ⟨fun i H hi ⟨xs, q, e⟩ => ⟨xs, xs[i]'(by omega), q, by simp [show i < xs.length by omega]⟩, fun H ⟨xs, q, e⟩ => ⟨xs, q, by omega⟩, fun _ _ _ _ _ _ y => y⟩, (enumD_len 0 ds).symm, fun wd' S' H' l rl gk => ?_, fun i wd' S' H' x H'' hi l rl gk y => ?_⟩
  · obtain ⟨xs, q, r⟩ := h wd' S' H' l rl gk
    exact ⟨xs, q, r.len.symm⟩
  · obtain ⟨xs, q, r⟩ := h wd' S' H' l rl gk
    obtain ⟨T, v, rfl, hT, rfl, y⟩ := y
    obtain ⟨d, e, z⟩ := r.getV (y xs q)
    obtain ⟨x1, r1, z1⟩ := pair_new (i := i) rl hT z
    exact ⟨_, _, x1, r1, by have := enumD_get 0 ds i d e; rw [Nat.zero_add] at this; exact this, z1⟩
theorem walk_tenum {a : Addr} {ds : List D} {gd : Gd} (h : TSrc X g wd a ds gd) : WalkOk X g wd (MiT.IteT X.K a) (enumD 0 ds) gd := by
  refine ⟨ds.length, fun H => ∃ xs, SqT X.K H a xs ∧ xs.length = ds.length, fun i H v H' => ∃ T x, v = .ref T ∧ H T = none ∧ H' = upd H T (.tup [.int (i : Nat), x]) ∧ ∀ xs, SqT X.K H a xs → xs[i]? = some x, ⟨fun i H hi ⟨xs, q, e⟩ => ⟨xs, xs[i]'(by omega), q, by simp [show i < xs.length by omega]⟩, fun H ⟨xs, q, e⟩ => ⟨xs, q, by omega⟩, fun _ _ _ _ _ _ y => y⟩, (enumD_len 0 ds).symm, fun wd' S' H' l rl gk => ?_, fun i wd' S' H' x H'' hi l rl gk y => ?_⟩
  · obtain ⟨xs, q, r⟩ := h wd' S' H' l rl gk
    exact ⟨xs, q, r.len.symm⟩
  · obtain ⟨xs, q, r⟩ := h wd' S' H' l rl gk
    obtain ⟨T, v, rfl, hT, rfl, y⟩ := y
    obtain ⟨d, e, z⟩ := r.getV (y xs q)
    obtain ⟨x1, r1, z1⟩ := pair_new (i := i) rl hT z
    exact ⟨_, _, x1, r1, by have := enumD_get 0 ds i d e; rw [Nat.zero_add] at this; exact this, z1⟩
/-- a range's ints -/
def rngD (lo : Int) (n : Nat) : List D := (List.range n).map fun i => .int (lo + (i : Nat))
theorem walk_rng {lo : Int} {n : Nat} : WalkOk X g wd (Itr lo n) (rngD lo n) none := by
  refine ⟨n, fun _ => True, YFn fun i => .int (lo + i), walk_range, by simp [rngD], fun _ _ _ _ _ _ => trivial, fun i wd' S' H' x H'' hi l rl gk y => ?_⟩
  obtain ⟨rfl, rfl⟩ := y
  exact ⟨wd', _, Ext.refl _ _, rl, by simp [rngD, hi], .int _⟩
end
section
variable {X : Cx} {W : WX} {xc : Option (Addr × Value × Option Addr)} {g : Sig} {pos p : Pos} {tg e a b : Expr} {fe : EM}
def iSeq (fe : EM) : IM := fun env S => (fe env S).bind fun r S1 => match srcOf r S1 with | some q => .ok q S1 | none => .bad
theorem ji_seq (ha : JE X W xc g e fe) : JI X W xc g tg e (iSeq fe) := by
  intro env S wd σ H Q hx he hl hp
  have main : Rn X e σ H fun v H1 => (∃ a, v = .ref a ∧ (∃ xs, SqL X.K H1 a xs) ∧ Q (Itl X.K a) H1) ∨ (∃ a, v = .ref a ∧ (∃ xs, SqT X.K H1 a xs) ∧ Q (Itt X.K a) H1) := by
    refine ha env S wd σ H _ hx he hl (Post.imp (fun r S1 wd1 H1 x1 r1 h1 v hv => ?_) (Post.bind hp))
    split at h1
    · rename_i q hq
      obtain ⟨ds, gd⟩ := q
      obtain ⟨a, rfl, gk, hs | hs⟩ := src_at r1 hv hq
      · obtain ⟨xs, q, _⟩ := hs wd1 S1 H1 (Lat.refl _) r1 gk
        exact .inl ⟨a, rfl, ⟨xs, q⟩, Post.now r1 h1 _ (walk_lsrc hs)⟩
      · obtain ⟨xs, q, _⟩ := hs wd1 S1 H1 (Lat.refl _) r1 gk
        exact .inr ⟨a, rfl, ⟨xs, q⟩, Post.now r1 h1 _ (walk_tsrc hs)⟩
    · exact h1.elim
  intro pins s I
  refine thn (main pins s I) fun v s1 ⟨x, H1, I1, r1, q1⟩ => ?_
  rcases q1 with ⟨a, e1, h1, h2⟩ | ⟨a, e1, h1, h2⟩
  · obtain ⟨xs, hq⟩ := h1
    subst e1
    cases r1
    obtain ⟨its, rv, p, hz⟩ := I1.list hq
    refine wpAny_pyIter_list p.isList ?_
    refine ⟨s1.heap.objs.size, [s1.heap.objs.size], _, _, H1, rfl, I1.kept (t' := s1.toks) fun b o e => Heap.get?_push_of_some _ e, turn_list a _, ⟨_, Heap.get?_push_size _ rfl, rfl, rfl⟩, fun b hb => ?_, h2⟩
    have e : b = s1.heap.objs.size := by simpa using hb
    subst e
    exact I1.fpOk (Nat.le_refl _) (I1.hok.fresh (Nat.le_refl _))
  · obtain ⟨xs, hq⟩ := h1
    subst e1
    cases r1
    obtain ⟨its, rv, p, hz⟩ := I1.tuple hq
    refine wpAny_pyIter_tuple (show s1.heap.IsTuple a its.toArray from p) ?_
    refine ⟨s1.heap.objs.size, [s1.heap.objs.size], _, _, H1, rfl, I1.kept (t' := s1.toks) fun b o e => Heap.get?_push_of_some _ e, turn_tuple a _, ⟨_, Heap.get?_push_size _ rfl, rfl, rfl⟩, fun b hb => ?_, h2⟩
    have e : b = s1.heap.objs.size := by simpa using hb
    subst e
    exact I1.fpOk (Nat.le_refl _) (I1.hok.fresh (Nat.le_refl _))
def rng62 (i : Int) : Bool := decide (-(2 ^ 62) ≤ i) && decide (i < 2 ^ 62)
def iRng1 (fa : AM) : IM := fun env S => (fa env S).bind fun rs S1 => match rs with
  | [.v (.int j)] => if rng62 j = true then .ok (rngD 0 j.toNat, none) S1 else .bad
  | _ => .bad
def iRng2 (fa : AM) : IM := fun env S => (fa env S).bind fun rs S1 => match rs with
  | [.v (.int i), .v (.int j)] => if (rng62 i && rng62 j) = true then .ok (rngD i (j - i).toNat, none) S1 else .bad
  | _ => .bad
theorem rng62_ok {i : Int} (h : rng62 i = true) : -(2 ^ 62) ≤ i ∧ i < 2 ^ 62 := by
  unfold rng62 at h
  rw [Bool.and_eq_true, decide_eq_true_eq, decide_eq_true_eq] at h
  exact h
theorem ji_range1 {fa : AM} (ha : JA X W xc g [a] fa) (hm : X.mg "range" = none) (hg : Gl X "range" := by rfl) (hs : starEach [a] X.env = [(false, eval a X.env)] := by rfl) : JI X W xc g tg (.Call (.Name "range" p) [a] [] pos) (iRng1 fa) := by
  intro env S wd σ H Q hx he hl hp
  refine (pi_range1 (tg := tg) (p := p) (pos := pos) hg hm pa_rn hs).rn ?_
  refine ha env S wd σ H _ hx he hl (Post.imp (fun rs S1 wd1 H1 x1 r1 h1 vs hv => ?_) (Post.bind hp))
  split at h1
  · split at h1
    · rename_i j hz
      cases hv with
      | cons q t =>
        cases t
        cases q
        exact ⟨j, rfl, (rng62_ok hz).1, (rng62_ok hz).2, Post.now r1 h1 _ walk_rng⟩
    · exact h1.elim
  · exact h1.elim
theorem ji_range2 {fa : AM} (ha : JA X W xc g [a, b] fa) (hm : X.mg "range" = none) (hg : Gl X "range" := by rfl) (hs : starEach [a, b] X.env = [(false, eval a X.env), (false, eval b X.env)] := by rfl) (hs2 : starEach [b] X.env = [(false, eval b X.env)] := by rfl) : JI X W xc g tg (.Call (.Name "range" p) [a, b] [] pos) (iRng2 fa) := by
  intro env S wd σ H Q hx he hl hp
  refine (pi_range2 (tg := tg) (p := p) (pos := pos) hg hm pa_rn hs hs2).rn ?_
  refine ha env S wd σ H _ hx he hl (Post.imp (fun rs S1 wd1 H1 x1 r1 h1 vs hv => ?_) (Post.bind hp))
  split at h1
  · split at h1
    · rename_i i j hz
      rw [Bool.and_eq_true] at hz
      cases hv with
      | cons q t =>
        cases t with
        | cons q2 t2 =>
          cases t2
          cases q
          cases q2
          exact ⟨i, j, rfl, ⟨(rng62_ok hz.1).1, (rng62_ok hz.1).2, (rng62_ok hz.2).1, (rng62_ok hz.2).2⟩, Post.now r1 h1 _ walk_rng⟩
    · exact h1.elim
  · exact h1.elim
def iEnum (fa : AM) : IM := fun env S => (fa env S).bind fun rs S1 => match rs with
  | [r] => match srcOf r S1 with | some q => .ok (enumD 0 q.1, q.2) S1 | none => .bad
  | _ => .bad
theorem ji_enum {fa : AM} {elts : List Expr} {kk : Nat} {tpos : Pos} (ha : JA X W xc g [e] fa) (hm : X.mg "enumerate" = none) (hg : Gl X "enumerate" := by rfl) (hs : starEach [e] X.env = [(false, eval e X.env)] := by rfl) :
    JI X W xc g (.Tuple elts kk tpos) (.Call (.Name "enumerate" p) [e] [] pos) (iEnum fa) := by
  intro env S wd σ H Q hx he hl hp pins s I
  -- which of the two sources it is comes out behind the argument; both rules share the run up to there
  have main : RnA X [e] σ H fun vs H1 => (∃ a xs, vs = [.ref a] ∧ SqL X.K H1 a xs ∧ Q (Ite X.K a) H1) ∨ (∃ a xs, vs = [.ref a] ∧ SqT X.K H1 a xs ∧ Q (MiT.IteT X.K a) H1) := by
    refine ha env S wd σ H _ hx he hl (Post.imp (fun rs S1 wd1 H1 x1 r1 h1 vs hv => ?_) (Post.bind hp))
    split at h1
    · cases hv with
      | cons q t =>
        cases t
        split at h1
        · rename_i q1 hq
          obtain ⟨ds, gd⟩ := q1
          obtain ⟨a, rfl, gk, hs | hs⟩ := src_at r1 q hq
          · obtain ⟨xs, q, _⟩ := hs wd1 S1 H1 (Lat.refl _) r1 gk
            exact .inl ⟨a, xs, rfl, q, Post.now r1 h1 _ (walk_lenum hs)⟩
          · obtain ⟨xs, q, _⟩ := hs wd1 S1 H1 (Lat.refl _) r1 gk
            exact .inr ⟨a, xs, rfl, q, Post.now r1 h1 _ (walk_tenum hs)⟩
        · exact h1.elim
    · exact h1.elim
  refine PyProof.Rows.Call_ (ld_blt I hg hm PyProof.Rows.boot_enumerate (PyProof.Rows.callWith_type1 (thn (main pos pins s I) fun us s1 ⟨vs, H1, I1, r1, q1⟩ => ?_) hs rfl))
  rcases q1 with ⟨a, xs, ex, hq, q⟩ | ⟨a, xs, ex, hq, q⟩
  · subst ex
    cases r1 with
    | cons r rr =>
      cases rr
      cases r
      obtain ⟨its, rv, p', hz⟩ := I1.list hq
      refine call_enumerate_list p'.isList fun h' he hit hsz hk => wpAny_pyIter_enum he ?_
      have I2 : Inv X pins σ H1 { s1 with heap := h' } := I1.kept (t' := s1.toks) hk
      refine ⟨s1.heap.objs.size + 1, [s1.heap.objs.size + 1, s1.heap.objs.size], _, _, H1, rfl, I2, turn_enum a (s1.heap.objs.size + 1) s1.heap.objs.size, ⟨⟨.none, he⟩, hit, Nat.succ_ne_self _⟩, fun b hb => ?_, q⟩
      have e' : b = s1.heap.objs.size + 1 ∨ b = s1.heap.objs.size := by simpa using hb
      have hle : s1.heap.objs.size ≤ b := by
        rcases e' with z | z
        · rw [z]; exact Nat.le_add_right _ _
        · rw [z]; exact Nat.le_refl _
      exact I1.fpOk hle (I1.hok.fresh hle)
  · subst ex
    cases r1 with
    | cons r rr =>
      cases rr
      cases r
      obtain ⟨its, rv, p', hz⟩ := I1.tuple hq
      refine MiT.call_enumerate_tuple p' fun h' he hit hsz hk => wpAny_pyIter_enum he ?_
      have I2 : Inv X pins σ H1 { s1 with heap := h' } := I1.kept (t' := s1.toks) hk
      refine ⟨s1.heap.objs.size + 1, [s1.heap.objs.size + 1, s1.heap.objs.size], _, _, H1, rfl, I2, MiT.turn_enumT a (s1.heap.objs.size + 1) s1.heap.objs.size, ⟨⟨.none, he⟩, hit, Nat.succ_ne_self _⟩, fun b hb => ?_, q⟩
      have e' : b = s1.heap.objs.size + 1 ∨ b = s1.heap.objs.size := by simpa using hb
      have hle : s1.heap.objs.size ≤ b := by
        rcases e' with z | z
        · rw [z]; exact Nat.le_add_right _ _
        · rw [z]; exact Nat.le_refl _
      exact I1.fpOk hle (I1.hok.fresh hle)
end

/-! ### for -/
open Classical in
noncomputable def forGo (tg : TgM) (body : SM) (gd : Gd) : List D → SM
  | [], env, S => if GdOk gd S then .ok (.nx env) S else .bad
  | d :: ds, env, S => if GdOk gd S then
      match tg d env with
      | some env1 => match body env1 S with
        | .ok (.nx env2) S2 => forGo tg body gd ds env2 S2
        | .ok (.ct env2) S2 => forGo tg body gd ds env2 S2
        | .ok (.bk env2) S2 => .ok (.nx env2) S2
        | .ok (.rt r) S2 => .ok (.rt r) S2
        | .exc c ks es env2 S2 => .exc c ks es env2 S2
        | .bad => .bad
      | none => .bad
    else .bad
noncomputable def sFor (it : IM) (tg : TgM) (body : SM) : SM := fun env S => (it env S).thn env fun q S1 => forGo tg body q.2 q.1 env S1
section
variable {X : Cx} {W : WX} {xc : Option (Addr × Value × Option Addr)} {g : Sig} {pos : Pos} {tg iter : Expr} {body : List Stmt} {it : IM} {t : TgM} {us : List Nat} {m : SM}
theorem forGo_gd {K : Frag} {mg : MG} {E : Ends} {gd : Gd} {ds : List D} {env : Env} {S : Sto} {wd : Wd} {H : Hp} (h : PostS K mg g W E wd H (forGo t m gd ds env S)) : GdOk gd S := by
  cases ds with
  | nil =>
    unfold forGo at h
    split at h
    · assumption
    · exact h.elim
  | cons d ds =>
    unfold forGo at h
    split at h
    · assumption
    · exact h.elim
theorem js_for (hp : PassesOwn (model X.prog X.w) X.A X.env X.xe) (hc : X.calm = true) (hi : JI X W xc g tg iter it) (hg : JG X g tg us t) (hb : JB X W xc g body m) (hs : ∀ x, foldedSetIterable iter X.env x = pure x := by intro _; rfl) :
    JS X W xc g (.For tg iter body [] pos) (sFor it t m) := by
  intro env S wd σ H E hxc he hl hpost
  refine (ps_for (pos := pos) hp hc pi_rn pg_rn pss_rn hs).rn ?_
  refine hi env S wd σ H _ hxc he hl (Post.imp (fun q S1 wd1 H1 x1 r1 h1 J hJ => ?_) (PostS.res he hpost))
  obtain ⟨items, gd⟩ := q
  obtain ⟨n, G, Y, hW, hn, hG, hY⟩ := hJ
  refine for_it hW (fun i σ' H' => ∃ env' S' wd', Ext wd1 H1 wd' H' ∧ EnvAt X.K X.mg g wd' env' σ' ∧ Rel X.K X.mg g wd' S' H' ∧ PostS X.K X.mg g W E wd' H' (forGo t m gd (items.drop i) env' S')) ?_ ?_ ?_ ?_
  · exact ⟨env, S1, wd1, Ext.refl _ _, he.up x1, r1, h1⟩
  · rintro i σ' H' hi ⟨env', S', wd', x, he', r', h'⟩
    exact hG wd' S' H' x.lat r' (forGo_gd h')
  · rintro i x σ' H' H'' hi ⟨env', S', wd', xx, he', r', h'⟩ y
    have gk := forGo_gd h'
    obtain ⟨wd2, d, x2, r2, hd, z⟩ := hY i wd' S' H' x H'' hi xx.lat r' gk y
    have hlt : i < items.length := (List.getElem?_eq_some_iff.mp hd).1
    have hdrop : items.drop i = d :: items.drop (i + 1) := by
      rw [List.drop_eq_getElem_cons hlt]
      have := (List.getElem?_eq_some_iff.mp hd).2
      rw [this]
    rw [hdrop] at h'
    unfold forGo at h'
    rw [if_pos gk] at h'
    split at h'
    · rename_i env1 e1
      refine hg env' env1 S' wd2 σ' H'' d x _ (he'.up x2) r2 z e1 fun σ2 he2 _ => ?_
      refine hb env1 S' wd2 σ2 H'' _ (x2.xc.trans (xx.xc.trans (x1.xc.trans hxc))) he2 r2 ?_
      cases hm : m env1 S' with
      | ok f S2 =>
        rw [hm] at h'
        cases f with
        | nx env2 => exact fun wd3 σ3 H3 x3 r3 q3 => ⟨env2, S2, wd3, xx.trans (x2.trans x3), q3, r3, PostS.later (x2.trans x3) h'⟩
        | ct env2 => exact fun wd3 σ3 H3 x3 r3 q3 => ⟨env2, S2, wd3, xx.trans (x2.trans x3), q3, r3, PostS.later (x2.trans x3) h'⟩
        | bk env2 => exact fun wd3 σ3 H3 x3 r3 q3 => h' wd3 σ3 H3 (x2.trans x3) r3 q3
        | rt r => exact fun wd3 v H3 x3 r3 q3 => h' wd3 v H3 (x2.trans x3) r3 q3
      | exc c ks es env2 S2 =>
        rw [hm] at h'
        exact fun wd3 cls dd σ3 H3 x3 r3 q3 q4 => h' wd3 cls dd σ3 H3 (x2.trans x3) r3 q3 q4
      | bad => rw [hm] at h'; exact h'.elim
    · exact h'.elim
  · rintro σ' H' ⟨env', S', wd', xx, he', r', h'⟩
    have e0 : items.drop n = [] := by rw [hn]; simp
    rw [e0] at h'
    have gk := forGo_gd h'
    unfold forGo at h'
    rw [if_pos gk] at h'
    exact h' wd' σ' H' (Ext.refl _ _) r' he'
end
end Mi

/-! Mi 7: list comprehensions -/
namespace Mi
open PySem L2

/-- no error -/
def Wn : WX := fun _ _ _ _ => False
def wipeE (env : Env) : List Nat → Env
  | [] => env
  | v :: vs => (wipeE env vs).set v none
theorem EnvAt.wipe {K : Frag} {mg : MG} {g : Sig} {wd : Wd} {env : Env} {σ : L2.St} (h : EnvAt K mg g wd env σ) : ∀ vs : List Nat, EnvAt K mg g wd (wipeE env vs) (L2.wipe σ vs)
  | [] => h
  | v :: vs => (EnvAt.wipe h vs).unset
theorem wipe_get (σ : L2.St) (j : Nat) : ∀ vs : List Nat, (L2.wipe σ vs)[j]? = if j ∈ vs ∧ j < σ.length then some none else σ[j]?
  | [] => by simp [L2.wipe]
  | v :: vs => by
    unfold L2.wipe
    by_cases hv : v = j
    · subst hv
      by_cases hl : v < σ.length
      · rw [List.getElem?_set_self (by rw [wipe_length]; exact hl), if_pos ⟨List.mem_cons_self, hl⟩]
      · rw [List.getElem?_eq_none (by rw [List.length_set, wipe_length]; omega), if_neg (fun h => hl h.2), List.getElem?_eq_none (by omega)]
    · rw [List.getElem?_set_ne hv, wipe_get σ j vs]
      have : (j ∈ v :: vs) ↔ j ∈ vs := by simp [Ne.symm hv]
      simp only [this]
theorem wipe_off {us vs : List Nat} {σ σ' : L2.St} (h : Off us (L2.wipe σ vs) σ') (hs : ∀ i ∈ us, i ∈ vs) : L2.wipe σ' vs = L2.wipe σ vs := by
  have hl : σ'.length = σ.length := by rw [h.1, wipe_length]
  apply List.ext_getElem?
  intro j
  rw [wipe_get, wipe_get, hl]
  split
  · rfl
  · rename_i hn
    by_cases hj : j ∈ vs
    · have : ¬ j < σ.length := fun q => hn ⟨hj, q⟩
      rw [List.getElem?_eq_none (by omega), List.getElem?_eq_none (by omega)]
    · rw [h.2 j (fun q => hj (hs j q)), wipe_get, if_neg (fun q => hj q.1)]

/-! ### a thing aside: tracked, in nobody's words -/
section
variable {K : Frag} {mg : MG} {g : Sig} {wd wd1 : Wd} {S : Sto} {H H1 : Hp} {p : Addr} {o : HO}
theorem Rel.aside (r : Rel K mg g wd S H) (hF : wd.F p = none) (hm : p ∉ wd.mu) : Rel K mg g wd S (upd H p o) := by
  refine ⟨fun a u h => ?_, r.len, r.nd, fun k a c h1 h2 => ?_⟩
  · have hne : a ≠ p := fun e => by rw [e, hF] at h; cases h
    rw [upd_ne hne]; exact r.sub a u h
  · have hne : a ≠ p := fun e => hm (e ▸ List.mem_of_getElem? h1)
    exact CellAt.keep (Ext.refl wd (upd H p o)) (fun h => h) (by rw [upd_ne hne]) (r.cell k a c h1 h2)
theorem Ext.aside (x : Ext wd1 H1 wd H) (hp : H1 p = none) : Ext wd1 H1 wd (upd H p o) := by
  refine ⟨x.mono, x.fnew, x.pre, fun a u h hm => ?_, fun a h => ?_, x.xc⟩
  · rw [upd_ne (ne_of_none h hp)]; exact x.keep a u h hm
  · by_cases e : a = p
    · rw [e]; exact hp
    · rw [upd_ne e] at h; exact x.dom a h
theorem Ext.still {wd' : Wd} {H' : Hp} (x : Ext wd H wd' H') (hH : H p = some o) (hF : wd.F p = none) (hm : p ∉ wd.mu) : H' p = some o ∧ wd'.F p = none ∧ p ∉ wd'.mu := by
  refine ⟨x.keep p o hH hm, ?_, fun h => ?_⟩
  · cases e : wd'.F p with
    | none => rfl
    | some u =>
      rcases x.fnew p u e hF with z | z
      · rw [hH] at z; cases z
      · exact absurd z hm
  · obtain ⟨nu, e, n⟩ := x.pre
    rw [e] at h
    rcases List.mem_append.mp h with z | z
    · exact hm z
    · rw [n p z] at hH; cases hH
/-- .. frozen -/
theorem Ext.frzAt (x : Ext wd1 H1 wd H) (hp : H1 p = none) (hF : wd.F p = none) : Ext wd1 H1 (wd.frz p o) H := by
  refine ⟨fun a u h => ?_, fun a u h h' => ?_, x.pre, x.keep, x.dom, x.xc⟩
  · show upd wd.F p o a = some u
    have := x.mono a u h
    rw [upd_ne (ne_of_none this hF)]; exact this
  · by_cases e : a = p
    · exact .inl (e ▸ hp)
    · have h : upd wd.F p o a = some u := h
      rw [upd_ne e] at h
      exact x.fnew a u h h'
theorem frz_lat (hF : wd.F p = none) : ∀ a u, wd.F a = some u → (wd.frz p o).F a = some u := fun a u h => by
  show upd wd.F p o a = some u
  rw [upd_ne (ne_of_none h hF)]; exact h
theorem Rel.frzAt (r : Rel K mg g wd S H) (hH : H p = some o) (hF : wd.F p = none) (hm : p ∉ wd.mu) : Rel K mg g (wd.frz p o) S H := by
  refine ⟨fun a u h => ?_, r.len, r.nd, fun k a c h1 h2 => ?_⟩
  · have h : upd wd.F p o a = some u := h
    by_cases e : a = p
    · subst e; rw [upd_same] at h; rw [hH]; exact h
    · rw [upd_ne e] at h; exact r.sub a u h
  · have hne : a ≠ p := fun e => hm (e ▸ List.mem_of_getElem? h1)
    exact CellAt.keepL ⟨frz_lat hF, ⟨[], by simp [Wd.frz]⟩, rfl⟩ (fun h => by show upd wd.F p o a = none; rw [upd_ne hne]; exact h) rfl (r.cell k a c h1 h2)
/-- .. a cell -/
theorem Ext.addAt (x : Ext wd1 H1 wd H) (hp : H1 p = none) : Ext wd1 H1 (wd.add p) H := by
  refine ⟨x.mono, x.fnew, ?_, x.keep, x.dom, x.xc⟩
  obtain ⟨nu, e, n⟩ := x.pre
  refine ⟨nu ++ [p], by show wd.mu ++ [p] = _; rw [e, List.append_assoc], fun a h => ?_⟩
  rcases List.mem_append.mp h with z | z
  · exact n a z
  · rw [List.mem_singleton.mp z]; exact hp
theorem Rel.addAt {c : Cell} (r : Rel K mg g wd S H) (hm : p ∉ wd.mu) (hc : CellAt K mg g (wd.add p) H p c) : Rel K mg g (wd.add p) (S ++ [c]) H := by
  refine ⟨r.sub, ?_, ?_, fun k a d h1 h2 => ?_⟩
  · show (wd.mu ++ [p]).length = _
    rw [List.length_append, List.length_append, r.len]; rfl
  · show (wd.mu ++ [p]).Nodup
    refine List.nodup_append.mpr ⟨r.nd, by simp, fun a ha b hb e => ?_⟩
    rw [List.mem_singleton.mp hb] at e
    exact hm (e ▸ ha)
  · have h1 : (wd.mu ++ [p])[k]? = some a := h1
    by_cases hk : k < wd.mu.length
    · rw [List.getElem?_append_left hk] at h1
      rw [List.getElem?_append_left (by rw [← r.len]; exact hk)] at h2
      have L1 : Lat wd (wd.add p) := ⟨fun _ _ h => h, ⟨[p], rfl⟩, rfl⟩
      exact CellAt.keepL L1 (fun h => h) rfl (r.cell k a d h1 h2)
    · have hk' : wd.mu.length ≤ k := Nat.le_of_not_lt hk
      rw [List.getElem?_append_right hk'] at h1
      rw [List.getElem?_append_right (by rw [← r.len]; exact hk')] at h2
      have z : k - wd.mu.length = 0 := by
        cases q : k - wd.mu.length with
        | zero => rfl
        | succ n => rw [q] at h1; simp at h1
      rw [z] at h1
      rw [← r.len, z] at h2
      simp at h1 h2
      subst h1 h2
      exact hc
end

/-! ### the tests of a comprehension -/
def RnTs (X : Cx) (ifs : List Expr) : TT := fun σ H Q => ∀ pins s, Inv X pins σ H s →
    wpAny (model X.prog X.w) X.A (forIn ifs true fun c r => if r = true then do let ok ← isTrue c X.env (eval c X.env); pure (ForInStep.yield ok) else pure (ForInStep.yield r)) (TP X pins σ Q) X.xe s
def JTs (X : Cx) (W : WX) (xc : Option (Addr × Value × Option Addr)) (g : Sig) (ifs : List Expr) (f : TM) : Prop :=
  ∀ (env : Env) (S : Sto) (wd : Wd) (σ : L2.St) (H : Hp) (Q : Bool → Hp → Prop), wd.xc = xc → EnvAt X.K X.mg g wd env σ → Rel X.K X.mg g wd S H →
    Post X.K X.mg g W σ wd H (fun b _ _ H' => Q b H') (f env S) → RnTs X ifs σ H Q
def tYesM : TM := fun _ S => .ok true S
theorem jts_nil {X : Cx} {W : WX} {xc : Option (Addr × Value × Option Addr)} {g : Sig} : JTs X W xc g [] tYesM := by
  intro env S wd σ H Q hx he hl hp pins s I
  exact (pts_nil : PTs X [] tYes).run pins s σ H Q I (Post.now hl hp)
theorem jts_one {X : Cx} {W : WX} {xc : Option (Addr × Value × Option Addr)} {g : Sig} {c : Expr} {f : TM} (h : JT X W xc g c f) : JTs X W xc g [c] f := by
  intro env S wd σ H Q hx he hl hp pins s I
  exact (pts_one pt_rn : PTs X [c] (RnT X c)).run pins s σ H Q I (h env S wd σ H Q hx he hl hp)

open Classical in
noncomputable def lcGo (tg : TgM) (tt : TM) (fe : EM) (gd : Gd) (env0 : Env) : List D → Sto → Res (List D)
  | [], S => if GdOk gd S then .ok [] S else .bad
  | d :: ds, S => if GdOk gd S then
      match tg d env0 with
      | some env1 => match tt env1 S with
        | .ok true S1 => match fe env1 S1 with
          | .ok (.v y) S2 => match lcGo tg tt fe gd env0 ds S2 with
            | .ok ys S3 => .ok (y :: ys) S3
            | _ => .bad
          | _ => .bad
        | .ok false S1 => lcGo tg tt fe gd env0 ds S1
        | _ => .bad
      | none => .bad
    else .bad
noncomputable def eLc (it : IM) (tg : TgM) (tt : TM) (fe : EM) (vs : List Nat) : EM := fun env S => (it env S).bind fun q S1 => if q.1.length ≤ sizeLine then
    match lcGo tg tt fe q.2 (wipeE env vs) q.1 S1 with
    | .ok ys S2 => .ok (.v (.lst ys)) S2
    | _ => .bad
  else .bad
noncomputable def eLcM (it : IM) (tg : TgM) (tt : TM) (fe : EM) (vs : List Nat) : EM := fun env S => (it env S).bind fun q S1 => if q.1.length ≤ sizeLine then
    match lcGo tg tt fe q.2 (wipeE env vs) q.1 S1 with
    | .ok ys S2 => .ok (.l S2.length) (S2 ++ [.lst ys])
    | _ => .bad
  else .bad
section
variable {tg : TgM} {tt : TM} {fe : EM} {gd : Gd} {env0 : Env}
theorem lcGo_gd {ds : List D} {S : Sto} {ys : List D} {S' : Sto} (h : lcGo tg tt fe gd env0 ds S = .ok ys S') : GdOk gd S := by
  cases ds with
  | nil =>
    unfold lcGo at h
    split at h
    · assumption
    · cases h
  | cons d ds =>
    unfold lcGo at h
    split at h
    · assumption
    · cases h
theorem lcGo_len : ∀ {ds : List D} {S : Sto} {ys : List D} {S' : Sto}, lcGo tg tt fe gd env0 ds S = .ok ys S' → ys.length ≤ ds.length
  | [], S, ys, S', h => by
    unfold lcGo at h
    split at h
    · cases h; exact Nat.le_refl _
    · cases h
  | d :: ds, S, ys, S', h => by
    unfold lcGo at h
    split at h
    · split at h
      · split at h
        · split at h
          · split at h
            · cases h
              rename_i e
              have := lcGo_len e
              simp only [List.length_cons]
              omega
            · cases h
          · cases h
        · have := lcGo_len h
          simp only [List.length_cons]
          omega
        · cases h
      · cases h
    · cases h
end

/-! ### the rule -/
section
variable {X : Cx} {W : WX} {xc : Option (Addr × Value × Option Addr)} {g : Sig} {pos : Pos} {elt tg iter : Expr} {ifs : List Expr} {scope : Scope} {own : List (Str × Nat)} {us : List Nat} {it : IM} {t : TgM} {tt : TM} {fe : EM}
abbrev blkOf (X : Cx) (scope : Scope) (s : Shared) (H : Hp) (C : Addr) (cl : List (Str × Addr)) (fp : List Addr) : Cx := X.blk s H scope (compEnvC scope cl C X.env) fp
def gB (X : Cx) (scope : Scope) (tg : Expr) : TG := fun v σ H Q => ∀ s H0 C cl fp, RnG (blkOf X scope s H0 C cl fp) tg v σ H Q
def ttB (X : Cx) (scope : Scope) (ifs : List Expr) : TT := fun σ H Q => ∀ s H0 C cl fp, RnTs (blkOf X scope s H0 C cl fp) ifs σ H Q
def teB (X : Cx) (scope : Scope) (elt : Expr) : TE := fun σ H Q => ∀ s H0 C cl fp, Rn (blkOf X scope s H0 C cl fp) elt σ H Q
theorem lc_read {env : Env} {S1 : Sto} {wd1 : Wd} {σ : L2.St} {H1 : Hp} {items : List D} {gd : Gd} {J : It} {ys : List D} {S2 : Sto} {Q : VK}
    (hg : ∀ s H C cl fp, JG (blkOf X scope s H C cl fp) g tg us t) (ht : ∀ s H C cl fp, JTs (blkOf X scope s H C cl fp) Wn xc g ifs tt) (he : ∀ s H C cl fp, JE (blkOf X scope s H C cl fp) Wn xc g elt fe)
    (hus : ∀ i ∈ us, i ∈ own.map (·.2)) (hx : wd1.xc = xc) (ha : EnvAt X.K X.mg g wd1 env σ) (r1 : Rel X.K X.mg g wd1 S1 H1) (hJ : WalkOk X g wd1 J items gd) (hz : items.length ≤ sizeLine)
    (hlc : lcGo t tt fe gd (wipeE env (own.map (·.2))) items S1 = .ok ys S2) {p : Addr} (hp : H1 p = none)
    (hq : ∀ wd' H' xs, Ext wd1 H1 wd' H' → Rel X.K X.mg g wd' S2 H' → H' p = some (.lst xs) → wd'.F p = none → p ∉ wd'.mu → AtL X.K X.mg g wd'.F ys xs → Q (.ref p) H') :
    ∃ W : Nat → Nat → Hp → Prop, (∃ m, W 0 m (upd H1 p (.lst []))) ∧ ∀ i m H, W i m H →
      (J.stop i H ∧ Q (.ref p) H) ∨ (J.go i H ∧ ∃ Nx : Hp → Prop, (∀ H', Nx H' → ∃ m', m' < m ∧ W (i + 1) m' H') ∧ ∀ x H', J.yld i H x H' → gB X scope tg x (L2.wipe σ (own.map (·.2))) H' fun σ2 H2 => L2.wipe σ2 (own.map (·.2)) = L2.wipe σ (own.map (·.2)) ∧ ttB X scope ifs σ2 H2 fun b H3 =>
        if b = true then teB X scope elt σ2 H3 fun y H4 => ∃ acc, H4 p = some (.lst acc) ∧ acc.length < sizeLine ∧ Nx (upd H4 p (.lst (acc ++ [y]))) else Nx H3) := by
  obtain ⟨n, G, Y, hW, hn, hG, hY⟩ := hJ
  have hp1 : wd1.F p = none := r1.noF hp
  have hp2 : p ∉ wd1.mu := r1.noMu hp
  refine lc_it hW (Qd := fun H => Q (.ref p) H) (fun i H => ∃ S wd acc xs zs, Ext wd1 H1 wd H ∧ Rel X.K X.mg g wd S H ∧ H p = some (.lst xs) ∧ wd.F p = none ∧ p ∉ wd.mu ∧ AtL X.K X.mg g wd.F acc xs ∧ acc.length ≤ i ∧ lcGo t tt fe gd (wipeE env (own.map (·.2))) (items.drop i) S = .ok zs S2 ∧ acc ++ zs = ys) ?_ ?_ ?_ ?_
  · exact ⟨S1, wd1, [], [], ys, Ext.fresh hp, r1.fresh hp, upd_same, hp1, hp2, .nil, Nat.le_refl _, hlc, rfl⟩
  · rintro i H hi ⟨S, wd, acc, xs, zs, x, r, h1, h2, h3, h4, h5, h6, h7⟩
    exact hG wd S H x.lat r (lcGo_gd h6)
  · rintro i x H H' hi ⟨S, wd, acc, xs, zs, xx, r, h1, h2, h3, h4, h5, h6, h7⟩ y
    have gk := lcGo_gd h6
    obtain ⟨wd2, d, x2, r2, hd, z⟩ := hY i wd S H x H' hi xx.lat r gk y
    have hlt : i < items.length := (List.getElem?_eq_some_iff.mp hd).1
    have hdrop : items.drop i = d :: items.drop (i + 1) := by
      rw [List.drop_eq_getElem_cons hlt]
      have := (List.getElem?_eq_some_iff.mp hd).2
      rw [this]
    rw [hdrop] at h6
    unfold lcGo at h6
    rw [if_pos gk] at h6
    obtain ⟨k1, k2, k3⟩ := x2.still h1 h2 h3
    have acc2 : AtL X.K X.mg g wd2.F acc xs := AtL.up x2.mono h4
    have xc2 : wd2.xc = xc := x2.xc.trans (xx.xc.trans hx)
    split at h6
    · rename_i env1 e1
      intro s0 H0' C cl fp
      refine hg s0 H0' C cl fp _ env1 S wd2 _ H' d x _ (((ha.up xx).up x2).wipe _) r2 z e1 fun σ2 he2 hoff => ⟨wipe_off hoff hus, ?_⟩
      intro s0 H0' C cl fp
      refine ht s0 H0' C cl fp env1 S wd2 σ2 H' _ xc2 he2 r2 ?_
      cases htt : tt env1 S with
      | ok b S3 =>
        rw [htt] at h6
        intro wd3 H3 x3 r3
        obtain ⟨q1, q2, q3⟩ := x3.still k1 k2 k3
        cases b with
        | false =>
          rw [if_neg Bool.false_ne_true]
          exact ⟨S3, wd3, acc, xs, zs, xx.trans (x2.trans x3), r3, q1, q2, q3, AtL.up x3.mono acc2, Nat.le_succ_of_le h5, h6, h7⟩
        | true =>
          rw [if_pos rfl]
          dsimp only at h6
          intro s0 H0' C cl fp
          refine he s0 H0' C cl fp env1 S3 wd3 σ2 H3 _ (x3.xc.trans xc2) (he2.up x3) r3 ?_
          cases hfe : fe env1 S3 with
          | ok rr S4 =>
            rw [hfe] at h6
            cases rr with
            | v yy =>
              dsimp only at h6
              split at h6
              · rename_i ys' S5 e5
                cases h6
                intro wd4 H4 x4 r4 v hv
                obtain ⟨w1, w2, w3⟩ := x4.still q1 q2 q3
                have hl : acc.length = xs.length := h4.len
                refine ⟨xs, w1, by omega, S4, wd4, acc ++ [yy], xs ++ [v], ys', Ext.aside (xx.trans (x2.trans (x3.trans x4))) hp, r4.aside w2 w3, upd_same, w2, w3, AtL.app (AtL.up x4.mono (AtL.up x3.mono acc2)) (.cons hv .nil), ?_, e5, ?_⟩
                · rw [List.length_append, List.length_singleton]; omega
                · rw [← h7, List.append_assoc]; rfl
              · cases h6
            | l k => cases h6
            | e c ks ds => cases h6
          | exc c ks ds S4 => rw [hfe] at h6; cases h6
          | bad => rw [hfe] at h6; cases h6
      | exc c ks ds S3 => rw [htt] at h6; cases h6
      | bad => rw [htt] at h6; cases h6
    · cases h6
  · rintro H ⟨S, wd, acc, xs, zs, xx, r, h1, h2, h3, h4, h5, h6, h7⟩
    have e0 : items.drop n = [] := by rw [hn]; simp
    rw [e0] at h6
    have gk := lcGo_gd h6
    unfold lcGo at h6
    rw [if_pos gk] at h6
    cases h6
    rw [List.append_nil] at h7
    subst h7
    exact hq wd H xs xx r h1 h2 h3 h4
/-- the reading of the whole comprehension -/
theorem lc_all {env : Env} {S : Sto} {wd : Wd} {σ : L2.St} {H : Hp} {Q : VK} (hi : JI X W xc g tg iter it)
    (hg : ∀ s H C cl fp, JG (blkOf X scope s H C cl fp) g tg us t) (ht : ∀ s H C cl fp, JTs (blkOf X scope s H C cl fp) Wn xc g ifs tt) (he : ∀ s H C cl fp, JE (blkOf X scope s H C cl fp) Wn xc g elt fe) (hus : ∀ i ∈ us, i ∈ own.map (·.2))
    (hx : wd.xc = xc) (ha : EnvAt X.K X.mg g wd env σ) (hl : Rel X.K X.mg g wd S H)
    (hp : Post X.K X.mg g W σ wd H (fun r _ wd' H' => ∀ v, RAt X.K X.mg g wd' r v → Q v H') (eLc it t tt fe (own.map (·.2)) env S)) : tLc (RnI X tg iter) (gB X scope tg) (ttB X scope ifs) (teB X scope elt) (own.map (·.2)) σ H Q := by
  refine hi env S wd σ H _ hx ha hl (Post.imp (fun q S1 wd1 H1 x1 r1 h1 J hJ p hp => ?_) (Post.bind hp))
  obtain ⟨items, gd⟩ := q
  dsimp only at h1
  split at h1
  · rename_i hz
    split at h1
    · rename_i ys S2 e
      refine lc_read hg ht he hus (x1.xc.trans hx) (ha.up x1) r1 hJ hz e hp fun wd' H' xs x2 r2 k1 k2 k3 k4 => ?_
      exact h1 _ H' (x2.frzAt (o := .lst xs) hp k2) (r2.frzAt k1 k2 k3) _ (At.lst upd_same (AtL.up (frz_lat k2) k4) (Nat.le_trans (lcGo_len e) hz))
    · exact h1.elim
  · exact h1.elim
theorem lc_allM {env : Env} {S : Sto} {wd : Wd} {σ : L2.St} {H : Hp} {Q : VK} (hi : JI X W xc g tg iter it)
    (hg : ∀ s H C cl fp, JG (blkOf X scope s H C cl fp) g tg us t) (ht : ∀ s H C cl fp, JTs (blkOf X scope s H C cl fp) Wn xc g ifs tt) (he : ∀ s H C cl fp, JE (blkOf X scope s H C cl fp) Wn xc g elt fe) (hus : ∀ i ∈ us, i ∈ own.map (·.2))
    (hx : wd.xc = xc) (ha : EnvAt X.K X.mg g wd env σ) (hl : Rel X.K X.mg g wd S H)
    (hp : Post X.K X.mg g W σ wd H (fun r _ wd' H' => ∀ v, RAt X.K X.mg g wd' r v → Q v H') (eLcM it t tt fe (own.map (·.2)) env S)) : tLc (RnI X tg iter) (gB X scope tg) (ttB X scope ifs) (teB X scope elt) (own.map (·.2)) σ H Q := by
  refine hi env S wd σ H _ hx ha hl (Post.imp (fun q S1 wd1 H1 x1 r1 h1 J hJ p hp => ?_) (Post.bind hp))
  obtain ⟨items, gd⟩ := q
  dsimp only at h1
  split at h1
  · rename_i hz
    split at h1
    · rename_i ys S2 e
      refine lc_read hg ht he hus (x1.xc.trans hx) (ha.up x1) r1 hJ hz e hp fun wd' H' xs x2 r2 k1 k2 k3 k4 => ?_
      exact h1 _ H' (x2.addAt hp) (r2.addAt k3 ⟨k2, Nat.le_trans (lcGo_len e) hz, xs, k1, k4⟩) _ (rat_new r2)
    · exact h1.elim
  · exact h1.elim
theorem pgB : ∀ s H C cl fp, PG (blkOf X scope s H C cl fp) tg (gB X scope tg) := fun s H C cl fp => ⟨fun pins s' σ H' v u Q I r h => h s H C cl fp pins s' u I r⟩
theorem ptB : ∀ s H C cl fp, PTs (blkOf X scope s H C cl fp) ifs (ttB X scope ifs) := fun s H C cl fp => ⟨fun pins s' σ H' Q I h => h s H C cl fp pins s' I⟩
theorem peB : ∀ s H C cl fp, PE (blkOf X scope s H C cl fp) elt (teB X scope elt) := fun s H C cl fp => ⟨fun pins s' σ H' Q I h => h s H C cl fp pins s' I⟩
theorem je_lc (own : List (Str × Nat)) (hc : X.calm = true) (hN : X.N.Nodup) (hi : JI X W xc g tg iter it) (ok : blkC X.N X.env.scope scope own = true)
    (hg : ∀ s H C cl fp, JG (blkOf X scope s H C cl fp) g tg us t) (ht : ∀ s H C cl fp, JTs (blkOf X scope s H C cl fp) Wn xc g ifs tt) (he : ∀ s H C cl fp, JE (blkOf X scope s H C cl fp) Wn xc g elt fe) (hus : ∀ i ∈ us, i ∈ own.map (·.2) := by decide)
    (hs : ∀ x, foldedSetIterable iter X.env x = pure x := by intro _; rfl) : JE X W xc g (.ListComp elt [⟨tg, iter, ifs, 0⟩] scope pos) (eLc it t tt fe (own.map (·.2))) := by
  intro env S wd σ H Q hx ha hl hp
  exact (pe_lc (own := own) (pos := pos) hc hN pi_rn (blkOk_by ok) pgB ptB peB hs).rn (lc_all hi hg ht he hus hx ha hl hp)
theorem je_lcM (own : List (Str × Nat)) (hc : X.calm = true) (hN : X.N.Nodup) (hi : JI X W xc g tg iter it) (ok : blkC X.N X.env.scope scope own = true)
    (hg : ∀ s H C cl fp, JG (blkOf X scope s H C cl fp) g tg us t) (ht : ∀ s H C cl fp, JTs (blkOf X scope s H C cl fp) Wn xc g ifs tt) (he : ∀ s H C cl fp, JE (blkOf X scope s H C cl fp) Wn xc g elt fe) (hus : ∀ i ∈ us, i ∈ own.map (·.2) := by decide)
    (hs : ∀ x, foldedSetIterable iter X.env x = pure x := by intro _; rfl) : JE X W xc g (.ListComp elt [⟨tg, iter, ifs, 0⟩] scope pos) (eLcM it t tt fe (own.map (·.2))) := by
  intro env S wd σ H Q hx ha hl hp
  exact (pe_lc (own := own) (pos := pos) hc hN pi_rn (blkOk_by ok) pgB ptB peB hs).rn (lc_allM hi hg ht he hus hx ha hl hp)
/-- y = [..] on one line -/
theorem js_setLc (i : Nat) (own : List (Str × Nat)) {y : Str} {py spos : Pos} (hc : X.calm = true) (hN : X.N.Nodup) (hi : JI X W xc g tg iter it) (ok : blkC X.N X.env.scope scope own = true)
    (hsw : swapsWith (.ListComp elt [⟨tg, iter, ifs, 0⟩] scope pos) (some (.Name y py)) spos.line X.env = pure true)
    (hg : ∀ s H C cl fp, JG (blkOf X scope s H C cl fp) g tg us t) (ht : ∀ s H C cl fp, JTs (blkOf X scope s H C cl fp) Wn xc g ifs tt) (he : ∀ s H C cl fp, JE (blkOf X scope s H C cl fp) Wn xc g elt fe) (hus : ∀ i ∈ us, i ∈ own.map (·.2) := by decide)
    (hy : X.N[i]? = some y := by rfl) (hyl : X.env.scope.names.lookup y = some .local := by rfl) (hs : ∀ x, foldedSetIterable iter X.env x = pure x := by intro _; rfl) :
    JS X W xc g (.Assign [.Name y py] (.ListComp elt [⟨tg, iter, ifs, 0⟩] scope pos) spos) (sSet i (eLc it t tt fe (own.map (·.2)))) := by
  intro env S wd σ H E hx ha hl hp
  refine (ps_setLc (own := own) (pos := pos) (spos := spos) hc hN hy hyl hsw pi_rn (blkOk_by ok) pgB ptB peB hs).rn ?_
  refine lc_all hi hg ht he hus hx ha hl (Post.imp (fun r S1 wd1 H1 x1 r1 h1 v hv => ?_) (PostS.res ha hp))
  exact h1 wd1 _ H1 (Ext.refl _ _) r1 ((ha.up x1).set hv)
theorem js_setLcM (i : Nat) (own : List (Str × Nat)) {y : Str} {py spos : Pos} (hc : X.calm = true) (hN : X.N.Nodup) (hi : JI X W xc g tg iter it) (ok : blkC X.N X.env.scope scope own = true)
    (hsw : swapsWith (.ListComp elt [⟨tg, iter, ifs, 0⟩] scope pos) (some (.Name y py)) spos.line X.env = pure true)
    (hg : ∀ s H C cl fp, JG (blkOf X scope s H C cl fp) g tg us t) (ht : ∀ s H C cl fp, JTs (blkOf X scope s H C cl fp) Wn xc g ifs tt) (he : ∀ s H C cl fp, JE (blkOf X scope s H C cl fp) Wn xc g elt fe) (hus : ∀ i ∈ us, i ∈ own.map (·.2) := by decide)
    (hy : X.N[i]? = some y := by rfl) (hyl : X.env.scope.names.lookup y = some .local := by rfl) (hs : ∀ x, foldedSetIterable iter X.env x = pure x := by intro _; rfl) :
    JS X W xc g (.Assign [.Name y py] (.ListComp elt [⟨tg, iter, ifs, 0⟩] scope pos) spos) (sSet i (eLcM it t tt fe (own.map (·.2)))) := by
  intro env S wd σ H E hx ha hl hp
  refine (ps_setLc (own := own) (pos := pos) (spos := spos) hc hN hy hyl hsw pi_rn (blkOk_by ok) pgB ptB peB hs).rn ?_
  refine lc_allM hi hg ht he hus hx ha hl (Post.imp (fun r S1 wd1 H1 x1 r1 h1 v hv => ?_) (PostS.res ha hp))
  exact h1 wd1 _ H1 (Ext.refl _ _) r1 ((ha.up x1).set hv)
end
end Mi

/-! Mi 8: built-ins, subscripts, methods of lists -/
namespace Mi
open PySem L2

inductive BltM (X : Cx) (W : WX) (g : Sig) (x : Str) (op : List R → Sto → Res R) : Prop
  | b {id : String} {r : List V → Hp → VK → Prop} (hc : CallR X (.builtin id) r) (hv : bootBuiltins x = some (.builtin id)) (hd : DA X W g r op) : BltM X W g x op
  | t {T : String} {r : List V → Hp → VK → Prop} (hc : CallR X (.type T) r) (hv : bootBuiltins x = some (.type T)) (hd : DA X W g r op) : BltM X W g x op
section
variable {X : Cx} {W : WX} {xc : Option (Addr × Value × Option Addr)} {g : Sig} {pos p : Pos} {x : Str} {e a b : Expr} {es : List Expr} {fr : AM} {fe fa fb : EM} {op : List R → Sto → Res R}
theorem je_blt (h : BltM X W g x op) (ha : JA X W xc g (e :: es) fr) (hm : X.mg x = none) (hg : Gl X x := by rfl) (hn : x ≠ "__name__" := by decide) (hdb : (x == ("__debug__" : Str)) = false := by decide)
    (he : starEach (e :: es) X.env = (false, eval e X.env) :: starEach es X.env := by rfl) (hpl : (backTo pos (starEach es X.env)).any (·.1) = false := by rfl) : JE X W xc g (.Call (.Name x p) (e :: es) [] pos) (eApp op fr) := by
  cases h with
  | b hc hv hd => exact je_app (fun h => pe_callB hc hg hm hv h hn hdb he hpl) hd ha
  | t hc hv hd => exact je_app (fun h => pe_callTy hc hg hm hv h hn hdb he hpl) hd ha
end

/-! ### len, int, abs, list, tuple -/
def mLen (rs : List R) (S : Sto) : Res R := match rs with
  | [r] => match r.seq S with | some ds => .ok (.v (.int ds.length)) S | none => .bad
  | _ => .bad
def mInt (rs : List R) (S : Sto) : Res R := match rs with
  | [.v (.int i)] => .ok (.v (.int i)) S
  | [.v (.bl b)] => .ok (.v (.int (if b then 1 else 0))) S
  | _ => .bad
def mAbs (rs : List R) (S : Sto) : Res R := match rs with
  | [.v (.int i)] => .ok (.v (.int (if i < 0 then -i else i))) S
  | _ => .bad
def mList (rs : List R) (S : Sto) : Res R := match rs with
  | [r] => match r.seq S with | some ds => .ok (.v (.lst ds)) S | none => .bad
  | _ => .bad
def mListM (rs : List R) (S : Sto) : Res R := match rs with
  | [r] => match r.seq S with | some ds => .ok (.l S.length) (S ++ [.lst ds]) | none => .bad
  | _ => .bad
/-- all ints -/
def intsD : List D → Option (List Int)
  | [] => some []
  | .int i :: ds => match intsD ds with | some ns => some (i :: ns) | none => none
  | _ :: _ => none
def blsD : List D → Option (List Bool)
  | [] => some []
  | .bl b :: ds => match blsD ds with | some bs => some (b :: bs) | none => none
  | _ :: _ => none
theorem ints_at {K : Frag} {mg : MG} {g : Sig} {F : Hp} : ∀ {ds : List D} {xs : List V} {ns : List Int}, AtL K mg g F ds xs → intsD ds = some ns → xs = ns.map V.int
  | _, _, _, .nil, e => by cases e; rfl
  | _, _, _, .cons (d := d) q r, e => by
    cases d with
    | int i =>
      unfold intsD at e
      split at e
      · rename_i ns' h
        cases e
        cases q
        rw [ints_at r h]; rfl
      · cases e
    | _ => simp [intsD] at e
theorem bls_at {K : Frag} {mg : MG} {g : Sig} {F : Hp} : ∀ {ds : List D} {xs : List V} {ns : List Bool}, AtL K mg g F ds xs → blsD ds = some ns → xs = ns.map V.bl
  | _, _, _, .nil, e => by cases e; rfl
  | _, _, _, .cons (d := d) q r, e => by
    cases d with
    | bl i =>
      unfold blsD at e
      split at e
      · rename_i ns' h
        cases e
        cases q
        rw [bls_at r h]; rfl
      · cases e
    | _ => simp [blsD] at e
/-- the items of a list (not a tuple) -/
def R.lsq (r : R) (S : Sto) : Option (List D) := match r with
  | .v (.lst ds) => some ds
  | .v (.frl ds) => some ds
  | .l k => match S[k]? with | some (.lst ds) => some ds | _ => none
  | _ => none
theorem lsq_at {K : Frag} {mg : MG} {g : Sig} {wd : Wd} {S : Sto} {H : Hp} {r : R} {x : V} {ds : List D} (rl : Rel K mg g wd S H) (h : RAt K mg g wd r x) (e : r.lsq S = some ds) : ∃ a xs, x = .ref a ∧ SqL K H a xs ∧ AtL K mg g wd.F ds xs ∧ ds.length ≤ sizeLine := by
  unfold R.lsq at e
  split at e
  · cases e
    cases h with
    | lst q r z => exact ⟨_, _, rfl, SqL.of (rl.sub _ _ q), r, z⟩
  · cases e
    cases h with
    | frl q r z => exact ⟨_, _, rfl, SqL.up rl.sub q, r, z⟩
  · split at e
    · cases e
      rename_i hk
      obtain ⟨a, ha, rfl⟩ := h
      obtain ⟨_, z, xs, h1, h2⟩ := rl.cell _ a _ ha hk
      exact ⟨a, xs, rfl, SqL.of h1, h2, z⟩
    · cases e
  · cases e
def mTuple (rs : List R) (S : Sto) : Res R := match rs with
  | [.v (.tup ds)] => .ok (.v (.tup ds)) S
  | [r] => match r.lsq S with | some ds => .ok (.v (.tup ds)) S | none => .bad
  | _ => .bad
def minI : List Int → Int
  | [] => 0
  | [a] => a
  | a :: b :: r => min a (minI (b :: r))
def maxI : List Int → Int
  | [] => 0
  | [a] => a
  | a :: b :: r => max a (maxI (b :: r))
theorem minI_mem : ∀ {ns : List Int}, ns ≠ [] → minI ns ∈ ns ∧ ∀ a ∈ ns, minI ns ≤ a
  | [], h => absurd rfl h
  | [a], _ => ⟨List.mem_singleton.mpr rfl, fun b hb => by rw [List.mem_singleton.mp hb]; exact Int.le_refl _⟩
  | a :: b :: r, _ => by
    obtain ⟨h1, h2⟩ := minI_mem (ns := b :: r) (by simp)
    have e : minI (a :: b :: r) = min a (minI (b :: r)) := rfl
    refine ⟨?_, fun c hc => ?_⟩
    · rw [e]
      rcases Int.le_total a (minI (b :: r)) with q | q
      · rw [Int.min_eq_left q]; exact List.mem_cons_self
      · rw [Int.min_eq_right q]; exact List.mem_cons_of_mem _ h1
    · rw [e]
      rcases List.mem_cons.mp hc with q | q
      · rw [q]; exact Int.min_le_left _ _
      · exact Int.le_trans (Int.min_le_right _ _) (h2 c q)
theorem maxI_mem : ∀ {ns : List Int}, ns ≠ [] → maxI ns ∈ ns ∧ ∀ a ∈ ns, a ≤ maxI ns
  | [], h => absurd rfl h
  | [a], _ => ⟨List.mem_singleton.mpr rfl, fun b hb => by rw [List.mem_singleton.mp hb]; exact Int.le_refl _⟩
  | a :: b :: r, _ => by
    obtain ⟨h1, h2⟩ := maxI_mem (ns := b :: r) (by simp)
    have e : maxI (a :: b :: r) = max a (maxI (b :: r)) := rfl
    refine ⟨?_, fun c hc => ?_⟩
    · rw [e]
      rcases Int.le_total a (maxI (b :: r)) with q | q
      · rw [Int.max_eq_right q]; exact List.mem_cons_of_mem _ h1
      · rw [Int.max_eq_left q]; exact List.mem_cons_self
    · rw [e]
      rcases List.mem_cons.mp hc with q | q
      · rw [q]; exact Int.le_max_left _ _
      · exact Int.le_trans (h2 c q) (Int.le_max_right _ _)
def mMin (rs : List R) (S : Sto) : Res R := match rs with
  | [.v (.int i), .v (.int j)] => .ok (.v (.int (if j < i then j else i))) S
  | [r] => match r.lsq S with
    | some ds => match intsD ds with
      | some ns => if ns = [] then .bad else .ok (.v (.int (minI ns))) S
      | none => .bad
    | none => .bad
  | _ => .bad
def mMax (rs : List R) (S : Sto) : Res R := match rs with
  | [.v (.int i), .v (.int j)] => .ok (.v (.int (if j > i then j else i))) S
  | [r] => match r.lsq S with
    | some ds => match intsD ds with
      | some ns => if ns = [] then .bad else .ok (.v (.int (maxI ns))) S
      | none => .bad
    | none => .bad
  | _ => .bad
def mSum (rs : List R) (S : Sto) : Res R := match rs with
  | [r] => match r.lsq S with
    | some ds => match intsD ds with
      | some ns => .ok (.v (.int ns.sum)) S
      | none => .bad
    | none => .bad
  | _ => .bad
def mAll (rs : List R) (S : Sto) : Res R := match rs with
  | [r] => match r.lsq S with
    | some ds => match blsD ds with
      | some bs => .ok (.v (.bl (bs.all id))) S
      | none => .bad
    | none => .bad
  | _ => .bad
def mAny (rs : List R) (S : Sto) : Res R := match rs with
  | [r] => match r.lsq S with
    | some ds => match blsD ds with
      | some bs => .ok (.v (.bl (bs.any id))) S
      | none => .bad
    | none => .bad
  | _ => .bad
/-! sorted: ints, pairs of ints -/
def pairsD : List D → Option (List (Int × Int))
  | [] => some []
  | .tup [.int i, .int j] :: ds => match pairsD ds with | some ps => some ((i, j) :: ps) | none => none
  | _ :: _ => none
def leI (a b : Int) : Bool := decide (a ≤ b)
def leP (a b : Int × Int) : Bool := decide (a.1 < b.1) || (decide (a.1 = b.1) && decide (a.2 ≤ b.2))
def sortI (ns : List Int) : List Int := ns.mergeSort leI
def sortP (ps : List (Int × Int)) : List (Int × Int) := ps.mergeSort leP
def pairD (p : Int × Int) : D := .tup [.int p.1, .int p.2]
def mSorted (rs : List R) (S : Sto) : Res R := match rs with
  | [r] => match r.lsq S with
    | some ds => match intsD ds with
      | some ns => .ok (.v (.lst ((sortI ns).map D.int))) S
      | none => match pairsD ds with
        | some ps => .ok (.v (.lst ((sortP ps).map pairD))) S
        | none => .bad
    | none => .bad
  | _ => .bad
theorem sortI_spec (ns : List Int) : (sortI ns).Perm ns ∧ (sortI ns).Pairwise (· ≤ ·) := by
  refine ⟨List.mergeSort_perm _ _, ?_⟩
  have h := List.pairwise_mergeSort (le := leI) (fun a b c h1 h2 => by unfold leI at *; simp only [decide_eq_true_eq] at *; omega) (fun a b => by unfold leI; simp only [Bool.or_eq_true, decide_eq_true_eq]; omega) ns
  exact h.imp fun h => by unfold leI at h; simpa using h
theorem leP_trans (a b c : Int × Int) : leP a b = true → leP b c = true → leP a c = true := by
  unfold leP
  simp only [Bool.or_eq_true, Bool.and_eq_true, decide_eq_true_eq]
  omega
theorem leP_total (a b : Int × Int) : (leP a b || leP b a) = true := by
  unfold leP
  simp only [Bool.or_eq_true, Bool.and_eq_true, decide_eq_true_eq]
  omega
theorem leP_anti (a b : Int × Int) : leP a b = true → leP b a = true → a = b := by
  unfold leP
  simp only [Bool.or_eq_true, Bool.and_eq_true, decide_eq_true_eq]
  intro h1 h2
  exact Prod.ext (by omega) (by omega)
theorem sortP_spec (ps : List (Int × Int)) : (sortP ps).Perm ps ∧ (sortP ps).Pairwise (fun a b => leP a b = true) :=
  ⟨List.mergeSort_perm _ _, List.pairwise_mergeSort leP_trans leP_total ps⟩

section
variable {X : Cx} {W : WX} {g : Sig}
theorem da_len : DA X W g (fun xs H Q => ∃ p ys, xs = [.ref p] ∧ (SqL X.K H p ys ∨ SqT X.K H p ys) ∧ Q (.int ys.length) H) mLen := by
  intro S wd σ H xs ps Q hr hp h
  unfold mLen at h
  split at h
  · split at h
    · rename_i ds e
      cases hp with
      | cons q t =>
        cases t
        obtain ⟨a, ys, rfl, h1, h2, _⟩ := seq_at hr q e
        refine ⟨a, ys, rfl, h1, ?_⟩
        rw [← h2.len]
        exact Post.now hr h _ (.int _)
    · exact h.elim
  · exact h.elim
theorem bm_len : BltM X W g "len" mLen := .b call_len_seq PySem.boot_len da_len
theorem bm_int : BltM X W g "int" mInt := by
  refine .t call_int1 PyProof.Rows.boot_int ?_
  intro S wd σ H xs ps Q hr hp h
  unfold mInt at h
  split at h
  · cases hp with
    | cons q t =>
      cases t
      cases q
      exact .inl ⟨_, rfl, Post.now hr h _ (.int _)⟩
  · cases hp with
    | cons q t =>
      cases t
      cases q
      exact .inr ⟨_, rfl, Post.now hr h _ (.int _)⟩
  · exact h.elim
theorem bm_abs : BltM X W g "abs" mAbs := by
  refine .b call_abs PyProof.Rows.boot_abs ?_
  intro S wd σ H xs ps Q hr hp h
  unfold mAbs at h
  split at h
  · cases hp with
    | cons q t =>
      cases t
      cases q
      exact ⟨_, rfl, Post.now hr h _ (.int _)⟩
  · exact h.elim
theorem bm_list : BltM X W g "list" mList := by
  refine .t call_list_of PyProof.Rows.boot_list ?_
  intro S wd σ H xs ps Q hr hp h
  unfold mList at h
  split at h
  · split at h
    · rename_i ds e
      cases hp with
      | cons q t =>
        cases t
        obtain ⟨a, ys, rfl, h1, h2, hz⟩ := seq_at hr q e
        refine ⟨a, ys, rfl, h1, fun p hp => ?_⟩
        have X1 := Ext.froz (wd := wd) (H := H) (o := .lst ys) hp (hr.noF hp)
        exact h _ _ X1 (hr.froz hp) _ (At.lst upd_same (AtL.up X1.mono h2) hz)
    · exact h.elim
  · exact h.elim
theorem bm_listM : BltM X W g "list" mListM := by
  refine .t call_list_of PyProof.Rows.boot_list ?_
  intro S wd σ H xs ps Q hr hp h
  unfold mListM at h
  split at h
  · split at h
    · rename_i ds e
      cases hp with
      | cons q t =>
        cases t
        obtain ⟨a, ys, rfl, h1, h2, hz⟩ := seq_at hr q e
        refine ⟨a, ys, rfl, h1, fun p hp => ?_⟩
        exact h (wd.add p) _ (Ext.add hp) (hr.add hp (cellAt_new hr hp h2 hz)) _ (rat_new hr)
    · exact h.elim
  · exact h.elim
theorem bm_tuple : BltM X W g "tuple" mTuple := by
  refine .t call_tuple_of PyProof.Rows.boot_tuple ?_
  intro S wd σ H xs ps Q hr hp h
  unfold mTuple at h
  split at h
  · cases hp with
    | cons q t =>
      cases t
      cases q with
      | tup q1 q2 q3 => exact ⟨_, _, rfl, .inr ⟨SqT.up hr.sub q1, Post.now hr h _ (.tup q1 q2 q3)⟩⟩
  · split at h
    · rename_i ds e
      cases hp with
      | cons q t =>
        cases t
        obtain ⟨a, ys, rfl, h1, h2, hz⟩ := lsq_at hr q e
        refine ⟨a, ys, rfl, .inl ⟨h1, fun p hp => ?_⟩⟩
        have X1 := Ext.froz (wd := wd) (H := H) (o := .tup ys) hp (hr.noF hp)
        exact h _ _ X1 (hr.froz hp) _ (At.tup (SqT.of upd_same) (AtL.up X1.mono h2) hz)
    · exact h.elim
  · exact h.elim
theorem bm_min (hc : X.calm = true) : BltM X W g "min" mMin := by
  refine .b (CallR.or (call_min2 hc) (cr_min hc)) PyProof.Rows.boot_min ?_
  intro S wd σ H xs ps Q hr hp h
  unfold mMin at h
  split at h
  · cases hp with
    | cons q t =>
      cases t with
      | cons q2 t2 =>
        cases t2
        cases q
        cases q2
        exact .inl ⟨_, _, rfl, Post.now hr h _ (.int _)⟩
  · split at h
    · rename_i ds e
      split at h
      · rename_i ns e2
        split at h
        · exact h.elim
        · rename_i hne
          cases hp with
          | cons q t =>
            cases t
            obtain ⟨a, ys, rfl, h1, h2, hz⟩ := lsq_at hr q e
            have e3 := ints_at h2 e2
            subst e3
            refine .inr ⟨a, ns, rfl, h1, ?_, fun m hm hle => ?_⟩
            · cases ns with
              | nil => exact absurd rfl hne
              | cons _ _ => exact Nat.succ_pos _
            · obtain ⟨k1, k2⟩ := minI_mem hne
              have : m = minI ns := Int.le_antisymm (hle _ k1) (k2 _ hm)
              rw [this]
              exact Post.now hr h _ (.int _)
      · exact h.elim
    · exact h.elim
  · exact h.elim
theorem bm_max (hc : X.calm = true) : BltM X W g "max" mMax := by
  refine .b (CallR.or (call_max2 hc) (cr_max hc)) PyProof.Rows.boot_max ?_
  intro S wd σ H xs ps Q hr hp h
  unfold mMax at h
  split at h
  · cases hp with
    | cons q t =>
      cases t with
      | cons q2 t2 =>
        cases t2
        cases q
        cases q2
        exact .inl ⟨_, _, rfl, Post.now hr h _ (.int _)⟩
  · split at h
    · rename_i ds e
      split at h
      · rename_i ns e2
        split at h
        · exact h.elim
        · rename_i hne
          cases hp with
          | cons q t =>
            cases t
            obtain ⟨a, ys, rfl, h1, h2, hz⟩ := lsq_at hr q e
            have e3 := ints_at h2 e2
            subst e3
            refine .inr ⟨a, ns, rfl, h1, ?_, fun m hm hle => ?_⟩
            · cases ns with
              | nil => exact absurd rfl hne
              | cons _ _ => exact Nat.succ_pos _
            · obtain ⟨k1, k2⟩ := maxI_mem hne
              have : m = maxI ns := Int.le_antisymm (k2 _ hm) (hle _ k1)
              rw [this]
              exact Post.now hr h _ (.int _)
      · exact h.elim
    · exact h.elim
  · exact h.elim
theorem bm_sum (hc : X.calm = true) : BltM X W g "sum" mSum := by
  refine .b (cr_sum hc) PyProof.Rows.boot_sum ?_
  intro S wd σ H xs ps Q hr hp h
  unfold mSum at h
  split at h
  · split at h
    · rename_i ds e
      split at h
      · rename_i ns e2
        cases hp with
        | cons q t =>
          cases t
          obtain ⟨a, ys, rfl, h1, h2, hz⟩ := lsq_at hr q e
          have e3 := ints_at h2 e2
          subst e3
          exact ⟨a, ns, rfl, h1, Post.now hr h _ (.int _)⟩
      · exact h.elim
    · exact h.elim
  · exact h.elim
theorem bm_all (hc : X.calm = true) : BltM X W g "all" mAll := by
  refine .b (cr_all hc) PyProof.Rows.boot_all ?_
  intro S wd σ H xs ps Q hr hp h
  unfold mAll at h
  split at h
  · split at h
    · rename_i ds e
      split at h
      · rename_i ns e2
        cases hp with
        | cons q t =>
          cases t
          obtain ⟨a, ys, rfl, h1, h2, hz⟩ := lsq_at hr q e
          have e3 := bls_at h2 e2
          subst e3
          exact ⟨a, ns, rfl, h1, Post.now hr h _ (.bl _)⟩
      · exact h.elim
    · exact h.elim
  · exact h.elim
theorem bm_any (hc : X.calm = true) : BltM X W g "any" mAny := by
  refine .b (cr_any hc) PyProof.Rows.boot_any ?_
  intro S wd σ H xs ps Q hr hp h
  unfold mAny at h
  split at h
  · split at h
    · rename_i ds e
      split at h
      · rename_i ns e2
        cases hp with
        | cons q t =>
          cases t
          obtain ⟨a, ys, rfl, h1, h2, hz⟩ := lsq_at hr q e
          have e3 := bls_at h2 e2
          subst e3
          exact ⟨a, ns, rfl, h1, Post.now hr h _ (.bl _)⟩
      · exact h.elim
    · exact h.elim
  · exact h.elim
theorem atL_ints {K : Frag} {mg : MG} {F : Hp} : ∀ ns : List Int, AtL K mg g F (ns.map D.int) (ns.map V.int)
  | [] => .nil
  | n :: ns => .cons (.int n) (atL_ints ns)
/-- pairs with their places -/
theorem pairs_at {K : Frag} {mg : MG} {F : Hp} : ∀ {ds : List D} {xs : List V} {ps : List (Int × Int)}, AtL K mg g F ds xs → pairsD ds = some ps → ∃ bs : List (V × (Int × Int)), xs = bs.map (·.1) ∧ ps = bs.map (·.2) ∧ ∀ b ∈ bs, At K mg g F (pairD b.2) b.1
  | _, _, _, .nil, e => by cases e; exact ⟨[], rfl, rfl, fun b h => by cases h⟩
  | _, _, _, .cons (d := d) (ds := ds) (x := x) q r, e => by
    unfold pairsD at e
    split at e
    · rename_i he; cases he
    · rename_i i j ds' he
      cases he
      split at e
      · rename_i ps' h
        cases e
        obtain ⟨bs, e1, e2, e3⟩ := pairs_at r h
        refine ⟨(x, (i, j)) :: bs, by rw [e1]; rfl, by rw [e2]; rfl, fun b hb => ?_⟩
        rcases List.mem_cons.mp hb with z | z
        · rw [z]; exact q
        · exact e3 b z
      · cases e
    · cases e
end
end Mi
namespace MiT
open PySem PySem.Spec PyProof.Rows L2 PySem.W
def rSortedQ (K : PySem.W.Frag) : List V → Hp → VK → Prop := fun vs H Q => ∃ (a : Addr) (bs : List (V × (Int × Int))), vs = [.ref a] ∧ SqL K H a (bs.map (·.1)) ∧ (∀ b ∈ bs, Dp K H b.1 (.tuple [.int b.2.1, .int b.2.2])) ∧
  ∀ p, H p = none → Q (.ref p) (upd H p (.lst ((bs.mergeSort (fun x y => Mi.leP x.2 y.2)).map (·.1))))
theorem each_vals : ∀ {bs : List (V × (Int × Int))} {us : List Value}, Vals (bs.map (·.1)) us → EachIs (fun u (b : V × (Int × Int)) => RelV b.1 u) us bs
  | [], _, .nil => .nil
  | _ :: _, _, .cons r t => .cons r (each_vals t)
theorem vals_each : ∀ {bs : List (V × (Int × Int))} {us : List Value}, EachIs (fun u (b : V × (Int × Int)) => RelV b.1 u) us bs → Vals (bs.map (·.1)) us
  | _, _, .nil => .nil
  | _, _, .cons r t => .cons r (vals_each t)
theorem each_reads {X : Cx} {pins : List (Addr × Obj)} {σ : L2.St} {H : Hp} {s : Shared} (I : Inv X pins σ H s) : ∀ {bs : List (V × (Int × Int))} {us : List Value}, Vals (bs.map (·.1)) us → (∀ b ∈ bs, Dp X.K H b.1 (.tuple [.int b.2.1, .int b.2.2])) →
    EachIs (fun u (b : V × (Int × Int)) => ∃ as, Reads s.heap u (.tuple [.int b.2.1, .int b.2.2]) as) us bs
  | [], _, .nil, _ => .nil
  | b :: bs, _, .cons r t, h => .cons (Dp.reads I _ _ _ (h b List.mem_cons_self) r) (each_reads I t fun c hc => h c (List.mem_cons_of_mem _ hc))
theorem cr_sortedQ {X : Cx} (hu : X.A.units + 64 < cLine) : CallR X (.builtin "sorted") (rSortedQ X.K) := by
  intro pins s σ H xs us Q I r h
  obtain ⟨a, bs, rfl, hs, hd, q⟩ := h
  obtain ⟨u, rfl, ru⟩ := vals1 r
  cases ru
  obtain ⟨its, rv, pl, hz⟩ := I.list hs
  have ev := each_vals rv
  have er := each_reads I rv hd
  have hlen : bs.length ≤ sizeLine := by rw [List.length_map] at hz; exact hz
  refine sorted_data (enc := fun b : V × (Int × Int) => .tuple [.int b.2.1, .int b.2.2]) pl.isList ev er (AllAlike.of fun b b' => by simp [alike, alikeAll]) (Sortable.tuples fun b => ⟨_, _, rfl⟩) hlen (fun b _ => ?_) fun out ho eo => ?_
  · have : (PyData.tuple [.int b.2.1, .int b.2.2]).depth = 1 := by simp [PyData.depth, PyData.depthAll]
    omega
  · have ele : dataLe false (fun b : V × (Int × Int) => PyData.tuple [.int b.2.1, .int b.2.2]) = fun x y => Mi.leP x.2 y.2 := by
      rw [dataLe_ii (fun b : V × (Int × Int) => b.2.1) (fun b => b.2.2)]
      funext x y
      unfold Mi.leP
      by_cases h1 : x.2.1 < y.2.1
      · simp [h1]
      · by_cases h2 : x.2.1 = y.2.1
        · simp [h2]
        · simp [h1, h2]
    rw [ele] at eo
    have hv := vals_each eo
    obtain ⟨c, hc⟩ := sortedAll_at s.heap its (List.toArray out)
    refine ⟨.ref (s.heap.objs.size + 1), _, I.laid (t' := s.toks) (fun _ _ => sortedAll_old) (Nat.le_succ _) (show ObjOk X.prog X.w _ _ _ (.lst ((bs.mergeSort (fun x y => Mi.leP x.2 y.2)).map (·.1))) from ⟨?_, out, c, hv, ?_⟩), rfl, q _ (I.hok.fresh (Nat.le_succ _))⟩
    · rw [List.length_map, List.length_mergeSort]; exact hlen
    · exact hc
end MiT
namespace Mi
open PySem L2
section
variable {X : Cx} {W : WX} {g : Sig}
theorem bm_sorted (hu : X.A.units + 64 < cLine) : BltM X W g "sorted" mSorted := by
  refine .b (CallR.or cr_sortedI (MiT.cr_sortedQ hu)) PyProof.Rows.boot_sorted ?_
  intro S wd σ H xs ps Q hr hp h
  unfold mSorted at h
  split at h
  · split at h
    · rename_i ds e
      cases hp with
      | cons q t =>
        cases t
        obtain ⟨a, ys, rfl, h1, h2, hz⟩ := lsq_at hr q e
        split at h
        · rename_i ns e2
          have e3 := ints_at h2 e2
          subst e3
          refine .inl ⟨a, ns, rfl, h1, fun ns' p hperm hpw hp => ?_⟩
          obtain ⟨k1, k2⟩ := sortI_spec ns
          have e4 : ns' = sortI ns := PySem.W.ksm_same (hperm.trans k1.symm) hpw k2
          subst e4
          have X1 := Ext.froz (wd := wd) (H := H) (o := .lst ((sortI ns).map V.int)) hp (hr.noF hp)
          refine h _ _ X1 (hr.froz hp) _ (At.lst upd_same (atL_ints _) ?_)
          rw [List.length_map, k1.length_eq]
          have := h2.len
          rw [List.length_map] at this
          omega
        · split at h
          · rename_i ps' e2
            obtain ⟨bs, e3, e4, e5⟩ := pairs_at h2 e2
            subst e3 e4
            refine .inr ⟨a, bs, rfl, h1, fun b hb => ?_, fun p hp => ?_⟩
            · have z := dp_of (hr.atH (e5 b hb)) (by simp [pairD, D.py, D.pyL, PyData.canLay0, PyData.canLayAll0])
              simpa [pairD, D.py, D.pyL] using z
            · have X1 := Ext.froz (wd := wd) (H := H) (o := .lst ((bs.mergeSort (fun x y => leP x.2 y.2)).map (·.1))) hp (hr.noF hp)
              have e6 : sortP (bs.map (·.2)) = (bs.mergeSort (fun x y => leP x.2 y.2)).map (·.2) := (List.map_mergeSort (r := fun x y : V × (Int × Int) => leP x.2 y.2) (s := leP) (f := fun b : V × (Int × Int) => b.2) (l := bs) (fun _ _ _ _ => rfl)).symm
              rw [e6] at h
              refine h _ _ X1 (hr.froz hp) _ (At.lst upd_same ?_ ?_)
              · have all : ∀ (l : List (V × (Int × Int))), (∀ b ∈ l, At X.K X.mg g wd.F (pairD b.2) b.1) → AtL X.K X.mg g (wd.frz p (.lst ((bs.mergeSort (fun x y => leP x.2 y.2)).map (·.1)))).F ((l.map (·.2)).map pairD) (l.map (·.1)) := by
                  intro l
                  induction l with
                  | nil => intro _; exact .nil
                  | cons b l ih => intro hl; exact .cons (At.up X1.mono (hl b List.mem_cons_self)) (ih fun c hc => hl c (List.mem_cons_of_mem _ hc))
                exact all _ fun b hb => e5 b (List.mem_mergeSort.mp hb)
              · rw [List.length_map, List.length_map, List.length_mergeSort]
                have := h2.len
                rw [List.length_map] at this
                omega
          · exact h.elim
    · exact h.elim
  · exact h.elim
end
end Mi

/-! Mi 9: subscripts, methods of lists, isinstance -/
namespace Mi
open PySem L2

/-! ### xs[i] -/
def mIx (p q : R) (S : Sto) : Res R := match p.seq S, q with
  | some ds, .v (.int i) => match atI ds i with | some d => .ok (.v d) S | none => .bad
  | _, _ => .bad
section
variable {X : Cx} {W : WX} {xc : Option (Addr × Value × Option Addr)} {g : Sig} {pos p : Pos} {e a b o i : Expr} {fa fb fe fo fi : EM}
theorem atI_at {K : Frag} {mg : MG} {F : Hp} {ds : List D} {xs : List V} {i : Int} {d : D} (h : AtL K mg g F ds xs) (e : atI ds i = some d) : ∃ x, atI xs i = some x ∧ At K mg g F d x := by
  unfold atI at e ⊢
  rw [← h.len]
  cases q : ixN ds.length i with
  | none => rw [q] at e; cases e
  | some j =>
    rw [q] at e
    exact h.get e
theorem je_ix (ha : JE X W xc g a fa) (hb : JE X W xc g b fb) (hs : PlainIx b := by intro _ _; rfl) : JE X W xc g (.Subscript a b pos) (eOp mIx fa fb) := by
  refine je_op2 (fun p q => pe_ix ix_seq p q hs) ?_ ha hb
  intro S wd σ H x y p q Q hr hp hq h
  unfold mIx at h
  split at h
  · split at h
    · rename_i ds i e1 _ d e2
      cases hq
      obtain ⟨c, xs, rfl, h1, h2, _⟩ := seq_at hr hp e1
      obtain ⟨v, k1, k2⟩ := atI_at h2 e2
      rcases h1 with h1 | h1
      · exact .inl ⟨c, xs, _, v, rfl, rfl, h1, k1, Post.now hr h _ k2⟩
      · exact .inr (.inl ⟨c, xs, _, v, rfl, rfl, h1, k1, Post.now hr h _ k2⟩)
    · exact h.elim
  · exact h.elim

/-! ### slices -/
abbrev OM := Env → Sto → Res (Option Int)
def RnO (X : Cx) (e : Option Expr) : TO := fun σ H Q => ∀ pins s, Inv X pins σ H s → wpAny (model X.prog X.w) X.A (evalPart e X.env) (fun u s' => ∃ o H', Inv X pins σ H' s' ∧ PySem.IsPart u o ∧ Q o H') X.xe s
theorem po_rn {e : Option Expr} : PO X e (RnO X e) := ⟨fun pins s σ H Q I h => h pins s I⟩
def JO (X : Cx) (W : WX) (xc : Option (Addr × Value × Option Addr)) (g : Sig) (e : Option Expr) (f : OM) : Prop :=
  ∀ (env : Env) (S : Sto) (wd : Wd) (σ : L2.St) (H : Hp) (Q : Option Int → Hp → Prop), wd.xc = xc → EnvAt X.K X.mg g wd env σ → Rel X.K X.mg g wd S H →
    Post X.K X.mg g W σ wd H (fun o _ _ H' => Q o H') (f env S) → RnO X e σ H Q
def oNone : OM := fun _ S => .ok none S
def oSome (fe : EM) : OM := fun env S => (fe env S).bind fun r S1 => match r with | .v (.int i) => .ok (some i) S1 | _ => .bad
theorem jo_none : JO X W xc g none oNone := by
  intro env S wd σ H Q hx he hl hp pins s I
  exact (po_none : PO X none tNoPart).run pins s σ H Q I (Post.now hl hp)
theorem jo_some (ha : JE X W xc g e fe) : JO X W xc g (some e) (oSome fe) := by
  intro env S wd σ H Q hx he hl hp pins s I
  refine (po_some pe_rn : PO X (some e) (tPart (Rn X e))).run pins s σ H Q I ?_
  refine ha env S wd σ H _ hx he hl (Post.imp (fun r S1 wd1 H1 x1 r1 h1 v hv => ?_) (Post.bind hp))
  split at h1
  · cases hv
    exact ⟨_, rfl, Post.now r1 h1⟩
  · exact h1.elim
def cutD (ds : List D) (lo hi : Option Int) : List D := (ds.drop (HT.sIx ds.length 0 lo)).take (HT.sIx ds.length ds.length hi - HT.sIx ds.length 0 lo)
def mSl (r : R) (lo hi : Option Int) (S : Sto) : Res R := match r with
  | .v (.tup ds) => .ok (.v (.tup (cutD ds lo hi))) S
  | r => match r.lsq S with | some ds => .ok (.v (.lst (cutD ds lo hi))) S | none => .bad
def mSlM (r : R) (lo hi : Option Int) (S : Sto) : Res R := match r.lsq S with | some ds => .ok (.l S.length) (S ++ [.lst (cutD ds lo hi)]) | none => .bad
def eSl (sl : R → Option Int → Option Int → Sto → Res R) (fe : EM) (lo hi : OM) : EM := fun env S => (fe env S).bind fun r S1 => (lo env S1).bind fun l S2 => (hi env S2).bind fun u S3 => sl r l u S3
theorem cut_at {K : Frag} {mg : MG} {F : Hp} {ds : List D} {xs : List V} (h : AtL K mg g F ds xs) (lo hi : Option Int) : AtL K mg g F (cutD ds lo hi) (cutV xs lo hi) := by
  unfold cutD cutV
  rw [h.len]
  exact (h.drop _).take _
theorem cutD_len (ds : List D) (lo hi : Option Int) : (cutD ds lo hi).length ≤ ds.length := by
  unfold cutD
  rw [List.length_take, List.length_drop]
  omega
def rSlM (K : Frag) : V → Option Int → Option Int → Hp → VK → Prop := fun x lo hi H Q => rSlL K x lo hi H Q ∨ rSlA K x lo hi H Q
theorem sl_M : SlR X (rSlM X.K) := SlR.or sl_list sl_tupA
/-- the slice's rule with its meaning -/
def SlM (X : Cx) (W : WX) (g : Sig) (sl : R → Option Int → Option Int → Sto → Res R) : Prop :=
  ∀ (S : Sto) (wd : Wd) (σ : L2.St) (H : Hp) (x : V) (lo hi : Option Int) (p : R) (Q : VK), Rel X.K X.mg g wd S H → RAt X.K X.mg g wd p x →
    Post X.K X.mg g W σ wd H (fun r _ wd' H' => ∀ v, RAt X.K X.mg g wd' r v → Q v H') (sl p lo hi S) → rSlM X.K x lo hi H Q
theorem slm_c : SlM X W g mSl := by
  intro S wd σ H x lo hi p Q hr hp h
  unfold mSl at h
  split at h
  · rename_i ds
    cases hp with
    | tup q r z =>
      refine .inr ⟨_, _, rfl, SqT.up hr.sub q, fun hw => ?_, fun hw p hp => ?_⟩
      · have e : cutD ds lo hi = ds := by
          unfold cutD
          rw [r.len, hw.1, hw.2, List.drop_zero, Nat.sub_zero, ← r.len]
          exact List.take_length
        rw [e] at h
        exact Post.now hr h _ (.tup q r z)
      · rename_i xs
        have X1 := Ext.froz (wd := wd) (H := H) (o := .tup (cutV xs lo hi)) hp (hr.noF hp)
        exact h _ _ X1 (hr.froz hp) _ (At.tup (SqT.of upd_same) (AtL.up X1.mono (cut_at r lo hi)) (Nat.le_trans (cutD_len _ _ _) z))
  · split at h
    · rename_i ds e
      obtain ⟨c, xs, rfl, h1, h2, hz⟩ := lsq_at hr hp e
      refine .inl ⟨c, xs, rfl, h1, fun p hp => ?_⟩
      have X1 := Ext.froz (wd := wd) (H := H) (o := .lst (cutV xs lo hi)) hp (hr.noF hp)
      exact h _ _ X1 (hr.froz hp) _ (At.lst upd_same (AtL.up X1.mono (cut_at h2 lo hi)) (Nat.le_trans (cutD_len _ _ _) hz))
    · exact h.elim
theorem slm_m : SlM X W g mSlM := by
  intro S wd σ H x lo hi p Q hr hp h
  unfold mSlM at h
  split at h
  · rename_i ds e
    obtain ⟨c, xs, rfl, h1, h2, hz⟩ := lsq_at hr hp e
    refine .inl ⟨c, xs, rfl, h1, fun p hp => ?_⟩
    exact h (wd.add p) _ (Ext.add hp) (hr.add hp (cellAt_new hr hp (cut_at h2 lo hi) (Nat.le_trans (cutD_len _ _ _) hz))) _ (rat_new hr)
  · exact h.elim
theorem je_sl {lo hi : Option Expr} {fl fh : OM} {p2 : Pos} {sl : R → Option Int → Option Int → Sto → Res R} (hsl : SlM X W g sl) (ha : JE X W xc g e fe) (hl : JO X W xc g lo fl) (hh : JO X W xc g hi fh) : JE X W xc g (.Subscript e (.Slice lo hi none p2) pos) (eSl sl fe fl fh) := by
  intro env S wd σ H Q hx he hr hp
  refine (pe_slice sl_M pe_rn po_rn po_rn).rn ?_
  refine ha env S wd σ H _ hx he hr (Post.imp (fun r S1 wd1 H1 x1 r1 h1 v hv => ?_) (Post.bind hp))
  refine hl env S1 wd1 σ H1 _ (x1.xc.trans hx) (he.up x1) r1 (Post.imp (fun l S2 wd2 H2 x2 r2 h2 => ?_) (Post.bind h1))
  refine hh env S2 wd2 σ H2 _ ((x1.trans x2).xc.trans hx) (he.up (x1.trans x2)) r2 (Post.imp (fun u S3 wd3 H3 x3 r3 h3 => ?_) (Post.bind h2))
  exact hsl S3 wd3 σ H3 v l u r Q r3 (RAt.up (x2.trans x3) hv) h3

/-! ### methods of lists -/
def DMt (X : Cx) (W : WX) (g : Sig) (r : V → List V → Hp → VK → Prop) (op : R → List R → Sto → Res R) : Prop :=
  ∀ (S : Sto) (wd : Wd) (σ : L2.St) (H : Hp) (x : V) (xs : List V) (p : R) (ps : List R) (Q : VK), Rel X.K X.mg g wd S H → RAt X.K X.mg g wd p x → RAtL X.K X.mg g wd ps xs →
    Post X.K X.mg g W σ wd H (fun r _ wd' H' => ∀ v, RAt X.K X.mg g wd' r v → Q v H') (op p ps S) → r x xs H Q
def eBm (op : R → List R → Sto → Res R) (fo : EM) (fa : AM) : EM := fun env S => (fo env S).bind fun r S1 => match r.lsq S1 with
  | some _ => (fa env S1).bind fun rs S2 => op r rs S2
  | none => .bad
theorem je_bm {es : List Expr} {fr : AM} {name : Str} {apos cpos : Pos} {id : String} {r : V → List V → Hp → VK → Prop} {op : R → List R → Sto → Res R} (slot : Slot "list" name id) (hty : typeOf (.builtin id) = pure (.type "method_descriptor")) (hm : MtR X id r) (hd : DMt X W g r op)
    (ho : JE X W xc g o fo) (ha : JA X W xc g (e :: es) fr) (hbase : attributeBase o name X.env (eval o X.env) = eval o X.env := by rfl) (hline : (apos.endLine == cpos.line) = true := by rfl)
    (hfew : ((backTo cpos (starEach (e :: es) X.env)).all (fun x => !x.1) && (backToKw cpos (keywordEach [] X.env)).all (fun x => x.1.isSome)
      && decide ((e :: es).length + ([] : List Keyword).length + (if ([] : List Keyword).isEmpty then 0 else 1) < 30)) = true := by rfl) (he : starEach (e :: es) X.env = (false, eval e X.env) :: starEach es X.env := by rfl) (hpl : (backTo cpos (starEach es X.env)).any (·.1) = false := by rfl) :
    JE X W xc g (.Call (.Attribute o name apos) (e :: es) [] cpos) (eBm op fo fr) := by
  intro env S wd σ H Q hx hen hr hp
  refine (pe_bm (apos := apos) (cpos := cpos) PySem.F.plainAttrs_list slot hty hm pe_rn pa_rn hbase hfew hline he hpl).rn ?_
  refine ho env S wd σ H _ hx hen hr (Post.imp (fun r S1 wd1 H1 x1 r1 h1 v hv => ?_) (Post.bind hp))
  split at h1
  · rename_i ds el
    obtain ⟨c, xs, rfl, k1, k2, _⟩ := lsq_at r1 hv el
    refine ⟨.inl ⟨rfl, xs, k1⟩, ?_⟩
    refine ha env S1 wd1 σ H1 _ (x1.xc.trans hx) (hen.up x1) r1 (Post.imp (fun rs S2 wd2 H2 x2 r2 h2 vs hvs => ?_) (Post.bind h1))
    exact hd S2 wd2 σ H2 _ vs _ rs Q r2 (RAt.up x2 hv) hvs h2
  · exact h1.elim
theorem je_bm0 {name : Str} {apos cpos : Pos} {id : String} {r : V → List V → Hp → VK → Prop} {op : R → List R → Sto → Res R} (slot : Slot "list" name id) (hty : typeOf (.builtin id) = pure (.type "method_descriptor")) (hm : MtR X id r) (hd : DMt X W g r op)
    (ho : JE X W xc g o fo) (hbase : attributeBase o name X.env (eval o X.env) = eval o X.env := by rfl) (hline : (apos.endLine == cpos.line) = true := by rfl) :
    JE X W xc g (.Call (.Attribute o name apos) [] [] cpos) (eBm op fo aNil) := by
  intro env S wd σ H Q hx hen hr hp
  refine (pe_bm0 (apos := apos) (cpos := cpos) PySem.F.plainAttrs_list slot hty hm pe_rn hbase hline).rn ?_
  refine ho env S wd σ H _ hx hen hr (Post.imp (fun r S1 wd1 H1 x1 r1 h1 v hv => ?_) (Post.bind hp))
  split at h1
  · rename_i ds el
    obtain ⟨c, xs, rfl, k1, k2, _⟩ := lsq_at r1 hv el
    refine ⟨.inl ⟨rfl, xs, k1⟩, ?_⟩
    exact hd S1 wd1 σ H1 _ [] _ [] Q r1 hv .nil h1
  · exact h1.elim
def mApp (p : R) (ps : List R) (S : Sto) : Res R := match p, ps with
  | .l k, [.v d] => match S[k]? with
    | some (.lst ds) => if ds.length < sizeLine then .ok (.v .non) (S.set k (.lst (ds ++ [d]))) else .bad
    | _ => .bad
  | _, _ => .bad
def mClr (p : R) (ps : List R) (S : Sto) : Res R := match p, ps with
  | .l k, [] => match S[k]? with
    | some (.lst _) => .ok (.v .non) (S.set k (.lst []))
    | _ => .bad
  | _, _ => .bad
def mCnt (p : R) (ps : List R) (S : Sto) : Res R := match p.lsq S, ps with
  | some ds, [.v (.int k)] => match intsD ds with | some ns => .ok (.v (.int (ns.count k : Nat))) S | none => .bad
  | _, _ => .bad
theorem cellAt_chg {K : Frag} {mg : MG} {wd : Wd} {H : Hp} {c : Addr} {ds : List D} {xs : List V} (hF : wd.F c = none) (q : AtL K mg g wd.F ds xs) (hz : ds.length ≤ sizeLine) : CellAt K mg g wd (upd H c (.lst xs)) c (.lst ds) :=
  ⟨hF, hz, xs, upd_same, q⟩
theorem dm_app : DMt X W g rAppend mApp := by
  intro S wd σ H x xs p ps Q hr hp hps h
  unfold mApp at h
  split at h
  · split at h
    · split at h
      · rename_i hk hz
        obtain ⟨c, hc, rfl⟩ := hp
        obtain ⟨hF, _, ys, h1, h2⟩ := hr.cell _ c _ hc hk
        cases hps with
        | cons q t =>
          cases t
          refine ⟨c, ys, _, rfl, rfl, h1, by rw [← h2.len]; exact hz, ?_⟩
          exact h wd _ (Ext.chg hr hc) (hr.chg hc hk hF (cellAt_chg hF (AtL.app h2 (.cons q .nil)) (by rw [List.length_append]; exact hz))) _ .non
      · exact h.elim
    · exact h.elim
  · exact h.elim
theorem dm_clr : DMt X W g rClear mClr := by
  intro S wd σ H x xs p ps Q hr hp hps h
  unfold mClr at h
  split at h
  · split at h
    · rename_i hk
      obtain ⟨c, hc, rfl⟩ := hp
      obtain ⟨hF, _, ys, h1, h2⟩ := hr.cell _ c _ hc hk
      cases hps
      exact ⟨c, ys, rfl, rfl, h1, h wd _ (Ext.chg hr hc) (hr.chg hc hk hF (cellAt_chg hF .nil (Nat.zero_le _))) _ .non⟩
    · exact h.elim
  · exact h.elim
theorem dm_cnt : DMt X W g (rCntI X.K) mCnt := by
  intro S wd σ H x xs p ps Q hr hp hps h
  unfold mCnt at h
  split at h
  · split at h
    · rename_i ds k el _ ns e2
      obtain ⟨c, ys, rfl, k1, k2, _⟩ := lsq_at hr hp el
      have e3 := ints_at k2 e2
      subst e3
      cases hps with
      | cons q t =>
        cases t
        cases q
        exact ⟨c, ns, _, rfl, rfl, k1, Post.now hr h _ (.int _)⟩
    · exact h.elim
  · exact h.elim
variable {es : List Expr} {fr : AM} {apos cpos : Pos}
theorem je_append (ho : JE X W xc g o fo) (ha : JA X W xc g [e] fr) (hbase : attributeBase o "append" X.env (eval o X.env) = eval o X.env := by rfl) (hline : (apos.endLine == cpos.line) = true := by rfl) (hfew : ((backTo cpos (starEach [e] X.env)).all (fun x => !x.1) && (backToKw cpos (keywordEach [] X.env)).all (fun x => x.1.isSome)
      && decide ([e].length + ([] : List Keyword).length + (if ([] : List Keyword).isEmpty then 0 else 1) < 30)) = true := by rfl) (he : starEach [e] X.env = (false, eval e X.env) :: starEach [] X.env := by rfl) :
    JE X W xc g (.Call (.Attribute o "append" apos) [e] [] cpos) (eBm mApp fo fr) := je_bm PySem.F.slot_list_append PySem.F.type_list_append mt_append dm_app ho ha hbase hline hfew he
theorem je_clear (ho : JE X W xc g o fo) (hbase : attributeBase o "clear" X.env (eval o X.env) = eval o X.env := by rfl) (hline : (apos.endLine == cpos.line) = true := by rfl) :
    JE X W xc g (.Call (.Attribute o "clear" apos) [] [] cpos) (eBm mClr fo aNil) := je_bm0 PySem.F.slot_list_clear PySem.F.type_list_clear mt_clear dm_clr ho hbase hline
theorem je_count (ho : JE X W xc g o fo) (ha : JA X W xc g [e] fr) (hbase : attributeBase o "count" X.env (eval o X.env) = eval o X.env := by rfl) (hline : (apos.endLine == cpos.line) = true := by rfl) (hfew : ((backTo cpos (starEach [e] X.env)).all (fun x => !x.1) && (backToKw cpos (keywordEach [] X.env)).all (fun x => x.1.isSome)
      && decide ([e].length + ([] : List Keyword).length + (if ([] : List Keyword).isEmpty then 0 else 1) < 30)) = true := by rfl) (he : starEach [e] X.env = (false, eval e X.env) :: starEach [] X.env := by rfl) :
    JE X W xc g (.Call (.Attribute o "count" apos) [e] [] cpos) (eBm mCnt fo fr) := je_bm PySem.F.slot_list_count PySem.F.type_list_count mt_lcount dm_cnt ho ha hbase hline hfew he
/-! ### xs[i] = e -/
def mStore (p q : R) (d : D) (S : Sto) : Option Sto := match p, q with
  | .l k, .v (.int i) => match S[k]? with
    | some (.lst ds) => match ixN ds.length i with | some j => some (S.set k (.lst (ds.set j d))) | none => none
    | _ => none
  | _, _ => none
def sSub (fo fi fe : EM) : SM := fun env S => (fe env S).thn env fun r S1 => (fo env S1).thn env fun p S2 => (fi env S2).thn env fun q S3 => match r with
  | .v d => match mStore p q d S3 with | some S4 => .ok (.nx env) S4 | none => .bad
  | _ => .bad
theorem js_sub {tpos : Pos} (ho : JE X W xc g o fo) (hi : JE X W xc g i fi) (he : JE X W xc g e fe)
    (ha : ∀ v, assign (.Subscript o i tpos) X.env v = (do
      let ov ← holding [v] (eval o X.env)
      let iv ← holding [v, ov] (eval i X.env)
      standAt tpos
      holding [v, ov, iv] (setItem ov iv v)
      release [v, ov, iv] []) := by intro _; rfl)
    (hs : swapsWithSole [.Subscript o i tpos] e pos.line X.env = pure false := by rfl) (hw : swappedStores [.Subscript o i tpos] e X.env = pure none := by rfl)
    (h1 : (assignEach [.Subscript o i tpos] X.env).map (·.2) = [assign (.Subscript o i tpos) X.env] := by rfl) : JS X W xc g (.Assign [.Subscript o i tpos] e pos) (sSub fo fi fe) := by
  intro env S wd σ H E hxc hen hl hp
  refine (ps_asg (pos := pos) pe_rn (pg_sub pe_rn pe_rn set_list ha) hs hw h1).rn ?_
  refine he env S wd σ H _ hxc hen hl (Post.imp (fun r S1 wd1 H1 x1 r1 h1 v hv => ?_) (PostS.res hen hp))
  refine ho env S1 wd1 σ H1 _ (x1.xc.trans hxc) (hen.up x1) r1 (Post.imp (fun p S2 wd2 H2 x2 r2 h2 u hu => ?_) (PostS.res (hen.up x1) h1))
  refine hi env S2 wd2 σ H2 _ ((x1.trans x2).xc.trans hxc) (hen.up (x1.trans x2)) r2 (Post.imp (fun q S3 wd3 H3 x3 r3 h3 w hw => ?_) (PostS.res (hen.up (x1.trans x2)) h2))
  split at h3
  · split at h3
    · rename_i d S4 e4
      unfold mStore at e4
      split at e4
      · split at e4
        · split at e4
          · rename_i k i _ ds hk _ j hj
            cases e4
            obtain ⟨c, hc, rfl⟩ := RAt.up x3 hu
            obtain ⟨hF, hz, ys, g1, g2⟩ := r3.cell k c _ hc hk
            cases hw
            refine ⟨c, ys, _, j, rfl, rfl, g1, by rw [← g2.len]; exact hj, ?_⟩
            exact h3 wd3 σ _ (Ext.chg r3 hc) (r3.chg hc hk hF (cellAt_chg hF (AtL.set (RAt.up (x2.trans x3) hv) j g2) (by rw [List.length_set]; exact hz))) (hen.up (x1.trans (x2.trans x3)))
          · cases e4
        · cases e4
      · cases e4
    · exact h3.elim
  · exact h3.elim

/-! ### isinstance of data with a built-in class -/
def D.ty : D → Option String
  | .non => some "NoneType"
  | .bl _ => some "bool"
  | .int _ => some "int"
  | .str _ => some "str"
  | .tup _ => some "tuple"
  | .lst _ => some "list"
  | .frl _ => none
  | .obj _ _ _ => none
def R.ty (r : R) (S : Sto) : Option String := match r with
  | .v d => d.ty
  | .l k => match S[k]? with | some (.lst _) => some "list" | _ => none
  | _ => none
def mIsi (T : String) (p : R) (S : Sto) : Res R := match p.ty S with
  | some t => match kitB t T with | some b => .ok (.v (.bl b)) S | none => .bad
  | none => .bad
theorem ty_at {wd : Wd} {S : Sto} {H : Hp} {r : R} {x : V} {t : String} (hr : Rel X.K X.mg g wd S H) (h : RAt X.K X.mg g wd r x) (e : r.ty S = some t) : TyX X.K H x (.type t) := by
  unfold R.ty at e
  split at e
  · rename_i d
    cases h with
    | non => cases e; exact .base .non
    | bl b => cases e; exact .base (.bl b)
    | int i => cases e; exact .base (.int i)
    | str i => cases e; exact .base (.str i)
    | tup q r z =>
      cases e
      rcases q with (q | ⟨o, q⟩) | ⟨o, its, n, q, c, _⟩
      · exact .base (.tup (hr.sub _ _ q))
      · exact .fTuple (hr.sub _ _ q)
      · exact .kTuple q c
    | lst q r z => cases e; exact .base (.lst (hr.sub _ _ q))
    | frl q r z => cases e
    | obj a b c d => cases e
  · split at e
    · cases e
      rename_i hk
      obtain ⟨c, hc, rfl⟩ := h
      obtain ⟨_, _, xs, h1, _⟩ := hr.cell _ c _ hc hk
      exact .base (.lst h1)
    · cases e
  · cases e
theorem je_isi (T : String) {p0 p1 : Pos} {t : Str} (ha : JE X W xc g a fa) (hm : X.mg "isinstance" = none) (hmt : X.mg t = none) (hv : bootBuiltins t = some (.type T)) (hg : Gl X "isinstance" := by rfl) (hgt : Gl X t := by rfl) (hn : t ≠ "__name__" := by decide) (hdb : (t == ("__debug__" : Str)) = false := by decide)
    (he : starEach [a, .Name t p1] X.env = (false, eval a X.env) :: starEach [.Name t p1] X.env := by rfl) (he2 : starEach [.Name t p1] X.env = (false, eval (.Name t p1) X.env) :: starEach [] X.env := by rfl) (hpl : (backTo pos (starEach [.Name t p1] X.env)).any (·.1) = false := by rfl) :
    JE X W xc g (.Call (.Name "isinstance" p0) [a, .Name t p1] [] pos) (eUn (mIsi T) fa) := by
  intro env S wd σ H Q hx hen hl hp
  have hT : PE X (.Name t p1) (tC (.ty T)) := pe_bltn hgt hmt hv rfl hn hdb
  refine (pe_callB (p := p0) (pos := pos) call_isi hg hm PyProof.Rows.boot_isinstance (pa_cons pe_rn (pa_cons hT pa_nil he2) he) (by decide) (by decide) he hpl).rn ?_
  refine ha env S wd σ H _ hx hen hl (Post.imp (fun r S1 wd1 H1 x1 r1 h1 v hv => ?_) (Post.bind hp))
  unfold mIsi at h1
  split at h1
  · split at h1
    · rename_i t' e1 _ b e2
      exact ⟨v, .ty T, .type t', .type T, b, rfl, .ty T, ty_at r1 hv e1, kit_ty e2, Post.now r1 h1 _ (.bl _)⟩
    · exact h1.elim
  · exact h1.elim
/-! ### tuple(range(n)), list(range(n)) -/
def mTupRg (p : R) (S : Sto) : Res R := match p with
  | .v (.int n) => if n ≤ 16777216 ∧ 0 ≤ n then .ok (.v (.tup (rngD 0 n.toNat))) S else .bad
  | _ => .bad
def mLstRg (p : R) (S : Sto) : Res R := match p with
  | .v (.int n) => if n ≤ 16777216 ∧ 0 ≤ n then .ok (.v (.lst (rngD 0 n.toNat))) S else .bad
  | _ => .bad
theorem rng_at {K : Frag} {mg : MG} {F : Hp} {n : Int} : AtL K mg g F (rngD 0 n.toNat) (rgV 0 n) := by
  unfold rngD rgV
  have e : (n - 0).toNat = n.toNat := by rw [Int.sub_zero]
  rw [e]
  generalize List.range n.toNat = l
  induction l with
  | nil => exact .nil
  | cons k l ih => exact .cons (.int _) ih
theorem je_tupRg {p0 p1 pos1 : Pos} (hc : X.calm = true) (ha : JE X W xc g a fa) (hmt : X.mg "tuple" = none) (hmr : X.mg "range" = none) (hgt : Gl X "tuple" := by rfl) (hgr : Gl X "range" := by rfl)
    (na : starEach [a] X.env = (false, eval a X.env) :: starEach [] X.env := by rfl) (nr : starEach [.Call (.Name "range" p1) [a] [] pos1] X.env = (false, eval (.Call (.Name "range" p1) [a] [] pos1) X.env) :: starEach [] X.env := by rfl) :
    JE X W xc g (.Call (.Name "tuple" p0) [.Call (.Name "range" p1) [a] [] pos1] [] pos) (eUn mTupRg fa) := by
  intro env S wd σ H Q hx hen hl hp
  refine (pe_tupRg (p := p0) (pos := pos) hc hgt hmt (prg_1 hgr hmr pe_rn na) nr).rn ?_
  refine ha env S wd σ H _ hx hen hl (Post.imp (fun r S1 wd1 H1 x1 r1 h1 v hv => ?_) (Post.bind hp))
  unfold mTupRg at h1
  split at h1
  · split at h1
    · rename_i n hz
      cases hv
      refine ⟨n, rfl, RgOk.of_le (Int.le_refl 0) hz.1 (by decide) hz.2, fun q hq => ?_⟩
      have X1 := Ext.froz (wd := wd1) (H := H1) (o := .tup (rgV 0 n)) hq (r1.noF hq)
      refine h1 _ _ X1 (r1.froz hq) _ (At.tup (SqT.of upd_same) rng_at ?_)
      rw [rngD, List.length_map, List.length_range, sizeLine_eq]
      omega
    · exact h1.elim
  · exact h1.elim
theorem je_lstRg {p0 p1 pos1 : Pos} (hc : X.calm = true) (ha : JE X W xc g a fa) (hmt : X.mg "list" = none) (hmr : X.mg "range" = none) (hgt : Gl X "list" := by rfl) (hgr : Gl X "range" := by rfl)
    (na : starEach [a] X.env = (false, eval a X.env) :: starEach [] X.env := by rfl) (nr : starEach [.Call (.Name "range" p1) [a] [] pos1] X.env = (false, eval (.Call (.Name "range" p1) [a] [] pos1) X.env) :: starEach [] X.env := by rfl) :
    JE X W xc g (.Call (.Name "list" p0) [.Call (.Name "range" p1) [a] [] pos1] [] pos) (eUn mLstRg fa) := by
  intro env S wd σ H Q hx hen hl hp
  refine (pe_listRg (p := p0) (pos := pos) hc hgt hmt (prg_1 hgr hmr pe_rn na) nr).rn ?_
  refine ha env S wd σ H _ hx hen hl (Post.imp (fun r S1 wd1 H1 x1 r1 h1 v hv => ?_) (Post.bind hp))
  unfold mLstRg at h1
  split at h1
  · split at h1
    · rename_i n hz
      cases hv
      refine ⟨n, rfl, RgOk.of_le (Int.le_refl 0) hz.1 (by decide) hz.2, fun q hq => ?_⟩
      have X1 := Ext.froz (wd := wd1) (H := H1) (o := .lst (rgV 0 n)) hq (r1.noF hq)
      refine h1 _ _ X1 (r1.froz hq) _ (At.lst upd_same rng_at ?_)
      rw [rngD, List.length_map, List.length_range, sizeLine_eq]
      omega
    · exact h1.elim
  · exact h1.elim
end
end Mi

/-! Mi 10: defs, calls, objects -/
namespace Mi
open PySem L2

abbrev FM := List R → Sto → Res R
section
variable (K : Frag) (mg : MG) (g : Sig)
def PostF (E : XK) (Q : VK) (wd : Wd) (H : Hp) : Res R → Prop
  | .ok r S' => ∀ wd' v H', Ext wd H wd' H' → Rel K mg g wd' S' H' → RAt K mg g wd' r v → Q v H'
  | .exc c ks ds S' => ∀ wd' cls d H', Ext wd H wd' H' → Rel K mg g wd' S' H' → ExcAt K mg g wd'.F c ks ds cls d → E cls d H'
  | .bad => False
def SpM (n : Nat) (m : FM) : Sp := fun vs H Q E => vs.length = n ∧ ∃ rs S wd, RAtL K mg g wd rs vs ∧ Rel K mg g wd S H ∧ PostF K mg g E Q wd H (m rs S)
end
def finR (k : Nat) (r : R) (S : Sto) : Res R := match r with
  | .v d => .ok (.v d) (S.take k)
  | .l j => if j < k then .ok (.l j) (S.take k) else match S[j]? with
    | some (.lst ds) => .ok (.v (.lst ds)) (S.take k)
    | _ => .bad
  | .e _ _ _ => .bad
/-- a new list that is handed out stays mutable -/
def finRM (k : Nat) (r : R) (S : Sto) : Res R := match r with
  | .l j => if j < k then .bad else match S[j]? with
    | some (.lst ds) => .ok (.l k) (S.take k ++ [.lst ds])
    | _ => .bad
  | _ => .bad
def fin (fr : Nat → R → Sto → Res R) (k : Nat) : RS → Res R
  | .ok (.nx _) S => .ok (.v .non) (S.take k)
  | .ok (.rt r) S => fr k r S
  | .exc c ks ds _ S => .exc c ks ds (S.take k)
  | _ => .bad
def fnX (fr : Nat → R → Sto → Res R) (n N : Nat) (body : SM) : FM := fun rs S => if rs.length = n then fin fr S.length (body (rs.map some ++ List.replicate (N - n) none) S) else .bad
abbrev fnM := fnX finR
abbrev fnMM := fnX finRM
theorem fnX_len {fr : Nat → R → Sto → Res R} {n N : Nat} {body : SM} {rs : List R} {S : Sto} (h : rs.length ≠ n) : fnX fr n N body rs S = .bad := by
  unfold fnX
  rw [if_neg h]
section
variable {K : Frag} {mg : MG} {g : Sig} {wd wd' : Wd} {S S' : Sto} {H H' : Hp}
theorem env_start : ∀ {rs : List R} {vs : List V} (k : Nat), RAtL K mg g wd rs vs → EnvAt K mg g wd (rs.map some ++ List.replicate k none) (vs.map some ++ List.replicate k none) := by
  intro rs vs k h
  have hl := h.len
  refine ⟨by rw [List.length_append, List.length_append, List.length_map, List.length_map, List.length_replicate, List.length_replicate, hl], fun i r hi => ?_⟩
  by_cases hlt : i < rs.length
  · rw [List.getElem?_append_left (by rw [List.length_map]; exact hlt), List.getElem?_map] at hi
    rw [List.getElem?_append_left (by rw [List.length_map]; omega), List.getElem?_map]
    have get : ∀ {rs : List R} {vs : List V}, RAtL K mg g wd rs vs → ∀ (i : Nat) (r : R), rs[i]? = some r → ∃ v, vs[i]? = some v ∧ RAt K mg g wd r v := by
      intro rs vs h
      induction h with
      | nil => intro i r h; simp at h
      | cons q t ih =>
        intro i r h
        cases i with
        | zero => simp at h; subst h; exact ⟨_, rfl, q⟩
        | succ i => exact ih i r (by simpa using h)
    cases e : rs[i]? with
    | none => rw [e] at hi; cases hi
    | some r' =>
      rw [e] at hi
      cases hi
      obtain ⟨v, h1, h2⟩ := get h i r e
      exact ⟨v, by rw [h1]; rfl, h2⟩
  · rw [List.getElem?_append_right (by rw [List.length_map]; omega)] at hi
    rw [List.getElem?_replicate] at hi
    split at hi
    · cases hi
    · cases hi
theorem mu_cut (x : Ext wd H wd' H') (r : Rel K mg g wd S H) {j : Nat} {a : Addr} (h : wd'.mu[j]? = some a) (hj : S.length ≤ j) : H a = none := by
  obtain ⟨nu, e, n⟩ := x.pre
  rw [e, List.getElem?_append_right (by rw [r.len]; exact hj)] at h
  exact n a (List.mem_of_getElem? h)
theorem cut_not (r' : Rel K mg g wd' S' H') {n j : Nat} {a : Addr} (h : wd'.mu[j]? = some a) (hj : n ≤ j) : a ∉ (wd'.cut n).mu := fun hm => by
  obtain ⟨i, hi, e⟩ := List.getElem_of_mem hm
  have hi' : i < (wd'.mu.take n).length := hi
  rw [List.length_take] at hi'
  have e2 : wd'.mu[i]? = some a := by
    have : (wd'.mu.take n)[i]? = some a := (List.getElem?_eq_getElem hi).trans (congrArg some e)
    rw [List.getElem?_take_of_lt (by omega)] at this
    exact this
  have := nd_ix r'.nd e2 h
  omega
/-- what a def hands back, frozen -/
theorem finR_ok {E : XK} {Q : VK} {r : R} {v : V} (hr : Rel K mg g wd S H) (x : Ext wd H wd' H') (r' : Rel K mg g wd' S' H') (q : RAt K mg g wd' r v) (h : PostF K mg g E Q wd H (finR S.length r S')) : Q v H' := by
  unfold finR at h
  split at h
  · exact h _ v H' (x.cut hr) (r'.cut _) q
  · split at h
    · rename_i j hj
      obtain ⟨a, ha, rfl⟩ := q
      exact h _ _ H' (x.cut hr) (r'.cut _) ⟨a, by show (wd'.mu.take S.length)[j]? = some a; rw [List.getElem?_take_of_lt hj]; exact ha, rfl⟩
    · rename_i j hj
      split at h
      · rename_i ds hk
        obtain ⟨a, ha, rfl⟩ := q
        obtain ⟨hF, hz, xs, h1, h2⟩ := r'.cell _ a _ ha hk
        have hH : H a = none := mu_cut x hr ha (Nat.le_of_not_lt hj)
        have hm := cut_not (n := S.length) r' ha (Nat.le_of_not_lt hj)
        exact h ((wd'.cut S.length).frz a (.lst xs)) _ H' ((x.cut hr).frzAt hH hF) ((r'.cut _).frzAt h1 hF hm) (At.lst upd_same (AtL.up (frz_lat hF) h2) hz)
      · exact h.elim
  · exact h.elim
theorem finRM_ok {E : XK} {Q : VK} {r : R} {v : V} (hr : Rel K mg g wd S H) (x : Ext wd H wd' H') (r' : Rel K mg g wd' S' H') (q : RAt K mg g wd' r v) (h : PostF K mg g E Q wd H (finRM S.length r S')) : Q v H' := by
  unfold finRM at h
  split at h
  · split at h
    · exact h.elim
    · rename_i j hj
      split at h
      · rename_i ds hk
        obtain ⟨a, ha, rfl⟩ := q
        obtain ⟨hF, hz, xs, h1, h2⟩ := r'.cell _ a _ ha hk
        have hH : H a = none := mu_cut x hr ha (Nat.le_of_not_lt hj)
        have hm := cut_not (n := S.length) r' ha (Nat.le_of_not_lt hj)
        have hlen : S.length = (S'.take S.length).length := by
          rw [List.length_take]
          obtain ⟨nu, e, _⟩ := x.pre
          have h3 := r'.len
          rw [e, List.length_append, hr.len] at h3
          omega
        refine h ((wd'.cut S.length).add a) _ H' ((x.cut hr).addAt hH) ((r'.cut _).addAt hm ⟨hF, hz, xs, h1, h2⟩) ?_
        have := rat_new (K := K) (mg := mg) (g := g) (p := a) (r'.cut S.length)
        rw [← hlen] at this
        exact this
      · exact h.elim
  · exact h.elim
end

/-- THE RULE for a def -/
theorem fn_mi {P : Program} {w : World} {K : Frag} {mg : MG} {base : Heap} {g : Sig} {x qual : Str} {st : Stmt} {f : Addr} {fd : FuncData} {N ps : List Str} {k : Nat} {m : SM} {fr : Nat → R → Sto → Res R} (F : Fun K x qual st f fd) (S : FnScope N ps (defScope st))
    (hfr : ∀ {wd wd' : Wd} {S S' : Sto} {H H' : Hp} {E : XK} {Q : VK} {r : R} {v : V}, Rel K mg g wd S H → Ext wd H wd' H' → Rel K mg g wd' S' H' → RAt K mg g wd' r v → PostF K mg g E Q wd H (fr S.length r S') → Q v H')
    (hb : ∀ (cdv : Value) (A : Around) (outer : List PySem.Env) (s : Shared) (H : Hp) (E : XK) (xc : Option (Addr × Value × Option Addr)), Room k (A.deeper (PyProof.Rows.envOfC qual (defScope st) s.heap.objs.size f cdv)) →
      JB (cxOf (L2.CX P w) P w K mg base N qual (defScope st) f cdv A outer s H E) (fun cls d _ H' => E cls d H') xc g (defBody st) m) :
    FnOk P w K mg base (L2.CX P w) (k + 1) f fd ps (SpM K mg g ps.length (fnX fr ps.length N.length m)) := by
  refine F.okX S (fun vs H Q E h => h.1) fun cdv A outer s H vs Q E hr h => ⟨_, pss_rn, ?_⟩
  obtain ⟨hl, rs, St, wd, ha, hrel, hp⟩ := h
  have hlen : rs.length = ps.length := ha.len.trans hl
  unfold fnX at hp
  rw [if_pos hlen] at hp
  have hst : L2.start N vs = vs.map some ++ List.replicate (N.length - ps.length) none := by unfold L2.start; rw [hl]
  rw [hst]
  refine hb cdv A outer s H E wd.xc hr _ St wd _ H _ rfl (env_start _ ha) hrel ?_
  cases hm : m (rs.map some ++ List.replicate (N.length - ps.length) none) St with
  | ok fl S' =>
    rw [hm] at hp
    cases fl with
    | nx env' => exact fun wd' σ' H' x r' _ => hp _ _ H' (x.cut hrel) (r'.cut _) .non
    | bk env' => exact hp.elim
    | ct env' => exact hp.elim
    | rt r => exact fun wd' v H' x r' q => hfr hrel x r' q hp
  | exc c ks ds env' S' =>
    rw [hm] at hp
    exact fun wd' cls d σ' H' x r' _ z => hp _ cls d H' (x.cut hrel) (r'.cut _) z
  | bad => rw [hm] at hp; exact hp.elim

/-- a def of the module with its meaning -/
structure Fn (P : Program) (w : World) (K : Frag) (mg : MG) (base : Heap) (g : Sig) (x : Str) (k n : Nat) (m : FM) : Prop where
  ex : ∃ f fd ps, mg x = some (.ref f) ∧ PySem.W.keepIn K (.ref f) = true ∧ Binds K fd ps [] ∧ ps.length = n ∧ FnOk P w K mg base (L2.CX P w) k f fd ps (SpM K mg g n m)
  len : ∀ rs S, rs.length ≠ n → m rs S = .bad
/-- a method of the class c -/
structure Mth (P : Program) (w : World) (K : Frag) (mg : MG) (base : Heap) (g : Sig) (c : Nat) (x : Str) (k n : Nat) (m : FM) : Prop where
  ex : ∃ C f fd ps, mg (g.cn c) = some (.ref C) ∧ Cls K C ∧ Meth K C x f ∧ Binds K fd ps [] ∧ ps.length = n ∧ FnOk P w K mg base (L2.CX P w) k f fd ps (SpM K mg g n m)
  len : ∀ rs S, rs.length ≠ n → m rs S = .bad
/-- a class that is made -/
structure Mak (P : Program) (w : World) (K : Frag) (mg : MG) (base : Heap) (g : Sig) (c : Nat) (k n : Nat) (m : FM) : Prop where
  ex : ∃ C f fd ps, mg (g.cn c) = some (.ref C) ∧ Mk K C f ∧ Binds K fd ps [] ∧ ps.length = n ∧ FnOk P w K mg base (L2.CX P w) k f fd ps (SpM K mg g n m)
  len : ∀ rs S, rs.length ≠ n → m rs S = .bad
/-- an attribute of the class c -/
structure Fld (K : Frag) (mg : MG) (g : Sig) (c j : Nat) : Prop where
  ex : ∃ C, mg (g.cn c) = some (.ref C) ∧ Cls K C ∧ NoAttr K C (g.fn j)
  inj : ∀ i, g.fn i = g.fn j → i = j

section
variable {X : Cx} {W : WX} {xc : Option (Addr × Value × Option Addr)} {g : Sig} {pos p : Pos} {x : Str} {e o : Expr} {es : List Expr} {fr : AM} {fe fo : EM} {k n : Nat} {m : FM}
/-- the promise out of the meaning -/
theorem spm_of {wd : Wd} {S : Sto} {σ : L2.St} {H : Hp} {rs : List R} {vs : List V} {Q : VK} (hl : ∀ rs S, rs.length ≠ n → m rs S = .bad) (hr : Rel X.K X.mg g wd S H) (ha : RAtL X.K X.mg g wd rs vs)
    (hp : Post X.K X.mg g W σ wd H (fun r _ wd' H' => ∀ v, RAt X.K X.mg g wd' r v → Q v H') (m rs S)) : SpM X.K X.mg g n m vs H Q (fun cls d H' => W cls d σ H') := by
  refine ⟨?_, rs, S, wd, ha, hr, ?_⟩
  · by_cases h : rs.length = n
    · rw [← ha.len]; exact h
    · rw [hl rs S h] at hp; exact hp.elim
  · cases hm : m rs S with
    | ok r S' => rw [hm] at hp; exact fun wd' v H' x r' q => hp wd' H' x r' v q
    | exc c ks ds S' => rw [hm] at hp; exact hp
    | bad => rw [hm] at hp; exact hp.elim
theorem je_call (F : Fn X.prog X.w X.K X.mg X.base g x k n m) (hr : Room k X.A) (tk : Takes X W) (ha : JA X W xc g (e :: es) fr) (hg : Gl X x := by rfl) (hdb : (x == ("__debug__" : Str)) = false := by decide)
    (he : starEach (e :: es) X.env = (false, eval e X.env) :: starEach es X.env := by rfl) (hpl : (backTo pos (starEach es X.env)).any (·.1) = false := by rfl) : JE X W xc g (.Call (.Name x p) (e :: es) [] pos) (eApp m fr) := by
  obtain ⟨f, fd, ps, hm, hk, hb, hn, G⟩ := F.ex
  intro env S wd σ H Q hx hen hl hp
  refine (pe_callSD (p := p) (pos := pos) (E := fun σ cls d H' => W cls d σ H') G hr hg hm hk hb .nil (fun σ => passAt tk σ) pa_rn hdb he hpl).rn ?_
  refine ha env S wd σ H _ hx hen hl (Post.imp (fun rs S1 wd1 H1 x1 r1 h1 vs hv => ?_) (Post.bind hp))
  rw [List.append_nil]
  exact spm_of F.len r1 hv h1

/-! ### objects -/
/-- the class and the fields of an object -/
def R.ob (r : R) (S : Sto) : Option (Nat × List Nat × List D) := match r with
  | .v (.obj c ks ds) => some (c, ks, ds)
  | .l k => match S[k]? with | some (.ins c ks ds) => some (c, ks, ds) | _ => none
  | _ => none
theorem ob_at {K : Frag} {mg : MG} {wd : Wd} {S : Sto} {H : Hp} {r : R} {v : V} {c : Nat} {ks : List Nat} {ds : List D} (hr : Rel K mg g wd S H) (h : RAt K mg g wd r v) (e : r.ob S = some (c, ks, ds)) :
    ∃ a C dx fs, v = .ref a ∧ mg (g.cn c) = some (.ref C) ∧ H a = some (.ins C dx fs) ∧ fs.map (·.1) = ks.map g.fn ∧ AtL K mg g wd.F ds (fs.map (·.2)) := by
  unfold R.ob at e
  split at e
  · cases e
    cases h with
    | obj q1 q2 q3 q4 => exact ⟨_, _, _, _, rfl, q1, hr.sub _ _ q2, q3, q4⟩
  · split at e
    · cases e
      rename_i hk
      obtain ⟨a, ha, rfl⟩ := h
      obtain ⟨_, C, dx, fs, q1, q2, q3, q4⟩ := hr.cell _ a _ ha hk
      exact ⟨a, C, dx, fs, rfl, q1, q2, q3, q4⟩
    · cases e
  · cases e
def lookK (j : Nat) : List Nat → List D → Option D
  | k :: ks, d :: ds => if k = j then some d else lookK j ks ds
  | _, _ => none
theorem lookK_at {K : Frag} {mg : MG} {F : Hp} {j : Nat} (inj : ∀ i, g.fn i = g.fn j → i = j) : ∀ {ks : List Nat} {ds : List D} {fs : List (Str × V)} {d : D}, fs.map (·.1) = ks.map g.fn → AtL K mg g F ds (fs.map (·.2)) → lookK j ks ds = some d → ∃ v, fs.lookup (g.fn j) = some v ∧ At K mg g F d v
  | [], _, _, _, _, _, h => by simp [lookK] at h
  | _ :: _, [], _, _, _, _, h => by simp [lookK] at h
  | k :: ks, d :: ds, [], _, e, _, _ => by simp at e
  | k :: ks, d :: ds, (y, v) :: fs, d', e, q, h => by
    rw [List.map_cons, List.map_cons] at e
    injection e with e1 e2
    rw [List.map_cons] at q
    cases q with
    | cons q1 q2 =>
      unfold lookK at h
      split at h
      · rename_i hk
        cases h
        subst hk
        refine ⟨v, ?_, q1⟩
        have : y = g.fn k := e1
        subst this
        simp [List.lookup]
      · rename_i hk
        obtain ⟨v', h1, h2⟩ := lookK_at inj e2 q2 h
        refine ⟨v', ?_, h2⟩
        have hne : (g.fn j == y) = false := by
          have : y = g.fn k := e1
          subst this
          exact beq_eq_false_iff_ne.mpr fun z => hk (inj k z.symm)
        simp [List.lookup, hne]
        exact h1
def mFld (T : Nat → Bool) (j : Nat) (p : R) (S : Sto) : Res R := match p.ob S with
  | some (c, ks, ds) => if T c = true then match lookK j ks ds with | some d => .ok (.v d) S | none => .bad else .bad
  | none => .bad
theorem je_fld (T : Nat → Bool) (j : Nat) {f : Str} (hT : ∀ c, T c = true → Fld X.K X.mg g c j) (ho : JE X W xc g o fo) (hf : g.fn j = f := by rfl) (hb : attributeBase o f X.env (eval o X.env) = eval o X.env := by rfl) : JE X W xc g (.Attribute o f pos) (eUn (mFld T j) fo) := by
  subst hf
  intro env S wd σ H Q hx hen hl hp
  refine (pe_fld (pos := pos) pe_rn hb).rn ?_
  refine ho env S wd σ H _ hx hen hl (Post.imp (fun r S1 wd1 H1 x1 r1 h1 v hv => ?_) (Post.bind hp))
  unfold mFld at h1
  split at h1
  · rename_i c ks ds e
    split at h1
    · rename_i hc
      split at h1
      · rename_i d ed
        obtain ⟨a, C, dx, fs, rfl, q1, q2, q3, q4⟩ := ob_at r1 hv e
        obtain ⟨C', k1, k2, k3⟩ := (hT c hc).ex
        rw [q1] at k1
        cases k1
        obtain ⟨v, z1, z2⟩ := lookK_at (hT c hc).inj q3 q4 ed
        exact ⟨a, C, dx, fs, v, rfl, q2, k2, k3, z1, Post.now r1 h1 _ z2⟩
      · exact h1.elim
    · exact h1.elim
  · exact h1.elim
/-- self.f = e -/
def putK (j : Nat) (d : D) : List Nat → List D → List Nat × List D
  | k :: ks, e :: ds => if k = j then (k :: ks, d :: ds) else ((k :: (putK j d ks ds).1), (e :: (putK j d ks ds).2))
  | _, _ => ([j], [d])
theorem putK_at {K : Frag} {mg : MG} {F : Hp} {j : Nat} {d : D} {v : V} (inj : ∀ i, g.fn i = g.fn j → i = j) (hv : At K mg g F d v) : ∀ {ks : List Nat} {ds : List D} {fs : List (Str × V)}, fs.map (·.1) = ks.map g.fn → AtL K mg g F ds (fs.map (·.2)) →
    (putF (g.fn j) v fs).map (·.1) = (putK j d ks ds).1.map g.fn ∧ AtL K mg g F (putK j d ks ds).2 ((putF (g.fn j) v fs).map (·.2))
  | [], ds, [], _, q => by
    cases q
    exact ⟨rfl, .cons hv .nil⟩
  | [], _, _ :: _, e, _ => by simp at e
  | _ :: _, _, [], e, _ => by simp at e
  | k :: ks, [], _ :: _, _, q => by simp at q; cases q
  | k :: ks, d' :: ds, (y, u) :: fs, e, q => by
    rw [List.map_cons, List.map_cons] at e
    injection e with e1 e2
    rw [List.map_cons] at q
    cases q with
    | cons q1 q2 =>
      have hy : y = g.fn k := e1
      subst hy
      unfold putK putF
      by_cases hk : k = j
      · subst hk
        rw [if_pos rfl, if_pos rfl]
        exact ⟨by rw [List.map_cons, List.map_cons, e2], .cons hv q2⟩
      · rw [if_neg hk, if_neg (fun z => hk (inj k z))]
        obtain ⟨h1, h2⟩ := putK_at inj hv e2 q2
        exact ⟨by rw [List.map_cons, List.map_cons, h1], .cons q1 h2⟩
def mPut (T : Nat → Bool) (j : Nat) (p : R) (d : D) (S : Sto) : Option Sto := match p with
  | .l k => match S[k]? with
    | some (.ins c ks ds) => if T c = true ∧ ks.length < 1000 then some (S.set k (.ins c (putK j d ks ds).1 (putK j d ks ds).2)) else none
    | _ => none
  | _ => none
def sFldM (T : Nat → Bool) (j : Nat) (fo fe : EM) : SM := fun env S => (fe env S).thn env fun r S1 => (fo env S1).thn env fun p S2 => match r with
  | .v d => match mPut T j p d S2 with | some S3 => .ok (.nx env) S3 | none => .bad
  | _ => .bad
theorem js_fld (T : Nat → Bool) (j : Nat) {f : Str} {tpos : Pos} (hT : ∀ c, T c = true → Fld X.K X.mg g c j) (ho : JE X W xc g o fo) (he : JE X W xc g e fe) (hf : g.fn j = f := by rfl) (hs : swapsWith e (some (.Attribute o f tpos)) pos.line X.env = pure false := by rfl) :
    JS X W xc g (.Assign [.Attribute o f tpos] e pos) (sFldM T j fo fe) := by
  subst hf
  intro env S wd σ H E hxc hen hl hp
  refine (ps_fld (pos := pos) (pos' := tpos) pe_rn pe_rn hs).rn ?_
  refine he env S wd σ H _ hxc hen hl (Post.imp (fun r S1 wd1 H1 x1 r1 h1 v hv => ?_) (PostS.res hen hp))
  refine ho env S1 wd1 σ H1 _ (x1.xc.trans hxc) (hen.up x1) r1 (Post.imp (fun p S2 wd2 H2 x2 r2 h2 u hu => ?_) (PostS.res (hen.up x1) h1))
  split at h2
  · split at h2
    · rename_i S3 e3
      unfold mPut at e3
      split at e3
      · split at e3
        · split at e3
          · rename_i d _ _ k _ c ks ds hk hc
            cases e3
            obtain ⟨a, ha, rfl⟩ := hu
            obtain ⟨hF, C, dx, fs, q1, q2, q3, q4⟩ := r2.cell k a _ ha hk
            obtain ⟨C', k1, k2, k3⟩ := (hT c hc.1).ex
            rw [q1] at k1
            cases k1
            have hv2 : At X.K X.mg g wd2.F d v := RAt.up x2 hv
            obtain ⟨z1, z2⟩ := putK_at (hT c hc.1).inj hv2 q3 q4
            have hlen : fs.length < 1000 := by
              have := congrArg List.length q3
              rw [List.length_map, List.length_map] at this
              omega
            refine ⟨a, C, dx, fs, rfl, q2, k2, k3, hlen, ?_⟩
            exact h2 wd2 σ _ (Ext.chg r2 ha) (r2.chg ha hk hF ⟨hF, C, dx, _, q1, upd_same, z1, z2⟩) (hen.up (x1.trans x2))
          · cases e3
        · cases e3
      · cases e3
    · exact h2.elim
  · exact h2.elim

/-- o.m(..) -/
def eMth (disp : Nat → Option FM) (fo : EM) (fr : AM) : EM := fun env S => (fo env S).bind fun r S1 => match r.ob S1 with
  | some (c, _, _) => match disp c with
    | some m => (fr env S1).bind fun rs S2 => m (r :: rs) S2
    | none => .bad
  | none => .bad
theorem je_mth {apos : Pos} {pl : Sem Bool} {disp : Nat → Option FM} (hd : ∀ c m, disp c = some m → Mth X.prog X.w X.K X.mg X.base g c x k n m) (hx : ∀ j, g.fn j ≠ x) (hr : Room k X.A) (tk : Takes X W) (ho : JE X W xc g o fo) (ha : JA X W xc g (e :: es) fr)
    (hst : starEach (e :: es) X.env = (false, eval e X.env) :: starEach es X.env := by rfl) (hpl : (backTo pos (starEach es X.env)).any (·.1) = false := by rfl)
    (ht : eval (.Call (.Attribute o x apos) (e :: es) [] pos) X.env = (do
      let ov ← eval o X.env
      standAt apos.atName
      let (f, first) ← holding [ov] (getMethod ov x pl)
      callWith pos f first (backTo pos (starEach (e :: es) X.env)) (backToKw pos (keywordEach [] X.env))) := by rfl) : JE X W xc g (.Call (.Attribute o x apos) (e :: es) [] pos) (eMth disp fo fr) := by
  intro env S wd σ H Q hxc hen hl hp pins s I
  have main : Rn X o σ H fun v H1 => ∃ a C dx fs f fd ps m rs0, v = .ref a ∧ H1 a = some (.ins C dx fs) ∧ Cls X.K C ∧ Meth X.K C x f ∧ fs.lookup x = none ∧ Binds X.K fd ps [] ∧ FnOk X.prog X.w X.K X.mg X.base (L2.CX X.prog X.w) k f fd ps (SpM X.K X.mg g n m) ∧
      RnA X (e :: es) σ H1 fun vs H2 => SpM X.K X.mg g n m (.ref a :: vs) H2 Q (fun cls d H' => W cls d σ H') ∧ rs0 = (0 : Nat) := by
    refine ho env S wd σ H _ hxc hen hl (Post.imp (fun r S1 wd1 H1 x1 r1 h1 v hv => ?_) (Post.bind hp))
    split at h1
    · rename_i c ks ds e
      split at h1
      · rename_i m em
        obtain ⟨a, C, dx, fs, rfl, q1, q2, q3, q4⟩ := ob_at r1 hv e
        obtain ⟨C', f, fd, ps, k1, k2, k3, k4, k5, k6⟩ := (hd c m em).ex
        rw [q1] at k1
        cases k1
        have hno : fs.lookup x = none := by
          have all : ∀ (l : List (Str × V)) (ks : List Nat), l.map (·.1) = ks.map g.fn → l.lookup x = none := by
            intro l
            induction l with
            | nil => intro _ _; rfl
            | cons y l ih =>
              intro ks e
              cases ks with
              | nil => simp at e
              | cons k ks =>
                rw [List.map_cons, List.map_cons] at e
                injection e with e1 e2
                have hne : (x == y.1) = false := beq_eq_false_iff_ne.mpr fun z => hx k (by rw [← e1, z])
                have hl : List.lookup x (y :: l) = List.lookup x l := by
                  obtain ⟨y1, y2⟩ := y
                  rw [List.lookup_cons, hne]
                rw [hl]
                exact ih ks e2
          exact all fs ks q3
        refine ⟨a, C, dx, fs, f, fd, ps, m, 0, rfl, q2, k2, k3, hno, k4, k6, ?_⟩
        refine ha env S1 wd1 σ H1 _ (x1.xc.trans hxc) (hen.up x1) r1 (Post.imp (fun rs S2 wd2 H2 x2 r2 h2 vs hvs => ?_) (Post.bind h1))
        exact ⟨spm_of (hd c m em).len r2 (.cons (RAt.up x2 hv) hvs) h2, rfl⟩
      · exact h1.elim
    · exact h1.elim
  refine PySem.W.methodCall_KW (pl := pl) (thn (main pins s I) fun u s1 ⟨v, H1, I1, rx, a, C, dx, fs, f, fd, ps, m, _, ev, ea, c, hm, lno, hb, G, q⟩ => ?_) ht
  subst ev
  obtain rfl : u = Value.ref a := rx
  refine getmeth_ok I1 ea c hm lno ?_
  refine PySem.W.callWith_K (first := [.ref a]) (h₀ := X.base) I.ok.mod.kin hm.kp (thn (q pos pins s1 I1) fun us s2 ⟨vs, H2, I2, r, q2, _⟩ => ⟨I2.kIn, ?_⟩) hst hpl
  exact run_fnSD (us := .ref a :: us) (vs := .ref a :: vs) (E := fun σ cls d H' => W cls d σ H') G hr hb .nil (passAt tk σ) I2 (.cons rfl r) (by rw [List.append_nil]; exact q2)

/-- C(..) -/
def mMak (c : Nat) (m : FM) : FM := fun rs S => match m (.l S.length :: rs) (S ++ [.ins c [] []]) with
  | .ok (.v .non) S2 => match S2[S.length]? with
    | some (.ins c' ks ds) => .ok (.v (.obj c' ks ds)) (S2.take S.length)
    | _ => .bad
  | .exc e ks ds S2 => .exc e ks ds (S2.take S.length)
  | _ => .bad
theorem run_makeS {CX : CXT} {C f : Addr} {fd : FuncData} {ps : List Str} {sp : Sp} {E : XK} {pins : List (Addr × Obj)} {σ : L2.St} {H : Hp} {s : Shared} {Q : VK} {us : List Value} {vs : List V} (M : Mk X.K C f) (F : FnOk X.prog X.w X.K X.mg X.base CX k f fd ps sp) (hr : Room (k + 1) X.A) (hb : Binds X.K fd ps [])
    (hx : PassesAt CX X σ E) (I : Inv X pins σ H s) (r : Vals vs us)
    (h : ∀ x dx, H x = none → H dx = none → dx ≠ x → sp (.ref x :: vs) (upd (upd H dx (.own x)) x (.ins C dx [])) (fun v H2 => v = .non ∧ Q (.ref x) H2) E) :
    wpAny (model X.prog X.w) X.A (call (.ref C) us) (EP X pins σ Q) X.xe s := by
  have hq := h (s.heap.objs.size + 1) s.heap.objs.size (I.hok.fresh (Nat.le_succ _)) (I.hok.fresh (Nat.le_refl _)) (Nat.ne_of_lt (Nat.lt_succ_self _))
  have I2 := Inv.made (C := C) I
  have r2 : Vals (V.ref (s.heap.objs.size + 1) :: vs) (Value.ref (s.heap.objs.size + 1) :: us) := .cons rfl r
  have hl : (Value.ref (s.heap.objs.size + 1) :: us ++ []).length = ps.length := by
    have e := r2.length
    rw [F.len _ _ _ _ hq] at e
    rw [List.append_nil]
    exact e.symm
  have hbb := hb _ (Value.ref (s.heap.objs.size + 1) :: us) I2.kIn hl
  rw [List.append_nil] at hbb
  refine wpAny_call (make_map (f := f) I.kIn M.makes M.init (beq_iff_eq.mp M.fn) (codeAny_mono (F.run _ X.stack _ _ ⟨Value.ref (s.heap.objs.size + 1) :: us, []⟩ (Value.ref (s.heap.objs.size + 1) :: us) _ _ E (hr.make C us [])
    (I2.env0.make C us []) hbb r2 hq) fun r s' hq' => ?_))
  cases r with
  | error e => exact hx pins _ _ e s' I2 hq'
  | ok fl =>
    cases fl with
    | ret u =>
      obtain ⟨v, H', I3, rv, ev, q3⟩ := I2.after hq'
      subst ev
      exact ⟨rv, ⟨V.ref (s.heap.objs.size + 1), H', I3, rfl, q3⟩⟩
    | next => exact False.elim hq'
    | brk => exact False.elim hq'
    | cont => exact False.elim hq'
theorem je_mak {c : Nat} (M : Mak X.prog X.w X.K X.mg X.base g c k n m) (hr : Room (k + 1) X.A) (tk : Takes X W) (ha : JA X W xc g (e :: es) fr) (hc : g.cn c = x := by rfl) (hg : Gl X x := by rfl) (hdb : (x == ("__debug__" : Str)) = false := by decide)
    (he : starEach (e :: es) X.env = (false, eval e X.env) :: starEach es X.env := by rfl) (hpl : (backTo pos (starEach es X.env)).any (·.1) = false := by rfl) : JE X W xc g (.Call (.Name x p) (e :: es) [] pos) (eApp (mMak c m) fr) := by
  subst hc
  obtain ⟨C, f, fd, ps, hm, hM, hb, hn, G⟩ := M.ex
  intro env S wd σ H Q hxc hen hl hp pins s I
  refine wpAny_Call_Name_kw (ld_glob I hg hm ?_ hdb)
  have main := ha env S wd σ H (fun vs H1 => ∀ x dx, H1 x = none → H1 dx = none → dx ≠ x → SpM X.K X.mg g n m (.ref x :: vs) (upd (upd H1 dx (.own x)) x (.ins C dx [])) (fun v H2 => v = .non ∧ Q (.ref x) H2) (fun cls d H' => W cls d σ H')) hxc hen hl
    (Post.imp (fun rs S1 wd1 H1 x1 r1 h1 vs hvs x dx hx hdx hne => ?_) (Post.bind hp))
  · refine PySem.W.callWith_K (h₀ := X.base) I.ok.mod.kin hM.kp (thn (main pos pins s I) fun us s1 ⟨vs, H1, I1, r, q⟩ => ⟨I1.kIn, ?_⟩) he hpl
    exact run_makeS hM G hr hb (passAt tk σ) I1 r q
  · -- the new instance is a cell
    have hdx' : upd H1 dx (.own x) x = none := by rw [upd_ne (Ne.symm hne)]; exact hx
    have r2 : Rel X.K X.mg g wd1 S1 (upd H1 dx (.own x)) := r1.fresh hdx
    have e2 : Ext wd1 H1 wd1 (upd H1 dx (.own x)) := Ext.fresh hdx
    have e3 : Ext wd1 (upd H1 dx (.own x)) (wd1.add x) (upd (upd H1 dx (.own x)) x (.ins C dx [])) := Ext.add hdx'
    have r3 : Rel X.K X.mg g (wd1.add x) (S1 ++ [.ins c [] []]) (upd (upd H1 dx (.own x)) x (.ins C dx [])) := r2.add hdx' ⟨r2.noF hdx', C, dx, [], hm, upd_same, rfl, .nil⟩
    unfold mMak at h1
    refine ⟨?_, .l S1.length :: rs, S1 ++ [.ins c [] []], wd1.add x, .cons (rat_new r2) (RAtL.up e3 hvs), r3, ?_⟩
    · by_cases h : (R.l S1.length :: rs).length = n
      · rw [List.length_cons] at h ⊢
        rw [← hvs.len]; exact h
      · rw [M.len _ _ h] at h1; exact h1.elim
    · cases hmm : m (.l S1.length :: rs) (S1 ++ [.ins c [] []]) with
      | ok r S' =>
        rw [hmm] at h1
        intro wd' v H' x4 r4 q4
        cases r with
        | v d =>
          cases d with
          | non =>
            cases q4
            refine ⟨rfl, ?_⟩
            dsimp only at h1
            split at h1
            · rename_i c' ks ds hk
              have hmu : wd'.mu[S1.length]? = some x := by
                obtain ⟨nu, e, _⟩ := x4.pre
                rw [e]
                show ((wd1.mu ++ [x]) ++ nu)[S1.length]? = some x
                rw [← r1.len, List.append_assoc, List.getElem?_append_right (Nat.le_refl _)]
                simp
              obtain ⟨hF, C', dx', fs, q1, q2, q3, q4⟩ := r4.cell _ x _ hmu hk
              have x5 : Ext wd1 H1 wd' H' := e2.trans (e3.trans x4)
              have hmn : x ∉ (wd'.cut S1.length).mu := cut_not r4 hmu (Nat.le_refl _)
              exact h1 ((wd'.cut S1.length).frz x (.ins C' dx' fs)) H' ((x5.cut r1).frzAt hx hF) ((r4.cut _).frzAt q2 hF hmn) _ (At.obj q1 upd_same q3 (AtL.up (frz_lat hF) q4))
            · exact h1.elim
          | _ => exact h1.elim
        | _ => exact h1.elim
      | exc c' ks ds S' =>
        rw [hmm] at h1
        intro wd' cls d H' x4 r4 z
        exact h1 (wd'.cut S1.length) cls d H' ((e2.trans (e3.trans x4)).cut r1) (r4.cut _) z
      | bad => rw [hmm] at h1; exact h1.elim
end
end Mi

/-! Mi 11: super() within a method -/
namespace Mi
open PySem L2

/-! ### the known activation -/
def RnX (X : Cx) (c : Code) (e : Expr) : TE := fun σ H Q => ∀ pins s, Inv X pins σ H s → _root_.PySem.wpAt (model X.prog X.w) X.A c (eval e X.env) (EP X pins σ Q) X.xe s
def RnSX (X : Cx) (c : Code) (st : Stmt) : TS := fun E σ H => ∀ pins s, Inv X pins σ H s → _root_.PySem.wpAt (model X.prog X.w) X.A c (exec st X.env) (SP X pins E) X.xe s
def RnBX (X : Cx) (c : Code) (st : List Stmt) : TS := fun E σ H => ∀ pins s, Inv X pins σ H s → _root_.PySem.wpAt (model X.prog X.w) X.A c (execs st X.env) (SP X pins E) X.xe s
def JX (X : Cx) (W : WX) (xc : Option (Addr × Value × Option Addr)) (g : Sig) (c : Code) (e : Expr) (f : EM) : Prop :=
  ∀ (env : Env) (S : Sto) (wd : Wd) (σ : L2.St) (H : Hp) (Q : VK), wd.xc = xc → EnvAt X.K X.mg g wd env σ → Rel X.K X.mg g wd S H →
    Post X.K X.mg g W σ wd H (fun r _ wd' H' => ∀ v, RAt X.K X.mg g wd' r v → Q v H') (f env S) → RnX X c e σ H Q
def JSX (X : Cx) (W : WX) (xc : Option (Addr × Value × Option Addr)) (g : Sig) (c : Code) (st : Stmt) (m : SM) : Prop :=
  ∀ (env : Env) (S : Sto) (wd : Wd) (σ : L2.St) (H : Hp) (E : Ends), wd.xc = xc → EnvAt X.K X.mg g wd env σ → Rel X.K X.mg g wd S H → PostS X.K X.mg g W E wd H (m env S) → RnSX X c st E σ H
def JBX (X : Cx) (W : WX) (xc : Option (Addr × Value × Option Addr)) (g : Sig) (c : Code) (st : List Stmt) (m : SM) : Prop :=
  ∀ (env : Env) (S : Sto) (wd : Wd) (σ : L2.St) (H : Hp) (E : Ends), wd.xc = xc → EnvAt X.K X.mg g wd env σ → Rel X.K X.mg g wd S H → PostS X.K X.mg g W E wd H (m env S) → RnBX X c st E σ H
section
variable {X : Cx} {W : WX} {xc : Option (Addr × Value × Option Addr)} {g : Sig} {c : Code} {pos p : Pos} {a b e : Expr} {fe : EM} {st : Stmt} {sts : List Stmt} {m m' : SM}
theorem JB.x (h : JB X W xc g sts m) : JBX X W xc g c sts m := fun env S wd σ H E h1 h2 h3 h4 pins s I => _root_.PySem.wpAt_of_wpAny (h env S wd σ H E h1 h2 h3 h4 pins s I)
theorem JS.x (h : JS X W xc g st m) : JSX X W xc g c st m := fun env S wd σ H E h1 h2 h3 h4 pins s I => _root_.PySem.wpAt_of_wpAny (h env S wd σ H E h1 h2 h3 h4 pins s I)
theorem JE.x (h : JE X W xc g e fe) : JX X W xc g c e fe := fun env S wd σ H E h1 h2 h3 h4 pins s I => _root_.PySem.wpAt_of_wpAny (h env S wd σ H E h1 h2 h3 h4 pins s I)
theorem jbx_cons (h1 : JSX X W xc g c st m) (h2 : JBX X W xc g c sts m') : JBX X W xc g c (st :: sts) (sSeq m m') := by
  intro env S wd σ H E hx he hl hp pins s I
  have key : RnSX X c st { nx := fun σ1 H1 => RnBX X c sts E σ1 H1, bk := E.bk, ct := E.ct, rt := E.rt } σ H := by
    refine h1 env S wd σ H _ hx he hl ?_
    unfold sSeq RS.thn at hp
    cases hm : m env S with
    | ok f S1 =>
      rw [hm] at hp
      cases f with
      | nx env1 => exact fun wd' σ' H' x r q => h2 env1 S1 wd' σ' H' E (x.xc.trans hx) q r (PostS.later x hp)
      | bk env1 => exact hp
      | ct env1 => exact hp
      | rt u => exact hp
    | exc c ks ds env1 S1 => rw [hm] at hp; exact hp
    | bad => rw [hm] at hp; exact hp.elim
  refine ks_wpAt_execs_cons (_root_.PySem.wpAt_mono (key pins s I) (fun f s' h => ?_) fun _ _ z => z)
  cases f with
  | next =>
    obtain ⟨σ', H', I', q⟩ := h
    exact q pins s' I'
  | ret u => exact h
  | brk => exact h
  | cont => exact h
theorem jsx_ret (ha : JX X W xc g c e fe) : JSX X W xc g c (.Return (some e) pos) (sRet fe) := by
  intro env S wd σ H E hxc he hl hp pins s I
  have key : RnX X c e σ H E.rt := by
    refine ha env S wd σ H _ hxc he hl (Post.imp (fun r S1 wd1 H1 x1 r1 h1 v hv => ?_) (PostS.res he hp))
    exact h1 wd1 _ H1 (Ext.refl _ _) r1 hv
  refine ks_wpAt_Return_some (_root_.PySem.wpAt_mono (key pins s I) (fun v s' h => ?_) fun _ _ z => z)
  obtain ⟨v, H', I', r, q⟩ := h
  exact ⟨v, σ, H', I', r, q⟩
theorem jsx_expr (ha : JX X W xc g c e fe) (hi : interactive X.env = false := by rfl) (hs : swapsWith e none pos.line X.env = pure false := by rfl) : JSX X W xc g c (.Expr e pos) (sExpr fe) := by
  intro env S wd σ H E hxc he hl hp pins s I
  have key : RnX X c e σ H fun _ H1 => E.nx σ H1 := by
    refine ha env S wd σ H _ hxc he hl (Post.imp (fun r S1 wd1 H1 x1 r1 h1 v hv => ?_) (PostS.res he hp))
    exact h1 wd1 _ H1 (Ext.refl _ _) r1 (he.up x1)
  refine ks_wpAt_Expr_any (_root_.PySem.wpAt_mono (key pins s I) (fun v s' h => ?_) fun _ _ z => z) hi hs
  obtain ⟨v, H', I', r, q⟩ := h
  exact ⟨σ, H', I', q⟩
end

/-! ### the def -/
structure SupD (P : Program) (K : Frag) (mg : MG) (name qual : Str) (st : Stmt) (f : Addr) (fd : FuncData) (cc cda D : Addr) : Prop where
  ex : ∃ (oc : Value) (od : Option Addr) (kV doc pm : Value) (an : Option Addr) (ct : Value) (osl : Array (Option Value)), fd = PySem.W.ksFn name qual (defArgs st) (defBody st) (defScope st) .none kV doc pm an (.ref cda) ct cc ∧ K.lookup f = some ⟨oc, od, .func fd, osl⟩
  cd : PySem.W.codeIn K (.ref cda) qual = true
  cell : ∃ (cl : Value) (cld : Option Addr) (csl : Array (Option Value)), K.lookup cc = some ⟨cl, cld, .cell (some (.ref D)), csl⟩
  code : ∃ (ccl : Value) (cdd : Option Addr) (vs : Array Value) (ccs : Array (Option Value)) (file : Str) (tf : Tok), K.lookup cda = some ⟨ccl, cdd, .fields vs, ccs⟩ ∧ vs[2]? = some (.str file tf) ∧ ((P.main.file : Str) == file) = true
  cls : ∃ cdD, PySem.W.clsIn K D = some cdD
  top : (P.main.scope.names.lookup ("super" : Str)).isSome = false
  glo : mg "super" = none
  opq : PySem.W.nsIn K cStatics "thirdparty.any" = some none
abbrev SupD.nf (name qual : Str) (st : Stmt) (cc cda : Addr) : NdefX.NF := ⟨name, qual, defArgs st, defBody st, defScope st, [("__class__", cc)], cda⟩
section
variable {P : Program} {w : World} {K : Frag} {mg : MG} {base : Heap} {g : Sig} {name qual : Str} {st : Stmt} {f : Addr} {fd : FuncData} {cc cda D : Addr} {N ps : List Str} {k : Nat} {m : SM} {fr : Nat → R → Sto → Res R}
theorem SupD.binds (F : SupD P K mg name qual st f fd cc cda D)
    (h : ∀ (kV doc pm : Value) (an : Option Addr) (ct : Value) (us : List Value), us.length = ps.length → bindArgs (PySem.W.ksFn name qual (defArgs st) (defBody st) (defScope st) .none kV doc pm an (.ref cda) ct cc) ⟨us, []⟩ = pure (ps.zip us)) : Binds K fd ps [] := by
  obtain ⟨oc, od, kV, doc, pm, an, ct, osl, rfl, lk⟩ := F.ex
  exact .all (h kV doc pm an ct)
/-- THE RULE for a method with super() -/
theorem fn_sup (F : SupD P K mg name qual st f fd cc cda D) (S : NdefX.NScope N ps ["__class__"] (defScope st))
    (hfr : ∀ {wd wd' : Wd} {S S' : Sto} {H H' : Hp} {E : XK} {Q : VK} {r : R} {v : V}, Rel K mg g wd S H → Ext wd H wd' H' → Rel K mg g wd' S' H' → RAt K mg g wd' r v → PostF K mg g E Q wd H (fr S.length r S') → Q v H')
    (hb : ∀ (A : Around) (outer : List PySem.Env) (s : Shared) (H : Hp) (E : XK) (xc : Option (Addr × Value × Option Addr)), Room k (A.deeper (NdefX.envF (SupD.nf name qual st cc cda) f s.heap.objs.size)) →
      JBX (NdefX.ncx (L2.CX P w) P w K mg base N (SupD.nf name qual st cc cda) f A outer s H E) (fun cls d _ H' => E cls d H') xc g (.func (defBody st) (NdefX.envF (SupD.nf name qual st cc cda) f s.heap.objs.size)) (defBody st) m) :
    FnOk P w K mg base (L2.CX P w) (k + 1) f fd ps (SpM K mg g ps.length (fnX fr ps.length N.length m)) := by
  have fds := F
  obtain ⟨oc, od, kV, doc, pm, an, ct, osl, rfl, lk⟩ := F.ex
  refine ⟨fun vs H Q E h => h.1, fun A outer s H args us vs Q E hr e0 hbd r hsp => ?_⟩
  obtain ⟨hl, rs, St, wd, ha, hrel, hp⟩ := hsp
  have KX : K.In s.heap := e0.mod.kin.keeps fun b o e => (e0.bs b o e).1
  have lim : s.heap.NoLimit := e0.mod.nolimit.keeps fun b o e => (e0.bs b o e).1
  obtain ⟨cl, cld, csl, hcc⟩ := F.cell
  have C : NdefX.CellsAt [(("__class__" : Str), cc)] ["__class__"] [none] s.heap H := by
    have look : ∀ {y : Str} {c : Addr}, List.lookup y [(("__class__" : Str), cc)] = some c → y = "__class__" ∧ c = cc := fun {y c} e => by
      unfold List.lookup at e
      split at e
      · rename_i q
        cases e
        exact ⟨beq_iff_eq.mp q, rfl⟩
      · cases e
    refine ⟨rfl, fun y c e => ?_, fun x y c e1 e2 => (look e1).1.trans (look e2).1.symm, fun i y e => ?_⟩
    · obtain ⟨_, rfl⟩ := look e
      obtain ⟨q1, q2⟩ := e0.bs _ _ (e0.mod.kin _ _ hcc)
      exact ⟨q2, some (.ref D), _, q1, rfl⟩
    · cases i with
      | zero =>
        cases e
        exact ⟨cc, by simp [List.lookup], fun v z => by cases z⟩
      | succ i => cases e
  refine ks_codeAny_call_defAt (fd := PySem.W.ksFn name qual (defArgs st) (defBody st) (defScope st) .none kV doc pm an (.ref cda) ct cc) (body := defBody st) (binds := ps.zip us) hr.depth (KX _ _ lk) rfl lim (PySem.W.codeRec_of KX F.cd) rfl hbd S.nocell
    (fun ⟨n, _⟩ hy => S.par n (List.of_mem_zip hy).1) (fun h₁ hns kp => ?_) S.co S.gen S.kind
  have I : Inv (NdefX.ncx (L2.CX P w) P w K mg base N (SupD.nf name qual st cc cda) f A outer s H E) [] (NdefX.startF N vs [none]) H { s with heap := h₁, toks := s.toks + (ps.zip us).length } := NdefX.inv_startN S hr.hd e0 hl r C hns kp
  have hlen : rs.length = ps.length := ha.len.trans hl
  have hpl : ps.length + 1 ≤ N.length := by
    have q := congrArg List.length S.pre
    rw [List.length_take, List.length_append] at q
    simp only [List.length_cons, List.length_nil] at q
    omega
  have hst : NdefX.startF N vs [none] = vs.map some ++ List.replicate (N.length - ps.length) none := by
    unfold NdefX.startF
    have e : N.length - ps.length = N.length - vs.length - ([none] : List (Option V)).length + 1 := by
      rw [hl]
      simp only [List.length_cons, List.length_nil]
      omega
    rw [e, List.replicate_succ] <;> rfl
  rw [hst] at I
  unfold fnX at hp
  rw [if_pos hlen] at hp
  have key := hb A outer s H E wd.xc (hr.deeper _) _ St wd _ H { nx := fun _ H' => Q .non H', rt := Q } rfl (env_start (K := K) (mg := mg) (g := g) (N.length - ps.length) ha) hrel (by
    cases hm : m (rs.map some ++ List.replicate (N.length - ps.length) none) St with
    | ok fl S' =>
      rw [hm] at hp
      cases fl with
      | nx env' => exact fun wd' σ' H' x r' _ => hp _ _ H' (x.cut hrel) (r'.cut _) .non
      | bk env' => exact hp.elim
      | ct env' => exact hp.elim
      | rt r => exact fun wd' v H' x r' q => hfr hrel x r' q hp
    | exc c ks ds env' S' =>
      rw [hm] at hp
      exact fun wd' cls d σ' H' x r' _ z => hp _ cls d H' (x.cut hrel) (r'.cut _) z
    | bad => rw [hm] at hp; exact hp.elim) [] _ I
  refine _root_.PySem.wpAt_mono key (fun fl s' hs => ?_) fun e s' hs => hs
  have fin : ∀ {σ' : L2.St} {H' : Hp} {v : V} {u : Value}, Inv (NdefX.ncx (L2.CX P w) P w K mg base N (SupD.nf name qual st cc cda) f A outer s H E) [] σ' H' s' → L2.RelV v u → Q v H' → CE outer P w H s Q u s' :=
    fun {σ' H' v u} J rv q => ⟨v, H', J.os, J.bare, J.base, J.hok, rv, q⟩
  cases fl with
  | ret u =>
    obtain ⟨v, σ', H', J, rv, q⟩ := hs
    exact fin J rv q
  | next =>
    obtain ⟨σ', H', J, q⟩ := hs
    exact fin (v := V.non) (u := Value.none) J rfl q
  | brk =>
    obtain ⟨_, _, _, q⟩ := hs
    exact False.elim q
  | cont =>
    obtain ⟨_, _, _, q⟩ := hs
    exact False.elim q
end

/-! ### super().x(e, ..) -/
structure Sup (P : Program) (w : World) (K : Frag) (mg : MG) (base : Heap) (g : Sig) (D : Addr) (c : Nat) (x : Str) (k n : Nat) (m : FM) : Prop where
  ex : ∃ C f fd ps, mg (g.cn c) = some (.ref C) ∧ PySem.W.mroIn K C (.ref D) = some true ∧ PySem.W.ks_superIn K C D x = some (some (.ref f)) ∧ PySem.W.typeIn K (.ref f) = some (.type "function") ∧ PySem.W.fnIn K f = true ∧ Binds K fd ps [] ∧ ps.length = n ∧ FnOk P w K mg base (L2.CX P w) k f fd ps (SpM K mg g n m)
  len : ∀ rs S, rs.length ≠ n → m rs S = .bad
def eSup (T : Nat → Bool) (m : FM) (fr : AM) : EM := fun env S => match env[0]? with
  | some (some r) => match r.ob S with
    | some (c, _, _) => if T c = true then eApp m (aCons (eVar 0) fr) env S else .bad
    | none => .bad
  | _ => .bad
section
variable {X : Cx} {W : WX} {xc : Option (Addr × Value × Option Addr)} {g : Sig} {pos p0 p1 apos : Pos} {x : Str} {e : Expr} {es : List Expr} {fr : AM} {k n : Nat} {m : FM} {name qual : Str} {st : Stmt} {f : Addr} {fd : FuncData} {cc cda D : Addr} {body : List Stmt}
theorem jx_sup (T : Nat → Bool) {ar : Arg} {pl : Sem Bool} (F : SupD X.prog X.K X.mg name qual st f fd cc cda D) (hT : ∀ c, T c = true → Sup X.prog X.w X.K X.mg X.base g D c x k n m) (hr : Room k X.A) (tk : Takes X W) (ha : JA X W xc g (e :: es) fr)
    (hf : X.env.func = some f) (hcd : X.env.code = .ref cda) (hce : X.env.cells.lookup ("__class__" : Str) = some cc)
    (hp1 : ((defArgs st).posonlyargs ++ (defArgs st).args).head? = some ar) (hN : X.N[0]? = some ar.arg) (hv : X.env.scope.names.lookup ar.arg = some .local)
    (hks : X.env.kindOf "super" = some .globalImplicit := by rfl) (hkc : X.env.kindOf "__class__" = some .free := by rfl) (hat : (x == ("__class__" : Str)) = false := by decide)
    (hst : starEach (e :: es) X.env = (false, eval e X.env) :: starEach es X.env := by rfl) (hpl : (backTo pos (starEach es X.env)).any (·.1) = false := by rfl)
    (he : eval (.Call (.Attribute (.Call (.Name "super" p0) [] [] p1) x apos) (e :: es) [] pos) X.env = (do
      let ov ← attributeBase (.Call (.Name "super" p0) [] [] p1) x X.env (eval (.Call (.Name "super" p0) [] [] p1) X.env)
      standAt apos.atName
      let (f, first) ← holding [ov] (getMethod ov x pl)
      callWith pos f first (backTo pos (starEach (e :: es) X.env)) []) := by rfl) :
    JX X W xc g (.func body X.env) (.Call (.Attribute (.Call (.Name "super" p0) [] [] p1) x apos) (e :: es) [] pos) (eSup T m fr) := by
  intro env S wd σ H Q hxc hen hl hp pins s I
  unfold eSup at hp
  split at hp
  · rename_i r hr0
    split at hp
    · rename_i c _ _ hob
      split at hp
      · rename_i hc
        obtain ⟨v0, hσ, hv0⟩ := hen.at_ 0 r hr0
        obtain ⟨a, C, dx, fs, rfl, q1, q2, q3, q4⟩ := ob_at hl hv0 hob
        obtain ⟨C', f2, fd2, ps2, k1, kmro, ksup, kty, kfn, kb, kn, G⟩ := (hT c hc).ex
        rw [q1] at k1
        cases k1
        obtain ⟨oc, od, kV, doc, pm, an, ct, osl, hfd, lk⟩ := F.ex
        obtain ⟨cl, cld, csl, hcc⟩ := F.cell
        obtain ⟨ccl, cdd, vs, ccs, file, tf, hcode, hvs, hfile⟩ := F.code
        obtain ⟨cdD, hD⟩ := F.cls
        have KX : X.K.In s.heap := I.kIn
        obtain ⟨oD, hD1, hD2⟩ : ∃ oD, s.heap.get? D = some oD ∧ oD.data = .cls cdD := by
          unfold PySem.W.clsIn at hD
          split at hD
          · rename_i c d cd' sl ho
            cases hD
            exact ⟨_, KX _ _ ho, rfl⟩
          · cases hD
        obtain ⟨mA, O, _, _, _, _⟩ := ins_get I.hok q2
        obtain ⟨odx, J, _⟩ := O.look
        refine ks_wpAt_MethodCall (ks_wpAt_super_base hks hkc hat hf (KX _ _ lk) (by rw [hfd]) hp1 hcd (KX _ _ hcode) rfl hvs hfile F.top ?_) he
        obtain ⟨mb, b1, b2⟩ := I.mod.blt
        refine PySem.W.ks_loadName_global I.ok.kind hks (Calls.loadGlobal_builtin (by rw [I.ok.glob]; exact I.mod.glob.keeps I.bk) F.glo (by rw [I.ok.blt]; exact b1.keeps I.bk) ((b2 "super" (by decide)).trans (by decide +kernel)) ⟨rfl, ?_⟩)
        refine wpAny_loadName_free I.ok.kind hkc hce ⟨_, KX _ _ hcc, rfl⟩ ?_
        obtain ⟨mL, hn, hlk⟩ := I.loc
        obtain ⟨u, ru, lu⟩ := hlk 0 ar.arg _ hN hσ (.inl hv)
        obtain rfl : u = Value.ref a := ru
        have lu' : mL ar.arg = some (.ref a) := by
          rcases lu with ⟨_, z⟩ | ⟨z, _⟩
          · exact z
          · have z : X.env.scope.names.lookup ar.arg = some .cell ∨ X.env.scope.names.lookup ar.arg = some .free := z
            rw [hv] at z
            rcases z with z | z <;> cases z
        refine wpAny_loadName_local I.ok.kind hv hn lu' ?_
        refine ks_wpAny_isType_cls hD1 hD2 ⟨rfl, ?_⟩
        refine ks_wpAny_call_super hD1 hD2 J.at_ J.cls (fun c e => ?_) (PySem.W.looks_mroIn KX kmro) (fun h' eS k => ?_)
        · have := J.no
          unfold PySem.W.notCls at this
          rw [e] at this
          exact Bool.noConfusion this
        have I1 : Inv X pins σ H { s with heap := h' } := I.kept (t' := s.toks) k
        have KX1 : X.K.In h' := KX.keeps k
        obtain ⟨cdC, hcC⟩ : ∃ cdC, PySem.W.clsIn X.K C = some cdC := by
          cases z : PySem.W.clsIn X.K C with
          | none => unfold PySem.W.ks_superIn at ksup; rw [z] at ksup; cases ksup
          | some cd => exact ⟨cd, rfl⟩
        have ksup' := ksup
        unfold PySem.W.ks_superIn at ksup'
        rw [hcC] at ksup'
        obtain ⟨of, hof, hofc⟩ : ∃ of, h'.get? f2 = some of ∧ of.cls = .type "function" := by
          have ht' : (X.K.lookup f2).map (·.cls) = some (.type "function") := kty
          cases z : X.K.lookup f2 with
          | none => rw [z] at ht'; cases ht'
          | some of => rw [z] at ht'; exact ⟨of, KX1 _ _ z, Option.some.inj ht'⟩
        refine ks_wpAny_getMethod_super eS (PySem.W.looks_opaque KX1 F.opq) (l₀ := cdC.mro) ?_ rfl KX1 ksup' hof hofc (PySem.W.ks_ne KX J hcC) hat ?_
        · exact fun A Q E s k q => wpAny_bind ((PySem.W.looks_clsIn KX1 hcC) A _ E s k (wpAny_pure q))
        -- the bound method
        have hq : H h'.objs.size = none := I1.hok.fresh (Nat.le_refl _)
        have I2 : Inv X pins σ (upd H h'.objs.size (.met f2 a)) { s with heap := h'.push { cls := .type "method", data := .fields #[.ref f2, .ref a] }, toks := s.toks + 1 } :=
          I1.laid (t' := s.toks + 1) (a := h'.objs.size) (o := .met f2 a) (fun b u z => Heap.get?_push_of_some _ z) (Nat.le_refl _) (show (h'.push (PySem.W.methodObj (.ref f2) (.ref a))).get? h'.objs.size = some (PySem.W.methodObj (.ref f2) (.ref a)) from Heap.get?_push_size h' rfl)
        have xF := Ext.froz (wd := wd) (H := H) (o := .met f2 a) hq (hl.noF hq)
        have rF := Rel.froz (o := .met f2 a) hl hq
        have hen' := hen.up xF
        unfold eApp at hp
        have hev : eVar 0 env S = .ok r S := by unfold eVar; rw [hr0]
        have hp2 : Post X.K X.mg g W σ wd H (fun r _ wd' H' => ∀ v, RAt X.K X.mg g wd' r v → Q v H') (((fr env S).bind fun xs S2 => .ok (r :: xs) S2).bind fun xs S1 => m xs S1) := by
          unfold aCons at hp
          rw [hev] at hp
          exact hp
        have args : RnA X (e :: es) σ (upd H h'.objs.size (.met f2 a)) fun us H2 => H2 h'.objs.size = some (.met f2 a) ∧ SpM X.K X.mg g n m (.ref a :: us) H2 Q (fun cls d H' => W cls d σ H') := by
          refine ha env S (wd.frz h'.objs.size (.met f2 a)) σ _ _ hxc hen' rF ?_
          have hp3 := Post.bind (Post.bind hp2)
          have hp4 := Post.later xF hp3
          refine Post.imp (fun xs S2 wd2 H2 x2 r2 h2 us hu => ⟨?_, ?_⟩) hp4
          · have z : (wd.frz h'.objs.size (.met f2 a)).F h'.objs.size = some (.met f2 a) := upd_same
            exact r2.sub _ _ (x2.mono _ _ z)
          · have h2' : Post X.K X.mg g W σ wd2 H2 (fun r _ wd' H' => ∀ v, RAt X.K X.mg g wd' r v → Q v H') (m (r :: xs) S2) := Post.now r2 h2
            exact spm_of (hT c hc).len r2 (.cons (RAt.up x2 (RAt.up xF hv0)) hu) h2'
        show wpAny (model X.prog X.w) X.A (callWith pos (.ref h'.objs.size) [] (backTo pos (starEach (e :: es) X.env)) []) (EP X pins σ Q) X.xe _
        have ar2 := args pos pins _ I2
        rw [hst] at ar2 ⊢
        refine callwith_met (g := f2) (a := a) (by show ((false || (backTo pos (starEach es X.env)).any (·.1)) || false) = false; rw [hpl]; rfl) kfn (Calls.evalArgs_plain (thn ar2 fun us s3 h3 => ?_))
        obtain ⟨vs3, H3, I3, rv3, hm3, sp3⟩ := h3
        refine ⟨met_P I3 hm3, ?_⟩
        have hlen : (Value.ref a :: us ++ []).length = ps2.length := by
          have e1 := sp3.1
          rw [kn, ← e1]
          simp [rv3.length]
        exact wpAny_call (PySem.W.method_call (met_P I3 hm3).1 (codeAny_mono (G.run X.A X.stack s3 H3 ⟨.ref a :: us, []⟩ (.ref a :: us ++ []) (.ref a :: vs3) Q _ hr I3.env0 (kb s3 (.ref a :: us) I3.kIn hlen) (by rw [List.append_nil]; exact .cons rfl rv3) sp3) fun r s' hq => by
          cases r with
          | error e => exact passAt tk σ pins H3 s3 e s' I3 hq
          | ok fl =>
            cases fl with
            | ret u => exact I3.after hq
            | next => exact False.elim hq
            | brk => exact False.elim hq
            | cont => exact False.elim hq))
      · exact hp.elim
    · exact hp.elim
  · exact hp.elim
end
end Mi

/-! Mi 12: f(super().x(e, ..), ..), f a built-in function -/
namespace Mi
open PySem L2
section
variable {M : Model} {A : Around} {c : Code} {E : Value → Shared → Prop} {s : Shared}
theorem at_spliced_cons {x : Sem Value} {rest : List (Bool × Sem Value)} {Q : List Value → Shared → Prop}
    (h : _root_.PySem.wpAt M A c x (fun v s₁ => wpAny M A (spliced rest) (fun vs s₂ => Q (v :: vs) s₂) E s₁) E s) : _root_.PySem.wpAt M A c (spliced ((false, x) :: rest)) Q E s := by
  rw [spliced]
  refine _root_.PySem.wpAt_bind (_root_.PySem.wpAt_mono h (fun v s₁ h₁ => ?_) fun _ _ x => x)
  simp only [Bool.false_eq_true, if_false]
  exact _root_.PySem.wpAt_of_wpAny (wpAny_bind (wpAny_pure (wpAny_bind (wpAny_holding (wpAny_mono h₁ (fun vs s₂ h₂ => wpAny_pure h₂) fun _ _ x => x)))))
theorem at_evalArgs {f : Value} {x : Sem Value} {rest : List (Bool × Sem Value)} {Q : Args → Shared → Prop}
    (h : _root_.PySem.wpAt M A c (spliced ((false, x) :: rest)) (fun vs s' => Q ⟨vs, []⟩ s') E s) : _root_.PySem.wpAt M A c (evalArgs f true ((false, x) :: rest) []) Q E s := by
  unfold evalArgs
  show _root_.PySem.wpAt M A c (spliced ((false, x) :: rest) >>= _) Q E s
  refine _root_.PySem.wpAt_bind (_root_.PySem.wpAt_mono h (fun vs s' h' => ?_) fun _ _ x => x)
  refine _root_.PySem.wpAt_of_wpAny (wpAny_holding ?_)
  exact wpAny_bind (wpAny_pure (wpAny_bind (wpAny_pure (wpAny_pure h'))))
theorem at_callWith {pos : Pos} {f : Value} {first : List Value} {args : List (Bool × Sem Value)} {Q : Value → Shared → Prop} (hplain : args.any (·.1) = false) (hk : keeperOf f = pure .machine)
    (h : _root_.PySem.wpAt M A c (evalArgs f true args []) (fun a s₁ => wpAny M A (call f (first ++ a.pos) a.kw) Q E s₁) E s) :
    _root_.PySem.wpAt M A c (callWith pos f first args []) Q E s := by
  unfold callWith
  refine _root_.PySem.wpAt_bind (ks_wpAt_holding (_root_.PySem.wpAt_mono h (fun a s₁ h₁ => _root_.PySem.wpAt_of_wpAny (wpAny_bind (wpAny_standAt ?_))) fun _ _ x => x))
  simp only [hplain, List.any_nil, Bool.or_false]
  refine wpAny_bind (wpAny_of_eq hk ?_)
  exact wpAny_bind (wpAny_mono h₁ (fun r s₂ hr => wpAny_bind (wpAny_holding (wpAny_point (wpAny_pure hr)))) fun _ _ x => x)
end
section
variable {X : Cx} {W : WX} {xc : Option (Addr × Value × Option Addr)} {g : Sig} {c : Code} {pos p : Pos} {x : Str} {e : Expr} {es : List Expr} {fr : AM} {fe : EM} {op : List R → Sto → Res R} {f : Value} {r : List V → Hp → VK → Prop}
theorem jx_app (hld : ∀ {pins : List (Addr × Obj)} {s : Shared} {σ : L2.St} {H : Hp} {Q : Value → Shared → Prop}, Inv X pins σ H s → Q f s → wpAny (model X.prog X.w) X.A (eval (.Name x p) X.env) Q X.xe s) (hk : keeperOf f = pure .machine) (hc : CallR X f r) (hd : DA X W g r op)
    (h1 : JX X W xc g c e fe) (h2 : JA X W xc g es fr)
    (he : starEach (e :: es) X.env = (false, eval e X.env) :: starEach es X.env) (hpl : (backTo pos (starEach es X.env)).any (·.1) = false) :
    JX X W xc g c (.Call (.Name x p) (e :: es) [] pos) (eApp op (aCons fe fr)) := by
  intro env S wd σ H Q hx hen hl hp pins s I
  rw [arm_eval_Call_Name']
  refine _root_.PySem.wpAt_bind (_root_.PySem.wpAt_of_wpAny (hld I ?_))
  rw [he]
  refine at_callWith (first := []) (by show (false || (backTo pos (starEach es X.env)).any (·.1)) = false; rw [hpl]; rfl) hk (at_evalArgs (at_spliced_cons ?_))
  have hp1 : Post X.K X.mg g W σ wd H (fun r _ wd' H' => ∀ v, RAt X.K X.mg g wd' r v → Q v H') (((fe env S).bind fun x S1 => (fr env S1).bind fun xs S2 => .ok (x :: xs) S2).bind fun xs S1 => op xs S1) := hp
  have key : RnX X c e σ H fun v H1 => RnA X es σ H1 fun vs H2 => r (v :: vs) H2 Q := by
    refine h1 env S wd σ H _ hx hen hl (Post.imp (fun x S1 wd1 H1 x1 r1 q1 v hv => ?_) (Post.bind (Post.bind hp1)))
    refine h2 env S1 wd1 σ H1 _ (x1.xc.trans hx) (hen.up x1) r1 (Post.imp (fun y S2 wd2 H2 x2 r2 q2 u hu => ?_) (Post.bind q1))
    exact hd S2 wd2 σ H2 (v :: u) (x :: y) Q r2 (.cons (RAt.up x2 hv) hu) (Post.now r2 q2)
  refine _root_.PySem.wpAt_mono (key pins s I) (fun u s1 h1 => ?_) fun _ _ z => z
  obtain ⟨v, H1, I1, rv, q1⟩ := h1
  refine wpAny_mono (q1 pos pins s1 I1) (fun us s2 h2 => ?_) fun _ _ z => z
  obtain ⟨vs, H2, I2, rvs, q2⟩ := h2
  exact hc pins s2 σ H2 (v :: vs) (u :: us) Q I2 (.cons rv rvs) q2
theorem jx_blt (h : BltM X W g x op) (h1 : JX X W xc g c e fe) (h2 : JA X W xc g es fr) (hm : X.mg x = none) (hg : Gl X x := by rfl) (hn : x ≠ "__name__" := by decide) (hdb : (x == ("__debug__" : Str)) = false := by decide)
    (he : starEach (e :: es) X.env = (false, eval e X.env) :: starEach es X.env := by rfl) (hpl : (backTo pos (starEach es X.env)).any (·.1) = false := by rfl) : JX X W xc g c (.Call (.Name x p) (e :: es) [] pos) (eApp op (aCons fe fr)) := by
  cases h with
  | b hc hv hd => exact jx_app (fun I q => ld_blt I hg hm hv q hn hdb) rfl hc hd h1 h2 he hpl
  | t hc hv hd => exact jx_app (fun I q => ld_blt I hg hm hv q hn hdb) rfl hc hd h1 h2 he hpl
end
end Mi

/-! Mi 13: own errors, raised -/
namespace Mi
open PySem L2
section
variable {P : Program} {w : World} {K : Frag} {mg : MG} {base : Heap} {name qual : Str} {st : Stmt} {f : Addr} {fd : FuncData} {cc cda D : Addr} {N ps : List Str} {k : Nat} {sp : Sp}
/-- a method with super(), by a promise -/
theorem fn_supR (F : SupD P K mg name qual st f fd cc cda D) (S : NdefX.NScope N ps ["__class__"] (defScope st)) (len : ∀ vs H Q E, sp vs H Q E → vs.length = ps.length)
    (hb : ∀ (A : Around) (outer : List PySem.Env) (s : Shared) (H : Hp) (vs : List V) (Q : VK) (E : XK), Room k (A.deeper (NdefX.envF (SupD.nf name qual st cc cda) f s.heap.objs.size)) → sp vs H Q E →
      RnBX (NdefX.ncx (L2.CX P w) P w K mg base N (SupD.nf name qual st cc cda) f A outer s H E) (.func (defBody st) (NdefX.envF (SupD.nf name qual st cc cda) f s.heap.objs.size)) (defBody st) { nx := fun _ H' => Q .non H', rt := Q } (vs.map some ++ List.replicate (N.length - ps.length) none) H) :
    FnOk P w K mg base (L2.CX P w) (k + 1) f fd ps sp := by
  obtain ⟨oc, od, kV, doc, pm, an, ct, osl, rfl, lk⟩ := F.ex
  refine ⟨len, fun A outer s H args us vs Q E hr e0 hbd r hsp => ?_⟩
  have hl := len _ _ _ _ hsp
  have KX : K.In s.heap := e0.mod.kin.keeps fun b o e => (e0.bs b o e).1
  have lim : s.heap.NoLimit := e0.mod.nolimit.keeps fun b o e => (e0.bs b o e).1
  obtain ⟨cl, cld, csl, hcc⟩ := F.cell
  have C : NdefX.CellsAt [(("__class__" : Str), cc)] ["__class__"] [none] s.heap H := by
    have look : ∀ {y : Str} {c : Addr}, List.lookup y [(("__class__" : Str), cc)] = some c → y = "__class__" ∧ c = cc := fun {y c} e => by
      unfold List.lookup at e
      split at e
      · rename_i q
        cases e
        exact ⟨beq_iff_eq.mp q, rfl⟩
      · cases e
    refine ⟨rfl, fun y c e => ?_, fun x y c e1 e2 => (look e1).1.trans (look e2).1.symm, fun i y e => ?_⟩
    · obtain ⟨_, rfl⟩ := look e
      obtain ⟨q1, q2⟩ := e0.bs _ _ (e0.mod.kin _ _ hcc)
      exact ⟨q2, some (.ref D), _, q1, rfl⟩
    · cases i with
      | zero =>
        cases e
        exact ⟨cc, by simp [List.lookup], fun v z => by cases z⟩
      | succ i => cases e
  refine ks_codeAny_call_defAt (fd := PySem.W.ksFn name qual (defArgs st) (defBody st) (defScope st) .none kV doc pm an (.ref cda) ct cc) (body := defBody st) (binds := ps.zip us) hr.depth (KX _ _ lk) rfl lim (PySem.W.codeRec_of KX F.cd) rfl hbd S.nocell
    (fun ⟨n, _⟩ hy => S.par n (List.of_mem_zip hy).1) (fun h₁ hns kp => ?_) S.co S.gen S.kind
  have I : Inv (NdefX.ncx (L2.CX P w) P w K mg base N (SupD.nf name qual st cc cda) f A outer s H E) [] (NdefX.startF N vs [none]) H { s with heap := h₁, toks := s.toks + (ps.zip us).length } := NdefX.inv_startN S hr.hd e0 hl r C hns kp
  have hpl : ps.length + 1 ≤ N.length := by
    have q := congrArg List.length S.pre
    rw [List.length_take, List.length_append] at q
    simp only [List.length_cons, List.length_nil] at q
    omega
  have hst : NdefX.startF N vs [none] = vs.map some ++ List.replicate (N.length - ps.length) none := by
    unfold NdefX.startF
    have e : N.length - ps.length = N.length - vs.length - ([none] : List (Option V)).length + 1 := by
      rw [hl]
      simp only [List.length_cons, List.length_nil]
      omega
    rw [e, List.replicate_succ] <;> rfl
  rw [hst] at I
  refine _root_.PySem.wpAt_mono (hb A outer s H vs Q E (hr.deeper _) hsp [] _ I) (fun fl s' hs => ?_) fun e s' hs => hs
  have fin : ∀ {σ' : L2.St} {H' : Hp} {v : V} {u : Value}, Inv (NdefX.ncx (L2.CX P w) P w K mg base N (SupD.nf name qual st cc cda) f A outer s H E) [] σ' H' s' → L2.RelV v u → Q v H' → CE outer P w H s Q u s' :=
    fun {σ' H' v u} J rv q => ⟨v, H', J.os, J.bare, J.base, J.hok, rv, q⟩
  cases fl with
  | ret u =>
    obtain ⟨v, σ', H', J, rv, q⟩ := hs
    exact fin J rv q
  | next =>
    obtain ⟨σ', H', J, q⟩ := hs
    exact fin (v := V.non) (u := Value.none) J rfl q
  | brk =>
    obtain ⟨_, _, _, q⟩ := hs
    exact False.elim q
  | cont =>
    obtain ⟨_, _, _, q⟩ := hs
    exact False.elim q
end

/-- what the written part says of an own error class, and of its __init__ -/
structure XCls (P : Program) (K : Frag) (mg : MG) (x qual : Str) (st : Stmt) (C fI : Addr) (fd : FuncData) (cc cda : Addr) : Prop where
  d : SupD P K mg "__init__" qual st fI fd cc cda C
  gC : mg x = some (.ref C)
  o : OexC K C
  ve : PySem.W.subIn K (.ref C) (.type "ValueError") = some true
  su : PySem.W.ks_superIn K C C "__init__" = some (some (.builtin "ValueError.__init__"))
  mr : PySem.W.mroIn K C (.ref C) = some true
  iC : PySem.W.findIn K (.ref C) "__init__" = some (some (.ref fI))
  tI : PySem.W.typeIn K (.ref fI) = some (.type "function")
section
variable {X : Cx} {pos p0 p1 p2 p3 apos epos : Pos} {e : Expr} {es : List Expr} {name qual : Str} {st : Stmt} {f : Addr} {fd : FuncData} {cc cda D C : Addr} {body : List Stmt} {x : Str}
/-- super().__init__(text) -/
theorem rx_init {ar : Arg} {pl : Sem Bool} {msg : Str} {j : Nat} {a : Addr} {σ : L2.St} {H : Hp} {Q : VK} (T : XCls X.prog X.K X.mg x qual st C f fd cc cda) 
    (hf : X.env.func = some f) (hcd : X.env.code = .ref cda) (hce : X.env.cells.lookup ("__class__" : Str) = some cc)
    (hp1 : ((defArgs st).posonlyargs ++ (defArgs st).args).head? = some ar) (hN : X.N[0]? = some ar.arg) (hv : X.env.scope.names.lookup ar.arg = some .local) (hσ : σ[0]? = some (some (.ref a))) (ho : H a = some (exo a C none)) (hq : Q .non H)
    (hks : X.env.kindOf "super" = some .globalImplicit := by rfl) (hkc : X.env.kindOf "__class__" = some .free := by rfl)
    (hst : starEach [.Constant (.str msg) j p3] X.env = [(false, eval (.Constant (.str msg) j p3) X.env)] := by rfl)
    (he : eval (.Call (.Attribute (.Call (.Name "super" p0) [] [] p1) "__init__" apos) [.Constant (.str msg) j p3] [] pos) X.env = (do
      let ov ← attributeBase (.Call (.Name "super" p0) [] [] p1) "__init__" X.env (eval (.Call (.Name "super" p0) [] [] p1) X.env)
      standAt apos.atName
      let (f, first) ← holding [ov] (getMethod ov "__init__" pl)
      callWith pos f first (backTo pos (starEach [.Constant (.str msg) j p3] X.env)) []) := by rfl) :
    RnX X (.func body X.env) (.Call (.Attribute (.Call (.Name "super" p0) [] [] p1) "__init__" apos) [.Constant (.str msg) j p3] [] pos) σ H Q := by
  intro pins s I
  obtain ⟨oc, od, kV, doc, pm, an, ct, osl, hfd, lk⟩ := T.d.ex
  obtain ⟨cl, cld, csl, hcc⟩ := T.d.cell
  obtain ⟨ccl, cdd, vs, ccs, file, tf, hcode, hvs, hfile⟩ := T.d.code
  obtain ⟨cdD, hD⟩ := T.d.cls
  have KX : X.K.In s.heap := I.kIn
  obtain ⟨oD, hD1, hD2⟩ : ∃ oD, s.heap.get? C = some oD ∧ oD.data = .cls cdD := by
    have hD := hD
    unfold PySem.W.clsIn at hD
    split at hD
    · rename_i c d cd' sl ho
      cases hD
      exact ⟨_, KX _ _ ho, rfl⟩
    · cases hD
  obtain ⟨t1, hoe⟩ := exo_at I.hok ho
  have J : PySem.W.InstAt s.heap a { cls := .ref C, dict := none, data := .fields #[.ref t1, .none, .none, .none, .bool false, .none] } C none := ⟨hoe, rfl, rfl, trivial⟩
  refine ks_wpAt_MethodCall (ks_wpAt_super_base hks hkc (by decide) hf (KX _ _ lk) (by rw [hfd]) hp1 hcd (KX _ _ hcode) rfl hvs hfile T.d.top ?_) he
  obtain ⟨mb, b1, b2⟩ := I.mod.blt
  refine PySem.W.ks_loadName_global I.ok.kind hks (Calls.loadGlobal_builtin (by rw [I.ok.glob]; exact I.mod.glob.keeps I.bk) T.d.glo (by rw [I.ok.blt]; exact b1.keeps I.bk) ((b2 "super" (by decide)).trans (by decide +kernel)) ⟨rfl, ?_⟩)
  refine wpAny_loadName_free I.ok.kind hkc hce ⟨_, KX _ _ hcc, rfl⟩ ?_
  obtain ⟨mL, hn, hlk⟩ := I.loc
  obtain ⟨u, ru, lu⟩ := hlk 0 ar.arg _ hN hσ (.inl hv)
  obtain rfl : u = Value.ref a := ru
  have lu' : mL ar.arg = some (.ref a) := by
    rcases lu with ⟨_, z⟩ | ⟨z, _⟩
    · exact z
    · have z : X.env.scope.names.lookup ar.arg = some .cell ∨ X.env.scope.names.lookup ar.arg = some .free := z
      rw [hv] at z
      rcases z with z | z <;> cases z
  refine wpAny_loadName_local I.ok.kind hv hn lu' ?_
  refine ks_wpAny_isType_cls hD1 hD2 ⟨rfl, ?_⟩
  refine ks_wpAny_call_super hD1 hD2 J.at_ J.cls (fun c e => by cases e) (PySem.W.looks_mroIn KX T.mr) (fun h' eS k => ?_)
  have I1 : Inv X pins σ H { s with heap := h' } := I.kept (t' := s.toks) k
  have KX1 : X.K.In h' := KX.keeps k
  have hI0 : PySem.W.Looks (model X.prog X.w) s.heap (isInstance (.ref a) (.type "ValueError")) true := J.type.andThen (PySem.W.looks_subIn KX T.ve)
  have hI := hI0.keeps k
  have ksup' := T.su
  unfold PySem.W.ks_superIn at ksup'
  rw [hD] at ksup'
  refine PySem.W.kxs_getMethod PySem.W.kxs_ValueError eS (PySem.W.looks_opaque KX1 T.d.opq) (l₀ := cdD.mro) ?_ rfl KX1 ksup' hI (PySem.W.ks_ne KX J hD) (by decide) ?_
  · exact fun A Q E s k q => wpAny_bind ((PySem.W.looks_clsIn KX1 hD) A _ E s k (wpAny_pure q))
  have k2 : ∀ b o, h'.get? b = some o → (h'.push (PySem.W.kxs_mw "ValueError.__init__" a)).get? b = some o := fun b o z => Heap.get?_push_of_some _ z
  have I2 : Inv X pins σ H { s with heap := h'.push (PySem.W.kxs_mw "ValueError.__init__" a), toks := s.toks + 1 } := I1.kept (t' := s.toks + 1) k2
  have hmw : (h'.push (PySem.W.kxs_mw "ValueError.__init__" a)).get? h'.objs.size = some (PySem.W.kxs_mw "ValueError.__init__" a) := Heap.get?_push_size h' rfl
  show wpAny (model X.prog X.w) X.A (callWith pos (.ref h'.objs.size) [] (backTo pos (starEach [.Constant (.str msg) j p3] X.env)) []) (EP X pins σ Q) X.xe _
  rw [hst]
  refine PySem.W.kxs_callWith (i := "ValueError.__init__") (x := a) rfl (Calls.evalArgs_plain (Calls.spliced_cons (Calls.Constant_str (k := j) (pos := p3) (Calls.spliced_nil ⟨hmw, ?_⟩))))
  obtain ⟨nm, q, N, bs, bm, sn, sub, ab, col, dd, k0, kk1, kk2, k3, k5, hC, hbm⟩ := T.o.cls
  have hoe2 := k2 _ _ (k _ _ hoe)
  refine wpAny_call (codeAny_of_tree ?_)
  show wpAny _ _ (callAny (.ref h'.objs.size) ⟨[.str msg (s.toks + 1)], []⟩) _ _ _
  simp only [callAny]
  refine wpAny_bind (wpAny_load hmw ?_)
  simp only [PySem.W.kxs_mw, show (Value.type "method-wrapper" == Value.type "method" || Value.type "method-wrapper" == Value.type "builtin_function_or_method" || Value.type "method-wrapper" == Value.type "method-wrapper") = true by decide, if_true]
  refine PySem.W.KFB.if_so (by decide) ?_
  refine wpAny_bind (PySem.W.check_bound_init F.excBase_ValueError.toExcCallFacts (I2.kIn _ _ hC) hoe2 rfl ?_)
  refine wpAny_bind (wpAny_pure (wpAny_pure ?_))
  refine ⟨plainId_quiet F.excBase_ValueError.init.plain _, codeAny_builtin F.excBase_ValueError.initEntry ?_⟩
  refine PySem.W.exc_init_tree (cls := .ref C) (t0 := t1) (dv := none) (c2 := .none) (c3 := .none) (b4 := .bool false) hoe2 (by rw [sizeLine_eq]; exact (by decide : 1 ≤ 16777216)) fun h3 k3 hx _ => ?_
  have I3 : Inv X pins σ H { s with heap := h'.push (PySem.W.kxs_mw "ValueError.__init__" a), toks := s.toks + 1 + 1 } := I1.kept (t' := s.toks + 1 + 1) k2
  have J3 := I3.write (t' := s.toks + 1 + 1) (h' := h3) (x := a) (e := a) (o := exo a C none) (by rw [ho]; exact True.intro) (.inl rfl) k3 ⟨_, hx⟩ (exo_ok hx)
  have eu : upd H a (exo a C none) = H := by
    funext b
    by_cases hb : b = a
    · rw [hb, upd_same, ho]
    · rw [upd_ne hb]
  rw [eu] at J3
  exact ⟨.non, H, J3, rfl, hq⟩
end

/-! ### an __init__ with one field -/
section
variable {X : Cx} {c : Code} {σ : L2.St} {H : Hp} {E : Ends} {st : Stmt} {sts : List Stmt} {e : Expr} {pos : Pos}
theorem rbx_cons (h : RnSX X c st { nx := fun σ1 H1 => RnBX X c sts E σ1 H1, bk := E.bk, ct := E.ct, rt := E.rt } σ H) : RnBX X c (st :: sts) E σ H := by
  intro pins s I
  refine ks_wpAt_execs_cons (_root_.PySem.wpAt_mono (h pins s I) (fun f s' h => ?_) fun _ _ z => z)
  cases f with
  | next =>
    obtain ⟨σ', H', I', q⟩ := h
    exact q pins s' I'
  | ret u => exact h
  | brk => exact h
  | cont => exact h
theorem rsx_expr (h : RnX X c e σ H fun _ H1 => E.nx σ H1) (hi : interactive X.env = false := by rfl) (hs : swapsWith e none pos.line X.env = pure false := by rfl) : RnSX X c (.Expr e pos) E σ H := by
  intro pins s I
  refine ks_wpAt_Expr_any (_root_.PySem.wpAt_mono (h pins s I) (fun v s' h => ?_) fun _ _ z => z) hi hs
  obtain ⟨v, H', I', r, q⟩ := h
  exact ⟨σ, H', I', q⟩
theorem rbx_of (h : RnSs X sts E σ H) : RnBX X c sts E σ H := fun pins s I => _root_.PySem.wpAt_of_wpAny (h pins s I)
end
def spX (C : Addr) (f : Str) : Sp := fun vs H Q _ => ∃ a y, vs = [.ref a, y] ∧ H a = some (exo a C none) ∧ ∀ dx, H dx = none → dx ≠ a → Q .non (upd (upd H dx (exd dx [(f, y)])) a (exo a C (some dx)))
theorem fn_xi {P : Program} {w : World} {K : Frag} {mg : MG} {base : Heap} {k : Nat} {x qual f : Str} {st : Stmt} {C fI : Addr} {fd : FuncData} {cc cda : Addr} {ar : Arg} {msg : Str} {j : Nat} {p0 p1 p2 p3 p4 p5 q1 q2 q3 q4 : Pos} (T : XCls P K mg x qual st C fI fd cc cda)
    (hno : PySem.W.findIn K (.ref C) f = some none) (S : NdefX.NScope ["self", f, "__class__"] ["self", f] ["__class__"] (defScope st))
    (hb : defBody st = [.Expr (.Call (.Attribute (.Call (.Name "super" p0) [] [] p1) "__init__" p2) [.Constant (.str msg) j p3] [] p4) p5, .Assign [.Attribute (.Name "self" q1) f q2] (.Name f q3) q4])
    (hp1 : ((defArgs st).posonlyargs ++ (defArgs st).args).head? = some ar) (har : ar.arg = "self")
    (s1 : (defScope st).names.lookup ("self" : Str) = some .local) (s2 : (defScope st).names.lookup f = some .local) (s3 : (defScope st).names.lookup ("super" : Str) = some .globalImplicit) (s4 : (defScope st).names.lookup ("__class__" : Str) = some .free)
    (hd1 : (f == ("__debug__" : Str)) = false) (hd2 : (f == ("__classdict__" : Str)) = false) {pl : Addr → Sem Bool} (hi : ∀ L, interactive (NdefX.envF (SupD.nf "__init__" qual st cc cda) fI L) = false)
    (hs : ∀ L, swapsWith (.Call (.Attribute (.Call (.Name "super" p0) [] [] p1) "__init__" p2) [.Constant (.str msg) j p3] [] p4) none p5.line (NdefX.envF (SupD.nf "__init__" qual st cc cda) fI L) = pure false)
    (he : ∀ L, eval (.Call (.Attribute (.Call (.Name "super" p0) [] [] p1) "__init__" p2) [.Constant (.str msg) j p3] [] p4) (NdefX.envF (SupD.nf "__init__" qual st cc cda) fI L) = (do
      let ov ← attributeBase (.Call (.Name "super" p0) [] [] p1) "__init__" (NdefX.envF (SupD.nf "__init__" qual st cc cda) fI L) (eval (.Call (.Name "super" p0) [] [] p1) (NdefX.envF (SupD.nf "__init__" qual st cc cda) fI L))
      standAt p2.atName
      let (f, first) ← holding [ov] (getMethod ov "__init__" (pl L))
      callWith p4 f first (backTo p4 (starEach [.Constant (.str msg) j p3] (NdefX.envF (SupD.nf "__init__" qual st cc cda) fI L))) []))
    (hs2 : ∀ L, swapsWith (.Name f q3) (some (.Attribute (.Name "self" q1) f q2)) q4.line (NdefX.envF (SupD.nf "__init__" qual st cc cda) fI L) = pure false) :
    FnOk P w K mg base (L2.CX P w) (k + 1) fI fd ["self", f] (spX C f) := by
  refine fn_supR T.d S (fun vs H Q E h => by obtain ⟨a, y, rfl, _⟩ := h; rfl) fun A outer s H vs Q E hr h => ?_
  obtain ⟨a, y, rfl, ha, hq⟩ := h
  rw [hb]
  refine rbx_cons (rsx_expr ?_ (hi s.heap.objs.size) (hs s.heap.objs.size))
  refine rx_init (x := x) (a := a) (pl := pl s.heap.objs.size) T rfl rfl (by show List.lookup _ [(_, cc)] = _; simp [List.lookup]) hp1 (by rw [har]; rfl) (by rw [har]; exact s1) rfl ha ?_ s3 s4 rfl (he s.heap.objs.size)
  refine rbx_of ?_
  refine (pss_cons (ps_ost (pv 0 rfl (.inl s1)) (pv 1 rfl (.inl s2) hd1 hd2) (hs2 s.heap.objs.size)) pss_nil).rn ?_
  exact ⟨y, rfl, .ref a, rfl, a, C, rfl, T.o, hno, .inl ⟨ha, fun dx h1 h2 => hq dx h1 h2⟩⟩

/-! ### raise C(e) -/
/-- an own error with one field -/
structure Own (P : Program) (w : World) (K : Frag) (mg : MG) (base : Heap) (g : Sig) (c j : Nat) (k : Nat) : Prop where
  ex : ∃ C fI fd ps, mg (g.cn c) = some (.ref C) ∧ OexC K C ∧ PySem.W.findIn K (.ref C) "__init__" = some (some (.ref fI)) ∧ PySem.W.typeIn K (.ref fI) = some (.type "function") ∧ Binds K fd ps [] ∧ FnOk P w K mg base (L2.CX P w) k fI fd ps (spX C (g.fn j))
def sRai (c j : Nat) (fe : EM) : SM := fun env S => (fe env S).thn env fun r S1 => match r with
  | .v d => .exc c [j] [d] env S1
  | _ => .bad
section
variable {X : Cx} {W : WX} {xc : Option (Addr × Value × Option Addr)} {g : Sig} {pos p pos2 : Pos} {x : Str} {e : Expr} {fe : EM} {k : Nat}
theorem js_raise (c j : Nat) (O : Own X.prog X.w X.K X.mg X.base g c j k) (hr : Room (k + 1) X.A) (hc : X.calm = true) (tk : Takes X W) (ha : JE X W xc g e fe) (hx : g.cn c = x := by rfl) (hg : Gl X x := by rfl) (hdb : (x == ("__debug__" : Str)) = false := by decide)
    (he : starEach [e] X.env = [(false, eval e X.env)] := by rfl) : JS X W xc g (.Raise (some (.Call (.Name x p) [e] [] pos)) none pos2) (sRai c j fe) := by
  subst hx
  obtain ⟨C, fI, fd, ps, h1, h2, h3, h4, h5, h6⟩ := O.ex
  intro env S wd σ H E hxc hen hl hp
  refine (ps_raise (pos := pos2) hc tk (pmk_oex (p := p) (pos := pos) h2 h3 h4 h6 hr h5 .nil passL hg h1 (pa_cons pe_rn pa_nil he) hdb he rfl)).rn ?_
  show Rn X e σ H _
  refine ha env S wd σ H _ hxc hen hl (Post.imp (fun r S1 wd1 H1 x1 r1 q1 v hv => ?_) (PostS.res hen hp))
  cases r with
  | v d =>
    refine ⟨by show 1 ≤ 1000; decide, fun a ha => ⟨a, v, rfl, upd_same, fun dx hd hda => ⟨rfl, dx, [(g.fn j, v)], upd_same, by rw [upd_ne hda, upd_same], ?_, ?_⟩⟩⟩
    · rw [upd_ne hda] at hd
      exact hd
    · rw [upd_ne hda] at hd
      have eh : upd (del (upd (upd (upd H1 a (exo a C none)) dx (exd dx [(g.fn j, v)])) a (exo a C (some dx))) a) dx (.xd [(g.fn j, v)]) = upd H1 dx (.xd [(g.fn j, v)]) := by
        funext b
        by_cases hb : b = dx
        · rw [hb, upd_same, upd_same]
        · rw [upd_ne hb, upd_ne hb]
          by_cases hba : b = a
          · rw [hba, del_same, ha]
          · rw [del_ne hba, upd_ne hba, upd_ne hb, upd_ne hba]
      rw [eh]
      refine q1 (wd1.frz dx (.xd [(g.fn j, v)])) (.ref C) (some dx) σ _ (Ext.froz (o := .xd [(g.fn j, v)]) hd (r1.noF hd)) (r1.froz hd) ((hen.up x1).up (Ext.froz (o := .xd [(g.fn j, v)]) hd (r1.noF hd))) ?_
      exact ⟨C, h1, rfl, .inr ⟨dx, [(g.fn j, v)], rfl, upd_same, rfl, .cons (At.up (frz_lat (r1.noF hd)) hv) .nil⟩⟩
  | l k => exact q1.elim
  | e c ks ds => exact q1.elim
end
end Mi

/-! Mi 14: try, except as -/
namespace Mi
open PySem L2

def isE : Option R → Bool
  | some (.e _ _ _) => true
  | _ => false
def cleanE (env : Env) : Bool := env.all fun o => !isE o
section
variable {K : Frag} {mg : MG} {g : Sig} {wd wd' : Wd} {H H' : Hp} {S : Sto}
theorem RAt.any {r : R} {v : V} (x : Option (Addr × Value × Option Addr)) (h : RAt K mg g wd r v) (hn : isE (some r) = false) : RAt K mg g { wd with xc := x } r v := by
  cases r with
  | v d => exact h
  | l k => exact h
  | e c ks ds => cases hn
theorem EnvAt.any {env : Env} {σ : L2.St} (x : Option (Addr × Value × Option Addr)) (h : EnvAt K mg g wd env σ) (hc : cleanE env = true) : EnvAt K mg g { wd with xc := x } env σ := by
  refine ⟨h.len, fun i r e => ?_⟩
  obtain ⟨v, h1, h2⟩ := h.at_ i r e
  refine ⟨v, h1, h2.any x ?_⟩
  have := List.all_eq_true.mp hc _ (List.mem_of_getElem? e)
  simpa using this
theorem Rel.any (x : Option (Addr × Value × Option Addr)) (h : Rel K mg g wd S H) : Rel K mg g { wd with xc := x } S H := by
  refine ⟨h.sub, h.len, h.nd, fun k a c h1 h2 => ?_⟩
  have := h.cell k a c h1 h2
  cases c with
  | lst ds => exact this
  | ins c ks ds => exact this
  | gone => exact this
theorem Ext.anyR {x : Option (Addr × Value × Option Addr)} (h : Ext { wd with xc := x } H wd' H') : Ext wd H { wd' with xc := wd.xc } H' := ⟨h.mono, h.fnew, h.pre, h.keep, h.dom, rfl⟩
end
def sTry (M : Nat → Option Bool) (i : Nat) (body suite : SM) : SM := fun env S => match body env S with
  | .exc c ks ds env1 S1 => match M c with
    | some true => if cleanE env1 = true then match suite (env1.set i (some (.e c ks ds))) S1 with
        | .ok (.nx env2) S2 => if cleanE (env2.set i none) = true then .ok (.nx (env2.set i none)) S2 else .bad
        | .ok (.rt r) S2 => if isE (some r) = false then .ok (.rt r) S2 else .bad
        | _ => .bad
      else .bad
    | some false => .exc c ks ds env1 S1
    | none => .bad
  | r => r
section
variable {X : Cx} {W : WX} {xc : Option (Addr × Value × Option Addr)} {g : Sig} {pos pos' np : Pos} {x n : Str} {b₀ : Stmt} {body suite : List Stmt} {mb ms : SM}
/-- what except C asks of a class -/
structure Exm (K : Frag) (mg : MG) (g : Sig) (c : Nat) (cv : Value) (b : Bool) : Prop where
  ex : ∃ C, mg (g.cn c) = some (.ref C) ∧ PySem.W.exmOne K (.ref C) cv = some b
theorem js_try (M : Nat → Option Bool) (i : Nat) {cv : Value} (hM : ∀ c b, M c = some b → Exm X.K X.mg g c cv b) (hs : X.stack = X.env :: X.outer) (hf : X.env.frame = some X.env.locals) (hN : X.N.Nodup) (hc : X.mg x = some cv) (tk : Takes X W)
    (hb : ∀ (W' : WX) (pn : List (Addr × Obj)) (xe : Value → Shared → Prop), Takes (X.tr pn xe) W' → PassesOwn (model X.prog X.w) X.A X.env xe → JB (X.tr pn xe) W' xc g body mb)
    (hsu : ∀ (a : Addr) (oe : Obj) (cls : Value) (d : Option Addr) (pn : List (Addr × Obj)), Zc cls d oe → (∃ vs, oe.data = .fields vs) → JB (X.suite a ((a, oe) :: pn)) (fun _ _ _ _ => False) (some (a, cls, d)) g (b₀ :: suite) ms)
    (hi : X.N[i]? = some n := by rfl) (hln : X.env.kindOf n = some .local := by rfl) (hg : Gl X x := by rfl) (hdb : (x == ("__debug__" : Str)) = false := by decide) :
    JS X W xc g (.Try body [.ExceptHandler (some (.Name x np)) (some n) (b₀ :: suite) pos'] [] [] pos) (sTry M i mb ms) := by
  intro env S wd σ H E hxc hen hl hp
  refine (ps_try_as (np := np) (pos := pos) (pos' := pos') (tb := fun W' D σ H => ∀ pn xe, Takes (X.tr pn xe) W' → PassesOwn (model X.prog X.w) X.A X.env xe → RnSs (X.tr pn xe) body D σ H)
    (ts := fun a cls d D σ H => ∀ oe pn, Zc cls d oe → (∃ vs, oe.data = .fields vs) → RnSs (X.suite a ((a, oe) :: pn)) (b₀ :: suite) D σ H) hs hf hN hi hln ⟨hg, hdb, .inl hc⟩ tk
    (fun W' pn xe h1 h2 => ⟨fun pins s σ H D I q => q pn xe h1 h2 pins s I⟩) (fun a oe cls d pn h1 h2 => ⟨fun pins s σ H D I q => q oe pn h1 h2 pins s I⟩)).rn ?_
  intro pn xe tk' po
  refine hb _ pn xe tk' po env S wd σ H E hxc hen hl ?_
  unfold sTry at hp
  cases hm : mb env S with
  | ok f S1 => rw [hm] at hp; cases f <;> exact hp
  | bad => rw [hm] at hp; exact hp.elim
  | exc c ks ds env1 S1 =>
    rw [hm] at hp
    intro wd' cls d σ' H' x1 r1 e1 z1
    obtain ⟨C, q1, rfl, q3⟩ := id z1
    cases hMc : M c with
    | none => simp only [hMc] at hp; exact hp.elim
    | some b =>
      obtain ⟨C', k1, k2⟩ := (hM c b hMc).ex
      rw [q1] at k1
      cases k1
      refine ⟨b, k2, fun hbt a ha oe pn2 hz hfs => ?_, fun hbf => ?_⟩
      · subst hbt
        simp only [hMc] at hp
        split at hp
        · rename_i hcl
          have hlen : (env1.set i (some (R.e c ks ds))).length = (σ'.set i (some (V.ref a))).length := by rw [List.length_set, List.length_set]; exact e1.len
          have e2 : EnvAt X.K X.mg g { wd' with xc := some (a, .ref C, d) } (env1.set i (some (.e c ks ds))) (σ'.set i (some (.ref a))) := (e1.any (some (a, .ref C, d)) hcl).set ⟨a, .ref C, d, rfl, rfl, z1⟩
          refine hsu a oe (.ref C) d pn2 hz hfs _ S1 { wd' with xc := some (a, .ref C, d) } _ H' _ rfl e2 (r1.any _) ?_
          have hxw : wd'.xc = wd.xc := x1.xc
          cases hsm : ms (env1.set i (some (.e c ks ds))) S1 with
          | ok f S2 =>
            rw [hsm] at hp
            cases f with
            | nx env2 =>
              dsimp only at hp
              split at hp
              · rename_i hcl2
                intro wd3 σ3 H3 x3 r3 e3
                have x3' := x1.trans (Ext.anyR x3)
                refine hp { wd3 with xc := wd'.xc } (σ3.set i none) H3 x3' (r3.any _) ?_
                have e4 : EnvAt X.K X.mg g wd3 (env2.set i none) (σ3.set i none) := by
                  refine ⟨by rw [List.length_set, List.length_set]; exact e3.len, fun j r hj => ?_⟩
                  by_cases hij : i = j
                  · subst hij
                    rw [List.getElem?_set] at hj
                    split at hj
                    · split at hj
                      · cases hj
                      · cases hj
                    · rename_i hne; exact absurd rfl hne
                  · rw [List.getElem?_set_ne hij] at hj
                    obtain ⟨v, h1, h2⟩ := e3.at_ j r hj
                    exact ⟨v, by rw [List.getElem?_set_ne hij]; exact h1, h2⟩
                exact e4.any wd'.xc hcl2
              · exact hp.elim
            | rt r =>
              dsimp only at hp
              split at hp
              · rename_i hne
                intro wd3 v H3 x3 r3 e3
                exact hp { wd3 with xc := wd'.xc } v H3 (x1.trans (Ext.anyR x3)) (r3.any _) (e3.any wd'.xc hne)
              · exact hp.elim
            | bk env2 => exact hp.elim
            | ct env2 => exact hp.elim
          | exc c2 ks2 ds2 env2 S2 => rw [hsm] at hp; exact hp.elim
          | bad => rw [hsm] at hp; exact hp.elim
        · exact hp.elim
      · subst hbf
        simp only [hMc] at hp
        exact hp wd' (.ref C) d σ' H' x1 r1 e1 z1
end

/-! ### e.f -/
structure XFld (K : Frag) (mg : MG) (g : Sig) (c j : Nat) : Prop where
  ex : ∃ C, mg (g.cn c) = some (.ref C) ∧ XfC K C ∧ PySem.W.findIn K (.ref C) (g.fn j) = some none
  inj : ∀ i, g.fn i = g.fn j → i = j
def mXf (T : Nat → Bool) (j : Nat) (p : R) (S : Sto) : Res R := match p with
  | .e c ks ds => if T c = true then match lookK j ks ds with | some d => .ok (.v d) S | none => .bad else .bad
  | _ => .bad
section
variable {X : Cx} {W : WX} {g : Sig} {pos p0 p1 p2 p3 : Pos} {o : Expr} {fo : EM} {a : Addr} {oe : Obj} {cls : Value} {d : Option Addr} {pn : List (Addr × Obj)}
theorem je_xf (T : Nat → Bool) (j : Nat) {f : Str} (hT : ∀ c, T c = true → XFld X.K X.mg g c j) (hz : Zc cls d oe) (hfs : ∃ vs, oe.data = .fields vs) (ho : JE (X.suite a ((a, oe) :: pn)) W (some (a, cls, d)) g o fo) (hf : g.fn j = f := by rfl)
    (hb : attributeBase o f X.env (eval o X.env) = eval o X.env := by rfl) : JE (X.suite a ((a, oe) :: pn)) W (some (a, cls, d)) g (.Attribute o f pos) (eUn (mXf T j) fo) := by
  subst hf
  intro env S wd σ H Q hx hen hl hp
  have key : Rn (X.suite a ((a, oe) :: pn)) o σ H fun x H1 => ∃ C, cls = .ref C ∧ XfC X.K C ∧ PySem.W.findIn X.K (.ref C) (g.fn j) = some none ∧ x = .ref a ∧ ∃ (dd : Addr) (fs : List (Str × V)) (v : V), d = some dd ∧ H1 dd = some (.xd fs) ∧ fs.lookup (g.fn j) = some v ∧ Q v H1 := by
    refine ho env S wd σ H _ hx hen hl (Post.imp (fun r S1 wd1 H1 x1 r1 h1 v hv => ?_) (Post.bind hp))
    unfold mXf at h1
    split at h1
    · rename_i c ks ds
      split at h1
      · rename_i hc
        split at h1
        · rename_i dt ed
          obtain ⟨a', cls', d', e1, rfl, z⟩ := hv
          have e2 := e1.symm.trans (x1.xc.trans hx)
          cases e2
          obtain ⟨C, m1, rfl, z⟩ := z
          obtain ⟨C', k1, k2, k3⟩ := (hT c hc).ex
          rw [m1] at k1
          cases k1
          rcases z with ⟨rfl, rfl, _⟩ | ⟨dd, fs, rfl, z1, z2, z3⟩
          · simp [lookK] at ed
          · obtain ⟨v, y1, y2⟩ := lookK_at (hT c hc).inj z2 z3 ed
            exact ⟨C, rfl, k2, k3, rfl, dd, fs, v, rfl, r1.sub _ _ z1, y1, Post.now r1 h1 _ y2⟩
        · exact h1.elim
      · exact h1.elim
    · exact h1.elim
  intro pins s I
  refine attr_of hb (thn (key pins s I) fun u s1 hh => ?_)
  obtain ⟨x, H1, I1, rx, C, ec, T1, hno, ex, dd, fs, v, ed, ea, l, q⟩ := hh
  subst ec
  subst ex
  have one : PE (X.suite a ((a, oe) :: pn)) (.Attribute o (g.fn j) pos) (tXf a (.ref C) d C (g.fn j) (Rn (X.suite a ((a, oe) :: pn)) o)) := pe_xf T1 hno hz hfs pe_rn hb
  subst ed
  obtain rfl : u = Value.ref a := rx
  obtain ⟨ha, _⟩ := I1.pin (a, oe) (List.mem_append_left _ List.mem_cons_self)
  obtain ⟨vs, hd⟩ := hfs
  have hx : ObjOk X.prog X.w H1 s1.heap dd (.xd fs) := I1.hok dd _ ea
  obtain ⟨mA, hns, hr⟩ := hx
  obtain ⟨od, ho, hl⟩ := lookIn_ns hns
  obtain ⟨u, hu, ru⟩ := RelO.some_of (v := v) (o := mA (g.fn j)) (by rw [← l]; exact hr (g.fn j))
  have J : PySem.W.InstAt s1.heap a oe C (some od) := ⟨ha, hz.1, by unfold PySem.W.notCls; rw [hd] <;> rfl, by rw [hz.2]; exact ho⟩
  exact HandSPX.exc_get I1.kIn J T1.ga T1.gg T1.exC (PySem.W.findObj_own T1.hdC hno rfl (by rw [hl, hu])) (handed_of ru) ⟨v, H1, I1.tok _, ru, q⟩
end

/-! ### isinstance(e, C), isinstance(e, (C, ..)) -/
def rIsX (K : Frag) (a : Addr) (cls : Value) (d : Option Addr) : List V → Hp → VK → Prop := fun xs H Q => ∃ (D : Addr) (c : V) (cv : Value) (b : Bool), cls = .ref D ∧ ExcC K D ∧ xs = [.ref a, c] ∧ (∀ dd, d = some dd → ∃ fs, H dd = some (.xd fs)) ∧
  ((∀ u, RelV c u → u = cv) ∧ PySem.W.kitOne K (.ref D) cv = some b ∨ ∃ p cs us, c = .ref p ∧ H p = some (.tup cs) ∧ (∀ us', Vals cs us' → us' = us) ∧ PySem.W.kitAny K (.ref D) us = some b) ∧ Q (.bl b) H
theorem call_isX {X : Cx} {a : Addr} {oe : Obj} {cls : Value} {d : Option Addr} {pn : List (Addr × Obj)} (hz : Zc cls d oe) (hf : ∃ vs, oe.data = .fields vs) : CallR (X.suite a ((a, oe) :: pn)) (.builtin "isinstance") (rIsX X.K a cls d) := by
  intro pins s σ H xs us Q I r h
  obtain ⟨D, c, cv, b, rfl, C, rfl, hd, hc, q⟩ := h
  cases r with
  | cons rx rr =>
    cases rr with
    | cons rt rr =>
      cases rr
      cases rx
      obtain ⟨hget, _⟩ := I.pin (a, oe) (List.mem_append.mpr (.inl List.mem_cons_self))
      obtain ⟨vs, hv⟩ := hf
      obtain ⟨od, J⟩ : ∃ od, PySem.W.InstAt s.heap a oe D od := by
        obtain ⟨oc, odc, oda, osl⟩ := oe
        obtain ⟨h1, h2⟩ := hz
        dsimp only at h1 h2 hv
        subst h1 h2 hv
        cases odc with
        | none => exact ⟨none, hget, rfl, rfl, trivial⟩
        | some dd =>
          obtain ⟨fs, ed⟩ := hd dd rfl
          have hx : ObjOk X.prog X.w H s.heap dd (.xd fs) := I.hok dd _ ed
          obtain ⟨mA, hns, _⟩ := hx
          obtain ⟨od, ho, _⟩ := lookIn_ns hns
          exact ⟨some od, hget, rfl, rfl, ho⟩
      obtain ⟨cdD, hcD, _⟩ := PySem.W.any_some C.hd
      have KX := PySem.W.kitx_exc (K := X.K) (x := a) (C := D) (ox := oe) (od := od) (gt := none) (by rw [hcD]; rfl) C.hg C.hk C.hs C.ha C.hn C.ht C.hm
      rcases hc with ⟨hcv, e⟩ | ⟨p, cs, us2, rfl, ep, hus, e⟩
      · have ec := hcv _ rt
        subst ec
        exact PySem.W.kia_one KX I.kIn J e (fun z => nomatch z) fun tk => ⟨.bl b, H, I.kept (t' := tk) fun _ _ z => z, rfl, q⟩
      · cases rt
        have ht : ObjOk X.prog X.w H s.heap p (.tup cs) := I.hok p _ ep
        obtain ⟨_, its, rv, o, ho, hoc, n, hod⟩ := ht
        obtain rfl := hus its rv
        obtain ⟨oc, odc, oda, osl⟩ := o
        dsimp only at hoc hod
        subst hoc hod
        exact PySem.W.kia_tup KX I.kIn J ho e (fun z => nomatch z) fun tk => ⟨.bl b, H, I.kept (t' := tk) fun _ _ z => z, rfl, q⟩
structure IsX (K : Frag) (mg : MG) (g : Sig) (c : Nat) (ys : List Str) (tup b : Bool) : Prop where
  ex : ∃ C us, mg (g.cn c) = some (.ref C) ∧ ExcC K C ∧ ys.map mg = us.map (fun a => some (.ref a)) ∧ (if tup = true then PySem.W.kitAny K (.ref C) (us.map Value.ref) = some b else ∃ u, us = [u] ∧ PySem.W.kitOne K (.ref C) (.ref u) = some b)
def mIsX (I : Nat → Option Bool) (p : R) (S : Sto) : Res R := match p with
  | .e c _ _ => match I c with | some b => .ok (.v (.bl b)) S | none => .bad
  | _ => .bad
section
variable {X : Cx} {W : WX} {g : Sig} {pos p0 p1 p2 p3 : Pos} {o : Expr} {fo : EM} {a : Addr} {oe : Obj} {cls : Value} {d : Option Addr} {pn : List (Addr × Obj)}
theorem je_isX (I : Nat → Option Bool) {y : Str} (hI : ∀ c b, I c = some b → IsX X.K X.mg g c [y] false b) (hz : Zc cls d oe) (hfs : ∃ vs, oe.data = .fields vs) (ho : JE (X.suite a ((a, oe) :: pn)) W (some (a, cls, d)) g o fo) (hm : X.mg "isinstance" = none) {yu : Addr} (hy : X.mg y = some (.ref yu))
    (hg : Gl X "isinstance" := by rfl) (hgy : Gl X y := by rfl) (hdb : (y == ("__debug__" : Str)) = false := by decide)
    (he : starEach [o, .Name y p1] X.env = (false, eval o X.env) :: starEach [.Name y p1] X.env := by rfl) (he2 : starEach [.Name y p1] X.env = (false, eval (.Name y p1) X.env) :: starEach [] X.env := by rfl) (hpl : (backTo pos (starEach [.Name y p1] X.env)).any (·.1) = false := by rfl) :
    JE (X.suite a ((a, oe) :: pn)) W (some (a, cls, d)) g (.Call (.Name "isinstance" p0) [o, .Name y p1] [] pos) (eUn (mIsX I) fo) := by
  intro env S wd σ H Q hx hen hl hp
  have hT : PE (X.suite a ((a, oe) :: pn)) (.Name y p1) (tC (.ref yu)) := pe_glob hgy hy rfl hdb
  refine (pe_callB (X := X.suite a ((a, oe) :: pn)) (p := p0) (pos := pos) (call_isX hz hfs) hg hm PyProof.Rows.boot_isinstance (pa_cons pe_rn (pa_cons hT pa_nil he2) he) (by decide) (by decide) he hpl).rn ?_
  refine ho env S wd σ H _ hx hen hl (Post.imp (fun r S1 wd1 H1 x1 r1 h1 v hv => ?_) (Post.bind hp))
  unfold mIsX at h1
  split at h1
  · rename_i c ks ds
    split at h1
    · rename_i b eb
      obtain ⟨a', cls', d', e1, rfl, z⟩ := hv
      have e2 := e1.symm.trans (x1.xc.trans hx)
      cases e2
      obtain ⟨C, m1, rfl, z⟩ := z
      obtain ⟨C', us, k1, k2, k3, k4⟩ := (hI c b eb).ex
      rw [m1] at k1
      cases k1
      rw [if_neg Bool.false_ne_true] at k4
      obtain ⟨u, rfl, k4⟩ := k4
      have k3' : [X.mg y] = [some (Value.ref u)] := k3
      rw [hy] at k3'
      cases k3'
      refine ⟨C, .ref yu, .ref yu, b, rfl, k2, rfl, fun dd e => ?_, .inl ⟨fun u r => r, k4⟩, Post.now r1 h1 _ (.bl _)⟩
      rcases z with ⟨_, _, z⟩ | ⟨dd', fs, z0, z1, _, _⟩
      · rw [z] at e; cases e
      · rw [z0] at e
        cases e
        exact ⟨fs, r1.sub _ _ z1⟩
    · exact h1.elim
  · exact h1.elim
theorem je_isXs (I : Nat → Option Bool) {y1 y2 y3 : Str} {q1 q2 q3 : Pos} {ctx : _} (hI : ∀ c b, I c = some b → IsX X.K X.mg g c [y1, y2, y3] true b) (hz : Zc cls d oe) (hfs : ∃ vs, oe.data = .fields vs) (ho : JE (X.suite a ((a, oe) :: pn)) W (some (a, cls, d)) g o fo) (hm : X.mg "isinstance" = none)
    {u1 u2 u3 : Addr} (hy1 : X.mg y1 = some (.ref u1)) (hy2 : X.mg y2 = some (.ref u2)) (hy3 : X.mg y3 = some (.ref u3))
    (hg : Gl X "isinstance" := by rfl) (hg1 : Gl X y1 := by rfl) (hg2 : Gl X y2 := by rfl) (hg3 : Gl X y3 := by rfl) (hd1 : (y1 == ("__debug__" : Str)) = false := by decide) (hd2 : (y2 == ("__debug__" : Str)) = false := by decide) (hd3 : (y3 == ("__debug__" : Str)) = false := by decide)
    (he : starEach [o, .Tuple [.Name y1 q1, .Name y2 q2, .Name y3 q3] ctx p1] X.env = (false, eval o X.env) :: starEach [.Tuple [.Name y1 q1, .Name y2 q2, .Name y3 q3] ctx p1] X.env := by rfl)
    (he2 : starEach [.Tuple [.Name y1 q1, .Name y2 q2, .Name y3 q3] ctx p1] X.env = (false, eval (.Tuple [.Name y1 q1, .Name y2 q2, .Name y3 q3] ctx p1) X.env) :: starEach [] X.env := by rfl)
    (hpl : (backTo pos (starEach [.Tuple [.Name y1 q1, .Name y2 q2, .Name y3 q3] ctx p1] X.env)).any (·.1) = false := by rfl)
    (s1 : starEach [.Name y1 q1, .Name y2 q2, .Name y3 q3] X.env = (false, eval (.Name y1 q1) X.env) :: starEach [.Name y2 q2, .Name y3 q3] X.env := by rfl)
    (s2 : starEach [.Name y2 q2, .Name y3 q3] X.env = (false, eval (.Name y2 q2) X.env) :: starEach [.Name y3 q3] X.env := by rfl)
    (s3 : starEach [.Name y3 q3] X.env = (false, eval (.Name y3 q3) X.env) :: starEach [] X.env := by rfl) :
    JE (X.suite a ((a, oe) :: pn)) W (some (a, cls, d)) g (.Call (.Name "isinstance" p0) [o, .Tuple [.Name y1 q1, .Name y2 q2, .Name y3 q3] ctx p1] [] pos) (eUn (mIsX I) fo) := by
  intro env S wd σ H Q hx hen hl hp
  have hT : PE (X.suite a ((a, oe) :: pn)) (.Tuple [.Name y1 q1, .Name y2 q2, .Name y3 q3] ctx p1) (tTup (tCons (tC (.ref u1)) (tCons (tC (.ref u2)) (tCons (tC (.ref u3)) tNil)))) :=
    pe_tup (pa_cons (pe_glob hg1 hy1 rfl hd1) (pa_cons (pe_glob hg2 hy2 rfl hd2) (pa_cons (pe_glob hg3 hy3 rfl hd3) pa_nil s3) s2) s1)
  refine (pe_callB (X := X.suite a ((a, oe) :: pn)) (p := p0) (pos := pos) (call_isX hz hfs) hg hm PyProof.Rows.boot_isinstance (pa_cons pe_rn (pa_cons hT pa_nil he2) he) (by decide) (by decide) he hpl).rn ?_
  refine ho env S wd σ H _ hx hen hl (Post.imp (fun r S1 wd1 H1 x1 r1 h1 v hv => ?_) (Post.bind hp))
  unfold mIsX at h1
  split at h1
  · rename_i c ks ds
    split at h1
    · rename_i b eb
      obtain ⟨a', cls', d', e1, rfl, z⟩ := hv
      have e2 := e1.symm.trans (x1.xc.trans hx)
      cases e2
      obtain ⟨C, m1, rfl, z⟩ := z
      obtain ⟨C', us, k1, k2, k3, k4⟩ := (hI c b eb).ex
      rw [m1] at k1
      cases k1
      rw [if_pos rfl] at k4
      have k3' : us.map (fun a => some (Value.ref a)) = [u1, u2, u3].map (fun a => some (Value.ref a)) := by
        rw [← k3]
        show [X.mg y1, X.mg y2, X.mg y3] = _
        rw [hy1, hy2, hy3] <;> rfl
      have hus : us = [u1, u2, u3] := by
        have inj : Function.Injective (fun a : Addr => some (Value.ref a)) := fun x y h => by simpa using h
        exact (List.map_inj_right (fun x y h => inj h)).mp k3'
      subst hus
      refine ⟨by show 3 ≤ sizeLine; rw [sizeLine_eq]; decide, fun p hpn => ?_⟩
      have xF := Ext.fresh (wd := wd1) (H := H1) (o := .tup [.ref u1, .ref u2, .ref u3]) hpn
      have rF := r1.fresh (o := .tup [.ref u1, .ref u2, .ref u3]) hpn
      refine ⟨C, .ref p, .ref p, b, rfl, k2, rfl, fun dd e => ?_, .inr ⟨p, [.ref u1, .ref u2, .ref u3], [u1, u2, u3].map Value.ref, rfl, upd_same, fun us' r => ?_, k4⟩, Post.now rF (Post.later xF h1) _ (.bl _)⟩
      · rcases z with ⟨_, _, z⟩ | ⟨dd', fs, z0, z1, _, _⟩
        · rw [z] at e; cases e
        · rw [z0] at e
          cases e
          exact ⟨fs, rF.sub _ _ z1⟩
      · cases r with
        | cons a1 r => cases r with
          | cons a2 r => cases r with
            | cons a3 r => cases r; cases a1; cases a2; cases a3; rfl
    · exact h1.elim
  · exact h1.elim
end
end Mi

/-! Mi 15: t[::-1], t a tuple -/
namespace MiT
open PySem PySem.Spec PyProof.Rows L2 HT
section
variable {prog : Program} {w : World} {A : Around} {E : Value → Shared → Prop} {s : Shared}
theorem adjust_rev (n : Nat) : Builtin.Slice.sliceAdjust none none (-1) (n : Int) = ((n : Int) - 1, -1) := by
  unfold Builtin.Slice.sliceAdjust
  first | rfl | simp
theorem places_rev (n : Nat) : Builtin.Slice.slicePlaces ((n : Int) - 1) (-1) (-1) = n := by
  unfold Builtin.Slice.slicePlaces
  have h1 : ¬ ((-1 : Int) > 0) := by omega
  simp only [h1, if_false]
  split
  · rw [show (- -1 : Int) = 1 by decide, Int.ediv_one]
    omega
  · omega
theorem sliceApplied_rev {sl : Addr} {vl vu vs : Value} {n : Nat} {Q : Int × Int × Nat → Shared → Prop} (hs : s.heap.IsSliceOf sl vl vu vs) (pl : IsPart vl none) (pu : IsPart vu none) (ps : IsPart vs (some (-1)))
    (h : Q ((n : Int) - 1, -1, n) s) : wpAny (model prog w) A (Builtin.Slice.sliceApplied (.ref sl) (pure (n : Int))) Q E s := by
  obtain ⟨os, hos, hcs, hds⟩ := id hs
  unfold Builtin.Slice.sliceApplied Builtin.Slice.sliceFields
  refine wpAny_bind (wpAny_bind (wpAny_field hos hds (x := vl) rfl (wpAny_bind (wpAny_field hos hds (x := vu) rfl (wpAny_bind (wpAny_field hos hds (x := vs) rfl (wpAny_pure ?_)))))))
  refine wpAny_bind (slicePart_ ps ?_)
  show wpAny _ _ (if ((-1 : Int) == 0) = true then _ else _) _ _ s
  rw [if_neg (by decide)]
  refine wpAny_bind (slicePart_ pl (wpAny_bind (slicePart_ pu (wpAny_bind (wpAny_pure ?_)))))
  show wpAny _ _ (match Builtin.Slice.sliceAdjust none none (-1) (n : Int) with | (lo, hi) => pure (lo, (-1 : Int), Builtin.Slice.slicePlaces lo hi (-1))) _ _ s
  rw [adjust_rev n]
  show wpAny _ _ (pure ((n : Int) - 1, (-1 : Int), Builtin.Slice.slicePlaces ((n : Int) - 1) (-1) (-1))) _ _ s
  rw [places_rev]
  exact wpAny_pure h
theorem pick_rev (xs : Array Value) : ((List.range xs.size).filterMap fun (m : Nat) => xs[((xs.size : Int) - 1 + (m : Int) * (-1)).toNat]?).toArray = xs.toList.reverse.toArray := by
  have e : (List.range xs.size).filterMap (fun (m : Nat) => xs[((xs.size : Int) - 1 + (m : Int) * (-1)).toNat]?) = ((List.range xs.size).map (fun k => xs.size - 1 - k)).filterMap (xs[·]?) := by
    rw [List.filterMap_map]
    have cong : ∀ (l : List Nat) (f g : Nat → Option Value), (∀ m ∈ l, f m = g m) → l.filterMap f = l.filterMap g := by
      intro l f g
      induction l with
      | nil => intro _; rfl
      | cons a l ih =>
        intro h
        rw [List.filterMap_cons, List.filterMap_cons, h a List.mem_cons_self, ih fun m hm => h m (List.mem_cons_of_mem _ hm)]
    apply cong
    intro m hm
    have := List.mem_range.mp hm
    have e : ((xs.size : Int) - 1 + (m : Int) * (-1)).toNat = xs.size - 1 - m := by omega
    rw [e] <;> rfl
  rw [e, PySem.W.krv_range, List.filterMap_reverse, PySem.W.krv_all]
theorem getItem_tuple_rev {t sl : Addr} {items : Array Value} {vl vu vs : Value} {Q : Value → Shared → Prop} (ht : IsTup s.heap t items) (hs : s.heap.IsSliceOf sl vl vu vs) (pl : IsPart vl none) (pu : IsPart vu none) (ps : IsPart vs (some (-1)))
    (h : Q (.ref s.heap.objs.size) { s with heap := s.heap.push { cls := .type "tuple", data := .seq items.toList.reverse.toArray } })
    (hsz : items.size ≤ sizeLine) : wpAny (model prog w) A (getItem (.ref t) (.ref sl)) Q E s := by
  have htake : sizeOk (.seq items.toList.reverse.toArray) := by
    show items.toList.reverse.toArray.size ≤ sizeLine
    rw [List.size_toArray, List.length_reverse, Array.length_toList]
    exact hsz
  obtain ⟨os, hos, hcs, hds⟩ := id hs
  have hTs : s.TypeIs (.ref sl) "slice" := ⟨os, hos, hcs⟩
  unfold getItem
  try with_reducible refine wpAny_holding ?_
  first | refine wpAny_bind (wpAny_pure ?_) | skip
  refine wpAny_bind (wpAny_sequenceKey ht.typeIs (by decide) ?_)
  refine wpAny_bind (wpAny_callSpecial?_slot (name := Str.ofString "__getitem__") ht.typeIs PyProof.Rows.slot_tuple_getitem
    (wpAny_call_entry PyProof.Rows.slot_tuple_getitem ht.typeIs entry_tuple_getitem ?_ (args_tuple_getitem _ _)))
  show wpAny _ _ (Builtin.Tuple.tupleItemsOf (.ref t) >>= _) _ _ s
  refine wpAny_bind (tupleItemsOf_ ht ?_)
  refine wpAny_bind (wpAny_typeOf hTs ?_)
  rw [if_pos (by decide)]
  refine wpAny_bind (sliceApplied_rev hs pl pu ps ?_)
  have hno : ¬ ((((items.size : Int) - 1) == 0 && (-1 : Int) == 1 && items.size == items.size) = true) := by
    intro q
    rw [Bool.and_eq_true, Bool.and_eq_true] at q
    exact absurd q.1.2 (by decide)
  show wpAny _ _ (if (((items.size : Int) - 1) == 0 && (-1 : Int) == 1 && items.size == items.size) = true then _ else _) _ _ s
  rw [if_neg hno, pick_rev]
  first
    | exact wpAny_bind (m := Builtin.Tuple.tupleExact _) (wpAny_newObj_type (wpAny_pure ⟨_, rfl, wpAny_pure h⟩) htake)
    | exact wpAny_bind (m := Builtin.Tuple.tupleExact _) (wpAny_newObj_type (wpAny_bind (wpAny_pure (wpAny_pure ⟨_, rfl, wpAny_pure h⟩))) htake)
    | exact wpAny_bind (wpAny_bind (m := Builtin.Tuple.tupleExact _) (wpAny_newObj_type (wpAny_pure (wpAny_pure ⟨_, rfl, wpAny_pure h⟩)) htake))
    | exact wpAny_bind (wpAny_bind (m := Builtin.Tuple.tupleExact _) (wpAny_newObj_type (wpAny_pure ⟨_, rfl, wpAny_pure h⟩) htake))
end
section
variable {X : Cx}
def tRevT (K : PySem.W.Frag) (te : TE) : TE := fun σ H Q => te σ H fun x H1 => ∃ a xs, x = .ref a ∧ SqT K H1 a xs ∧ ∀ p, H1 p = none → Q (.ref p) (upd H1 p (.tup xs.reverse))
theorem pe_revT {e : Expr} {te : TE} {k : Nat} {p1 p2 p3 pos : Pos} (he : PE X e te) : PE X (.Subscript e (.Slice none none (some (.UnaryOp .USub (.Constant (.int 1) k p1) p2)) p3) pos) (tRevT X.K te) := by
  refine ⟨fun pins s σ H Q I h => ?_⟩
  refine Subscript_ (thn (he.run pins s σ H _ I h) fun v s1 ⟨x, H1, I1, r1, q1⟩ => ?_)
  obtain ⟨a, xs, ex, hx, q⟩ := q1
  subst ex
  cases r1
  have hst : PO X (some (.UnaryOp .USub (.Constant (.int 1) k p1) p2)) (tPart (tUn (rU fun i => .int (-i)) (tC (.int 1)))) := po_some (pe_un un_neg pe_int)
  refine wpAny_Slice (thn (po_none.run pins s1 σ H1 (fun o H2 => o = none ∧ H2 = H1) I1 ⟨rfl, rfl⟩) fun vl s2 ⟨l, H2, I2, pl, el, e2⟩ => ?_)
  subst el e2
  refine thn (po_none.run pins s2 σ H2 (fun o H3 => o = none ∧ H3 = H2) I2 ⟨rfl, rfl⟩) fun vu s3 ⟨u, H3, I3, pu, eu, e3⟩ => ?_
  subst eu e3
  refine thn (hst.run pins s3 σ H3 (fun o H4 => o = some (-1) ∧ H4 = H3) I3 ⟨1, rfl, -1, rfl, rfl, rfl⟩) fun vs s4 ⟨o, H4, I4, ps, eo, e4⟩ => ?_
  subst eo e4
  have I5 : Inv X pins σ H4 { s4 with heap := s4.heap.push { cls := .type "slice", data := .fields #[vl, vu, vs] } } := I4.kept (t' := s4.toks) fun b ob q => Heap.get?_push_of_some _ q
  obtain ⟨its, r, ht, hz⟩ := I5.tuple hx
  have hlen := r.length
  show wpAny (model X.prog X.w) X.A (subscriptTail e (.Slice none none (some (.UnaryOp .USub (.Constant (.int 1) k p1) p2)) p3) (.ref a) (.ref s4.heap.objs.size)) (EP X pins σ Q) X.xe { s4 with heap := s4.heap.push { cls := .type "slice", data := .fields #[vl, vu, vs] } }
  refine tail_any (ops := [.ref a, .ref s4.heap.objs.size]) ht.typeIs (PyProof.Rows.slot_tuple_getitem.lookup) ?_ (by with_unfolding_all rfl)
  refine getItem_tuple_rev ht (Heap.IsSliceOf.new _ vl vu vs) pl pu ps ?_ (by rw [List.size_toArray]; omega)
  refine ⟨.ref _, _, I5.laid (t' := s4.toks) (o := .tup xs.reverse) (fun b ob q => Heap.get?_push_of_some _ q) (Nat.le_refl _) ?_, rfl, q _ (I5.hok.fresh (Nat.le_refl _))⟩
  exact ⟨by rw [List.length_reverse]; exact hz, _, r.reverse, ⟨_, Heap.get?_push_size _ rfl, rfl, _, rfl⟩⟩
end
end MiT
namespace Mi
open PySem L2
def mRevT (p : R) (S : Sto) : Res R := match p with
  | .v (.tup ds) => .ok (.v (.tup ds.reverse)) S
  | _ => .bad
section
variable {X : Cx} {W : WX} {xc : Option (Addr × Value × Option Addr)} {g : Sig} {pos p1 p2 p3 : Pos} {e : Expr} {fe : EM} {k : Nat}
theorem je_revT (ha : JE X W xc g e fe) : JE X W xc g (.Subscript e (.Slice none none (some (.UnaryOp .USub (.Constant (.int 1) k p1) p2)) p3) pos) (eUn mRevT fe) := by
  intro env S wd σ H Q hx hen hl hp
  refine (MiT.pe_revT (pos := pos) pe_rn).rn ?_
  refine ha env S wd σ H _ hx hen hl (Post.imp (fun r S1 wd1 H1 x1 r1 h1 v hv => ?_) (Post.bind hp))
  unfold mRevT at h1
  split at h1
  · cases hv with
    | tup q r z =>
      refine ⟨_, _, rfl, SqT.up r1.sub q, fun p hp => ?_⟩
      exact h1 (wd1.frz p (.tup _)) _ (Ext.froz (o := .tup _) hp (r1.noF hp)) (r1.froz hp) _ (At.tup (.inl (.inl upd_same)) (AtL.up (frz_lat (r1.noF hp)) r.rev) (by rw [List.length_reverse]; exact z))
  · exact h1.elim
end
end Mi

/-! Mi 16: what a def's text is judged with -/
namespace Mi
open PySem L2
section
variable {P : Program} {w : World} {K : Frag} {mg : MG} {base : Heap} {N : List Str} {qual : Str} {sc : Scope} {f : Addr} {cdv : Value} {A : Around} {outer : List PySem.Env} {s : Shared} {H : Hp} {E : XK} {F : NdefX.NF}
theorem tkc : Takes (cxOf (L2.CX P w) P w K mg base N qual sc f cdv A outer s H E) (fun cls d _ H' => E cls d H') := takes_of rfl rfl rfl rfl
theorem poc : PassesOwn (model P w) (cxOf (L2.CX P w) P w K mg base N qual sc f cdv A outer s H E).A (cxOf (L2.CX P w) P w K mg base N qual sc f cdv A outer s H E).env (cxOf (L2.CX P w) P w K mg base N qual sc f cdv A outer s H E).xe := passes_of rfl
theorem tkn : Takes (NdefX.ncx (L2.CX P w) P w K mg base N F f A outer s H E) (fun cls d _ H' => E cls d H') := takes_of rfl rfl rfl rfl
theorem pon : PassesOwn (model P w) (NdefX.ncx (L2.CX P w) P w K mg base N F f A outer s H E).A (NdefX.ncx (L2.CX P w) P w K mg base N F f A outer s H E).env (NdefX.ncx (L2.CX P w) P w K mg base N F f A outer s H E).xe := passes_of rfl
theorem tkb {X : Cx} : Takes X Wn := L2.takes0
theorem u64 {A : Around} {k : Nat} (hr : Room k A) : A.units + 64 < cLine := by have := hr.un; omega
theorem u65 {A : Around} {k : Nat} (hr : Room k A) : A.units + 65 < cLine := by have := hr.un; omega
end
section
variable {P : Program} {w : World} {K : Frag} {mg : MG} {base : Heap} {g : Sig} {x : Str} {j k n c : Nat} {m : FM} {D : Addr}
theorem Fn.mono (F : Fn P w K mg base g x j n m) (h : j ≤ k) : Fn P w K mg base g x k n m := by
  obtain ⟨f, fd, ps, h1, h2, h3, h4, h5⟩ := F.ex
  exact ⟨⟨f, fd, ps, h1, h2, h3, h4, h5.mono h⟩, F.len⟩
theorem Mth.mono (F : Mth P w K mg base g c x j n m) (h : j ≤ k) : Mth P w K mg base g c x k n m := by
  obtain ⟨C, f, fd, ps, h1, h2, h3, h4, h5, h6⟩ := F.ex
  exact ⟨⟨C, f, fd, ps, h1, h2, h3, h4, h5, h6.mono h⟩, F.len⟩
theorem Mak.mono (F : Mak P w K mg base g c j n m) (h : j ≤ k) : Mak P w K mg base g c k n m := by
  obtain ⟨C, f, fd, ps, h1, h2, h3, h4, h5⟩ := F.ex
  exact ⟨⟨C, f, fd, ps, h1, h2, h3, h4, h5.mono h⟩, F.len⟩
theorem Sup.mono (F : Sup P w K mg base g D c x j n m) (h : j ≤ k) : Sup P w K mg base g D c x k n m := by
  obtain ⟨C, f, fd, ps, h1, h2, h3, h4, h5, h6, h7, h8⟩ := F.ex
  exact ⟨⟨C, f, fd, ps, h1, h2, h3, h4, h5, h6, h7, h8.mono h⟩, F.len⟩
end
end Mi

/-! Mi 17: reckoning with mirrors, plain Lean -/
namespace Mi
open PySem L2
/-- not to be taken as a definition -/
theorem nr {α : Type} {a b : α} (h : a = b) : a = b := by
  cases h
  exact Eq.refl _
section
variable {α β : Type} {env : Env} {S S1 : Sto} {r : R} {d : D} {i j n N : Nat} {e fa fb fc fe fo fi : EM} {t ta tb : TM} {a b m : SM} {ar : AM} {op o o' : R → R → Sto → Res R} {u : R → Sto → Res R} {f : List R → Sto → Res R} {body suite : SM}
@[simp] theorem bind_ok {k : α → Sto → Res β} {x : α} : (Res.ok x S).bind k = k x S := nr rfl
@[simp] theorem bind_exc {k : α → Sto → Res β} {c : Nat} {ks : List Nat} {ds : List D} : (Res.exc c ks ds S : Res α).bind k = .exc c ks ds S := nr rfl
@[simp] theorem bind_bad {k : α → Sto → Res β} : (Res.bad : Res α).bind k = .bad := nr rfl
@[simp] theorem rthn_ok {k : α → Sto → RS} {x : α} : (Res.ok x S).thn env k = k x S := nr rfl
@[simp] theorem rthn_exc {k : α → Sto → RS} {c : Nat} {ks : List Nat} {ds : List D} : (Res.exc c ks ds S : Res α).thn env k = .exc c ks ds env S := nr rfl
@[simp] theorem rthn_bad {k : α → Sto → RS} : (Res.bad : Res α).thn env k = .bad := nr rfl
@[simp] theorem sthn_nx {k : SM} : (RS.ok (.nx env) S).thn k = k env S := nr rfl
@[simp] theorem sthn_rt {k : SM} : (RS.ok (.rt r) S).thn k = .ok (.rt r) S := nr rfl
@[simp] theorem sthn_exc {k : SM} {c : Nat} {ks : List Nat} {ds : List D} : (RS.exc c ks ds env S).thn k = .exc c ks ds env S := nr rfl
@[simp] theorem sthn_bad {k : SM} : RS.bad.thn k = .bad := nr rfl
@[simp] theorem eVar_ap : eVar i env S = (match env[i]? with | some (some r) => .ok r S | _ => .bad) := nr rfl
@[simp] theorem eC_ap : eC d env S = .ok (.v d) S := nr rfl
@[simp] theorem eOp_ap : eOp op fa fb env S = (fa env S).bind fun x S1 => (fb env S1).bind fun y S2 => op x y S2 := nr rfl
@[simp] theorem eUn_ap : eUn u fa env S = (fa env S).bind fun x S1 => u x S1 := nr rfl
@[simp] theorem aNil_ap : aNil env S = .ok [] S := nr rfl
@[simp] theorem aCons_ap : aCons e ar env S = (e env S).bind fun x S1 => (ar env S1).bind fun xs S2 => .ok (x :: xs) S2 := nr rfl
@[simp] theorem eApp_ap : eApp f ar env S = (ar env S).bind fun xs S1 => f xs S1 := nr rfl
@[simp] theorem tOf_ap : tOf e env S = (e env S).bind fun x S1 => match x with | .v (.bl b) => .ok b S1 | _ => .bad := nr rfl
@[simp] theorem tAnd_ap : tAndM ta tb env S = (ta env S).bind fun c S1 => if c = true then tb env S1 else .ok false S1 := nr rfl
@[simp] theorem tOr_ap : tOrM ta tb env S = (ta env S).bind fun c S1 => if c = true then .ok true S1 else tb env S1 := nr rfl
@[simp] theorem tNot_ap : tNotM t env S = (t env S).bind fun c S1 => .ok (!c) S1 := nr rfl
@[simp] theorem eAnd_ap : eAndM fa fb env S = (fa env S).bind fun x S1 => match x with | .v (.bl true) => fb env S1 | .v (.bl false) => .ok (.v (.bl false)) S1 | _ => .bad := nr rfl
@[simp] theorem eOr_ap : eOrM fa fb env S = (fa env S).bind fun x S1 => match x with | .v (.bl false) => fb env S1 | .v (.bl true) => .ok (.v (.bl true)) S1 | _ => .bad := nr rfl
@[simp] theorem eNot_ap : eNotM fa env S = (fa env S).bind fun x S1 => match x with | .v (.bl c) => .ok (.v (.bl (!c))) S1 | _ => .bad := nr rfl
@[simp] theorem eIf_ap : eIfM t fa fb env S = (t env S).bind fun c S1 => if c = true then fa env S1 else fb env S1 := nr rfl
@[simp] theorem eChn_ap : eChn o o' fa fb fc env S = (fa env S).bind fun x S1 => (fb env S1).bind fun y S2 => (o x y S2).bind fun z S3 => match z with
  | .v (.bl true) => (fc env S3).bind fun w S4 => o' y w S4
  | .v (.bl false) => .ok (.v (.bl false)) S3
  | _ => .bad := nr rfl
@[simp] theorem sNil_ap : sNil env S = .ok (.nx env) S := nr rfl
@[simp] theorem sSeq_ap : sSeq a b env S = (a env S).thn b := nr rfl
@[simp] theorem sSet_ap : sSet i e env S = (e env S).thn env fun r S1 => .ok (.nx (env.set i (some r))) S1 := nr rfl
@[simp] theorem sExpr_ap : sExpr e env S = (e env S).thn env fun _ S1 => .ok (.nx env) S1 := nr rfl
@[simp] theorem sRet_ap : sRet e env S = (e env S).thn env fun r S1 => .ok (.rt r) S1 := nr rfl
@[simp] theorem sRetN_ap : sRetN env S = .ok (.rt (.v .non)) S := nr rfl
@[simp] theorem sIf_ap : sIf t a b env S = (t env S).thn env fun c S1 => if c = true then a env S1 else b env S1 := nr rfl
@[simp] theorem sRai_ap {c : Nat} : sRai c j fe env S = (fe env S).thn env fun r S1 => match r with | .v d => .exc c [j] [d] env S1 | _ => .bad := nr rfl
@[simp] theorem sSub_ap : sSub fo fi fe env S = (fe env S).thn env fun r S1 => (fo env S1).thn env fun p S2 => (fi env S2).thn env fun q S3 => match r with
  | .v d => match mStore p q d S3 with | some S4 => .ok (.nx env) S4 | none => .bad
  | _ => .bad := nr rfl
@[simp] theorem sAug_ap : sAug i op e env S = (match env[i]? with
  | some (some r) => (e env S).thn env fun q S1 => (op r q S1).thn env fun z S2 => .ok (.nx (env.set i (some z))) S2
  | _ => .bad) := nr rfl
@[simp] theorem sFldM_ap {T : Nat → Bool} : sFldM T j fo fe env S = (fe env S).thn env fun r S1 => (fo env S1).thn env fun p S2 => match r with
  | .v d => match mPut T j p d S2 with | some S3 => .ok (.nx env) S3 | none => .bad
  | _ => .bad := nr rfl
@[simp] theorem sFor_ap {it : IM} {tg : TgM} : sFor it tg body env S = (it env S).thn env fun q S1 => forGo tg body q.2 q.1 env S1 := nr rfl
@[simp] theorem eLc_ap {it : IM} {tg : TgM} {tt : TM} {vs : List Nat} : eLc it tg tt fe vs env S = (it env S).bind fun q S1 => if q.1.length ≤ sizeLine then
    match lcGo tg tt fe q.2 (wipeE env vs) q.1 S1 with
    | .ok ys S2 => .ok (.v (.lst ys)) S2
    | _ => .bad
  else .bad := nr rfl
@[simp] theorem eMth_ap {disp : Nat → Option FM} : eMth disp fo ar env S = (fo env S).bind fun r S1 => match r.ob S1 with
  | some (c, _, _) => match disp c with
    | some m => (ar env S1).bind fun rs S2 => m (r :: rs) S2
    | none => .bad
  | none => .bad := nr rfl
@[simp] theorem eBm_ap {opb : R → List R → Sto → Res R} : eBm opb fo ar env S = (fo env S).bind fun r S1 => match r.lsq S1 with
  | some _ => (ar env S1).bind fun rs S2 => opb r rs S2
  | none => .bad := nr rfl
@[simp] theorem oNone_ap : oNone env S = .ok none S := nr rfl
@[simp] theorem oSome_ap : oSome fe env S = (fe env S).bind fun r S1 => match r with | .v (.int i) => .ok (some i) S1 | _ => .bad := nr rfl
@[simp] theorem eSl_ap {sl : R → Option Int → Option Int → Sto → Res R} {lo hi : OM} : eSl sl fe lo hi env S = (fe env S).bind fun r S1 => (lo env S1).bind fun l S2 => (hi env S2).bind fun u S3 => sl r l u S3 := nr rfl
@[simp] theorem opI_int {f : Int → Int → Int} {c : Int → Int → Bool} {i j : Int} : opI f c (.v (.int i)) (.v (.int j)) S = if c i j = true then .ok (.v (.int (f i j))) S else .bad := nr rfl
@[simp] theorem cmI_int {f : Int → Int → Bool} {i j : Int} : cmI f (.v (.int i)) (.v (.int j)) S = .ok (.v (.bl (f i j))) S := nr rfl
@[simp] theorem opAdd_int {i j : Int} : opAdd (.v (.int i)) (.v (.int j)) S = .ok (.v (.int (i + j))) S := nr rfl
@[simp] theorem unNeg_int {i : Int} : unNeg (.v (.int i)) S = .ok (.v (.int (-i))) S := nr rfl
@[simp] theorem cYes_ap {i j : Int} : cYes i j = true := nr rfl
@[simp] theorem mInt_int {i : Int} : mInt [.v (.int i)] S = .ok (.v (.int i)) S := nr rfl
@[simp] theorem mAbs_int {i : Int} : mAbs [.v (.int i)] S = .ok (.v (.int (if i < 0 then -i else i))) S := nr rfl
theorem fnM_ap {rs : List R} : fnM n N body rs S = if rs.length = n then fin finR S.length (body (rs.map some ++ List.replicate (N - n) none) S) else .bad := nr rfl
theorem fnMM_ap {rs : List R} : fnMM n N body rs S = if rs.length = n then fin finRM S.length (body (rs.map some ++ List.replicate (N - n) none) S) else .bad := nr rfl
@[simp] theorem fin_rt {fr : Nat → R → Sto → Res R} {k : Nat} : fin fr k (.ok (.rt r) S) = fr k r S := nr rfl
@[simp] theorem fin_nx {fr : Nat → R → Sto → Res R} {k : Nat} : fin fr k (.ok (.nx env) S) = .ok (.v .non) (S.take k) := nr rfl
@[simp] theorem fin_exc {fr : Nat → R → Sto → Res R} {k c : Nat} {ks : List Nat} {ds : List D} : fin fr k (.exc c ks ds env S) = .exc c ks ds (S.take k) := nr rfl
@[simp] theorem finR_v {k : Nat} : finR k (.v d) S = .ok (.v d) (S.take k) := nr rfl
end
end Mi

/-! the mirrors of law k03's defs: plain Lean -/
namespace K03
open PySem L2 Mi
noncomputable section
def cnK : Nat → Str
  | 0 => "BadNumber" | 1 => "BadSet" | 2 => "BadEntry" | 3 => "NotALot" | 4 => "NotFree" | 5 => "PricesError" | 6 => "Firsts" | 7 => "Teams" | 8 => "Works" | 9 => "Rule" | _ => "?"
def fnK : Nat → Str
  | 0 => "name" | 1 => "place" | 2 => "things" | 3 => "size" | 4 => "_things" | 5 => "number" | 6 => "classes" | 7 => "places" | 8 => "days" | _ => "?"
def g : Sig := ⟨cnK, fnK⟩
def tBN : Nat → Bool | 0 => true | _ => false
def tPl : Nat → Bool | 1 => true | 2 => true | _ => false
def tTh : Nat → Bool | 4 => true | _ => false
def tRule : Nat → Bool | 6 => true | 7 => true | 8 => true | _ => false
def tFirsts : Nat → Bool | 6 => true | _ => false
def tTeams : Nat → Bool | 7 => true | _ => false
def tWorks : Nat → Bool | 8 => true | _ => false
def iPE : Nat → Option Bool | 0 => some true | 1 => some true | 2 => some true | 4 => some true | _ => none
def iBE : Nat → Option Bool | 0 => some false | _ => none
def iThree : Nat → Option Bool | 4 => some false | _ => none
def eBN : Nat → Option Bool | 0 => some true | _ => none
def eBE : Nat → Option Bool | 2 => some true | _ => none
def eNF : Nat → Option Bool | 4 => some true | 1 => some false | _ => none
def eBS : Nat → Option Bool | 1 => some true | 4 => some false | _ => none
def is_integer_b : SM := (sSeq (sRet (eAndM (eUn (mIsi "int") (eVar 0)) (eNotM (eUn (mIsi "bool") (eVar 0)))))
  sNil)
def is_integer_m : FM := fnM 1 1 is_integer_b
def is_count_b : SM := (sSeq (sRet (eAndM (eApp is_integer_m (aCons (eVar 0) aNil)) (eOp cmGe (eVar 0) (eC (.int 0)))))
  sNil)
def is_count_m : FM := fnM 1 1 is_count_b
def is_thing_b : SM := (sSeq (sRet (eAndM (eApp is_integer_m (aCons (eVar 1) aNil)) (eChn cmLe cmLt (eC (.int 0)) (eVar 1) (eVar 0))))
  sNil)
def is_thing_m : FM := fnM 2 2 is_thing_b
def misplaced_l1 : SM := (sSeq (sIf (tOrM (tNotM (tOf (eApp is_thing_m (aCons (eVar 0) (aCons (eVar 4) aNil))))) (tOf (eOp cmLe (eVar 4) (eVar 2)))) (sSeq (sRet (eVar 3))
  sNil) sNil)
  (sSeq (sSet 2 (eVar 4))
  sNil))
def misplaced_b : SM := (sSeq (sSet 2 (eUn unNeg (eC (.int 1))))
  (sSeq (sFor (iEnum (aCons (eVar 1) aNil)) (tgTup [(tgName 3), (tgName 4)]) misplaced_l1)
  (sSeq (sRet (eC .non))
  sNil)))
def misplaced_m : FM := fnM 2 5 misplaced_b
def set_of_b : SM := (sSeq (sSet 2 (eApp misplaced_m (aCons (eVar 0) (aCons (eVar 1) aNil))))
  (sSeq (sIf (tOf (eOp cmIsNot (eVar 2) (eC .non))) (sSeq (sRai 1 1 (eVar 2))
  sNil) sNil)
  (sSeq (sRet (eApp mTuple (aCons (eVar 1) aNil)))
  sNil)))
def set_of_m : FM := fnM 2 3 set_of_b
def Rule___init___b : SM := (sSeq (sIf (tNotM (tOf (eApp is_count_m (aCons (eVar 1) aNil)))) (sSeq (sRai 0 0 (eC (.str ("size" : Str))))
  sNil) sNil)
  (sSeq (sFldM tRule 3 (eVar 0) (eVar 1))
  (sSeq (sFldM tRule 4 (eVar 0) (eUn mTupRg (eVar 1)))
  sNil)))
def Rule___init___m : FM := fnM 2 2 Rule___init___b
def Rule__rank_b : SM := (sSeq (sRet (eApp mLen (aCons (eVar 1) aNil)))
  sNil)
def Rule__rank_m : FM := fnM 2 2 Rule__rank_b
def Firsts___init___b : SM := (sSeq (sExpr (eSup tFirsts Rule___init___m (aCons (eVar 1) aNil))) (sSeq (sIf (tNotM (tOf (eApp is_count_m (aCons (eVar 2) aNil)))) (sSeq (sRai 0 0 (eC (.str ("k" : Str))))
  sNil) sNil)
  (sSeq (sFldM tFirsts 5 (eVar 0) (eVar 2))
  sNil)))
def Firsts___init___m : FM := fnM 3 4 Firsts___init___b
def Firsts__rank_b : SM := (sSeq (sRet (eApp mMin (aCons (eSup tFirsts Rule__rank_m (aCons (eVar 1) aNil)) (aCons (eUn (mFld tFirsts 5) (eVar 0)) aNil)))) sNil)
def Firsts__rank_m : FM := fnM 2 3 Firsts__rank_b
def Teams___init___l1 : SM := (sSeq (sIf (tNotM (tOf (eApp is_thing_m (aCons (eApp mLen (aCons (eVar 2) aNil)) (aCons (eVar 5) aNil))))) (sSeq (sRai 2 1 (eVar 4))
  sNil) sNil)
  sNil)
def Teams___init___l2 : SM := (sSeq (sIf (tNotM (tOf (eApp is_count_m (aCons (eVar 6) aNil)))) (sSeq (sRai 2 1 (eVar 4))
  sNil) sNil)
  sNil)
def Teams___init___b : SM := (sSeq (sFor (iEnum (aCons (eVar 1) aNil)) (tgTup [(tgName 4), (tgName 5)]) Teams___init___l1) (sSeq (sFor (iEnum (aCons (eVar 2) aNil)) (tgTup [(tgName 4), (tgName 6)]) Teams___init___l2) (sSeq (sExpr (eSup tTeams Rule___init___m (aCons (eApp mLen (aCons (eVar 1) aNil)) aNil))) (sSeq (sFldM tTeams 6 (eVar 0) (eApp mTuple (aCons (eVar 1) aNil)))
  (sSeq (sFldM tTeams 7 (eVar 0) (eApp mTuple (aCons (eVar 2) aNil)))
  sNil)))))
def Teams___init___m : FM := fnM 3 7 Teams___init___b
def Teams__rank_c1 : EM := (eOp mIx (eUn (mFld tTeams 6) (eVar 0)) (eVar 3))
def Teams__rank_c2 : EM := (eApp mMin (aCons (eBm mCnt (eVar 2) (aCons (eVar 4) aNil)) (aCons (eVar 5) aNil)))
def Teams__rank_b : SM := (sSeq (sSet 2 (eLc (iSeq (eVar 1)) (tgName 3) tYesM Teams__rank_c1 [3]))
  (sSeq (sRet (eApp mSum (aCons (eLc (iEnum (aCons (eUn (mFld tTeams 7) (eVar 0)) aNil)) (tgTup [(tgName 4), (tgName 5)]) tYesM Teams__rank_c2 [4, 5]) aNil)))
  sNil))
def Teams__rank_m : FM := fnM 2 6 Teams__rank_b
def Works___init___l1 : SM := (sSeq (sIf (tNotM (tOf (eApp is_count_m (aCons (eVar 4) aNil)))) (sSeq (sRai 2 1 (eVar 3))
  sNil) sNil)
  sNil)
def Works___init___b : SM := (sSeq (sFor (iEnum (aCons (eVar 1) aNil)) (tgTup [(tgName 3), (tgName 4)]) Works___init___l1) (sSeq (sExpr (eSup tWorks Rule___init___m (aCons (eApp mLen (aCons (eVar 1) aNil)) aNil))) (sSeq (sFldM tWorks 8 (eVar 0) (eApp mTuple (aCons (eVar 1) aNil)))
  sNil)))
def Works___init___m : FM := fnM 2 5 Works___init___b
def Works__rank_c1 : EM := (eOp mIx (eUn (mFld tWorks 8) (eVar 0)) (eVar 4))
def Works__rank_l1 : SM := (sSeq (sIf (tOf (eOp cmGt (eVar 3) (eVar 2))) (sSeq (sAug 2 (opI (fun i j => i + j) cYes) (eC (.int 1)))
  sNil) sNil)
  sNil)
def Works__rank_b : SM := (sSeq (sSet 2 (eC (.int 0)))
  (sSeq (sFor (iSeq (eApp mSorted (aCons (eLc (iSeq (eVar 1)) (tgName 4) tYesM Works__rank_c1 [4]) aNil))) (tgName 3) Works__rank_l1)
  (sSeq (sRet (eVar 2))
  sNil)))
def Works__rank_m : FM := fnM 2 5 Works__rank_b
def disp__rank : Nat → Option FM
  | 6 => some Firsts__rank_m
  | 7 => some Teams__rank_m
  | 8 => some Works__rank_m
  | _ => none
def Rule__free_b : SM := (sSeq (sRet (eOp cmEq (eMth disp__rank (eVar 0) (aCons (eVar 1) aNil)) (eApp mLen (aCons (eVar 1) aNil))))
  sNil)
def Rule__free_m : FM := fnM 2 2 Rule__free_b
def disp__free : Nat → Option FM
  | 6 => some Rule__free_m
  | 7 => some Rule__free_m
  | 8 => some Rule__free_m
  | _ => none
def Rule_is_free_b : SM := (sSeq (sRet (eMth disp__free (eVar 0) (aCons (eApp set_of_m (aCons (eUn (mFld tRule 3) (eVar 0)) (aCons (eVar 1) aNil))) aNil)))
  sNil)
def Rule_is_free_m : FM := fnM 2 2 Rule_is_free_b
def disp_is_free : Nat → Option FM
  | 6 => some Rule_is_free_m
  | 7 => some Rule_is_free_m
  | 8 => some Rule_is_free_m
  | _ => none
def Rule_rank_b : SM := (sSeq (sRet (eMth disp__rank (eVar 0) (aCons (eApp set_of_m (aCons (eUn (mFld tRule 3) (eVar 0)) (aCons (eVar 1) aNil))) aNil)))
  sNil)
def Rule_rank_m : FM := fnM 2 2 Rule_rank_b
def disp_rank : Nat → Option FM
  | 6 => some Rule_rank_m
  | 7 => some Rule_rank_m
  | 8 => some Rule_rank_m
  | _ => none
def timetable_c1 : EM := (eApp mTup (aCons (eOp mIx (eUn (mFld tWorks 8) (eVar 0)) (eVar 4)) (aCons (eVar 4) aNil)))
def timetable_c2 : EM := (eVar 4)
def timetable_b : SM := (sSeq (sSet 2 (eApp set_of_m (aCons (eUn (mFld tRule 3) (eVar 0)) (aCons (eVar 1) aNil))))
  (sSeq (sIf (tNotM (tOf (eMth disp__free (eVar 0) (aCons (eVar 2) aNil)))) (sSeq (sRai 4 2 (eVar 2))
  sNil) sNil)
  (sSeq (sRet (eLc (iSeq (eApp mSorted (aCons (eLc (iSeq (eVar 2)) (tgName 4) tYesM timetable_c1 [4]) aNil))) (tgTup [(tgName 3), (tgName 4)]) tYesM timetable_c2 [3, 4]))
  sNil)))
def timetable_m : FM := fnM 2 5 timetable_b
def _law_pool_c1 : EM := (eApp mInt (aCons (eVar 3) aNil))
def _law_pool_l1 : SM := (sSeq (sIf (tOf (eOp cmLt (eApp mAbs (aCons (eVar 3) aNil)) (eC (.int 1000000000000000000)))) (sSeq (sSet 2 (eOp opMod (eApp mInt (aCons (eOp opAdd (eOp opMul (eVar 2) (eC (.int 31))) (eApp mAbs (aCons (eVar 3) aNil))) aNil)) (eC (.int 2147483647))))
  sNil) sNil)
  sNil)
def _law_pool_b : SM := (sSeq (sSet 1 (eLc (iSeq (eSl mSl (eVar 0) oNone (oSome (eC (.int 63))))) (tgName 3) tYesM _law_pool_c1 [3]))
  (sSeq (sSet 2 (eC (.int 0)))
  (sSeq (sFor (iSeq (eVar 1)) (tgName 3) _law_pool_l1)
  (sSeq (sRet (eApp mLstM (aCons (eVar 1) (aCons (eC (.int 0)) (aCons (eC (.int 0)) (aCons (eVar 2) aNil))))))
  sNil))))
def _law_pool_m : FM := fnMM 1 4 _law_pool_b
def _law_mixed_b : SM := (sSeq (sSet 2 (eOp opMod (eApp mInt (aCons (eOp opMul (eVar 0) (eOp opAdd (eC (.int 48271)) (eOp opMul (eC (.int 2)) (eVar 1)))) aNil)) (eC (.int 2147483647))))
  (sSeq (sSet 3 (eOp opMod (eApp mInt (aCons (eOp opAdd (eOp opMul (eVar 2) (eVar 2)) (eOp opMul (eC (.int 16807)) (eVar 2))) aNil)) (eC (.int 2147483629))))
  (sSeq (sSet 4 (eOp opMod (eApp mInt (aCons (eOp opAdd (eOp opMul (eVar 3) (eC (.int 69621))) (eVar 2)) aNil)) (eC (.int 2147483587))))
  (sSeq (sRet (eOp opAdd (eOp opMul (eVar 3) (eC (.int 2147483587))) (eVar 4)))
  sNil))))
def _law_mixed_m : FM := fnM 2 5 _law_mixed_b
def _law_draw_b : SM := (sSeq (sIf (tOf (eOp cmEq (eOp mIx (eVar 0) (eC (.int 2))) (eC (.int 0)))) (sSeq (sSet 2 (eOp mIx (eVar 0) (eC (.int 1))))
  (sSeq (sSub (eVar 0) (eC (.int 1)) (eOp opAdd (eVar 2) (eC (.int 1))))
  (sSeq (sSet 3 (eOp mIx (eVar 0) (eC (.int 3))))
  (sSeq (sIf (tOf (eOp cmLt (eVar 2) (eApp mLen (aCons (eOp mIx (eVar 0) (eC (.int 0))) aNil)))) (sSeq (sSet 3 (eOp mIx (eOp mIx (eVar 0) (eC (.int 0))) (eVar 2)))
  sNil) sNil)
  (sSeq (sIf (tOf (eOp cmLt (eApp mAbs (aCons (eVar 3) aNil)) (eC (.int 1000000000000000000)))) (sSeq (sSub (eVar 0) (eC (.int 2)) (eApp _law_mixed_m (aCons (eVar 3) (aCons (eVar 2) aNil))))
  sNil) (sSeq (sSub (eVar 0) (eC (.int 2)) (eApp mAbs (aCons (eVar 3) aNil)))
  sNil))
  sNil))))) sNil)
  (sSeq (sSet 4 (eOp mIx (eVar 0) (eC (.int 2))))
  (sSeq (sSub (eVar 0) (eC (.int 2)) (eOp opDiv (eVar 4) (eVar 1)))
  (sSeq (sRet (eOp opMod (eApp mInt (aCons (eVar 4) aNil)) (eVar 1)))
  sNil))))
def _law_draw_m : FM := fnM 2 5 _law_draw_b
def _law_digits_l1 : SM := (sSeq (sExpr (eBm mApp (eVar 3) (aCons (eOp opMod (eApp mInt (aCons (eVar 0) aNil)) (eVar 1)) aNil)))
  (sSeq (sSet 0 (eOp opDiv (eVar 0) (eVar 1)))
  sNil))
def _law_digits_b : SM := (sSeq (sSet 3 (eApp mLstM aNil))
  (sSeq (sFor (iRng1 (aCons (eVar 2) aNil)) (tgName 4) _law_digits_l1)
  (sSeq (sRet (eApp mTuple (aCons (eVar 3) aNil)))
  sNil)))
def _law_digits_m : FM := fnM 3 5 _law_digits_b
def _law_firsts_hold_b : SM := (sSeq (sSet 3 (eApp _law_draw_m (aCons (eVar 0) (aCons (eC (.int 18)) aNil))))
  (sSeq (sSet 4 (eApp (mMak 6 Firsts___init___m) (aCons (eVar 1) (aCons (eVar 3) aNil))))
  (sSeq (sIf (tOrM (tOf (eOp cmNe (eUn (mFld tFirsts 5) (eVar 4)) (eVar 3))) (tOrM (tOf (eOp cmNe (eUn (mFld tRule 3) (eVar 4)) (eVar 1))) (tOf (eOp cmNe (eMth disp_rank (eVar 4) (aCons (eApp mList (aCons (eVar 2) aNil)) aNil)) (eApp mMin (aCons (eVar 3) (aCons (eApp mLen (aCons (eVar 2) aNil)) aNil))))))) (sSeq (sRet (eC (.bl false)))
  sNil) sNil)
  (sSeq (sIf (tOf (eOp cmNe (eMth disp_is_free (eVar 4) (aCons (eVar 2) aNil)) (eOp cmLe (eApp mLen (aCons (eVar 2) aNil)) (eVar 3)))) (sSeq (sRet (eC (.bl false)))
  sNil) sNil)
  (sSeq (sSet 5 (eApp _law_draw_m (aCons (eVar 0) (aCons (eC (.int 2)) aNil))))
  (sSeq (sSet 6 (eOp mIx (eApp mLst (aCons (eOp opSub (eUn unNeg (eC (.int 1))) (eVar 3)) (aCons (eC .non) (aCons (eC (.str ("3" : Str))) aNil)))) (eApp _law_draw_m (aCons (eVar 0) (aCons (eC (.int 3)) aNil)))))
  (sSeq (sSet 7 (eC .non))
  (sSeq (sSet 8 (eC (.bl false)))
  (sSeq (sTry eBN 9 (sSeq (sIf (tOf (eOp cmEq (eVar 5) (eC (.int 0)))) (sSeq (sExpr (eApp (mMak 6 Firsts___init___m) (aCons (eVar 6) (aCons (eUn unNeg (eC (.int 1))) aNil))))
  sNil) (sSeq (sExpr (eApp (mMak 6 Firsts___init___m) (aCons (eVar 1) (aCons (eVar 6) aNil))))
  sNil))
  sNil) (sSeq (sSet 7 (eUn (mXf tBN 0) (eVar 9)))
  (sSeq (sSet 8 (eAndM (eUn (mIsX iPE) (eVar 9)) (eNotM (eUn (mIsX iBE) (eVar 9)))))
  sNil)))
  (sSeq (sRet (eAndM (eVar 8) (eOp cmEq (eVar 7) (eOp mIx (eApp mLst (aCons (eC (.str ("size" : Str))) (aCons (eC (.str ("k" : Str))) aNil))) (eVar 5)))))
  sNil))))))))))
def _law_firsts_hold_m : FM := fnM 3 10 _law_firsts_hold_b
def _law_teams_hold_c1 : EM := (eOp mIx (eApp mLst (aCons (eC (.int 1)) (aCons (eC (.int 2)) (aCons (eC (.int 0)) (aCons (eC (.int 3)) (aCons (eC (.int 5)) aNil)))))) (eApp _law_draw_m (aCons (eVar 0) (aCons (eC (.int 5)) aNil))))
def _law_teams_hold_c2 : EM := (eApp _law_draw_m (aCons (eVar 0) (aCons (eApp mLen (aCons (eVar 4) aNil)) aNil)))
def _law_teams_hold_d1 : TM := (tOf (eOp cmEq (eOp mIx (eVar 5) (eVar 20)) (eVar 19)))
def _law_teams_hold_c3 : EM := (eVar 20)
def _law_teams_hold_c4 : EM := (eApp mLen (aCons (eLc (iSeq (eVar 2)) (tgName 20) _law_teams_hold_d1 _law_teams_hold_c3 [20]) aNil))
def _law_teams_hold_c5 : EM := (eApp mMin (aCons (eOp mIx (eVar 9) (eVar 19)) (aCons (eOp mIx (eVar 4) (eVar 19)) aNil)))
def _law_teams_hold_c6 : EM := (eOp cmLe (eOp mIx (eVar 9) (eVar 19)) (eOp mIx (eVar 4) (eVar 19)))
def _law_teams_hold_b : SM := (sSeq (sSet 3 (eOp opAdd (eC (.int 1)) (eApp _law_draw_m (aCons (eVar 0) (aCons (eC (.int 4)) aNil)))))
  (sSeq (sIf (tAndM (tOf (eOp cmEq (eVar 1) (eC (.int 0)))) (tOf (eOp cmEq (eVar 3) (eC (.int 4))))) (sSeq (sSet 3 (eC (.int 0)))
  sNil) sNil)
  (sSeq (sSet 4 (eLc (iRng1 (aCons (eVar 3) aNil)) (tgName 19) tYesM _law_teams_hold_c1 [19]))
  (sSeq (sSet 5 (eLc (iRng1 (aCons (eVar 1) aNil)) (tgName 20) tYesM _law_teams_hold_c2 [20]))
  (sSeq (sSet 6 (eApp mListM (aCons (eVar 5) aNil)))
  (sSeq (sSet 7 (eApp mListM (aCons (eVar 4) aNil)))
  (sSeq (sSet 8 (eApp (mMak 7 Teams___init___m) (aCons (eVar 6) (aCons (eVar 7) aNil))))
  (sSeq (sExpr (eBm mClr (eVar 6) aNil))
  (sSeq (sExpr (eBm mClr (eVar 7) aNil))
  (sSeq (sIf (tOrM (tOf (eOp cmNe (eUn (mFld tTeams 6) (eVar 8)) (eApp mTuple (aCons (eVar 5) aNil)))) (tOrM (tOf (eOp cmNe (eUn (mFld tTeams 7) (eVar 8)) (eApp mTuple (aCons (eVar 4) aNil)))) (tOf (eOp cmNe (eUn (mFld tRule 3) (eVar 8)) (eVar 1))))) (sSeq (sRet (eC (.bl false)))
  sNil) sNil)
  (sSeq (sSet 9 (eLc (iRng1 (aCons (eApp mLen (aCons (eVar 4) aNil)) aNil)) (tgName 19) tYesM _law_teams_hold_c4 [19]))
  (sSeq (sIf (tOf (eOp cmNe (eMth disp_rank (eVar 8) (aCons (eVar 2) aNil)) (eApp mSum (aCons (eLc (iRng1 (aCons (eApp mLen (aCons (eVar 4) aNil)) aNil)) (tgName 19) tYesM _law_teams_hold_c5 [19]) aNil)))) (sSeq (sRet (eC (.bl false)))
  sNil) sNil)
  (sSeq (sIf (tOf (eOp cmNe (eMth disp_is_free (eVar 8) (aCons (eApp mList (aCons (eVar 2) aNil)) aNil)) (eApp mAll (aCons (eLc (iRng1 (aCons (eApp mLen (aCons (eVar 4) aNil)) aNil)) (tgName 19) tYesM _law_teams_hold_c6 [19]) aNil)))) (sSeq (sRet (eC (.bl false)))
  sNil) sNil)
  (sSeq (sSet 10 (eApp _law_draw_m (aCons (eVar 0) (aCons (eOp opAdd (eVar 1) (eC (.int 1))) aNil))))
  (sSeq (sSet 11 (eApp _law_draw_m (aCons (eVar 0) (aCons (eApp mMax (aCons (eC (.int 1)) (aCons (eApp mLen (aCons (eVar 4) aNil)) aNil))) aNil))))
  (sSeq (sSet 12 (eOp mIx (eApp mLst (aCons (eApp mLen (aCons (eVar 4) aNil)) (aCons (eUn unNeg (eC (.int 1))) (aCons (eC .non) (aCons (eC (.str ("0" : Str))) aNil))))) (eApp _law_draw_m (aCons (eVar 0) (aCons (eC (.int 4)) aNil)))))
  (sSeq (sSet 13 (eOp mIx (eApp mLst (aCons (eUn unNeg (eC (.int 1))) (aCons (eC .non) aNil))) (eApp _law_draw_m (aCons (eVar 0) (aCons (eC (.int 2)) aNil)))))
  (sSeq (sSet 14 (eApp _law_draw_m (aCons (eVar 0) (aCons (eC (.int 2)) aNil))))
  (sSeq (sSet 15 (eApp mList (aCons (eVar 5) aNil)))
  (sSeq (sIf (tOf (eOp cmEq (eVar 14) (eC (.int 0)))) (sSeq (sSet 15 (eOp opAdd (eOp opAdd (eSl mSl (eVar 5) oNone (oSome (eVar 10))) (eApp mLst (aCons (eVar 12) aNil))) (eSl mSl (eVar 5) (oSome (eVar 10)) oNone)))
  sNil) sNil)
  (sSeq (sSet 16 (eC .non))
  (sSeq (sSet 17 (eC (.bl false)))
  (sSeq (sTry eBE 18 (sSeq (sExpr (eApp (mMak 7 Teams___init___m) (aCons (eVar 15) (aCons (eOp opAdd (eOp opAdd (eSl mSl (eVar 4) oNone (oSome (eVar 11))) (eApp mLst (aCons (eVar 13) aNil))) (eSl mSl (eVar 4) (oSome (eOp opAdd (eVar 11) (eC (.int 1)))) oNone)) aNil))))
  sNil) (sSeq (sSet 16 (eUn (mXf tPl 1) (eVar 18)))
  (sSeq (sSet 17 (eAndM (eUn (mIsX iPE) (eVar 18)) (eAndM (eUn (mIsi "int") (eUn (mXf tPl 1) (eVar 18))) (eNotM (eUn (mIsi "bool") (eUn (mXf tPl 1) (eVar 18)))))))
  sNil)))
  (sSeq (sRet (eAndM (eVar 17) (eOp cmEq (eVar 16) (eOp mIx (eApp mLst (aCons (eVar 10) (aCons (eVar 11) aNil))) (eVar 14)))))
  sNil))))))))))))))))))))))))
def _law_teams_hold_m : FM := fnM 3 21 _law_teams_hold_b
def _law_timetable_holds_d1 : TM := (tOf (eOp cmLe (eOp mIx (eVar 1) (eVar 12)) (eVar 10)))
def _law_timetable_holds_c1 : EM := (eVar 12)
def _law_timetable_holds_c2 : EM := (eOp cmLe (eApp mLen (aCons (eLc (iSeq (eVar 2)) (tgName 12) _law_timetable_holds_d1 _law_timetable_holds_c1 [12]) aNil)) (eVar 10))
def _law_timetable_holds_c3 : EM := (eApp mTup (aCons (eOp mIx (eVar 1) (eVar 12)) (aCons (eVar 12) aNil)))
def _law_timetable_holds_c4 : EM := (eOp mIx (eVar 9) (eC (.int 1)))
def _law_timetable_holds_c5 : EM := (eOp cmGt (eOp mIx (eVar 1) (eOp mIx (eVar 4) (eVar 11))) (eVar 11))
def _law_timetable_holds_b : SM := (sSeq (sSet 3 (eApp mAll (aCons (eLc (iRng1 (aCons (eOp opAdd (eApp mLen (aCons (eVar 1) aNil)) (eC (.int 1))) aNil)) (tgName 10) tYesM _law_timetable_holds_c2 [10]) aNil)))
  (sSeq (sSet 4 (eC .non))
  (sSeq (sSet 5 (eC .non))
  (sSeq (sSet 6 (eC (.bl true)))
  (sSeq (sTry eNF 7 (sSeq (sSet 4 (eApp timetable_m (aCons (eVar 0) (aCons (eApp mList (aCons (eVar 2) aNil)) aNil))))
  sNil) (sSeq (sSet 5 (eUn (mXf tTh 2) (eVar 7)))
  (sSeq (sSet 6 (eAndM (eUn (mIsX iPE) (eVar 7)) (eNotM (eUn (mIsX iThree) (eVar 7)))))
  sNil)))
  (sSeq (sIf (tNotM (tOf (eVar 3))) (sSeq (sRet (eAndM (eVar 6) (eAndM (eOp cmIs (eVar 4) (eC .non)) (eOp cmEq (eVar 5) (eApp mTuple (aCons (eVar 2) aNil))))))
  sNil) sNil)
  (sSeq (sSet 8 (eLc (iSeq (eApp mSorted (aCons (eLc (iSeq (eVar 2)) (tgName 12) tYesM _law_timetable_holds_c3 [12]) aNil))) (tgName 9) tYesM _law_timetable_holds_c4 [9]))
  (sSeq (sIf (tOrM (tOf (eOp cmIsNot (eVar 5) (eC .non))) (tOrM (tNotM (tOf (eUn (mIsi "list") (eVar 4)))) (tOf (eOp cmNe (eVar 4) (eVar 8))))) (sSeq (sRet (eC (.bl false)))
  sNil) sNil)
  (sSeq (sRet (eApp mAll (aCons (eLc (iRng1 (aCons (eApp mLen (aCons (eVar 4) aNil)) aNil)) (tgName 11) tYesM _law_timetable_holds_c5 [11]) aNil)))
  sNil)))))))))
def _law_timetable_holds_m : FM := fnM 3 13 _law_timetable_holds_b
def _law_no_set_place_b : SM := (sSeq (sSet 2 (eC .non))
  (sSeq (sTry eBS 3 (sSeq (sExpr (eApp timetable_m (aCons (eVar 0) (aCons (eVar 1) aNil))))
  sNil) (sSeq (sSet 2 (eUn (mXf tPl 1) (eVar 3)))
  sNil))
  (sSeq (sRet (eVar 2))
  sNil)))
def _law_no_set_place_m : FM := fnM 2 4 _law_no_set_place_b
def _law_works_hold_c1 : EM := (eOp opAdd (eVar 4) (eApp _law_draw_m (aCons (eVar 0) (aCons (eVar 3) aNil))))
def _law_works_hold_d1 : TM := (tOf (eOp cmGt (eOp mIx (eVar 5) (eVar 11)) (eVar 18)))
def _law_works_hold_c2 : EM := (eVar 11)
def _law_works_hold_c3 : EM := (eOp opAdd (eVar 18) (eApp mLen (aCons (eLc (iSeq (eVar 2)) (tgName 11) _law_works_hold_d1 _law_works_hold_c2 [11]) aNil)))
def _law_works_hold_d2 : TM := (tOf (eOp cmLe (eOp mIx (eVar 5) (eVar 11)) (eVar 18)))
def _law_works_hold_c4 : EM := (eVar 11)
def _law_works_hold_c5 : EM := (eOp cmLe (eApp mLen (aCons (eLc (iSeq (eVar 2)) (tgName 11) _law_works_hold_d2 _law_works_hold_c4 [11]) aNil)) (eVar 18))
def _law_works_hold_c6 : EM := (eOp mIx (eVar 5) (eVar 19))
def _law_works_hold_c7 : EM := (eOp cmGt (eOp mIx (eVar 12) (eVar 20)) (eVar 20))
def _law_works_hold_l1 : SM := (sSeq (sSet 12 (eApp mSorted (aCons (eLc (iSeq (eOp opAdd (eVar 10) (eApp mLst (aCons (eVar 11) aNil)))) (tgName 19) tYesM _law_works_hold_c6 [19]) aNil)))
  (sSeq (sIf (tOf (eApp mAll (aCons (eLc (iRng1 (aCons (eApp mLen (aCons (eVar 12) aNil)) aNil)) (tgName 20) tYesM _law_works_hold_c7 [20]) aNil))) (sSeq (sSet 10 (eOp opAdd (eVar 10) (eApp mLst (aCons (eVar 11) aNil))))
  sNil) sNil)
  sNil))
def _law_works_hold_b : SM := (sSeq (sSet 3 (eOp mIx (eApp mLst (aCons (eC (.int 3)) (aCons (eOp opAdd (eVar 1) (eC (.int 2))) (aCons (eC (.int 2)) (aCons (eC (.int 5)) aNil))))) (eApp _law_draw_m (aCons (eVar 0) (aCons (eC (.int 4)) aNil)))))
  (sSeq (sSet 4 (eOp mIx (eApp mLst (aCons (eC (.int 1)) (aCons (eC (.int 0)) aNil))) (eApp _law_draw_m (aCons (eVar 0) (aCons (eC (.int 2)) aNil)))))
  (sSeq (sSet 5 (eLc (iRng1 (aCons (eVar 1) aNil)) (tgName 11) tYesM _law_works_hold_c1 [11]))
  (sSeq (sSet 6 (eApp mListM (aCons (eVar 5) aNil)))
  (sSeq (sSet 7 (eApp (mMak 8 Works___init___m) (aCons (eVar 6) aNil)))
  (sSeq (sExpr (eBm mClr (eVar 6) aNil))
  (sSeq (sIf (tOrM (tOf (eOp cmNe (eUn (mFld tWorks 8) (eVar 7)) (eApp mTuple (aCons (eVar 5) aNil)))) (tOf (eOp cmNe (eUn (mFld tRule 3) (eVar 7)) (eVar 1)))) (sSeq (sRet (eC (.bl false)))
  sNil) sNil)
  (sSeq (sSet 8 (eApp mMin (aCons (eLc (iRng1 (aCons (eOp opAdd (eVar 1) (eC (.int 1))) aNil)) (tgName 18) tYesM _law_works_hold_c3 [18]) aNil)))
  (sSeq (sSet 9 (eMth disp_rank (eVar 7) (aCons (eVar 2) aNil)))
  (sSeq (sIf (tOrM (tOf (eOp cmNe (eVar 9) (eVar 8))) (tOrM (tNotM (tOf (eUn (mIsi "int") (eVar 9)))) (tOf (eUn (mIsi "bool") (eVar 9))))) (sSeq (sRet (eC (.bl false)))
  sNil) sNil)
  (sSeq (sIf (tOf (eOp cmNe (eMth disp_is_free (eVar 7) (aCons (eApp mList (aCons (eVar 2) aNil)) aNil)) (eApp mAll (aCons (eLc (iRng1 (aCons (eOp opAdd (eVar 1) (eC (.int 1))) aNil)) (tgName 18) tYesM _law_works_hold_c5 [18]) aNil)))) (sSeq (sRet (eC (.bl false)))
  sNil) sNil)
  (sSeq (sSet 10 (eApp mLst aNil))
  (sSeq (sFor (iSeq (eVar 2)) (tgName 11) _law_works_hold_l1)
  (sSeq (sIf (tOrM (tNotM (tOf (eApp _law_timetable_holds_m (aCons (eVar 7) (aCons (eVar 5) (aCons (eVar 2) aNil)))))) (tNotM (tOf (eApp _law_timetable_holds_m (aCons (eVar 7) (aCons (eVar 5) (aCons (eVar 10) aNil))))))) (sSeq (sRet (eC (.bl false)))
  sNil) sNil)
  (sSeq (sIf (tOrM (tOf (eOp cmNe (eApp _law_no_set_place_m (aCons (eVar 7) (aCons (eApp mLst (aCons (eVar 1) aNil)) aNil))) (eC (.int 0)))) (tAndM (tOf (eOp cmGt (eApp mLen (aCons (eVar 2) aNil)) (eC (.int 1)))) (tOf (eOp cmNe (eApp _law_no_set_place_m (aCons (eVar 7) (aCons (eUn mRevT (eVar 2)) aNil))) (eC (.int 1)))))) (sSeq (sRet (eC (.bl false)))
  sNil) sNil)
  (sSeq (sSet 13 (eApp _law_draw_m (aCons (eVar 0) (aCons (eOp opAdd (eVar 1) (eC (.int 1))) aNil))))
  (sSeq (sSet 14 (eOp mIx (eApp mLst (aCons (eUn unNeg (eC (.int 1))) (aCons (eC .non) (aCons (eC (.str ("1" : Str))) aNil)))) (eApp _law_draw_m (aCons (eVar 0) (aCons (eC (.int 3)) aNil)))))
  (sSeq (sSet 15 (eC .non))
  (sSeq (sSet 16 (eC (.bl false)))
  (sSeq (sTry eBE 17 (sSeq (sExpr (eApp (mMak 8 Works___init___m) (aCons (eOp opAdd (eOp opAdd (eSl mSl (eVar 5) oNone (oSome (eVar 13))) (eApp mLst (aCons (eVar 14) aNil))) (eSl mSl (eVar 5) (oSome (eVar 13)) oNone)) aNil)))
  sNil) (sSeq (sSet 15 (eUn (mXf tPl 1) (eVar 17)))
  (sSeq (sSet 16 (eAndM (eUn (mIsX iPE) (eVar 17)) (eAndM (eUn (mIsi "int") (eUn (mXf tPl 1) (eVar 17))) (eNotM (eUn (mIsi "bool") (eUn (mXf tPl 1) (eVar 17)))))))
  sNil)))
  (sSeq (sRet (eAndM (eVar 16) (eOp cmEq (eVar 15) (eVar 13))))
  sNil)))))))))))))))))))))
def _law_works_hold_m : FM := fnM 3 21 _law_works_hold_b
def law_d1 : TM := (tOf (eOp cmEq (eOp mIx (eVar 3) (eVar 5)) (eC (.int 1))))
def law_c1 : EM := (eVar 5)
def law_b : SM := (sSeq (sSet 1 (eApp _law_pool_m (aCons (eVar 0) aNil)))
  (sSeq (sSet 2 (eOp mIx (eApp mLst (aCons (eC (.int 0)) (aCons (eC (.int 4)) (aCons (eC (.int 3)) (aCons (eC (.int 5)) (aCons (eC (.int 6)) (aCons (eC (.int 2)) (aCons (eC (.int 7)) (aCons (eC (.int 1)) (aCons (eC (.int 10)) (aCons (eC (.int 16)) aNil))))))))))) (eApp _law_draw_m (aCons (eVar 1) (aCons (eC (.int 10)) aNil)))))
  (sSeq (sSet 3 (eApp _law_digits_m (aCons (eApp _law_draw_m (aCons (eVar 1) (aCons (eC (.int 65536)) aNil))) (aCons (eC (.int 2)) (aCons (eVar 2) aNil)))))
  (sSeq (sSet 4 (eApp mTuple (aCons (eLc (iRng1 (aCons (eVar 2) aNil)) (tgName 5) law_d1 law_c1 [5]) aNil)))
  (sSeq (sIf (tOrM (tNotM (tOf (eApp _law_firsts_hold_m (aCons (eVar 1) (aCons (eVar 2) (aCons (eVar 4) aNil)))))) (tNotM (tOf (eApp _law_teams_hold_m (aCons (eVar 1) (aCons (eVar 2) (aCons (eVar 4) aNil))))))) (sSeq (sRet (eC (.bl false)))
  sNil) sNil)
  (sSeq (sRet (eApp _law_works_hold_m (aCons (eVar 1) (aCons (eVar 2) (aCons (eVar 4) aNil)))))
  sNil))))))
def law_m : FM := fnM 1 6 law_b
end
end K03

/-! each def of law k03 keeps its mirror -/
namespace K03
open PySem L2 Mi
def top (i : Nat) : Stmt := PySem.Challenge.pw_unseenprices_k03_counts_of_three_kinds.main.body.getD i (.Pass ⟨0, 0, 0, 0⟩)
theorem sg_ne {x : Str} (h : x ≠ "name" ∧ x ≠ "place" ∧ x ≠ "things" ∧ x ≠ "size" ∧ x ≠ "_things" ∧ x ≠ "number" ∧ x ≠ "classes" ∧ x ≠ "places" ∧ x ≠ "days" ∧ x ≠ "?") : ∀ j, g.fn j ≠ x := fun j => by
  obtain ⟨h0, h1, h2, h3, h4, h5, h6, h7, h8, h9⟩ := h
  show fnK j ≠ x
  unfold fnK
  split <;> first | exact h0.symm | exact h1.symm | exact h2.symm | exact h3.symm | exact h4.symm | exact h5.symm | exact h6.symm | exact h7.symm | exact h8.symm | exact h9.symm
end K03

namespace K03
open PySem L2 Mi
abbrev st_is_integer : Stmt := top 9
theorem sc_is_integer : FnScope ["value"] ["value"] (defScope st_is_integer) := ⟨rfl, rfl, rfl, by decide +kernel, rfl, by decide +kernel, by decide +kernel⟩
theorem ok_is_integer {P : Program} {w : World} {K : Frag} {mg : MG} {base : Heap} {f : Addr} {fd : FuncData} (F : Fun K "is_integer" "is_integer" st_is_integer f fd) (z_isinstance : mg ("isinstance" : Str) = none) (z_int : mg ("int" : Str) = none) (z_bool : mg ("bool" : Str) = none) : FnOk P w K mg base (L2.CX P w) 1 f fd ["value"] (SpM K mg g 1 is_integer_m) :=
  fn_mi F sc_is_integer finR_ok fun cdv A outer s H E xc hr =>
    (jb_cons (js_ret (je_and (je_isi "int" (je_var 0) z_isinstance z_int (by decide +kernel)) (je_one (je_not (je_isi "bool" (je_var 0) z_isinstance z_bool (by decide +kernel))))))
    jb_nil)
end K03

namespace K03
open PySem L2 Mi
abbrev st_is_count : Stmt := top 10
theorem sc_is_count : FnScope ["value"] ["value"] (defScope st_is_count) := ⟨rfl, rfl, rfl, by decide +kernel, rfl, by decide +kernel, by decide +kernel⟩
theorem ok_is_count {P : Program} {w : World} {K : Frag} {mg : MG} {base : Heap} {f : Addr} {fd : FuncData} (F : Fun K "is_count" "is_count" st_is_count f fd) (f_is_integer : Fn P w K mg base g "is_integer" 1 1 is_integer_m) : FnOk P w K mg base (L2.CX P w) 2 f fd ["value"] (SpM K mg g 1 is_count_m) :=
  fn_mi F sc_is_count finR_ok fun cdv A outer s H E xc hr =>
    (jb_cons (js_ret (je_and (je_call f_is_integer (hr.mono (by decide)) tkc (ja_cons (je_var 0) ja_nil)) (je_one (je_cmp cm_ge (je_var 0) je_int))))
    jb_nil)
end K03

namespace K03
open PySem L2 Mi
abbrev st_is_thing : Stmt := top 11
theorem sc_is_thing : FnScope ["size", "value"] ["size", "value"] (defScope st_is_thing) := ⟨rfl, rfl, rfl, by decide +kernel, rfl, by decide +kernel, by decide +kernel⟩
theorem ok_is_thing {P : Program} {w : World} {K : Frag} {mg : MG} {base : Heap} {f : Addr} {fd : FuncData} (F : Fun K "is_thing" "is_thing" st_is_thing f fd) (f_is_integer : Fn P w K mg base g "is_integer" 1 1 is_integer_m) : FnOk P w K mg base (L2.CX P w) 2 f fd ["size", "value"] (SpM K mg g 2 is_thing_m) :=
  fn_mi F sc_is_thing finR_ok fun cdv A outer s H E xc hr =>
    (jb_cons (js_ret (je_and (je_call f_is_integer (hr.mono (by decide)) tkc (ja_cons (je_var 1) ja_nil)) (je_one (je_chn cm_le cm_lt je_int (je_var 1) (je_var 0)))))
    jb_nil)
end K03

namespace K03
open PySem L2 Mi
abbrev st_misplaced : Stmt := top 12
theorem sc_misplaced : FnScope ["size", "things", "before", "place", "thing"] ["size", "things"] (defScope st_misplaced) := ⟨rfl, rfl, rfl, by decide +kernel, rfl, by decide +kernel, by decide +kernel⟩
theorem ok_misplaced {P : Program} {w : World} {K : Frag} {mg : MG} {base : Heap} {f : Addr} {fd : FuncData} (F : Fun K "misplaced" "misplaced" st_misplaced f fd) (z_enumerate : mg ("enumerate" : Str) = none) (f_is_thing : Fn P w K mg base g "is_thing" 2 2 is_thing_m) : FnOk P w K mg base (L2.CX P w) 3 f fd ["size", "things"] (SpM K mg g 2 misplaced_m) :=
  fn_mi F sc_misplaced finR_ok fun cdv A outer s H E xc hr =>
    (jb_cons (js_set 2 sc_misplaced.nd (je_neg je_int))
    (jb_cons (js_for poc rfl (ji_enum (ja_cons (je_var 1) ja_nil) z_enumerate) (jg_tup rfl (.cons (jg_name 3 sc_misplaced.nd) (.cons (jg_name 4 sc_misplaced.nd) .nil rfl) rfl)) (jb_cons (js_if (JW.jt (jw_or (jt_not (jt_of (je_call f_is_thing (hr.mono (by decide)) tkc (ja_cons (je_var 0) (ja_cons (je_var 4) ja_nil))))) (jw_or1 (jt_cm cm_le (je_var 4) (je_var 2))))) (jb_cons (js_ret (je_var 3))
    jb_nil) jb_nil)
    (jb_cons (js_set 2 sc_misplaced.nd (je_var 4))
    jb_nil)))
    (jb_cons (js_ret je_non)
    jb_nil)))
end K03

namespace K03
open PySem L2 Mi
abbrev st_set_of : Stmt := top 13
theorem sc_set_of : FnScope ["size", "things", "place"] ["size", "things"] (defScope st_set_of) := ⟨rfl, rfl, rfl, by decide +kernel, rfl, by decide +kernel, by decide +kernel⟩
theorem ok_set_of {P : Program} {w : World} {K : Frag} {mg : MG} {base : Heap} {f : Addr} {fd : FuncData} (F : Fun K "set_of" "set_of" st_set_of f fd) (f_misplaced : Fn P w K mg base g "misplaced" 3 2 misplaced_m) (o_BadSet : Own P w K mg base g 1 1 1) (z_tuple : mg ("tuple" : Str) = none) : FnOk P w K mg base (L2.CX P w) 4 f fd ["size", "things"] (SpM K mg g 2 set_of_m) :=
  fn_mi F sc_set_of finR_ok fun cdv A outer s H E xc hr =>
    (jb_cons (js_set 2 sc_set_of.nd (je_call f_misplaced (hr.mono (by decide)) tkc (ja_cons (je_var 0) (ja_cons (je_var 1) ja_nil))))
    (jb_cons (js_if (jt_cm cm_isnot (je_var 2) je_non) (jb_cons (js_raise 1 1 o_BadSet (hr.mono (by decide)) rfl tkc (je_var 2))
    jb_nil) jb_nil)
    (jb_cons (js_ret (je_blt bm_tuple (ja_cons (je_var 1) ja_nil) z_tuple))
    jb_nil)))
end K03

namespace K03
open PySem L2 Mi
abbrev st_Rule___init__ : Stmt := inClass (top 15) 0
theorem sc_Rule___init__ : FnScope ["self", "size"] ["self", "size"] (defScope st_Rule___init__) := ⟨rfl, rfl, rfl, by decide +kernel, rfl, by decide +kernel, by decide +kernel⟩
theorem ok_Rule___init__ {P : Program} {w : World} {K : Frag} {mg : MG} {base : Heap} {f : Addr} {fd : FuncData} (F : Fun K "__init__" "Rule.__init__" st_Rule___init__ f fd) (f_is_count : Fn P w K mg base g "is_count" 2 1 is_count_m) (o_BadNumber : Own P w K mg base g 0 0 1) (a_size : ∀ c, tRule c = true → Fld K mg g c 3) (z_tuple : mg ("tuple" : Str) = none) (z_range : mg ("range" : Str) = none) (a__things : ∀ c, tRule c = true → Fld K mg g c 4) : FnOk P w K mg base (L2.CX P w) 3 f fd ["self", "size"] (SpM K mg g 2 Rule___init___m) :=
  fn_mi F sc_Rule___init__ finR_ok fun cdv A outer s H E xc hr =>
    (jb_cons (js_if (jt_not (jt_of (je_call f_is_count (hr.mono (by decide)) tkc (ja_cons (je_var 1) ja_nil)))) (jb_cons (js_raise 0 0 o_BadNumber (hr.mono (by decide)) rfl tkc je_str)
    jb_nil) jb_nil)
    (jb_cons (js_fld tRule 3 a_size (je_var 0) (je_var 1))
    (jb_cons (js_fld tRule 4 a__things (je_var 0) (je_tupRg rfl (je_var 1) z_tuple z_range))
    jb_nil)))
end K03

namespace K03
open PySem L2 Mi
abbrev st_Rule__rank : Stmt := inClass (top 15) 2
theorem sc_Rule__rank : FnScope ["self", "things"] ["self", "things"] (defScope st_Rule__rank) := ⟨rfl, rfl, rfl, by decide +kernel, rfl, by decide +kernel, by decide +kernel⟩
theorem ok_Rule__rank {P : Program} {w : World} {K : Frag} {mg : MG} {base : Heap} {f : Addr} {fd : FuncData} (F : Fun K "_rank" "Rule._rank" st_Rule__rank f fd) (z_len : mg ("len" : Str) = none) : FnOk P w K mg base (L2.CX P w) 1 f fd ["self", "things"] (SpM K mg g 2 Rule__rank_m) :=
  fn_mi F sc_Rule__rank finR_ok fun cdv A outer s H E xc hr =>
    (jb_cons (js_ret (je_blt bm_len (ja_cons (je_var 1) ja_nil) z_len))
    jb_nil)
end K03

namespace K03
open PySem L2 Mi
abbrev st_Firsts___init__ : Stmt := inClass (top 17) 0
theorem sc_Firsts___init__ : NdefX.NScope ["self", "size", "k", "__class__"] ["self", "size", "k"] ["__class__"] (defScope st_Firsts___init__) := NdefX.nscope_by (by decide +kernel)
theorem ok_Firsts___init__ {P : Program} {w : World} {K : Frag} {mg : MG} {base : Heap} {f cc cda D : Addr} {fd : FuncData} (F : SupD P K mg "__init__" "Firsts.__init__" st_Firsts___init__ f fd cc cda D) (s___init__ : ∀ c, tFirsts c = true → Sup P w K mg base g D c "__init__" 3 2 Rule___init___m) (f_is_count : Fn P w K mg base g "is_count" 2 1 is_count_m) (o_BadNumber : Own P w K mg base g 0 0 1) (a_number : ∀ c, tFirsts c = true → Fld K mg g c 5) : FnOk P w K mg base (L2.CX P w) 4 f fd ["self", "size", "k"] (SpM K mg g 3 Firsts___init___m) :=
  fn_sup F sc_Firsts___init__ finR_ok fun A outer s H E xc hr =>
    (jbx_cons (jsx_expr (jx_sup tFirsts F s___init__ (hr.mono (by decide)) tkn (ja_cons (je_var 1) ja_nil) rfl rfl (by show List.lookup _ [(_, cc)] = _; simp [List.lookup]) rfl rfl rfl))
    (JB.x (jb_cons (js_if (jt_not (jt_of (je_call f_is_count (hr.mono (by decide)) tkn (ja_cons (je_var 2) ja_nil)))) (jb_cons (js_raise 0 0 o_BadNumber (hr.mono (by decide)) rfl tkn je_str)
    jb_nil) jb_nil)
    (jb_cons (js_fld tFirsts 5 a_number (je_var 0) (je_var 2))
    jb_nil))))
end K03

namespace K03
open PySem L2 Mi
abbrev st_Firsts__rank : Stmt := inClass (top 17) 1
theorem sc_Firsts__rank : NdefX.NScope ["self", "things", "__class__"] ["self", "things"] ["__class__"] (defScope st_Firsts__rank) := NdefX.nscope_by (by decide +kernel)
theorem ok_Firsts__rank {P : Program} {w : World} {K : Frag} {mg : MG} {base : Heap} {f cc cda D : Addr} {fd : FuncData} (F : SupD P K mg "_rank" "Firsts._rank" st_Firsts__rank f fd cc cda D) (s__rank : ∀ c, tFirsts c = true → Sup P w K mg base g D c "_rank" 1 2 Rule__rank_m) (a_number : ∀ c, tFirsts c = true → Fld K mg g c 5) (z_min : mg ("min" : Str) = none) : FnOk P w K mg base (L2.CX P w) 2 f fd ["self", "things"] (SpM K mg g 2 Firsts__rank_m) :=
  fn_sup F sc_Firsts__rank finR_ok fun A outer s H E xc hr =>
    (jbx_cons (jsx_ret (jx_blt (bm_min rfl) (jx_sup tFirsts F s__rank (hr.mono (by decide)) tkn (ja_cons (je_var 1) ja_nil) rfl rfl (by show List.lookup _ [(_, cc)] = _; simp [List.lookup]) rfl rfl rfl) (ja_cons (je_fld tFirsts 5 a_number (je_var 0)) ja_nil) z_min))
    (JB.x jb_nil))
end K03

namespace K03
open PySem L2 Mi
abbrev st_Teams___init__ : Stmt := inClass (top 18) 0
theorem sc_Teams___init__ : NdefX.NScope ["self", "classes", "places", "__class__", "place", "group", "many"] ["self", "classes", "places"] ["__class__"] (defScope st_Teams___init__) := NdefX.nscope_by (by decide +kernel)
theorem ok_Teams___init__ {P : Program} {w : World} {K : Frag} {mg : MG} {base : Heap} {f cc cda D : Addr} {fd : FuncData} (F : SupD P K mg "__init__" "Teams.__init__" st_Teams___init__ f fd cc cda D) (z_enumerate : mg ("enumerate" : Str) = none) (z_len : mg ("len" : Str) = none) (f_is_thing : Fn P w K mg base g "is_thing" 2 2 is_thing_m) (o_BadEntry : Own P w K mg base g 2 1 1) (f_is_count : Fn P w K mg base g "is_count" 2 1 is_count_m) (s___init__ : ∀ c, tTeams c = true → Sup P w K mg base g D c "__init__" 3 2 Rule___init___m) (z_tuple : mg ("tuple" : Str) = none) (a_classes : ∀ c, tTeams c = true → Fld K mg g c 6) (a_places : ∀ c, tTeams c = true → Fld K mg g c 7) : FnOk P w K mg base (L2.CX P w) 4 f fd ["self", "classes", "places"] (SpM K mg g 3 Teams___init___m) :=
  fn_sup F sc_Teams___init__ finR_ok fun A outer s H E xc hr =>
    (jbx_cons (JS.x (js_for pon rfl (ji_enum (ja_cons (je_var 1) ja_nil) z_enumerate) (jg_tup rfl (.cons (jg_name 4 sc_Teams___init__.nd) (.cons (jg_name 5 sc_Teams___init__.nd) .nil rfl) rfl)) (jb_cons (js_if (jt_not (jt_of (je_call f_is_thing (hr.mono (by decide)) tkn (ja_cons (je_blt bm_len (ja_cons (je_var 2) ja_nil) z_len) (ja_cons (je_var 5) ja_nil))))) (jb_cons (js_raise 2 1 o_BadEntry (hr.mono (by decide)) rfl tkn (je_var 4))
    jb_nil) jb_nil)
    jb_nil)))
    (jbx_cons (JS.x (js_for pon rfl (ji_enum (ja_cons (je_var 2) ja_nil) z_enumerate) (jg_tup rfl (.cons (jg_name 4 sc_Teams___init__.nd) (.cons (jg_name 6 sc_Teams___init__.nd) .nil rfl) rfl)) (jb_cons (js_if (jt_not (jt_of (je_call f_is_count (hr.mono (by decide)) tkn (ja_cons (je_var 6) ja_nil)))) (jb_cons (js_raise 2 1 o_BadEntry (hr.mono (by decide)) rfl tkn (je_var 4))
    jb_nil) jb_nil)
    jb_nil)))
    (jbx_cons (jsx_expr (jx_sup tTeams F s___init__ (hr.mono (by decide)) tkn (ja_cons (je_blt bm_len (ja_cons (je_var 1) ja_nil) z_len) ja_nil) rfl rfl (by show List.lookup _ [(_, cc)] = _; simp [List.lookup]) rfl rfl rfl))
    (JB.x (jb_cons (js_fld tTeams 6 a_classes (je_var 0) (je_blt bm_tuple (ja_cons (je_var 1) ja_nil) z_tuple))
    (jb_cons (js_fld tTeams 7 a_places (je_var 0) (je_blt bm_tuple (ja_cons (je_var 2) ja_nil) z_tuple))
    jb_nil))))))
end K03

namespace K03
open PySem L2 Mi
abbrev st_Teams__rank : Stmt := inClass (top 18) 1
theorem sc_Teams__rank : FnScope ["self", "things", "groups", "thing", "group", "many"] ["self", "things"] (defScope st_Teams__rank) := ⟨rfl, rfl, rfl, by decide +kernel, rfl, by decide +kernel, by decide +kernel⟩
theorem ok_Teams__rank {P : Program} {w : World} {K : Frag} {mg : MG} {base : Heap} {f : Addr} {fd : FuncData} (F : Fun K "_rank" "Teams._rank" st_Teams__rank f fd) (a_classes : ∀ c, tTeams c = true → Fld K mg g c 6) (a_places : ∀ c, tTeams c = true → Fld K mg g c 7) (z_enumerate : mg ("enumerate" : Str) = none) (z_min : mg ("min" : Str) = none) (z_sum : mg ("sum" : Str) = none) : FnOk P w K mg base (L2.CX P w) 1 f fd ["self", "things"] (SpM K mg g 2 Teams__rank_m) :=
  fn_mi F sc_Teams__rank finR_ok fun cdv A outer s H E xc hr =>
    (jb_cons (js_set 2 sc_Teams__rank.nd (je_lc [("thing", 3)] rfl sc_Teams__rank.nd (ji_seq (je_var 1)) (by kernel_rfl) (fun _ _ _ _ _ => (jg_name 3 sc_Teams__rank.nd)) (fun _ _ _ _ _ => jts_nil) (fun _ _ _ _ _ => (je_ix (je_fld tTeams 6 a_classes (je_var 0)) (je_var 3)))))
    (jb_cons (js_ret (je_blt (bm_sum rfl) (ja_cons (je_lc [("group", 4), ("many", 5)] rfl sc_Teams__rank.nd (ji_enum (ja_cons (je_fld tTeams 7 a_places (je_var 0)) ja_nil) z_enumerate) (by kernel_rfl) (fun _ _ _ _ _ => (jg_tup rfl (.cons (jg_name 4 sc_Teams__rank.nd) (.cons (jg_name 5 sc_Teams__rank.nd) .nil rfl) rfl))) (fun _ _ _ _ _ => jts_nil) (fun _ _ _ _ _ => (je_blt (bm_min rfl) (ja_cons (je_count (je_var 2) (ja_cons (je_var 4) ja_nil)) (ja_cons (je_var 5) ja_nil)) z_min))) ja_nil) z_sum))
    jb_nil))
end K03

namespace K03
open PySem L2 Mi
abbrev st_Works___init__ : Stmt := inClass (top 19) 0
theorem sc_Works___init__ : NdefX.NScope ["self", "days", "__class__", "place", "day"] ["self", "days"] ["__class__"] (defScope st_Works___init__) := NdefX.nscope_by (by decide +kernel)
theorem ok_Works___init__ {P : Program} {w : World} {K : Frag} {mg : MG} {base : Heap} {f cc cda D : Addr} {fd : FuncData} (F : SupD P K mg "__init__" "Works.__init__" st_Works___init__ f fd cc cda D) (z_enumerate : mg ("enumerate" : Str) = none) (f_is_count : Fn P w K mg base g "is_count" 2 1 is_count_m) (o_BadEntry : Own P w K mg base g 2 1 1) (z_len : mg ("len" : Str) = none) (s___init__ : ∀ c, tWorks c = true → Sup P w K mg base g D c "__init__" 3 2 Rule___init___m) (z_tuple : mg ("tuple" : Str) = none) (a_days : ∀ c, tWorks c = true → Fld K mg g c 8) : FnOk P w K mg base (L2.CX P w) 4 f fd ["self", "days"] (SpM K mg g 2 Works___init___m) :=
  fn_sup F sc_Works___init__ finR_ok fun A outer s H E xc hr =>
    (jbx_cons (JS.x (js_for pon rfl (ji_enum (ja_cons (je_var 1) ja_nil) z_enumerate) (jg_tup rfl (.cons (jg_name 3 sc_Works___init__.nd) (.cons (jg_name 4 sc_Works___init__.nd) .nil rfl) rfl)) (jb_cons (js_if (jt_not (jt_of (je_call f_is_count (hr.mono (by decide)) tkn (ja_cons (je_var 4) ja_nil)))) (jb_cons (js_raise 2 1 o_BadEntry (hr.mono (by decide)) rfl tkn (je_var 3))
    jb_nil) jb_nil)
    jb_nil)))
    (jbx_cons (jsx_expr (jx_sup tWorks F s___init__ (hr.mono (by decide)) tkn (ja_cons (je_blt bm_len (ja_cons (je_var 1) ja_nil) z_len) ja_nil) rfl rfl (by show List.lookup _ [(_, cc)] = _; simp [List.lookup]) rfl rfl rfl))
    (JB.x (jb_cons (js_fld tWorks 8 a_days (je_var 0) (je_blt bm_tuple (ja_cons (je_var 1) ja_nil) z_tuple))
    jb_nil))))
end K03

namespace K03
open PySem L2 Mi
abbrev st_Works__rank : Stmt := inClass (top 19) 1
theorem sc_Works__rank : FnScope ["self", "things", "done", "day", "thing"] ["self", "things"] (defScope st_Works__rank) := ⟨rfl, rfl, rfl, by decide +kernel, rfl, by decide +kernel, by decide +kernel⟩
theorem ok_Works__rank {P : Program} {w : World} {K : Frag} {mg : MG} {base : Heap} {f : Addr} {fd : FuncData} (F : Fun K "_rank" "Works._rank" st_Works__rank f fd) (a_days : ∀ c, tWorks c = true → Fld K mg g c 8) (z_sorted : mg ("sorted" : Str) = none) : FnOk P w K mg base (L2.CX P w) 1 f fd ["self", "things"] (SpM K mg g 2 Works__rank_m) :=
  fn_mi F sc_Works__rank finR_ok fun cdv A outer s H E xc hr =>
    (jb_cons (js_set 2 sc_Works__rank.nd je_int)
    (jb_cons (js_for poc rfl (ji_seq (je_blt (bm_sorted (u64 hr)) (ja_cons (je_lc [("thing", 4)] rfl sc_Works__rank.nd (ji_seq (je_var 1)) (by kernel_rfl) (fun _ _ _ _ _ => (jg_name 4 sc_Works__rank.nd)) (fun _ _ _ _ _ => jts_nil) (fun _ _ _ _ _ => (je_ix (je_fld tWorks 8 a_days (je_var 0)) (je_var 4)))) ja_nil) z_sorted)) (jg_name 3 sc_Works__rank.nd) (jb_cons (js_if (jt_cm cm_gt (je_var 3) (je_var 2)) (jb_cons (js_aug 2 ip_add sc_Works__rank.nd je_int)
    jb_nil) jb_nil)
    jb_nil))
    (jb_cons (js_ret (je_var 2))
    jb_nil)))
end K03

namespace K03
open PySem L2 Mi
abbrev st_Rule__free : Stmt := inClass (top 15) 3
theorem sc_Rule__free : FnScope ["self", "things"] ["self", "things"] (defScope st_Rule__free) := ⟨rfl, rfl, rfl, by decide +kernel, rfl, by decide +kernel, by decide +kernel⟩
theorem ok_Rule__free {P : Program} {w : World} {K : Frag} {mg : MG} {base : Heap} {f : Addr} {fd : FuncData} (F : Fun K "_free" "Rule._free" st_Rule__free f fd) (d__rank : ∀ c m, disp__rank c = some m → Mth P w K mg base g c "_rank" 2 2 m) (z_len : mg ("len" : Str) = none) : FnOk P w K mg base (L2.CX P w) 3 f fd ["self", "things"] (SpM K mg g 2 Rule__free_m) :=
  fn_mi F sc_Rule__free finR_ok fun cdv A outer s H E xc hr =>
    (jb_cons (js_ret (je_cmp (cm_eq (u64 hr)) (je_mth d__rank (sg_ne (by decide)) (hr.mono (by decide)) tkc (je_var 0) (ja_cons (je_var 1) ja_nil)) (je_blt bm_len (ja_cons (je_var 1) ja_nil) z_len)))
    jb_nil)
end K03

namespace K03
open PySem L2 Mi
abbrev st_Rule_is_free : Stmt := inClass (top 15) 10
theorem sc_Rule_is_free : FnScope ["self", "things"] ["self", "things"] (defScope st_Rule_is_free) := ⟨rfl, rfl, rfl, by decide +kernel, rfl, by decide +kernel, by decide +kernel⟩
theorem ok_Rule_is_free {P : Program} {w : World} {K : Frag} {mg : MG} {base : Heap} {f : Addr} {fd : FuncData} (F : Fun K "is_free" "Rule.is_free" st_Rule_is_free f fd) (a_size : ∀ c, tRule c = true → Fld K mg g c 3) (f_set_of : Fn P w K mg base g "set_of" 4 2 set_of_m) (d__free : ∀ c m, disp__free c = some m → Mth P w K mg base g c "_free" 3 2 m) : FnOk P w K mg base (L2.CX P w) 5 f fd ["self", "things"] (SpM K mg g 2 Rule_is_free_m) :=
  fn_mi F sc_Rule_is_free finR_ok fun cdv A outer s H E xc hr =>
    (jb_cons (js_ret (je_mth d__free (sg_ne (by decide)) (hr.mono (by decide)) tkc (je_var 0) (ja_cons (je_call f_set_of (hr.mono (by decide)) tkc (ja_cons (je_fld tRule 3 a_size (je_var 0)) (ja_cons (je_var 1) ja_nil))) ja_nil)))
    jb_nil)
end K03

namespace K03
open PySem L2 Mi
abbrev st_Rule_rank : Stmt := inClass (top 15) 11
theorem sc_Rule_rank : FnScope ["self", "things"] ["self", "things"] (defScope st_Rule_rank) := ⟨rfl, rfl, rfl, by decide +kernel, rfl, by decide +kernel, by decide +kernel⟩
theorem ok_Rule_rank {P : Program} {w : World} {K : Frag} {mg : MG} {base : Heap} {f : Addr} {fd : FuncData} (F : Fun K "rank" "Rule.rank" st_Rule_rank f fd) (a_size : ∀ c, tRule c = true → Fld K mg g c 3) (f_set_of : Fn P w K mg base g "set_of" 4 2 set_of_m) (d__rank : ∀ c m, disp__rank c = some m → Mth P w K mg base g c "_rank" 2 2 m) : FnOk P w K mg base (L2.CX P w) 5 f fd ["self", "things"] (SpM K mg g 2 Rule_rank_m) :=
  fn_mi F sc_Rule_rank finR_ok fun cdv A outer s H E xc hr =>
    (jb_cons (js_ret (je_mth d__rank (sg_ne (by decide)) (hr.mono (by decide)) tkc (je_var 0) (ja_cons (je_call f_set_of (hr.mono (by decide)) tkc (ja_cons (je_fld tRule 3 a_size (je_var 0)) (ja_cons (je_var 1) ja_nil))) ja_nil)))
    jb_nil)
end K03

namespace K03
open PySem L2 Mi
abbrev st_timetable : Stmt := top 20
theorem sc_timetable : FnScope ["works", "things", "chosen", "_", "thing"] ["works", "things"] (defScope st_timetable) := ⟨rfl, rfl, rfl, by decide +kernel, rfl, by decide +kernel, by decide +kernel⟩
theorem ok_timetable {P : Program} {w : World} {K : Frag} {mg : MG} {base : Heap} {f : Addr} {fd : FuncData} (F : Fun K "timetable" "timetable" st_timetable f fd) (a_size : ∀ c, tRule c = true → Fld K mg g c 3) (f_set_of : Fn P w K mg base g "set_of" 4 2 set_of_m) (d__free : ∀ c m, disp__free c = some m → Mth P w K mg base g c "_free" 3 2 m) (o_NotFree : Own P w K mg base g 4 2 1) (a_days : ∀ c, tWorks c = true → Fld K mg g c 8) (z_sorted : mg ("sorted" : Str) = none) : FnOk P w K mg base (L2.CX P w) 5 f fd ["works", "things"] (SpM K mg g 2 timetable_m) :=
  fn_mi F sc_timetable finR_ok fun cdv A outer s H E xc hr =>
    (jb_cons (js_set 2 sc_timetable.nd (je_call f_set_of (hr.mono (by decide)) tkc (ja_cons (je_fld tRule 3 a_size (je_var 0)) (ja_cons (je_var 1) ja_nil))))
    (jb_cons (js_if (jt_not (jt_of (je_mth d__free (sg_ne (by decide)) (hr.mono (by decide)) tkc (je_var 0) (ja_cons (je_var 2) ja_nil)))) (jb_cons (js_raise 4 2 o_NotFree (hr.mono (by decide)) rfl tkc (je_var 2))
    jb_nil) jb_nil)
    (jb_cons (js_ret (je_lc [("_", 3), ("thing", 4)] rfl sc_timetable.nd (ji_seq (je_blt (bm_sorted (u64 hr)) (ja_cons (je_lc [("thing", 4)] rfl sc_timetable.nd (ji_seq (je_var 2)) (by kernel_rfl) (fun _ _ _ _ _ => (jg_name 4 sc_timetable.nd)) (fun _ _ _ _ _ => jts_nil) (fun _ _ _ _ _ => (je_tup (ja_cons (je_ix (je_fld tWorks 8 a_days (je_var 0)) (je_var 4)) (ja_cons (je_var 4) ja_nil))))) ja_nil) z_sorted)) (by kernel_rfl) (fun _ _ _ _ _ => (jg_tup rfl (.cons (jg_name 3 sc_timetable.nd) (.cons (jg_name 4 sc_timetable.nd) .nil rfl) rfl))) (fun _ _ _ _ _ => jts_nil) (fun _ _ _ _ _ => (je_var 4))))
    jb_nil)))
end K03

namespace K03
open PySem L2 Mi
abbrev st__law_pool : Stmt := top 22
theorem sc__law_pool : FnScope ["_law_script", "_law_cells", "_law_seed", "_law_cell"] ["_law_script"] (defScope st__law_pool) := ⟨rfl, rfl, rfl, by decide +kernel, rfl, by decide +kernel, by decide +kernel⟩
theorem ok__law_pool {P : Program} {w : World} {K : Frag} {mg : MG} {base : Heap} {f : Addr} {fd : FuncData} (F : Fun K "_law_pool" "_law_pool" st__law_pool f fd) (z_int : mg ("int" : Str) = none) (z_abs : mg ("abs" : Str) = none) : FnOk P w K mg base (L2.CX P w) 1 f fd ["_law_script"] (SpM K mg g 1 _law_pool_m) :=
  fn_mi F sc__law_pool finRM_ok fun cdv A outer s H E xc hr =>
    (jb_cons (js_setLc 1 [("_law_cell", 3)] rfl sc__law_pool.nd (ji_seq (je_sl slm_c (je_var 0) jo_none (jo_some je_int))) (by kernel_rfl) (sw_true rfl rfl rfl rfl) (fun _ _ _ _ _ => (jg_name 3 sc__law_pool.nd)) (fun _ _ _ _ _ => jts_nil) (fun _ _ _ _ _ => (je_blt bm_int (ja_cons (je_var 3) ja_nil) z_int)))
    (jb_cons (js_set 2 sc__law_pool.nd je_int)
    (jb_cons (js_for poc rfl (ji_seq (je_var 1)) (jg_name 3 sc__law_pool.nd) (jb_cons (js_if (jt_cm cm_lt (je_blt bm_abs (ja_cons (je_var 3) ja_nil) z_abs) je_int) (jb_cons (js_set 2 sc__law_pool.nd (je_mod (je_blt bm_int (ja_cons (je_add (je_mul (je_var 2) je_int) (je_blt bm_abs (ja_cons (je_var 3) ja_nil) z_abs)) ja_nil) z_int) je_int))
    jb_nil) jb_nil)
    jb_nil))
    (jb_cons (js_ret (je_lstM (ja_cons (je_var 1) (ja_cons je_int (ja_cons je_int (ja_cons (je_var 2) ja_nil))))))
    jb_nil))))
end K03

namespace K03
open PySem L2 Mi
abbrev st__law_mixed : Stmt := top 23
theorem sc__law_mixed : FnScope ["_law_cell", "_law_place", "_law_one", "_law_two", "_law_three"] ["_law_cell", "_law_place"] (defScope st__law_mixed) := ⟨rfl, rfl, rfl, by decide +kernel, rfl, by decide +kernel, by decide +kernel⟩
theorem ok__law_mixed {P : Program} {w : World} {K : Frag} {mg : MG} {base : Heap} {f : Addr} {fd : FuncData} (F : Fun K "_law_mixed" "_law_mixed" st__law_mixed f fd) (z_int : mg ("int" : Str) = none) : FnOk P w K mg base (L2.CX P w) 1 f fd ["_law_cell", "_law_place"] (SpM K mg g 2 _law_mixed_m) :=
  fn_mi F sc__law_mixed finR_ok fun cdv A outer s H E xc hr =>
    (jb_cons (js_set 2 sc__law_mixed.nd (je_mod (je_blt bm_int (ja_cons (je_mul (je_var 0) (je_add je_int (je_mul je_int (je_var 1)))) ja_nil) z_int) je_int))
    (jb_cons (js_set 3 sc__law_mixed.nd (je_mod (je_blt bm_int (ja_cons (je_add (je_mul (je_var 2) (je_var 2)) (je_mul je_int (je_var 2))) ja_nil) z_int) je_int))
    (jb_cons (js_set 4 sc__law_mixed.nd (je_mod (je_blt bm_int (ja_cons (je_add (je_mul (je_var 3) je_int) (je_var 2)) ja_nil) z_int) je_int))
    (jb_cons (js_ret (je_add (je_mul (je_var 3) je_int) (je_var 4)))
    jb_nil))))
end K03

namespace K03
open PySem L2 Mi
abbrev st__law_draw : Stmt := top 24
theorem sc__law_draw : FnScope ["_law_pool_here", "_law_many", "_law_place", "_law_cell", "_law_rest"] ["_law_pool_here", "_law_many"] (defScope st__law_draw) := ⟨rfl, rfl, rfl, by decide +kernel, rfl, by decide +kernel, by decide +kernel⟩
theorem ok__law_draw {P : Program} {w : World} {K : Frag} {mg : MG} {base : Heap} {f : Addr} {fd : FuncData} (F : Fun K "_law_draw" "_law_draw" st__law_draw f fd) (z_len : mg ("len" : Str) = none) (z_abs : mg ("abs" : Str) = none) (f__law_mixed : Fn P w K mg base g "_law_mixed" 1 2 _law_mixed_m) (z_int : mg ("int" : Str) = none) : FnOk P w K mg base (L2.CX P w) 2 f fd ["_law_pool_here", "_law_many"] (SpM K mg g 2 _law_draw_m) :=
  fn_mi F sc__law_draw finR_ok fun cdv A outer s H E xc hr =>
    (jb_cons (js_if (jt_cm (cm_eq (u64 hr)) (je_ix (je_var 0) je_int) je_int) (jb_cons (js_set 2 sc__law_draw.nd (je_ix (je_var 0) je_int))
    (jb_cons (js_sub (je_var 0) je_int (je_add (je_var 2) je_int))
    (jb_cons (js_set 3 sc__law_draw.nd (je_ix (je_var 0) je_int))
    (jb_cons (js_if (jt_cm cm_lt (je_var 2) (je_blt bm_len (ja_cons (je_ix (je_var 0) je_int) ja_nil) z_len)) (jb_cons (js_set 3 sc__law_draw.nd (je_ix (je_ix (je_var 0) je_int) (je_var 2)))
    jb_nil) jb_nil)
    (jb_cons (js_if (jt_cm cm_lt (je_blt bm_abs (ja_cons (je_var 3) ja_nil) z_abs) je_int) (jb_cons (js_sub (je_var 0) je_int (je_call f__law_mixed (hr.mono (by decide)) tkc (ja_cons (je_var 3) (ja_cons (je_var 2) ja_nil))))
    jb_nil) (jb_cons (js_sub (je_var 0) je_int (je_blt bm_abs (ja_cons (je_var 3) ja_nil) z_abs))
    jb_nil))
    jb_nil))))) jb_nil)
    (jb_cons (js_set 4 sc__law_draw.nd (je_ix (je_var 0) je_int))
    (jb_cons (js_sub (je_var 0) je_int (je_div (je_var 4) (je_var 1)))
    (jb_cons (js_ret (je_mod (je_blt bm_int (ja_cons (je_var 4) ja_nil) z_int) (je_var 1)))
    jb_nil))))
end K03

namespace K03
open PySem L2 Mi
abbrev st__law_digits : Stmt := top 25
theorem sc__law_digits : FnScope ["_law_number", "_law_base", "_law_many", "_law_row", "_law_k"] ["_law_number", "_law_base", "_law_many"] (defScope st__law_digits) := ⟨rfl, rfl, rfl, by decide +kernel, rfl, by decide +kernel, by decide +kernel⟩
theorem ok__law_digits {P : Program} {w : World} {K : Frag} {mg : MG} {base : Heap} {f : Addr} {fd : FuncData} (F : Fun K "_law_digits" "_law_digits" st__law_digits f fd) (z_range : mg ("range" : Str) = none) (z_int : mg ("int" : Str) = none) (z_tuple : mg ("tuple" : Str) = none) : FnOk P w K mg base (L2.CX P w) 1 f fd ["_law_number", "_law_base", "_law_many"] (SpM K mg g 3 _law_digits_m) :=
  fn_mi F sc__law_digits finR_ok fun cdv A outer s H E xc hr =>
    (jb_cons (js_set 3 sc__law_digits.nd (je_lstM ja_nil))
    (jb_cons (js_for poc rfl (ji_range1 (ja_cons (je_var 2) ja_nil) z_range) (jg_name 4 sc__law_digits.nd) (jb_cons (js_expr (je_append (je_var 3) (ja_cons (je_mod (je_blt bm_int (ja_cons (je_var 0) ja_nil) z_int) (je_var 1)) ja_nil)))
    (jb_cons (js_set 0 sc__law_digits.nd (je_div (je_var 0) (je_var 1)))
    jb_nil)))
    (jb_cons (js_ret (je_blt bm_tuple (ja_cons (je_var 3) ja_nil) z_tuple))
    jb_nil)))
end K03

namespace K03
open PySem L2 Mi
abbrev st__law_firsts_hold : Stmt := top 26
theorem sc__law_firsts_hold : FnScope ["_law_pool_here", "_law_size", "_law_some", "_law_k", "_law_made", "_law_way", "_law_wrong", "_law_told", "_law_base", "e"] ["_law_pool_here", "_law_size", "_law_some"] (defScope st__law_firsts_hold) := ⟨rfl, rfl, rfl, by decide +kernel, rfl, by decide +kernel, by decide +kernel⟩
theorem ok__law_firsts_hold {P : Program} {w : World} {K : Frag} {mg : MG} {base : Heap} {f : Addr} {fd : FuncData} {u_BadEntry u_BadNumber u_PricesError : Addr} (F : Fun K "_law_firsts_hold" "_law_firsts_hold" st__law_firsts_hold f fd) (f__law_draw : Fn P w K mg base g "_law_draw" 2 2 _law_draw_m) (k_Firsts : Mak P w K mg base g 6 4 3 Firsts___init___m) (a_number : ∀ c, tFirsts c = true → Fld K mg g c 5) (a_size : ∀ c, tRule c = true → Fld K mg g c 3) (z_list : mg ("list" : Str) = none) (d_rank : ∀ c m, disp_rank c = some m → Mth P w K mg base g c "rank" 5 2 m) (z_len : mg ("len" : Str) = none) (z_min : mg ("min" : Str) = none) (d_is_free : ∀ c m, disp_is_free c = some m → Mth P w K mg base g c "is_free" 5 2 m) (x_name : ∀ c, tBN c = true → XFld K mg g c 0) (z_isinstance : mg ("isinstance" : Str) = none) (i_PricesError : ∀ c b, iPE c = some b → IsX K mg g c ["PricesError"] false b) (g_PricesError : mg "PricesError" = some (.ref u_PricesError)) (i_BadEntry : ∀ c b, iBE c = some b → IsX K mg g c ["BadEntry"] false b) (g_BadEntry : mg "BadEntry" = some (.ref u_BadEntry)) (m_BadNumber : ∀ c b, eBN c = some b → Exm K mg g c (.ref u_BadNumber) b) (g_BadNumber : mg "BadNumber" = some (.ref u_BadNumber)) : FnOk P w K mg base (L2.CX P w) 6 f fd ["_law_pool_here", "_law_size", "_law_some"] (SpM K mg g 3 _law_firsts_hold_m) :=
  fn_mi F sc__law_firsts_hold finR_ok fun cdv A outer s H E xc hr =>
    (jb_cons (js_set 3 sc__law_firsts_hold.nd (je_call f__law_draw (hr.mono (by decide)) tkc (ja_cons (je_var 0) (ja_cons je_int ja_nil))))
    (jb_cons (js_set 4 sc__law_firsts_hold.nd (je_mak k_Firsts (hr.mono (by decide)) tkc (ja_cons (je_var 1) (ja_cons (je_var 3) ja_nil))))
    (jb_cons (js_if (JW.jt (jw_or (jt_cm (cm_ne (u64 hr)) (je_fld tFirsts 5 a_number (je_var 4)) (je_var 3)) (jw_or (jt_cm (cm_ne (u64 hr)) (je_fld tRule 3 a_size (je_var 4)) (je_var 1)) (jw_or1 (jt_cm (cm_ne (u64 hr)) (je_mth d_rank (sg_ne (by decide)) (hr.mono (by decide)) tkc (je_var 4) (ja_cons (je_blt bm_list (ja_cons (je_var 2) ja_nil) z_list) ja_nil)) (je_blt (bm_min rfl) (ja_cons (je_var 3) (ja_cons (je_blt bm_len (ja_cons (je_var 2) ja_nil) z_len) ja_nil)) z_min)))))) (jb_cons (js_ret je_bl)
    jb_nil) jb_nil)
    (jb_cons (js_if (jt_cm (cm_ne (u64 hr)) (je_mth d_is_free (sg_ne (by decide)) (hr.mono (by decide)) tkc (je_var 4) (ja_cons (je_var 2) ja_nil)) (je_cmp cm_le (je_blt bm_len (ja_cons (je_var 2) ja_nil) z_len) (je_var 3))) (jb_cons (js_ret je_bl)
    jb_nil) jb_nil)
    (jb_cons (js_set 5 sc__law_firsts_hold.nd (je_call f__law_draw (hr.mono (by decide)) tkc (ja_cons (je_var 0) (ja_cons je_int ja_nil))))
    (jb_cons (js_set 6 sc__law_firsts_hold.nd (je_ix (je_lst (ja_cons (je_sub (je_neg je_int) (je_var 3)) (ja_cons je_non (ja_cons je_str ja_nil)))) (je_call f__law_draw (hr.mono (by decide)) tkc (ja_cons (je_var 0) (ja_cons je_int ja_nil)))))
    (jb_cons (js_set 7 sc__law_firsts_hold.nd je_non)
    (jb_cons (js_set 8 sc__law_firsts_hold.nd je_bl)
    (jb_cons (js_try eBN 9 m_BadNumber rfl rfl sc__law_firsts_hold.nd g_BadNumber tkc (fun W' pn xe tk' po' => (jb_cons (js_if (jt_cm (cm_eq (u64 hr)) (je_var 5) je_int) (jb_cons (js_expr (je_mak k_Firsts (hr.mono (by decide)) tk' (ja_cons (je_var 6) (ja_cons (je_neg je_int) ja_nil))))
    jb_nil) (jb_cons (js_expr (je_mak k_Firsts (hr.mono (by decide)) tk' (ja_cons (je_var 1) (ja_cons (je_var 6) ja_nil))))
    jb_nil))
    jb_nil)) (fun a oe cls d pn hz hfs => (jb_cons (js_set 7 sc__law_firsts_hold.nd (je_xf tBN 0 x_name hz hfs (je_var 9)))
    (jb_cons (js_set 8 sc__law_firsts_hold.nd (je_and (je_isX iPE i_PricesError hz hfs (je_var 9) z_isinstance g_PricesError) (je_one (je_not (je_isX iBE i_BadEntry hz hfs (je_var 9) z_isinstance g_BadEntry)))))
    jb_nil))))
    (jb_cons (js_ret (je_and (je_var 8) (je_one (je_cmp (cm_eq (u64 hr)) (je_var 7) (je_ix (je_lst (ja_cons je_str (ja_cons je_str ja_nil))) (je_var 5))))))
    jb_nil))))))))))
end K03

namespace K03
open PySem L2 Mi
abbrev st__law_teams_hold : Stmt := top 27
theorem sc__law_teams_hold : FnScope ["_law_pool_here", "_law_size", "_law_some", "_law_count", "_law_places", "_law_classes", "_law_handed", "_law_given", "_law_made", "_law_counts", "_law_at", "_law_below", "_law_wrong", "_law_less", "_law_way", "_law_spoilt", "_law_told", "_law_base", "e", "_law_c", "_law_x"] ["_law_pool_here", "_law_size", "_law_some"] (defScope st__law_teams_hold) := ⟨rfl, rfl, rfl, by decide +kernel, rfl, by decide +kernel, by decide +kernel⟩
theorem ok__law_teams_hold {P : Program} {w : World} {K : Frag} {mg : MG} {base : Heap} {f : Addr} {fd : FuncData} {u_BadEntry u_PricesError : Addr} (F : Fun K "_law_teams_hold" "_law_teams_hold" st__law_teams_hold f fd) (f__law_draw : Fn P w K mg base g "_law_draw" 2 2 _law_draw_m) (z_range : mg ("range" : Str) = none) (z_len : mg ("len" : Str) = none) (z_list : mg ("list" : Str) = none) (k_Teams : Mak P w K mg base g 7 4 3 Teams___init___m) (a_classes : ∀ c, tTeams c = true → Fld K mg g c 6) (z_tuple : mg ("tuple" : Str) = none) (a_places : ∀ c, tTeams c = true → Fld K mg g c 7) (a_size : ∀ c, tRule c = true → Fld K mg g c 3) (d_rank : ∀ c m, disp_rank c = some m → Mth P w K mg base g c "rank" 5 2 m) (z_min : mg ("min" : Str) = none) (z_sum : mg ("sum" : Str) = none) (d_is_free : ∀ c m, disp_is_free c = some m → Mth P w K mg base g c "is_free" 5 2 m) (z_all : mg ("all" : Str) = none) (z_max : mg ("max" : Str) = none) (x_place : ∀ c, tPl c = true → XFld K mg g c 1) (z_isinstance : mg ("isinstance" : Str) = none) (i_PricesError : ∀ c b, iPE c = some b → IsX K mg g c ["PricesError"] false b) (g_PricesError : mg "PricesError" = some (.ref u_PricesError)) (z_int : mg ("int" : Str) = none) (z_bool : mg ("bool" : Str) = none) (m_BadEntry : ∀ c b, eBE c = some b → Exm K mg g c (.ref u_BadEntry) b) (g_BadEntry : mg "BadEntry" = some (.ref u_BadEntry)) : FnOk P w K mg base (L2.CX P w) 6 f fd ["_law_pool_here", "_law_size", "_law_some"] (SpM K mg g 3 _law_teams_hold_m) :=
  fn_mi F sc__law_teams_hold finR_ok fun cdv A outer s H E xc hr =>
    (jb_cons (js_set 3 sc__law_teams_hold.nd (je_add je_int (je_call f__law_draw (hr.mono (by decide)) tkc (ja_cons (je_var 0) (ja_cons je_int ja_nil)))))
    (jb_cons (js_if (JW.jt (jw_and (jt_cm (cm_eq (u64 hr)) (je_var 1) je_int) (jw_and1 (jt_cm (cm_eq (u64 hr)) (je_var 3) je_int)))) (jb_cons (js_set 3 sc__law_teams_hold.nd je_int)
    jb_nil) jb_nil)
    (jb_cons (js_set 4 sc__law_teams_hold.nd (je_lc [("_law_c", 19)] rfl sc__law_teams_hold.nd (ji_range1 (ja_cons (je_var 3) ja_nil) z_range) (by kernel_rfl) (fun _ _ _ _ _ => (jg_name 19 sc__law_teams_hold.nd)) (fun _ _ _ _ _ => jts_nil) (fun _ _ _ _ _ => (je_ix (je_lst (ja_cons je_int (ja_cons je_int (ja_cons je_int (ja_cons je_int (ja_cons je_int ja_nil)))))) (je_call f__law_draw (hr.mono (by decide)) tkb (ja_cons (je_var 0) (ja_cons je_int ja_nil)))))))
    (jb_cons (js_set 5 sc__law_teams_hold.nd (je_lc [("_law_x", 20)] rfl sc__law_teams_hold.nd (ji_range1 (ja_cons (je_var 1) ja_nil) z_range) (by kernel_rfl) (fun _ _ _ _ _ => (jg_name 20 sc__law_teams_hold.nd)) (fun _ _ _ _ _ => jts_nil) (fun _ _ _ _ _ => (je_call f__law_draw (hr.mono (by decide)) tkb (ja_cons (je_var 0) (ja_cons (je_blt bm_len (ja_cons (je_var 4) ja_nil) z_len) ja_nil))))))
    (jb_cons (js_set 6 sc__law_teams_hold.nd (je_blt bm_listM (ja_cons (je_var 5) ja_nil) z_list))
    (jb_cons (js_set 7 sc__law_teams_hold.nd (je_blt bm_listM (ja_cons (je_var 4) ja_nil) z_list))
    (jb_cons (js_set 8 sc__law_teams_hold.nd (je_mak k_Teams (hr.mono (by decide)) tkc (ja_cons (je_var 6) (ja_cons (je_var 7) ja_nil))))
    (jb_cons (js_expr (je_clear (je_var 6)))
    (jb_cons (js_expr (je_clear (je_var 7)))
    (jb_cons (js_if (JW.jt (jw_or (jt_cm (cm_ne (u64 hr)) (je_fld tTeams 6 a_classes (je_var 8)) (je_blt bm_tuple (ja_cons (je_var 5) ja_nil) z_tuple)) (jw_or (jt_cm (cm_ne (u64 hr)) (je_fld tTeams 7 a_places (je_var 8)) (je_blt bm_tuple (ja_cons (je_var 4) ja_nil) z_tuple)) (jw_or1 (jt_cm (cm_ne (u64 hr)) (je_fld tRule 3 a_size (je_var 8)) (je_var 1)))))) (jb_cons (js_ret je_bl)
    jb_nil) jb_nil)
    (jb_cons (js_set 9 sc__law_teams_hold.nd (je_lc [("_law_c", 19)] rfl sc__law_teams_hold.nd (ji_range1 (ja_cons (je_blt bm_len (ja_cons (je_var 4) ja_nil) z_len) ja_nil) z_range) (by kernel_rfl) (fun _ _ _ _ _ => (jg_name 19 sc__law_teams_hold.nd)) (fun _ _ _ _ _ => jts_nil) (fun _ _ _ _ _ => (je_blt bm_len (ja_cons (je_lc [("_law_x", 20)] rfl sc__law_teams_hold.nd (ji_seq (je_var 2)) (by kernel_rfl) (fun _ _ _ _ _ => (jg_name 20 sc__law_teams_hold.nd)) (fun _ _ _ _ _ => (jts_one (jt_cm (cm_eq (u64 hr)) (je_ix (je_var 5) (je_var 20)) (je_var 19)))) (fun _ _ _ _ _ => (je_var 20))) ja_nil) z_len))))
    (jb_cons (js_if (jt_cm (cm_ne (u64 hr)) (je_mth d_rank (sg_ne (by decide)) (hr.mono (by decide)) tkc (je_var 8) (ja_cons (je_var 2) ja_nil)) (je_blt (bm_sum rfl) (ja_cons (je_lc [("_law_c", 19)] rfl sc__law_teams_hold.nd (ji_range1 (ja_cons (je_blt bm_len (ja_cons (je_var 4) ja_nil) z_len) ja_nil) z_range) (by kernel_rfl) (fun _ _ _ _ _ => (jg_name 19 sc__law_teams_hold.nd)) (fun _ _ _ _ _ => jts_nil) (fun _ _ _ _ _ => (je_blt (bm_min rfl) (ja_cons (je_ix (je_var 9) (je_var 19)) (ja_cons (je_ix (je_var 4) (je_var 19)) ja_nil)) z_min))) ja_nil) z_sum)) (jb_cons (js_ret je_bl)
    jb_nil) jb_nil)
    (jb_cons (js_if (jt_cm (cm_ne (u64 hr)) (je_mth d_is_free (sg_ne (by decide)) (hr.mono (by decide)) tkc (je_var 8) (ja_cons (je_blt bm_list (ja_cons (je_var 2) ja_nil) z_list) ja_nil)) (je_blt (bm_all rfl) (ja_cons (je_lc [("_law_c", 19)] rfl sc__law_teams_hold.nd (ji_range1 (ja_cons (je_blt bm_len (ja_cons (je_var 4) ja_nil) z_len) ja_nil) z_range) (by kernel_rfl) (fun _ _ _ _ _ => (jg_name 19 sc__law_teams_hold.nd)) (fun _ _ _ _ _ => jts_nil) (fun _ _ _ _ _ => (je_cmp cm_le (je_ix (je_var 9) (je_var 19)) (je_ix (je_var 4) (je_var 19))))) ja_nil) z_all)) (jb_cons (js_ret je_bl)
    jb_nil) jb_nil)
    (jb_cons (js_set 10 sc__law_teams_hold.nd (je_call f__law_draw (hr.mono (by decide)) tkc (ja_cons (je_var 0) (ja_cons (je_add (je_var 1) je_int) ja_nil))))
    (jb_cons (js_set 11 sc__law_teams_hold.nd (je_call f__law_draw (hr.mono (by decide)) tkc (ja_cons (je_var 0) (ja_cons (je_blt (bm_max rfl) (ja_cons je_int (ja_cons (je_blt bm_len (ja_cons (je_var 4) ja_nil) z_len) ja_nil)) z_max) ja_nil))))
    (jb_cons (js_set 12 sc__law_teams_hold.nd (je_ix (je_lst (ja_cons (je_blt bm_len (ja_cons (je_var 4) ja_nil) z_len) (ja_cons (je_neg je_int) (ja_cons je_non (ja_cons je_str ja_nil))))) (je_call f__law_draw (hr.mono (by decide)) tkc (ja_cons (je_var 0) (ja_cons je_int ja_nil)))))
    (jb_cons (js_set 13 sc__law_teams_hold.nd (je_ix (je_lst (ja_cons (je_neg je_int) (ja_cons je_non ja_nil))) (je_call f__law_draw (hr.mono (by decide)) tkc (ja_cons (je_var 0) (ja_cons je_int ja_nil)))))
    (jb_cons (js_set 14 sc__law_teams_hold.nd (je_call f__law_draw (hr.mono (by decide)) tkc (ja_cons (je_var 0) (ja_cons je_int ja_nil))))
    (jb_cons (js_set 15 sc__law_teams_hold.nd (je_blt bm_list (ja_cons (je_var 5) ja_nil) z_list))
    (jb_cons (js_if (jt_cm (cm_eq (u64 hr)) (je_var 14) je_int) (jb_cons (js_set 15 sc__law_teams_hold.nd (je_add (je_add (je_sl slm_c (je_var 5) jo_none (jo_some (je_var 10))) (je_lst (ja_cons (je_var 12) ja_nil))) (je_sl slm_c (je_var 5) (jo_some (je_var 10)) jo_none)))
    jb_nil) jb_nil)
    (jb_cons (js_set 16 sc__law_teams_hold.nd je_non)
    (jb_cons (js_set 17 sc__law_teams_hold.nd je_bl)
    (jb_cons (js_try eBE 18 m_BadEntry rfl rfl sc__law_teams_hold.nd g_BadEntry tkc (fun W' pn xe tk' po' => (jb_cons (js_expr (je_mak k_Teams (hr.mono (by decide)) tk' (ja_cons (je_var 15) (ja_cons (je_add (je_add (je_sl slm_c (je_var 4) jo_none (jo_some (je_var 11))) (je_lst (ja_cons (je_var 13) ja_nil))) (je_sl slm_c (je_var 4) (jo_some (je_add (je_var 11) je_int)) jo_none)) ja_nil))))
    jb_nil)) (fun a oe cls d pn hz hfs => (jb_cons (js_set 16 sc__law_teams_hold.nd (je_xf tPl 1 x_place hz hfs (je_var 18)))
    (jb_cons (js_set 17 sc__law_teams_hold.nd (je_and (je_isX iPE i_PricesError hz hfs (je_var 18) z_isinstance g_PricesError) (je_and (je_isi "int" (je_xf tPl 1 x_place hz hfs (je_var 18)) z_isinstance z_int (by decide +kernel)) (je_one (je_not (je_isi "bool" (je_xf tPl 1 x_place hz hfs (je_var 18)) z_isinstance z_bool (by decide +kernel)))))))
    jb_nil))))
    (jb_cons (js_ret (je_and (je_var 17) (je_one (je_cmp (cm_eq (u64 hr)) (je_var 16) (je_ix (je_lst (ja_cons (je_var 10) (ja_cons (je_var 11) ja_nil))) (je_var 14))))))
    jb_nil))))))))))))))))))))))))
end K03

namespace K03
open PySem L2 Mi
abbrev st__law_timetable_holds : Stmt := top 28
theorem sc__law_timetable_holds : FnScope ["_law_made", "_law_days", "_law_things", "_law_free", "_law_told", "_law_refused", "_law_base", "e", "_law_due", "_law_key", "_law_t", "_law_k", "_law_x"] ["_law_made", "_law_days", "_law_things"] (defScope st__law_timetable_holds) := ⟨rfl, rfl, rfl, by decide +kernel, rfl, by decide +kernel, by decide +kernel⟩
theorem ok__law_timetable_holds {P : Program} {w : World} {K : Frag} {mg : MG} {base : Heap} {f : Addr} {fd : FuncData} {u_BadEntry u_BadSet u_NotALot u_NotFree u_PricesError : Addr} (F : Fun K "_law_timetable_holds" "_law_timetable_holds" st__law_timetable_holds f fd) (z_len : mg ("len" : Str) = none) (z_range : mg ("range" : Str) = none) (z_all : mg ("all" : Str) = none) (z_list : mg ("list" : Str) = none) (f_timetable : Fn P w K mg base g "timetable" 5 2 timetable_m) (x_things : ∀ c, tTh c = true → XFld K mg g c 2) (z_isinstance : mg ("isinstance" : Str) = none) (i_PricesError : ∀ c b, iPE c = some b → IsX K mg g c ["PricesError"] false b) (g_PricesError : mg "PricesError" = some (.ref u_PricesError)) (i_BadEntry_BadSet_NotALot : ∀ c b, iThree c = some b → IsX K mg g c ["BadEntry", "BadSet", "NotALot"] true b) (g_BadEntry : mg "BadEntry" = some (.ref u_BadEntry)) (g_BadSet : mg "BadSet" = some (.ref u_BadSet)) (g_NotALot : mg "NotALot" = some (.ref u_NotALot)) (m_NotFree : ∀ c b, eNF c = some b → Exm K mg g c (.ref u_NotFree) b) (g_NotFree : mg "NotFree" = some (.ref u_NotFree)) (z_tuple : mg ("tuple" : Str) = none) (z_sorted : mg ("sorted" : Str) = none) : FnOk P w K mg base (L2.CX P w) 6 f fd ["_law_made", "_law_days", "_law_things"] (SpM K mg g 3 _law_timetable_holds_m) :=
  fn_mi F sc__law_timetable_holds finR_ok fun cdv A outer s H E xc hr =>
    (jb_cons (js_set 3 sc__law_timetable_holds.nd (je_blt (bm_all rfl) (ja_cons (je_lc [("_law_t", 10)] rfl sc__law_timetable_holds.nd (ji_range1 (ja_cons (je_add (je_blt bm_len (ja_cons (je_var 1) ja_nil) z_len) je_int) ja_nil) z_range) (by kernel_rfl) (fun _ _ _ _ _ => (jg_name 10 sc__law_timetable_holds.nd)) (fun _ _ _ _ _ => jts_nil) (fun _ _ _ _ _ => (je_cmp cm_le (je_blt bm_len (ja_cons (je_lc [("_law_x", 12)] rfl sc__law_timetable_holds.nd (ji_seq (je_var 2)) (by kernel_rfl) (fun _ _ _ _ _ => (jg_name 12 sc__law_timetable_holds.nd)) (fun _ _ _ _ _ => (jts_one (jt_cm cm_le (je_ix (je_var 1) (je_var 12)) (je_var 10)))) (fun _ _ _ _ _ => (je_var 12))) ja_nil) z_len) (je_var 10)))) ja_nil) z_all))
    (jb_cons (js_set 4 sc__law_timetable_holds.nd je_non)
    (jb_cons (js_set 5 sc__law_timetable_holds.nd je_non)
    (jb_cons (js_set 6 sc__law_timetable_holds.nd je_bl)
    (jb_cons (js_try eNF 7 m_NotFree rfl rfl sc__law_timetable_holds.nd g_NotFree tkc (fun W' pn xe tk' po' => (jb_cons (js_set 4 sc__law_timetable_holds.nd (je_call f_timetable (hr.mono (by decide)) tk' (ja_cons (je_var 0) (ja_cons (je_blt bm_list (ja_cons (je_var 2) ja_nil) z_list) ja_nil))))
    jb_nil)) (fun a oe cls d pn hz hfs => (jb_cons (js_set 5 sc__law_timetable_holds.nd (je_xf tTh 2 x_things hz hfs (je_var 7)))
    (jb_cons (js_set 6 sc__law_timetable_holds.nd (je_and (je_isX iPE i_PricesError hz hfs (je_var 7) z_isinstance g_PricesError) (je_one (je_not (je_isXs iThree i_BadEntry_BadSet_NotALot hz hfs (je_var 7) z_isinstance g_BadEntry g_BadSet g_NotALot)))))
    jb_nil))))
    (jb_cons (js_if (jt_not (jt_of (je_var 3))) (jb_cons (js_ret (je_and (je_var 6) (je_and (je_cmp cm_is (je_var 4) je_non) (je_one (je_cmp (cm_eq (u64 hr)) (je_var 5) (je_blt bm_tuple (ja_cons (je_var 2) ja_nil) z_tuple))))))
    jb_nil) jb_nil)
    (jb_cons (js_setLc 8 [("_law_key", 9)] rfl sc__law_timetable_holds.nd (ji_seq (je_blt (bm_sorted (u64 hr)) (ja_cons (je_lc [("_law_x", 12)] rfl sc__law_timetable_holds.nd (ji_seq (je_var 2)) (by kernel_rfl) (fun _ _ _ _ _ => (jg_name 12 sc__law_timetable_holds.nd)) (fun _ _ _ _ _ => jts_nil) (fun _ _ _ _ _ => (je_tup (ja_cons (je_ix (je_var 1) (je_var 12)) (ja_cons (je_var 12) ja_nil))))) ja_nil) z_sorted)) (by kernel_rfl) (sw_true rfl rfl rfl rfl) (fun _ _ _ _ _ => (jg_name 9 sc__law_timetable_holds.nd)) (fun _ _ _ _ _ => jts_nil) (fun _ _ _ _ _ => (je_ix (je_var 9) je_int)))
    (jb_cons (js_if (JW.jt (jw_or (jt_cm cm_isnot (je_var 5) je_non) (jw_or (jt_not (jt_of (je_isi "list" (je_var 4) z_isinstance z_list (by decide +kernel)))) (jw_or1 (jt_cm (cm_ne (u64 hr)) (je_var 4) (je_var 8)))))) (jb_cons (js_ret je_bl)
    jb_nil) jb_nil)
    (jb_cons (js_ret (je_blt (bm_all rfl) (ja_cons (je_lc [("_law_k", 11)] rfl sc__law_timetable_holds.nd (ji_range1 (ja_cons (je_blt bm_len (ja_cons (je_var 4) ja_nil) z_len) ja_nil) z_range) (by kernel_rfl) (fun _ _ _ _ _ => (jg_name 11 sc__law_timetable_holds.nd)) (fun _ _ _ _ _ => jts_nil) (fun _ _ _ _ _ => (je_cmp cm_gt (je_ix (je_var 1) (je_ix (je_var 4) (je_var 11))) (je_var 11)))) ja_nil) z_all))
    jb_nil)))))))))
end K03

namespace K03
open PySem L2 Mi
abbrev st__law_no_set_place : Stmt := top 29
theorem sc__law_no_set_place : FnScope ["_law_made", "_law_row", "_law_place", "e"] ["_law_made", "_law_row"] (defScope st__law_no_set_place) := ⟨rfl, rfl, rfl, by decide +kernel, rfl, by decide +kernel, by decide +kernel⟩
theorem ok__law_no_set_place {P : Program} {w : World} {K : Frag} {mg : MG} {base : Heap} {f : Addr} {fd : FuncData} {u_BadSet : Addr} (F : Fun K "_law_no_set_place" "_law_no_set_place" st__law_no_set_place f fd) (f_timetable : Fn P w K mg base g "timetable" 5 2 timetable_m) (x_place : ∀ c, tPl c = true → XFld K mg g c 1) (m_BadSet : ∀ c b, eBS c = some b → Exm K mg g c (.ref u_BadSet) b) (g_BadSet : mg "BadSet" = some (.ref u_BadSet)) : FnOk P w K mg base (L2.CX P w) 6 f fd ["_law_made", "_law_row"] (SpM K mg g 2 _law_no_set_place_m) :=
  fn_mi F sc__law_no_set_place finR_ok fun cdv A outer s H E xc hr =>
    (jb_cons (js_set 2 sc__law_no_set_place.nd je_non)
    (jb_cons (js_try eBS 3 m_BadSet rfl rfl sc__law_no_set_place.nd g_BadSet tkc (fun W' pn xe tk' po' => (jb_cons (js_expr (je_call f_timetable (hr.mono (by decide)) tk' (ja_cons (je_var 0) (ja_cons (je_var 1) ja_nil))))
    jb_nil)) (fun a oe cls d pn hz hfs => (jb_cons (js_set 2 sc__law_no_set_place.nd (je_xf tPl 1 x_place hz hfs (je_var 3)))
    jb_nil)))
    (jb_cons (js_ret (je_var 2))
    jb_nil)))
end K03

namespace K03
open PySem L2 Mi
abbrev st__law_works_hold : Stmt := top 30
theorem sc__law_works_hold : FnScope ["_law_pool_here", "_law_size", "_law_some", "_law_limit", "_law_shift", "_law_days", "_law_handed", "_law_made", "_law_due", "_law_rank", "_law_part", "_law_x", "_law_early", "_law_at", "_law_wrong", "_law_told", "_law_base", "e", "_law_t", "_law_y", "_law_k"] ["_law_pool_here", "_law_size", "_law_some"] (defScope st__law_works_hold) := ⟨rfl, rfl, rfl, by decide +kernel, rfl, by decide +kernel, by decide +kernel⟩
theorem ok__law_works_hold {P : Program} {w : World} {K : Frag} {mg : MG} {base : Heap} {f : Addr} {fd : FuncData} {u_BadEntry u_PricesError : Addr} (F : Fun K "_law_works_hold" "_law_works_hold" st__law_works_hold f fd) (f__law_draw : Fn P w K mg base g "_law_draw" 2 2 _law_draw_m) (z_range : mg ("range" : Str) = none) (z_list : mg ("list" : Str) = none) (k_Works : Mak P w K mg base g 8 4 2 Works___init___m) (a_days : ∀ c, tWorks c = true → Fld K mg g c 8) (z_tuple : mg ("tuple" : Str) = none) (a_size : ∀ c, tRule c = true → Fld K mg g c 3) (z_len : mg ("len" : Str) = none) (z_min : mg ("min" : Str) = none) (d_rank : ∀ c m, disp_rank c = some m → Mth P w K mg base g c "rank" 5 2 m) (z_isinstance : mg ("isinstance" : Str) = none) (z_int : mg ("int" : Str) = none) (z_bool : mg ("bool" : Str) = none) (d_is_free : ∀ c m, disp_is_free c = some m → Mth P w K mg base g c "is_free" 5 2 m) (z_all : mg ("all" : Str) = none) (z_sorted : mg ("sorted" : Str) = none) (f__law_timetable_holds : Fn P w K mg base g "_law_timetable_holds" 6 3 _law_timetable_holds_m) (f__law_no_set_place : Fn P w K mg base g "_law_no_set_place" 6 2 _law_no_set_place_m) (x_place : ∀ c, tPl c = true → XFld K mg g c 1) (i_PricesError : ∀ c b, iPE c = some b → IsX K mg g c ["PricesError"] false b) (g_PricesError : mg "PricesError" = some (.ref u_PricesError)) (m_BadEntry : ∀ c b, eBE c = some b → Exm K mg g c (.ref u_BadEntry) b) (g_BadEntry : mg "BadEntry" = some (.ref u_BadEntry)) : FnOk P w K mg base (L2.CX P w) 7 f fd ["_law_pool_here", "_law_size", "_law_some"] (SpM K mg g 3 _law_works_hold_m) :=
  fn_mi F sc__law_works_hold finR_ok fun cdv A outer s H E xc hr =>
    (jb_cons (js_set 3 sc__law_works_hold.nd (je_ix (je_lst (ja_cons je_int (ja_cons (je_add (je_var 1) je_int) (ja_cons je_int (ja_cons je_int ja_nil))))) (je_call f__law_draw (hr.mono (by decide)) tkc (ja_cons (je_var 0) (ja_cons je_int ja_nil)))))
    (jb_cons (js_set 4 sc__law_works_hold.nd (je_ix (je_lst (ja_cons je_int (ja_cons je_int ja_nil))) (je_call f__law_draw (hr.mono (by decide)) tkc (ja_cons (je_var 0) (ja_cons je_int ja_nil)))))
    (jb_cons (js_set 5 sc__law_works_hold.nd (je_lc [("_law_x", 11)] rfl sc__law_works_hold.nd (ji_range1 (ja_cons (je_var 1) ja_nil) z_range) (by kernel_rfl) (fun _ _ _ _ _ => (jg_name 11 sc__law_works_hold.nd)) (fun _ _ _ _ _ => jts_nil) (fun _ _ _ _ _ => (je_add (je_var 4) (je_call f__law_draw (hr.mono (by decide)) tkb (ja_cons (je_var 0) (ja_cons (je_var 3) ja_nil)))))))
    (jb_cons (js_set 6 sc__law_works_hold.nd (je_blt bm_listM (ja_cons (je_var 5) ja_nil) z_list))
    (jb_cons (js_set 7 sc__law_works_hold.nd (je_mak k_Works (hr.mono (by decide)) tkc (ja_cons (je_var 6) ja_nil)))
    (jb_cons (js_expr (je_clear (je_var 6)))
    (jb_cons (js_if (JW.jt (jw_or (jt_cm (cm_ne (u64 hr)) (je_fld tWorks 8 a_days (je_var 7)) (je_blt bm_tuple (ja_cons (je_var 5) ja_nil) z_tuple)) (jw_or1 (jt_cm (cm_ne (u64 hr)) (je_fld tRule 3 a_size (je_var 7)) (je_var 1))))) (jb_cons (js_ret je_bl)
    jb_nil) jb_nil)
    (jb_cons (js_set 8 sc__law_works_hold.nd (je_blt (bm_min rfl) (ja_cons (je_lc [("_law_t", 18)] rfl sc__law_works_hold.nd (ji_range1 (ja_cons (je_add (je_var 1) je_int) ja_nil) z_range) (by kernel_rfl) (fun _ _ _ _ _ => (jg_name 18 sc__law_works_hold.nd)) (fun _ _ _ _ _ => jts_nil) (fun _ _ _ _ _ => (je_add (je_var 18) (je_blt bm_len (ja_cons (je_lc [("_law_x", 11)] rfl sc__law_works_hold.nd (ji_seq (je_var 2)) (by kernel_rfl) (fun _ _ _ _ _ => (jg_name 11 sc__law_works_hold.nd)) (fun _ _ _ _ _ => (jts_one (jt_cm cm_gt (je_ix (je_var 5) (je_var 11)) (je_var 18)))) (fun _ _ _ _ _ => (je_var 11))) ja_nil) z_len)))) ja_nil) z_min))
    (jb_cons (js_set 9 sc__law_works_hold.nd (je_mth d_rank (sg_ne (by decide)) (hr.mono (by decide)) tkc (je_var 7) (ja_cons (je_var 2) ja_nil)))
    (jb_cons (js_if (JW.jt (jw_or (jt_cm (cm_ne (u64 hr)) (je_var 9) (je_var 8)) (jw_or (jt_not (jt_of (je_isi "int" (je_var 9) z_isinstance z_int (by decide +kernel)))) (jw_or1 (jt_of (je_isi "bool" (je_var 9) z_isinstance z_bool (by decide +kernel))))))) (jb_cons (js_ret je_bl)
    jb_nil) jb_nil)
    (jb_cons (js_if (jt_cm (cm_ne (u64 hr)) (je_mth d_is_free (sg_ne (by decide)) (hr.mono (by decide)) tkc (je_var 7) (ja_cons (je_blt bm_list (ja_cons (je_var 2) ja_nil) z_list) ja_nil)) (je_blt (bm_all rfl) (ja_cons (je_lc [("_law_t", 18)] rfl sc__law_works_hold.nd (ji_range1 (ja_cons (je_add (je_var 1) je_int) ja_nil) z_range) (by kernel_rfl) (fun _ _ _ _ _ => (jg_name 18 sc__law_works_hold.nd)) (fun _ _ _ _ _ => jts_nil) (fun _ _ _ _ _ => (je_cmp cm_le (je_blt bm_len (ja_cons (je_lc [("_law_x", 11)] rfl sc__law_works_hold.nd (ji_seq (je_var 2)) (by kernel_rfl) (fun _ _ _ _ _ => (jg_name 11 sc__law_works_hold.nd)) (fun _ _ _ _ _ => (jts_one (jt_cm cm_le (je_ix (je_var 5) (je_var 11)) (je_var 18)))) (fun _ _ _ _ _ => (je_var 11))) ja_nil) z_len) (je_var 18)))) ja_nil) z_all)) (jb_cons (js_ret je_bl)
    jb_nil) jb_nil)
    (jb_cons (js_set 10 sc__law_works_hold.nd (je_lst ja_nil))
    (jb_cons (js_for poc rfl (ji_seq (je_var 2)) (jg_name 11 sc__law_works_hold.nd) (jb_cons (js_set 12 sc__law_works_hold.nd (je_blt (bm_sorted (u64 hr)) (ja_cons (je_lc [("_law_y", 19)] rfl sc__law_works_hold.nd (ji_seq (je_add (je_var 10) (je_lst (ja_cons (je_var 11) ja_nil)))) (by kernel_rfl) (fun _ _ _ _ _ => (jg_name 19 sc__law_works_hold.nd)) (fun _ _ _ _ _ => jts_nil) (fun _ _ _ _ _ => (je_ix (je_var 5) (je_var 19)))) ja_nil) z_sorted))
    (jb_cons (js_if (jt_of (je_blt (bm_all rfl) (ja_cons (je_lc [("_law_k", 20)] rfl sc__law_works_hold.nd (ji_range1 (ja_cons (je_blt bm_len (ja_cons (je_var 12) ja_nil) z_len) ja_nil) z_range) (by kernel_rfl) (fun _ _ _ _ _ => (jg_name 20 sc__law_works_hold.nd)) (fun _ _ _ _ _ => jts_nil) (fun _ _ _ _ _ => (je_cmp cm_gt (je_ix (je_var 12) (je_var 20)) (je_var 20)))) ja_nil) z_all)) (jb_cons (js_set 10 sc__law_works_hold.nd (je_add (je_var 10) (je_lst (ja_cons (je_var 11) ja_nil))))
    jb_nil) jb_nil)
    jb_nil)))
    (jb_cons (js_if (JW.jt (jw_or (jt_not (jt_of (je_call f__law_timetable_holds (hr.mono (by decide)) tkc (ja_cons (je_var 7) (ja_cons (je_var 5) (ja_cons (je_var 2) ja_nil)))))) (jw_or1 (jt_not (jt_of (je_call f__law_timetable_holds (hr.mono (by decide)) tkc (ja_cons (je_var 7) (ja_cons (je_var 5) (ja_cons (je_var 10) ja_nil))))))))) (jb_cons (js_ret je_bl)
    jb_nil) jb_nil)
    (jb_cons (js_if (JW.jt (jw_or (jt_cm (cm_ne (u64 hr)) (je_call f__law_no_set_place (hr.mono (by decide)) tkc (ja_cons (je_var 7) (ja_cons (je_lst (ja_cons (je_var 1) ja_nil)) ja_nil))) je_int) (jw_or1 (JW.jt (jw_and (jt_cm cm_gt (je_blt bm_len (ja_cons (je_var 2) ja_nil) z_len) je_int) (jw_and1 (jt_cm (cm_ne (u64 hr)) (je_call f__law_no_set_place (hr.mono (by decide)) tkc (ja_cons (je_var 7) (ja_cons (je_revT (je_var 2)) ja_nil))) je_int))))))) (jb_cons (js_ret je_bl)
    jb_nil) jb_nil)
    (jb_cons (js_set 13 sc__law_works_hold.nd (je_call f__law_draw (hr.mono (by decide)) tkc (ja_cons (je_var 0) (ja_cons (je_add (je_var 1) je_int) ja_nil))))
    (jb_cons (js_set 14 sc__law_works_hold.nd (je_ix (je_lst (ja_cons (je_neg je_int) (ja_cons je_non (ja_cons je_str ja_nil)))) (je_call f__law_draw (hr.mono (by decide)) tkc (ja_cons (je_var 0) (ja_cons je_int ja_nil)))))
    (jb_cons (js_set 15 sc__law_works_hold.nd je_non)
    (jb_cons (js_set 16 sc__law_works_hold.nd je_bl)
    (jb_cons (js_try eBE 17 m_BadEntry rfl rfl sc__law_works_hold.nd g_BadEntry tkc (fun W' pn xe tk' po' => (jb_cons (js_expr (je_mak k_Works (hr.mono (by decide)) tk' (ja_cons (je_add (je_add (je_sl slm_c (je_var 5) jo_none (jo_some (je_var 13))) (je_lst (ja_cons (je_var 14) ja_nil))) (je_sl slm_c (je_var 5) (jo_some (je_var 13)) jo_none)) ja_nil)))
    jb_nil)) (fun a oe cls d pn hz hfs => (jb_cons (js_set 15 sc__law_works_hold.nd (je_xf tPl 1 x_place hz hfs (je_var 17)))
    (jb_cons (js_set 16 sc__law_works_hold.nd (je_and (je_isX iPE i_PricesError hz hfs (je_var 17) z_isinstance g_PricesError) (je_and (je_isi "int" (je_xf tPl 1 x_place hz hfs (je_var 17)) z_isinstance z_int (by decide +kernel)) (je_one (je_not (je_isi "bool" (je_xf tPl 1 x_place hz hfs (je_var 17)) z_isinstance z_bool (by decide +kernel)))))))
    jb_nil))))
    (jb_cons (js_ret (je_and (je_var 16) (je_one (je_cmp (cm_eq (u64 hr)) (je_var 15) (je_var 13)))))
    jb_nil)))))))))))))))))))))
end K03

namespace K03
open PySem L2 Mi
abbrev st_law : Stmt := top 31
theorem sc_law : FnScope ["_law_script", "_law_pool_here", "_law_size", "_law_marks", "_law_some", "_law_x"] ["_law_script"] (defScope st_law) := ⟨rfl, rfl, rfl, by decide +kernel, rfl, by decide +kernel, by decide +kernel⟩
theorem ok_law {P : Program} {w : World} {K : Frag} {mg : MG} {base : Heap} {f : Addr} {fd : FuncData} (F : Fun K "law" "law" st_law f fd) (f__law_pool : Fn P w K mg base g "_law_pool" 1 1 _law_pool_m) (f__law_draw : Fn P w K mg base g "_law_draw" 2 2 _law_draw_m) (f__law_digits : Fn P w K mg base g "_law_digits" 1 3 _law_digits_m) (z_range : mg ("range" : Str) = none) (z_tuple : mg ("tuple" : Str) = none) (f__law_firsts_hold : Fn P w K mg base g "_law_firsts_hold" 6 3 _law_firsts_hold_m) (f__law_teams_hold : Fn P w K mg base g "_law_teams_hold" 6 3 _law_teams_hold_m) (f__law_works_hold : Fn P w K mg base g "_law_works_hold" 7 3 _law_works_hold_m) : FnOk P w K mg base (L2.CX P w) 8 f fd ["_law_script"] (SpM K mg g 1 law_m) :=
  fn_mi F sc_law finR_ok fun cdv A outer s H E xc hr =>
    (jb_cons (js_set 1 sc_law.nd (je_call f__law_pool (hr.mono (by decide)) tkc (ja_cons (je_var 0) ja_nil)))
    (jb_cons (js_set 2 sc_law.nd (je_ix (je_lst (ja_cons je_int (ja_cons je_int (ja_cons je_int (ja_cons je_int (ja_cons je_int (ja_cons je_int (ja_cons je_int (ja_cons je_int (ja_cons je_int (ja_cons je_int ja_nil))))))))))) (je_call f__law_draw (hr.mono (by decide)) tkc (ja_cons (je_var 1) (ja_cons je_int ja_nil)))))
    (jb_cons (js_set 3 sc_law.nd (je_call f__law_digits (hr.mono (by decide)) tkc (ja_cons (je_call f__law_draw (hr.mono (by decide)) tkc (ja_cons (je_var 1) (ja_cons je_int ja_nil))) (ja_cons je_int (ja_cons (je_var 2) ja_nil)))))
    (jb_cons (js_set 4 sc_law.nd (je_blt bm_tuple (ja_cons (je_lc [("_law_x", 5)] rfl sc_law.nd (ji_range1 (ja_cons (je_var 2) ja_nil) z_range) (by kernel_rfl) (fun _ _ _ _ _ => (jg_name 5 sc_law.nd)) (fun _ _ _ _ _ => (jts_one (jt_cm (cm_eq (u64 hr)) (je_ix (je_var 3) (je_var 5)) je_int))) (fun _ _ _ _ _ => (je_var 5))) ja_nil) z_tuple))
    (jb_cons (js_if (JW.jt (jw_or (jt_not (jt_of (je_call f__law_firsts_hold (hr.mono (by decide)) tkc (ja_cons (je_var 1) (ja_cons (je_var 2) (ja_cons (je_var 4) ja_nil)))))) (jw_or1 (jt_not (jt_of (je_call f__law_teams_hold (hr.mono (by decide)) tkc (ja_cons (je_var 1) (ja_cons (je_var 2) (ja_cons (je_var 4) ja_nil))))))))) (jb_cons (js_ret je_bl)
    jb_nil) jb_nil)
    (jb_cons (js_ret (je_call f__law_works_hold (hr.mono (by decide)) tkc (ja_cons (je_var 1) (ja_cons (je_var 2) (ja_cons (je_var 4) ja_nil)))))
    jb_nil))))))
end K03

/-! law k03: what the top has written, the walks joined -/
namespace K03
open PySem L2 Mi
theorem sg_inj_name : ∀ i, g.fn i = g.fn 0 → i = 0 := fun i h => by
  have h : fnK i = fnK 0 := h
  unfold fnK at h
  split at h <;> first | rfl | exact absurd h (by decide +kernel)
theorem sg_inj_place : ∀ i, g.fn i = g.fn 1 → i = 1 := fun i h => by
  have h : fnK i = fnK 1 := h
  unfold fnK at h
  split at h <;> first | rfl | exact absurd h (by decide +kernel)
theorem sg_inj_things : ∀ i, g.fn i = g.fn 2 → i = 2 := fun i h => by
  have h : fnK i = fnK 2 := h
  unfold fnK at h
  split at h <;> first | rfl | exact absurd h (by decide +kernel)
theorem sg_inj_size : ∀ i, g.fn i = g.fn 3 → i = 3 := fun i h => by
  have h : fnK i = fnK 3 := h
  unfold fnK at h
  split at h <;> first | rfl | exact absurd h (by decide +kernel)
theorem sg_inj__things : ∀ i, g.fn i = g.fn 4 → i = 4 := fun i h => by
  have h : fnK i = fnK 4 := h
  unfold fnK at h
  split at h <;> first | rfl | exact absurd h (by decide +kernel)
theorem sg_inj_number : ∀ i, g.fn i = g.fn 5 → i = 5 := fun i h => by
  have h : fnK i = fnK 5 := h
  unfold fnK at h
  split at h <;> first | rfl | exact absurd h (by decide +kernel)
theorem sg_inj_classes : ∀ i, g.fn i = g.fn 6 → i = 6 := fun i h => by
  have h : fnK i = fnK 6 := h
  unfold fnK at h
  split at h <;> first | rfl | exact absurd h (by decide +kernel)
theorem sg_inj_places : ∀ i, g.fn i = g.fn 7 → i = 7 := fun i h => by
  have h : fnK i = fnK 7 := h
  unfold fnK at h
  split at h <;> first | rfl | exact absurd h (by decide +kernel)
theorem sg_inj_days : ∀ i, g.fn i = g.fn 8 → i = 8 := fun i h => by
  have h : fnK i = fnK 8 := h
  unfold fnK at h
  split at h <;> first | rfl | exact absurd h (by decide +kernel)
abbrev st_BadNumber___init__ : Stmt := inClass (top 3) 0
theorem sc_BadNumber___init__ : NdefX.NScope ["self", "name", "__class__"] ["self", "name"] ["__class__"] (defScope st_BadNumber___init__) := NdefX.nscope_by (by decide +kernel)
abbrev st_BadSet___init__ : Stmt := inClass (top 4) 0
theorem sc_BadSet___init__ : NdefX.NScope ["self", "place", "__class__"] ["self", "place"] ["__class__"] (defScope st_BadSet___init__) := NdefX.nscope_by (by decide +kernel)
abbrev st_BadEntry___init__ : Stmt := inClass (top 5) 0
theorem sc_BadEntry___init__ : NdefX.NScope ["self", "place", "__class__"] ["self", "place"] ["__class__"] (defScope st_BadEntry___init__) := NdefX.nscope_by (by decide +kernel)
abbrev st_NotFree___init__ : Stmt := inClass (top 7) 0
theorem sc_NotFree___init__ : NdefX.NScope ["self", "things", "__class__"] ["self", "things"] ["__class__"] (defScope st_NotFree___init__) := NdefX.nscope_by (by decide +kernel)
theorem all_mk {P : Program} {w : World} {K : Frag} {h : Heap} {mg : MG} {fa : Addr} (X : K.In h) (G : h.Ns mainGlobals mg) (hfa : mg "law" = some (.ref fa))
    {C_BadNumber : Addr}
    {C_BadSet : Addr}
    {C_BadEntry : Addr}
    {C_NotALot : Addr}
    {C_NotFree : Addr}
    {C_PricesError : Addr}
    {C_Firsts : Addr}
    {C_Teams : Addr}
    {C_Works : Addr}
    {p_BadNumber___init__ : Addr}
    {oc_BadNumber___init__ kV_BadNumber___init__ dc_BadNumber___init__ pm_BadNumber___init__ ct_BadNumber___init__ : Value} {od_BadNumber___init__ an_BadNumber___init__ : Option Addr} {sl_BadNumber___init__ : Array (Option Value)}
    {cc_BadNumber___init__ cda_BadNumber___init__ : Addr}
    {cl_BadNumber___init__ : Value} {cld_BadNumber___init__ : Option Addr} {csl_BadNumber___init__ : Array (Option Value)} {Dc_BadNumber___init__ : Addr}
    {ccl_BadNumber___init__ : Value} {cdd_BadNumber___init__ : Option Addr} {vs_BadNumber___init__ : Array Value} {ccs_BadNumber___init__ : Array (Option Value)} {file_BadNumber___init__ : Str} {tp_BadNumber___init__ : Tok}
    {cdD_BadNumber___init__ : ClassData}
    {nm_BadNumber q_BadNumber : Str} {N_BadNumber : Addr} {bs_BadNumber bm_BadNumber sub_BadNumber : List Value} {sn_BadNumber : List Str} {ab_BadNumber : Bool} {col_BadNumber : Option Bool} {dd_BadNumber : Option Addr} {k0_BadNumber k1_BadNumber k2_BadNumber k3_BadNumber k5_BadNumber : Option Value}
    {p_BadSet___init__ : Addr}
    {oc_BadSet___init__ kV_BadSet___init__ dc_BadSet___init__ pm_BadSet___init__ ct_BadSet___init__ : Value} {od_BadSet___init__ an_BadSet___init__ : Option Addr} {sl_BadSet___init__ : Array (Option Value)}
    {cc_BadSet___init__ cda_BadSet___init__ : Addr}
    {cl_BadSet___init__ : Value} {cld_BadSet___init__ : Option Addr} {csl_BadSet___init__ : Array (Option Value)} {Dc_BadSet___init__ : Addr}
    {ccl_BadSet___init__ : Value} {cdd_BadSet___init__ : Option Addr} {vs_BadSet___init__ : Array Value} {ccs_BadSet___init__ : Array (Option Value)} {file_BadSet___init__ : Str} {tp_BadSet___init__ : Tok}
    {cdD_BadSet___init__ : ClassData}
    {nm_BadSet q_BadSet : Str} {N_BadSet : Addr} {bs_BadSet bm_BadSet sub_BadSet : List Value} {sn_BadSet : List Str} {ab_BadSet : Bool} {col_BadSet : Option Bool} {dd_BadSet : Option Addr} {k0_BadSet k1_BadSet k2_BadSet k3_BadSet k5_BadSet : Option Value}
    {p_BadEntry___init__ : Addr}
    {oc_BadEntry___init__ kV_BadEntry___init__ dc_BadEntry___init__ pm_BadEntry___init__ ct_BadEntry___init__ : Value} {od_BadEntry___init__ an_BadEntry___init__ : Option Addr} {sl_BadEntry___init__ : Array (Option Value)}
    {cc_BadEntry___init__ cda_BadEntry___init__ : Addr}
    {cl_BadEntry___init__ : Value} {cld_BadEntry___init__ : Option Addr} {csl_BadEntry___init__ : Array (Option Value)} {Dc_BadEntry___init__ : Addr}
    {ccl_BadEntry___init__ : Value} {cdd_BadEntry___init__ : Option Addr} {vs_BadEntry___init__ : Array Value} {ccs_BadEntry___init__ : Array (Option Value)} {file_BadEntry___init__ : Str} {tp_BadEntry___init__ : Tok}
    {cdD_BadEntry___init__ : ClassData}
    {nm_BadEntry q_BadEntry : Str} {N_BadEntry : Addr} {bs_BadEntry bm_BadEntry sub_BadEntry : List Value} {sn_BadEntry : List Str} {ab_BadEntry : Bool} {col_BadEntry : Option Bool} {dd_BadEntry : Option Addr} {k0_BadEntry k1_BadEntry k2_BadEntry k3_BadEntry k5_BadEntry : Option Value}
    {p_NotFree___init__ : Addr}
    {oc_NotFree___init__ kV_NotFree___init__ dc_NotFree___init__ pm_NotFree___init__ ct_NotFree___init__ : Value} {od_NotFree___init__ an_NotFree___init__ : Option Addr} {sl_NotFree___init__ : Array (Option Value)}
    {cc_NotFree___init__ cda_NotFree___init__ : Addr}
    {cl_NotFree___init__ : Value} {cld_NotFree___init__ : Option Addr} {csl_NotFree___init__ : Array (Option Value)} {Dc_NotFree___init__ : Addr}
    {ccl_NotFree___init__ : Value} {cdd_NotFree___init__ : Option Addr} {vs_NotFree___init__ : Array Value} {ccs_NotFree___init__ : Array (Option Value)} {file_NotFree___init__ : Str} {tp_NotFree___init__ : Tok}
    {cdD_NotFree___init__ : ClassData}
    {nm_NotFree q_NotFree : Str} {N_NotFree : Addr} {bs_NotFree bm_NotFree sub_NotFree : List Value} {sn_NotFree : List Str} {ab_NotFree : Bool} {col_NotFree : Option Bool} {dd_NotFree : Option Addr} {k0_NotFree k1_NotFree k2_NotFree k3_NotFree k5_NotFree : Option Value}
    {p_is_integer : Addr}
    {oc_is_integer kV_is_integer dc_is_integer pm_is_integer ct_is_integer : Value} {od_is_integer an_is_integer : Option Addr} {sl_is_integer : Array (Option Value)}
    {cd_is_integer : Value}
    {p_is_count : Addr}
    {oc_is_count kV_is_count dc_is_count pm_is_count ct_is_count : Value} {od_is_count an_is_count : Option Addr} {sl_is_count : Array (Option Value)}
    {cd_is_count : Value}
    {p_is_thing : Addr}
    {oc_is_thing kV_is_thing dc_is_thing pm_is_thing ct_is_thing : Value} {od_is_thing an_is_thing : Option Addr} {sl_is_thing : Array (Option Value)}
    {cd_is_thing : Value}
    {p_misplaced : Addr}
    {oc_misplaced kV_misplaced dc_misplaced pm_misplaced ct_misplaced : Value} {od_misplaced an_misplaced : Option Addr} {sl_misplaced : Array (Option Value)}
    {cd_misplaced : Value}
    {p_set_of : Addr}
    {oc_set_of kV_set_of dc_set_of pm_set_of ct_set_of : Value} {od_set_of an_set_of : Option Addr} {sl_set_of : Array (Option Value)}
    {cd_set_of : Value}
    {p_Rule___init__ : Addr}
    {oc_Rule___init__ kV_Rule___init__ dc_Rule___init__ pm_Rule___init__ ct_Rule___init__ : Value} {od_Rule___init__ an_Rule___init__ : Option Addr} {sl_Rule___init__ : Array (Option Value)}
    {cd_Rule___init__ : Value}
    {p_Rule__rank : Addr}
    {oc_Rule__rank kV_Rule__rank dc_Rule__rank pm_Rule__rank ct_Rule__rank : Value} {od_Rule__rank an_Rule__rank : Option Addr} {sl_Rule__rank : Array (Option Value)}
    {cd_Rule__rank : Value}
    {p_Firsts___init__ : Addr}
    {oc_Firsts___init__ kV_Firsts___init__ dc_Firsts___init__ pm_Firsts___init__ ct_Firsts___init__ : Value} {od_Firsts___init__ an_Firsts___init__ : Option Addr} {sl_Firsts___init__ : Array (Option Value)}
    {cc_Firsts___init__ cda_Firsts___init__ : Addr}
    {cl_Firsts___init__ : Value} {cld_Firsts___init__ : Option Addr} {csl_Firsts___init__ : Array (Option Value)} {Dc_Firsts___init__ : Addr}
    {ccl_Firsts___init__ : Value} {cdd_Firsts___init__ : Option Addr} {vs_Firsts___init__ : Array Value} {ccs_Firsts___init__ : Array (Option Value)} {file_Firsts___init__ : Str} {tp_Firsts___init__ : Tok}
    {cdD_Firsts___init__ : ClassData}
    {p_Firsts__rank : Addr}
    {oc_Firsts__rank kV_Firsts__rank dc_Firsts__rank pm_Firsts__rank ct_Firsts__rank : Value} {od_Firsts__rank an_Firsts__rank : Option Addr} {sl_Firsts__rank : Array (Option Value)}
    {cc_Firsts__rank cda_Firsts__rank : Addr}
    {cl_Firsts__rank : Value} {cld_Firsts__rank : Option Addr} {csl_Firsts__rank : Array (Option Value)} {Dc_Firsts__rank : Addr}
    {ccl_Firsts__rank : Value} {cdd_Firsts__rank : Option Addr} {vs_Firsts__rank : Array Value} {ccs_Firsts__rank : Array (Option Value)} {file_Firsts__rank : Str} {tp_Firsts__rank : Tok}
    {cdD_Firsts__rank : ClassData}
    {p_Teams___init__ : Addr}
    {oc_Teams___init__ kV_Teams___init__ dc_Teams___init__ pm_Teams___init__ ct_Teams___init__ : Value} {od_Teams___init__ an_Teams___init__ : Option Addr} {sl_Teams___init__ : Array (Option Value)}
    {cc_Teams___init__ cda_Teams___init__ : Addr}
    {cl_Teams___init__ : Value} {cld_Teams___init__ : Option Addr} {csl_Teams___init__ : Array (Option Value)} {Dc_Teams___init__ : Addr}
    {ccl_Teams___init__ : Value} {cdd_Teams___init__ : Option Addr} {vs_Teams___init__ : Array Value} {ccs_Teams___init__ : Array (Option Value)} {file_Teams___init__ : Str} {tp_Teams___init__ : Tok}
    {cdD_Teams___init__ : ClassData}
    {p_Teams__rank : Addr}
    {oc_Teams__rank kV_Teams__rank dc_Teams__rank pm_Teams__rank ct_Teams__rank : Value} {od_Teams__rank an_Teams__rank : Option Addr} {sl_Teams__rank : Array (Option Value)}
    {cd_Teams__rank : Value}
    {p_Works___init__ : Addr}
    {oc_Works___init__ kV_Works___init__ dc_Works___init__ pm_Works___init__ ct_Works___init__ : Value} {od_Works___init__ an_Works___init__ : Option Addr} {sl_Works___init__ : Array (Option Value)}
    {cc_Works___init__ cda_Works___init__ : Addr}
    {cl_Works___init__ : Value} {cld_Works___init__ : Option Addr} {csl_Works___init__ : Array (Option Value)} {Dc_Works___init__ : Addr}
    {ccl_Works___init__ : Value} {cdd_Works___init__ : Option Addr} {vs_Works___init__ : Array Value} {ccs_Works___init__ : Array (Option Value)} {file_Works___init__ : Str} {tp_Works___init__ : Tok}
    {cdD_Works___init__ : ClassData}
    {p_Works__rank : Addr}
    {oc_Works__rank kV_Works__rank dc_Works__rank pm_Works__rank ct_Works__rank : Value} {od_Works__rank an_Works__rank : Option Addr} {sl_Works__rank : Array (Option Value)}
    {cd_Works__rank : Value}
    {p_Rule__free : Addr}
    {oc_Rule__free kV_Rule__free dc_Rule__free pm_Rule__free ct_Rule__free : Value} {od_Rule__free an_Rule__free : Option Addr} {sl_Rule__free : Array (Option Value)}
    {cd_Rule__free : Value}
    {p_Rule_is_free : Addr}
    {oc_Rule_is_free kV_Rule_is_free dc_Rule_is_free pm_Rule_is_free ct_Rule_is_free : Value} {od_Rule_is_free an_Rule_is_free : Option Addr} {sl_Rule_is_free : Array (Option Value)}
    {cd_Rule_is_free : Value}
    {p_Rule_rank : Addr}
    {oc_Rule_rank kV_Rule_rank dc_Rule_rank pm_Rule_rank ct_Rule_rank : Value} {od_Rule_rank an_Rule_rank : Option Addr} {sl_Rule_rank : Array (Option Value)}
    {cd_Rule_rank : Value}
    {p_timetable : Addr}
    {oc_timetable kV_timetable dc_timetable pm_timetable ct_timetable : Value} {od_timetable an_timetable : Option Addr} {sl_timetable : Array (Option Value)}
    {cd_timetable : Value}
    {p__law_pool : Addr}
    {oc__law_pool kV__law_pool dc__law_pool pm__law_pool ct__law_pool : Value} {od__law_pool an__law_pool : Option Addr} {sl__law_pool : Array (Option Value)}
    {cd__law_pool : Value}
    {p__law_mixed : Addr}
    {oc__law_mixed kV__law_mixed dc__law_mixed pm__law_mixed ct__law_mixed : Value} {od__law_mixed an__law_mixed : Option Addr} {sl__law_mixed : Array (Option Value)}
    {cd__law_mixed : Value}
    {p__law_draw : Addr}
    {oc__law_draw kV__law_draw dc__law_draw pm__law_draw ct__law_draw : Value} {od__law_draw an__law_draw : Option Addr} {sl__law_draw : Array (Option Value)}
    {cd__law_draw : Value}
    {p__law_digits : Addr}
    {oc__law_digits kV__law_digits dc__law_digits pm__law_digits ct__law_digits : Value} {od__law_digits an__law_digits : Option Addr} {sl__law_digits : Array (Option Value)}
    {cd__law_digits : Value}
    {p__law_firsts_hold : Addr}
    {oc__law_firsts_hold kV__law_firsts_hold dc__law_firsts_hold pm__law_firsts_hold ct__law_firsts_hold : Value} {od__law_firsts_hold an__law_firsts_hold : Option Addr} {sl__law_firsts_hold : Array (Option Value)}
    {cd__law_firsts_hold : Value}
    {p__law_teams_hold : Addr}
    {oc__law_teams_hold kV__law_teams_hold dc__law_teams_hold pm__law_teams_hold ct__law_teams_hold : Value} {od__law_teams_hold an__law_teams_hold : Option Addr} {sl__law_teams_hold : Array (Option Value)}
    {cd__law_teams_hold : Value}
    {p__law_timetable_holds : Addr}
    {oc__law_timetable_holds kV__law_timetable_holds dc__law_timetable_holds pm__law_timetable_holds ct__law_timetable_holds : Value} {od__law_timetable_holds an__law_timetable_holds : Option Addr} {sl__law_timetable_holds : Array (Option Value)}
    {cd__law_timetable_holds : Value}
    {p__law_no_set_place : Addr}
    {oc__law_no_set_place kV__law_no_set_place dc__law_no_set_place pm__law_no_set_place ct__law_no_set_place : Value} {od__law_no_set_place an__law_no_set_place : Option Addr} {sl__law_no_set_place : Array (Option Value)}
    {cd__law_no_set_place : Value}
    {p__law_works_hold : Addr}
    {oc__law_works_hold kV__law_works_hold dc__law_works_hold pm__law_works_hold ct__law_works_hold : Value} {od__law_works_hold an__law_works_hold : Option Addr} {sl__law_works_hold : Array (Option Value)}
    {cd__law_works_hold : Value}
    {p_law : Addr}
    {oc_law kV_law dc_law pm_law ct_law : Value} {od_law an_law : Option Addr} {sl_law : Array (Option Value)}
    {cd_law : Value}
    (nz_abs : PySem.W.nsIn K mainGlobals "abs" = some none)
    (nz_all : PySem.W.nsIn K mainGlobals "all" = some none)
    (nz_bool : PySem.W.nsIn K mainGlobals "bool" = some none)
    (nz_enumerate : PySem.W.nsIn K mainGlobals "enumerate" = some none)
    (nz_int : PySem.W.nsIn K mainGlobals "int" = some none)
    (nz_isinstance : PySem.W.nsIn K mainGlobals "isinstance" = some none)
    (nz_len : PySem.W.nsIn K mainGlobals "len" = some none)
    (nz_list : PySem.W.nsIn K mainGlobals "list" = some none)
    (nz_max : PySem.W.nsIn K mainGlobals "max" = some none)
    (nz_min : PySem.W.nsIn K mainGlobals "min" = some none)
    (nz_range : PySem.W.nsIn K mainGlobals "range" = some none)
    (nz_sorted : PySem.W.nsIn K mainGlobals "sorted" = some none)
    (nz_sum : PySem.W.nsIn K mainGlobals "sum" = some none)
    (nz_super : PySem.W.nsIn K mainGlobals "super" = some none)
    (nz_tuple : PySem.W.nsIn K mainGlobals "tuple" = some none)
    (g_BadNumber : PySem.W.nsIn K mainGlobals "BadNumber" = some (some (.ref C_BadNumber)))
    (g_BadSet : PySem.W.nsIn K mainGlobals "BadSet" = some (some (.ref C_BadSet)))
    (g_BadEntry : PySem.W.nsIn K mainGlobals "BadEntry" = some (some (.ref C_BadEntry)))
    (g_NotALot : PySem.W.nsIn K mainGlobals "NotALot" = some (some (.ref C_NotALot)))
    (g_NotFree : PySem.W.nsIn K mainGlobals "NotFree" = some (some (.ref C_NotFree)))
    (g_PricesError : PySem.W.nsIn K mainGlobals "PricesError" = some (some (.ref C_PricesError)))
    (g_Firsts : PySem.W.nsIn K mainGlobals "Firsts" = some (some (.ref C_Firsts)))
    (g_Teams : PySem.W.nsIn K mainGlobals "Teams" = some (some (.ref C_Teams)))
    (g_Works : PySem.W.nsIn K mainGlobals "Works" = some (some (.ref C_Works)))
    (opq : PySem.W.nsIn K cStatics "thirdparty.any" = some none)
    (top_super : (P.main.scope.names.lookup ("super" : Str)).isSome = false)
    (i_BadNumber___init__ : PySem.W.findIn K (.ref C_BadNumber) "__init__" = some (some (.ref p_BadNumber___init__)))
    (l_BadNumber___init__ : K.lookup p_BadNumber___init__ = some ⟨oc_BadNumber___init__, od_BadNumber___init__, .func (PySem.W.ksFn "__init__" "BadNumber.__init__" (defArgs st_BadNumber___init__) (defBody st_BadNumber___init__) (defScope st_BadNumber___init__) .none kV_BadNumber___init__ dc_BadNumber___init__ pm_BadNumber___init__ an_BadNumber___init__ (.ref cda_BadNumber___init__) ct_BadNumber___init__ cc_BadNumber___init__), sl_BadNumber___init__⟩)
    (c_BadNumber___init__ : PySem.W.codeIn K (.ref cda_BadNumber___init__) "BadNumber.__init__" = true)
    (e_BadNumber___init__ : K.lookup cc_BadNumber___init__ = some ⟨cl_BadNumber___init__, cld_BadNumber___init__, .cell (some (.ref Dc_BadNumber___init__)), csl_BadNumber___init__⟩)
    (o_BadNumber___init__ : K.lookup cda_BadNumber___init__ = some ⟨ccl_BadNumber___init__, cdd_BadNumber___init__, .fields vs_BadNumber___init__, ccs_BadNumber___init__⟩)
    (v_BadNumber___init__ : vs_BadNumber___init__[2]? = some (.str file_BadNumber___init__ tp_BadNumber___init__))
    (w_BadNumber___init__ : ((P.main.file : Str) == file_BadNumber___init__) = true)
    (x_BadNumber___init__ : PySem.W.clsIn K Dc_BadNumber___init__ = some cdD_BadNumber___init__)
    (y_BadNumber : K.lookup C_BadNumber = some (excClassObj nm_BadNumber q_BadNumber C_BadNumber N_BadNumber bs_BadNumber bm_BadNumber true sn_BadNumber sub_BadNumber ab_BadNumber col_BadNumber dd_BadNumber k0_BadNumber k1_BadNumber k2_BadNumber k3_BadNumber k5_BadNumber "ValueError.__new__"))
    (yb_BadNumber : PySem.HandSPX.refsVE bm_BadNumber = true)
    (sa_BadNumber : PySem.W.findIn K (.ref C_BadNumber) "__setattr__" = some (some (.builtin "object.__setattr__")))
    (ex_BadNumber : PySem.W.subIn K (.ref C_BadNumber) (.type "BaseException") = some true)
    (ty_BadNumber : PySem.W.typeIn K (.ref C_BadNumber) = some (.type "type"))
    (kc_BadNumber : PySem.W.keepIn K (.ref C_BadNumber) = true)
    (ve_BadNumber : PySem.W.subIn K (.ref C_BadNumber) (.type "ValueError") = some true)
    (dc_BadNumber : Dc_BadNumber___init__ = C_BadNumber)
    (su_BadNumber : PySem.W.ks_superIn K C_BadNumber C_BadNumber "__init__" = some (some (.builtin "ValueError.__init__")))
    (mr_BadNumber : PySem.W.mroIn K C_BadNumber (.ref C_BadNumber) = some true)
    (ti_BadNumber : PySem.W.typeIn K (.ref p_BadNumber___init__) = some (.type "function"))
    (no_BadNumber : PySem.W.findIn K (.ref C_BadNumber) "name" = some none)
    (ga_BadNumber : PySem.W.findIn K (.ref C_BadNumber) "__getattribute__" = some (some (.builtin "BaseException.__getattribute__")))
    (gg_BadNumber : PySem.W.findIn K (.ref C_BadNumber) "__getattr__" = some none)
    (hd_BadNumber : PySem.W.hasDictIn K C_BadNumber = true)
    (cl_BadNumber : PySem.W.findIn K (.ref C_BadNumber) "__class__" = some (some (.builtin "object.__class__")))
    (mo_BadNumber : PySem.W.mroIn K C_BadNumber (.type "object") = some true)
    (i_BadSet___init__ : PySem.W.findIn K (.ref C_BadSet) "__init__" = some (some (.ref p_BadSet___init__)))
    (l_BadSet___init__ : K.lookup p_BadSet___init__ = some ⟨oc_BadSet___init__, od_BadSet___init__, .func (PySem.W.ksFn "__init__" "BadSet.__init__" (defArgs st_BadSet___init__) (defBody st_BadSet___init__) (defScope st_BadSet___init__) .none kV_BadSet___init__ dc_BadSet___init__ pm_BadSet___init__ an_BadSet___init__ (.ref cda_BadSet___init__) ct_BadSet___init__ cc_BadSet___init__), sl_BadSet___init__⟩)
    (c_BadSet___init__ : PySem.W.codeIn K (.ref cda_BadSet___init__) "BadSet.__init__" = true)
    (e_BadSet___init__ : K.lookup cc_BadSet___init__ = some ⟨cl_BadSet___init__, cld_BadSet___init__, .cell (some (.ref Dc_BadSet___init__)), csl_BadSet___init__⟩)
    (o_BadSet___init__ : K.lookup cda_BadSet___init__ = some ⟨ccl_BadSet___init__, cdd_BadSet___init__, .fields vs_BadSet___init__, ccs_BadSet___init__⟩)
    (v_BadSet___init__ : vs_BadSet___init__[2]? = some (.str file_BadSet___init__ tp_BadSet___init__))
    (w_BadSet___init__ : ((P.main.file : Str) == file_BadSet___init__) = true)
    (x_BadSet___init__ : PySem.W.clsIn K Dc_BadSet___init__ = some cdD_BadSet___init__)
    (y_BadSet : K.lookup C_BadSet = some (excClassObj nm_BadSet q_BadSet C_BadSet N_BadSet bs_BadSet bm_BadSet true sn_BadSet sub_BadSet ab_BadSet col_BadSet dd_BadSet k0_BadSet k1_BadSet k2_BadSet k3_BadSet k5_BadSet "ValueError.__new__"))
    (yb_BadSet : PySem.HandSPX.refsVE bm_BadSet = true)
    (sa_BadSet : PySem.W.findIn K (.ref C_BadSet) "__setattr__" = some (some (.builtin "object.__setattr__")))
    (ex_BadSet : PySem.W.subIn K (.ref C_BadSet) (.type "BaseException") = some true)
    (ty_BadSet : PySem.W.typeIn K (.ref C_BadSet) = some (.type "type"))
    (kc_BadSet : PySem.W.keepIn K (.ref C_BadSet) = true)
    (ve_BadSet : PySem.W.subIn K (.ref C_BadSet) (.type "ValueError") = some true)
    (dc_BadSet : Dc_BadSet___init__ = C_BadSet)
    (su_BadSet : PySem.W.ks_superIn K C_BadSet C_BadSet "__init__" = some (some (.builtin "ValueError.__init__")))
    (mr_BadSet : PySem.W.mroIn K C_BadSet (.ref C_BadSet) = some true)
    (ti_BadSet : PySem.W.typeIn K (.ref p_BadSet___init__) = some (.type "function"))
    (no_BadSet : PySem.W.findIn K (.ref C_BadSet) "place" = some none)
    (ga_BadSet : PySem.W.findIn K (.ref C_BadSet) "__getattribute__" = some (some (.builtin "BaseException.__getattribute__")))
    (gg_BadSet : PySem.W.findIn K (.ref C_BadSet) "__getattr__" = some none)
    (hd_BadSet : PySem.W.hasDictIn K C_BadSet = true)
    (cl_BadSet : PySem.W.findIn K (.ref C_BadSet) "__class__" = some (some (.builtin "object.__class__")))
    (mo_BadSet : PySem.W.mroIn K C_BadSet (.type "object") = some true)
    (i_BadEntry___init__ : PySem.W.findIn K (.ref C_BadEntry) "__init__" = some (some (.ref p_BadEntry___init__)))
    (l_BadEntry___init__ : K.lookup p_BadEntry___init__ = some ⟨oc_BadEntry___init__, od_BadEntry___init__, .func (PySem.W.ksFn "__init__" "BadEntry.__init__" (defArgs st_BadEntry___init__) (defBody st_BadEntry___init__) (defScope st_BadEntry___init__) .none kV_BadEntry___init__ dc_BadEntry___init__ pm_BadEntry___init__ an_BadEntry___init__ (.ref cda_BadEntry___init__) ct_BadEntry___init__ cc_BadEntry___init__), sl_BadEntry___init__⟩)
    (c_BadEntry___init__ : PySem.W.codeIn K (.ref cda_BadEntry___init__) "BadEntry.__init__" = true)
    (e_BadEntry___init__ : K.lookup cc_BadEntry___init__ = some ⟨cl_BadEntry___init__, cld_BadEntry___init__, .cell (some (.ref Dc_BadEntry___init__)), csl_BadEntry___init__⟩)
    (o_BadEntry___init__ : K.lookup cda_BadEntry___init__ = some ⟨ccl_BadEntry___init__, cdd_BadEntry___init__, .fields vs_BadEntry___init__, ccs_BadEntry___init__⟩)
    (v_BadEntry___init__ : vs_BadEntry___init__[2]? = some (.str file_BadEntry___init__ tp_BadEntry___init__))
    (w_BadEntry___init__ : ((P.main.file : Str) == file_BadEntry___init__) = true)
    (x_BadEntry___init__ : PySem.W.clsIn K Dc_BadEntry___init__ = some cdD_BadEntry___init__)
    (y_BadEntry : K.lookup C_BadEntry = some (excClassObj nm_BadEntry q_BadEntry C_BadEntry N_BadEntry bs_BadEntry bm_BadEntry true sn_BadEntry sub_BadEntry ab_BadEntry col_BadEntry dd_BadEntry k0_BadEntry k1_BadEntry k2_BadEntry k3_BadEntry k5_BadEntry "ValueError.__new__"))
    (yb_BadEntry : PySem.HandSPX.refsVE bm_BadEntry = true)
    (sa_BadEntry : PySem.W.findIn K (.ref C_BadEntry) "__setattr__" = some (some (.builtin "object.__setattr__")))
    (ex_BadEntry : PySem.W.subIn K (.ref C_BadEntry) (.type "BaseException") = some true)
    (ty_BadEntry : PySem.W.typeIn K (.ref C_BadEntry) = some (.type "type"))
    (kc_BadEntry : PySem.W.keepIn K (.ref C_BadEntry) = true)
    (ve_BadEntry : PySem.W.subIn K (.ref C_BadEntry) (.type "ValueError") = some true)
    (dc_BadEntry : Dc_BadEntry___init__ = C_BadEntry)
    (su_BadEntry : PySem.W.ks_superIn K C_BadEntry C_BadEntry "__init__" = some (some (.builtin "ValueError.__init__")))
    (mr_BadEntry : PySem.W.mroIn K C_BadEntry (.ref C_BadEntry) = some true)
    (ti_BadEntry : PySem.W.typeIn K (.ref p_BadEntry___init__) = some (.type "function"))
    (no_BadEntry : PySem.W.findIn K (.ref C_BadEntry) "place" = some none)
    (ga_BadEntry : PySem.W.findIn K (.ref C_BadEntry) "__getattribute__" = some (some (.builtin "BaseException.__getattribute__")))
    (gg_BadEntry : PySem.W.findIn K (.ref C_BadEntry) "__getattr__" = some none)
    (hd_BadEntry : PySem.W.hasDictIn K C_BadEntry = true)
    (cl_BadEntry : PySem.W.findIn K (.ref C_BadEntry) "__class__" = some (some (.builtin "object.__class__")))
    (mo_BadEntry : PySem.W.mroIn K C_BadEntry (.type "object") = some true)
    (i_NotFree___init__ : PySem.W.findIn K (.ref C_NotFree) "__init__" = some (some (.ref p_NotFree___init__)))
    (l_NotFree___init__ : K.lookup p_NotFree___init__ = some ⟨oc_NotFree___init__, od_NotFree___init__, .func (PySem.W.ksFn "__init__" "NotFree.__init__" (defArgs st_NotFree___init__) (defBody st_NotFree___init__) (defScope st_NotFree___init__) .none kV_NotFree___init__ dc_NotFree___init__ pm_NotFree___init__ an_NotFree___init__ (.ref cda_NotFree___init__) ct_NotFree___init__ cc_NotFree___init__), sl_NotFree___init__⟩)
    (c_NotFree___init__ : PySem.W.codeIn K (.ref cda_NotFree___init__) "NotFree.__init__" = true)
    (e_NotFree___init__ : K.lookup cc_NotFree___init__ = some ⟨cl_NotFree___init__, cld_NotFree___init__, .cell (some (.ref Dc_NotFree___init__)), csl_NotFree___init__⟩)
    (o_NotFree___init__ : K.lookup cda_NotFree___init__ = some ⟨ccl_NotFree___init__, cdd_NotFree___init__, .fields vs_NotFree___init__, ccs_NotFree___init__⟩)
    (v_NotFree___init__ : vs_NotFree___init__[2]? = some (.str file_NotFree___init__ tp_NotFree___init__))
    (w_NotFree___init__ : ((P.main.file : Str) == file_NotFree___init__) = true)
    (x_NotFree___init__ : PySem.W.clsIn K Dc_NotFree___init__ = some cdD_NotFree___init__)
    (y_NotFree : K.lookup C_NotFree = some (excClassObj nm_NotFree q_NotFree C_NotFree N_NotFree bs_NotFree bm_NotFree true sn_NotFree sub_NotFree ab_NotFree col_NotFree dd_NotFree k0_NotFree k1_NotFree k2_NotFree k3_NotFree k5_NotFree "ValueError.__new__"))
    (yb_NotFree : PySem.HandSPX.refsVE bm_NotFree = true)
    (sa_NotFree : PySem.W.findIn K (.ref C_NotFree) "__setattr__" = some (some (.builtin "object.__setattr__")))
    (ex_NotFree : PySem.W.subIn K (.ref C_NotFree) (.type "BaseException") = some true)
    (ty_NotFree : PySem.W.typeIn K (.ref C_NotFree) = some (.type "type"))
    (kc_NotFree : PySem.W.keepIn K (.ref C_NotFree) = true)
    (ve_NotFree : PySem.W.subIn K (.ref C_NotFree) (.type "ValueError") = some true)
    (dc_NotFree : Dc_NotFree___init__ = C_NotFree)
    (su_NotFree : PySem.W.ks_superIn K C_NotFree C_NotFree "__init__" = some (some (.builtin "ValueError.__init__")))
    (mr_NotFree : PySem.W.mroIn K C_NotFree (.ref C_NotFree) = some true)
    (ti_NotFree : PySem.W.typeIn K (.ref p_NotFree___init__) = some (.type "function"))
    (no_NotFree : PySem.W.findIn K (.ref C_NotFree) "things" = some none)
    (ga_NotFree : PySem.W.findIn K (.ref C_NotFree) "__getattribute__" = some (some (.builtin "BaseException.__getattribute__")))
    (gg_NotFree : PySem.W.findIn K (.ref C_NotFree) "__getattr__" = some none)
    (hd_NotFree : PySem.W.hasDictIn K C_NotFree = true)
    (cl_NotFree : PySem.W.findIn K (.ref C_NotFree) "__class__" = some (some (.builtin "object.__class__")))
    (mo_NotFree : PySem.W.mroIn K C_NotFree (.type "object") = some true)
    (gcl : PySem.W.specialIn K (.builtin "object.__class__") "__get__" = some (some (.builtin "getset_descriptor.__get__")))
    (tcl : PySem.W.takesIn K (.builtin "object.__class__") = some true)
    (is_BadEntry_BadNumber : PySem.W.kitOne K (.ref C_BadNumber) (.ref C_BadEntry) = some false)
    (is_BadEntry_BadSet_NotALot_NotFree : PySem.W.kitAny K (.ref C_NotFree) [.ref C_BadEntry, .ref C_BadSet, .ref C_NotALot] = some false)
    (is_PricesError_BadNumber : PySem.W.kitOne K (.ref C_BadNumber) (.ref C_PricesError) = some true)
    (is_PricesError_BadSet : PySem.W.kitOne K (.ref C_BadSet) (.ref C_PricesError) = some true)
    (is_PricesError_BadEntry : PySem.W.kitOne K (.ref C_BadEntry) (.ref C_PricesError) = some true)
    (is_PricesError_NotFree : PySem.W.kitOne K (.ref C_NotFree) (.ref C_PricesError) = some true)
    (em_BadEntry_BadEntry : PySem.W.exmOne K (.ref C_BadEntry) (.ref C_BadEntry) = some true)
    (em_BadNumber_BadNumber : PySem.W.exmOne K (.ref C_BadNumber) (.ref C_BadNumber) = some true)
    (em_BadSet_BadSet : PySem.W.exmOne K (.ref C_BadSet) (.ref C_BadSet) = some true)
    (em_BadSet_NotFree : PySem.W.exmOne K (.ref C_NotFree) (.ref C_BadSet) = some false)
    (em_NotFree_NotFree : PySem.W.exmOne K (.ref C_NotFree) (.ref C_NotFree) = some true)
    (em_NotFree_BadSet : PySem.W.exmOne K (.ref C_BadSet) (.ref C_NotFree) = some false)
    (pg_Firsts : PySem.W.plainGet K C_Firsts Str.empty = true)
    (hd_Firsts : PySem.W.hasDictIn K C_Firsts = true)
    (po_Firsts : PySem.W.plainOver K C_Firsts = true)
    (sa_Firsts : PySem.W.findIn K (.ref C_Firsts) "__setattr__" = some (some (.builtin "object.__setattr__")))
    (mk_Firsts : PySem.W.makesIn K C_Firsts = true)
    (kc_Firsts : PySem.W.keepIn K (.ref C_Firsts) = true)
    (pg_Teams : PySem.W.plainGet K C_Teams Str.empty = true)
    (hd_Teams : PySem.W.hasDictIn K C_Teams = true)
    (po_Teams : PySem.W.plainOver K C_Teams = true)
    (sa_Teams : PySem.W.findIn K (.ref C_Teams) "__setattr__" = some (some (.builtin "object.__setattr__")))
    (mk_Teams : PySem.W.makesIn K C_Teams = true)
    (kc_Teams : PySem.W.keepIn K (.ref C_Teams) = true)
    (pg_Works : PySem.W.plainGet K C_Works Str.empty = true)
    (hd_Works : PySem.W.hasDictIn K C_Works = true)
    (po_Works : PySem.W.plainOver K C_Works = true)
    (sa_Works : PySem.W.findIn K (.ref C_Works) "__setattr__" = some (some (.builtin "object.__setattr__")))
    (mk_Works : PySem.W.makesIn K C_Works = true)
    (kc_Works : PySem.W.keepIn K (.ref C_Works) = true)
    (na_Firsts__things : PySem.W.findIn K (.ref C_Firsts) "_things" = some none)
    (na_Teams__things : PySem.W.findIn K (.ref C_Teams) "_things" = some none)
    (na_Works__things : PySem.W.findIn K (.ref C_Works) "_things" = some none)
    (na_Teams_classes : PySem.W.findIn K (.ref C_Teams) "classes" = some none)
    (na_Works_days : PySem.W.findIn K (.ref C_Works) "days" = some none)
    (na_Firsts_number : PySem.W.findIn K (.ref C_Firsts) "number" = some none)
    (na_Teams_places : PySem.W.findIn K (.ref C_Teams) "places" = some none)
    (na_Firsts_size : PySem.W.findIn K (.ref C_Firsts) "size" = some none)
    (na_Teams_size : PySem.W.findIn K (.ref C_Teams) "size" = some none)
    (na_Works_size : PySem.W.findIn K (.ref C_Works) "size" = some none)
    (n_is_integer : PySem.W.nsIn K mainGlobals "is_integer" = some (some (.ref p_is_integer)))
    (l_is_integer : K.lookup p_is_integer = some ⟨oc_is_integer, od_is_integer, .func (PySem.W.fnOf "is_integer" "is_integer" (defArgs st_is_integer) (defBody st_is_integer) (defScope st_is_integer) .none kV_is_integer dc_is_integer pm_is_integer an_is_integer cd_is_integer ct_is_integer), sl_is_integer⟩)
    (c_is_integer : PySem.W.codeIn K cd_is_integer "is_integer" = true)
    (k_is_integer : PySem.W.keepIn K (.ref p_is_integer) = true)
    (n_is_count : PySem.W.nsIn K mainGlobals "is_count" = some (some (.ref p_is_count)))
    (l_is_count : K.lookup p_is_count = some ⟨oc_is_count, od_is_count, .func (PySem.W.fnOf "is_count" "is_count" (defArgs st_is_count) (defBody st_is_count) (defScope st_is_count) .none kV_is_count dc_is_count pm_is_count an_is_count cd_is_count ct_is_count), sl_is_count⟩)
    (c_is_count : PySem.W.codeIn K cd_is_count "is_count" = true)
    (k_is_count : PySem.W.keepIn K (.ref p_is_count) = true)
    (n_is_thing : PySem.W.nsIn K mainGlobals "is_thing" = some (some (.ref p_is_thing)))
    (l_is_thing : K.lookup p_is_thing = some ⟨oc_is_thing, od_is_thing, .func (PySem.W.fnOf "is_thing" "is_thing" (defArgs st_is_thing) (defBody st_is_thing) (defScope st_is_thing) .none kV_is_thing dc_is_thing pm_is_thing an_is_thing cd_is_thing ct_is_thing), sl_is_thing⟩)
    (c_is_thing : PySem.W.codeIn K cd_is_thing "is_thing" = true)
    (k_is_thing : PySem.W.keepIn K (.ref p_is_thing) = true)
    (n_misplaced : PySem.W.nsIn K mainGlobals "misplaced" = some (some (.ref p_misplaced)))
    (l_misplaced : K.lookup p_misplaced = some ⟨oc_misplaced, od_misplaced, .func (PySem.W.fnOf "misplaced" "misplaced" (defArgs st_misplaced) (defBody st_misplaced) (defScope st_misplaced) .none kV_misplaced dc_misplaced pm_misplaced an_misplaced cd_misplaced ct_misplaced), sl_misplaced⟩)
    (c_misplaced : PySem.W.codeIn K cd_misplaced "misplaced" = true)
    (k_misplaced : PySem.W.keepIn K (.ref p_misplaced) = true)
    (n_set_of : PySem.W.nsIn K mainGlobals "set_of" = some (some (.ref p_set_of)))
    (l_set_of : K.lookup p_set_of = some ⟨oc_set_of, od_set_of, .func (PySem.W.fnOf "set_of" "set_of" (defArgs st_set_of) (defBody st_set_of) (defScope st_set_of) .none kV_set_of dc_set_of pm_set_of an_set_of cd_set_of ct_set_of), sl_set_of⟩)
    (c_set_of : PySem.W.codeIn K cd_set_of "set_of" = true)
    (k_set_of : PySem.W.keepIn K (.ref p_set_of) = true)
    (s0_Rule___init__ : PySem.W.ks_superIn K C_Firsts C_Firsts "__init__" = some (some (.ref p_Rule___init__)))
    (l_Rule___init__ : K.lookup p_Rule___init__ = some ⟨oc_Rule___init__, od_Rule___init__, .func (PySem.W.fnOf "__init__" "Rule.__init__" (defArgs st_Rule___init__) (defBody st_Rule___init__) (defScope st_Rule___init__) .none kV_Rule___init__ dc_Rule___init__ pm_Rule___init__ an_Rule___init__ cd_Rule___init__ ct_Rule___init__), sl_Rule___init__⟩)
    (c_Rule___init__ : PySem.W.codeIn K cd_Rule___init__ "Rule.__init__" = true)
    (k_Rule___init__ : PySem.W.keepIn K (.ref p_Rule___init__) = true)
    (s0_Rule__rank : PySem.W.ks_superIn K C_Firsts C_Firsts "_rank" = some (some (.ref p_Rule__rank)))
    (l_Rule__rank : K.lookup p_Rule__rank = some ⟨oc_Rule__rank, od_Rule__rank, .func (PySem.W.fnOf "_rank" "Rule._rank" (defArgs st_Rule__rank) (defBody st_Rule__rank) (defScope st_Rule__rank) .none kV_Rule__rank dc_Rule__rank pm_Rule__rank an_Rule__rank cd_Rule__rank ct_Rule__rank), sl_Rule__rank⟩)
    (c_Rule__rank : PySem.W.codeIn K cd_Rule__rank "Rule._rank" = true)
    (k_Rule__rank : PySem.W.keepIn K (.ref p_Rule__rank) = true)
    (i_Firsts___init__ : PySem.W.findIn K (.ref C_Firsts) "__init__" = some (some (.ref p_Firsts___init__)))
    (l_Firsts___init__ : K.lookup p_Firsts___init__ = some ⟨oc_Firsts___init__, od_Firsts___init__, .func (PySem.W.ksFn "__init__" "Firsts.__init__" (defArgs st_Firsts___init__) (defBody st_Firsts___init__) (defScope st_Firsts___init__) .none kV_Firsts___init__ dc_Firsts___init__ pm_Firsts___init__ an_Firsts___init__ (.ref cda_Firsts___init__) ct_Firsts___init__ cc_Firsts___init__), sl_Firsts___init__⟩)
    (c_Firsts___init__ : PySem.W.codeIn K (.ref cda_Firsts___init__) "Firsts.__init__" = true)
    (e_Firsts___init__ : K.lookup cc_Firsts___init__ = some ⟨cl_Firsts___init__, cld_Firsts___init__, .cell (some (.ref Dc_Firsts___init__)), csl_Firsts___init__⟩)
    (o_Firsts___init__ : K.lookup cda_Firsts___init__ = some ⟨ccl_Firsts___init__, cdd_Firsts___init__, .fields vs_Firsts___init__, ccs_Firsts___init__⟩)
    (v_Firsts___init__ : vs_Firsts___init__[2]? = some (.str file_Firsts___init__ tp_Firsts___init__))
    (w_Firsts___init__ : ((P.main.file : Str) == file_Firsts___init__) = true)
    (x_Firsts___init__ : PySem.W.clsIn K Dc_Firsts___init__ = some cdD_Firsts___init__)
    (dc_Firsts___init__ : Dc_Firsts___init__ = C_Firsts)
    (mr_Firsts___init__ : PySem.W.mroIn K C_Firsts (.ref C_Firsts) = some true)
    (su_Firsts___init__ : PySem.W.ks_superIn K C_Firsts C_Firsts "__init__" = some (some (.ref p_Rule___init__)))
    (tp_Firsts___init__ : PySem.W.typeIn K (.ref p_Rule___init__) = some (.type "function"))
    (fi_Firsts___init__ : PySem.W.fnIn K p_Rule___init__ = true)
    (if_Firsts___init__ : PySem.W.isFn K (.ref p_Firsts___init__) = true)
    (i_Firsts__rank : PySem.W.findIn K (.ref C_Firsts) "_rank" = some (some (.ref p_Firsts__rank)))
    (l_Firsts__rank : K.lookup p_Firsts__rank = some ⟨oc_Firsts__rank, od_Firsts__rank, .func (PySem.W.ksFn "_rank" "Firsts._rank" (defArgs st_Firsts__rank) (defBody st_Firsts__rank) (defScope st_Firsts__rank) .none kV_Firsts__rank dc_Firsts__rank pm_Firsts__rank an_Firsts__rank (.ref cda_Firsts__rank) ct_Firsts__rank cc_Firsts__rank), sl_Firsts__rank⟩)
    (c_Firsts__rank : PySem.W.codeIn K (.ref cda_Firsts__rank) "Firsts._rank" = true)
    (e_Firsts__rank : K.lookup cc_Firsts__rank = some ⟨cl_Firsts__rank, cld_Firsts__rank, .cell (some (.ref Dc_Firsts__rank)), csl_Firsts__rank⟩)
    (o_Firsts__rank : K.lookup cda_Firsts__rank = some ⟨ccl_Firsts__rank, cdd_Firsts__rank, .fields vs_Firsts__rank, ccs_Firsts__rank⟩)
    (v_Firsts__rank : vs_Firsts__rank[2]? = some (.str file_Firsts__rank tp_Firsts__rank))
    (w_Firsts__rank : ((P.main.file : Str) == file_Firsts__rank) = true)
    (x_Firsts__rank : PySem.W.clsIn K Dc_Firsts__rank = some cdD_Firsts__rank)
    (dc_Firsts__rank : Dc_Firsts__rank = C_Firsts)
    (mr_Firsts__rank : PySem.W.mroIn K C_Firsts (.ref C_Firsts) = some true)
    (su_Firsts__rank : PySem.W.ks_superIn K C_Firsts C_Firsts "_rank" = some (some (.ref p_Rule__rank)))
    (tp_Firsts__rank : PySem.W.typeIn K (.ref p_Rule__rank) = some (.type "function"))
    (fi_Firsts__rank : PySem.W.fnIn K p_Rule__rank = true)
    (i_Teams___init__ : PySem.W.findIn K (.ref C_Teams) "__init__" = some (some (.ref p_Teams___init__)))
    (l_Teams___init__ : K.lookup p_Teams___init__ = some ⟨oc_Teams___init__, od_Teams___init__, .func (PySem.W.ksFn "__init__" "Teams.__init__" (defArgs st_Teams___init__) (defBody st_Teams___init__) (defScope st_Teams___init__) .none kV_Teams___init__ dc_Teams___init__ pm_Teams___init__ an_Teams___init__ (.ref cda_Teams___init__) ct_Teams___init__ cc_Teams___init__), sl_Teams___init__⟩)
    (c_Teams___init__ : PySem.W.codeIn K (.ref cda_Teams___init__) "Teams.__init__" = true)
    (e_Teams___init__ : K.lookup cc_Teams___init__ = some ⟨cl_Teams___init__, cld_Teams___init__, .cell (some (.ref Dc_Teams___init__)), csl_Teams___init__⟩)
    (o_Teams___init__ : K.lookup cda_Teams___init__ = some ⟨ccl_Teams___init__, cdd_Teams___init__, .fields vs_Teams___init__, ccs_Teams___init__⟩)
    (v_Teams___init__ : vs_Teams___init__[2]? = some (.str file_Teams___init__ tp_Teams___init__))
    (w_Teams___init__ : ((P.main.file : Str) == file_Teams___init__) = true)
    (x_Teams___init__ : PySem.W.clsIn K Dc_Teams___init__ = some cdD_Teams___init__)
    (dc_Teams___init__ : Dc_Teams___init__ = C_Teams)
    (mr_Teams___init__ : PySem.W.mroIn K C_Teams (.ref C_Teams) = some true)
    (su_Teams___init__ : PySem.W.ks_superIn K C_Teams C_Teams "__init__" = some (some (.ref p_Rule___init__)))
    (tp_Teams___init__ : PySem.W.typeIn K (.ref p_Rule___init__) = some (.type "function"))
    (fi_Teams___init__ : PySem.W.fnIn K p_Rule___init__ = true)
    (if_Teams___init__ : PySem.W.isFn K (.ref p_Teams___init__) = true)
    (i_Teams__rank : PySem.W.findIn K (.ref C_Teams) "_rank" = some (some (.ref p_Teams__rank)))
    (l_Teams__rank : K.lookup p_Teams__rank = some ⟨oc_Teams__rank, od_Teams__rank, .func (PySem.W.fnOf "_rank" "Teams._rank" (defArgs st_Teams__rank) (defBody st_Teams__rank) (defScope st_Teams__rank) .none kV_Teams__rank dc_Teams__rank pm_Teams__rank an_Teams__rank cd_Teams__rank ct_Teams__rank), sl_Teams__rank⟩)
    (c_Teams__rank : PySem.W.codeIn K cd_Teams__rank "Teams._rank" = true)
    (k_Teams__rank : PySem.W.keepIn K (.ref p_Teams__rank) = true)
    (i_Works___init__ : PySem.W.findIn K (.ref C_Works) "__init__" = some (some (.ref p_Works___init__)))
    (l_Works___init__ : K.lookup p_Works___init__ = some ⟨oc_Works___init__, od_Works___init__, .func (PySem.W.ksFn "__init__" "Works.__init__" (defArgs st_Works___init__) (defBody st_Works___init__) (defScope st_Works___init__) .none kV_Works___init__ dc_Works___init__ pm_Works___init__ an_Works___init__ (.ref cda_Works___init__) ct_Works___init__ cc_Works___init__), sl_Works___init__⟩)
    (c_Works___init__ : PySem.W.codeIn K (.ref cda_Works___init__) "Works.__init__" = true)
    (e_Works___init__ : K.lookup cc_Works___init__ = some ⟨cl_Works___init__, cld_Works___init__, .cell (some (.ref Dc_Works___init__)), csl_Works___init__⟩)
    (o_Works___init__ : K.lookup cda_Works___init__ = some ⟨ccl_Works___init__, cdd_Works___init__, .fields vs_Works___init__, ccs_Works___init__⟩)
    (v_Works___init__ : vs_Works___init__[2]? = some (.str file_Works___init__ tp_Works___init__))
    (w_Works___init__ : ((P.main.file : Str) == file_Works___init__) = true)
    (x_Works___init__ : PySem.W.clsIn K Dc_Works___init__ = some cdD_Works___init__)
    (dc_Works___init__ : Dc_Works___init__ = C_Works)
    (mr_Works___init__ : PySem.W.mroIn K C_Works (.ref C_Works) = some true)
    (su_Works___init__ : PySem.W.ks_superIn K C_Works C_Works "__init__" = some (some (.ref p_Rule___init__)))
    (tp_Works___init__ : PySem.W.typeIn K (.ref p_Rule___init__) = some (.type "function"))
    (fi_Works___init__ : PySem.W.fnIn K p_Rule___init__ = true)
    (if_Works___init__ : PySem.W.isFn K (.ref p_Works___init__) = true)
    (i_Works__rank : PySem.W.findIn K (.ref C_Works) "_rank" = some (some (.ref p_Works__rank)))
    (l_Works__rank : K.lookup p_Works__rank = some ⟨oc_Works__rank, od_Works__rank, .func (PySem.W.fnOf "_rank" "Works._rank" (defArgs st_Works__rank) (defBody st_Works__rank) (defScope st_Works__rank) .none kV_Works__rank dc_Works__rank pm_Works__rank an_Works__rank cd_Works__rank ct_Works__rank), sl_Works__rank⟩)
    (c_Works__rank : PySem.W.codeIn K cd_Works__rank "Works._rank" = true)
    (k_Works__rank : PySem.W.keepIn K (.ref p_Works__rank) = true)
    (me_Firsts__rank : PySem.W.findIn K (.ref C_Firsts) "_rank" = some (some (.ref p_Firsts__rank)))
    (mi_Firsts__rank : PySem.W.isFn K (.ref p_Firsts__rank) = true)
    (mp_Firsts__rank : PySem.W.keepIn K (.ref p_Firsts__rank) = true)
    (me_Teams__rank : PySem.W.findIn K (.ref C_Teams) "_rank" = some (some (.ref p_Teams__rank)))
    (mi_Teams__rank : PySem.W.isFn K (.ref p_Teams__rank) = true)
    (mp_Teams__rank : PySem.W.keepIn K (.ref p_Teams__rank) = true)
    (me_Works__rank : PySem.W.findIn K (.ref C_Works) "_rank" = some (some (.ref p_Works__rank)))
    (mi_Works__rank : PySem.W.isFn K (.ref p_Works__rank) = true)
    (mp_Works__rank : PySem.W.keepIn K (.ref p_Works__rank) = true)
    (i_Rule__free : PySem.W.findIn K (.ref C_Firsts) "_free" = some (some (.ref p_Rule__free)))
    (l_Rule__free : K.lookup p_Rule__free = some ⟨oc_Rule__free, od_Rule__free, .func (PySem.W.fnOf "_free" "Rule._free" (defArgs st_Rule__free) (defBody st_Rule__free) (defScope st_Rule__free) .none kV_Rule__free dc_Rule__free pm_Rule__free an_Rule__free cd_Rule__free ct_Rule__free), sl_Rule__free⟩)
    (c_Rule__free : PySem.W.codeIn K cd_Rule__free "Rule._free" = true)
    (k_Rule__free : PySem.W.keepIn K (.ref p_Rule__free) = true)
    (me_Firsts__free : PySem.W.findIn K (.ref C_Firsts) "_free" = some (some (.ref p_Rule__free)))
    (mi_Firsts__free : PySem.W.isFn K (.ref p_Rule__free) = true)
    (mp_Firsts__free : PySem.W.keepIn K (.ref p_Rule__free) = true)
    (me_Teams__free : PySem.W.findIn K (.ref C_Teams) "_free" = some (some (.ref p_Rule__free)))
    (mi_Teams__free : PySem.W.isFn K (.ref p_Rule__free) = true)
    (mp_Teams__free : PySem.W.keepIn K (.ref p_Rule__free) = true)
    (me_Works__free : PySem.W.findIn K (.ref C_Works) "_free" = some (some (.ref p_Rule__free)))
    (mi_Works__free : PySem.W.isFn K (.ref p_Rule__free) = true)
    (mp_Works__free : PySem.W.keepIn K (.ref p_Rule__free) = true)
    (i_Rule_is_free : PySem.W.findIn K (.ref C_Firsts) "is_free" = some (some (.ref p_Rule_is_free)))
    (l_Rule_is_free : K.lookup p_Rule_is_free = some ⟨oc_Rule_is_free, od_Rule_is_free, .func (PySem.W.fnOf "is_free" "Rule.is_free" (defArgs st_Rule_is_free) (defBody st_Rule_is_free) (defScope st_Rule_is_free) .none kV_Rule_is_free dc_Rule_is_free pm_Rule_is_free an_Rule_is_free cd_Rule_is_free ct_Rule_is_free), sl_Rule_is_free⟩)
    (c_Rule_is_free : PySem.W.codeIn K cd_Rule_is_free "Rule.is_free" = true)
    (k_Rule_is_free : PySem.W.keepIn K (.ref p_Rule_is_free) = true)
    (me_Firsts_is_free : PySem.W.findIn K (.ref C_Firsts) "is_free" = some (some (.ref p_Rule_is_free)))
    (mi_Firsts_is_free : PySem.W.isFn K (.ref p_Rule_is_free) = true)
    (mp_Firsts_is_free : PySem.W.keepIn K (.ref p_Rule_is_free) = true)
    (me_Teams_is_free : PySem.W.findIn K (.ref C_Teams) "is_free" = some (some (.ref p_Rule_is_free)))
    (mi_Teams_is_free : PySem.W.isFn K (.ref p_Rule_is_free) = true)
    (mp_Teams_is_free : PySem.W.keepIn K (.ref p_Rule_is_free) = true)
    (me_Works_is_free : PySem.W.findIn K (.ref C_Works) "is_free" = some (some (.ref p_Rule_is_free)))
    (mi_Works_is_free : PySem.W.isFn K (.ref p_Rule_is_free) = true)
    (mp_Works_is_free : PySem.W.keepIn K (.ref p_Rule_is_free) = true)
    (i_Rule_rank : PySem.W.findIn K (.ref C_Firsts) "rank" = some (some (.ref p_Rule_rank)))
    (l_Rule_rank : K.lookup p_Rule_rank = some ⟨oc_Rule_rank, od_Rule_rank, .func (PySem.W.fnOf "rank" "Rule.rank" (defArgs st_Rule_rank) (defBody st_Rule_rank) (defScope st_Rule_rank) .none kV_Rule_rank dc_Rule_rank pm_Rule_rank an_Rule_rank cd_Rule_rank ct_Rule_rank), sl_Rule_rank⟩)
    (c_Rule_rank : PySem.W.codeIn K cd_Rule_rank "Rule.rank" = true)
    (k_Rule_rank : PySem.W.keepIn K (.ref p_Rule_rank) = true)
    (me_Firsts_rank : PySem.W.findIn K (.ref C_Firsts) "rank" = some (some (.ref p_Rule_rank)))
    (mi_Firsts_rank : PySem.W.isFn K (.ref p_Rule_rank) = true)
    (mp_Firsts_rank : PySem.W.keepIn K (.ref p_Rule_rank) = true)
    (me_Teams_rank : PySem.W.findIn K (.ref C_Teams) "rank" = some (some (.ref p_Rule_rank)))
    (mi_Teams_rank : PySem.W.isFn K (.ref p_Rule_rank) = true)
    (mp_Teams_rank : PySem.W.keepIn K (.ref p_Rule_rank) = true)
    (me_Works_rank : PySem.W.findIn K (.ref C_Works) "rank" = some (some (.ref p_Rule_rank)))
    (mi_Works_rank : PySem.W.isFn K (.ref p_Rule_rank) = true)
    (mp_Works_rank : PySem.W.keepIn K (.ref p_Rule_rank) = true)
    (n_timetable : PySem.W.nsIn K mainGlobals "timetable" = some (some (.ref p_timetable)))
    (l_timetable : K.lookup p_timetable = some ⟨oc_timetable, od_timetable, .func (PySem.W.fnOf "timetable" "timetable" (defArgs st_timetable) (defBody st_timetable) (defScope st_timetable) .none kV_timetable dc_timetable pm_timetable an_timetable cd_timetable ct_timetable), sl_timetable⟩)
    (c_timetable : PySem.W.codeIn K cd_timetable "timetable" = true)
    (k_timetable : PySem.W.keepIn K (.ref p_timetable) = true)
    (n__law_pool : PySem.W.nsIn K mainGlobals "_law_pool" = some (some (.ref p__law_pool)))
    (l__law_pool : K.lookup p__law_pool = some ⟨oc__law_pool, od__law_pool, .func (PySem.W.fnOf "_law_pool" "_law_pool" (defArgs st__law_pool) (defBody st__law_pool) (defScope st__law_pool) .none kV__law_pool dc__law_pool pm__law_pool an__law_pool cd__law_pool ct__law_pool), sl__law_pool⟩)
    (c__law_pool : PySem.W.codeIn K cd__law_pool "_law_pool" = true)
    (k__law_pool : PySem.W.keepIn K (.ref p__law_pool) = true)
    (n__law_mixed : PySem.W.nsIn K mainGlobals "_law_mixed" = some (some (.ref p__law_mixed)))
    (l__law_mixed : K.lookup p__law_mixed = some ⟨oc__law_mixed, od__law_mixed, .func (PySem.W.fnOf "_law_mixed" "_law_mixed" (defArgs st__law_mixed) (defBody st__law_mixed) (defScope st__law_mixed) .none kV__law_mixed dc__law_mixed pm__law_mixed an__law_mixed cd__law_mixed ct__law_mixed), sl__law_mixed⟩)
    (c__law_mixed : PySem.W.codeIn K cd__law_mixed "_law_mixed" = true)
    (k__law_mixed : PySem.W.keepIn K (.ref p__law_mixed) = true)
    (n__law_draw : PySem.W.nsIn K mainGlobals "_law_draw" = some (some (.ref p__law_draw)))
    (l__law_draw : K.lookup p__law_draw = some ⟨oc__law_draw, od__law_draw, .func (PySem.W.fnOf "_law_draw" "_law_draw" (defArgs st__law_draw) (defBody st__law_draw) (defScope st__law_draw) .none kV__law_draw dc__law_draw pm__law_draw an__law_draw cd__law_draw ct__law_draw), sl__law_draw⟩)
    (c__law_draw : PySem.W.codeIn K cd__law_draw "_law_draw" = true)
    (k__law_draw : PySem.W.keepIn K (.ref p__law_draw) = true)
    (n__law_digits : PySem.W.nsIn K mainGlobals "_law_digits" = some (some (.ref p__law_digits)))
    (l__law_digits : K.lookup p__law_digits = some ⟨oc__law_digits, od__law_digits, .func (PySem.W.fnOf "_law_digits" "_law_digits" (defArgs st__law_digits) (defBody st__law_digits) (defScope st__law_digits) .none kV__law_digits dc__law_digits pm__law_digits an__law_digits cd__law_digits ct__law_digits), sl__law_digits⟩)
    (c__law_digits : PySem.W.codeIn K cd__law_digits "_law_digits" = true)
    (k__law_digits : PySem.W.keepIn K (.ref p__law_digits) = true)
    (n__law_firsts_hold : PySem.W.nsIn K mainGlobals "_law_firsts_hold" = some (some (.ref p__law_firsts_hold)))
    (l__law_firsts_hold : K.lookup p__law_firsts_hold = some ⟨oc__law_firsts_hold, od__law_firsts_hold, .func (PySem.W.fnOf "_law_firsts_hold" "_law_firsts_hold" (defArgs st__law_firsts_hold) (defBody st__law_firsts_hold) (defScope st__law_firsts_hold) .none kV__law_firsts_hold dc__law_firsts_hold pm__law_firsts_hold an__law_firsts_hold cd__law_firsts_hold ct__law_firsts_hold), sl__law_firsts_hold⟩)
    (c__law_firsts_hold : PySem.W.codeIn K cd__law_firsts_hold "_law_firsts_hold" = true)
    (k__law_firsts_hold : PySem.W.keepIn K (.ref p__law_firsts_hold) = true)
    (n__law_teams_hold : PySem.W.nsIn K mainGlobals "_law_teams_hold" = some (some (.ref p__law_teams_hold)))
    (l__law_teams_hold : K.lookup p__law_teams_hold = some ⟨oc__law_teams_hold, od__law_teams_hold, .func (PySem.W.fnOf "_law_teams_hold" "_law_teams_hold" (defArgs st__law_teams_hold) (defBody st__law_teams_hold) (defScope st__law_teams_hold) .none kV__law_teams_hold dc__law_teams_hold pm__law_teams_hold an__law_teams_hold cd__law_teams_hold ct__law_teams_hold), sl__law_teams_hold⟩)
    (c__law_teams_hold : PySem.W.codeIn K cd__law_teams_hold "_law_teams_hold" = true)
    (k__law_teams_hold : PySem.W.keepIn K (.ref p__law_teams_hold) = true)
    (n__law_timetable_holds : PySem.W.nsIn K mainGlobals "_law_timetable_holds" = some (some (.ref p__law_timetable_holds)))
    (l__law_timetable_holds : K.lookup p__law_timetable_holds = some ⟨oc__law_timetable_holds, od__law_timetable_holds, .func (PySem.W.fnOf "_law_timetable_holds" "_law_timetable_holds" (defArgs st__law_timetable_holds) (defBody st__law_timetable_holds) (defScope st__law_timetable_holds) .none kV__law_timetable_holds dc__law_timetable_holds pm__law_timetable_holds an__law_timetable_holds cd__law_timetable_holds ct__law_timetable_holds), sl__law_timetable_holds⟩)
    (c__law_timetable_holds : PySem.W.codeIn K cd__law_timetable_holds "_law_timetable_holds" = true)
    (k__law_timetable_holds : PySem.W.keepIn K (.ref p__law_timetable_holds) = true)
    (n__law_no_set_place : PySem.W.nsIn K mainGlobals "_law_no_set_place" = some (some (.ref p__law_no_set_place)))
    (l__law_no_set_place : K.lookup p__law_no_set_place = some ⟨oc__law_no_set_place, od__law_no_set_place, .func (PySem.W.fnOf "_law_no_set_place" "_law_no_set_place" (defArgs st__law_no_set_place) (defBody st__law_no_set_place) (defScope st__law_no_set_place) .none kV__law_no_set_place dc__law_no_set_place pm__law_no_set_place an__law_no_set_place cd__law_no_set_place ct__law_no_set_place), sl__law_no_set_place⟩)
    (c__law_no_set_place : PySem.W.codeIn K cd__law_no_set_place "_law_no_set_place" = true)
    (k__law_no_set_place : PySem.W.keepIn K (.ref p__law_no_set_place) = true)
    (n__law_works_hold : PySem.W.nsIn K mainGlobals "_law_works_hold" = some (some (.ref p__law_works_hold)))
    (l__law_works_hold : K.lookup p__law_works_hold = some ⟨oc__law_works_hold, od__law_works_hold, .func (PySem.W.fnOf "_law_works_hold" "_law_works_hold" (defArgs st__law_works_hold) (defBody st__law_works_hold) (defScope st__law_works_hold) .none kV__law_works_hold dc__law_works_hold pm__law_works_hold an__law_works_hold cd__law_works_hold ct__law_works_hold), sl__law_works_hold⟩)
    (c__law_works_hold : PySem.W.codeIn K cd__law_works_hold "_law_works_hold" = true)
    (k__law_works_hold : PySem.W.keepIn K (.ref p__law_works_hold) = true)
    (n_law : PySem.W.nsIn K mainGlobals "law" = some (some (.ref p_law)))
    (l_law : K.lookup p_law = some ⟨oc_law, od_law, .func (PySem.W.fnOf "law" "law" (defArgs st_law) (defBody st_law) (defScope st_law) .none kV_law dc_law pm_law an_law cd_law ct_law), sl_law⟩)
    (c_law : PySem.W.codeIn K cd_law "law" = true)
    (k_law : PySem.W.keepIn K (.ref p_law) = true) :
    ∃ fd : FuncData, (∀ (s : Shared) (v : Value), BindsTo s fd ⟨[v], []⟩ [("_law_script", v)]) ∧ ∀ base : Heap, K.In base → base.Ns mainGlobals mg → FnOk P w K mg base (L2.CX P w) 8 fa fd ["_law_script"] (SpM K mg g 1 law_m) := by
  have e := hfa.symm.trans (PySem.W.mg_of X G n_law)
  cases e
  refine ⟨PySem.W.fnOf "law" "law" (defArgs st_law) (defBody st_law) (defScope st_law) .none kV_law dc_law pm_law an_law cd_law ct_law, fun s v => .of_eq rfl, fun base _ _ => ?_⟩
  have z_abs := PySem.W.mg_none_of X G nz_abs
  have z_all := PySem.W.mg_none_of X G nz_all
  have z_bool := PySem.W.mg_none_of X G nz_bool
  have z_enumerate := PySem.W.mg_none_of X G nz_enumerate
  have z_int := PySem.W.mg_none_of X G nz_int
  have z_isinstance := PySem.W.mg_none_of X G nz_isinstance
  have z_len := PySem.W.mg_none_of X G nz_len
  have z_list := PySem.W.mg_none_of X G nz_list
  have z_max := PySem.W.mg_none_of X G nz_max
  have z_min := PySem.W.mg_none_of X G nz_min
  have z_range := PySem.W.mg_none_of X G nz_range
  have z_sorted := PySem.W.mg_none_of X G nz_sorted
  have z_sum := PySem.W.mg_none_of X G nz_sum
  have z_super := PySem.W.mg_none_of X G nz_super
  have z_tuple := PySem.W.mg_none_of X G nz_tuple
  have mg_BadNumber : mg "BadNumber" = some (.ref C_BadNumber) := PySem.W.mg_of X G g_BadNumber
  have mg_BadSet : mg "BadSet" = some (.ref C_BadSet) := PySem.W.mg_of X G g_BadSet
  have mg_BadEntry : mg "BadEntry" = some (.ref C_BadEntry) := PySem.W.mg_of X G g_BadEntry
  have mg_NotALot : mg "NotALot" = some (.ref C_NotALot) := PySem.W.mg_of X G g_NotALot
  have mg_NotFree : mg "NotFree" = some (.ref C_NotFree) := PySem.W.mg_of X G g_NotFree
  have mg_PricesError : mg "PricesError" = some (.ref C_PricesError) := PySem.W.mg_of X G g_PricesError
  have mg_Firsts : mg "Firsts" = some (.ref C_Firsts) := PySem.W.mg_of X G g_Firsts
  have mg_Teams : mg "Teams" = some (.ref C_Teams) := PySem.W.mg_of X G g_Teams
  have mg_Works : mg "Works" = some (.ref C_Works) := PySem.W.mg_of X G g_Works
  have F_BadNumber___init__ : SupD P K mg "__init__" "BadNumber.__init__" st_BadNumber___init__ p_BadNumber___init__ _ cc_BadNumber___init__ cda_BadNumber___init__ Dc_BadNumber___init__ := ⟨⟨_, _, _, _, _, _, _, _, rfl, l_BadNumber___init__⟩, c_BadNumber___init__, ⟨_, _, _, e_BadNumber___init__⟩, ⟨_, _, _, _, _, _, o_BadNumber___init__, v_BadNumber___init__, w_BadNumber___init__⟩, ⟨_, x_BadNumber___init__⟩, top_super, z_super, opq⟩
  have b_BadNumber___init__ := F_BadNumber___init__.binds (ps := ["self", "name"]) fun _ _ _ _ _ us hl => match us, hl with | [_, _], _ => rfl
  subst dc_BadNumber
  have OC_BadNumber : OexC K Dc_BadNumber___init__ := ⟨⟨_, _, _, _, _, _, _, _, _, _, _, _, _, _, _, y_BadNumber, yb_BadNumber⟩, sa_BadNumber, ex_BadNumber, ty_BadNumber, kc_BadNumber⟩
  have XC_BadNumber : XCls P K mg "BadNumber" "BadNumber.__init__" st_BadNumber___init__ Dc_BadNumber___init__ p_BadNumber___init__ _ cc_BadNumber___init__ cda_BadNumber___init__ := ⟨F_BadNumber___init__, mg_BadNumber, OC_BadNumber, ve_BadNumber, su_BadNumber, mr_BadNumber, i_BadNumber___init__, ti_BadNumber⟩
  have OK_BadNumber : FnOk P w K mg base (L2.CX P w) 1 p_BadNumber___init__ _ ["self", "name"] (spX Dc_BadNumber___init__ "name") := fn_xi (k := 0) XC_BadNumber no_BadNumber sc_BadNumber___init__ rfl rfl rfl rfl rfl rfl rfl (by decide) (by decide) (fun _ => rfl) (fun _ => rfl) (fun _ => rfl) (fun _ => rfl)
  have o_BadNumber : Own P w K mg base g 0 0 1 := ⟨⟨_, _, _, _, mg_BadNumber, OC_BadNumber, i_BadNumber___init__, ti_BadNumber, b_BadNumber___init__, OK_BadNumber⟩⟩
  have XF_BadNumber : XfC K Dc_BadNumber___init__ := ⟨ga_BadNumber, gg_BadNumber, ex_BadNumber, hd_BadNumber⟩
  have EC_BadNumber : ExcC K Dc_BadNumber___init__ := ⟨ga_BadNumber, gg_BadNumber, ex_BadNumber, hd_BadNumber, cl_BadNumber, gcl, tcl, mo_BadNumber⟩
  have F_BadSet___init__ : SupD P K mg "__init__" "BadSet.__init__" st_BadSet___init__ p_BadSet___init__ _ cc_BadSet___init__ cda_BadSet___init__ Dc_BadSet___init__ := ⟨⟨_, _, _, _, _, _, _, _, rfl, l_BadSet___init__⟩, c_BadSet___init__, ⟨_, _, _, e_BadSet___init__⟩, ⟨_, _, _, _, _, _, o_BadSet___init__, v_BadSet___init__, w_BadSet___init__⟩, ⟨_, x_BadSet___init__⟩, top_super, z_super, opq⟩
  have b_BadSet___init__ := F_BadSet___init__.binds (ps := ["self", "place"]) fun _ _ _ _ _ us hl => match us, hl with | [_, _], _ => rfl
  subst dc_BadSet
  have OC_BadSet : OexC K Dc_BadSet___init__ := ⟨⟨_, _, _, _, _, _, _, _, _, _, _, _, _, _, _, y_BadSet, yb_BadSet⟩, sa_BadSet, ex_BadSet, ty_BadSet, kc_BadSet⟩
  have XC_BadSet : XCls P K mg "BadSet" "BadSet.__init__" st_BadSet___init__ Dc_BadSet___init__ p_BadSet___init__ _ cc_BadSet___init__ cda_BadSet___init__ := ⟨F_BadSet___init__, mg_BadSet, OC_BadSet, ve_BadSet, su_BadSet, mr_BadSet, i_BadSet___init__, ti_BadSet⟩
  have OK_BadSet : FnOk P w K mg base (L2.CX P w) 1 p_BadSet___init__ _ ["self", "place"] (spX Dc_BadSet___init__ "place") := fn_xi (k := 0) XC_BadSet no_BadSet sc_BadSet___init__ rfl rfl rfl rfl rfl rfl rfl (by decide) (by decide) (fun _ => rfl) (fun _ => rfl) (fun _ => rfl) (fun _ => rfl)
  have o_BadSet : Own P w K mg base g 1 1 1 := ⟨⟨_, _, _, _, mg_BadSet, OC_BadSet, i_BadSet___init__, ti_BadSet, b_BadSet___init__, OK_BadSet⟩⟩
  have XF_BadSet : XfC K Dc_BadSet___init__ := ⟨ga_BadSet, gg_BadSet, ex_BadSet, hd_BadSet⟩
  have EC_BadSet : ExcC K Dc_BadSet___init__ := ⟨ga_BadSet, gg_BadSet, ex_BadSet, hd_BadSet, cl_BadSet, gcl, tcl, mo_BadSet⟩
  have F_BadEntry___init__ : SupD P K mg "__init__" "BadEntry.__init__" st_BadEntry___init__ p_BadEntry___init__ _ cc_BadEntry___init__ cda_BadEntry___init__ Dc_BadEntry___init__ := ⟨⟨_, _, _, _, _, _, _, _, rfl, l_BadEntry___init__⟩, c_BadEntry___init__, ⟨_, _, _, e_BadEntry___init__⟩, ⟨_, _, _, _, _, _, o_BadEntry___init__, v_BadEntry___init__, w_BadEntry___init__⟩, ⟨_, x_BadEntry___init__⟩, top_super, z_super, opq⟩
  have b_BadEntry___init__ := F_BadEntry___init__.binds (ps := ["self", "place"]) fun _ _ _ _ _ us hl => match us, hl with | [_, _], _ => rfl
  subst dc_BadEntry
  have OC_BadEntry : OexC K Dc_BadEntry___init__ := ⟨⟨_, _, _, _, _, _, _, _, _, _, _, _, _, _, _, y_BadEntry, yb_BadEntry⟩, sa_BadEntry, ex_BadEntry, ty_BadEntry, kc_BadEntry⟩
  have XC_BadEntry : XCls P K mg "BadEntry" "BadEntry.__init__" st_BadEntry___init__ Dc_BadEntry___init__ p_BadEntry___init__ _ cc_BadEntry___init__ cda_BadEntry___init__ := ⟨F_BadEntry___init__, mg_BadEntry, OC_BadEntry, ve_BadEntry, su_BadEntry, mr_BadEntry, i_BadEntry___init__, ti_BadEntry⟩
  have OK_BadEntry : FnOk P w K mg base (L2.CX P w) 1 p_BadEntry___init__ _ ["self", "place"] (spX Dc_BadEntry___init__ "place") := fn_xi (k := 0) XC_BadEntry no_BadEntry sc_BadEntry___init__ rfl rfl rfl rfl rfl rfl rfl (by decide) (by decide) (fun _ => rfl) (fun _ => rfl) (fun _ => rfl) (fun _ => rfl)
  have o_BadEntry : Own P w K mg base g 2 1 1 := ⟨⟨_, _, _, _, mg_BadEntry, OC_BadEntry, i_BadEntry___init__, ti_BadEntry, b_BadEntry___init__, OK_BadEntry⟩⟩
  have XF_BadEntry : XfC K Dc_BadEntry___init__ := ⟨ga_BadEntry, gg_BadEntry, ex_BadEntry, hd_BadEntry⟩
  have EC_BadEntry : ExcC K Dc_BadEntry___init__ := ⟨ga_BadEntry, gg_BadEntry, ex_BadEntry, hd_BadEntry, cl_BadEntry, gcl, tcl, mo_BadEntry⟩
  have F_NotFree___init__ : SupD P K mg "__init__" "NotFree.__init__" st_NotFree___init__ p_NotFree___init__ _ cc_NotFree___init__ cda_NotFree___init__ Dc_NotFree___init__ := ⟨⟨_, _, _, _, _, _, _, _, rfl, l_NotFree___init__⟩, c_NotFree___init__, ⟨_, _, _, e_NotFree___init__⟩, ⟨_, _, _, _, _, _, o_NotFree___init__, v_NotFree___init__, w_NotFree___init__⟩, ⟨_, x_NotFree___init__⟩, top_super, z_super, opq⟩
  have b_NotFree___init__ := F_NotFree___init__.binds (ps := ["self", "things"]) fun _ _ _ _ _ us hl => match us, hl with | [_, _], _ => rfl
  subst dc_NotFree
  have OC_NotFree : OexC K Dc_NotFree___init__ := ⟨⟨_, _, _, _, _, _, _, _, _, _, _, _, _, _, _, y_NotFree, yb_NotFree⟩, sa_NotFree, ex_NotFree, ty_NotFree, kc_NotFree⟩
  have XC_NotFree : XCls P K mg "NotFree" "NotFree.__init__" st_NotFree___init__ Dc_NotFree___init__ p_NotFree___init__ _ cc_NotFree___init__ cda_NotFree___init__ := ⟨F_NotFree___init__, mg_NotFree, OC_NotFree, ve_NotFree, su_NotFree, mr_NotFree, i_NotFree___init__, ti_NotFree⟩
  have OK_NotFree : FnOk P w K mg base (L2.CX P w) 1 p_NotFree___init__ _ ["self", "things"] (spX Dc_NotFree___init__ "things") := fn_xi (k := 0) XC_NotFree no_NotFree sc_NotFree___init__ rfl rfl rfl rfl rfl rfl rfl (by decide) (by decide) (fun _ => rfl) (fun _ => rfl) (fun _ => rfl) (fun _ => rfl)
  have o_NotFree : Own P w K mg base g 4 2 1 := ⟨⟨_, _, _, _, mg_NotFree, OC_NotFree, i_NotFree___init__, ti_NotFree, b_NotFree___init__, OK_NotFree⟩⟩
  have XF_NotFree : XfC K Dc_NotFree___init__ := ⟨ga_NotFree, gg_NotFree, ex_NotFree, hd_NotFree⟩
  have EC_NotFree : ExcC K Dc_NotFree___init__ := ⟨ga_NotFree, gg_NotFree, ex_NotFree, hd_NotFree, cl_NotFree, gcl, tcl, mo_NotFree⟩
  have i_BadEntry : ∀ c b, iBE c = some b → IsX K mg g c ["BadEntry"] false b := by
    intro c b h
    unfold iBE at h
    split at h
    · cases h; exact ⟨⟨_, [Dc_BadEntry___init__], mg_BadNumber, EC_BadNumber, by show [mg "BadEntry"] = _; rw [mg_BadEntry] <;> rfl, by rw [if_neg Bool.false_ne_true]; exact ⟨_, rfl, is_BadEntry_BadNumber⟩⟩⟩
    · cases h
  have i_BadEntry_BadSet_NotALot : ∀ c b, iThree c = some b → IsX K mg g c ["BadEntry", "BadSet", "NotALot"] true b := by
    intro c b h
    unfold iThree at h
    split at h
    · cases h; exact ⟨⟨_, [Dc_BadEntry___init__, Dc_BadSet___init__, C_NotALot], mg_NotFree, EC_NotFree, by show [mg "BadEntry", mg "BadSet", mg "NotALot"] = _; rw [mg_BadEntry, mg_BadSet, mg_NotALot] <;> rfl, by rw [if_pos rfl]; exact is_BadEntry_BadSet_NotALot_NotFree⟩⟩
    · cases h
  have i_PricesError : ∀ c b, iPE c = some b → IsX K mg g c ["PricesError"] false b := by
    intro c b h
    unfold iPE at h
    split at h
    · cases h; exact ⟨⟨_, [C_PricesError], mg_BadNumber, EC_BadNumber, by show [mg "PricesError"] = _; rw [mg_PricesError] <;> rfl, by rw [if_neg Bool.false_ne_true]; exact ⟨_, rfl, is_PricesError_BadNumber⟩⟩⟩
    · cases h; exact ⟨⟨_, [C_PricesError], mg_BadSet, EC_BadSet, by show [mg "PricesError"] = _; rw [mg_PricesError] <;> rfl, by rw [if_neg Bool.false_ne_true]; exact ⟨_, rfl, is_PricesError_BadSet⟩⟩⟩
    · cases h; exact ⟨⟨_, [C_PricesError], mg_BadEntry, EC_BadEntry, by show [mg "PricesError"] = _; rw [mg_PricesError] <;> rfl, by rw [if_neg Bool.false_ne_true]; exact ⟨_, rfl, is_PricesError_BadEntry⟩⟩⟩
    · cases h; exact ⟨⟨_, [C_PricesError], mg_NotFree, EC_NotFree, by show [mg "PricesError"] = _; rw [mg_PricesError] <;> rfl, by rw [if_neg Bool.false_ne_true]; exact ⟨_, rfl, is_PricesError_NotFree⟩⟩⟩
    · cases h
  have m_BadEntry : ∀ c b, eBE c = some b → Exm K mg g c (.ref Dc_BadEntry___init__) b := by
    intro c b h
    unfold eBE at h
    split at h
    · cases h; exact ⟨⟨_, mg_BadEntry, em_BadEntry_BadEntry⟩⟩
    · cases h
  have m_BadNumber : ∀ c b, eBN c = some b → Exm K mg g c (.ref Dc_BadNumber___init__) b := by
    intro c b h
    unfold eBN at h
    split at h
    · cases h; exact ⟨⟨_, mg_BadNumber, em_BadNumber_BadNumber⟩⟩
    · cases h
  have m_BadSet : ∀ c b, eBS c = some b → Exm K mg g c (.ref Dc_BadSet___init__) b := by
    intro c b h
    unfold eBS at h
    split at h
    · cases h; exact ⟨⟨_, mg_BadSet, em_BadSet_BadSet⟩⟩
    · cases h; exact ⟨⟨_, mg_NotFree, em_BadSet_NotFree⟩⟩
    · cases h
  have m_NotFree : ∀ c b, eNF c = some b → Exm K mg g c (.ref Dc_NotFree___init__) b := by
    intro c b h
    unfold eNF at h
    split at h
    · cases h; exact ⟨⟨_, mg_NotFree, em_NotFree_NotFree⟩⟩
    · cases h; exact ⟨⟨_, mg_BadSet, em_NotFree_BadSet⟩⟩
    · cases h
  have x_name : ∀ c, tBN c = true → XFld K mg g c 0 := by
    intro c h
    unfold tBN at h
    split at h
    · exact ⟨⟨_, mg_BadNumber, XF_BadNumber, no_BadNumber⟩, sg_inj_name⟩
    · cases h
  have x_place : ∀ c, tPl c = true → XFld K mg g c 1 := by
    intro c h
    unfold tPl at h
    split at h
    · exact ⟨⟨_, mg_BadSet, XF_BadSet, no_BadSet⟩, sg_inj_place⟩
    · exact ⟨⟨_, mg_BadEntry, XF_BadEntry, no_BadEntry⟩, sg_inj_place⟩
    · cases h
  have x_things : ∀ c, tTh c = true → XFld K mg g c 2 := by
    intro c h
    unfold tTh at h
    split at h
    · exact ⟨⟨_, mg_NotFree, XF_NotFree, no_NotFree⟩, sg_inj_things⟩
    · cases h
  have CL_Firsts : Cls K C_Firsts := ⟨pg_Firsts, hd_Firsts, po_Firsts, sa_Firsts⟩
  have CL_Teams : Cls K C_Teams := ⟨pg_Teams, hd_Teams, po_Teams, sa_Teams⟩
  have CL_Works : Cls K C_Works := ⟨pg_Works, hd_Works, po_Works, sa_Works⟩
  have a__things : ∀ c, tRule c = true → Fld K mg g c 4 := by
    intro c h
    unfold tRule at h
    split at h
    · exact ⟨⟨_, mg_Firsts, CL_Firsts, na_Firsts__things⟩, sg_inj__things⟩
    · exact ⟨⟨_, mg_Teams, CL_Teams, na_Teams__things⟩, sg_inj__things⟩
    · exact ⟨⟨_, mg_Works, CL_Works, na_Works__things⟩, sg_inj__things⟩
    · cases h
  have a_classes : ∀ c, tTeams c = true → Fld K mg g c 6 := by
    intro c h
    unfold tTeams at h
    split at h
    · exact ⟨⟨_, mg_Teams, CL_Teams, na_Teams_classes⟩, sg_inj_classes⟩
    · cases h
  have a_days : ∀ c, tWorks c = true → Fld K mg g c 8 := by
    intro c h
    unfold tWorks at h
    split at h
    · exact ⟨⟨_, mg_Works, CL_Works, na_Works_days⟩, sg_inj_days⟩
    · cases h
  have a_number : ∀ c, tFirsts c = true → Fld K mg g c 5 := by
    intro c h
    unfold tFirsts at h
    split at h
    · exact ⟨⟨_, mg_Firsts, CL_Firsts, na_Firsts_number⟩, sg_inj_number⟩
    · cases h
  have a_places : ∀ c, tTeams c = true → Fld K mg g c 7 := by
    intro c h
    unfold tTeams at h
    split at h
    · exact ⟨⟨_, mg_Teams, CL_Teams, na_Teams_places⟩, sg_inj_places⟩
    · cases h
  have a_size : ∀ c, tRule c = true → Fld K mg g c 3 := by
    intro c h
    unfold tRule at h
    split at h
    · exact ⟨⟨_, mg_Firsts, CL_Firsts, na_Firsts_size⟩, sg_inj_size⟩
    · exact ⟨⟨_, mg_Teams, CL_Teams, na_Teams_size⟩, sg_inj_size⟩
    · exact ⟨⟨_, mg_Works, CL_Works, na_Works_size⟩, sg_inj_size⟩
    · cases h
  have F_is_integer := fun_mk (st := st_is_integer) l_is_integer c_is_integer k_is_integer
  have b_is_integer := F_is_integer.binds (ps := ["value"]) fun _ _ _ _ _ _ us hl => match us, hl with | [_], _ => rfl
  have OK_is_integer : FnOk P w K mg base (L2.CX P w) 1 p_is_integer _ _ _ := ok_is_integer (F := F_is_integer) (z_isinstance := z_isinstance) (z_int := z_int) (z_bool := z_bool)
  have mg_is_integer : mg "is_integer" = some (.ref p_is_integer) := PySem.W.mg_of X G n_is_integer
  have f_is_integer : Fn P w K mg base g "is_integer" 1 1 is_integer_m := ⟨⟨_, _, _, mg_is_integer, F_is_integer.kp, b_is_integer, rfl, OK_is_integer⟩, fun rs S h => fnX_len h⟩
  have F_is_count := fun_mk (st := st_is_count) l_is_count c_is_count k_is_count
  have b_is_count := F_is_count.binds (ps := ["value"]) fun _ _ _ _ _ _ us hl => match us, hl with | [_], _ => rfl
  have OK_is_count : FnOk P w K mg base (L2.CX P w) 2 p_is_count _ _ _ := ok_is_count (F := F_is_count) (f_is_integer := f_is_integer)
  have mg_is_count : mg "is_count" = some (.ref p_is_count) := PySem.W.mg_of X G n_is_count
  have f_is_count : Fn P w K mg base g "is_count" 2 1 is_count_m := ⟨⟨_, _, _, mg_is_count, F_is_count.kp, b_is_count, rfl, OK_is_count⟩, fun rs S h => fnX_len h⟩
  have F_is_thing := fun_mk (st := st_is_thing) l_is_thing c_is_thing k_is_thing
  have b_is_thing := F_is_thing.binds (ps := ["size", "value"]) fun _ _ _ _ _ _ us hl => match us, hl with | [_, _], _ => rfl
  have OK_is_thing : FnOk P w K mg base (L2.CX P w) 2 p_is_thing _ _ _ := ok_is_thing (F := F_is_thing) (f_is_integer := f_is_integer)
  have mg_is_thing : mg "is_thing" = some (.ref p_is_thing) := PySem.W.mg_of X G n_is_thing
  have f_is_thing : Fn P w K mg base g "is_thing" 2 2 is_thing_m := ⟨⟨_, _, _, mg_is_thing, F_is_thing.kp, b_is_thing, rfl, OK_is_thing⟩, fun rs S h => fnX_len h⟩
  have F_misplaced := fun_mk (st := st_misplaced) l_misplaced c_misplaced k_misplaced
  have b_misplaced := F_misplaced.binds (ps := ["size", "things"]) fun _ _ _ _ _ _ us hl => match us, hl with | [_, _], _ => rfl
  have OK_misplaced : FnOk P w K mg base (L2.CX P w) 3 p_misplaced _ _ _ := ok_misplaced (F := F_misplaced) (z_enumerate := z_enumerate) (f_is_thing := f_is_thing)
  have mg_misplaced : mg "misplaced" = some (.ref p_misplaced) := PySem.W.mg_of X G n_misplaced
  have f_misplaced : Fn P w K mg base g "misplaced" 3 2 misplaced_m := ⟨⟨_, _, _, mg_misplaced, F_misplaced.kp, b_misplaced, rfl, OK_misplaced⟩, fun rs S h => fnX_len h⟩
  have F_set_of := fun_mk (st := st_set_of) l_set_of c_set_of k_set_of
  have b_set_of := F_set_of.binds (ps := ["size", "things"]) fun _ _ _ _ _ _ us hl => match us, hl with | [_, _], _ => rfl
  have OK_set_of : FnOk P w K mg base (L2.CX P w) 4 p_set_of _ _ _ := ok_set_of (F := F_set_of) (f_misplaced := f_misplaced) (o_BadSet := o_BadSet) (z_tuple := z_tuple)
  have mg_set_of : mg "set_of" = some (.ref p_set_of) := PySem.W.mg_of X G n_set_of
  have f_set_of : Fn P w K mg base g "set_of" 4 2 set_of_m := ⟨⟨_, _, _, mg_set_of, F_set_of.kp, b_set_of, rfl, OK_set_of⟩, fun rs S h => fnX_len h⟩
  have F_Rule___init__ := fun_mk (st := st_Rule___init__) l_Rule___init__ c_Rule___init__ k_Rule___init__
  have b_Rule___init__ := F_Rule___init__.binds (ps := ["self", "size"]) fun _ _ _ _ _ _ us hl => match us, hl with | [_, _], _ => rfl
  have OK_Rule___init__ : FnOk P w K mg base (L2.CX P w) 3 p_Rule___init__ _ _ _ := ok_Rule___init__ (F := F_Rule___init__) (f_is_count := f_is_count) (o_BadNumber := o_BadNumber) (a_size := a_size) (z_tuple := z_tuple) (z_range := z_range) (a__things := a__things)
  have F_Rule__rank := fun_mk (st := st_Rule__rank) l_Rule__rank c_Rule__rank k_Rule__rank
  have b_Rule__rank := F_Rule__rank.binds (ps := ["self", "things"]) fun _ _ _ _ _ _ us hl => match us, hl with | [_, _], _ => rfl
  have OK_Rule__rank : FnOk P w K mg base (L2.CX P w) 1 p_Rule__rank _ _ _ := ok_Rule__rank (F := F_Rule__rank) (z_len := z_len)
  have F_Firsts___init__ : SupD P K mg "__init__" "Firsts.__init__" st_Firsts___init__ p_Firsts___init__ _ cc_Firsts___init__ cda_Firsts___init__ Dc_Firsts___init__ := ⟨⟨_, _, _, _, _, _, _, _, rfl, l_Firsts___init__⟩, c_Firsts___init__, ⟨_, _, _, e_Firsts___init__⟩, ⟨_, _, _, _, _, _, o_Firsts___init__, v_Firsts___init__, w_Firsts___init__⟩, ⟨_, x_Firsts___init__⟩, top_super, z_super, opq⟩
  have b_Firsts___init__ := F_Firsts___init__.binds (ps := ["self", "size", "k"]) fun _ _ _ _ _ us hl => match us, hl with | [_, _, _], _ => rfl
  have s___init___Firsts___init__ : ∀ c, tFirsts c = true → Sup P w K mg base g Dc_Firsts___init__ c "__init__" 3 2 Rule___init___m := by
    intro c h
    rw [dc_Firsts___init__]
    unfold tFirsts at h
    split at h
    · exact ⟨⟨_, _, _, _, mg_Firsts, mr_Firsts___init__, su_Firsts___init__, tp_Firsts___init__, fi_Firsts___init__, b_Rule___init__, rfl, OK_Rule___init__⟩, fun rs S h => fnX_len h⟩
    · cases h
  have OK_Firsts___init__ : FnOk P w K mg base (L2.CX P w) 4 p_Firsts___init__ _ _ _ := ok_Firsts___init__ (F := F_Firsts___init__) (s___init__ := s___init___Firsts___init__) (f_is_count := f_is_count) (o_BadNumber := o_BadNumber) (a_number := a_number)
  have k_Firsts : Mak P w K mg base g 6 4 3 Firsts___init___m := ⟨⟨_, _, _, _, mg_Firsts, ⟨mk_Firsts, i_Firsts___init__, if_Firsts___init__, kc_Firsts⟩, b_Firsts___init__, rfl, OK_Firsts___init__⟩, fun rs S h => fnX_len h⟩
  have F_Firsts__rank : SupD P K mg "_rank" "Firsts._rank" st_Firsts__rank p_Firsts__rank _ cc_Firsts__rank cda_Firsts__rank Dc_Firsts__rank := ⟨⟨_, _, _, _, _, _, _, _, rfl, l_Firsts__rank⟩, c_Firsts__rank, ⟨_, _, _, e_Firsts__rank⟩, ⟨_, _, _, _, _, _, o_Firsts__rank, v_Firsts__rank, w_Firsts__rank⟩, ⟨_, x_Firsts__rank⟩, top_super, z_super, opq⟩
  have b_Firsts__rank := F_Firsts__rank.binds (ps := ["self", "things"]) fun _ _ _ _ _ us hl => match us, hl with | [_, _], _ => rfl
  have s__rank_Firsts__rank : ∀ c, tFirsts c = true → Sup P w K mg base g Dc_Firsts__rank c "_rank" 1 2 Rule__rank_m := by
    intro c h
    rw [dc_Firsts__rank]
    unfold tFirsts at h
    split at h
    · exact ⟨⟨_, _, _, _, mg_Firsts, mr_Firsts__rank, su_Firsts__rank, tp_Firsts__rank, fi_Firsts__rank, b_Rule__rank, rfl, OK_Rule__rank⟩, fun rs S h => fnX_len h⟩
    · cases h
  have OK_Firsts__rank : FnOk P w K mg base (L2.CX P w) 2 p_Firsts__rank _ _ _ := ok_Firsts__rank (F := F_Firsts__rank) (s__rank := s__rank_Firsts__rank) (a_number := a_number) (z_min := z_min)
  have F_Teams___init__ : SupD P K mg "__init__" "Teams.__init__" st_Teams___init__ p_Teams___init__ _ cc_Teams___init__ cda_Teams___init__ Dc_Teams___init__ := ⟨⟨_, _, _, _, _, _, _, _, rfl, l_Teams___init__⟩, c_Teams___init__, ⟨_, _, _, e_Teams___init__⟩, ⟨_, _, _, _, _, _, o_Teams___init__, v_Teams___init__, w_Teams___init__⟩, ⟨_, x_Teams___init__⟩, top_super, z_super, opq⟩
  have b_Teams___init__ := F_Teams___init__.binds (ps := ["self", "classes", "places"]) fun _ _ _ _ _ us hl => match us, hl with | [_, _, _], _ => rfl
  have s___init___Teams___init__ : ∀ c, tTeams c = true → Sup P w K mg base g Dc_Teams___init__ c "__init__" 3 2 Rule___init___m := by
    intro c h
    rw [dc_Teams___init__]
    unfold tTeams at h
    split at h
    · exact ⟨⟨_, _, _, _, mg_Teams, mr_Teams___init__, su_Teams___init__, tp_Teams___init__, fi_Teams___init__, b_Rule___init__, rfl, OK_Rule___init__⟩, fun rs S h => fnX_len h⟩
    · cases h
  have OK_Teams___init__ : FnOk P w K mg base (L2.CX P w) 4 p_Teams___init__ _ _ _ := ok_Teams___init__ (F := F_Teams___init__) (z_enumerate := z_enumerate) (z_len := z_len) (f_is_thing := f_is_thing) (o_BadEntry := o_BadEntry) (f_is_count := f_is_count) (s___init__ := s___init___Teams___init__) (z_tuple := z_tuple) (a_classes := a_classes) (a_places := a_places)
  have k_Teams : Mak P w K mg base g 7 4 3 Teams___init___m := ⟨⟨_, _, _, _, mg_Teams, ⟨mk_Teams, i_Teams___init__, if_Teams___init__, kc_Teams⟩, b_Teams___init__, rfl, OK_Teams___init__⟩, fun rs S h => fnX_len h⟩
  have F_Teams__rank := fun_mk (st := st_Teams__rank) l_Teams__rank c_Teams__rank k_Teams__rank
  have b_Teams__rank := F_Teams__rank.binds (ps := ["self", "things"]) fun _ _ _ _ _ _ us hl => match us, hl with | [_, _], _ => rfl
  have OK_Teams__rank : FnOk P w K mg base (L2.CX P w) 1 p_Teams__rank _ _ _ := ok_Teams__rank (F := F_Teams__rank) (a_classes := a_classes) (a_places := a_places) (z_enumerate := z_enumerate) (z_min := z_min) (z_sum := z_sum)
  have F_Works___init__ : SupD P K mg "__init__" "Works.__init__" st_Works___init__ p_Works___init__ _ cc_Works___init__ cda_Works___init__ Dc_Works___init__ := ⟨⟨_, _, _, _, _, _, _, _, rfl, l_Works___init__⟩, c_Works___init__, ⟨_, _, _, e_Works___init__⟩, ⟨_, _, _, _, _, _, o_Works___init__, v_Works___init__, w_Works___init__⟩, ⟨_, x_Works___init__⟩, top_super, z_super, opq⟩
  have b_Works___init__ := F_Works___init__.binds (ps := ["self", "days"]) fun _ _ _ _ _ us hl => match us, hl with | [_, _], _ => rfl
  have s___init___Works___init__ : ∀ c, tWorks c = true → Sup P w K mg base g Dc_Works___init__ c "__init__" 3 2 Rule___init___m := by
    intro c h
    rw [dc_Works___init__]
    unfold tWorks at h
    split at h
    · exact ⟨⟨_, _, _, _, mg_Works, mr_Works___init__, su_Works___init__, tp_Works___init__, fi_Works___init__, b_Rule___init__, rfl, OK_Rule___init__⟩, fun rs S h => fnX_len h⟩
    · cases h
  have OK_Works___init__ : FnOk P w K mg base (L2.CX P w) 4 p_Works___init__ _ _ _ := ok_Works___init__ (F := F_Works___init__) (z_enumerate := z_enumerate) (f_is_count := f_is_count) (o_BadEntry := o_BadEntry) (z_len := z_len) (s___init__ := s___init___Works___init__) (z_tuple := z_tuple) (a_days := a_days)
  have k_Works : Mak P w K mg base g 8 4 2 Works___init___m := ⟨⟨_, _, _, _, mg_Works, ⟨mk_Works, i_Works___init__, if_Works___init__, kc_Works⟩, b_Works___init__, rfl, OK_Works___init__⟩, fun rs S h => fnX_len h⟩
  have F_Works__rank := fun_mk (st := st_Works__rank) l_Works__rank c_Works__rank k_Works__rank
  have b_Works__rank := F_Works__rank.binds (ps := ["self", "things"]) fun _ _ _ _ _ _ us hl => match us, hl with | [_, _], _ => rfl
  have OK_Works__rank : FnOk P w K mg base (L2.CX P w) 1 p_Works__rank _ _ _ := ok_Works__rank (F := F_Works__rank) (a_days := a_days) (z_sorted := z_sorted)
  have d__rank : ∀ c m, disp__rank c = some m → Mth P w K mg base g c "_rank" 2 2 m := by
    intro c m h
    unfold disp__rank at h
    split at h
    · cases h; exact ⟨⟨_, _, _, _, mg_Firsts, CL_Firsts, ⟨me_Firsts__rank, mi_Firsts__rank, mp_Firsts__rank⟩, b_Firsts__rank, rfl, OK_Firsts__rank.mono (by decide)⟩, fun rs S h => fnX_len h⟩
    · cases h; exact ⟨⟨_, _, _, _, mg_Teams, CL_Teams, ⟨me_Teams__rank, mi_Teams__rank, mp_Teams__rank⟩, b_Teams__rank, rfl, OK_Teams__rank.mono (by decide)⟩, fun rs S h => fnX_len h⟩
    · cases h; exact ⟨⟨_, _, _, _, mg_Works, CL_Works, ⟨me_Works__rank, mi_Works__rank, mp_Works__rank⟩, b_Works__rank, rfl, OK_Works__rank.mono (by decide)⟩, fun rs S h => fnX_len h⟩
    · cases h
  have F_Rule__free := fun_mk (st := st_Rule__free) l_Rule__free c_Rule__free k_Rule__free
  have b_Rule__free := F_Rule__free.binds (ps := ["self", "things"]) fun _ _ _ _ _ _ us hl => match us, hl with | [_, _], _ => rfl
  have OK_Rule__free : FnOk P w K mg base (L2.CX P w) 3 p_Rule__free _ _ _ := ok_Rule__free (F := F_Rule__free) (d__rank := d__rank) (z_len := z_len)
  have d__free : ∀ c m, disp__free c = some m → Mth P w K mg base g c "_free" 3 2 m := by
    intro c m h
    unfold disp__free at h
    split at h
    · cases h; exact ⟨⟨_, _, _, _, mg_Firsts, CL_Firsts, ⟨me_Firsts__free, mi_Firsts__free, mp_Firsts__free⟩, b_Rule__free, rfl, OK_Rule__free.mono (by decide)⟩, fun rs S h => fnX_len h⟩
    · cases h; exact ⟨⟨_, _, _, _, mg_Teams, CL_Teams, ⟨me_Teams__free, mi_Teams__free, mp_Teams__free⟩, b_Rule__free, rfl, OK_Rule__free.mono (by decide)⟩, fun rs S h => fnX_len h⟩
    · cases h; exact ⟨⟨_, _, _, _, mg_Works, CL_Works, ⟨me_Works__free, mi_Works__free, mp_Works__free⟩, b_Rule__free, rfl, OK_Rule__free.mono (by decide)⟩, fun rs S h => fnX_len h⟩
    · cases h
  have F_Rule_is_free := fun_mk (st := st_Rule_is_free) l_Rule_is_free c_Rule_is_free k_Rule_is_free
  have b_Rule_is_free := F_Rule_is_free.binds (ps := ["self", "things"]) fun _ _ _ _ _ _ us hl => match us, hl with | [_, _], _ => rfl
  have OK_Rule_is_free : FnOk P w K mg base (L2.CX P w) 5 p_Rule_is_free _ _ _ := ok_Rule_is_free (F := F_Rule_is_free) (a_size := a_size) (f_set_of := f_set_of) (d__free := d__free)
  have d_is_free : ∀ c m, disp_is_free c = some m → Mth P w K mg base g c "is_free" 5 2 m := by
    intro c m h
    unfold disp_is_free at h
    split at h
    · cases h; exact ⟨⟨_, _, _, _, mg_Firsts, CL_Firsts, ⟨me_Firsts_is_free, mi_Firsts_is_free, mp_Firsts_is_free⟩, b_Rule_is_free, rfl, OK_Rule_is_free.mono (by decide)⟩, fun rs S h => fnX_len h⟩
    · cases h; exact ⟨⟨_, _, _, _, mg_Teams, CL_Teams, ⟨me_Teams_is_free, mi_Teams_is_free, mp_Teams_is_free⟩, b_Rule_is_free, rfl, OK_Rule_is_free.mono (by decide)⟩, fun rs S h => fnX_len h⟩
    · cases h; exact ⟨⟨_, _, _, _, mg_Works, CL_Works, ⟨me_Works_is_free, mi_Works_is_free, mp_Works_is_free⟩, b_Rule_is_free, rfl, OK_Rule_is_free.mono (by decide)⟩, fun rs S h => fnX_len h⟩
    · cases h
  have F_Rule_rank := fun_mk (st := st_Rule_rank) l_Rule_rank c_Rule_rank k_Rule_rank
  have b_Rule_rank := F_Rule_rank.binds (ps := ["self", "things"]) fun _ _ _ _ _ _ us hl => match us, hl with | [_, _], _ => rfl
  have OK_Rule_rank : FnOk P w K mg base (L2.CX P w) 5 p_Rule_rank _ _ _ := ok_Rule_rank (F := F_Rule_rank) (a_size := a_size) (f_set_of := f_set_of) (d__rank := d__rank)
  have d_rank : ∀ c m, disp_rank c = some m → Mth P w K mg base g c "rank" 5 2 m := by
    intro c m h
    unfold disp_rank at h
    split at h
    · cases h; exact ⟨⟨_, _, _, _, mg_Firsts, CL_Firsts, ⟨me_Firsts_rank, mi_Firsts_rank, mp_Firsts_rank⟩, b_Rule_rank, rfl, OK_Rule_rank.mono (by decide)⟩, fun rs S h => fnX_len h⟩
    · cases h; exact ⟨⟨_, _, _, _, mg_Teams, CL_Teams, ⟨me_Teams_rank, mi_Teams_rank, mp_Teams_rank⟩, b_Rule_rank, rfl, OK_Rule_rank.mono (by decide)⟩, fun rs S h => fnX_len h⟩
    · cases h; exact ⟨⟨_, _, _, _, mg_Works, CL_Works, ⟨me_Works_rank, mi_Works_rank, mp_Works_rank⟩, b_Rule_rank, rfl, OK_Rule_rank.mono (by decide)⟩, fun rs S h => fnX_len h⟩
    · cases h
  have F_timetable := fun_mk (st := st_timetable) l_timetable c_timetable k_timetable
  have b_timetable := F_timetable.binds (ps := ["works", "things"]) fun _ _ _ _ _ _ us hl => match us, hl with | [_, _], _ => rfl
  have OK_timetable : FnOk P w K mg base (L2.CX P w) 5 p_timetable _ _ _ := ok_timetable (F := F_timetable) (a_size := a_size) (f_set_of := f_set_of) (d__free := d__free) (o_NotFree := o_NotFree) (a_days := a_days) (z_sorted := z_sorted)
  have mg_timetable : mg "timetable" = some (.ref p_timetable) := PySem.W.mg_of X G n_timetable
  have f_timetable : Fn P w K mg base g "timetable" 5 2 timetable_m := ⟨⟨_, _, _, mg_timetable, F_timetable.kp, b_timetable, rfl, OK_timetable⟩, fun rs S h => fnX_len h⟩
  have F__law_pool := fun_mk (st := st__law_pool) l__law_pool c__law_pool k__law_pool
  have b__law_pool := F__law_pool.binds (ps := ["_law_script"]) fun _ _ _ _ _ _ us hl => match us, hl with | [_], _ => rfl
  have OK__law_pool : FnOk P w K mg base (L2.CX P w) 1 p__law_pool _ _ _ := ok__law_pool (F := F__law_pool) (z_int := z_int) (z_abs := z_abs)
  have mg__law_pool : mg "_law_pool" = some (.ref p__law_pool) := PySem.W.mg_of X G n__law_pool
  have f__law_pool : Fn P w K mg base g "_law_pool" 1 1 _law_pool_m := ⟨⟨_, _, _, mg__law_pool, F__law_pool.kp, b__law_pool, rfl, OK__law_pool⟩, fun rs S h => fnX_len h⟩
  have F__law_mixed := fun_mk (st := st__law_mixed) l__law_mixed c__law_mixed k__law_mixed
  have b__law_mixed := F__law_mixed.binds (ps := ["_law_cell", "_law_place"]) fun _ _ _ _ _ _ us hl => match us, hl with | [_, _], _ => rfl
  have OK__law_mixed : FnOk P w K mg base (L2.CX P w) 1 p__law_mixed _ _ _ := ok__law_mixed (F := F__law_mixed) (z_int := z_int)
  have mg__law_mixed : mg "_law_mixed" = some (.ref p__law_mixed) := PySem.W.mg_of X G n__law_mixed
  have f__law_mixed : Fn P w K mg base g "_law_mixed" 1 2 _law_mixed_m := ⟨⟨_, _, _, mg__law_mixed, F__law_mixed.kp, b__law_mixed, rfl, OK__law_mixed⟩, fun rs S h => fnX_len h⟩
  have F__law_draw := fun_mk (st := st__law_draw) l__law_draw c__law_draw k__law_draw
  have b__law_draw := F__law_draw.binds (ps := ["_law_pool_here", "_law_many"]) fun _ _ _ _ _ _ us hl => match us, hl with | [_, _], _ => rfl
  have OK__law_draw : FnOk P w K mg base (L2.CX P w) 2 p__law_draw _ _ _ := ok__law_draw (F := F__law_draw) (z_len := z_len) (z_abs := z_abs) (f__law_mixed := f__law_mixed) (z_int := z_int)
  have mg__law_draw : mg "_law_draw" = some (.ref p__law_draw) := PySem.W.mg_of X G n__law_draw
  have f__law_draw : Fn P w K mg base g "_law_draw" 2 2 _law_draw_m := ⟨⟨_, _, _, mg__law_draw, F__law_draw.kp, b__law_draw, rfl, OK__law_draw⟩, fun rs S h => fnX_len h⟩
  have F__law_digits := fun_mk (st := st__law_digits) l__law_digits c__law_digits k__law_digits
  have b__law_digits := F__law_digits.binds (ps := ["_law_number", "_law_base", "_law_many"]) fun _ _ _ _ _ _ us hl => match us, hl with | [_, _, _], _ => rfl
  have OK__law_digits : FnOk P w K mg base (L2.CX P w) 1 p__law_digits _ _ _ := ok__law_digits (F := F__law_digits) (z_range := z_range) (z_int := z_int) (z_tuple := z_tuple)
  have mg__law_digits : mg "_law_digits" = some (.ref p__law_digits) := PySem.W.mg_of X G n__law_digits
  have f__law_digits : Fn P w K mg base g "_law_digits" 1 3 _law_digits_m := ⟨⟨_, _, _, mg__law_digits, F__law_digits.kp, b__law_digits, rfl, OK__law_digits⟩, fun rs S h => fnX_len h⟩
  have F__law_firsts_hold := fun_mk (st := st__law_firsts_hold) l__law_firsts_hold c__law_firsts_hold k__law_firsts_hold
  have b__law_firsts_hold := F__law_firsts_hold.binds (ps := ["_law_pool_here", "_law_size", "_law_some"]) fun _ _ _ _ _ _ us hl => match us, hl with | [_, _, _], _ => rfl
  have OK__law_firsts_hold : FnOk P w K mg base (L2.CX P w) 6 p__law_firsts_hold _ _ _ := ok__law_firsts_hold (F := F__law_firsts_hold) (f__law_draw := f__law_draw) (k_Firsts := k_Firsts) (a_number := a_number) (a_size := a_size) (z_list := z_list) (d_rank := d_rank) (z_len := z_len) (z_min := z_min) (d_is_free := d_is_free) (x_name := x_name) (z_isinstance := z_isinstance) (i_PricesError := i_PricesError) (g_PricesError := mg_PricesError) (i_BadEntry := i_BadEntry) (g_BadEntry := mg_BadEntry) (m_BadNumber := m_BadNumber) (g_BadNumber := mg_BadNumber)
  have mg__law_firsts_hold : mg "_law_firsts_hold" = some (.ref p__law_firsts_hold) := PySem.W.mg_of X G n__law_firsts_hold
  have f__law_firsts_hold : Fn P w K mg base g "_law_firsts_hold" 6 3 _law_firsts_hold_m := ⟨⟨_, _, _, mg__law_firsts_hold, F__law_firsts_hold.kp, b__law_firsts_hold, rfl, OK__law_firsts_hold⟩, fun rs S h => fnX_len h⟩
  have F__law_teams_hold := fun_mk (st := st__law_teams_hold) l__law_teams_hold c__law_teams_hold k__law_teams_hold
  have b__law_teams_hold := F__law_teams_hold.binds (ps := ["_law_pool_here", "_law_size", "_law_some"]) fun _ _ _ _ _ _ us hl => match us, hl with | [_, _, _], _ => rfl
  have OK__law_teams_hold : FnOk P w K mg base (L2.CX P w) 6 p__law_teams_hold _ _ _ := ok__law_teams_hold (F := F__law_teams_hold) (f__law_draw := f__law_draw) (z_range := z_range) (z_len := z_len) (z_list := z_list) (k_Teams := k_Teams) (a_classes := a_classes) (z_tuple := z_tuple) (a_places := a_places) (a_size := a_size) (d_rank := d_rank) (z_min := z_min) (z_sum := z_sum) (d_is_free := d_is_free) (z_all := z_all) (z_max := z_max) (x_place := x_place) (z_isinstance := z_isinstance) (i_PricesError := i_PricesError) (g_PricesError := mg_PricesError) (z_int := z_int) (z_bool := z_bool) (m_BadEntry := m_BadEntry) (g_BadEntry := mg_BadEntry)
  have mg__law_teams_hold : mg "_law_teams_hold" = some (.ref p__law_teams_hold) := PySem.W.mg_of X G n__law_teams_hold
  have f__law_teams_hold : Fn P w K mg base g "_law_teams_hold" 6 3 _law_teams_hold_m := ⟨⟨_, _, _, mg__law_teams_hold, F__law_teams_hold.kp, b__law_teams_hold, rfl, OK__law_teams_hold⟩, fun rs S h => fnX_len h⟩
  have F__law_timetable_holds := fun_mk (st := st__law_timetable_holds) l__law_timetable_holds c__law_timetable_holds k__law_timetable_holds
  have b__law_timetable_holds := F__law_timetable_holds.binds (ps := ["_law_made", "_law_days", "_law_things"]) fun _ _ _ _ _ _ us hl => match us, hl with | [_, _, _], _ => rfl
  have OK__law_timetable_holds : FnOk P w K mg base (L2.CX P w) 6 p__law_timetable_holds _ _ _ := ok__law_timetable_holds (F := F__law_timetable_holds) (z_len := z_len) (z_range := z_range) (z_all := z_all) (z_list := z_list) (f_timetable := f_timetable) (x_things := x_things) (z_isinstance := z_isinstance) (i_PricesError := i_PricesError) (g_PricesError := mg_PricesError) (i_BadEntry_BadSet_NotALot := i_BadEntry_BadSet_NotALot) (g_BadEntry := mg_BadEntry) (g_BadSet := mg_BadSet) (g_NotALot := mg_NotALot) (m_NotFree := m_NotFree) (g_NotFree := mg_NotFree) (z_tuple := z_tuple) (z_sorted := z_sorted)
  have mg__law_timetable_holds : mg "_law_timetable_holds" = some (.ref p__law_timetable_holds) := PySem.W.mg_of X G n__law_timetable_holds
  have f__law_timetable_holds : Fn P w K mg base g "_law_timetable_holds" 6 3 _law_timetable_holds_m := ⟨⟨_, _, _, mg__law_timetable_holds, F__law_timetable_holds.kp, b__law_timetable_holds, rfl, OK__law_timetable_holds⟩, fun rs S h => fnX_len h⟩
  have F__law_no_set_place := fun_mk (st := st__law_no_set_place) l__law_no_set_place c__law_no_set_place k__law_no_set_place
  have b__law_no_set_place := F__law_no_set_place.binds (ps := ["_law_made", "_law_row"]) fun _ _ _ _ _ _ us hl => match us, hl with | [_, _], _ => rfl
  have OK__law_no_set_place : FnOk P w K mg base (L2.CX P w) 6 p__law_no_set_place _ _ _ := ok__law_no_set_place (F := F__law_no_set_place) (f_timetable := f_timetable) (x_place := x_place) (m_BadSet := m_BadSet) (g_BadSet := mg_BadSet)
  have mg__law_no_set_place : mg "_law_no_set_place" = some (.ref p__law_no_set_place) := PySem.W.mg_of X G n__law_no_set_place
  have f__law_no_set_place : Fn P w K mg base g "_law_no_set_place" 6 2 _law_no_set_place_m := ⟨⟨_, _, _, mg__law_no_set_place, F__law_no_set_place.kp, b__law_no_set_place, rfl, OK__law_no_set_place⟩, fun rs S h => fnX_len h⟩
  have F__law_works_hold := fun_mk (st := st__law_works_hold) l__law_works_hold c__law_works_hold k__law_works_hold
  have b__law_works_hold := F__law_works_hold.binds (ps := ["_law_pool_here", "_law_size", "_law_some"]) fun _ _ _ _ _ _ us hl => match us, hl with | [_, _, _], _ => rfl
  have OK__law_works_hold : FnOk P w K mg base (L2.CX P w) 7 p__law_works_hold _ _ _ := ok__law_works_hold (F := F__law_works_hold) (f__law_draw := f__law_draw) (z_range := z_range) (z_list := z_list) (k_Works := k_Works) (a_days := a_days) (z_tuple := z_tuple) (a_size := a_size) (z_len := z_len) (z_min := z_min) (d_rank := d_rank) (z_isinstance := z_isinstance) (z_int := z_int) (z_bool := z_bool) (d_is_free := d_is_free) (z_all := z_all) (z_sorted := z_sorted) (f__law_timetable_holds := f__law_timetable_holds) (f__law_no_set_place := f__law_no_set_place) (x_place := x_place) (i_PricesError := i_PricesError) (g_PricesError := mg_PricesError) (m_BadEntry := m_BadEntry) (g_BadEntry := mg_BadEntry)
  have mg__law_works_hold : mg "_law_works_hold" = some (.ref p__law_works_hold) := PySem.W.mg_of X G n__law_works_hold
  have f__law_works_hold : Fn P w K mg base g "_law_works_hold" 7 3 _law_works_hold_m := ⟨⟨_, _, _, mg__law_works_hold, F__law_works_hold.kp, b__law_works_hold, rfl, OK__law_works_hold⟩, fun rs S h => fnX_len h⟩
  have F_law := fun_mk (st := st_law) l_law c_law k_law
  have b_law := F_law.binds (ps := ["_law_script"]) fun _ _ _ _ _ _ us hl => match us, hl with | [_], _ => rfl
  have OK_law : FnOk P w K mg base (L2.CX P w) 8 fa _ _ _ := ok_law (F := F_law) (f__law_pool := f__law_pool) (f__law_draw := f__law_draw) (f__law_digits := f__law_digits) (z_range := z_range) (z_tuple := z_tuple) (f__law_firsts_hold := f__law_firsts_hold) (f__law_teams_hold := f__law_teams_hold) (f__law_works_hold := f__law_works_hold)
  have mg_law : mg "law" = some (.ref fa) := PySem.W.mg_of X G n_law
  exact OK_law
end K03

namespace K03
open PySem L2 Mi
variable {S : Sto}
theorem kii : kitB "int" "int" = some true := by decide +kernel
theorem kib : kitB "int" "bool" = some false := by decide +kernel
theorem kni : kitB "NoneType" "int" = some false := by decide +kernel
theorem ksi : kitB "str" "int" = some false := by decide +kernel
theorem isi_int {i : Int} : mIsi "int" (.v (.int i)) S = .ok (.v (.bl true)) S := by unfold mIsi R.ty D.ty; simp [kii]
theorem isb_int {i : Int} : mIsi "bool" (.v (.int i)) S = .ok (.v (.bl false)) S := by unfold mIsi R.ty D.ty; simp [kib]
theorem isi_non : mIsi "int" (.v .non) S = .ok (.v (.bl false)) S := by unfold mIsi R.ty D.ty; simp [kni]
theorem isi_str {x : Str} : mIsi "int" (.v (.str x)) S = .ok (.v (.bl false)) S := by unfold mIsi R.ty D.ty; simp [ksi]
/-- an int, None, or a text -/
def odd : D → Bool
  | .non => true
  | .str _ => true
  | _ => false
theorem is_integer_int {i : Int} : is_integer_m [.v (.int i)] S = .ok (.v (.bl true)) S := by
  unfold is_integer_m
  rw [fnM_ap, if_pos (by rfl)]
  unfold is_integer_b
  simp [isi_int, isb_int]
theorem is_integer_odd {d : D} (h : odd d = true) : is_integer_m [.v d] S = .ok (.v (.bl false)) S := by
  unfold is_integer_m
  rw [fnM_ap, if_pos (by rfl)]
  unfold is_integer_b
  cases d with
  | non => simp [isi_non]
  | str x => simp [isi_str]
  | _ => cases h
theorem is_count_int {i : Int} : is_count_m [.v (.int i)] S = .ok (.v (.bl (decide (0 ≤ i)))) S := by
  unfold is_count_m
  rw [fnM_ap, if_pos (by rfl)]
  unfold is_count_b
  simp [is_integer_int]
theorem is_count_odd {d : D} (h : odd d = true) : is_count_m [.v d] S = .ok (.v (.bl false)) S := by
  unfold is_count_m
  rw [fnM_ap, if_pos (by rfl)]
  unfold is_count_b
  simp [is_integer_odd h]
theorem is_thing_int {n i : Int} : is_thing_m [.v (.int n), .v (.int i)] S = .ok (.v (.bl (decide (0 ≤ i ∧ i < n)))) S := by
  unfold is_thing_m
  rw [fnM_ap, if_pos (by rfl)]
  unfold is_thing_b
  by_cases h : 0 ≤ i <;> simp [is_integer_int, h]
theorem is_thing_odd {n : Int} {d : D} (h : odd d = true) : is_thing_m [.v (.int n), .v d] S = .ok (.v (.bl false)) S := by
  unfold is_thing_m
  rw [fnM_ap, if_pos (by rfl)]
  unfold is_thing_b
  simp [is_integer_odd h]
end K03

namespace K03
open PySem Mi
variable {S : Sto}
/-! ### loops and comprehensions -/
theorem forGo_nil {tg : TgM} {body : SM} {gd : Gd} {env : Mi.Env} (hg : GdOk gd S) : forGo tg body gd [] env S = .ok (.nx env) S := by
  unfold forGo
  rw [if_pos hg]
theorem forGo_cons {tg : TgM} {body : SM} {gd : Gd} {env env1 : Mi.Env} {d : D} {ds : List D} (hg : GdOk gd S) (ht : tg d env = some env1) : forGo tg body gd (d :: ds) env S = match body env1 S with
    | .ok (.nx env2) S2 => forGo tg body gd ds env2 S2
    | .ok (.ct env2) S2 => forGo tg body gd ds env2 S2
    | .ok (.bk env2) S2 => .ok (.nx env2) S2
    | .ok (.rt r) S2 => .ok (.rt r) S2
    | .exc c ks es env2 S2 => .exc c ks es env2 S2
    | .bad => .bad := by
  rw [forGo, if_pos hg]
  simp only [ht]
  all_goals
    generalize body env1 S = z
    cases z with
    | ok f s => cases f <;> rfl
    | exc c ks ds e s => rfl
    | bad => rfl
theorem lc_pure {α : Type} {tg : TgM} {tt : TM} {fe : EM} {gd : Gd} {env0 : Mi.Env} (emb : α → D) (env1 : α → Mi.Env) (p : α → Bool) (f : α → D) (hg : GdOk gd S) : ∀ xs : List α,
    (∀ x ∈ xs, tg (emb x) env0 = some (env1 x) ∧ tt (env1 x) S = .ok (p x) S ∧ (p x = true → fe (env1 x) S = .ok (.v (f x)) S)) → lcGo tg tt fe gd env0 (xs.map emb) S = .ok ((xs.filter p).map f) S
  | [], _ => by
    rw [List.map_nil, lcGo, if_pos hg]
    rfl
  | x :: xs, h => by
    obtain ⟨h1, h2, h3⟩ := h x List.mem_cons_self
    have ih := lc_pure emb env1 p f hg xs fun y hy => h y (List.mem_cons_of_mem _ hy)
    rw [List.map_cons, lcGo, if_pos hg]
    simp only [h1, h2]
    cases hp : p x with
    | true =>
      simp only [h3 hp, ih]
      rw [List.filter_cons, hp, if_pos rfl, List.map_cons]
    | false =>
      simp only [ih]
      rw [List.filter_cons, hp, if_neg Bool.false_ne_true]
theorem lc_run {α : Type} {tg : TgM} {fe : EM} {env0 : Mi.Env} (emb : α → D) (Inv : Sto → Prop) (Pd : D → Prop) : ∀ (xs : List α) (S : Sto), Inv S →
    (∀ x ∈ xs, ∃ env1, tg (emb x) env0 = some env1 ∧ ∀ S, Inv S → ∃ y S', fe env1 S = .ok (.v y) S' ∧ Pd y ∧ Inv S') →
    ∃ ys S', lcGo tg tYesM fe none env0 (xs.map emb) S = .ok ys S' ∧ ys.length = xs.length ∧ (∀ y ∈ ys, Pd y) ∧ Inv S'
  | [], S, hS, _ => ⟨[], S, by rw [List.map_nil, lcGo, if_pos (show GdOk none _ from trivial)], rfl, fun y hy => (by cases hy), hS⟩
  | x :: xs, S, hS, h => by
    obtain ⟨env1, h1, h2⟩ := h x List.mem_cons_self
    obtain ⟨y, S1, h3, h4, h5⟩ := h2 S hS
    obtain ⟨ys, S2, e, el, ep, ei⟩ := lc_run emb Inv Pd xs S1 h5 fun y hy => h y (List.mem_cons_of_mem _ hy)
    refine ⟨y :: ys, S2, ?_, by rw [List.length_cons, List.length_cons, el], fun z hz => ?_, ei⟩
    · rw [List.map_cons, lcGo, if_pos (show GdOk none _ from trivial)]
      simp only [h1, tYesM, h3, e]
    · rcases List.mem_cons.mp hz with rfl | hz
      · exact h4
      · exact ep z hz
@[simp] theorem tgName_ap {i : Nat} {d : D} {env : Mi.Env} : tgName i d env = some (env.set i (some (.v d))) := nr rfl
@[simp] theorem tgTup2_ap {i j : Nat} {d e : D} {env : Mi.Env} : tgTup [tgName i, tgName j] (.tup [d, e]) env = some ((env.set i (some (.v d))).set j (some (.v e))) := nr rfl
/-! ### sets of things -/
/-- an int, None or a text -/
def fine : D → Bool
  | .int _ => true
  | d => odd d
def SeqR (r : R) (S : Sto) (ds : List D) : Prop := r = .v (.tup ds) ∨ r = .v (.lst ds) ∨ ∃ k, r = .l k ∧ S[k]? = some (.lst ds)
theorem SeqR.src {r : R} {ds : List D} (h : SeqR r S ds) : ∃ gd, srcOf r S = some (ds, gd) ∧ GdOk gd S := by
  rcases h with rfl | rfl | ⟨k, rfl, e⟩
  · exact ⟨none, rfl, trivial⟩
  · exact ⟨none, rfl, trivial⟩
  · refine ⟨some (k, ds), ?_, e⟩
    unfold srcOf
    simp [e]
theorem SeqR.tup {r : R} {ds : List D} (h : SeqR r S ds) : mTuple [r] S = .ok (.v (.tup ds)) S := by
  rcases h with rfl | rfl | ⟨k, rfl, e⟩
  · rfl
  · rfl
  · unfold mTuple R.lsq
    simp [e]
theorem SeqR.seq {r : R} {ds : List D} (h : SeqR r S ds) : r.seq S = some ds := by
  rcases h with rfl | rfl | ⟨k, rfl, e⟩
  · rfl
  · rfl
  · unfold R.seq
    simp [e]
theorem SeqR.len {r : R} {ds : List D} (h : SeqR r S ds) : mLen [r] S = .ok (.v (.int ds.length)) S := by
  unfold mLen
  simp [h.seq]
theorem iEnum_ap {ar : AM} {env : Mi.Env} {r : R} {ds : List D} {gd : Gd} (h : ar env S = .ok [r] S) (hs : srcOf r S = some (ds, gd)) : iEnum ar env S = .ok (enumD 0 ds, gd) S := by
  unfold iEnum
  rw [h]
  simp [hs]
/-- the first entry that does not continue a set -/
def misF (n : Int) : Int → Nat → List D → Option Nat
  | _, _, [] => none
  | b, k, .int i :: ds => if 0 ≤ i ∧ i < n ∧ b < i then misF n i (k + 1) ds else some k
  | _, k, _ :: _ => some k
theorem mis_go {n : Int} {r : R} {gd : Gd} (hg : GdOk gd S) : ∀ (ds : List D) (b : Int) (k : Nat) (x3 x4 : Option R), ds.all fine = true →
    (misF n b k ds = none → ∃ env', forGo (tgTup [tgName 3, tgName 4]) misplaced_l1 gd (enumD k ds) [some (.v (.int n)), some r, some (.v (.int b)), x3, x4] S = .ok (.nx env') S) ∧
    (∀ p, misF n b k ds = some p → forGo (tgTup [tgName 3, tgName 4]) misplaced_l1 gd (enumD k ds) [some (.v (.int n)), some r, some (.v (.int b)), x3, x4] S = .ok (.rt (.v (.int p))) S)
  | [], b, k, x3, x4, _ => ⟨fun _ => ⟨_, forGo_nil hg⟩, fun p h => (by cases h)⟩
  | d :: ds, b, k, x3, x4, hf => by
    simp only [List.all_cons, Bool.and_eq_true] at hf
    obtain ⟨hd, ht⟩ := hf
    rw [enumD, forGo_cons hg tgTup2_ap]
    have other : odd d = true → misplaced_l1 [some (.v (.int n)), some r, some (.v (.int b)), some (.v (.int k)), some (.v d)] S = .ok (.rt (.v (.int k))) S := fun ho => by
      unfold misplaced_l1
      simp [is_thing_odd ho]
    have hset : ((([some (.v (.int n)), some r, some (.v (.int b)), x3, x4] : Mi.Env).set 3 (some (.v (.int k)))).set 4 (some (.v d))) = [some (.v (.int n)), some r, some (.v (.int b)), some (.v (.int k)), some (.v d)] := rfl
    rw [hset]
    cases d with
    | int i =>
      by_cases h : 0 ≤ i ∧ i < n ∧ b < i
      · have hb : misplaced_l1 [some (.v (.int n)), some r, some (.v (.int b)), some (.v (.int k)), some (.v (.int i))] S = .ok (.nx [some (.v (.int n)), some r, some (.v (.int i)), some (.v (.int k)), some (.v (.int i))]) S := by
          unfold misplaced_l1
          have h1 : ¬ i ≤ b := by omega
          simp [is_thing_int, h.1, h.2.1, h1]
        rw [hb]
        have e : misF n b k (.int i :: ds) = misF n i (k + 1) ds := by rw [misF, if_pos h]
        rw [e]
        exact mis_go hg ds i (k + 1) _ _ ht
      · have hb : misplaced_l1 [some (.v (.int n)), some r, some (.v (.int b)), some (.v (.int k)), some (.v (.int i))] S = .ok (.rt (.v (.int k))) S := by
          unfold misplaced_l1
          by_cases h1 : 0 ≤ i ∧ i < n
          · have h2 : i ≤ b := by omega
            simp [is_thing_int, h1.1, h1.2, h2]
          · simp [is_thing_int, h1]
        rw [hb]
        have e : misF n b k (.int i :: ds) = some k := by rw [misF, if_neg h]
        rw [e]
        exact ⟨fun z => (by cases z), fun p z => (by cases z; rfl)⟩
    | non => rw [other rfl]; exact ⟨fun z => (by cases z), fun p z => (by cases z; rfl)⟩
    | str x => rw [other rfl]; exact ⟨fun z => (by cases z), fun p z => (by cases z; rfl)⟩
    | bl x => cases hd
    | tup x => cases hd
    | lst x => cases hd
    | frl x => cases hd
    | obj x y z => cases hd
theorem misplaced_ok {n : Int} {r : R} {ds : List D} (h : SeqR r S ds) (hf : ds.all fine = true) : misplaced_m [.v (.int n), r] S = .ok (.v (match misF n (-1) 0 ds with | none => .non | some p => .int p)) S := by
  obtain ⟨gd, hs, hg⟩ := h.src
  unfold misplaced_m
  rw [fnM_ap, if_pos (by rfl)]
  unfold misplaced_b
  have hi : iEnum (aCons (eVar 1) aNil) [some (.v (.int n)), some r, some (.v (.int (-1))), none, none] S = .ok (enumD 0 ds, gd) S := iEnum_ap (by simp) hs
  have := mis_go (n := n) (r := r) hg ds (-1) 0 none none hf
  cases hm : misF n (-1) 0 ds with
  | none =>
    obtain ⟨env', e⟩ := this.1 hm
    simp [hi, e]
  | some p =>
    have e := this.2 p hm
    simp [hi, e]
theorem set_of_ok {n : Int} {r : R} {ds : List D} (h : SeqR r S ds) (hf : ds.all fine = true) (hm : misF n (-1) 0 ds = none) : set_of_m [.v (.int n), r] S = .ok (.v (.tup ds)) S := by
  unfold set_of_m
  rw [fnM_ap, if_pos (by rfl)]
  unfold set_of_b
  simp [misplaced_ok h hf, hm, cmIsNot, h.tup]
theorem set_of_bad {n : Int} {r : R} {ds : List D} {p : Nat} (h : SeqR r S ds) (hf : ds.all fine = true) (hm : misF n (-1) 0 ds = some p) : set_of_m [.v (.int n), r] S = .exc 1 [1] [.int p] S := by
  unfold set_of_m
  rw [fnM_ap, if_pos (by rfl)]
  unfold set_of_b
  simp [misplaced_ok h hf, hm, cmIsNot]
end K03

namespace K03
open PySem Mi
variable {S : Sto}
/-! ### comparisons -/
theorem pyL_ints : ∀ xs : List Int, D.pyL (xs.map D.int) = xs.map PyData.int
  | [] => by rw [List.map_nil, D.pyL]; rfl
  | x :: xs => by rw [List.map_cons, D.pyL, pyL_ints xs, D.py]; rfl
theorem can_ints : ∀ xs : List Int, PyData.canLayAll0 (xs.map PyData.int) = true
  | [] => by simp [PyData.canLayAll0]
  | x :: xs => by simp [PyData.canLayAll0, PyData.canLay0, can_ints xs]
theorem dep_ints : ∀ xs : List Int, PyData.depthAll (xs.map PyData.int) = 0
  | [] => by simp [PyData.depthAll]
  | x :: xs => by simp [PyData.depthAll, PyData.depth, dep_ints xs]
theorem eqv_ints : ∀ xs ys : List Int, PyData.eqvAll (xs.map PyData.int) (ys.map PyData.int) = decide (xs = ys)
  | [], [] => by simp [PyData.eqvAll]
  | [], y :: ys => by simp [PyData.eqvAll]
  | x :: xs, [] => by simp [PyData.eqvAll]
  | x :: xs, y :: ys => by
    simp only [List.map_cons, PyData.eqvAll, PyData.eqv, eqv_ints xs ys]
    by_cases h1 : x = y <;> by_cases h2 : xs = ys <;> simp [h1, h2]
theorem shp_int {i : Int} : D.shp (.int i) = true := by simp [D.shp, SeqAt.shaped, D.py, PyData.canLay0, PyData.depth]
theorem shp_bl {i : Bool} : D.shp (.bl i) = true := by simp [D.shp, SeqAt.shaped, D.py, PyData.canLay0, PyData.depth]
theorem shp_non : D.shp .non = true := by simp [D.shp, SeqAt.shaped, D.py, PyData.canLay0, PyData.depth]
theorem shp_tup {xs : List Int} : D.shp (.tup (xs.map D.int)) = true := by simp [D.shp, SeqAt.shaped, D.py, PyData.canLay0, PyData.depth, pyL_ints, can_ints, dep_ints]
theorem shp_lst {xs : List Int} : D.shp (.lst (xs.map D.int)) = true := by simp [D.shp, SeqAt.shaped, D.py, PyData.canLay0, PyData.depth, pyL_ints, can_ints, dep_ints]
theorem eqv_int {i j : Int} : D.eqv (.int i) (.int j) = decide (i = j) := by
  simp only [D.eqv, D.py, PyData.eqv]
  by_cases h : i = j <;> simp [h]
theorem eqv_bl {i j : Bool} : D.eqv (.bl i) (.bl j) = decide (i = j) := by
  simp only [D.eqv, D.py, PyData.eqv]
  cases i <;> cases j <;> rfl
theorem eqv_tup {xs ys : List Int} : D.eqv (.tup (xs.map D.int)) (.tup (ys.map D.int)) = decide (xs = ys) := by simp only [D.eqv, D.py, pyL_ints, PyData.eqv, eqv_ints]
theorem eqv_lst {xs ys : List Int} : D.eqv (.lst (xs.map D.int)) (.lst (ys.map D.int)) = decide (xs = ys) := by simp only [D.eqv, D.py, pyL_ints, PyData.eqv, eqv_ints]
theorem eqv_nonint {i : Int} : D.eqv .non (.int i) = false := by simp only [D.eqv, D.py, PyData.eqv]
@[simp] theorem cmEq_int {i j : Int} : cmEq (.v (.int i)) (.v (.int j)) S = .ok (.v (.bl (decide (i = j)))) S := by simp [cmEq, R.rd, shp_int, eqv_int]
@[simp] theorem cmNe_int {i j : Int} : cmNe (.v (.int i)) (.v (.int j)) S = .ok (.v (.bl (!decide (i = j)))) S := by simp [cmNe, R.rd, shp_int, eqv_int]
@[simp] theorem cmNe_bl {i j : Bool} : cmNe (.v (.bl i)) (.v (.bl j)) S = .ok (.v (.bl (!decide (i = j)))) S := by simp [cmNe, R.rd, shp_bl, eqv_bl]
@[simp] theorem cmEq_tup {xs ys : List Int} : cmEq (.v (.tup (xs.map D.int))) (.v (.tup (ys.map D.int))) S = .ok (.v (.bl (decide (xs = ys)))) S := by simp [cmEq, R.rd, shp_tup, eqv_tup]
@[simp] theorem cmNe_tup {xs ys : List Int} : cmNe (.v (.tup (xs.map D.int))) (.v (.tup (ys.map D.int))) S = .ok (.v (.bl (!decide (xs = ys)))) S := by simp [cmNe, R.rd, shp_tup, eqv_tup]
@[simp] theorem cmNe_lst {xs ys : List Int} : cmNe (.v (.lst (xs.map D.int))) (.v (.lst (ys.map D.int))) S = .ok (.v (.bl (!decide (xs = ys)))) S := by simp [cmNe, R.rd, shp_lst, eqv_lst]
/-! ### indices -/
theorem atI_nat {α : Type} {xs : List α} {k : Nat} (h : k < xs.length) : L2.atI xs (k : Int) = xs[k]? := by
  unfold L2.atI L2.ixN
  rw [if_pos (Int.natCast_nonneg k), if_pos (by omega)]
  simp
theorem ix_tup {ds : List D} {i : Int} {d : D} (h0 : 0 ≤ i) (h : ds[i.toNat]? = some d) : mIx (.v (.tup ds)) (.v (.int i)) S = .ok (.v d) S := by
  have hl : i.toNat < ds.length := (List.getElem?_eq_some_iff.mp h).1
  have e : L2.atI ds i = some d := by
    have := atI_nat (xs := ds) hl
    rw [Int.toNat_of_nonneg h0] at this
    rw [this, h]
  simp [mIx, R.seq, e]
theorem ix_lst {ds : List D} {i : Int} {d : D} (h0 : 0 ≤ i) (h : ds[i.toNat]? = some d) : mIx (.v (.lst ds)) (.v (.int i)) S = .ok (.v d) S := by
  have hl : i.toNat < ds.length := (List.getElem?_eq_some_iff.mp h).1
  have e : L2.atI ds i = some d := by
    have := atI_nat (xs := ds) hl
    rw [Int.toNat_of_nonneg h0] at this
    rw [this, h]
  simp [mIx, R.seq, e]
theorem ix_l {ds : List D} {k : Nat} {i : Int} {d : D} (hk : S[k]? = some (.lst ds)) (h0 : 0 ≤ i) (h : ds[i.toNat]? = some d) : mIx (.l k) (.v (.int i)) S = .ok (.v d) S := by
  have hl : i.toNat < ds.length := (List.getElem?_eq_some_iff.mp h).1
  have e : L2.atI ds i = some d := by
    have := atI_nat (xs := ds) hl
    rw [Int.toNat_of_nonneg h0] at this
    rw [this, h]
  simp [mIx, R.seq, hk, e]
/-! ### the drawn numbers -/
def Pool (c : Cell) : Prop := ∃ (cs : List Int) (p r s : Int), c = .lst [.lst (cs.map D.int), .int p, .int r, .int s] ∧ 0 ≤ p
theorem mixed_ok {c p : Int} (h : -1000000000000000000 < c ∧ c < 1000000000000000000) : ∃ m, _law_mixed_m [.v (.int c), .v (.int p)] S = .ok (.v (.int m)) S := by
  have e0 : cMul c (48271 + 2 * p) = true := by
    unfold cMul
    have : decide (-(2 ^ 64) < c ∧ c < 2 ^ 64) = true := decide_eq_true ⟨by omega, by omega⟩
    rw [this]; rfl
  have e1 : cMul 2 p = true := by unfold cMul; rw [show decide (-(2 ^ 64 : Int) < 2 ∧ (2 : Int) < 2 ^ 64) = true by decide]; rfl
  have e2 : ∀ x : Int, cMul (x % 2147483647) (x % 2147483647) = true := fun x => by
    unfold cMul
    have h1 := Int.emod_nonneg x (show (2147483647 : Int) ≠ 0 by decide)
    have h2 := Int.emod_lt_of_pos x (show (0 : Int) < 2147483647 by decide)
    rw [decide_eq_true (show -(2 ^ 64 : Int) < x % 2147483647 ∧ x % 2147483647 < 2 ^ 64 from ⟨by omega, by omega⟩)]; rfl
  have e3 : ∀ x : Int, cMul 16807 x = true := fun x => by unfold cMul; rw [show decide (-(2 ^ 64 : Int) < 16807 ∧ (16807 : Int) < 2 ^ 64) = true by decide]; rfl
  have e4 : ∀ x : Int, cMul x 69621 = true := fun x => by unfold cMul; rw [show decide (-(2 ^ 64 : Int) < 69621 ∧ (69621 : Int) < 2 ^ 64) = true by decide, Bool.or_true]
  have e5 : ∀ x : Int, cMul x 2147483587 = true := fun x => by unfold cMul; rw [show decide (-(2 ^ 64 : Int) < 2147483587 ∧ (2147483587 : Int) < 2 ^ 64) = true by decide, Bool.or_true]
  have m1 : ∀ x : Int, cMod x 2147483647 = true := fun x => by unfold cMod; decide
  have m2 : ∀ x : Int, cMod x 2147483629 = true := fun x => by unfold cMod; decide
  have m3 : ∀ x : Int, cMod x 2147483587 = true := fun x => by unfold cMod; decide
  unfold _law_mixed_m
  rw [fnM_ap, if_pos (by rfl)]
  unfold _law_mixed_b
  simp [e0, e1, e2, e3, e4, e5, m1, m2, m3]
theorem set2 {cells p r s x : D} {n : Nat} (hn : n = 2) : [cells, p, r, s].set n x = [cells, p, x, s] := by subst hn; rfl
theorem cDiv_ok {m r : Int} (h0 : 0 < m) (h1 : m < 2 ^ 60) : cDiv r m = true := by
  unfold cDiv
  have : m.natAbs.log2 < 9000 := by
    have h : m.natAbs < 2 ^ 60 := by omega
    by_cases hz : m.natAbs = 0
    · rw [hz]; decide
    · have := (Nat.log2_lt hz).mpr h
      omega
  simp [h0, this]
/-- the second half of a draw -/
theorem draw_end {cs : List Int} {p r s m : Int} {x2 x3 : Option R} (h0 : 0 < m) (h1 : m < 2 ^ 60) :
    fin finR (Cell.lst [.lst (cs.map D.int), .int p, .int r, .int s] :: S).length (sSeq (sSet 4 (eOp mIx (eVar 0) (eC (.int 2)))) (sSeq (sSub (eVar 0) (eC (.int 2)) (eOp opDiv (eVar 4) (eVar 1))) (sSeq (sRet (eOp opMod (eApp mInt (aCons (eVar 4) aNil)) (eVar 1))) sNil))
      [some (.l 0), some (.v (.int m)), x2, x3, none] (Cell.lst [.lst (cs.map D.int), .int p, .int r, .int s] :: S)) = .ok (.v (.int (r % m))) (Cell.lst [.lst (cs.map D.int), .int p, .int (r / m), .int s] :: S) := by
  have i2 : mIx (.l 0) (.v (.int 2)) (Cell.lst [.lst (cs.map D.int), .int p, .int r, .int s] :: S) = .ok (.v (.int r)) (Cell.lst [.lst (cs.map D.int), .int p, .int r, .int s] :: S) := ix_l (ds := [.lst (cs.map D.int), .int p, .int r, .int s]) rfl (by decide) rfl
  have w2 : mStore (.l 0) (.v (.int 2)) (.int (r / m)) (Cell.lst [.lst (cs.map D.int), .int p, .int r, .int s] :: S) = some (Cell.lst [.lst (cs.map D.int), .int p, .int (r / m), .int s] :: S) := by
    unfold mStore L2.ixN
    simp
  have hm : cMod r m = true := by unfold cMod; simp [h0]
  simp [i2, w2, cDiv_ok h0 h1, hm]
theorem draw_ok {c : Cell} {m : Int} (h : Pool c) (h0 : 0 < m) (h1 : m < 2 ^ 60) : ∃ d c', _law_draw_m [.l 0, .v (.int m)] (c :: S) = .ok (.v (.int d)) (c' :: S) ∧ Pool c' ∧ 0 ≤ d ∧ d < m := by
  obtain ⟨cs, p, r, s, rfl, hp⟩ := h
  unfold _law_draw_m
  rw [fnM_ap, if_pos (by rfl)]
  unfold _law_draw_b
  have i2 : ∀ p r, mIx (.l 0) (.v (.int 2)) (Cell.lst [.lst (cs.map D.int), .int p, .int r, .int s] :: S) = .ok (.v (.int r)) (Cell.lst [.lst (cs.map D.int), .int p, .int r, .int s] :: S) := fun p r => ix_l (ds := [.lst (cs.map D.int), .int p, .int r, .int s]) rfl (by decide) rfl
  have i1 : ∀ p r, mIx (.l 0) (.v (.int 1)) (Cell.lst [.lst (cs.map D.int), .int p, .int r, .int s] :: S) = .ok (.v (.int p)) (Cell.lst [.lst (cs.map D.int), .int p, .int r, .int s] :: S) := fun p r => ix_l (ds := [.lst (cs.map D.int), .int p, .int r, .int s]) rfl (by decide) rfl
  have i3 : ∀ p r, mIx (.l 0) (.v (.int 3)) (Cell.lst [.lst (cs.map D.int), .int p, .int r, .int s] :: S) = .ok (.v (.int s)) (Cell.lst [.lst (cs.map D.int), .int p, .int r, .int s] :: S) := fun p r => ix_l (ds := [.lst (cs.map D.int), .int p, .int r, .int s]) rfl (by decide) rfl
  have i0 : ∀ p r, mIx (.l 0) (.v (.int 0)) (Cell.lst [.lst (cs.map D.int), .int p, .int r, .int s] :: S) = .ok (.v (.lst (cs.map D.int))) (Cell.lst [.lst (cs.map D.int), .int p, .int r, .int s] :: S) := fun p r => ix_l (ds := [.lst (cs.map D.int), .int p, .int r, .int s]) rfl (by decide) rfl
  have w1 : ∀ p r x, mStore (.l 0) (.v (.int 1)) (.int x) (Cell.lst [.lst (cs.map D.int), .int p, .int r, .int s] :: S) = some (Cell.lst [.lst (cs.map D.int), .int x, .int r, .int s] :: S) := fun p r x => by
    unfold mStore L2.ixN
    simp
  have w2 : ∀ p r x, mStore (.l 0) (.v (.int 2)) (.int x) (Cell.lst [.lst (cs.map D.int), .int p, .int r, .int s] :: S) = some (Cell.lst [.lst (cs.map D.int), .int p, .int x, .int s] :: S) := fun p r x => by
    unfold mStore L2.ixN
    simp
  have fin2 : ∀ p r, ∃ d c', Res.ok (R.v (.int (r % m))) (Cell.lst [.lst (cs.map D.int), .int p, .int (r / m), .int s] :: S) = .ok (.v (.int d)) (c' :: S) ∧ (0 ≤ p → Pool c') ∧ 0 ≤ d ∧ d < m := fun p r =>
    ⟨_, _, rfl, fun hp => ⟨cs, p, r / m, s, rfl, hp⟩, Int.emod_nonneg _ (by omega), Int.emod_lt_of_pos _ h0⟩
  rw [sSeq_ap]
  by_cases hr : r = 0
  · subst hr
    have hl : mLen [.v (.lst (cs.map D.int))] (Cell.lst [.lst (cs.map D.int), .int (p + 1), .int 0, .int s] :: S) = .ok (.v (.int cs.length)) (Cell.lst [.lst (cs.map D.int), .int (p + 1), .int 0, .int s] :: S) := by
      rw [SeqR.len (.inr (.inl rfl)), List.length_map]
    have e1 : ∃ v w, sIf (tOf (eOp cmEq (eOp mIx (eVar 0) (eC (.int 2))) (eC (.int 0)))) (sSeq (sSet 2 (eOp mIx (eVar 0) (eC (.int 1)))) (sSeq (sSub (eVar 0) (eC (.int 1)) (eOp opAdd (eVar 2) (eC (.int 1)))) (sSeq (sSet 3 (eOp mIx (eVar 0) (eC (.int 3)))) (sSeq (sIf (tOf (eOp cmLt (eVar 2) (eApp mLen (aCons (eOp mIx (eVar 0) (eC (.int 0))) aNil)))) (sSeq (sSet 3 (eOp mIx (eOp mIx (eVar 0) (eC (.int 0))) (eVar 2))) sNil) sNil) (sSeq (sIf (tOf (eOp cmLt (eApp mAbs (aCons (eVar 3) aNil)) (eC (.int 1000000000000000000)))) (sSeq (sSub (eVar 0) (eC (.int 2)) (eApp _law_mixed_m (aCons (eVar 3) (aCons (eVar 2) aNil)))) sNil) (sSeq (sSub (eVar 0) (eC (.int 2)) (eApp mAbs (aCons (eVar 3) aNil))) sNil)) sNil))))) sNil
        (List.map some [.l 0, .v (.int m)] ++ List.replicate (5 - 2) none) (Cell.lst [.lst (cs.map D.int), .int p, .int 0, .int s] :: S) = .ok (.nx [some (.l 0), some (.v (.int m)), some (.v (.int p)), some (.v (.int v)), none]) (Cell.lst [.lst (cs.map D.int), .int (p + 1), .int w, .int s] :: S) := by
      by_cases hc : p < cs.length
      · have hlt : p.toNat < cs.length := by omega
        have ix := ix_lst (S := Cell.lst [.lst (cs.map D.int), .int (p + 1), .int 0, .int s] :: S) (ds := cs.map D.int) (i := p) (d := .int cs[p.toNat]) hp (by rw [List.getElem?_map, List.getElem?_eq_getElem hlt]; rfl)
        refine ⟨cs[p.toNat], ?_⟩
        generalize cs[p.toNat] = v at ix
        by_cases ha : (if v < 0 then -v else v) < 1000000000000000000
        · obtain ⟨w, hw⟩ := mixed_ok (S := Cell.lst [.lst (cs.map D.int), .int (p + 1), .int 0, .int s] :: S) (c := v) (p := p) (by split at ha <;> omega)
          exact ⟨w, by simp [i2, i1, i3, i0, w1, w2, hl, hc, ix, ha, hw]⟩
        · exact ⟨if v < 0 then -v else v, by simp [i2, i1, i3, i0, w1, w2, hl, hc, ix, ha]⟩
      · refine ⟨s, ?_⟩
        by_cases ha : (if s < 0 then -s else s) < 1000000000000000000
        · obtain ⟨w, hw⟩ := mixed_ok (S := Cell.lst [.lst (cs.map D.int), .int (p + 1), .int 0, .int s] :: S) (c := s) (p := p) (by split at ha <;> omega)
          exact ⟨w, by simp [i2, i1, i3, i0, w1, w2, hl, hc, ha, hw]⟩
        · exact ⟨if s < 0 then -s else s, by simp [i2, i1, i3, i0, w1, w2, hl, hc, ha]⟩
    obtain ⟨v, w, e1⟩ := e1
    rw [e1, sthn_nx]
    have de := draw_end (S := S) (cs := cs) (p := p + 1) (r := w) (s := s) (m := m) (x2 := some (.v (.int p))) (x3 := some (.v (.int v))) h0 h1
    obtain ⟨d, c', k1, k2, k3, k4⟩ := fin2 (p + 1) w
    exact ⟨d, c', de.trans k1, k2 (by omega), k3, k4⟩
  · have e1 : sIf (tOf (eOp cmEq (eOp mIx (eVar 0) (eC (.int 2))) (eC (.int 0)))) (sSeq (sSet 2 (eOp mIx (eVar 0) (eC (.int 1)))) (sSeq (sSub (eVar 0) (eC (.int 1)) (eOp opAdd (eVar 2) (eC (.int 1)))) (sSeq (sSet 3 (eOp mIx (eVar 0) (eC (.int 3)))) (sSeq (sIf (tOf (eOp cmLt (eVar 2) (eApp mLen (aCons (eOp mIx (eVar 0) (eC (.int 0))) aNil)))) (sSeq (sSet 3 (eOp mIx (eOp mIx (eVar 0) (eC (.int 0))) (eVar 2))) sNil) sNil) (sSeq (sIf (tOf (eOp cmLt (eApp mAbs (aCons (eVar 3) aNil)) (eC (.int 1000000000000000000)))) (sSeq (sSub (eVar 0) (eC (.int 2)) (eApp _law_mixed_m (aCons (eVar 3) (aCons (eVar 2) aNil)))) sNil) (sSeq (sSub (eVar 0) (eC (.int 2)) (eApp mAbs (aCons (eVar 3) aNil))) sNil)) sNil))))) sNil
        (List.map some [.l 0, .v (.int m)] ++ List.replicate (5 - 2) none) (Cell.lst [.lst (cs.map D.int), .int p, .int r, .int s] :: S) = .ok (.nx [some (.l 0), some (.v (.int m)), none, none, none]) (Cell.lst [.lst (cs.map D.int), .int p, .int r, .int s] :: S) := by
      simp [i2, hr]
    rw [e1, sthn_nx, draw_end h0 h1]
    obtain ⟨d, c', k1, k2, k3, k4⟩ := fin2 p r
    exact ⟨d, c', k1, k2 hp, k3, k4⟩
end K03

namespace K03
open PySem Mi
variable {S : Sto}
theorem cMul_r {x y : Int} (h : -(2 ^ 64) < y ∧ y < 2 ^ 64) : cMul x y = true := by
  unfold cMul
  rw [decide_eq_true h, Bool.or_true]
theorem filter_yes {α : Type} {xs : List α} : xs.filter (fun _ => true) = xs := List.filter_eq_self.mpr fun _ _ => rfl
theorem pool_go : ∀ (cs : List Int) (s : Int) (r0 r1 x3 : Option R), ∃ (s' : Int) (x3' : Option R), forGo (tgName 3) _law_pool_l1 none (cs.map D.int) [r0, r1, some (.v (.int s)), x3] S = .ok (.nx [r0, r1, some (.v (.int s')), x3']) S
  | [], s, r0, r1, x3 => ⟨s, x3, forGo_nil trivial⟩
  | c :: cs, s, r0, r1, x3 => by
    rw [List.map_cons, forGo_cons (show GdOk none S from trivial) tgName_ap]
    have step : ∃ s', _law_pool_l1 [r0, r1, some (.v (.int s)), some (.v (.int c))] S = .ok (.nx [r0, r1, some (.v (.int s')), some (.v (.int c))]) S := by
      unfold _law_pool_l1
      have h1 : cMul s 31 = true := cMul_r ⟨by decide, by decide⟩
      have h2 : ∀ x, cMod x 2147483647 = true := fun x => by unfold cMod; decide
      by_cases ha : (if c < 0 then -c else c) < 1000000000000000000
      · exact ⟨_, by simp [ha, h1, h2]; rfl⟩
      · exact ⟨s, by simp [ha]⟩
    obtain ⟨s', e⟩ := step
    have hset : (([r0, r1, some (.v (.int s)), x3] : Mi.Env).set 3 (some (.v (.int c)))) = [r0, r1, some (.v (.int s)), some (.v (.int c))] := rfl
    rw [hset, e]
    exact pool_go cs s' r0 r1 _
theorem mLstM_four {a b c d : D} : mLstM [.v a, .v b, .v c, .v d] S = .ok (.l S.length) (S ++ [.lst [a, b, c, d]]) := by
  unfold mLstM allD allD allD allD allD
  simp [sizeLine_eq]
theorem pool_ok {ns : List Int} (hl : ns.length ≤ 63) : ∃ c, _law_pool_m [.v (.frl (ns.map D.int))] [] = .ok (.l 0) [c] ∧ Pool c := by
  unfold _law_pool_m
  rw [fnMM_ap, if_pos (by rfl)]
  unfold _law_pool_b
  have hcut : ∃ ks : List Int, mSl (.v (.frl (ns.map D.int))) none (some 63) [] = .ok (.v (.lst (ks.map D.int))) [] ∧ ks.length ≤ 63 := by
    refine ⟨(ns.drop (HT.sIx ns.length 0 none)).take (HT.sIx ns.length ns.length (some 63) - HT.sIx ns.length 0 none), ?_, ?_⟩
    · simp [mSl, R.lsq, cutD]
    · rw [List.length_take, List.length_drop]
      omega
  obtain ⟨ks, hk, hkl⟩ := hcut
  have hlc : lcGo (tgName 3) tYesM _law_pool_c1 none (wipeE [some (.v (.frl (ns.map D.int))), none, none, none] [3]) (ks.map D.int) [] = .ok (ks.map D.int) [] := by
    have := lc_pure (S := []) (tg := tgName 3) (tt := tYesM) (fe := _law_pool_c1) (gd := none) (env0 := wipeE [some (.v (.frl (ns.map D.int))), none, none, none] [3]) D.int (fun x => [some (.v (.frl (ns.map D.int))), none, none, some (.v (.int x))]) (fun _ => true) D.int trivial ks
      (fun x _ => ⟨rfl, rfl, fun _ => by unfold _law_pool_c1; simp⟩)
    rw [filter_yes] at this
    exact this
  obtain ⟨s', x3', hg⟩ := pool_go (S := []) ks 0 (some (.v (.frl (ns.map D.int)))) (some (.v (.lst (ks.map D.int)))) none
  have hz : (ks.map D.int).length ≤ sizeLine := by rw [List.length_map, sizeLine_eq]; omega
  refine ⟨.lst [.lst (ks.map D.int), .int 0, .int 0, .int s'], ?_, ks, 0, 0, s', rfl, Int.le_refl _⟩
  have i1 : ∀ env : Mi.Env, env[0]? = some (some (.v (.frl (ns.map D.int)))) → iSeq (eSl mSl (eVar 0) oNone (oSome (eC (.int 63)))) env [] = .ok (ks.map D.int, none) [] := fun env h => by
    unfold iSeq
    simp [h, hk, srcOf]
  have i2 : ∀ env : Mi.Env, env[1]? = some (some (.v (.lst (ks.map D.int)))) → iSeq (eVar 1) env [] = .ok (ks.map D.int, none) [] := fun env h => by
    unfold iSeq
    simp [h, srcOf]
  have hz' : ks.length ≤ sizeLine := by rw [List.length_map] at hz; exact hz
  simp [i1, i2, hlc, hg, hz', mLstM_four, finRM]
end K03

namespace K03
open PySem Mi
variable {S : Sto}
theorem rng62_nat {n : Nat} (hn : n ≤ 1000) : rng62 (n : Int) = true := by
  have h1 : -(2 ^ 62 : Int) ≤ (n : Int) := Int.le_trans (by decide) (Int.natCast_nonneg n)
  have h2 : (n : Int) < 2 ^ 62 := Int.lt_of_le_of_lt (Int.ofNat_le.mpr hn) (by decide)
  unfold rng62
  rw [decide_eq_true h1, decide_eq_true h2]
  rfl
theorem rngD_nat {n : Nat} : rngD 0 (n : Int).toNat = (List.range n).map (fun i => D.int (i : Nat)) := by
  unfold rngD
  rw [Int.toNat_natCast]
  congr 1
  funext i
  rw [Int.zero_add]
theorem rng_ap {ar : AM} {env : Mi.Env} {n : Nat} (h : ar env S = .ok [.v (.int n)] S) (hn : n ≤ 1000) : iRng1 ar env S = .ok ((List.range n).map (fun i => D.int (i : Nat)), none) S := by
  unfold iRng1
  rw [h, bind_ok]
  show (if rng62 (n : Int) = true then Res.ok (rngD 0 (n : Int).toNat, none) S else .bad) = _
  rw [if_pos (rng62_nat hn), rngD_nat]
theorem digits_go {n : Int} (x4 : Option R) : ∀ (ks : List Nat) (x : Int) (bs : List Int) (x4 : Option R), bs.length + ks.length ≤ 1000 → ∃ (x' : Int) (x4' : Option R) (cs : List Int), cs.length = ks.length ∧
    forGo (tgName 4) _law_digits_l1 none (ks.map fun i => D.int (i : Nat)) [some (.v (.int x)), some (.v (.int 2)), some (.v (.int n)), some (.l S.length), x4] (S ++ [.lst (bs.map D.int)]) =
      .ok (.nx [some (.v (.int x')), some (.v (.int 2)), some (.v (.int n)), some (.l S.length), x4']) (S ++ [.lst ((bs ++ cs).map D.int)])
  | [], x, bs, x4, _ => ⟨x, x4, [], rfl, by rw [List.append_nil]; exact forGo_nil trivial⟩
  | k :: ks, x, bs, x4, hb => by
    rw [List.map_cons, forGo_cons (show GdOk none _ from trivial) tgName_ap]
    have happ : mApp (.l S.length) [.v (.int (x % 2))] (S ++ [.lst (bs.map D.int)]) = .ok (.v .non) (S ++ [.lst ((bs ++ [x % 2]).map D.int)]) := by
      unfold mApp
      have h1 : bs.length < sizeLine := by rw [sizeLine_eq]; simp at hb; omega
      simp [h1]
    have hlsq : R.lsq (.l S.length) (S ++ [.lst (bs.map D.int)]) = some (bs.map D.int) := by unfold R.lsq; simp
    have step : _law_digits_l1 [some (.v (.int x)), some (.v (.int 2)), some (.v (.int n)), some (.l S.length), some (.v (.int k))] (S ++ [.lst (bs.map D.int)]) =
        .ok (.nx [some (.v (.int (x / 2))), some (.v (.int 2)), some (.v (.int n)), some (.l S.length), some (.v (.int k))]) (S ++ [.lst ((bs ++ [x % 2]).map D.int)]) := by
      unfold _law_digits_l1
      have h1 : cMod x 2 = true := by unfold cMod; decide
      have h2 : cDiv x 2 = true := cDiv_ok (by decide) (by decide)
      simp only [sSeq_ap, sExpr_ap, eBm_ap, eVar_ap, eOp_ap, eApp_ap, aCons_ap, aNil_ap, eC_ap, bind_ok, List.getElem?_cons_zero, List.getElem?_cons_succ, mInt_int, opI_int, h1, h2, if_true, hlsq, happ, rthn_ok, sthn_nx, sSet_ap, List.set_cons_zero, sNil_ap]
    have hset : (([some (.v (.int x)), some (.v (.int 2)), some (.v (.int n)), some (.l S.length), x4] : Mi.Env).set 4 (some (.v (.int (k : Nat))))) = [some (.v (.int x)), some (.v (.int 2)), some (.v (.int n)), some (.l S.length), some (.v (.int k))] := rfl
    rw [hset, step]
    obtain ⟨x', x4', cs, h1, h2⟩ := digits_go x4 ks (x / 2) (bs ++ [x % 2]) (some (.v (.int k))) (by simp at hb ⊢; omega)
    refine ⟨x', x4', (x % 2) :: cs, by rw [List.length_cons, List.length_cons, h1], ?_⟩
    rw [show bs ++ (x % 2) :: cs = bs ++ [x % 2] ++ cs by simp]
    exact h2
theorem digits_ok {x : Int} {n : Nat} (hn : n ≤ 1000) : ∃ bs : List Int, bs.length = n ∧ _law_digits_m [.v (.int x), .v (.int 2), .v (.int n)] S = .ok (.v (.tup (bs.map D.int))) S := by
  unfold _law_digits_m
  rw [fnM_ap, if_pos (by rfl)]
  unfold _law_digits_b
  obtain ⟨x', x4', cs, h1, h2⟩ := digits_go (S := S) (n := n) none (List.range n) x [] none (by simpa using hn)
  refine ⟨cs, by rw [h1, List.length_range], ?_⟩
  have h0 : mLstM [] S = .ok (.l S.length) (S ++ [.lst []]) := by
    unfold mLstM allD
    simp
  have hr : iRng1 (aCons (eVar 2) aNil) [some (.v (.int x)), some (.v (.int 2)), some (.v (.int n)), some (.l S.length), none] (S ++ [.lst []]) = .ok ((List.range n).map (fun i => D.int (i : Nat)), none) (S ++ [.lst []]) := rng_ap (by simp) hn
  have ht : mTuple [.l S.length] (S ++ [.lst (cs.map D.int)]) = .ok (.v (.tup (cs.map D.int))) (S ++ [.lst (cs.map D.int)]) := SeqR.tup (.inr (.inr ⟨_, rfl, by simp⟩))
  have h2' : forGo (tgName 4) _law_digits_l1 none ((List.range n).map fun i => D.int (i : Nat)) [some (.v (.int x)), some (.v (.int 2)), some (.v (.int n)), some (.l S.length), none] (S ++ [.lst []]) =
      .ok (.nx [some (.v (.int x')), some (.v (.int 2)), some (.v (.int n)), some (.l S.length), x4']) (S ++ [.lst (cs.map D.int)]) := by simpa using h2
  have f1 : fin finR S.length (.ok (.rt (.v (.tup (cs.map D.int)))) (S ++ [.lst (cs.map D.int)])) = .ok (.v (.tup (cs.map D.int))) S := by
    rw [fin_rt, finR_v, List.take_left']
    rfl
  have henv : List.map some [R.v (.int x), .v (.int 2), .v (.int n)] ++ List.replicate (5 - 3) none = [some (.v (.int x)), some (.v (.int 2)), some (.v (.int n)), none, none] := rfl
  rw [henv]
  have hset : (([some (.v (.int x)), some (.v (.int 2)), some (.v (.int n)), none, none] : Mi.Env).set 3 (some (.l S.length))) = [some (.v (.int x)), some (.v (.int 2)), some (.v (.int n)), some (.l S.length), none] := rfl
  rw [sSeq_ap, sSet_ap, eApp_ap, aNil_ap, bind_ok, h0, rthn_ok, sthn_nx, hset, sSeq_ap, sFor_ap, hr, rthn_ok, h2', sthn_nx, sSeq_ap, sRet_ap, eApp_ap, aCons_ap]
  have hv : eVar 3 [some (.v (.int x')), some (.v (.int 2)), some (.v (.int n)), some (.l S.length), x4'] (S ++ [.lst (cs.map D.int)]) = .ok (.l S.length) (S ++ [.lst (cs.map D.int)]) := rfl
  rw [hv, bind_ok, aNil_ap, bind_ok, bind_ok, ht, rthn_ok, sthn_rt]
  exact f1
end K03

namespace K03
open PySem Mi
variable {S : Sto}
/-! ### sets -/
/-- things in ascending order, below n -/
def Asc (n : Int) (xs : List Int) : Prop := xs.Pairwise (· < ·) ∧ ∀ x ∈ xs, 0 ≤ x ∧ x < n
theorem mis_asc {n : Int} : ∀ (xs : List Int) (b : Int) (k : Nat), xs.Pairwise (· < ·) → (∀ x ∈ xs, 0 ≤ x ∧ x < n ∧ b < x) → misF n b k (xs.map D.int) = none
  | [], _, _, _, _ => rfl
  | x :: xs, b, k, hp, h => by
    rw [List.map_cons, misF, if_pos (h x List.mem_cons_self)]
    have hp' := List.pairwise_cons.mp hp
    exact mis_asc xs x (k + 1) hp'.2 fun y hy => ⟨(h y (List.mem_cons_of_mem _ hy)).1, (h y (List.mem_cons_of_mem _ hy)).2.1, hp'.1 y hy⟩
theorem Asc.mis {n : Int} {xs : List Int} (h : Asc n xs) : misF n (-1) 0 (xs.map D.int) = none := mis_asc xs (-1) 0 h.1 fun x hx => ⟨(h.2 x hx).1, (h.2 x hx).2, by have := (h.2 x hx).1; omega⟩
theorem fine_ints : ∀ xs : List Int, (xs.map D.int).all fine = true
  | [] => rfl
  | x :: xs => by rw [List.map_cons, List.all_cons, fine_ints xs]; rfl
theorem set_of_asc {n : Int} {r : R} {xs : List Int} (h : SeqR r S (xs.map D.int)) (ha : Asc n xs) : set_of_m [.v (.int n), r] S = .ok (.v (.tup (xs.map D.int))) S := set_of_ok h (fine_ints xs) ha.mis
/-! ### making a rule -/
def thg (n : Nat) : D := .tup ((List.range n).map fun i => D.int (i : Nat))
theorem mTupRg_nat {n : Nat} (hn : n ≤ 1000) : mTupRg (.v (.int n)) S = .ok (.v (thg n)) S := by
  unfold mTupRg
  have h : (n : Int) ≤ 16777216 ∧ 0 ≤ (n : Int) := ⟨Int.le_trans (Int.ofNat_le.mpr hn) (by decide), Int.natCast_nonneg n⟩
  show (if (n : Int) ≤ 16777216 ∧ 0 ≤ (n : Int) then Res.ok (R.v (.tup (rngD 0 (n : Int).toNat))) S else .bad) = _
  rw [if_pos h, rngD_nat]
  rfl
@[simp] theorem take_end {c : Cell} : List.take (List.length S + 1) (S ++ [c]) = S ++ [c] := List.take_of_length_le (by simp)
theorem at_end {c : Cell} : (S ++ [c])[S.length]? = some c := by simp
theorem set_end {c c' : Cell} : (S ++ [c]).set S.length c' = S ++ [c'] := by simp
theorem mPut_end {T : Nat → Bool} {j c : Nat} {d : D} {ks : List Nat} {ds : List D} (hT : T c = true) (hk : ks.length < 1000) : mPut T j (.l S.length) d (S ++ [.ins c ks ds]) = some (S ++ [.ins c (putK j d ks ds).1 (putK j d ks ds).2]) := by
  unfold mPut
  simp [hT, hk]
theorem rule_init {c n : Nat} (hc : tRule c = true) (hn : n ≤ 1000) : Rule___init___m [.l S.length, .v (.int n)] (S ++ [.ins c [] []]) = .ok (.v .non) (S ++ [.ins c [3, 4] [.int n, thg n]]) := by
  unfold Rule___init___m
  rw [fnM_ap, if_pos (by rfl)]
  unfold Rule___init___b
  have h1 : ∀ S : Sto, is_count_m [.v (.int (n : Nat))] S = .ok (.v (.bl true)) S := fun S => by rw [is_count_int, decide_eq_true (Int.natCast_nonneg n)]
  have p1 := mPut_end (S := S) (T := tRule) (j := 3) (c := c) (d := .int n) (ks := []) (ds := []) hc (by decide)
  have p2 := mPut_end (S := S) (T := tRule) (j := 4) (c := c) (d := thg n) (ks := [3]) (ds := [.int n]) hc (by decide)
  have q1 : putK 3 (D.int n) [] [] = ([3], [.int n]) := rfl
  have q2 : putK 4 (thg n) [3] [.int n] = ([3, 4], [.int n, thg n]) := rfl
  rw [q1] at p1
  rw [q2] at p2
  simp [h1, p1, p2, mTupRg_nat hn]
theorem rule_init_bad {c : Nat} {d : D} (hd : odd d = true ∨ ∃ i : Int, d = .int i ∧ i < 0) : Rule___init___m [.l S.length, .v d] (S ++ [.ins c [] []]) = .exc 0 [0] [.str "size"] (S ++ [.ins c [] []]) := by
  unfold Rule___init___m
  rw [fnM_ap, if_pos (by rfl)]
  unfold Rule___init___b
  have h1 : ∀ S : Sto, is_count_m [.v d] S = .ok (.v (.bl false)) S := fun S => by
    rcases hd with h | ⟨i, rfl, h⟩
    · exact is_count_odd h
    · rw [is_count_int, decide_eq_false (by omega)]
  simp [h1]
theorem ob_end {c : Nat} {ks : List Nat} {ds : List D} : R.ob (.l S.length) (S ++ [.ins c ks ds]) = some (c, ks, ds) := by unfold R.ob; simp
/-- super().__init__(e) -/
theorem sup_ap {T : Nat → Bool} {m : FM} {ar : AM} {env : Mi.Env} {c : Nat} {ks : List Nat} {ds : List D} {r : R} {rs : List R} (h0 : env[0]? = some (some r)) (ho : r.ob S = some (c, ks, ds)) (hT : T c = true) (ha : ar env S = .ok rs S) : eSup T m ar env S = m (r :: rs) S := by
  unfold eSup
  simp [h0, ho, hT, ha]
/-! ### Firsts -/
def fO (n : Nat) (k : Int) : D := .obj 6 [3, 4, 5] [.int n, thg n, .int k]
theorem firsts_made {n : Nat} {k : Int} (hn : n ≤ 1000) (hk : 0 ≤ k) : mMak 6 Firsts___init___m [.v (.int n), .v (.int k)] S = .ok (.v (fO n k)) S := by
  have hi : Firsts___init___m [.l S.length, .v (.int n), .v (.int k)] (S ++ [.ins 6 [] []]) = .ok (.v .non) (S ++ [.ins 6 [3, 4, 5] [.int n, thg n, .int k]]) := by
    unfold Firsts___init___m
    rw [fnM_ap, if_pos (by rfl)]
    unfold Firsts___init___b
    have e1 : eSup tFirsts Rule___init___m (aCons (eVar 1) aNil) [some (.l S.length), some (.v (.int n)), some (.v (.int k)), none] (S ++ [.ins 6 [] []]) = .ok (.v .non) (S ++ [.ins 6 [3, 4] [.int n, thg n]]) := by
      rw [sup_ap (rs := [.v (.int n)]) rfl ob_end rfl (by simp)]
      exact rule_init rfl hn
    have h1 : ∀ S : Sto, is_count_m [.v (.int k)] S = .ok (.v (.bl true)) S := fun S => by rw [is_count_int, decide_eq_true hk]
    have p1 := mPut_end (S := S) (T := tFirsts) (j := 5) (c := 6) (d := .int k) (ks := [3, 4]) (ds := [.int n, thg n]) rfl (by decide)
    have q1 : putK 5 (D.int k) [3, 4] [.int n, thg n] = ([3, 4, 5], [.int n, thg n, .int k]) := rfl
    rw [q1] at p1
    simp [e1, h1, p1]
  unfold mMak
  rw [hi]
  simp [fO]
theorem firsts_bad_size {d e : D} (hd : odd d = true ∨ ∃ i : Int, d = .int i ∧ i < 0) : mMak 6 Firsts___init___m [.v d, .v e] S = .exc 0 [0] [.str "size"] S := by
  have hi : Firsts___init___m [.l S.length, .v d, .v e] (S ++ [.ins 6 [] []]) = .exc 0 [0] [.str "size"] (S ++ [.ins 6 [] []]) := by
    unfold Firsts___init___m
    rw [fnM_ap, if_pos (by rfl)]
    unfold Firsts___init___b
    have e1 : eSup tFirsts Rule___init___m (aCons (eVar 1) aNil) [some (.l S.length), some (.v d), some (.v e), none] (S ++ [.ins 6 [] []]) = .exc 0 [0] [.str "size"] (S ++ [.ins 6 [] []]) := by
      rw [sup_ap (rs := [.v d]) rfl ob_end rfl (by simp)]
      exact rule_init_bad hd
    simp [e1]
  unfold mMak
  rw [hi]
  simp
theorem firsts_bad_k {n : Nat} {e : D} (hn : n ≤ 1000) (hd : odd e = true ∨ ∃ i : Int, e = .int i ∧ i < 0) : mMak 6 Firsts___init___m [.v (.int n), .v e] S = .exc 0 [0] [.str "k"] S := by
  have hi : Firsts___init___m [.l S.length, .v (.int n), .v e] (S ++ [.ins 6 [] []]) = .exc 0 [0] [.str "k"] (S ++ [.ins 6 [3, 4] [.int n, thg n]]) := by
    unfold Firsts___init___m
    rw [fnM_ap, if_pos (by rfl)]
    unfold Firsts___init___b
    have e1 : eSup tFirsts Rule___init___m (aCons (eVar 1) aNil) [some (.l S.length), some (.v (.int n)), some (.v e), none] (S ++ [.ins 6 [] []]) = .ok (.v .non) (S ++ [.ins 6 [3, 4] [.int n, thg n]]) := by
      rw [sup_ap (rs := [.v (.int n)]) rfl ob_end rfl (by simp)]
      exact rule_init rfl hn
    have h1 : ∀ S : Sto, is_count_m [.v e] S = .ok (.v (.bl false)) S := fun S => by
      rcases hd with h | ⟨i, rfl, h⟩
      · exact is_count_odd h
      · rw [is_count_int, decide_eq_false (by omega)]
    simp [e1, h1]
  unfold mMak
  rw [hi]
  simp
theorem fld_ap {T : Nat → Bool} {j c : Nat} {ks : List Nat} {ds : List D} {d : D} (hT : T c = true) (h : lookK j ks ds = some d) : mFld T j (.v (.obj c ks ds)) S = .ok (.v d) S := by
  unfold mFld R.ob
  simp [hT, h]
theorem firsts_rank {n : Nat} {k : Int} {ds : List D} : Firsts__rank_m [.v (fO n k), .v (.tup ds)] S = .ok (.v (.int (if k < ds.length then k else ds.length))) S := by
  unfold Firsts__rank_m
  rw [fnM_ap, if_pos (by rfl)]
  unfold Firsts__rank_b
  have hr : Rule__rank_m [.v (fO n k), .v (.tup ds)] S = .ok (.v (.int ds.length)) S := by
    unfold Rule__rank_m
    rw [fnM_ap, if_pos (by rfl)]
    unfold Rule__rank_b
    have : mLen [.v (.tup ds)] S = .ok (.v (.int ds.length)) S := SeqR.len (.inl rfl)
    simp [this]
  have e1 : eSup tFirsts Rule__rank_m (aCons (eVar 1) aNil) [some (.v (fO n k)), some (.v (.tup ds)), none] S = .ok (.v (.int ds.length)) S := by
    rw [sup_ap (rs := [.v (.tup ds)]) (c := 6) (ks := [3, 4, 5]) (ds := [.int n, thg n, .int k]) rfl rfl rfl (by simp)]
    exact hr
  have f1 : mFld tFirsts 5 (.v (fO n k)) S = .ok (.v (.int k)) S := fld_ap rfl rfl
  simp [e1, f1, mMin]
/-! ### rank, is_free of any rule -/
structure RuleO (o : D) (n : Nat) (m : FM) : Prop where
  ob : ∃ c ks ds, o = .obj c ks ds ∧ tRule c = true ∧ lookK 3 ks ds = some (.int n) ∧ disp__rank c = some m ∧ disp__free c = some Rule__free_m ∧ disp_rank c = some Rule_rank_m ∧ disp_is_free c = some Rule_is_free_m
theorem free_ok {o : D} {n : Nat} {m : FM} {ds : List D} {k : Int} (h : RuleO o n m) (hm : m [.v o, .v (.tup ds)] S = .ok (.v (.int k)) S) : Rule__free_m [.v o, .v (.tup ds)] S = .ok (.v (.bl (decide (k = ds.length)))) S := by
  obtain ⟨c, ks, es, rfl, h1, h2, h3, h4, h5, h6⟩ := h.ob
  unfold Rule__free_m
  rw [fnM_ap, if_pos (by rfl)]
  unfold Rule__free_b
  have : mLen [.v (.tup ds)] S = .ok (.v (.int ds.length)) S := SeqR.len (.inl rfl)
  have ob : R.ob (.v (.obj c ks es)) S = some (c, ks, es) := rfl
  simp [this, ob, h3, hm]
theorem rank_ok {o : D} {n : Nat} {m : FM} {r : R} {xs : List Int} {k : Int} (h : RuleO o n m) (hs : SeqR r S (xs.map D.int)) (ha : Asc n xs) (hm : m [.v o, .v (.tup (xs.map D.int))] S = .ok (.v (.int k)) S) : Rule_rank_m [.v o, r] S = .ok (.v (.int k)) S := by
  obtain ⟨c, ks, es, rfl, h1, h2, h3, h4, h5, h6⟩ := h.ob
  unfold Rule_rank_m
  rw [fnM_ap, if_pos (by rfl)]
  unfold Rule_rank_b
  have ob : R.ob (.v (.obj c ks es)) S = some (c, ks, es) := rfl
  have f : mFld tRule 3 (.v (.obj c ks es)) S = .ok (.v (.int n)) S := fld_ap h1 h2
  simp [ob, h3, f, set_of_asc hs ha, hm]
theorem is_free_ok {o : D} {n : Nat} {m : FM} {r : R} {xs : List Int} {k : Int} (h : RuleO o n m) (hs : SeqR r S (xs.map D.int)) (ha : Asc n xs) (hm : m [.v o, .v (.tup (xs.map D.int))] S = .ok (.v (.int k)) S) : Rule_is_free_m [.v o, r] S = .ok (.v (.bl (decide (k = xs.length)))) S := by
  have hf := free_ok h hm
  obtain ⟨c, ks, es, rfl, h1, h2, h3, h4, h5, h6⟩ := h.ob
  unfold Rule_is_free_m
  rw [fnM_ap, if_pos (by rfl)]
  unfold Rule_is_free_b
  have ob : R.ob (.v (.obj c ks es)) S = some (c, ks, es) := rfl
  have f : mFld tRule 3 (.v (.obj c ks es)) S = .ok (.v (.int n)) S := fld_ap h1 h2
  rw [List.length_map] at hf
  simp [ob, h4, f, set_of_asc hs ha, hf]
theorem fO_rule {n : Nat} {k : Int} : RuleO (fO n k) n Firsts__rank_m := ⟨⟨_, _, _, rfl, rfl, rfl, rfl, rfl, rfl, rfl⟩⟩
end K03

namespace K03
open PySem Mi
variable {S : Sto}
theorem sTry_ap {M : Nat → Option Bool} {i : Nat} {body suite : SM} {env : Mi.Env} : sTry M i body suite env S = (match body env S with
  | .exc c ks ds env1 S1 => match M c with
    | some true => if cleanE env1 = true then match suite (env1.set i (some (.e c ks ds))) S1 with
        | .ok (.nx env2) S2 => if cleanE (env2.set i none) = true then .ok (.nx (env2.set i none)) S2 else .bad
        | .ok (.rt r) S2 => if isE (some r) = false then .ok (.rt r) S2 else .bad
        | _ => .bad
      else .bad
    | some false => .exc c ks ds env1 S1
    | none => .bad
  | r => r) := rfl
/-- the error is caught -/
theorem try_exc {M : Nat → Option Bool} {i c : Nat} {ks : List Nat} {ds : List D} {body suite : SM} {env env1 env2 : Mi.Env} {S1 S2 : Sto} (hb : body env S = .exc c ks ds env1 S1) (hM : M c = some true) (h1 : cleanE env1 = true) (hs : suite (env1.set i (some (.e c ks ds))) S1 = .ok (.nx env2) S2) (h2 : cleanE (env2.set i none) = true) :
    sTry M i body suite env S = .ok (.nx (env2.set i none)) S2 := by
  unfold sTry
  rw [hb]
  dsimp only
  rw [hM]
  dsimp only
  rw [if_pos h1, hs]
  dsimp only
  rw [if_pos h2]
theorem try_ok {M : Nat → Option Bool} {i : Nat} {body suite : SM} {env env1 : Mi.Env} {S1 : Sto} (hb : body env S = .ok (.nx env1) S1) : sTry M i body suite env S = .ok (.nx env1) S1 := by
  unfold sTry
  rw [hb]
theorem allD_v : ∀ ds : List D, allD (ds.map R.v) = some ds
  | [] => rfl
  | d :: ds => by rw [List.map_cons, allD, allD_v ds]
theorem mLst_v (ds : List D) (h : ds.length ≤ 1000) : mLst (ds.map R.v) S = .ok (.v (.lst ds)) S := by
  unfold mLst
  rw [allD_v]
  show (if ds.length ≤ sizeLine then _ else _) = _
  rw [if_pos (Nat.le_trans h (by rw [sizeLine_eq]; decide))]
theorem mLst_1 {a : D} : mLst [.v a] S = .ok (.v (.lst [a])) S := mLst_v [a] (by simp)
theorem mLst_2 {a b : D} : mLst [.v a, .v b] S = .ok (.v (.lst [a, b])) S := mLst_v [a, b] (by simp)
theorem mLst_3 {a b c : D} : mLst [.v a, .v b, .v c] S = .ok (.v (.lst [a, b, c])) S := mLst_v [a, b, c] (by simp)
theorem mLst_4 {a b c d : D} : mLst [.v a, .v b, .v c, .v d] S = .ok (.v (.lst [a, b, c, d])) S := mLst_v [a, b, c, d] (by simp)
theorem mLst_5 {a b c d e : D} : mLst [.v a, .v b, .v c, .v d, .v e] S = .ok (.v (.lst [a, b, c, d, e])) S := mLst_v [a, b, c, d, e] (by simp)
/-- a drawn entry of a list -/
theorem ix_at {ds : List D} {i : Int} (h0 : 0 ≤ i) (h : i < ds.length) : ∃ d, d ∈ ds ∧ mIx (.v (.lst ds)) (.v (.int i)) S = .ok (.v d) S := by
  have hl : i.toNat < ds.length := by omega
  exact ⟨ds[i.toNat], List.getElem_mem hl, ix_lst h0 (List.getElem?_eq_getElem hl)⟩
theorem shp_str {x : Str} (h : PyData.strOk x = true) : D.shp (.str x) = true := by simp [D.shp, SeqAt.shaped, D.py, PyData.canLay0, PyData.depth, h]
theorem cmEq_str {x y : Str} (hx : PyData.strOk x = true) (hy : PyData.strOk y = true) : cmEq (.v (.str x)) (.v (.str y)) S = .ok (.v (.bl (x == y))) S := by
  simp [cmEq, R.rd, shp_str hx, shp_str hy, D.eqv, D.py, PyData.eqv]
theorem ok_size : PyData.strOk "size" = true := by decide +kernel
theorem ok_k : PyData.strOk "k" = true := by decide +kernel
/-- a number below 0, None or a text -/
def Bad (d : D) : Prop := odd d = true ∨ ∃ i : Int, d = .int i ∧ i < 0
theorem cmIs_self {x : Str} : (x == x) = true := by simp
theorem firsts_hold {c : Cell} {n : Nat} {xs : List Int} (hp : Pool c) (hn : n ≤ 1000) (ha : Asc n xs) : ∃ c', _law_firsts_hold_m [.l 0, .v (.int n), .v (.tup (xs.map D.int))] [c] = .ok (.v (.bl true)) [c'] ∧ Pool c' := by
  obtain ⟨k, c1, e1, p1, k0, k1⟩ := draw_ok (S := []) (m := 18) hp (by decide) (by decide)
  obtain ⟨w, c2, e2, p2, w0, w1⟩ := draw_ok (S := []) (m := 2) p1 (by decide) (by decide)
  obtain ⟨v, c3, e3, p3, v0, v1⟩ := draw_ok (S := []) (m := 3) p2 (by decide) (by decide)
  have made := firsts_made (S := [c1]) (n := n) (k := k) hn k0
  have rk := rank_ok (S := [c1]) (r := .v (.lst (xs.map D.int))) (fO_rule (n := n) (k := k)) (.inr (.inl rfl)) ha firsts_rank
  have fr := is_free_ok (S := [c1]) (r := .v (.tup (xs.map D.int))) (fO_rule (n := n) (k := k)) (.inl rfl) ha firsts_rank
  rw [List.length_map] at rk fr
  have hlen : mLen [.v (.tup (xs.map D.int))] [c1] = .ok (.v (.int xs.length)) [c1] := by rw [SeqR.len (.inl rfl), List.length_map]
  have hlist : mList [.v (.tup (xs.map D.int))] [c1] = .ok (.v (.lst (xs.map D.int))) [c1] := rfl
  have hmin : mMin [.v (.int k), .v (.int xs.length)] [c1] = .ok (.v (.int (if k < (xs.length : Int) then k else xs.length))) [c1] := by
    show Res.ok (R.v (.int (if (xs.length : Int) < k then (xs.length : Int) else k))) [c1] = _
    have : (if (xs.length : Int) < k then (xs.length : Int) else k) = (if k < (xs.length : Int) then k else (xs.length : Int)) := by split <;> split <;> omega
    rw [this]
  have f5 : mFld tFirsts 5 (.v (fO n k)) [c1] = .ok (.v (.int k)) [c1] := fld_ap rfl rfl
  have f3 : mFld tRule 3 (.v (fO n k)) [c1] = .ok (.v (.int n)) [c1] := fld_ap rfl rfl
  have ob : R.ob (.v (fO n k)) [c1] = some (6, [3, 4, 5], [.int n, thg n, .int k]) := rfl
  have d1 : disp_rank 6 = some Rule_rank_m := rfl
  have d2 : disp_is_free 6 = some Rule_is_free_m := rfl
  have hfree : decide ((if k < (xs.length : Int) then k else (xs.length : Int)) = (xs.length : Int)) = decide ((xs.length : Int) ≤ k) := by
    by_cases h : k < (xs.length : Int)
    · rw [if_pos h, decide_eq_false (by omega), decide_eq_false (by omega)]
    · rw [if_neg h, decide_eq_true rfl, decide_eq_true (by omega)]
  rw [hfree] at fr
  obtain ⟨bd, hbd, hix⟩ : ∃ bd, Bad bd ∧ mIx (.v (.lst [.int (-1 - k), .non, .str "3"])) (.v (.int v)) [c3] = .ok (.v bd) [c3] := by
    obtain ⟨d, hd, e⟩ := ix_at (S := [c3]) (ds := [.int (-1 - k), .non, .str "3"]) v0 (by simpa using v1)
    refine ⟨d, ?_, e⟩
    simp only [List.mem_cons, List.not_mem_nil, or_false] at hd
    rcases hd with rfl | rfl | rfl
    · exact .inr ⟨_, rfl, by omega⟩
    · exact .inl rfl
    · exact .inl rfl
  refine ⟨c3, ?_, p3⟩
  unfold _law_firsts_hold_m
  rw [fnM_ap, if_pos (by rfl)]
  unfold _law_firsts_hold_b
  have x0 : eBN 0 = some true := rfl
  have x1 : mXf tBN 0 (.e 0 [0] [.str "size"]) [c3] = .ok (.v (.str "size")) [c3] := rfl
  have x2 : mXf tBN 0 (.e 0 [0] [.str "k"]) [c3] = .ok (.v (.str "k")) [c3] := rfl
  have x3 : ∀ d, mIsX iPE (.e 0 [0] [d]) [c3] = .ok (.v (.bl true)) [c3] := fun d => rfl
  have x4 : ∀ d, mIsX iBE (.e 0 [0] [d]) [c3] = .ok (.v (.bl false)) [c3] := fun d => rfl
  have hw : w = 0 ∨ w = 1 := by omega
  rcases hw with rfl | rfl
  · have bs : mMak 6 Firsts___init___m [.v bd, .v (.int (-1))] [c3] = .exc 0 [0] [.str "size"] [c3] := firsts_bad_size hbd
    have ix : mIx (.v (.lst [.str "size", .str "k"])) (.v (.int 0)) [c3] = .ok (.v (.str "size")) [c3] := rfl
    simp [e1, e2, e3, made, f5, f3, ob, d1, d2, hlist, hlen, rk, fr, hmin, mLst_3, mLst_2, hix, sTry_ap, bs, x0, x1, x3, x4, cleanE, isE, ix, cmEq_str ok_size ok_size]
  · have bs : mMak 6 Firsts___init___m [.v (.int n), .v bd] [c3] = .exc 0 [0] [.str "k"] [c3] := firsts_bad_k hn hbd
    have ix : mIx (.v (.lst [.str "size", .str "k"])) (.v (.int 1)) [c3] = .ok (.v (.str "k")) [c3] := rfl
    simp [e1, e2, e3, made, f5, f3, ob, d1, d2, hlist, hlen, rk, fr, hmin, mLst_3, mLst_2, hix, sTry_ap, bs, x0, x2, x3, x4, cleanE, isE, ix, cmEq_str ok_k ok_k]
end K03

namespace K03
open PySem Mi
variable {S : Sto}
theorem SeqR.app {r : R} {ds : List D} {t : Sto} (h : SeqR r S ds) : SeqR r (S ++ t) ds := by
  rcases h with rfl | rfl | ⟨k, rfl, e⟩
  · exact .inl rfl
  · exact .inr (.inl rfl)
  · exact .inr (.inr ⟨k, rfl, by rw [List.getElem?_append_left (List.getElem?_eq_some_iff.mp e).1]; exact e⟩)
def thingB (n : Int) : D → Bool
  | .int i => decide (0 ≤ i ∧ i < n)
  | _ => false
def countB : D → Bool
  | .int i => decide (0 ≤ i)
  | _ => false
theorem is_thing_fine {n : Int} {d : D} (h : fine d = true) : is_thing_m [.v (.int n), .v d] S = .ok (.v (.bl (thingB n d))) S := by
  cases d with
  | int i => exact is_thing_int
  | non => exact is_thing_odd rfl
  | str x => exact is_thing_odd rfl
  | _ => cases h
theorem is_count_fine {d : D} (h : fine d = true) : is_count_m [.v d] S = .ok (.v (.bl (countB d))) S := by
  cases d with
  | int i => exact is_count_int
  | non => exact is_count_odd rfl
  | str x => exact is_count_odd rfl
  | _ => cases h
/-- the first entry that is not P -/
def fbF (P : D → Bool) : Nat → List D → Option Nat
  | _, [] => none
  | k, d :: ds => if P d = true then fbF P (k + 1) ds else some k
/-- the same but for two slots -/
def Two (env : Mi.Env) (i j : Nat) (env' : Mi.Env) : Prop := env' = env ∨ ∃ a b, env' = (env.set i a).set j b
theorem Two.put {env env' : Mi.Env} {i j : Nat} (hij : i ≠ j) (h : Two env i j env') (a b : Option R) : (env'.set i a).set j b = (env.set i a).set j b := by
  rcases h with rfl | ⟨a', b', rfl⟩
  · rfl
  · rw [List.set_comm _ _ (Ne.symm hij), List.set_set, List.set_set]
theorem chk_go {body : SM} {i j : Nat} {P : D → Bool} {gd : Gd} (hg : GdOk gd S) {env : Mi.Env} (hij : i ≠ j)
    (hb : ∀ (k : Nat) (d : D), fine d = true → body ((env.set i (some (.v (.int k)))).set j (some (.v d))) S = if P d = true then .ok (.nx ((env.set i (some (.v (.int k)))).set j (some (.v d)))) S else .exc 2 [1] [.int k] ((env.set i (some (.v (.int k)))).set j (some (.v d))) S) :
    ∀ (ds : List D) (k : Nat) (env0 : Mi.Env), Two env i j env0 → ds.all fine = true →
      (fbF P k ds = none → ∃ env', forGo (tgTup [tgName i, tgName j]) body gd (enumD k ds) env0 S = .ok (.nx env') S ∧ Two env i j env') ∧
      (∀ p, fbF P k ds = some p → ∃ env', forGo (tgTup [tgName i, tgName j]) body gd (enumD k ds) env0 S = .exc 2 [1] [.int p] env' S)
  | [], k, env0, h0, _ => ⟨fun _ => ⟨env0, forGo_nil hg, h0⟩, fun p h => (by cases h)⟩
  | d :: ds, k, env0, h0, hf => by
    simp only [List.all_cons, Bool.and_eq_true] at hf
    obtain ⟨hd, ht⟩ := hf
    rw [enumD, forGo_cons hg tgTup2_ap, h0.put hij, hb k d hd, fbF]
    cases hp : P d with
    | true =>
      rw [if_pos rfl, if_pos rfl]
      exact chk_go hg hij hb ds (k + 1) _ (.inr ⟨_, _, rfl⟩) ht
    | false =>
      rw [if_neg Bool.false_ne_true, if_neg Bool.false_ne_true]
      exact ⟨fun z => (by cases z), fun p z => (by cases z; exact ⟨_, rfl⟩)⟩
/-! ### Teams made -/
def tO (n : Nat) (cs ps : List Int) : D := .obj 7 [3, 4, 6, 7] [.int n, thg n, .tup (cs.map D.int), .tup (ps.map D.int)]
section
variable {r1 r2 : R} {ds es : List D}
theorem t_l1 {o x3 x6 : Option R} (h2 : SeqR r2 S es) (k : Nat) (d : D) (hd : fine d = true) (x4 x5 : Option R) : Teams___init___l1 ((([o, some r1, some r2, x3, x4, x5, x6] : Mi.Env).set 4 (some (.v (.int k)))).set 5 (some (.v d))) S =
    if thingB es.length d = true then .ok (.nx ((([o, some r1, some r2, x3, x4, x5, x6] : Mi.Env).set 4 (some (.v (.int k)))).set 5 (some (.v d)))) S else .exc 2 [1] [.int k] ((([o, some r1, some r2, x3, x4, x5, x6] : Mi.Env).set 4 (some (.v (.int k)))).set 5 (some (.v d))) S := by
  unfold Teams___init___l1
  cases h : thingB es.length d <;> simp [h2.len, is_thing_fine hd, h]
theorem t_l2 {o x3 x5 : Option R} (k : Nat) (d : D) (hd : fine d = true) (x4 x6 : Option R) : Teams___init___l2 ((([o, some r1, some r2, x3, x4, x5, x6] : Mi.Env).set 4 (some (.v (.int k)))).set 6 (some (.v d))) S =
    if countB d = true then .ok (.nx ((([o, some r1, some r2, x3, x4, x5, x6] : Mi.Env).set 4 (some (.v (.int k)))).set 6 (some (.v d)))) S else .exc 2 [1] [.int k] ((([o, some r1, some r2, x3, x4, x5, x6] : Mi.Env).set 4 (some (.v (.int k)))).set 6 (some (.v d))) S := by
  unfold Teams___init___l2
  cases h : countB d <;> simp [is_count_fine hd, h]
theorem teams_bad1 {p : Nat} (h1 : SeqR r1 S ds) (h2 : SeqR r2 S es) (hd : ds.all fine = true) (hb : fbF (thingB es.length) 0 ds = some p) : mMak 7 Teams___init___m [r1, r2] S = .exc 2 [1] [.int p] S := by
  have hi : Teams___init___m [.l S.length, r1, r2] (S ++ [.ins 7 [] []]) = .exc 2 [1] [.int p] (S ++ [.ins 7 [] []]) := by
    unfold Teams___init___m
    rw [fnM_ap, if_pos (by rfl)]
    unfold Teams___init___b
    obtain ⟨gd, hs, hg⟩ := (h1.app (t := [.ins 7 [] []])).src
    have i1 : iEnum (aCons (eVar 1) aNil) [some (.l S.length), some r1, some r2, none, none, none, none] (S ++ [.ins 7 [] []]) = .ok (enumD 0 ds, gd) (S ++ [.ins 7 [] []]) := iEnum_ap (by simp) hs
    obtain ⟨env', e⟩ := (chk_go (i := 4) (j := 5) hg (by decide) (fun k d hd => t_l1 (o := some (.l S.length)) (r1 := r1) (x3 := none) (x6 := none) (h2.app (t := [.ins 7 [] []])) k d hd none none) ds 0 _ (.inl rfl) hd).2 p hb
    simp [i1, e]
  unfold mMak
  rw [hi]
  simp
theorem teams_bad2 {p : Nat} (h1 : SeqR r1 S ds) (h2 : SeqR r2 S es) (hd : ds.all fine = true) (he : es.all fine = true) (hb1 : fbF (thingB es.length) 0 ds = none) (hb : fbF countB 0 es = some p) : mMak 7 Teams___init___m [r1, r2] S = .exc 2 [1] [.int p] S := by
  have hi : Teams___init___m [.l S.length, r1, r2] (S ++ [.ins 7 [] []]) = .exc 2 [1] [.int p] (S ++ [.ins 7 [] []]) := by
    unfold Teams___init___m
    rw [fnM_ap, if_pos (by rfl)]
    unfold Teams___init___b
    obtain ⟨gd, hs, hg⟩ := (h1.app (t := [.ins 7 [] []])).src
    obtain ⟨gd2, hs2, hg2⟩ := (h2.app (t := [.ins 7 [] []])).src
    have i1 : iEnum (aCons (eVar 1) aNil) [some (.l S.length), some r1, some r2, none, none, none, none] (S ++ [.ins 7 [] []]) = .ok (enumD 0 ds, gd) (S ++ [.ins 7 [] []]) := iEnum_ap (by simp) hs
    obtain ⟨env', e, ht⟩ := (chk_go (i := 4) (j := 5) hg (by decide) (fun k d hd => t_l1 (o := some (.l S.length)) (r1 := r1) (x3 := none) (x6 := none) (h2.app (t := [.ins 7 [] []])) k d hd none none) ds 0 _ (.inl rfl) hd).1 hb1
    obtain ⟨x4, x5, rfl⟩ : ∃ x4 x5, env' = [some (.l S.length), some r1, some r2, none, x4, x5, none] := by
      rcases ht with rfl | ⟨a, b, rfl⟩
      · exact ⟨none, none, rfl⟩
      · exact ⟨a, b, rfl⟩
    have i2 : iEnum (aCons (eVar 2) aNil) [some (.l S.length), some r1, some r2, none, x4, x5, none] (S ++ [.ins 7 [] []]) = .ok (enumD 0 es, gd2) (S ++ [.ins 7 [] []]) := iEnum_ap (by simp) hs2
    obtain ⟨env2, e2⟩ := (chk_go (i := 4) (j := 6) hg2 (by decide) (fun k d hd => t_l2 (o := some (.l S.length)) (r1 := r1) (r2 := r2) (x3 := none) (x5 := x5) k d hd x4 none) es 0 _ (.inl rfl) he).2 p hb
    simp [i1, e, i2, e2]
  unfold mMak
  rw [hi]
  simp
theorem teams_made {cs ps : List Int} (h1 : SeqR r1 S (cs.map D.int)) (h2 : SeqR r2 S (ps.map D.int)) (hn : cs.length ≤ 1000) (hb1 : fbF (thingB ps.length) 0 (cs.map D.int) = none) (hb : fbF countB 0 (ps.map D.int) = none) :
    mMak 7 Teams___init___m [r1, r2] S = .ok (.v (tO cs.length cs ps)) S := by
  have hi : Teams___init___m [.l S.length, r1, r2] (S ++ [.ins 7 [] []]) = .ok (.v .non) (S ++ [.ins 7 [3, 4, 6, 7] [.int cs.length, thg cs.length, .tup (cs.map D.int), .tup (ps.map D.int)]]) := by
    unfold Teams___init___m
    rw [fnM_ap, if_pos (by rfl)]
    unfold Teams___init___b
    obtain ⟨gd, hs, hg⟩ := (h1.app (t := [.ins 7 [] []])).src
    obtain ⟨gd2, hs2, hg2⟩ := (h2.app (t := [.ins 7 [] []])).src
    have i1 : iEnum (aCons (eVar 1) aNil) [some (.l S.length), some r1, some r2, none, none, none, none] (S ++ [.ins 7 [] []]) = .ok (enumD 0 (cs.map D.int), gd) (S ++ [.ins 7 [] []]) := iEnum_ap (by simp) hs
    obtain ⟨env', e, ht⟩ := (chk_go (i := 4) (j := 5) hg (by decide) (fun k d hd => t_l1 (o := some (.l S.length)) (r1 := r1) (x3 := none) (x6 := none) (h2.app (t := [.ins 7 [] []])) k d hd none none) (cs.map D.int) 0 _ (.inl rfl) (fine_ints cs)).1 (by rw [List.length_map]; exact hb1)
    obtain ⟨x4, x5, rfl⟩ : ∃ x4 x5, env' = [some (.l S.length), some r1, some r2, none, x4, x5, none] := by
      rcases ht with rfl | ⟨a, b, rfl⟩
      · exact ⟨none, none, rfl⟩
      · exact ⟨a, b, rfl⟩
    have i2 : iEnum (aCons (eVar 2) aNil) [some (.l S.length), some r1, some r2, none, x4, x5, none] (S ++ [.ins 7 [] []]) = .ok (enumD 0 (ps.map D.int), gd2) (S ++ [.ins 7 [] []]) := iEnum_ap (by simp) hs2
    obtain ⟨env2, e2, ht2⟩ := (chk_go (i := 4) (j := 6) hg2 (by decide) (fun k d hd => t_l2 (o := some (.l S.length)) (r1 := r1) (r2 := r2) (x3 := none) (x5 := x5) k d hd x4 none) (ps.map D.int) 0 _ (.inl rfl) (fine_ints ps)).1 hb
    obtain ⟨y4, y6, rfl⟩ : ∃ y4 y6, env2 = [some (.l S.length), some r1, some r2, none, y4, x5, y6] := by
      rcases ht2 with rfl | ⟨a, b, rfl⟩
      · exact ⟨x4, none, rfl⟩
      · exact ⟨a, b, rfl⟩
    have hl : mLen [r1] (S ++ [.ins 7 [] []]) = .ok (.v (.int cs.length)) (S ++ [.ins 7 [] []]) := by rw [(h1.app).len, List.length_map]
    have e3 : eSup tTeams Rule___init___m (aCons (eApp mLen (aCons (eVar 1) aNil)) aNil) [some (.l S.length), some r1, some r2, none, y4, x5, y6] (S ++ [.ins 7 [] []]) = .ok (.v .non) (S ++ [.ins 7 [3, 4] [.int cs.length, thg cs.length]]) := by
      rw [sup_ap (rs := [.v (.int cs.length)]) rfl ob_end rfl (by simp [hl])]
      exact rule_init rfl hn
    have t1 : mTuple [r1] (S ++ [.ins 7 [3, 4] [.int cs.length, thg cs.length]]) = .ok (.v (.tup (cs.map D.int))) (S ++ [.ins 7 [3, 4] [.int cs.length, thg cs.length]]) := h1.app.tup
    have t2 : mTuple [r2] (S ++ [.ins 7 [3, 4, 6] [.int cs.length, thg cs.length, .tup (cs.map D.int)]]) = .ok (.v (.tup (ps.map D.int))) (S ++ [.ins 7 [3, 4, 6] [.int cs.length, thg cs.length, .tup (cs.map D.int)]]) := h2.app.tup
    have p1 := mPut_end (S := S) (T := tTeams) (j := 6) (c := 7) (d := .tup (cs.map D.int)) (ks := [3, 4]) (ds := [.int cs.length, thg cs.length]) rfl (by decide)
    have q1 : putK 6 (D.tup (cs.map D.int)) [3, 4] [.int cs.length, thg cs.length] = ([3, 4, 6], [.int cs.length, thg cs.length, .tup (cs.map D.int)]) := rfl
    rw [q1] at p1
    have p2 := mPut_end (S := S) (T := tTeams) (j := 7) (c := 7) (d := .tup (ps.map D.int)) (ks := [3, 4, 6]) (ds := [.int cs.length, thg cs.length, .tup (cs.map D.int)]) rfl (by decide)
    have q2 : putK 7 (D.tup (ps.map D.int)) [3, 4, 6] [.int cs.length, thg cs.length, .tup (cs.map D.int)] = ([3, 4, 6, 7], [.int cs.length, thg cs.length, .tup (cs.map D.int), .tup (ps.map D.int)]) := rfl
    rw [q2] at p2
    simp [i1, e, i2, e2, e3, t1, p1, t2, p2]
  unfold mMak
  rw [hi]
  simp [tO]
end
end K03

namespace K03
open PySem Mi
variable {S : Sto}
theorem enumD_ints : ∀ (ps : List Int) (k : Nat), enumD k (ps.map D.int) = (ps.zipIdx k).map fun q => .tup [.int (q.2 : Nat), .int q.1]
  | [], _ => rfl
  | p :: ps, k => by
    rw [List.map_cons, enumD, enumD_ints ps (k + 1), List.zipIdx_cons, List.map_cons]
theorem intsD_ints : ∀ ns : List Int, intsD (ns.map D.int) = some ns
  | [] => rfl
  | n :: ns => by rw [List.map_cons, intsD, intsD_ints ns]
theorem blsD_bls : ∀ ns : List Bool, blsD (ns.map D.bl) = some ns
  | [] => rfl
  | n :: ns => by rw [List.map_cons, blsD, blsD_bls ns]
theorem mSum_ints {ns : List Int} : mSum [.v (.lst (ns.map D.int))] S = .ok (.v (.int ns.sum)) S := by
  unfold mSum R.lsq
  simp [intsD_ints]
theorem mAll_bls {ns : List Bool} : mAll [.v (.lst (ns.map D.bl))] S = .ok (.v (.bl (ns.all id))) S := by
  unfold mAll R.lsq
  simp [blsD_bls]
theorem iSeq_ap {fe : EM} {env : Mi.Env} {r : R} {ds : List D} {gd : Gd} (h : fe env S = .ok r S) (hs : srcOf r S = some (ds, gd)) : iSeq fe env S = .ok (ds, gd) S := by
  unfold iSeq
  rw [h]
  simp [hs]
/-- what stands at x -/
def at0 (cs : List Int) (x : Int) : Int := cs.getD x.toNat 0
theorem at0_get {cs : List Int} {x : Int} (h0 : 0 ≤ x) (h : x < cs.length) : (cs.map D.int)[x.toNat]? = some (.int (at0 cs x)) := by
  have hl : x.toNat < cs.length := by omega
  rw [List.getElem?_map, List.getElem?_eq_getElem hl]
  unfold at0
  rw [List.getD_eq_getElem?_getD, List.getElem?_eq_getElem hl]
  rfl
theorem ix_at0 {cs : List Int} {x : Int} (h0 : 0 ≤ x) (h : x < cs.length) : mIx (.v (.tup (cs.map D.int))) (.v (.int x)) S = .ok (.v (.int (at0 cs x))) S := ix_tup h0 (at0_get h0 h)
theorem ix_at0l {cs : List Int} {x : Int} (h0 : 0 ≤ x) (h : x < cs.length) : mIx (.v (.lst (cs.map D.int))) (.v (.int x)) S = .ok (.v (.int (at0 cs x))) S := ix_lst h0 (at0_get h0 h)
/-- the lesser one -/
def lo (c p : Int) : Int := if p < c then p else c
def gsOf (cs xs : List Int) : List Int := xs.map (at0 cs)
def tRank (cs ps xs : List Int) : Int := (ps.zipIdx.map fun q => lo ((gsOf cs xs).count (q.2 : Int) : Nat) q.1).sum
theorem len1000 {α : Type} {l : List α} (h : l.length ≤ 1000) : l.length ≤ sizeLine := Nat.le_trans h (by rw [sizeLine_eq]; decide)
theorem teams_rank {n : Nat} {cs ps xs : List Int} (hn : cs.length = n) (hx : xs.length ≤ 1000) (hps : ps.length ≤ 1000) (ha : Asc n xs) : Teams__rank_m [.v (tO n cs ps), .v (.tup (xs.map D.int))] S = .ok (.v (.int (tRank cs ps xs))) S := by
  unfold Teams__rank_m
  rw [fnM_ap, if_pos (by rfl)]
  unfold Teams__rank_b
  have f6 : mFld tTeams 6 (.v (tO n cs ps)) S = .ok (.v (.tup (cs.map D.int))) S := fld_ap rfl rfl
  have f7 : mFld tTeams 7 (.v (tO n cs ps)) S = .ok (.v (.tup (ps.map D.int))) S := fld_ap rfl rfl
  have l1 : lcGo (tgName 3) tYesM Teams__rank_c1 none (wipeE [some (.v (tO n cs ps)), some (.v (.tup (xs.map D.int))), none, none, none, none] [3]) (xs.map D.int) S = .ok ((gsOf cs xs).map D.int) S := by
    have := lc_pure (S := S) (tg := tgName 3) (tt := tYesM) (fe := Teams__rank_c1) (gd := none) (env0 := wipeE [some (.v (tO n cs ps)), some (.v (.tup (xs.map D.int))), none, none, none, none] [3]) D.int (fun x => [some (.v (tO n cs ps)), some (.v (.tup (xs.map D.int))), none, some (.v (.int x)), none, none]) (fun _ => true) (fun x => .int (at0 cs x)) trivial xs
      (fun x hx => ⟨rfl, rfl, fun _ => by
        have h := ha.2 x hx
        unfold Teams__rank_c1
        simp [f6, ix_at0 (S := S) (cs := cs) h.1 (by omega)]⟩)
    rw [filter_yes] at this
    rw [this, gsOf, List.map_map]
    rfl
  have l2 : lcGo (tgTup [tgName 4, tgName 5]) tYesM Teams__rank_c2 none (wipeE [some (.v (tO n cs ps)), some (.v (.tup (xs.map D.int))), some (.v (.lst ((gsOf cs xs).map D.int))), none, none, none] [4, 5]) (enumD 0 (ps.map D.int)) S = .ok ((ps.zipIdx.map fun q => lo ((gsOf cs xs).count (q.2 : Int) : Nat) q.1).map D.int) S := by
    rw [enumD_ints]
    have := lc_pure (S := S) (tg := tgTup [tgName 4, tgName 5]) (tt := tYesM) (fe := Teams__rank_c2) (gd := none) (env0 := wipeE [some (.v (tO n cs ps)), some (.v (.tup (xs.map D.int))), some (.v (.lst ((gsOf cs xs).map D.int))), none, none, none] [4, 5]) (fun q : Int × Nat => D.tup [.int (q.2 : Nat), .int q.1])
      (fun q => [some (.v (tO n cs ps)), some (.v (.tup (xs.map D.int))), some (.v (.lst ((gsOf cs xs).map D.int))), none, some (.v (.int (q.2 : Nat))), some (.v (.int q.1))]) (fun _ => true) (fun q => .int (lo ((gsOf cs xs).count (q.2 : Int) : Nat) q.1)) trivial ps.zipIdx
      (fun q hq => ⟨rfl, rfl, fun _ => by
        unfold Teams__rank_c2
        have h1 : R.lsq (.v (.lst ((gsOf cs xs).map D.int))) S = some ((gsOf cs xs).map D.int) := rfl
        have h2 : mCnt (.v (.lst ((gsOf cs xs).map D.int))) [.v (.int (q.2 : Nat))] S = .ok (.v (.int ((gsOf cs xs).count (q.2 : Int) : Nat))) S := by
          unfold mCnt
          simp [h1, intsD_ints]
        have h3 : ∀ a b : Int, mMin [.v (.int a), .v (.int b)] S = .ok (.v (.int (lo a b))) S := fun a b => rfl
        simp [h1, h2, h3]⟩)
    rw [filter_yes] at this
    rw [this, List.map_map]
    rfl
  have i1 : iSeq (eVar 1) [some (.v (tO n cs ps)), some (.v (.tup (xs.map D.int))), none, none, none, none] S = .ok (xs.map D.int, none) S := iSeq_ap (r := .v (.tup (xs.map D.int))) rfl rfl
  have i2 : iEnum (aCons (eUn (mFld tTeams 7) (eVar 0)) aNil) [some (.v (tO n cs ps)), some (.v (.tup (xs.map D.int))), some (.v (.lst ((gsOf cs xs).map D.int))), none, none, none] S = .ok (enumD 0 (ps.map D.int), none) S := iEnum_ap (r := .v (.tup (ps.map D.int))) (by simp [f7]) rfl
  have z1 : xs.length ≤ sizeLine := len1000 hx
  have z2 : (enumD 0 (ps.map D.int)).length ≤ sizeLine := by rw [enumD_len, List.length_map]; exact len1000 hps
  obtain ⟨rs, hr, l2⟩ : ∃ rs : List Int, tRank cs ps xs = rs.sum ∧ lcGo (tgTup [tgName 4, tgName 5]) tYesM Teams__rank_c2 none (wipeE [some (.v (tO n cs ps)), some (.v (.tup (xs.map D.int))), some (.v (.lst ((gsOf cs xs).map D.int))), none, none, none] [4, 5]) (enumD 0 (ps.map D.int)) S = .ok (rs.map D.int) S := ⟨_, rfl, l2⟩
  rw [hr]
  simp [i1, z1, l1, i2, z2, l2, mSum_ints]
/-! ### sums of lesser ones -/
theorem sum_lo : ∀ (L : List (Int × Int)), (L.map fun q => lo q.1 q.2).sum ≤ (L.map (·.1)).sum ∧ ((L.map fun q => lo q.1 q.2).sum = (L.map (·.1)).sum ↔ ∀ q ∈ L, q.1 ≤ q.2)
  | [] => ⟨Int.le_refl _, ⟨fun _ q h => (by cases h), fun _ => rfl⟩⟩
  | (a, b) :: L => by
    obtain ⟨h1, h2⟩ := sum_lo L
    simp only [List.map_cons, List.sum_cons]
    have hl : lo a b ≤ a := by unfold lo; split <;> omega
    refine ⟨by omega, fun h q hq => ?_, fun h => ?_⟩
    · have e1 : lo a b = a := by omega
      have e2 := h2.mp (by omega)
      rcases List.mem_cons.mp hq with rfl | hq
      · show a ≤ b
        unfold lo at e1
        split at e1 <;> omega
      · exact e2 q hq
    · have e2 := h2.mpr fun q hq => h q (List.mem_cons_of_mem _ hq)
      have e1 : lo a b = a := by
        have : a ≤ b := h (a, b) List.mem_cons_self
        unfold lo
        rw [if_neg (by omega)]
      omega
theorem sum_count {m : Nat} : ∀ (gs : List Int), (∀ g ∈ gs, 0 ≤ g ∧ g < m) → ((List.range m).map fun (c : Nat) => ((gs.count (c : Int) : Nat) : Int)).sum = gs.length
  | [], _ => by
    have : (List.range m).map (fun (c : Nat) => ((([] : List Int).count (c : Int) : Nat) : Int)) = (List.range m).map fun _ => 0 := by simp
    rw [this]
    induction m with
    | zero => rfl
    | succ m ih =>
      rw [List.range_succ, List.map_append, List.sum_append]
      simp at ih ⊢
      exact ih
  | g :: gs, h => by
    have ih := sum_count gs fun x hx => h x (List.mem_cons_of_mem _ hx)
    have hg := h g List.mem_cons_self
    have key : ∀ l : List Nat, l.Nodup → (l.map fun (c : Nat) => (((g :: gs).count (c : Int) : Nat) : Int)).sum = (l.map fun (c : Nat) => ((gs.count (c : Int) : Nat) : Int)).sum + (if g.toNat ∈ l then 1 else 0) := by
      intro l
      induction l with
      | nil => intro _; simp
      | cons c l ihl =>
        intro hn
        have hn' := List.nodup_cons.mp hn
        have ih2 := ihl hn'.2
        rw [List.map_cons, List.map_cons, List.sum_cons, List.sum_cons, ih2, List.count_cons]
        by_cases hc : g = (c : Int)
        · have hgc : g.toNat = c := by omega
          have e1 : (g == (c : Int)) = true := by simp [hc]
          rw [e1, if_pos rfl, if_neg (by rw [hgc]; exact hn'.1), if_pos (by rw [hgc]; exact List.mem_cons_self)]
          omega
        · have hgc : g.toNat ≠ c := by omega
          have e1 : (g == (c : Int)) = false := by simp [hc]
          rw [e1, if_neg Bool.false_ne_true]
          by_cases hm : g.toNat ∈ l
          · rw [if_pos hm, if_pos (List.mem_cons_of_mem _ hm)]
            omega
          · rw [if_neg hm, if_neg (by simp [hgc, hm])]
            omega
    rw [key _ List.nodup_range, ih, if_pos (List.mem_range.mpr (by omega)), List.length_cons]
    omega
/-- the list of the law: counts and places, class by class -/
def prs (gs ps : List Int) : List (Int × Int) := (List.range ps.length).map fun (c : Nat) => (((gs.count (c : Int) : Nat) : Int), at0 ps (c : Int))
theorem tRank_prs {cs ps xs : List Int} : tRank cs ps xs = ((prs (gsOf cs xs) ps).map fun q => lo q.1 q.2).sum := by
  unfold tRank prs
  congr 1
  rw [List.map_map]
  apply List.ext_getElem
  · simp
  · intro i h1 h2
    have hi : i < ps.length := by simpa using h1
    simp [at0, List.getD_eq_getElem?_getD, hi]
theorem prs_free {gs ps : List Int} (hg : ∀ g ∈ gs, 0 ≤ g ∧ g < ps.length) : (((prs gs ps).map fun q => lo q.1 q.2).sum = gs.length) ↔ ∀ q ∈ prs gs ps, q.1 ≤ q.2 := by
  have h1 : ((prs gs ps).map (·.1)).sum = gs.length := by
    unfold prs
    rw [List.map_map]
    exact sum_count gs hg
  rw [← h1]
  exact (sum_lo (prs gs ps)).2
theorem tO_rule {n : Nat} {cs ps : List Int} : RuleO (tO n cs ps) n Teams__rank_m := ⟨⟨_, _, _, rfl, rfl, rfl, rfl, rfl, rfl, rfl⟩⟩
end K03

namespace K03
open PySem Mi
variable {S : Sto}
theorem fbF_none {P : D → Bool} : ∀ {ds : List D} {k : Nat}, (∀ d ∈ ds, P d = true) → fbF P k ds = none
  | [], _, _ => rfl
  | d :: ds, k, h => by
    rw [fbF, if_pos (h d List.mem_cons_self)]
    exact fbF_none fun e he => h e (List.mem_cons_of_mem _ he)
theorem fbF_some {P : D → Bool} {d : D} {bs : List D} (hd : P d = false) : ∀ {as : List D} {k : Nat}, (∀ a ∈ as, P a = true) → fbF P k (as ++ d :: bs) = some (k + as.length)
  | [], k, _ => by
    rw [List.nil_append, fbF, hd, if_neg Bool.false_ne_true]
    rfl
  | a :: as, k, h => by
    rw [List.cons_append, fbF, if_pos (h a List.mem_cons_self), fbF_some hd fun e he => h e (List.mem_cons_of_mem _ he), List.length_cons]
    congr 1
    omega
theorem mem_ints {P : D → Bool} {cs : List Int} (h : ∀ c ∈ cs, P (.int c) = true) : ∀ d ∈ cs.map D.int, P d = true := fun d hd => by
  obtain ⟨c, hc, rfl⟩ := List.mem_map.mp hd
  exact h c hc
theorem ints_of {Q : Int → Prop} : ∀ {ys : List D}, (∀ y ∈ ys, ∃ i : Int, y = .int i ∧ Q i) → ∃ ps : List Int, ys = ps.map D.int ∧ ∀ i ∈ ps, Q i
  | [], _ => ⟨[], rfl, fun i h => (by cases h)⟩
  | y :: ys, h => by
    obtain ⟨i, rfl, hi⟩ := h y List.mem_cons_self
    obtain ⟨ps, e, hp⟩ := ints_of fun z hz => h z (List.mem_cons_of_mem _ hz)
    refine ⟨i :: ps, by rw [e, List.map_cons], fun j hj => ?_⟩
    rcases List.mem_cons.mp hj with rfl | hj
    · exact hi
    · exact hp j hj
theorem opAdd_lst {as bs : List D} (h : as.length + bs.length ≤ 1000) : opAdd (.v (.lst as)) (.v (.lst bs)) S = .ok (.v (.lst (as ++ bs))) S := by
  have : as.length + bs.length ≤ sizeLine := Nat.le_trans h (by rw [sizeLine_eq]; decide)
  unfold opAdd R.lis
  simp [this]
theorem sl_to {ds : List D} {i : Int} (h0 : 0 ≤ i) : mSl (.v (.lst ds)) none (some i) S = .ok (.v (.lst (ds.take i.toNat))) S := by
  have e : cutD ds none (some i) = ds.take i.toNat := by
    unfold cutD HT.sIx
    simp only [List.drop_zero, Nat.sub_zero]
    rw [if_neg (by omega)]
    by_cases h : i.toNat ≤ ds.length
    · rw [Nat.min_eq_left h]
    · rw [Nat.min_eq_right (by omega), List.take_of_length_le (Nat.le_refl _), List.take_of_length_le (by omega)]
  simp [mSl, R.lsq, e]
theorem sl_from {ds : List D} {i : Int} (h0 : 0 ≤ i) : mSl (.v (.lst ds)) (some i) none S = .ok (.v (.lst (ds.drop i.toNat))) S := by
  have e : cutD ds (some i) none = ds.drop i.toNat := by
    unfold cutD HT.sIx
    dsimp only
    rw [if_neg (by omega)]
    by_cases h : i.toNat ≤ ds.length
    · rw [Nat.min_eq_left h, List.take_of_length_le (by rw [List.length_drop]; omega)]
    · rw [Nat.min_eq_right (by omega)]
      simp
      omega
  simp [mSl, R.lsq, e]
/-- what is put in where a class should stand -/
def wrongs (m : Nat) : List D := [.int m, .int (-1), .non, .str "0"]
def lesss : List D := [.int (-1), .non]
/-- Teams with a wrong entry -/
theorem teams_spoilt {cs ps : List Int} {wrong less : D} {at_ below way : Int} (hcs : ∀ c ∈ cs, 0 ≤ c ∧ c < ps.length) (hps : ∀ p ∈ ps, 0 ≤ p) (hm : cs = [] ∨ 0 < ps.length) (hl1 : cs.length ≤ 100) (hl2 : ps.length ≤ 100)
    (ha0 : 0 ≤ at_) (ha1 : at_ ≤ cs.length) (hb0 : 0 ≤ below) (hb1 : below < max 1 (ps.length : Int)) (hw : wrong ∈ wrongs ps.length) (hle : less ∈ lesss) (hway : way = 0 ∨ way = 1) :
    mMak 7 Teams___init___m [.v (.lst (if way = 0 then (cs.map D.int).take at_.toNat ++ [wrong] ++ (cs.map D.int).drop at_.toNat else cs.map D.int)), .v (.lst ((ps.map D.int).take below.toNat ++ [less] ++ (ps.map D.int).drop (below + 1).toNat))] S =
      .exc 2 [1] [.int (if way = 0 then at_ else below)] S := by
  have hfl : fine less = true ∧ countB less = false := by
    simp only [lesss, List.mem_cons, List.not_mem_nil, or_false] at hle
    rcases hle with rfl | rfl <;> exact ⟨rfl, rfl⟩
  have hfw : fine wrong = true := by
    simp only [wrongs, List.mem_cons, List.not_mem_nil, or_false] at hw
    rcases hw with rfl | rfl | rfl | rfl <;> rfl
  have all_app : ∀ {a b : List Int} {d : D}, fine d = true → (a.map D.int ++ [d] ++ b.map D.int).all fine = true := fun {a b d} h => by
    rw [List.all_append, List.all_append, fine_ints, fine_ints]
    simp [h]
  have hpl : ∀ {l : List Int}, (∀ p ∈ l, 0 ≤ p) → ∀ d ∈ l.map D.int, countB d = true := fun {l} h => mem_ints (P := countB) fun c hc => decide_eq_true (h c hc)
  -- the places
  obtain ⟨PX, hPX⟩ : ∃ PX, PX = (ps.map D.int).take below.toNat ++ [less] ++ (ps.map D.int).drop (below + 1).toNat := ⟨_, rfl⟩
  have hPf : PX.all fine = true := by
    rw [hPX, ← List.map_take, ← List.map_drop]
    exact all_app hfl.1
  have hPc : fbF countB 0 PX = some below.toNat := by
    rw [hPX, List.append_assoc, List.singleton_append, fbF_some hfl.2 (by rw [← List.map_take]; exact hpl fun p hp => hps p (List.mem_of_mem_take hp))]
    rw [List.length_take, List.length_map, Nat.zero_add]
    congr 1
    omega
  have hPl : 0 < ps.length → PX.length = ps.length := fun h => by
    rw [hPX, List.length_append, List.length_append, List.length_take, List.length_drop, List.length_map]
    simp only [List.length_cons, List.length_nil]
    omega
  have hb : ((below.toNat : Nat) : Int) = below := Int.toNat_of_nonneg hb0
  have ha : ((at_.toNat : Nat) : Int) = at_ := Int.toNat_of_nonneg ha0
  have hth : ∀ {l : List Int}, 0 < ps.length → (∀ c ∈ l, 0 ≤ c ∧ c < ps.length) → ∀ d ∈ l.map D.int, thingB PX.length d = true := fun {l} hp h => mem_ints (P := thingB PX.length) fun c hc => by
    rw [hPl hp]
    exact decide_eq_true (h c hc)
  rw [← hPX]
  rcases hway with rfl | rfl
  · rw [if_pos rfl, if_pos rfl]
    obtain ⟨CX, hCX⟩ : ∃ CX, CX = (cs.map D.int).take at_.toNat ++ [wrong] ++ (cs.map D.int).drop at_.toNat := ⟨_, rfl⟩
    have hCf : CX.all fine = true := by
      rw [hCX, ← List.map_take, ← List.map_drop]
      exact all_app hfw
    rw [← hCX]
    by_cases hm0 : 0 < ps.length
    · have hwb : thingB PX.length wrong = false := by
        rw [hPl hm0]
        simp only [wrongs, List.mem_cons, List.not_mem_nil, or_false] at hw
        rcases hw with rfl | rfl | rfl | rfl
        · simp [thingB]
        · simp [thingB]
        · rfl
        · rfl
      have hbad : fbF (thingB PX.length) 0 CX = some at_.toNat := by
        rw [hCX, List.append_assoc, List.singleton_append, fbF_some hwb (by rw [← List.map_take]; exact hth hm0 fun c hc => hcs c (List.mem_of_mem_take hc))]
        rw [List.length_take, List.length_map, Nat.zero_add]
        congr 1
        omega
      rw [teams_bad1 (.inr (.inl rfl)) (.inr (.inl rfl)) hCf hbad, ha]
    · have hcs0 : cs = [] := hm.resolve_right hm0
      subst hcs0
      have hat : at_ = 0 := by
        simp at ha1
        omega
      subst hat
      have hbe : below = 0 := by omega
      subst hbe
      have hCX' : CX = [wrong] := by rw [hCX]; rfl
      by_cases ht : thingB PX.length wrong = true
      · rw [teams_bad2 (.inr (.inl rfl)) (.inr (.inl rfl)) hCf hPf (fbF_none (by rw [hCX']; intro d hd; rw [List.mem_singleton.mp hd]; exact ht)) hPc]
        rfl
      · have hbad : fbF (thingB PX.length) 0 CX = some 0 := by
          rw [hCX', fbF, if_neg ht]
        rw [teams_bad1 (.inr (.inl rfl)) (.inr (.inl rfl)) hCf hbad]
        rfl
  · rw [if_neg (by decide), if_neg (by decide)]
    have hn : fbF (thingB PX.length) 0 (cs.map D.int) = none := by
      rcases hm with rfl | hm
      · rfl
      · exact fbF_none (hth hm hcs)
    rw [teams_bad2 (.inr (.inl rfl)) (.inr (.inl rfl)) (fine_ints cs) hPf hn hPc, hb]
end K03

namespace K03
open PySem Mi
variable {S : Sto}
theorem count_filter {cs xs : List Int} {c : Int} : (xs.filter fun x => decide (at0 cs x = c)).length = (gsOf cs xs).count c := by
  unfold gsOf
  induction xs with
  | nil => rfl
  | cons x xs ih =>
    rw [List.filter_cons, List.map_cons, List.count_cons, ← ih]
    by_cases h : at0 cs x = c <;> simp [h]
theorem at0_range {m c : Nat} {f : Nat → Int} (h : c < m) : at0 ((List.range m).map f) (c : Int) = f c := by
  unfold at0
  rw [List.getD_eq_getElem?_getD, List.getElem?_map, Int.toNat_natCast, List.getElem?_range h]
  rfl
/-- places, class by class -/
theorem t_places {c1 : Cell} {m : Nat} (hp : Pool c1) (env : Mi.Env) (he : env.length = 21) (h0 : env[0]? = some (some (.l 0))) : ∃ (ps : List Int) (c2 : Cell), lcGo (tgName 19) tYesM _law_teams_hold_c1 none (wipeE env [19]) ((List.range m).map fun i => D.int (i : Nat)) [c1] = .ok (ps.map D.int) [c2] ∧ ps.length = m ∧ (∀ p ∈ ps, 0 ≤ p) ∧ Pool c2 := by
  obtain ⟨ys, S', e, el, ep, c2, rfl, hp2⟩ := lc_run (tg := tgName 19) (fe := _law_teams_hold_c1) (env0 := wipeE env [19]) (fun i : Nat => D.int (i : Nat)) (fun S => ∃ c, S = [c] ∧ Pool c) (fun y => ∃ i : Int, y = .int i ∧ 0 ≤ i) (List.range m) [c1] ⟨c1, rfl, hp⟩
    (fun x _ => ⟨_, rfl, fun S ⟨c, hS, hc⟩ => by
      subst hS
      obtain ⟨d, c', e1, p1, d0, d1⟩ := draw_ok (S := []) (m := 5) hc (by decide) (by decide)
      obtain ⟨y, hy, ey⟩ := ix_at (S := [c']) (ds := [.int 1, .int 2, .int 0, .int 3, .int 5]) d0 (by simpa using d1)
      refine ⟨y, [c'], ?_, ?_, c', rfl, p1⟩
      · have g0 : ∀ x, ((wipeE env [19]).set 19 x)[0]? = some (some (.l 0)) := fun x => by
          rw [List.getElem?_set_ne (by decide)]
          show ((env.set 19 none))[0]? = _
          rw [List.getElem?_set_ne (by decide)]
          exact h0
        unfold _law_teams_hold_c1
        simp [g0, mLst_5, e1, ey]
      · simp only [List.mem_cons, List.not_mem_nil, or_false] at hy
        rcases hy with rfl | rfl | rfl | rfl | rfl <;> exact ⟨_, rfl, by decide⟩⟩)
  obtain ⟨ps, rfl, hps⟩ := ints_of ep
  exact ⟨ps, c2, e, by rw [List.length_map, List.length_range] at el; exact el, hps, hp2⟩
theorem t_classes {c1 : Cell} {n m : Nat} {ps : List Int} (hp : Pool c1) (env : Mi.Env) (h0 : env[0]? = some (some (.l 0))) (h4 : env[4]? = some (some (.v (.lst (ps.map D.int))))) (hm : ps.length = m) (hm0 : n = 0 ∨ 0 < m) (hm1 : m ≤ 100) :
    ∃ (cs : List Int) (c2 : Cell), lcGo (tgName 20) tYesM _law_teams_hold_c2 none (wipeE env [20]) ((List.range n).map fun i => D.int (i : Nat)) [c1] = .ok (cs.map D.int) [c2] ∧ cs.length = n ∧ (∀ c ∈ cs, 0 ≤ c ∧ c < m) ∧ Pool c2 := by
  obtain ⟨ys, S', e, el, ep, c2, rfl, hp2⟩ := lc_run (tg := tgName 20) (fe := _law_teams_hold_c2) (env0 := wipeE env [20]) (fun i : Nat => D.int (i : Nat)) (fun S => ∃ c, S = [c] ∧ Pool c) (fun y => ∃ i : Int, y = .int i ∧ (0 ≤ i ∧ i < m)) (List.range n) [c1] ⟨c1, rfl, hp⟩
    (fun x hx => ⟨_, rfl, fun S ⟨c, hS, hc⟩ => by
      subst hS
      have hm2 : 0 < m := by
        rcases hm0 with h | h
        · subst h; cases hx
        · exact h
      obtain ⟨d, c', e1, p1, d0, d1⟩ := draw_ok (S := []) (m := (m : Int)) hc (by omega) (by omega)
      refine ⟨.int d, [c'], ?_, ⟨d, rfl, d0, d1⟩, c', rfl, p1⟩
      have g0 : ∀ x, ((wipeE env [20]).set 20 x)[0]? = some (some (.l 0)) := fun x => by
        rw [List.getElem?_set_ne (by decide)]
        show ((env.set 20 none))[0]? = _
        rw [List.getElem?_set_ne (by decide)]
        exact h0
      have g4 : ∀ x, ((wipeE env [20]).set 20 x)[4]? = some (some (.v (.lst (ps.map D.int)))) := fun x => by
        rw [List.getElem?_set_ne (by decide)]
        show ((env.set 20 none))[4]? = _
        rw [List.getElem?_set_ne (by decide)]
        exact h4
      have hl : mLen [.v (.lst (ps.map D.int))] [c] = .ok (.v (.int m)) [c] := by rw [SeqR.len (.inr (.inl rfl)), List.length_map, hm]
      unfold _law_teams_hold_c2
      simp [g0, g4, hl, e1]⟩)
  obtain ⟨cs, rfl, hcs⟩ := ints_of ep
  exact ⟨cs, c2, e, by rw [List.length_map, List.length_range] at el; exact el, hcs, hp2⟩
section
variable {n m : Nat} {cs ps xs : List Int} {x0 x1 x3 x6 x7 x8 x10 x11 x12 x13 x14 x15 x16 x17 x18 x19 x20 : Option R}
/-- counts -/
theorem t_counts (hn : cs.length = n) (ha : Asc n xs) (hx : xs.length ≤ 1000) {x9 : Option R} :
    lcGo (tgName 19) tYesM _law_teams_hold_c4 none (wipeE [x0, x1, some (.v (.tup (xs.map D.int))), x3, some (.v (.lst (ps.map D.int))), some (.v (.lst (cs.map D.int))), x6, x7, x8, x9, x10, x11, x12, x13, x14, x15, x16, x17, x18, x19, x20] [19]) ((List.range m).map fun i => D.int (i : Nat)) S =
      .ok ((((List.range m).map fun (c : Nat) => (((gsOf cs xs).count (c : Int) : Nat) : Int))).map D.int) S := by
  have := lc_pure (S := S) (tg := tgName 19) (tt := tYesM) (fe := _law_teams_hold_c4) (gd := none) (env0 := wipeE [x0, x1, some (.v (.tup (xs.map D.int))), x3, some (.v (.lst (ps.map D.int))), some (.v (.lst (cs.map D.int))), x6, x7, x8, x9, x10, x11, x12, x13, x14, x15, x16, x17, x18, x19, x20] [19]) (fun i : Nat => D.int (i : Nat))
    (fun c => [x0, x1, some (.v (.tup (xs.map D.int))), x3, some (.v (.lst (ps.map D.int))), some (.v (.lst (cs.map D.int))), x6, x7, x8, x9, x10, x11, x12, x13, x14, x15, x16, x17, x18, some (.v (.int (c : Nat))), x20]) (fun _ => true) (fun (c : Nat) => .int (((gsOf cs xs).count (c : Int) : Nat) : Int)) trivial (List.range m)
    (fun c _ => ⟨rfl, rfl, fun _ => by
      have inner := lc_pure (S := S) (tg := tgName 20) (tt := _law_teams_hold_d1) (fe := _law_teams_hold_c3) (gd := none) (env0 := wipeE [x0, x1, some (.v (.tup (xs.map D.int))), x3, some (.v (.lst (ps.map D.int))), some (.v (.lst (cs.map D.int))), x6, x7, x8, x9, x10, x11, x12, x13, x14, x15, x16, x17, x18, some (.v (.int (c : Nat))), x20] [20]) D.int
        (fun x => [x0, x1, some (.v (.tup (xs.map D.int))), x3, some (.v (.lst (ps.map D.int))), some (.v (.lst (cs.map D.int))), x6, x7, x8, x9, x10, x11, x12, x13, x14, x15, x16, x17, x18, some (.v (.int (c : Nat))), some (.v (.int x))]) (fun x => decide (at0 cs x = (c : Int))) D.int trivial xs
        (fun x hx => ⟨rfl, by
          have h := ha.2 x hx
          unfold _law_teams_hold_d1
          simp [ix_at0l (S := S) (cs := cs) h.1 (by omega)], fun _ => by unfold _law_teams_hold_c3; simp⟩)
      have i1 : iSeq (eVar 2) [x0, x1, some (.v (.tup (xs.map D.int))), x3, some (.v (.lst (ps.map D.int))), some (.v (.lst (cs.map D.int))), x6, x7, x8, x9, x10, x11, x12, x13, x14, x15, x16, x17, x18, some (.v (.int (c : Nat))), x20] S = .ok (xs.map D.int, none) S := iSeq_ap (r := .v (.tup (xs.map D.int))) rfl rfl
      have z : xs.length ≤ sizeLine := len1000 hx
      have hl : ∀ l : List D, mLen [.v (.lst l)] S = .ok (.v (.int l.length)) S := fun l => SeqR.len (.inr (.inl rfl))
      have hc : ((xs.filter fun x => decide (at0 cs x = (c : Int))).map D.int).length = (gsOf cs xs).count (c : Int) := by rw [List.length_map]; exact count_filter
      unfold _law_teams_hold_c4
      rw [eApp_ap, aCons_ap, eLc_ap, i1, bind_ok]
      dsimp only
      rw [if_pos (by rw [List.length_map]; exact z), inner]
      simp only [bind_ok, aNil_ap, hl, hc]⟩)
  rw [filter_yes] at this
  rw [this, List.map_map]
  rfl
/-- the two comprehensions over counts and places -/
theorem t_sum (hm : ps.length = m) (fe : EM) (f : Int → Int → D) (hfe : ∀ (env : Mi.Env) (c : Nat), c < m → env[9]? = some (some (.v (.lst (((List.range m).map fun (c : Nat) => (((gsOf cs xs).count (c : Int) : Nat) : Int)).map D.int)))) → env[4]? = some (some (.v (.lst (ps.map D.int)))) → env[19]? = some (some (.v (.int (c : Nat)))) →
      fe env S = .ok (.v (f (((gsOf cs xs).count (c : Int) : Nat) : Int) (at0 ps (c : Int)))) S) :
    lcGo (tgName 19) tYesM fe none (wipeE [x0, x1, some (.v (.tup (xs.map D.int))), x3, some (.v (.lst (ps.map D.int))), some (.v (.lst (cs.map D.int))), x6, x7, x8, some (.v (.lst (((List.range m).map fun (c : Nat) => (((gsOf cs xs).count (c : Int) : Nat) : Int)).map D.int))), x10, x11, x12, x13, x14, x15, x16, x17, x18, x19, x20] [19])
      ((List.range m).map fun i => D.int (i : Nat)) S = .ok ((prs (gsOf cs xs) ps).map fun q => f q.1 q.2) S := by
  have := lc_pure (S := S) (tg := tgName 19) (tt := tYesM) (fe := fe) (gd := none) (env0 := wipeE [x0, x1, some (.v (.tup (xs.map D.int))), x3, some (.v (.lst (ps.map D.int))), some (.v (.lst (cs.map D.int))), x6, x7, x8, some (.v (.lst (((List.range m).map fun (c : Nat) => (((gsOf cs xs).count (c : Int) : Nat) : Int)).map D.int))), x10, x11, x12, x13, x14, x15, x16, x17, x18, x19, x20] [19]) (fun i : Nat => D.int (i : Nat))
    (fun c => [x0, x1, some (.v (.tup (xs.map D.int))), x3, some (.v (.lst (ps.map D.int))), some (.v (.lst (cs.map D.int))), x6, x7, x8, some (.v (.lst (((List.range m).map fun (c : Nat) => (((gsOf cs xs).count (c : Int) : Nat) : Int)).map D.int))), x10, x11, x12, x13, x14, x15, x16, x17, x18, some (.v (.int (c : Nat))), x20]) (fun _ => true) (fun (c : Nat) => f (((gsOf cs xs).count (c : Int) : Nat) : Int) (at0 ps (c : Int))) trivial (List.range m)
    (fun c hc => ⟨rfl, rfl, fun _ => hfe _ c (List.mem_range.mp hc) rfl rfl rfl⟩)
  rw [filter_yes] at this
  rw [this]
  unfold prs
  rw [List.map_map, hm]
  rfl
end
end K03

namespace K03
open PySem Mi
variable {S : Sto}
theorem teams_hold {c : Cell} {n : Nat} {xs : List Int} (hp : Pool c) (hn : n ≤ 16) (ha : Asc n xs) (hx : xs.length ≤ 1000) : ∃ c', _law_teams_hold_m [.l 0, .v (.int n), .v (.tup (xs.map D.int))] [c] = .ok (.v (.bl true)) [c'] ∧ Pool c' := by
  obtain ⟨a, c1, e1, p1, a0, a1⟩ := draw_ok (S := []) (m := 4) hp (by decide) (by decide)
  -- the number of classes
  obtain ⟨m, hm, hm0, hm1⟩ : ∃ m : Nat, (if (n : Int) = 0 ∧ 1 + a = 4 then (0 : Int) else 1 + a) = (m : Int) ∧ (n = 0 ∨ 0 < m) ∧ m ≤ 4 := by
    by_cases h : (n : Int) = 0 ∧ 1 + a = 4
    · exact ⟨0, by rw [if_pos h]; rfl, .inl (by omega), by decide⟩
    · exact ⟨(1 + a).toNat, by rw [if_neg h]; omega, .inr (by omega), by omega⟩
  obtain ⟨ps, c2, e2, hps, hp0, p2⟩ := t_places (m := m) p1 [some (.l 0), some (.v (.int n)), some (.v (.tup (xs.map D.int))), some (.v (.int m)), none, none, none, none, none, none, none, none, none, none, none, none, none, none, none, none, none] rfl rfl
  obtain ⟨cs, c3, e3, hcs, hc0, p3⟩ := t_classes (n := n) (m := m) (ps := ps) p2 [some (.l 0), some (.v (.int n)), some (.v (.tup (xs.map D.int))), some (.v (.int m)), some (.v (.lst (ps.map D.int))), none, none, none, none, none, none, none, none, none, none, none, none, none, none, none, none] rfl rfl hps hm0 (by omega)
  have hcs' : ∀ c ∈ cs, 0 ≤ c ∧ c < ps.length := by rw [hps]; exact hc0
  obtain ⟨at_, c4, e4, p4, at0', at1⟩ := draw_ok (S := [.lst [], .lst []]) (m := (n : Int) + 1) p3 (by omega) (by omega)
  obtain ⟨below, c5, e5, p5, be0, be1⟩ := draw_ok (S := [.lst [], .lst []]) (m := max 1 (m : Int)) p4 (by omega) (by omega)
  obtain ⟨iw, c6, e6, p6, iw0, iw1⟩ := draw_ok (S := [.lst [], .lst []]) (m := 4) p5 (by decide) (by decide)
  obtain ⟨il, c7, e7, p7, il0, il1⟩ := draw_ok (S := [.lst [], .lst []]) (m := 2) p6 (by decide) (by decide)
  obtain ⟨way, c8, e8, p8, wy0, wy1⟩ := draw_ok (S := [.lst [], .lst []]) (m := 2) p7 (by decide) (by decide)
  obtain ⟨wrong, hwr, ew⟩ := ix_at (S := [c6, .lst [], .lst []]) (ds := wrongs m) iw0 (by simpa [wrongs] using iw1)
  obtain ⟨less, hle, elq⟩ := ix_at (S := [c7, .lst [], .lst []]) (ds := lesss) il0 (by simpa [lesss] using il1)
  have hway : way = 0 ∨ way = 1 := by omega
  refine ⟨c8, ?_, p8⟩
  unfold _law_teams_hold_m
  rw [fnM_ap, if_pos (by rfl)]
  unfold _law_teams_hold_b
  have henv : List.map some [R.l 0, .v (.int n), .v (.tup (xs.map D.int))] ++ List.replicate (21 - 3) none = [some (.l 0), some (.v (.int n)), some (.v (.tup (xs.map D.int))), none, none, none, none, none, none, none, none, none, none, none, none, none, none, none, none, none, none] := rfl
  rw [henv]
  -- the number of classes
  have step1 : ∀ rest : SM, sSeq (sSet 3 (eOp opAdd (eC (.int 1)) (eApp _law_draw_m (aCons (eVar 0) (aCons (eC (.int 4)) aNil))))) (sSeq (sIf (tAndM (tOf (eOp cmEq (eVar 1) (eC (.int 0)))) (tOf (eOp cmEq (eVar 3) (eC (.int 4))))) (sSeq (sSet 3 (eC (.int 0))) sNil) sNil) rest)
      [some (.l 0), some (.v (.int n)), some (.v (.tup (xs.map D.int))), none, none, none, none, none, none, none, none, none, none, none, none, none, none, none, none, none, none] [c] =
      rest [some (.l 0), some (.v (.int n)), some (.v (.tup (xs.map D.int))), some (.v (.int m)), none, none, none, none, none, none, none, none, none, none, none, none, none, none, none, none, none] [c1] := fun rest => by
    rw [← hm]
    by_cases h1 : (n : Int) = 0
    · by_cases h2 : 1 + a = 4
      · simp [e1, h1, h2]
      · simp [e1, h1, h2]
    · have h1' : ¬ n = 0 := by omega
      simp [e1, h1, h1']
  rw [step1]
  -- places and classes
  have r1 : ∀ S : Sto, ∀ env : Mi.Env, env[3]? = some (some (.v (.int m))) → iRng1 (aCons (eVar 3) aNil) env S = .ok ((List.range m).map (fun i => D.int (i : Nat)), none) S := fun S env h => rng_ap (by simp [h]) (by omega)
  have r2 : ∀ S : Sto, ∀ env : Mi.Env, env[1]? = some (some (.v (.int n))) → iRng1 (aCons (eVar 1) aNil) env S = .ok ((List.range n).map (fun i => D.int (i : Nat)), none) S := fun S env h => rng_ap (by simp [h]) (by omega)
  have z1 : m ≤ sizeLine := Nat.le_trans (show m ≤ 4 from hm1) (by rw [sizeLine_eq]; decide)
  have z2 : n ≤ sizeLine := Nat.le_trans hn (by rw [sizeLine_eq]; decide)
  have s1 : eLc (iRng1 (aCons (eVar 3) aNil)) (tgName 19) tYesM _law_teams_hold_c1 [19] [some (.l 0), some (.v (.int n)), some (.v (.tup (xs.map D.int))), some (.v (.int m)), none, none, none, none, none, none, none, none, none, none, none, none, none, none, none, none, none] [c1] = .ok (.v (.lst (ps.map D.int))) [c2] := by
    rw [eLc_ap, r1 _ _ rfl, bind_ok]
    dsimp only
    rw [if_pos (by rw [List.length_map, List.length_range]; exact z1), e2]
  have s2 : eLc (iRng1 (aCons (eVar 1) aNil)) (tgName 20) tYesM _law_teams_hold_c2 [20] [some (.l 0), some (.v (.int n)), some (.v (.tup (xs.map D.int))), some (.v (.int m)), some (.v (.lst (ps.map D.int))), none, none, none, none, none, none, none, none, none, none, none, none, none, none, none, none] [c2] = .ok (.v (.lst (cs.map D.int))) [c3] := by
    rw [eLc_ap, r2 _ _ rfl, bind_ok]
    dsimp only
    rw [if_pos (by rw [List.length_map, List.length_range]; exact z2), e3]
  rw [sSeq_ap, sSet_ap, s1, rthn_ok, sthn_nx, List.set_cons_succ, List.set_cons_succ, List.set_cons_succ, List.set_cons_succ, List.set_cons_zero, sSeq_ap, sSet_ap, s2, rthn_ok, sthn_nx]
  -- handed in, made, emptied
  have l1 : ∀ (ds : List D) (S : Sto), mListM [.v (.lst ds)] S = .ok (.l S.length) (S ++ [.lst ds]) := fun ds S => rfl
  have mk : mMak 7 Teams___init___m [.l 1, .l 2] [c3, .lst (cs.map D.int), .lst (ps.map D.int)] = .ok (.v (tO n cs ps)) [c3, .lst (cs.map D.int), .lst (ps.map D.int)] := by
    have := teams_made (S := [c3, .lst (cs.map D.int), .lst (ps.map D.int)]) (r1 := .l 1) (r2 := .l 2) (cs := cs) (ps := ps) (.inr (.inr ⟨1, rfl, rfl⟩)) (.inr (.inr ⟨2, rfl, rfl⟩)) (by omega) (fbF_none (mem_ints (P := thingB ps.length) fun c hc => decide_eq_true (hcs' c hc))) (fbF_none (mem_ints (P := countB) fun c hc => decide_eq_true (hp0 c hc)))
    rw [hcs] at this
    exact this
  have q1 : R.lsq (.l 1) [c3, .lst (cs.map D.int), .lst (ps.map D.int)] = some (cs.map D.int) := rfl
  have q2 : mClr (.l 1) [] [c3, .lst (cs.map D.int), .lst (ps.map D.int)] = .ok (.v .non) [c3, .lst [], .lst (ps.map D.int)] := rfl
  have q3 : R.lsq (.l 2) [c3, .lst [], .lst (ps.map D.int)] = some (ps.map D.int) := rfl
  have q4 : mClr (.l 2) [] [c3, .lst [], .lst (ps.map D.int)] = .ok (.v .non) [c3, .lst [], .lst []] := rfl
  have f6 : ∀ S, mFld tTeams 6 (.v (tO n cs ps)) S = .ok (.v (.tup (cs.map D.int))) S := fun S => fld_ap rfl rfl
  have f7 : ∀ S, mFld tTeams 7 (.v (tO n cs ps)) S = .ok (.v (.tup (ps.map D.int))) S := fun S => fld_ap rfl rfl
  have f3 : ∀ S, mFld tRule 3 (.v (tO n cs ps)) S = .ok (.v (.int n)) S := fun S => fld_ap rfl rfl
  have tl : ∀ (ds : List D) (S : Sto), mTuple [.v (.lst ds)] S = .ok (.v (.tup ds)) S := fun ds S => rfl
  have ll : ∀ S, mLen [.v (.lst (ps.map D.int))] S = .ok (.v (.int m)) S := fun S => by rw [SeqR.len (.inr (.inl rfl)), List.length_map, hps]
  have li : ∀ S, mList [.v (.tup (xs.map D.int))] S = .ok (.v (.lst (xs.map D.int))) S := fun S => rfl
  have r3 : ∀ S : Sto, ∀ env : Mi.Env, env[4]? = some (some (.v (.lst (ps.map D.int)))) → iRng1 (aCons (eApp mLen (aCons (eVar 4) aNil)) aNil) env S = .ok ((List.range m).map (fun i => D.int (i : Nat)), none) S := fun S env h => rng_ap (by simp [h, ll]) (by omega)
  have zr : ((List.range m).map fun i => D.int (i : Nat)).length ≤ sizeLine := by rw [List.length_map, List.length_range]; exact z1
  -- ranks
  have rk := rank_ok (S := [c3, .lst [], .lst []]) (r := .v (.tup (xs.map D.int))) (tO_rule (n := n) (cs := cs) (ps := ps)) (.inl rfl) ha (teams_rank hcs hx (by omega) ha)
  have fr := is_free_ok (S := [c3, .lst [], .lst []]) (r := .v (.lst (xs.map D.int))) (tO_rule (n := n) (cs := cs) (ps := ps)) (.inr (.inl rfl)) ha (teams_rank hcs hx (by omega) ha)
  have ob : ∀ S, R.ob (.v (tO n cs ps)) S = some (7, [3, 4, 6, 7], [.int n, thg n, .tup (cs.map D.int), .tup (ps.map D.int)]) := fun S => rfl
  have d1 : disp_rank 7 = some Rule_rank_m := rfl
  have d2 : disp_is_free 7 = some Rule_is_free_m := rfl
  obtain ⟨cn, hcn⟩ : ∃ cn, cn = (List.range m).map fun (c : Nat) => (((gsOf cs xs).count (c : Int) : Nat) : Int) := ⟨_, rfl⟩
  have hgs : ∀ g ∈ gsOf cs xs, 0 ≤ g ∧ g < (ps.length : Int) := fun g hg => by
    unfold gsOf at hg
    obtain ⟨x, hx, rfl⟩ := List.mem_map.mp hg
    have h := ha.2 x hx
    have hl : x.toNat < cs.length := by omega
    refine hcs' _ ?_
    unfold at0
    rw [List.getD_eq_getElem?_getD, List.getElem?_eq_getElem hl]
    exact List.getElem_mem hl
  have hfree : decide (tRank cs ps xs = (xs.length : Int)) = ((prs (gsOf cs xs) ps).map fun q => decide (q.1 ≤ q.2)).all id := by
    have hl : (gsOf cs xs).length = xs.length := by unfold gsOf; rw [List.length_map]
    have h := prs_free (gs := gsOf cs xs) (ps := ps) hgs
    rw [← tRank_prs, hl] at h
    rw [Bool.eq_iff_iff, decide_eq_true_iff, h, List.all_map, List.all_eq_true]
    simp
  rw [hfree] at fr
  have hcl : cn.length = m := by rw [hcn, List.length_map, List.length_range]
  have hcat : ∀ c : Nat, c < m → at0 cn (c : Int) = (((gsOf cs xs).count (c : Int) : Nat) : Int) := fun c h => by rw [hcn]; exact at0_range h
  have hcounts : lcGo (tgName 19) tYesM _law_teams_hold_c4 none (wipeE [some (.l 0), some (.v (.int n)), some (.v (.tup (xs.map D.int))), some (.v (.int m)), some (.v (.lst (ps.map D.int))), some (.v (.lst (cs.map D.int))), some (.l 1), some (.l 2), some (.v (tO n cs ps)), none, none, none, none, none, none, none, none, none, none, none, none] [19])
      ((List.range m).map fun i => D.int (i : Nat)) [c3, .lst [], .lst []] = .ok (cn.map D.int) [c3, .lst [], .lst []] := by
    rw [hcn]
    exact t_counts hcs ha hx
  obtain ⟨ls, hls, lsum⟩ : ∃ ls : List Int, ls.sum = tRank cs ps xs ∧ lcGo (tgName 19) tYesM _law_teams_hold_c5 none (wipeE [some (.l 0), some (.v (.int n)), some (.v (.tup (xs.map D.int))), some (.v (.int m)), some (.v (.lst (ps.map D.int))), some (.v (.lst (cs.map D.int))), some (.l 1), some (.l 2), some (.v (tO n cs ps)), some (.v (.lst (cn.map D.int))), none, none, none, none, none, none, none, none, none, none, none] [19])
      ((List.range m).map fun i => D.int (i : Nat)) [c3, .lst [], .lst []] = .ok (ls.map D.int) [c3, .lst [], .lst []] := by
    refine ⟨(prs (gsOf cs xs) ps).map fun q => lo q.1 q.2, tRank_prs.symm, ?_⟩
    have := t_sum (S := [c3, .lst [], .lst []]) (m := m) (cs := cs) (ps := ps) (xs := xs) (x0 := some (.l 0)) (x1 := some (.v (.int n))) (x3 := some (.v (.int m))) (x6 := some (.l 1)) (x7 := some (.l 2)) (x8 := some (.v (tO n cs ps))) (x10 := none) (x11 := none) (x12 := none) (x13 := none) (x14 := none) (x15 := none) (x16 := none) (x17 := none) (x18 := none) (x19 := none) (x20 := none) hps _law_teams_hold_c5 (fun a b => .int (lo a b))
      (fun env c hc h9 h4 h19 => by
        rw [← hcn] at h9
        unfold _law_teams_hold_c5
        have k1 := ix_at0l (S := [c3, .lst [], .lst []]) (cs := cn) (x := (c : Int)) (by omega) (by omega)
        have k2 := ix_at0l (S := [c3, .lst [], .lst []]) (cs := ps) (x := (c : Int)) (by omega) (by omega)
        rw [hcat c hc] at k1
        have h3 : ∀ a b : Int, mMin [.v (.int a), .v (.int b)] [c3, .lst [], .lst []] = .ok (.v (.int (lo a b))) [c3, .lst [], .lst []] := fun a b => rfl
        simp [h9, h4, h19, k1, k2, h3])
    rw [← hcn] at this
    rw [this, List.map_map]
    rfl
  obtain ⟨bs, hbs, lall⟩ : ∃ bs : List Bool, bs.all id = ((prs (gsOf cs xs) ps).map fun q => decide (q.1 ≤ q.2)).all id ∧ lcGo (tgName 19) tYesM _law_teams_hold_c6 none (wipeE [some (.l 0), some (.v (.int n)), some (.v (.tup (xs.map D.int))), some (.v (.int m)), some (.v (.lst (ps.map D.int))), some (.v (.lst (cs.map D.int))), some (.l 1), some (.l 2), some (.v (tO n cs ps)), some (.v (.lst (cn.map D.int))), none, none, none, none, none, none, none, none, none, none, none] [19])
      ((List.range m).map fun i => D.int (i : Nat)) [c3, .lst [], .lst []] = .ok (bs.map D.bl) [c3, .lst [], .lst []] := by
    refine ⟨(prs (gsOf cs xs) ps).map fun q => decide (q.1 ≤ q.2), rfl, ?_⟩
    have := t_sum (S := [c3, .lst [], .lst []]) (m := m) (cs := cs) (ps := ps) (xs := xs) (x0 := some (.l 0)) (x1 := some (.v (.int n))) (x3 := some (.v (.int m))) (x6 := some (.l 1)) (x7 := some (.l 2)) (x8 := some (.v (tO n cs ps))) (x10 := none) (x11 := none) (x12 := none) (x13 := none) (x14 := none) (x15 := none) (x16 := none) (x17 := none) (x18 := none) (x19 := none) (x20 := none) hps _law_teams_hold_c6 (fun a b => .bl (decide (a ≤ b)))
      (fun env c hc h9 h4 h19 => by
        rw [← hcn] at h9
        unfold _law_teams_hold_c6
        have k1 := ix_at0l (S := [c3, .lst [], .lst []]) (cs := cn) (x := (c : Int)) (by omega) (by omega)
        have k2 := ix_at0l (S := [c3, .lst [], .lst []]) (cs := ps) (x := (c : Int)) (by omega) (by omega)
        rw [hcat c hc] at k1
        simp [h9, h4, h19, k1, k2])
    rw [← hcn] at this
    rw [this, List.map_map]
    rfl
  rw [← hls] at rk
  rw [← hbs] at fr
  -- the spoilt lists
  obtain ⟨A1, hA1⟩ : ∃ A, A = (cs.map D.int).take at_.toNat := ⟨_, rfl⟩
  obtain ⟨A3, hA3⟩ : ∃ A, A = (cs.map D.int).drop at_.toNat := ⟨_, rfl⟩
  obtain ⟨A2, hA2⟩ : ∃ A, A = A1 ++ [wrong] := ⟨_, rfl⟩
  obtain ⟨A4, hA4⟩ : ∃ A, A = A2 ++ A3 := ⟨_, rfl⟩
  obtain ⟨B1, hB1⟩ : ∃ A, A = (ps.map D.int).take below.toNat := ⟨_, rfl⟩
  obtain ⟨B3, hB3⟩ : ∃ A, A = (ps.map D.int).drop (below + 1).toNat := ⟨_, rfl⟩
  obtain ⟨B2, hB2⟩ : ∃ A, A = B1 ++ [less] := ⟨_, rfl⟩
  obtain ⟨B4, hB4⟩ : ∃ A, A = B2 ++ B3 := ⟨_, rfl⟩
  have hb1' : below < max 1 (ps.length : Int) := by rw [hps]; exact be1
  have la1 : A1.length ≤ 16 := by rw [hA1, List.length_take, List.length_map]; omega
  have la3 : A3.length ≤ 16 := by rw [hA3, List.length_drop, List.length_map]; omega
  have la2 : A2.length ≤ 17 := by rw [hA2, List.length_append]; simp; omega
  have lb1 : B1.length ≤ 16 := by rw [hB1, List.length_take, List.length_map]; omega
  have lb3 : B3.length ≤ 16 := by rw [hB3, List.length_drop, List.length_map]; omega
  have lb2 : B2.length ≤ 17 := by rw [hB2, List.length_append]; simp; omega
  have k1 : ∀ S, mSl (.v (.lst (cs.map D.int))) none (some at_) S = .ok (.v (.lst A1)) S := fun S => by rw [sl_to at0', hA1]
  have k2 : ∀ S, mSl (.v (.lst (cs.map D.int))) (some at_) none S = .ok (.v (.lst A3)) S := fun S => by rw [sl_from at0', hA3]
  have k3 : ∀ S, opAdd (.v (.lst A1)) (.v (.lst [wrong])) S = .ok (.v (.lst A2)) S := fun S => by rw [opAdd_lst (by simp; omega), hA2]
  have k4 : ∀ S, opAdd (.v (.lst A2)) (.v (.lst A3)) S = .ok (.v (.lst A4)) S := fun S => by rw [opAdd_lst (by omega), hA4]
  have k5 : ∀ S, mSl (.v (.lst (ps.map D.int))) none (some below) S = .ok (.v (.lst B1)) S := fun S => by rw [sl_to be0, hB1]
  have k6 : ∀ S, mSl (.v (.lst (ps.map D.int))) (some (below + 1)) none S = .ok (.v (.lst B3)) S := fun S => by rw [sl_from (by omega), hB3]
  have k7 : ∀ S, opAdd (.v (.lst B1)) (.v (.lst [less])) S = .ok (.v (.lst B2)) S := fun S => by rw [opAdd_lst (by simp; omega), hB2]
  have k8 : ∀ S, opAdd (.v (.lst B2)) (.v (.lst B3)) S = .ok (.v (.lst B4)) S := fun S => by rw [opAdd_lst (by omega), hB4]
  have k9 : ∀ S, mList [.v (.lst (cs.map D.int))] S = .ok (.v (.lst (cs.map D.int))) S := fun S => rfl
  have tsp := teams_spoilt (S := [c8, .lst [], .lst []]) (cs := cs) (ps := ps) (wrong := wrong) (less := less) (at_ := at_) (below := below) (way := way) hcs' hp0 (by rcases hm0 with h | h; (left; exact List.length_eq_zero_iff.mp (by omega)); (right; omega)) (by omega) (by omega) at0' (by omega) be0 hb1' (by rw [hps]; exact hwr) hle hway
  rw [← hA1, ← hA3, ← hA2, ← hA4, ← hB1, ← hB3, ← hB2, ← hB4] at tsp
  have mx : ∀ S, mMax [.v (.int 1), .v (.int m)] S = .ok (.v (.int (max 1 (m : Int)))) S := fun S => by
    show Res.ok (R.v (.int (if (m : Int) > 1 then (m : Int) else 1))) S = _
    have : (if (m : Int) > 1 then (m : Int) else 1) = max 1 (m : Int) := by split <;> omega
    rw [this]
  have x0 : eBE 2 = some true := rfl
  have x1 : ∀ d S, mXf tPl 1 (.e 2 [1] [d]) S = .ok (.v d) S := fun d S => rfl
  have x3 : ∀ d S, mIsX iPE (.e 2 [1] [d]) S = .ok (.v (.bl true)) S := fun d S => rfl
  clear hA1 hA2 hA3 hA4 hB1 hB2 hB3 hB4 hcn
  have ixw : ∀ S, mIx (.v (.lst [.int at_, .int below])) (.v (.int way)) S = .ok (.v (.int (if way = 0 then at_ else below))) S := fun S => by
    rcases hway with rfl | rfl <;> rfl
  unfold wrongs at ew
  unfold lesss at elq
  rcases hway with rfl | rfl
  · rw [if_pos rfl, if_pos rfl] at tsp
    simp [l1, mk, q1, q2, q3, q4, f6, f7, f3, tl, ll, li, r3, z1, hcounts, ob, d1, d2, rk, fr, lsum, lall, mSum_ints, mAll_bls, e4, e5, e6, e7, e8, mx, mLst_4, mLst_2, mLst_1, ew, elq, k1, k2, k3, k4, k5, k6, k7, k8, k9, sTry_ap, tsp, x0, x1, x3, isi_int, isb_int, cleanE, isE, ixw]
  · rw [if_neg (by decide), if_neg (by decide)] at tsp
    simp [l1, mk, q1, q2, q3, q4, f6, f7, f3, tl, ll, li, r3, z1, hcounts, ob, d1, d2, rk, fr, lsum, lall, mSum_ints, mAll_bls, e4, e5, e6, e7, e8, mx, mLst_4, mLst_2, mLst_1, ew, elq, k1, k2, k3, k4, k5, k6, k7, k8, k9, sTry_ap, tsp, x0, x1, x3, isi_int, isb_int, cleanE, isE, ixw]
end K03

namespace K03
open PySem Mi
variable {S : Sto}
def wO (n : Nat) (ds : List Int) : D := .obj 8 [3, 4, 8] [.int n, thg n, .tup (ds.map D.int)]
theorem wO_rule {n : Nat} {ds : List Int} : RuleO (wO n ds) n Works__rank_m := ⟨⟨_, _, _, rfl, rfl, rfl, rfl, rfl, rfl, rfl⟩⟩
section
variable {r1 : R} {ds : List D}
theorem w_l1 {o x2 : Option R} (k : Nat) (d : D) (hd : fine d = true) (x3 x4 : Option R) : Works___init___l1 ((([o, some r1, x2, x3, x4] : Mi.Env).set 3 (some (.v (.int k)))).set 4 (some (.v d))) S =
    if countB d = true then .ok (.nx ((([o, some r1, x2, x3, x4] : Mi.Env).set 3 (some (.v (.int k)))).set 4 (some (.v d)))) S else .exc 2 [1] [.int k] ((([o, some r1, x2, x3, x4] : Mi.Env).set 3 (some (.v (.int k)))).set 4 (some (.v d))) S := by
  unfold Works___init___l1
  cases h : countB d <;> simp [is_count_fine hd, h]
theorem works_bad {p : Nat} (h1 : SeqR r1 S ds) (hd : ds.all fine = true) (hb : fbF countB 0 ds = some p) : mMak 8 Works___init___m [r1] S = .exc 2 [1] [.int p] S := by
  have hi : Works___init___m [.l S.length, r1] (S ++ [.ins 8 [] []]) = .exc 2 [1] [.int p] (S ++ [.ins 8 [] []]) := by
    unfold Works___init___m
    rw [fnM_ap, if_pos (by rfl)]
    unfold Works___init___b
    obtain ⟨gd, hs, hg⟩ := (h1.app (t := [.ins 8 [] []])).src
    have i1 : iEnum (aCons (eVar 1) aNil) [some (.l S.length), some r1, none, none, none] (S ++ [.ins 8 [] []]) = .ok (enumD 0 ds, gd) (S ++ [.ins 8 [] []]) := iEnum_ap (by simp) hs
    obtain ⟨env', e⟩ := (chk_go (i := 3) (j := 4) hg (by decide) (fun k d hd => w_l1 (o := some (.l S.length)) (r1 := r1) (x2 := none) k d hd none none) ds 0 _ (.inl rfl) hd).2 p hb
    simp [i1, e]
  unfold mMak
  rw [hi]
  simp
theorem works_made {cs : List Int} (h1 : SeqR r1 S (cs.map D.int)) (hn : cs.length ≤ 1000) (hb : fbF countB 0 (cs.map D.int) = none) : mMak 8 Works___init___m [r1] S = .ok (.v (wO cs.length cs)) S := by
  have hi : Works___init___m [.l S.length, r1] (S ++ [.ins 8 [] []]) = .ok (.v .non) (S ++ [.ins 8 [3, 4, 8] [.int cs.length, thg cs.length, .tup (cs.map D.int)]]) := by
    unfold Works___init___m
    rw [fnM_ap, if_pos (by rfl)]
    unfold Works___init___b
    obtain ⟨gd, hs, hg⟩ := (h1.app (t := [.ins 8 [] []])).src
    have i1 : iEnum (aCons (eVar 1) aNil) [some (.l S.length), some r1, none, none, none] (S ++ [.ins 8 [] []]) = .ok (enumD 0 (cs.map D.int), gd) (S ++ [.ins 8 [] []]) := iEnum_ap (by simp) hs
    obtain ⟨env', e, ht⟩ := (chk_go (i := 3) (j := 4) hg (by decide) (fun k d hd => w_l1 (o := some (.l S.length)) (r1 := r1) (x2 := none) k d hd none none) (cs.map D.int) 0 _ (.inl rfl) (fine_ints cs)).1 hb
    obtain ⟨x3, x4, rfl⟩ : ∃ x3 x4, env' = [some (.l S.length), some r1, none, x3, x4] := by
      rcases ht with rfl | ⟨a, b, rfl⟩
      · exact ⟨none, none, rfl⟩
      · exact ⟨a, b, rfl⟩
    have hl : mLen [r1] (S ++ [.ins 8 [] []]) = .ok (.v (.int cs.length)) (S ++ [.ins 8 [] []]) := by rw [(h1.app).len, List.length_map]
    have e3 : eSup tWorks Rule___init___m (aCons (eApp mLen (aCons (eVar 1) aNil)) aNil) [some (.l S.length), some r1, none, x3, x4] (S ++ [.ins 8 [] []]) = .ok (.v .non) (S ++ [.ins 8 [3, 4] [.int cs.length, thg cs.length]]) := by
      rw [sup_ap (rs := [.v (.int cs.length)]) rfl ob_end rfl (by simp [hl])]
      exact rule_init rfl hn
    have t1 : mTuple [r1] (S ++ [.ins 8 [3, 4] [.int cs.length, thg cs.length]]) = .ok (.v (.tup (cs.map D.int))) (S ++ [.ins 8 [3, 4] [.int cs.length, thg cs.length]]) := h1.app.tup
    have p1 := mPut_end (S := S) (T := tWorks) (j := 8) (c := 8) (d := .tup (cs.map D.int)) (ks := [3, 4]) (ds := [.int cs.length, thg cs.length]) rfl (by decide)
    have q1 : putK 8 (D.tup (cs.map D.int)) [3, 4] [.int cs.length, thg cs.length] = ([3, 4, 8], [.int cs.length, thg cs.length, .tup (cs.map D.int)]) := rfl
    rw [q1] at p1
    simp [i1, e, e3, t1, p1]
  unfold mMak
  rw [hi]
  simp [wO]
end
/-! ### how many works are done -/
def gr : Int → List Int → Int
  | d, [] => d
  | d, x :: l => if d < x then gr (d + 1) l else gr d l
def mor (t : Int) (l : List Int) : Nat := (l.filter fun x => decide (t < x)).length
theorem mor_cons {t x : Int} {l : List Int} : mor t (x :: l) = (if t < x then 1 else 0) + mor t l := by
  unfold mor
  rw [List.filter_cons]
  by_cases h : t < x
  · simp [h]; omega
  · simp [h]
theorem gr_le (t : Int) : ∀ (l : List Int) (d : Int), gr d l ≤ max d t + mor t l
  | [], d => by unfold gr mor; simp; omega
  | x :: l, d => by
    rw [gr, mor_cons]
    by_cases h : d < x
    · rw [if_pos h]
      have := gr_le t l (d + 1)
      by_cases h2 : t < x
      · rw [if_pos h2]; omega
      · rw [if_neg h2]; omega
    · rw [if_neg h]
      have := gr_le t l d
      split <;> omega
theorem gr_len : ∀ (l : List Int) (d : Int), gr d l ≤ d + l.length
  | [], d => by unfold gr; simp
  | x :: l, d => by
    rw [gr, List.length_cons]
    by_cases h : d < x
    · rw [if_pos h]; have := gr_len l (d + 1); omega
    · rw [if_neg h]; have := gr_len l d; omega
theorem mor_all {t : Int} {l : List Int} (h : ∀ x ∈ l, t < x) : mor t l = l.length := by
  unfold mor
  rw [List.filter_eq_self.mpr fun x hx => decide_eq_true (h x hx)]
theorem gr_at : ∀ (l : List Int) (d : Int), l.Pairwise (· ≤ ·) → ∃ t, d ≤ t ∧ t ≤ d + l.length ∧ gr d l = t + mor t l
  | [], d, _ => ⟨d, Int.le_refl _, by simp, by unfold gr mor; simp⟩
  | x :: l, d, hp => by
    have hp' := List.pairwise_cons.mp hp
    rw [gr, List.length_cons]
    by_cases h : d < x
    · rw [if_pos h]
      obtain ⟨t, t1, t2, t3⟩ := gr_at l (d + 1) hp'.2
      by_cases h2 : t < x
      · have e1 : mor t l = l.length := mor_all fun y hy => by have := hp'.1 y hy; omega
        have e2 : mor d (x :: l) = (x :: l).length := mor_all fun y hy => by
          rcases List.mem_cons.mp hy with rfl | hy
          · exact h
          · have := hp'.1 y hy; omega
        have := gr_len l (d + 1)
        refine ⟨d, Int.le_refl _, by omega, ?_⟩
        rw [e2, List.length_cons]
        omega
      · refine ⟨t, by omega, by omega, ?_⟩
        rw [mor_cons, if_neg h2]
        omega
    · rw [if_neg h]
      obtain ⟨t, t1, t2, t3⟩ := gr_at l d hp'.2
      refine ⟨t, t1, by omega, ?_⟩
      rw [mor_cons, if_neg (by omega)]
      omega
theorem mor_perm {t : Int} {l l' : List Int} (h : l.Perm l') : mor t l = mor t l' := (h.filter _).length_eq
/-- the works done of the days l -/
def wr (l : List Int) : Int := gr 0 (sortI l)
theorem wr_le {l : List Int} {t : Nat} : wr l ≤ t + mor t l := by
  have := gr_le (t : Int) (sortI l) 0
  rw [mor_perm (sortI_spec l).1] at this
  unfold wr
  omega
theorem wr_at {l : List Int} : ∃ t : Nat, t ≤ l.length ∧ wr l = t + mor t l := by
  obtain ⟨t, t1, t2, t3⟩ := gr_at (sortI l) 0 (sortI_spec l).2
  rw [mor_perm (sortI_spec l).1] at t3
  have hl := (sortI_spec l).1.length_eq
  refine ⟨t.toNat, by omega, ?_⟩
  unfold wr
  rw [Int.toNat_of_nonneg t1]
  exact t3
/-- the least of the law's numbers -/
theorem wr_min {l : List Int} {n : Nat} (h : l.length ≤ n) : minI ((List.range (n + 1)).map fun (t : Nat) => (t : Int) + (mor t l : Nat)) = wr l := by
  obtain ⟨h1, h2⟩ := minI_mem (ns := (List.range (n + 1)).map fun (t : Nat) => (t : Int) + (mor t l : Nat)) (by simp)
  obtain ⟨t, ht, e⟩ := wr_at (l := l)
  have a1 := h2 (wr l) (List.mem_map.mpr ⟨t, List.mem_range.mpr (by omega), e.symm⟩)
  obtain ⟨t', _, e'⟩ := List.mem_map.mp h1
  have a2 := wr_le (l := l) (t := t')
  omega
def les (t : Int) (l : List Int) : Nat := (l.filter fun x => decide (x ≤ t)).length
theorem les_mor {t : Int} : ∀ l : List Int, les t l + mor t l = l.length
  | [] => rfl
  | x :: l => by
    have := les_mor (t := t) l
    rw [mor_cons, List.length_cons]
    unfold les at *
    rw [List.filter_cons]
    by_cases h : t < x
    · have h' : ¬ x ≤ t := by omega
      simp [h, h']; omega
    · have h' : x ≤ t := by omega
      simp [h, h']; omega
theorem wr_free {l : List Int} {n : Nat} (h : l.length ≤ n) : wr l = l.length ↔ ∀ t, t ≤ n → les (t : Nat) l ≤ t := by
  constructor
  · intro e t ht
    have := wr_le (l := l) (t := t)
    have := les_mor (t := (t : Int)) l
    omega
  · intro h2
    obtain ⟨t, ht, e⟩ := wr_at (l := l)
    have a := h2 t (by omega)
    have b := les_mor (t := (t : Int)) l
    have c := gr_len (sortI l) 0
    have d := (sortI_spec l).1.length_eq
    unfold wr at *
    omega
end K03

namespace K03
open PySem Mi
variable {S : Sto}
theorem mSorted_ints {ns : List Int} : mSorted [.v (.lst (ns.map D.int))] S = .ok (.v (.lst ((sortI ns).map D.int))) S := by
  unfold mSorted R.lsq
  simp [intsD_ints]
theorem gr_go {x0 x1 x4 : Option R} : ∀ (l : List Int) (d : Int) (x3 : Option R), ∃ x3', forGo (tgName 3) Works__rank_l1 none (l.map D.int) [x0, x1, some (.v (.int d)), x3, x4] S = .ok (.nx [x0, x1, some (.v (.int (gr d l))), x3', x4]) S
  | [], d, x3 => ⟨x3, forGo_nil trivial⟩
  | x :: l, d, x3 => by
    rw [List.map_cons, forGo_cons (show GdOk none S from trivial) tgName_ap]
    have hset : (([x0, x1, some (.v (.int d)), x3, x4] : Mi.Env).set 3 (some (.v (.int x)))) = [x0, x1, some (.v (.int d)), some (.v (.int x)), x4] := rfl
    rw [hset, gr]
    by_cases h : d < x
    · have e : Works__rank_l1 [x0, x1, some (.v (.int d)), some (.v (.int x)), x4] S = .ok (.nx [x0, x1, some (.v (.int (d + 1))), some (.v (.int x)), x4]) S := by
        unfold Works__rank_l1
        simp [h]
      rw [e, if_pos h]
      exact gr_go l (d + 1) _
    · have e : Works__rank_l1 [x0, x1, some (.v (.int d)), some (.v (.int x)), x4] S = .ok (.nx [x0, x1, some (.v (.int d)), some (.v (.int x)), x4]) S := by
        unfold Works__rank_l1
        simp [h]
      rw [e, if_neg h]
      exact gr_go l d _
theorem works_rank {n : Nat} {ds xs : List Int} (hn : ds.length = n) (hx : xs.length ≤ 1000) (ha : Asc n xs) : Works__rank_m [.v (wO n ds), .v (.tup (xs.map D.int))] S = .ok (.v (.int (wr (gsOf ds xs)))) S := by
  unfold Works__rank_m
  rw [fnM_ap, if_pos (by rfl)]
  unfold Works__rank_b
  have f8 : mFld tWorks 8 (.v (wO n ds)) S = .ok (.v (.tup (ds.map D.int))) S := fld_ap rfl rfl
  have l1 : lcGo (tgName 4) tYesM Works__rank_c1 none (wipeE [some (.v (wO n ds)), some (.v (.tup (xs.map D.int))), some (.v (.int 0)), none, none] [4]) (xs.map D.int) S = .ok ((gsOf ds xs).map D.int) S := by
    have := lc_pure (S := S) (tg := tgName 4) (tt := tYesM) (fe := Works__rank_c1) (gd := none) (env0 := wipeE [some (.v (wO n ds)), some (.v (.tup (xs.map D.int))), some (.v (.int 0)), none, none] [4]) D.int (fun x => [some (.v (wO n ds)), some (.v (.tup (xs.map D.int))), some (.v (.int 0)), none, some (.v (.int x))]) (fun _ => true) (fun x => .int (at0 ds x)) trivial xs
      (fun x hx => ⟨rfl, rfl, fun _ => by
        have h := ha.2 x hx
        unfold Works__rank_c1
        simp [f8, ix_at0 (S := S) (cs := ds) h.1 (by omega)]⟩)
    rw [filter_yes] at this
    rw [this, gsOf, List.map_map]
    rfl
  obtain ⟨gs, hgs⟩ : ∃ gs, gs = gsOf ds xs := ⟨_, rfl⟩
  rw [← hgs] at l1 ⊢
  obtain ⟨so, hso⟩ : ∃ so, so = sortI gs := ⟨_, rfl⟩
  have z1 : xs.length ≤ sizeLine := len1000 hx
  have i0 : iSeq (eVar 1) [some (.v (wO n ds)), some (.v (.tup (xs.map D.int))), some (.v (.int 0)), none, none] S = .ok (xs.map D.int, none) S := iSeq_ap (r := .v (.tup (xs.map D.int))) rfl rfl
  have ms : mSorted [.v (.lst (gs.map D.int))] S = .ok (.v (.lst (so.map D.int))) S := by rw [hso]; exact mSorted_ints
  have i1 : iSeq (eApp mSorted (aCons (eLc (iSeq (eVar 1)) (tgName 4) tYesM Works__rank_c1 [4]) aNil)) [some (.v (wO n ds)), some (.v (.tup (xs.map D.int))), some (.v (.int 0)), none, none] S = .ok (so.map D.int, none) S := by
    refine iSeq_ap (r := .v (.lst (so.map D.int))) ?_ rfl
    simp [i0, z1, l1, ms]
  obtain ⟨x3', hg⟩ := gr_go (S := S) (x0 := some (.v (wO n ds))) (x1 := some (.v (.tup (xs.map D.int)))) (x4 := none) so 0 none
  have e : gr 0 so = wr gs := by rw [hso]; rfl
  rw [e] at hg
  simp [i1, hg]
/-! ### timetable -/
def due (ds xs : List Int) : List (Int × Int) := sortP (xs.map fun x => (at0 ds x, x))
theorem pairsD_pairs : ∀ ps : List (Int × Int), pairsD (ps.map pairD) = some ps
  | [] => rfl
  | p :: ps => by
    rw [List.map_cons]
    show (match pairsD (ps.map pairD) with | some qs => some ((p.1, p.2) :: qs) | none => none) = _
    rw [pairsD_pairs ps]
theorem intsD_pairs {p : Int × Int} {ps : List (Int × Int)} : intsD ((p :: ps).map pairD) = none := rfl
theorem mSorted_pairs {ps : List (Int × Int)} : mSorted [.v (.lst (ps.map pairD))] S = .ok (.v (.lst ((sortP ps).map pairD))) S := by
  cases ps with
  | nil => simp [mSorted, R.lsq, intsD, sortI, sortP]
  | cons p ps =>
    unfold mSorted R.lsq
    simp only [intsD_pairs, pairsD_pairs]
theorem mTup_2 {a b : D} : mTup [.v a, .v b] S = .ok (.v (.tup [a, b])) S := by
  unfold mTup allD allD allD
  simp [sizeLine_eq]
theorem lc_fst {f : (Int × Int) → D} {tg : TgM} {fe : EM} {env0 : Mi.Env} (ps : List (Int × Int)) (env1 : Int × Int → Mi.Env) (h : ∀ p ∈ ps, tg (pairD p) env0 = some (env1 p) ∧ fe (env1 p) S = .ok (.v (f p)) S) : lcGo tg tYesM fe none env0 (ps.map pairD) S = .ok (ps.map f) S := by
  have := lc_pure (S := S) (tg := tg) (tt := tYesM) (fe := fe) (gd := none) (env0 := env0) pairD env1 (fun _ => true) f trivial ps (fun p hp => ⟨(h p hp).1, rfl, fun _ => (h p hp).2⟩)
  rw [filter_yes] at this
  exact this
section
variable {n : Nat} {ds xs : List Int} {r : R}
theorem timetable_no (hn : ds.length = n) (hx : xs.length ≤ 1000) (ha : Asc n xs) (hs : SeqR r S (xs.map D.int)) (hf : wr (gsOf ds xs) ≠ xs.length) : timetable_m [.v (wO n ds), r] S = .exc 4 [2] [.tup (xs.map D.int)] S := by
  unfold timetable_m
  rw [fnM_ap, if_pos (by rfl)]
  unfold timetable_b
  have f3 : mFld tRule 3 (.v (wO n ds)) S = .ok (.v (.int n)) S := fld_ap rfl rfl
  have fr := free_ok (S := S) (wO_rule (n := n) (ds := ds)) (works_rank (S := S) hn hx ha)
  rw [List.length_map, decide_eq_false hf] at fr
  have ob : R.ob (.v (wO n ds)) S = some (8, [3, 4, 8], [.int n, thg n, .tup (ds.map D.int)]) := rfl
  have d1 : disp__free 8 = some Rule__free_m := rfl
  simp [f3, set_of_asc hs ha, ob, d1, fr]
theorem timetable_bad {p : Nat} {es : List D} (hs : SeqR r S es) (hfi : es.all fine = true) (hm : misF n (-1) 0 es = some p) : timetable_m [.v (wO n ds), r] S = .exc 1 [1] [.int p] S := by
  unfold timetable_m
  rw [fnM_ap, if_pos (by rfl)]
  unfold timetable_b
  have f3 : mFld tRule 3 (.v (wO n ds)) S = .ok (.v (.int n)) S := fld_ap rfl rfl
  simp [f3, set_of_bad hs hfi hm]
theorem timetable_yes (hn : ds.length = n) (hx : xs.length ≤ 1000) (ha : Asc n xs) (hs : SeqR r S (xs.map D.int)) (hf : wr (gsOf ds xs) = xs.length) : timetable_m [.v (wO n ds), r] S = .ok (.v (.lst (((due ds xs).map (·.2)).map D.int))) S := by
  unfold timetable_m
  rw [fnM_ap, if_pos (by rfl)]
  unfold timetable_b
  have f3 : mFld tRule 3 (.v (wO n ds)) S = .ok (.v (.int n)) S := fld_ap rfl rfl
  have f8 : mFld tWorks 8 (.v (wO n ds)) S = .ok (.v (.tup (ds.map D.int))) S := fld_ap rfl rfl
  have fr := free_ok (S := S) (wO_rule (n := n) (ds := ds)) (works_rank (S := S) hn hx ha)
  rw [List.length_map, decide_eq_true hf] at fr
  have ob : R.ob (.v (wO n ds)) S = some (8, [3, 4, 8], [.int n, thg n, .tup (ds.map D.int)]) := rfl
  have d1 : disp__free 8 = some Rule__free_m := rfl
  obtain ⟨ps, hps⟩ : ∃ ps, ps = xs.map fun x => (at0 ds x, x) := ⟨_, rfl⟩
  have l1 : lcGo (tgName 4) tYesM timetable_c1 none (wipeE [some (.v (wO n ds)), some r, some (.v (.tup (xs.map D.int))), none, none] [4]) (xs.map D.int) S = .ok (ps.map pairD) S := by
    have := lc_pure (S := S) (tg := tgName 4) (tt := tYesM) (fe := timetable_c1) (gd := none) (env0 := wipeE [some (.v (wO n ds)), some r, some (.v (.tup (xs.map D.int))), none, none] [4]) D.int (fun x => [some (.v (wO n ds)), some r, some (.v (.tup (xs.map D.int))), none, some (.v (.int x))]) (fun _ => true) (fun x => pairD (at0 ds x, x)) trivial xs
      (fun x hx => ⟨rfl, rfl, fun _ => by
        have h := ha.2 x hx
        unfold timetable_c1
        simp [f8, ix_at0 (S := S) (cs := ds) h.1 (by omega), mTup_2, pairD]⟩)
    rw [filter_yes] at this
    rw [this, hps, List.map_map]
    rfl
  obtain ⟨so, hso⟩ : ∃ so, so = due ds xs := ⟨_, rfl⟩
  have ms : mSorted [.v (.lst (ps.map pairD))] S = .ok (.v (.lst (so.map pairD))) S := by rw [hso, due, ← hps]; exact mSorted_pairs
  have hl : so.length = xs.length := by rw [hso, due, (sortP_spec _).1.length_eq, List.length_map]
  obtain ⟨td, htd⟩ : ∃ td, td = so.map (·.2) := ⟨_, rfl⟩
  have l2 : lcGo (tgTup [tgName 3, tgName 4]) tYesM timetable_c2 none (wipeE [some (.v (wO n ds)), some r, some (.v (.tup (xs.map D.int))), none, none] [3, 4]) (so.map pairD) S = .ok (td.map D.int) S := by
    rw [lc_fst (f := fun p => .int p.2) so (fun p => [some (.v (wO n ds)), some r, some (.v (.tup (xs.map D.int))), some (.v (.int p.1)), some (.v (.int p.2))]) (fun p _ => ⟨rfl, by unfold timetable_c2; simp⟩), htd, List.map_map]
    rfl
  have z1 : xs.length ≤ sizeLine := len1000 hx
  have z2 : so.length ≤ sizeLine := by rw [hl]; exact z1
  have i0 : iSeq (eVar 2) [some (.v (wO n ds)), some r, some (.v (.tup (xs.map D.int))), none, none] S = .ok (xs.map D.int, none) S := iSeq_ap (r := .v (.tup (xs.map D.int))) rfl rfl
  have i1 : iSeq (eApp mSorted (aCons (eLc (iSeq (eVar 2)) (tgName 4) tYesM timetable_c1 [4]) aNil)) [some (.v (wO n ds)), some r, some (.v (.tup (xs.map D.int))), none, none] S = .ok (so.map pairD, none) S := by
    refine iSeq_ap (r := .v (.lst (so.map pairD))) ?_ rfl
    simp [i0, z1, l1, ms]
  rw [← hso, ← htd]
  simp [f3, set_of_asc hs ha, ob, d1, fr, i1, z2, l2]
end
end K03

namespace K03
open PySem Mi
variable {S : Sto}
theorem asc_len {n : Int} : ∀ (xs : List Int) (b : Int), xs.Pairwise (· < ·) → (∀ x ∈ xs, b ≤ x ∧ x < n) → xs.length ≤ (n - b).toNat
  | [], _, _, _ => Nat.zero_le _
  | x :: xs, b, hp, h => by
    have hp' := List.pairwise_cons.mp hp
    have hx := h x List.mem_cons_self
    have := asc_len xs (x + 1) hp'.2 fun y hy => ⟨by have := hp'.1 y hy; omega, (h y (List.mem_cons_of_mem _ hy)).2⟩
    rw [List.length_cons]
    omega
theorem Asc.len {n : Nat} {xs : List Int} (h : Asc n xs) : xs.length ≤ n := by
  have := asc_len xs 0 h.1 h.2
  omega
theorem les_filter {ds xs : List Int} {t : Int} : (xs.filter fun x => decide (at0 ds x ≤ t)).length = les t (gsOf ds xs) := by
  unfold gsOf les
  induction xs with
  | nil => rfl
  | cons x xs ih =>
    rw [List.filter_cons, List.map_cons, List.filter_cons]
    by_cases h : at0 ds x ≤ t <;> simp [h, ih]
theorem mor_filter {ds xs : List Int} {t : Int} : (xs.filter fun x => decide (t < at0 ds x)).length = mor t (gsOf ds xs) := by
  unfold gsOf mor
  induction xs with
  | nil => rfl
  | cons x xs ih =>
    rw [List.filter_cons, List.map_cons, List.filter_cons]
    by_cases h : t < at0 ds x <;> simp [h, ih]
theorem les_perm {t : Int} {l l' : List Int} (h : l.Perm l') : les t l = les t l' := (h.filter _).length_eq
/-- in ascending order, each in time -/
theorem in_time {l : List Int} {k : Nat} (hs : l.Pairwise (· ≤ ·)) (hk : k < l.length) (hf : les (k : Int) l ≤ k) : (k : Int) < l[k] := by
  refine Int.not_le.mp fun h => ?_
  have all : ∀ x ∈ l.take (k + 1), x ≤ (k : Int) := fun x hx => by
    obtain ⟨j, hj, rfl⟩ := List.getElem_of_mem hx
    rw [List.length_take] at hj
    rw [List.getElem_take]
    by_cases e : j = k
    · subst e; exact h
    · have := List.pairwise_iff_getElem.mp hs j k (by omega) hk (by omega)
      omega
  have h1 : ((l.take (k + 1)).filter fun x => decide (x ≤ (k : Int))).length = k + 1 := by
    rw [List.filter_eq_self.mpr fun x hx => decide_eq_true (all x hx), List.length_take]
    omega
  have h2 := ((List.take_sublist (k + 1) l).filter fun x => decide (x ≤ (k : Int))).length_le
  unfold les at hf
  omega
theorem due_time {n : Nat} {ds xs : List Int} (hx : xs.length ≤ n) (hf : wr (gsOf ds xs) = xs.length) {k : Nat} (hk : k < (due ds xs).length) : (k : Int) < at0 ds ((due ds xs)[k].2) := by
  have hp := (sortP_spec (xs.map fun x => (at0 ds x, x))).1
  have hs := (sortP_spec (xs.map fun x => (at0 ds x, x))).2
  have hl : (due ds xs).length = xs.length := by unfold due; rw [hp.length_eq, List.length_map]
  have e1 : at0 ds ((due ds xs)[k].2) = (due ds xs)[k].1 := by
    have hm : (due ds xs)[k] ∈ xs.map fun x => (at0 ds x, x) := hp.mem_iff.mp (List.getElem_mem hk)
    obtain ⟨x, _, e⟩ := List.mem_map.mp hm
    rw [← e]
  have hpf : ((due ds xs).map (·.1)).Perm (gsOf ds xs) := by
    have := hp.map (·.1)
    rw [List.map_map] at this
    exact this
  have hsf : ((due ds xs).map (·.1)).Pairwise (· ≤ ·) := by
    rw [List.pairwise_map]
    refine hs.imp fun {a b} h => ?_
    unfold leP at h
    simp only [Bool.or_eq_true, Bool.and_eq_true, decide_eq_true_eq] at h
    omega
  have hg : (gsOf ds xs).length = xs.length := by unfold gsOf; rw [List.length_map]
  have hfr := (wr_free (l := gsOf ds xs) (n := n) (by omega)).mp (by rw [hg]; exact hf) k (by omega)
  have := in_time (l := (due ds xs).map (·.1)) (k := k) hsf (by rw [List.length_map]; exact hk) (by rw [les_perm hpf]; exact hfr)
  rw [List.getElem_map] at this
  rw [e1]
  exact this
theorem kll : L2.kitB "list" "list" = some true := by decide +kernel
theorem isl_lst {ds : List D} : mIsi "list" (.v (.lst ds)) S = .ok (.v (.bl true)) S := by unfold mIsi R.ty D.ty; simp [kll]
section
variable {n : Nat} {ds xs : List Int} {r : R}
theorem th_free (hn : ds.length = n) (hx : xs.length ≤ 1000) (hn1 : n ≤ 16) (ha : Asc n xs) (hr : r = .v (.tup (xs.map D.int)) ∨ r = .v (.lst (xs.map D.int))) {x0 : Option R} :
    eApp mAll (aCons (eLc (iRng1 (aCons (eOp opAdd (eApp mLen (aCons (eVar 1) aNil)) (eC (.int 1))) aNil)) (tgName 10) tYesM _law_timetable_holds_c2 [10]) aNil) [x0, some (.v (.lst (ds.map D.int))), some r, none, none, none, none, none, none, none, none, none, none] S =
      .ok (.v (.bl (decide (wr (gsOf ds xs) = xs.length)))) S := by
  have hsr : srcOf r S = some (xs.map D.int, none) := by rcases hr with rfl | rfl <;> rfl
  have hlen : mLen [.v (.lst (ds.map D.int))] S = .ok (.v (.int n)) S := by rw [SeqR.len (.inr (.inl rfl)), List.length_map, hn]
  have hl2 : ∀ l : List D, mLen [.v (.lst l)] S = .ok (.v (.int l.length)) S := fun l => SeqR.len (.inr (.inl rfl))
  obtain ⟨bs, hbs⟩ : ∃ bs, bs = (List.range (n + 1)).map fun (t : Nat) => decide (les (t : Int) (gsOf ds xs) ≤ t) := ⟨_, rfl⟩
  have l1 : lcGo (tgName 10) tYesM _law_timetable_holds_c2 none (wipeE [x0, some (.v (.lst (ds.map D.int))), some r, none, none, none, none, none, none, none, none, none, none] [10]) ((List.range (n + 1)).map fun i => D.int (i : Nat)) S = .ok (bs.map D.bl) S := by
    have := lc_pure (S := S) (tg := tgName 10) (tt := tYesM) (fe := _law_timetable_holds_c2) (gd := none) (env0 := wipeE [x0, some (.v (.lst (ds.map D.int))), some r, none, none, none, none, none, none, none, none, none, none] [10]) (fun i : Nat => D.int (i : Nat))
      (fun t => [x0, some (.v (.lst (ds.map D.int))), some r, none, none, none, none, none, none, none, some (.v (.int (t : Nat))), none, none]) (fun _ => true) (fun (t : Nat) => .bl (decide (les (t : Int) (gsOf ds xs) ≤ t))) trivial (List.range (n + 1))
      (fun t _ => ⟨rfl, rfl, fun _ => by
        have inner := lc_pure (S := S) (tg := tgName 12) (tt := _law_timetable_holds_d1) (fe := _law_timetable_holds_c1) (gd := none) (env0 := wipeE [x0, some (.v (.lst (ds.map D.int))), some r, none, none, none, none, none, none, none, some (.v (.int (t : Nat))), none, none] [12]) D.int
          (fun x => [x0, some (.v (.lst (ds.map D.int))), some r, none, none, none, none, none, none, none, some (.v (.int (t : Nat))), none, some (.v (.int x))]) (fun x => decide (at0 ds x ≤ (t : Int))) D.int trivial xs
          (fun x hx => ⟨rfl, by
            have h := ha.2 x hx
            unfold _law_timetable_holds_d1
            simp [ix_at0l (S := S) (cs := ds) h.1 (by omega)], fun _ => by unfold _law_timetable_holds_c1; simp⟩)
        have i1 : iSeq (eVar 2) [x0, some (.v (.lst (ds.map D.int))), some r, none, none, none, none, none, none, none, some (.v (.int (t : Nat))), none, none] S = .ok (xs.map D.int, none) S := iSeq_ap (r := r) rfl hsr
        have z : xs.length ≤ sizeLine := len1000 hx
        have hc : ((xs.filter fun x => decide (at0 ds x ≤ (t : Int))).map D.int).length = les (t : Int) (gsOf ds xs) := by rw [List.length_map]; exact les_filter
        unfold _law_timetable_holds_c2
        rw [eOp_ap, eApp_ap, aCons_ap, eLc_ap, i1, bind_ok]
        dsimp only
        rw [if_pos (by rw [List.length_map]; exact z), inner]
        simp [hl2, hc]⟩)
    rw [filter_yes] at this
    rw [this, hbs, List.map_map]
    rfl
  have rg : iRng1 (aCons (eOp opAdd (eApp mLen (aCons (eVar 1) aNil)) (eC (.int 1))) aNil) [x0, some (.v (.lst (ds.map D.int))), some r, none, none, none, none, none, none, none, none, none, none] S = .ok ((List.range (n + 1)).map (fun i => D.int (i : Nat)), none) S := rng_ap (by simp [hlen]) (by omega)
  have hfin : bs.all id = decide (wr (gsOf ds xs) = xs.length) := by
    have hg : (gsOf ds xs).length = xs.length := by unfold gsOf; rw [List.length_map]
    have hxl : xs.length ≤ n := ha.len
    rw [Bool.eq_iff_iff, decide_eq_true_iff, ← hg, wr_free (n := n) (by omega), hbs, List.all_map, List.all_eq_true]
    constructor
    · intro h t ht
      have := h t (List.mem_range.mpr (by omega))
      simpa using this
    · intro h t ht
      have := h t (by have := List.mem_range.mp ht; omega)
      simpa using this
  rw [eApp_ap, aCons_ap, eLc_ap, rg, bind_ok]
  dsimp only
  rw [if_pos (by rw [List.length_map, List.length_range]; exact Nat.le_trans (show n + 1 ≤ 1000 by omega) (by rw [sizeLine_eq]; decide)), l1]
  simp only [bind_ok, aNil_ap, mAll_bls, hfin]
end
end K03

namespace K03
open PySem Mi
variable {S : Sto}
section
variable {n : Nat} {ds xs : List Int} {r : R}
theorem timetable_holds (hn : ds.length = n) (hn1 : n ≤ 16) (ha : Asc n xs) (hr : r = .v (.tup (xs.map D.int)) ∨ r = .v (.lst (xs.map D.int))) : _law_timetable_holds_m [.v (wO n ds), .v (.lst (ds.map D.int)), r] S = .ok (.v (.bl true)) S := by
  have hxn := ha.len
  have hx : xs.length ≤ 1000 := by omega
  unfold _law_timetable_holds_m
  rw [fnM_ap, if_pos (by rfl)]
  unfold _law_timetable_holds_b
  have henv : List.map some [R.v (wO n ds), .v (.lst (ds.map D.int)), r] ++ List.replicate (13 - 3) none = [some (.v (wO n ds)), some (.v (.lst (ds.map D.int))), some r, none, none, none, none, none, none, none, none, none, none] := rfl
  rw [henv, sSeq_ap, sSet_ap, th_free hn hx hn1 ha hr, rthn_ok, sthn_nx]
  have hset : (([some (.v (wO n ds)), some (.v (.lst (ds.map D.int))), some r, none, none, none, none, none, none, none, none, none, none] : Mi.Env).set 3 (some (.v (.bl (decide (wr (gsOf ds xs) = xs.length)))))) = [some (.v (wO n ds)), some (.v (.lst (ds.map D.int))), some r, some (.v (.bl (decide (wr (gsOf ds xs) = xs.length)))), none, none, none, none, none, none, none, none, none] := rfl
  rw [hset]
  have hls : mList [r] S = .ok (.v (.lst (xs.map D.int))) S := by rcases hr with rfl | rfl <;> rfl
  have htu : mTuple [r] S = .ok (.v (.tup (xs.map D.int))) S := by rcases hr with rfl | rfl <;> rfl
  have hsr : srcOf r S = some (xs.map D.int, none) := by rcases hr with rfl | rfl <;> rfl
  by_cases hf : wr (gsOf ds xs) = xs.length
  · rw [decide_eq_true hf]
    have tt : timetable_m [.v (wO n ds), .v (.lst (xs.map D.int))] S = .ok (.v (.lst (((due ds xs).map (·.2)).map D.int))) S := timetable_yes hn hx ha (.inr (.inl rfl)) hf
    obtain ⟨so, hso⟩ : ∃ so, so = due ds xs := ⟨_, rfl⟩
    obtain ⟨td, htd⟩ : ∃ td, td = so.map (·.2) := ⟨_, rfl⟩
    rw [← hso, ← htd] at tt
    have hsl : so.length = xs.length := by rw [hso, due, (sortP_spec _).1.length_eq, List.length_map]
    have htl : td.length = xs.length := by rw [htd, List.length_map, hsl]
    obtain ⟨ps, hps⟩ : ∃ ps, ps = xs.map fun x => (at0 ds x, x) := ⟨_, rfl⟩
    have ms : mSorted [.v (.lst (ps.map pairD))] S = .ok (.v (.lst (so.map pairD))) S := by rw [hso, due, ← hps]; exact mSorted_pairs
    have z1 : xs.length ≤ sizeLine := len1000 hx
    have z2 : so.length ≤ sizeLine := by rw [hsl]; exact z1
    have l1 : lcGo (tgName 12) tYesM _law_timetable_holds_c3 none (wipeE [some (.v (wO n ds)), some (.v (.lst (ds.map D.int))), some r, some (.v (.bl true)), some (.v (.lst (td.map D.int))), some (.v .non), some (.v (.bl true)), none, none, none, none, none, none] [12]) (xs.map D.int) S = .ok (ps.map pairD) S := by
      have := lc_pure (S := S) (tg := tgName 12) (tt := tYesM) (fe := _law_timetable_holds_c3) (gd := none) (env0 := wipeE [some (.v (wO n ds)), some (.v (.lst (ds.map D.int))), some r, some (.v (.bl true)), some (.v (.lst (td.map D.int))), some (.v .non), some (.v (.bl true)), none, none, none, none, none, none] [12]) D.int
        (fun x => [some (.v (wO n ds)), some (.v (.lst (ds.map D.int))), some r, some (.v (.bl true)), some (.v (.lst (td.map D.int))), some (.v .non), some (.v (.bl true)), none, none, none, none, none, some (.v (.int x))]) (fun _ => true) (fun x => pairD (at0 ds x, x)) trivial xs
        (fun x hx => ⟨rfl, rfl, fun _ => by
          have h := ha.2 x hx
          unfold _law_timetable_holds_c3
          simp [ix_at0l (S := S) (cs := ds) h.1 (by omega), mTup_2, pairD]⟩)
      rw [filter_yes] at this
      rw [this, hps, List.map_map]
      rfl
    have l2 : lcGo (tgName 9) tYesM _law_timetable_holds_c4 none (wipeE [some (.v (wO n ds)), some (.v (.lst (ds.map D.int))), some r, some (.v (.bl true)), some (.v (.lst (td.map D.int))), some (.v .non), some (.v (.bl true)), none, none, none, none, none, none] [9]) (so.map pairD) S = .ok (td.map D.int) S := by
      rw [lc_fst (f := fun p => .int p.2) so (fun p => [some (.v (wO n ds)), some (.v (.lst (ds.map D.int))), some r, some (.v (.bl true)), some (.v (.lst (td.map D.int))), some (.v .non), some (.v (.bl true)), none, none, some (.v (pairD p)), none, none, none]) (fun p _ => ⟨rfl, by
        unfold _law_timetable_holds_c4
        have : mIx (.v (pairD p)) (.v (.int 1)) S = .ok (.v (.int p.2)) S := rfl
        simp [this]⟩), htd, List.map_map]
      rfl
    have i0 : iSeq (eVar 2) [some (.v (wO n ds)), some (.v (.lst (ds.map D.int))), some r, some (.v (.bl true)), some (.v (.lst (td.map D.int))), some (.v .non), some (.v (.bl true)), none, none, none, none, none, none] S = .ok (xs.map D.int, none) S := iSeq_ap (r := r) rfl hsr
    have i1 : iSeq (eApp mSorted (aCons (eLc (iSeq (eVar 2)) (tgName 12) tYesM _law_timetable_holds_c3 [12]) aNil)) [some (.v (wO n ds)), some (.v (.lst (ds.map D.int))), some r, some (.v (.bl true)), some (.v (.lst (td.map D.int))), some (.v .non), some (.v (.bl true)), none, none, none, none, none, none] S = .ok (so.map pairD, none) S := by
      refine iSeq_ap (r := .v (.lst (so.map pairD))) ?_ rfl
      simp [i0, z1, l1, ms]
    have hlt : mLen [.v (.lst (td.map D.int))] S = .ok (.v (.int td.length)) S := by rw [SeqR.len (.inr (.inl rfl)), List.length_map]
    obtain ⟨bs, hbs⟩ : ∃ bs : List Bool, bs = (List.range td.length).map fun _ => true := ⟨_, rfl⟩
    have hball : bs.all id = true := by rw [hbs]; simp
    have l3 : lcGo (tgName 11) tYesM _law_timetable_holds_c5 none (wipeE [some (.v (wO n ds)), some (.v (.lst (ds.map D.int))), some r, some (.v (.bl true)), some (.v (.lst (td.map D.int))), some (.v .non), some (.v (.bl true)), none, some (.v (.lst (td.map D.int))), none, none, none, none] [11]) ((List.range td.length).map fun i => D.int (i : Nat)) S = .ok (bs.map D.bl) S := by
      have := lc_pure (S := S) (tg := tgName 11) (tt := tYesM) (fe := _law_timetable_holds_c5) (gd := none) (env0 := wipeE [some (.v (wO n ds)), some (.v (.lst (ds.map D.int))), some r, some (.v (.bl true)), some (.v (.lst (td.map D.int))), some (.v .non), some (.v (.bl true)), none, some (.v (.lst (td.map D.int))), none, none, none, none] [11]) (fun i : Nat => D.int (i : Nat))
        (fun k => [some (.v (wO n ds)), some (.v (.lst (ds.map D.int))), some r, some (.v (.bl true)), some (.v (.lst (td.map D.int))), some (.v .non), some (.v (.bl true)), none, some (.v (.lst (td.map D.int))), none, none, some (.v (.int (k : Nat))), none]) (fun _ => true) (fun _ => .bl true) trivial (List.range td.length)
        (fun k hk => ⟨rfl, rfl, fun _ => by
          have hk' : k < td.length := List.mem_range.mp hk
          have hks : k < so.length := by omega
          have hkd : k < (due ds xs).length := by rw [← hso]; exact hks
          have a1 := ix_at0l (S := S) (cs := td) (x := (k : Int)) (by omega) (by omega)
          have e1 : at0 td (k : Int) = (due ds xs)[k].2 := by
            unfold at0
            rw [List.getD_eq_getElem?_getD, Int.toNat_natCast, htd, List.getElem?_map, hso, List.getElem?_eq_getElem hkd]
            rfl
          have hm : (due ds xs)[k].2 ∈ xs := by
            have hm : (due ds xs)[k] ∈ xs.map fun x => (at0 ds x, x) := (sortP_spec (xs.map fun x => (at0 ds x, x))).1.mem_iff.mp (List.getElem_mem hkd)
            obtain ⟨x, hx, e⟩ := List.mem_map.mp hm
            rw [← e]
            exact hx
          have hb := ha.2 _ hm
          have a2 := ix_at0l (S := S) (cs := ds) (x := (due ds xs)[k].2) hb.1 (by omega)
          have a3 := due_time (n := n) hxn hf hkd
          rw [e1] at a1
          unfold _law_timetable_holds_c5
          simp [a1, a2, a3]⟩)
      rw [filter_yes] at this
      rw [this, hbs, List.map_map]
      rfl
    have rg : iRng1 (aCons (eApp mLen (aCons (eVar 4) aNil)) aNil) [some (.v (wO n ds)), some (.v (.lst (ds.map D.int))), some r, some (.v (.bl true)), some (.v (.lst (td.map D.int))), some (.v .non), some (.v (.bl true)), none, some (.v (.lst (td.map D.int))), none, none, none, none] S = .ok ((List.range td.length).map (fun i => D.int (i : Nat)), none) S := rng_ap (by simp [hlt]) (by omega)
    have z3 : td.length ≤ sizeLine := by rw [htl]; exact z1
    simp [sTry_ap, hls, tt, i1, z2, l2, cmIsNot, isl_lst, rg, z3, l3, mAll_bls, hball]
  · rw [decide_eq_false hf]
    have tt : timetable_m [.v (wO n ds), .v (.lst (xs.map D.int))] S = .exc 4 [2] [.tup (xs.map D.int)] S := timetable_no hn hx ha (.inr (.inl rfl)) hf
    have x0 : eNF 4 = some true := rfl
    have x1 : ∀ d, mXf tTh 2 (.e 4 [2] [d]) S = .ok (.v d) S := fun d => rfl
    have x3 : ∀ d, mIsX iPE (.e 4 [2] [d]) S = .ok (.v (.bl true)) S := fun d => rfl
    have x4 : ∀ d, mIsX iThree (.e 4 [2] [d]) S = .ok (.v (.bl false)) S := fun d => rfl
    have hie : isE (some r) = false := by rcases hr with rfl | rfl <;> rfl
    simp [sTry_ap, hls, tt, x0, x1, x3, x4, cleanE, hie, show ∀ d, isE (some (R.v d)) = false from fun _ => rfl, show isE none = false from rfl, cmIs, htu]
theorem no_set_place {p : Nat} {es : List D} (hs : SeqR r S es) (hrv : isE (some r) = false) (hfi : es.all fine = true) (hm : misF n (-1) 0 es = some p) : _law_no_set_place_m [.v (wO n ds), r] S = .ok (.v (.int p)) S := by
  unfold _law_no_set_place_m
  rw [fnM_ap, if_pos (by rfl)]
  unfold _law_no_set_place_b
  have tt : timetable_m [.v (wO n ds), r] S = .exc 1 [1] [.int p] S := timetable_bad hs hfi hm
  have x0 : eBS 1 = some true := rfl
  have x1 : ∀ d, mXf tPl 1 (.e 1 [1] [d]) S = .ok (.v d) S := fun d => rfl
  simp [sTry_ap, tt, x0, x1, cleanE, hrv, show ∀ d, isE (some (R.v d)) = false from fun _ => rfl, show isE none = false from rfl]
end
end K03

namespace K03
open PySem Mi
variable {S : Sto}
theorem mMin_ints {ns : List Int} (h : ns ≠ []) : mMin [.v (.lst (ns.map D.int))] S = .ok (.v (.int (minI ns))) S := by
  unfold mMin R.lsq
  simp [intsD_ints, h]
theorem w_days {c1 : Cell} {n : Nat} {sh lm : Int} (hp : Pool c1) (hs : 0 ≤ sh) (hl0 : 0 < lm) (hl1 : lm < 100) (env : Mi.Env) (h0 : env[0]? = some (some (.l 0))) (h3 : env[3]? = some (some (.v (.int lm)))) (h4 : env[4]? = some (some (.v (.int sh)))) :
    ∃ (ds : List Int) (c2 : Cell), lcGo (tgName 11) tYesM _law_works_hold_c1 none (wipeE env [11]) ((List.range n).map fun i => D.int (i : Nat)) [c1] = .ok (ds.map D.int) [c2] ∧ ds.length = n ∧ (∀ d ∈ ds, 0 ≤ d) ∧ Pool c2 := by
  obtain ⟨ys, S', e, el, ep, c2, rfl, hp2⟩ := lc_run (tg := tgName 11) (fe := _law_works_hold_c1) (env0 := wipeE env [11]) (fun i : Nat => D.int (i : Nat)) (fun S => ∃ c, S = [c] ∧ Pool c) (fun y => ∃ i : Int, y = .int i ∧ 0 ≤ i) (List.range n) [c1] ⟨c1, rfl, hp⟩
    (fun x hx => ⟨_, rfl, fun S ⟨c, hS, hc⟩ => by
      subst hS
      obtain ⟨d, c', e1, p1, d0, d1⟩ := draw_ok (S := []) (m := lm) hc hl0 (by omega)
      refine ⟨.int (sh + d), [c'], ?_, ⟨sh + d, rfl, by omega⟩, c', rfl, p1⟩
      have g : ∀ (x : Option R) (i : Nat), i ≠ 11 → ((wipeE env [11]).set 11 x)[i]? = env[i]? := fun x i h => by
        rw [List.getElem?_set_ne (Ne.symm h)]
        show ((env.set 11 none))[i]? = _
        rw [List.getElem?_set_ne (Ne.symm h)]
      have g0 := fun x => (g x 0 (by decide)).trans h0
      have g3 := fun x => (g x 3 (by decide)).trans h3
      have g4 := fun x => (g x 4 (by decide)).trans h4
      unfold _law_works_hold_c1
      simp [g0, g3, g4, e1]⟩)
  obtain ⟨ds, rfl, hds⟩ := ints_of ep
  exact ⟨ds, c2, e, by rw [List.length_map, List.length_range] at el; exact el, hds, hp2⟩
section
variable {n : Nat} {ds xs : List Int} {x0 x1 x3 x4 x6 x7 x8 x9 x10 x11 x12 x13 x14 x15 x16 x17 x18 x19 x20 : Option R}
theorem w_c3 (hn : ds.length = n) (ha : Asc n xs) (hx : xs.length ≤ 1000) (ks : List Nat) :
    lcGo (tgName 18) tYesM _law_works_hold_c3 none (wipeE [x0, x1, some (.v (.tup (xs.map D.int))), x3, x4, some (.v (.lst (ds.map D.int))), x6, x7, x8, x9, x10, x11, x12, x13, x14, x15, x16, x17, x18, x19, x20] [18]) (ks.map fun i => D.int (i : Nat)) S =
      .ok ((ks.map fun (t : Nat) => (t : Int) + (mor (t : Int) (gsOf ds xs) : Nat)).map D.int) S := by
  have := lc_pure (S := S) (tg := tgName 18) (tt := tYesM) (fe := _law_works_hold_c3) (gd := none) (env0 := wipeE [x0, x1, some (.v (.tup (xs.map D.int))), x3, x4, some (.v (.lst (ds.map D.int))), x6, x7, x8, x9, x10, x11, x12, x13, x14, x15, x16, x17, x18, x19, x20] [18]) (fun i : Nat => D.int (i : Nat))
    (fun t => [x0, x1, some (.v (.tup (xs.map D.int))), x3, x4, some (.v (.lst (ds.map D.int))), x6, x7, x8, x9, x10, x11, x12, x13, x14, x15, x16, x17, some (.v (.int (t : Nat))), x19, x20]) (fun _ => true) (fun (t : Nat) => .int ((t : Int) + (mor (t : Int) (gsOf ds xs) : Nat))) trivial ks
    (fun t _ => ⟨rfl, rfl, fun _ => by
      have inner := lc_pure (S := S) (tg := tgName 11) (tt := _law_works_hold_d1) (fe := _law_works_hold_c2) (gd := none) (env0 := wipeE [x0, x1, some (.v (.tup (xs.map D.int))), x3, x4, some (.v (.lst (ds.map D.int))), x6, x7, x8, x9, x10, x11, x12, x13, x14, x15, x16, x17, some (.v (.int (t : Nat))), x19, x20] [11]) D.int
        (fun x => [x0, x1, some (.v (.tup (xs.map D.int))), x3, x4, some (.v (.lst (ds.map D.int))), x6, x7, x8, x9, x10, some (.v (.int x)), x12, x13, x14, x15, x16, x17, some (.v (.int (t : Nat))), x19, x20]) (fun x => decide ((t : Int) < at0 ds x)) D.int trivial xs
        (fun x hx => ⟨rfl, by
          have h := ha.2 x hx
          unfold _law_works_hold_d1
          simp [ix_at0l (S := S) (cs := ds) h.1 (by omega)], fun _ => by unfold _law_works_hold_c2; simp⟩)
      have i1 : iSeq (eVar 2) [x0, x1, some (.v (.tup (xs.map D.int))), x3, x4, some (.v (.lst (ds.map D.int))), x6, x7, x8, x9, x10, x11, x12, x13, x14, x15, x16, x17, some (.v (.int (t : Nat))), x19, x20] S = .ok (xs.map D.int, none) S := iSeq_ap (r := .v (.tup (xs.map D.int))) rfl rfl
      have z : xs.length ≤ sizeLine := len1000 hx
      have hl2 : ∀ l : List D, mLen [.v (.lst l)] S = .ok (.v (.int l.length)) S := fun l => SeqR.len (.inr (.inl rfl))
      have hc : ((xs.filter fun x => decide ((t : Int) < at0 ds x)).map D.int).length = mor (t : Int) (gsOf ds xs) := by rw [List.length_map]; exact mor_filter
      have he : eLc (iSeq (eVar 2)) (tgName 11) _law_works_hold_d1 _law_works_hold_c2 [11] [x0, x1, some (.v (.tup (xs.map D.int))), x3, x4, some (.v (.lst (ds.map D.int))), x6, x7, x8, x9, x10, x11, x12, x13, x14, x15, x16, x17, some (.v (.int (t : Nat))), x19, x20] S = .ok (.v (.lst ((xs.filter fun x => decide ((t : Int) < at0 ds x)).map D.int))) S := by
        rw [eLc_ap, i1, bind_ok]
        dsimp only
        rw [if_pos (by rw [List.length_map]; exact z), inner]
      unfold _law_works_hold_c3
      simp only [eOp_ap, eApp_ap, aCons_ap, he, eVar_ap, List.getElem?_cons_succ, List.getElem?_cons_zero, bind_ok, aNil_ap, hl2, hc, opAdd_int]⟩)
  rw [filter_yes] at this
  rw [this, List.map_map]
  rfl
theorem w_c5 (hn : ds.length = n) (ha : Asc n xs) (hx : xs.length ≤ 1000) (ks : List Nat) :
    lcGo (tgName 18) tYesM _law_works_hold_c5 none (wipeE [x0, x1, some (.v (.tup (xs.map D.int))), x3, x4, some (.v (.lst (ds.map D.int))), x6, x7, x8, x9, x10, x11, x12, x13, x14, x15, x16, x17, x18, x19, x20] [18]) (ks.map fun i => D.int (i : Nat)) S =
      .ok ((ks.map fun (t : Nat) => decide (les (t : Int) (gsOf ds xs) ≤ t)).map D.bl) S := by
  have := lc_pure (S := S) (tg := tgName 18) (tt := tYesM) (fe := _law_works_hold_c5) (gd := none) (env0 := wipeE [x0, x1, some (.v (.tup (xs.map D.int))), x3, x4, some (.v (.lst (ds.map D.int))), x6, x7, x8, x9, x10, x11, x12, x13, x14, x15, x16, x17, x18, x19, x20] [18]) (fun i : Nat => D.int (i : Nat))
    (fun t => [x0, x1, some (.v (.tup (xs.map D.int))), x3, x4, some (.v (.lst (ds.map D.int))), x6, x7, x8, x9, x10, x11, x12, x13, x14, x15, x16, x17, some (.v (.int (t : Nat))), x19, x20]) (fun _ => true) (fun (t : Nat) => .bl (decide (les (t : Int) (gsOf ds xs) ≤ t))) trivial ks
    (fun t _ => ⟨rfl, rfl, fun _ => by
      have inner := lc_pure (S := S) (tg := tgName 11) (tt := _law_works_hold_d2) (fe := _law_works_hold_c4) (gd := none) (env0 := wipeE [x0, x1, some (.v (.tup (xs.map D.int))), x3, x4, some (.v (.lst (ds.map D.int))), x6, x7, x8, x9, x10, x11, x12, x13, x14, x15, x16, x17, some (.v (.int (t : Nat))), x19, x20] [11]) D.int
        (fun x => [x0, x1, some (.v (.tup (xs.map D.int))), x3, x4, some (.v (.lst (ds.map D.int))), x6, x7, x8, x9, x10, some (.v (.int x)), x12, x13, x14, x15, x16, x17, some (.v (.int (t : Nat))), x19, x20]) (fun x => decide (at0 ds x ≤ (t : Int))) D.int trivial xs
        (fun x hx => ⟨rfl, by
          have h := ha.2 x hx
          unfold _law_works_hold_d2
          simp [ix_at0l (S := S) (cs := ds) h.1 (by omega)], fun _ => by unfold _law_works_hold_c4; simp⟩)
      have i1 : iSeq (eVar 2) [x0, x1, some (.v (.tup (xs.map D.int))), x3, x4, some (.v (.lst (ds.map D.int))), x6, x7, x8, x9, x10, x11, x12, x13, x14, x15, x16, x17, some (.v (.int (t : Nat))), x19, x20] S = .ok (xs.map D.int, none) S := iSeq_ap (r := .v (.tup (xs.map D.int))) rfl rfl
      have z : xs.length ≤ sizeLine := len1000 hx
      have hl2 : ∀ l : List D, mLen [.v (.lst l)] S = .ok (.v (.int l.length)) S := fun l => SeqR.len (.inr (.inl rfl))
      have hc : ((xs.filter fun x => decide (at0 ds x ≤ (t : Int))).map D.int).length = les (t : Int) (gsOf ds xs) := by rw [List.length_map]; exact les_filter
      have he : eLc (iSeq (eVar 2)) (tgName 11) _law_works_hold_d2 _law_works_hold_c4 [11] [x0, x1, some (.v (.tup (xs.map D.int))), x3, x4, some (.v (.lst (ds.map D.int))), x6, x7, x8, x9, x10, x11, x12, x13, x14, x15, x16, x17, some (.v (.int (t : Nat))), x19, x20] S = .ok (.v (.lst ((xs.filter fun x => decide (at0 ds x ≤ (t : Int))).map D.int))) S := by
        rw [eLc_ap, i1, bind_ok]
        dsimp only
        rw [if_pos (by rw [List.length_map]; exact z), inner]
      unfold _law_works_hold_c5
      rw [eOp_ap, eApp_ap, aCons_ap, he]
      simp [hl2, hc]⟩)
  rw [filter_yes] at this
  rw [this, List.map_map]
  rfl
/-- one more thing, or not -/
theorem part_step (hn : ds.length = n) (hn1 : n ≤ 16) {pr : List Int} {x : Int} (ha : Asc n (pr ++ [x])) : ∃ (b : Bool) (x12' : Option R), isE x12' = false ∧ _law_works_hold_l1 [x0, x1, some (.v (.tup (xs.map D.int))), x3, x4, some (.v (.lst (ds.map D.int))), x6, x7, x8, x9, some (.v (.lst (pr.map D.int))), some (.v (.int x)), x12, x13, x14, x15, x16, x17, x18, x19, x20] S =
    .ok (.nx [x0, x1, some (.v (.tup (xs.map D.int))), x3, x4, some (.v (.lst (ds.map D.int))), x6, x7, x8, x9, some (.v (.lst ((if b then pr ++ [x] else pr).map D.int))), some (.v (.int x)), x12', x13, x14, x15, x16, x17, x18, x19, x20]) S := by
  have hl := ha.len
  obtain ⟨p2, hp2⟩ : ∃ p2, p2 = pr ++ [x] := ⟨_, rfl⟩
  have hpl : p2.length ≤ n := by rw [hp2]; exact hl
  have oa : opAdd (.v (.lst (pr.map D.int))) (.v (.lst [.int x])) S = .ok (.v (.lst (p2.map D.int))) S := by
    rw [opAdd_lst (by rw [hp2, List.length_append] at hpl; simp at hpl ⊢; omega), hp2, List.map_append]
    rfl
  obtain ⟨gs, hgs⟩ : ∃ gs, gs = gsOf ds p2 := ⟨_, rfl⟩
  obtain ⟨so, hso⟩ : ∃ so, so = sortI gs := ⟨_, rfl⟩
  have hsl : so.length ≤ n := by rw [hso, (sortI_spec gs).1.length_eq, hgs, gsOf, List.length_map]; exact hpl
  have ms : mSorted [.v (.lst (gs.map D.int))] S = .ok (.v (.lst (so.map D.int))) S := by rw [hso]; exact mSorted_ints
  have l1 : lcGo (tgName 19) tYesM _law_works_hold_c6 none (wipeE [x0, x1, some (.v (.tup (xs.map D.int))), x3, x4, some (.v (.lst (ds.map D.int))), x6, x7, x8, x9, some (.v (.lst (pr.map D.int))), some (.v (.int x)), x12, x13, x14, x15, x16, x17, x18, x19, x20] [19]) (p2.map D.int) S = .ok (gs.map D.int) S := by
    have := lc_pure (S := S) (tg := tgName 19) (tt := tYesM) (fe := _law_works_hold_c6) (gd := none) (env0 := wipeE [x0, x1, some (.v (.tup (xs.map D.int))), x3, x4, some (.v (.lst (ds.map D.int))), x6, x7, x8, x9, some (.v (.lst (pr.map D.int))), some (.v (.int x)), x12, x13, x14, x15, x16, x17, x18, x19, x20] [19]) D.int
      (fun y => [x0, x1, some (.v (.tup (xs.map D.int))), x3, x4, some (.v (.lst (ds.map D.int))), x6, x7, x8, x9, some (.v (.lst (pr.map D.int))), some (.v (.int x)), x12, x13, x14, x15, x16, x17, x18, some (.v (.int y)), x20]) (fun _ => true) (fun y => .int (at0 ds y)) trivial p2
      (fun y hy => ⟨rfl, rfl, fun _ => by
        have h := ha.2 y (by rw [← hp2]; exact hy)
        unfold _law_works_hold_c6
        simp [ix_at0l (S := S) (cs := ds) h.1 (by omega)]⟩)
    rw [filter_yes] at this
    rw [this, hgs, gsOf, List.map_map]
    rfl
  have z1 : p2.length ≤ sizeLine := len1000 (by omega)
  have z2 : so.length ≤ sizeLine := len1000 (by omega)
  obtain ⟨bs, hbs⟩ : ∃ bs : List Bool, bs = (List.range so.length).map fun (k : Nat) => decide ((k : Int) < at0 so (k : Int)) := ⟨_, rfl⟩
  have l2 : lcGo (tgName 20) tYesM _law_works_hold_c7 none (wipeE [x0, x1, some (.v (.tup (xs.map D.int))), x3, x4, some (.v (.lst (ds.map D.int))), x6, x7, x8, x9, some (.v (.lst (pr.map D.int))), some (.v (.int x)), some (.v (.lst (so.map D.int))), x13, x14, x15, x16, x17, x18, x19, x20] [20]) ((List.range so.length).map fun i => D.int (i : Nat)) S = .ok (bs.map D.bl) S := by
    have := lc_pure (S := S) (tg := tgName 20) (tt := tYesM) (fe := _law_works_hold_c7) (gd := none) (env0 := wipeE [x0, x1, some (.v (.tup (xs.map D.int))), x3, x4, some (.v (.lst (ds.map D.int))), x6, x7, x8, x9, some (.v (.lst (pr.map D.int))), some (.v (.int x)), some (.v (.lst (so.map D.int))), x13, x14, x15, x16, x17, x18, x19, x20] [20]) (fun i : Nat => D.int (i : Nat))
      (fun k => [x0, x1, some (.v (.tup (xs.map D.int))), x3, x4, some (.v (.lst (ds.map D.int))), x6, x7, x8, x9, some (.v (.lst (pr.map D.int))), some (.v (.int x)), some (.v (.lst (so.map D.int))), x13, x14, x15, x16, x17, x18, x19, some (.v (.int (k : Nat)))]) (fun _ => true) (fun (k : Nat) => .bl (decide ((k : Int) < at0 so (k : Int)))) trivial (List.range so.length)
      (fun k hk => ⟨rfl, rfl, fun _ => by
        have hk' := List.mem_range.mp hk
        unfold _law_works_hold_c7
        simp [ix_at0l (S := S) (cs := so) (x := (k : Int)) (by omega) (by omega)]⟩)
    rw [filter_yes] at this
    rw [this, hbs, List.map_map]
    rfl
  have i1 : iSeq (eOp opAdd (eVar 10) (eApp mLst (aCons (eVar 11) aNil))) [x0, x1, some (.v (.tup (xs.map D.int))), x3, x4, some (.v (.lst (ds.map D.int))), x6, x7, x8, x9, some (.v (.lst (pr.map D.int))), some (.v (.int x)), x12, x13, x14, x15, x16, x17, x18, x19, x20] S = .ok (p2.map D.int, none) S := iSeq_ap (r := .v (.lst (p2.map D.int))) (by simp [mLst_1, oa]) rfl
  have hlt : mLen [.v (.lst (so.map D.int))] S = .ok (.v (.int so.length)) S := by rw [SeqR.len (.inr (.inl rfl)), List.length_map]
  have rg : iRng1 (aCons (eApp mLen (aCons (eVar 12) aNil)) aNil) [x0, x1, some (.v (.tup (xs.map D.int))), x3, x4, some (.v (.lst (ds.map D.int))), x6, x7, x8, x9, some (.v (.lst (pr.map D.int))), some (.v (.int x)), some (.v (.lst (so.map D.int))), x13, x14, x15, x16, x17, x18, x19, x20] S = .ok ((List.range so.length).map (fun i => D.int (i : Nat)), none) S := rng_ap (by simp [hlt]) (by omega)
  refine ⟨bs.all id, some (.v (.lst (so.map D.int))), rfl, ?_⟩
  rw [← hp2]
  unfold _law_works_hold_l1
  cases hb : bs.all id with
  | true => simp [i1, z1, l1, ms, rg, z2, l2, mAll_bls, hb, mLst_1, oa]
  | false => simp [i1, z1, l1, ms, rg, z2, l2, mAll_bls, hb]
theorem part_go (hn : ds.length = n) (hn1 : n ≤ 16) : ∀ (ys pr : List Int) (x11 x12 : Option R), isE x11 = false → isE x12 = false → Asc n (pr ++ ys) → ∃ (pr' : List Int) (x11' x12' : Option R), isE x11' = false ∧ isE x12' = false ∧ Asc n pr' ∧
    forGo (tgName 11) _law_works_hold_l1 none (ys.map D.int) [x0, x1, some (.v (.tup (xs.map D.int))), x3, x4, some (.v (.lst (ds.map D.int))), x6, x7, x8, x9, some (.v (.lst (pr.map D.int))), x11, x12, x13, x14, x15, x16, x17, x18, x19, x20] S =
      .ok (.nx [x0, x1, some (.v (.tup (xs.map D.int))), x3, x4, some (.v (.lst (ds.map D.int))), x6, x7, x8, x9, some (.v (.lst (pr'.map D.int))), x11', x12', x13, x14, x15, x16, x17, x18, x19, x20]) S
  | [], pr, x11, x12, h11, h12, ha => ⟨pr, x11, x12, h11, h12, by rw [List.append_nil] at ha; exact ha, forGo_nil trivial⟩
  | y :: ys, pr, x11, x12, h11, h12, ha => by
    have sub : ∀ {l : List Int}, l.Sublist (pr ++ y :: ys) → Asc n l := fun {l} h => ⟨ha.1.sublist h, fun z hz => ha.2 z (h.subset hz)⟩
    have h1 : Asc n (pr ++ [y]) := sub (List.Sublist.append (List.Sublist.refl pr) (List.Sublist.cons_cons y (List.nil_sublist ys)))
    obtain ⟨b, x12', hE, e⟩ := part_step (S := S) (xs := xs) (x0 := x0) (x1 := x1) (x3 := x3) (x4 := x4) (x6 := x6) (x7 := x7) (x8 := x8) (x9 := x9) (x12 := x12) (x13 := x13) (x14 := x14) (x15 := x15) (x16 := x16) (x17 := x17) (x18 := x18) (x19 := x19) (x20 := x20) hn hn1 h1
    rw [List.map_cons, forGo_cons (show GdOk none S from trivial) tgName_ap]
    have hset : (([x0, x1, some (.v (.tup (xs.map D.int))), x3, x4, some (.v (.lst (ds.map D.int))), x6, x7, x8, x9, some (.v (.lst (pr.map D.int))), x11, x12, x13, x14, x15, x16, x17, x18, x19, x20] : Mi.Env).set 11 (some (.v (.int y)))) = [x0, x1, some (.v (.tup (xs.map D.int))), x3, x4, some (.v (.lst (ds.map D.int))), x6, x7, x8, x9, some (.v (.lst (pr.map D.int))), some (.v (.int y)), x12, x13, x14, x15, x16, x17, x18, x19, x20] := rfl
    rw [hset, e]
    have h2 : Asc n ((if b then pr ++ [y] else pr) ++ ys) := by
      cases b with
      | true => exact sub (by simp)
      | false => exact sub (List.Sublist.append (List.Sublist.refl pr) (List.sublist_cons_self y ys))
    exact part_go hn hn1 ys _ _ _ rfl hE h2
end
end K03

namespace K03
open PySem Mi
variable {S : Sto}
theorem mis_rev {n : Nat} {xs : List Int} (ha : Asc n xs) (h : 1 < xs.length) : misF n (-1) 0 ((xs.map D.int).reverse) = some 1 := by
  rw [← List.map_reverse]
  have hp : xs.reverse.Pairwise (fun a b => b < a) := List.pairwise_reverse.mpr ha.1
  have hm : ∀ x ∈ xs.reverse, 0 ≤ x ∧ x < (n : Int) := fun x hx => ha.2 x (List.mem_reverse.mp hx)
  have hl : 1 < xs.reverse.length := by rw [List.length_reverse]; exact h
  generalize xs.reverse = ys at hp hm hl
  match ys, hp, hm, hl with
  | b :: a :: r, hp, hm, _ =>
    have h1 := (List.pairwise_cons.mp hp).1 a List.mem_cons_self
    have h2 := hm b List.mem_cons_self
    rw [List.map_cons, List.map_cons, misF, if_pos ⟨h2.1, h2.2, by omega⟩, misF, if_neg (by omega)]
theorem free_all {n : Nat} {ds xs : List Int} (ha : Asc n xs) : ((List.range (n + 1)).map fun (t : Nat) => decide (les (t : Int) (gsOf ds xs) ≤ t)).all id = decide (wr (gsOf ds xs) = xs.length) := by
  have hg : (gsOf ds xs).length = xs.length := by unfold gsOf; rw [List.length_map]
  have hxl : xs.length ≤ n := ha.len
  rw [Bool.eq_iff_iff, decide_eq_true_iff, ← hg, wr_free (n := n) (by omega), List.all_map, List.all_eq_true]
  constructor
  · intro h t ht
    have := h t (List.mem_range.mpr (by omega))
    simpa using this
  · intro h t ht
    have := h t (by have := List.mem_range.mp ht; omega)
    simpa using this
theorem works_spoilt {ds : List Int} {wrong : D} {at_ : Int} (hds : ∀ d ∈ ds, 0 ≤ d) (ha0 : 0 ≤ at_) (ha1 : at_ ≤ ds.length) (hw : Bad wrong) :
    mMak 8 Works___init___m [.v (.lst ((ds.map D.int).take at_.toNat ++ [wrong] ++ (ds.map D.int).drop at_.toNat))] S = .exc 2 [1] [.int at_] S := by
  have hf : fine wrong = true ∧ countB wrong = false := by
    rcases hw with h | ⟨i, rfl, h⟩
    · cases wrong with
      | non => exact ⟨rfl, rfl⟩
      | str x => exact ⟨rfl, rfl⟩
      | _ => cases h
    · exact ⟨rfl, decide_eq_false (by omega)⟩
  have hb : fbF countB 0 ((ds.map D.int).take at_.toNat ++ [wrong] ++ (ds.map D.int).drop at_.toNat) = some at_.toNat := by
    rw [List.append_assoc, List.singleton_append, fbF_some hf.2 (by rw [← List.map_take]; exact mem_ints (P := countB) fun p hp => decide_eq_true (hds p (List.mem_of_mem_take hp)))]
    rw [List.length_take, List.length_map, Nat.zero_add]
    congr 1
    omega
  have hall : ((ds.map D.int).take at_.toNat ++ [wrong] ++ (ds.map D.int).drop at_.toNat).all fine = true := by
    rw [← List.map_take, ← List.map_drop, List.all_append, List.all_append, fine_ints, fine_ints]
    simp [hf.1]
  rw [works_bad (.inr (.inl rfl)) hall hb, Int.toNat_of_nonneg ha0]
theorem works_hold {c : Cell} {n : Nat} {xs : List Int} (hp : Pool c) (hn : n ≤ 16) (ha : Asc n xs) : ∃ c', _law_works_hold_m [.l 0, .v (.int n), .v (.tup (xs.map D.int))] [c] = .ok (.v (.bl true)) [c'] ∧ Pool c' := by
  have hxn := ha.len
  have hx : xs.length ≤ 1000 := by omega
  obtain ⟨i1, c1, e1, p1, i10, i11⟩ := draw_ok (S := []) (m := 4) hp (by decide) (by decide)
  obtain ⟨i2, c2, e2, p2, i20, i21⟩ := draw_ok (S := []) (m := 2) p1 (by decide) (by decide)
  obtain ⟨lm, hlm0, hlm1, elm⟩ : ∃ lm : Int, 0 < lm ∧ lm < 100 ∧ mIx (.v (.lst [.int 3, .int ((n : Int) + 2), .int 2, .int 5])) (.v (.int i1)) [c1] = .ok (.v (.int lm)) [c1] := by
    obtain ⟨d, hd, e⟩ := ix_at (S := [c1]) (ds := [.int 3, .int ((n : Int) + 2), .int 2, .int 5]) i10 (by simpa using i11)
    simp only [List.mem_cons, List.not_mem_nil, or_false] at hd
    rcases hd with rfl | rfl | rfl | rfl
    · exact ⟨3, by decide, by decide, e⟩
    · exact ⟨(n : Int) + 2, by omega, by omega, e⟩
    · exact ⟨2, by decide, by decide, e⟩
    · exact ⟨5, by decide, by decide, e⟩
  obtain ⟨sh, hsh, esh⟩ : ∃ sh : Int, 0 ≤ sh ∧ mIx (.v (.lst [.int 1, .int 0])) (.v (.int i2)) [c2] = .ok (.v (.int sh)) [c2] := by
    obtain ⟨d, hd, e⟩ := ix_at (S := [c2]) (ds := [.int 1, .int 0]) i20 (by simpa using i21)
    simp only [List.mem_cons, List.not_mem_nil, or_false] at hd
    rcases hd with rfl | rfl
    · exact ⟨1, by decide, e⟩
    · exact ⟨0, by decide, e⟩
  obtain ⟨ds, c3, e3, hds, hd0, p3⟩ := w_days (n := n) p2 hsh hlm0 hlm1 [some (.l 0), some (.v (.int n)), some (.v (.tup (xs.map D.int))), some (.v (.int lm)), some (.v (.int sh)), none, none, none, none, none, none, none, none, none, none, none, none, none, none, none, none] rfl rfl rfl
  obtain ⟨at_, c4, e4, p4, at0', at1⟩ := draw_ok (S := [.lst []]) (m := (n : Int) + 1) p3 (by omega) (by omega)
  obtain ⟨iw, c5, e5, p5, iw0, iw1⟩ := draw_ok (S := [.lst []]) (m := 3) p4 (by decide) (by decide)
  obtain ⟨wrong, hwr, ew⟩ : ∃ wrong, Bad wrong ∧ mIx (.v (.lst [.int (-1), .non, .str "1"])) (.v (.int iw)) [c5, .lst []] = .ok (.v wrong) [c5, .lst []] := by
    obtain ⟨d, hd, e⟩ := ix_at (S := [c5, .lst []]) (ds := [.int (-1), .non, .str "1"]) iw0 (by simpa using iw1)
    refine ⟨d, ?_, e⟩
    simp only [List.mem_cons, List.not_mem_nil, or_false] at hd
    rcases hd with rfl | rfl | rfl
    · exact .inr ⟨_, rfl, by omega⟩
    · exact .inl rfl
    · exact .inl rfl
  refine ⟨c5, ?_, p5⟩
  unfold _law_works_hold_m
  rw [fnM_ap, if_pos (by rfl)]
  unfold _law_works_hold_b
  -- days
  have z2 : n ≤ sizeLine := Nat.le_trans hn (by rw [sizeLine_eq]; decide)
  have z3 : n + 1 ≤ sizeLine := Nat.le_trans (show n + 1 ≤ 17 by omega) (by rw [sizeLine_eq]; decide)
  have zx : xs.length ≤ sizeLine := len1000 hx
  have r2 : ∀ S : Sto, ∀ env : Mi.Env, env[1]? = some (some (.v (.int n))) → iRng1 (aCons (eVar 1) aNil) env S = .ok ((List.range n).map (fun i => D.int (i : Nat)), none) S := fun S env h => rng_ap (by simp [h]) (by omega)
  have s1 : eLc (iRng1 (aCons (eVar 1) aNil)) (tgName 11) tYesM _law_works_hold_c1 [11] [some (.l 0), some (.v (.int n)), some (.v (.tup (xs.map D.int))), some (.v (.int lm)), some (.v (.int sh)), none, none, none, none, none, none, none, none, none, none, none, none, none, none, none, none] [c2] = .ok (.v (.lst (ds.map D.int))) [c3] := by
    rw [eLc_ap, r2 _ _ rfl, bind_ok]
    dsimp only
    rw [if_pos (by rw [List.length_map, List.length_range]; exact z2), e3]
  have r3 : ∀ S : Sto, ∀ env : Mi.Env, env[1]? = some (some (.v (.int n))) → iRng1 (aCons (eOp opAdd (eVar 1) (eC (.int 1))) aNil) env S = .ok ((List.range (n + 1)).map (fun i => D.int (i : Nat)), none) S := fun S env h => rng_ap (by simp [h]) (by omega)
  have mk : mMak 8 Works___init___m [.l 1] [c3, .lst (ds.map D.int)] = .ok (.v (wO n ds)) [c3, .lst (ds.map D.int)] := by
    have := works_made (S := [c3, .lst (ds.map D.int)]) (r1 := .l 1) (cs := ds) (.inr (.inr ⟨1, rfl, rfl⟩)) (by omega) (fbF_none (mem_ints (P := countB) fun c hc => decide_eq_true (hd0 c hc)))
    rw [hds] at this
    exact this
  have l1 : ∀ (ds : List D) (S : Sto), mListM [.v (.lst ds)] S = .ok (.l S.length) (S ++ [.lst ds]) := fun ds S => rfl
  have q1 : R.lsq (.l 1) [c3, .lst (ds.map D.int)] = some (ds.map D.int) := rfl
  have q2 : mClr (.l 1) [] [c3, .lst (ds.map D.int)] = .ok (.v .non) [c3, .lst []] := rfl
  have f8 : ∀ S, mFld tWorks 8 (.v (wO n ds)) S = .ok (.v (.tup (ds.map D.int))) S := fun S => fld_ap rfl rfl
  have f3 : ∀ S, mFld tRule 3 (.v (wO n ds)) S = .ok (.v (.int n)) S := fun S => fld_ap rfl rfl
  have tl : ∀ (ds : List D) (S : Sto), mTuple [.v (.lst ds)] S = .ok (.v (.tup ds)) S := fun ds S => rfl
  have li : ∀ S, mList [.v (.tup (xs.map D.int))] S = .ok (.v (.lst (xs.map D.int))) S := fun S => rfl
  have lx : ∀ S, mLen [.v (.tup (xs.map D.int))] S = .ok (.v (.int xs.length)) S := fun S => by rw [SeqR.len (.inl rfl), List.length_map]
  have ob : ∀ S, R.ob (.v (wO n ds)) S = some (8, [3, 4, 8], [.int n, thg n, .tup (ds.map D.int)]) := fun S => rfl
  have d1 : disp_rank 8 = some Rule_rank_m := rfl
  have d2 : disp_is_free 8 = some Rule_is_free_m := rfl
  have rk := rank_ok (S := [c3, .lst []]) (r := .v (.tup (xs.map D.int))) (wO_rule (n := n) (ds := ds)) (.inl rfl) ha (works_rank hds hx ha)
  have fr := is_free_ok (S := [c3, .lst []]) (r := .v (.lst (xs.map D.int))) (wO_rule (n := n) (ds := ds)) (.inr (.inl rfl)) ha (works_rank hds hx ha)
  obtain ⟨ns, hns⟩ : ∃ ns, ns = (List.range (n + 1)).map fun (t : Nat) => (t : Int) + (mor (t : Int) (gsOf ds xs) : Nat) := ⟨_, rfl⟩
  obtain ⟨bs, hbs⟩ : ∃ bs, bs = (List.range (n + 1)).map fun (t : Nat) => decide (les (t : Int) (gsOf ds xs) ≤ t) := ⟨_, rfl⟩
  have g1 := w_c3 (S := [c3, .lst []]) (x0 := some (.l 0)) (x1 := some (.v (.int n))) (x3 := some (.v (.int lm))) (x4 := some (.v (.int sh))) (x6 := some (.l 1)) (x7 := some (.v (wO n ds))) (x8 := none) (x9 := none) (x10 := none) (x11 := none) (x12 := none) (x13 := none) (x14 := none) (x15 := none) (x16 := none) (x17 := none) (x18 := none) (x19 := none) (x20 := none) hds ha hx (List.range (n + 1))
  rw [← hns] at g1
  have hmin : minI ns = wr (gsOf ds xs) := by
    rw [hns]
    exact wr_min (by unfold gsOf; rw [List.length_map]; exact hxn)
  have hnn : ns ≠ [] := by rw [hns]; simp
  have mm : mMin [.v (.lst (ns.map D.int))] [c3, .lst []] = .ok (.v (.int (wr (gsOf ds xs)))) [c3, .lst []] := by rw [mMin_ints hnn, hmin]
  obtain ⟨w, hw⟩ : ∃ w, w = wr (gsOf ds xs) := ⟨_, rfl⟩
  have g2 := w_c5 (S := [c3, .lst []]) (x0 := some (.l 0)) (x1 := some (.v (.int n))) (x3 := some (.v (.int lm))) (x4 := some (.v (.int sh))) (x6 := some (.l 1)) (x7 := some (.v (wO n ds))) (x8 := some (.v (.int w))) (x9 := some (.v (.int w))) (x10 := none) (x11 := none) (x12 := none) (x13 := none) (x14 := none) (x15 := none) (x16 := none) (x17 := none) (x18 := none) (x19 := none) (x20 := none) hds ha hx (List.range (n + 1))
  rw [← hbs] at g2
  have hball : bs.all id = decide (wr (gsOf ds xs) = xs.length) := by rw [hbs]; exact free_all ha
  rw [← hball] at fr
  rw [← hw] at rk mm
  -- the first free part
  obtain ⟨pr, x11', x12', hE11, hE12, hpr, g3⟩ := part_go (S := [c3, .lst []]) (xs := xs) (x0 := some (.l 0)) (x1 := some (.v (.int n))) (x3 := some (.v (.int lm))) (x4 := some (.v (.int sh))) (x6 := some (.l 1)) (x7 := some (.v (wO n ds))) (x8 := some (.v (.int w))) (x9 := some (.v (.int w))) (x13 := none) (x14 := none) (x15 := none) (x16 := none) (x17 := none) (x18 := none) (x19 := none) (x20 := none) hds hn xs [] none none rfl rfl ha
  have i0 : ∀ env : Mi.Env, env[2]? = some (some (.v (.tup (xs.map D.int)))) → iSeq (eVar 2) env [c3, .lst []] = .ok (xs.map D.int, none) [c3, .lst []] := fun env h => iSeq_ap (r := .v (.tup (xs.map D.int))) (by simp [h]) rfl
  have m0 : ∀ S, mLst [] S = .ok (.v (.lst [])) S := fun S => mLst_v [] (by simp)
  have t1 := timetable_holds (S := [c3, .lst []]) (r := .v (.tup (xs.map D.int))) hds hn ha (.inl rfl)
  have t2 := timetable_holds (S := [c3, .lst []]) (r := .v (.lst (pr.map D.int))) hds hn hpr (.inr rfl)
  have n1 : _law_no_set_place_m [.v (wO n ds), .v (.lst [.int n])] [c3, .lst []] = .ok (.v (.int 0)) [c3, .lst []] := no_set_place (p := 0) (es := [.int n]) (.inr (.inl rfl)) rfl rfl (by simp [misF])
  have rv : mRevT (.v (.tup (xs.map D.int))) [c3, .lst []] = .ok (.v (.tup ((xs.map D.int).reverse))) [c3, .lst []] := rfl
  obtain ⟨rl, hrl⟩ : ∃ rl, rl = (xs.map D.int).reverse := ⟨_, rfl⟩
  rw [← hrl] at rv
  have n2 : 1 < xs.length → _law_no_set_place_m [.v (wO n ds), .v (.tup rl)] [c3, .lst []] = .ok (.v (.int 1)) [c3, .lst []] := fun h => no_set_place (p := 1) (es := rl) (.inl rfl) rfl (by rw [hrl, List.all_reverse]; exact fine_ints xs) (by rw [hrl]; exact mis_rev ha h)
  -- the spoilt list
  obtain ⟨A1, hA1⟩ : ∃ A, A = (ds.map D.int).take at_.toNat := ⟨_, rfl⟩
  obtain ⟨A3, hA3⟩ : ∃ A, A = (ds.map D.int).drop at_.toNat := ⟨_, rfl⟩
  obtain ⟨A2, hA2⟩ : ∃ A, A = A1 ++ [wrong] := ⟨_, rfl⟩
  obtain ⟨A4, hA4⟩ : ∃ A, A = A2 ++ A3 := ⟨_, rfl⟩
  have la1 : A1.length ≤ 16 := by rw [hA1, List.length_take, List.length_map]; omega
  have la3 : A3.length ≤ 16 := by rw [hA3, List.length_drop, List.length_map]; omega
  have la2 : A2.length ≤ 17 := by rw [hA2, List.length_append]; simp; omega
  have k1 : ∀ S, mSl (.v (.lst (ds.map D.int))) none (some at_) S = .ok (.v (.lst A1)) S := fun S => by rw [sl_to at0', hA1]
  have k2 : ∀ S, mSl (.v (.lst (ds.map D.int))) (some at_) none S = .ok (.v (.lst A3)) S := fun S => by rw [sl_from at0', hA3]
  have k3 : ∀ S, opAdd (.v (.lst A1)) (.v (.lst [wrong])) S = .ok (.v (.lst A2)) S := fun S => by rw [opAdd_lst (by simp; omega), hA2]
  have k4 : ∀ S, opAdd (.v (.lst A2)) (.v (.lst A3)) S = .ok (.v (.lst A4)) S := fun S => by rw [opAdd_lst (by omega), hA4]
  have tsp := works_spoilt (S := [c5, .lst []]) (ds := ds) (wrong := wrong) (at_ := at_) hd0 at0' (by omega) hwr
  rw [← hA1, ← hA3, ← hA2, ← hA4] at tsp
  have x0 : eBE 2 = some true := rfl
  have x1 : ∀ d S, mXf tPl 1 (.e 2 [1] [d]) S = .ok (.v d) S := fun d S => rfl
  have x3 : ∀ d S, mIsX iPE (.e 2 [1] [d]) S = .ok (.v (.bl true)) S := fun d S => rfl
  have v1 : ∀ d, isE (some (R.v d)) = false := fun _ => rfl
  have v2 : isE none = false := rfl
  have v3 : ∀ k, isE (some (R.l k)) = false := fun _ => rfl
  rw [List.map_nil] at g3
  clear hA1 hA2 hA3 hA4 hns hbs hrl hw hball hmin
  by_cases hgt : 1 < xs.length
  · have n3 := n2 hgt
    simp [e1, e2, elm, esh, mLst_4, mLst_2, mLst_3, mLst_1, m0, r2, z2, e3, l1, mk, q1, q2, f8, f3, tl, li, lx, ob, d1, d2, r3, z3, g1, mm, rk, isi_int, isb_int, fr, g2, mAll_bls, i0, g3, t1, t2, n1, rv, n3, hgt, e4, e5, ew, k1, k2, k3, k4, sTry_ap, tsp, x0, x1, x3, cleanE, hE11, hE12, v1, v2, v3]
  · have hgt2 : ¬ (1 : Int) < (xs.length : Int) := by omega
    simp [e1, e2, elm, esh, mLst_4, mLst_2, mLst_3, mLst_1, m0, r2, z2, e3, l1, mk, q1, q2, f8, f3, tl, li, lx, ob, d1, d2, r3, z3, g1, mm, rk, isi_int, isb_int, fr, g2, mAll_bls, i0, g3, t1, t2, n1, rv, hgt2, e4, e5, ew, k1, k2, k3, k4, sTry_ap, tsp, x0, x1, x3, cleanE, hE11, hE12, v1, v2, v3]
end K03

namespace K03
open PySem Mi
theorem law_true (ns : List Int) (h : ns.length ≤ 63) : ∃ S', law_m [.v (.frl (ns.map D.int))] [] = .ok (.v (.bl true)) S' := by
  obtain ⟨c, e0, p0⟩ := pool_ok h
  obtain ⟨i1, c1, e1, p1, i10, i11⟩ := draw_ok (S := []) (m := 10) p0 (by decide) (by decide)
  obtain ⟨n, hn, en⟩ : ∃ n : Nat, n ≤ 16 ∧ mIx (.v (.lst [.int 0, .int 4, .int 3, .int 5, .int 6, .int 2, .int 7, .int 1, .int 10, .int 16])) (.v (.int i1)) [c1] = .ok (.v (.int (n : Nat))) [c1] := by
    obtain ⟨d, hd, e⟩ := ix_at (S := [c1]) (ds := [.int 0, .int 4, .int 3, .int 5, .int 6, .int 2, .int 7, .int 1, .int 10, .int 16]) i10 (by simpa using i11)
    simp only [List.mem_cons, List.not_mem_nil, or_false] at hd
    rcases hd with rfl | rfl | rfl | rfl | rfl | rfl | rfl | rfl | rfl | rfl
    · exact ⟨0, by decide, e⟩
    · exact ⟨4, by decide, e⟩
    · exact ⟨3, by decide, e⟩
    · exact ⟨5, by decide, e⟩
    · exact ⟨6, by decide, e⟩
    · exact ⟨2, by decide, e⟩
    · exact ⟨7, by decide, e⟩
    · exact ⟨1, by decide, e⟩
    · exact ⟨10, by decide, e⟩
    · exact ⟨16, by decide, e⟩
  obtain ⟨i2, c2, e2, p2, _, _⟩ := draw_ok (S := []) (m := 65536) p1 (by decide) (by decide)
  obtain ⟨bs, hb, eb⟩ := digits_ok (S := [c2]) (x := i2) (n := n) (by omega)
  obtain ⟨xs, hxs⟩ : ∃ xs : List Int, xs = ((List.range n).filter fun (k : Nat) => decide (at0 bs (k : Int) = 1)).map fun (k : Nat) => (k : Int) := ⟨_, rfl⟩
  have ha : Asc n xs := by
    rw [hxs]
    refine ⟨?_, fun x hx => ?_⟩
    · rw [List.pairwise_map]
      exact (List.pairwise_lt_range.sublist List.filter_sublist).imp fun h => by omega
    · obtain ⟨k, hk, rfl⟩ := List.mem_map.mp hx
      have := List.mem_range.mp (List.mem_filter.mp hk).1
      omega
  obtain ⟨c3, e3, p3⟩ := firsts_hold (n := n) (xs := xs) p2 (by omega) ha
  obtain ⟨c4, e4, p4⟩ := teams_hold (n := n) (xs := xs) p3 hn ha (by have := ha.len; omega)
  obtain ⟨c5, e5, p5⟩ := works_hold (n := n) (xs := xs) p4 hn ha
  have l1 : lcGo (tgName 5) law_d1 law_c1 none (wipeE [some (.v (.frl (ns.map D.int))), some (.l 0), some (.v (.int n)), some (.v (.tup (bs.map D.int))), none, none] [5]) ((List.range n).map fun i => D.int (i : Nat)) [c2] = .ok (xs.map D.int) [c2] := by
    have := lc_pure (S := [c2]) (tg := tgName 5) (tt := law_d1) (fe := law_c1) (gd := none) (env0 := wipeE [some (.v (.frl (ns.map D.int))), some (.l 0), some (.v (.int n)), some (.v (.tup (bs.map D.int))), none, none] [5]) (fun i : Nat => D.int (i : Nat))
      (fun k => [some (.v (.frl (ns.map D.int))), some (.l 0), some (.v (.int n)), some (.v (.tup (bs.map D.int))), none, some (.v (.int (k : Nat)))]) (fun (k : Nat) => decide (at0 bs (k : Int) = 1)) (fun (k : Nat) => .int (k : Int)) trivial (List.range n)
      (fun k hk => ⟨rfl, by
        have hk' := List.mem_range.mp hk
        unfold law_d1
        simp [ix_at0 (S := [c2]) (cs := bs) (x := (k : Int)) (by omega) (by omega)], fun _ => by unfold law_c1; simp⟩)
    rw [this, hxs, List.map_map]
    rfl
  have rg : iRng1 (aCons (eVar 2) aNil) [some (.v (.frl (ns.map D.int))), some (.l 0), some (.v (.int n)), some (.v (.tup (bs.map D.int))), none, none] [c2] = .ok ((List.range n).map (fun i => D.int (i : Nat)), none) [c2] := rng_ap (by simp) (by omega)
  have z : n ≤ sizeLine := Nat.le_trans hn (by rw [sizeLine_eq]; decide)
  have m10 : ∀ (a b c d e f g h i j : D) (S : Sto), mLst [.v a, .v b, .v c, .v d, .v e, .v f, .v g, .v h, .v i, .v j] S = .ok (.v (.lst [a, b, c, d, e, f, g, h, i, j])) S := fun a b c d e f g h i j S => mLst_v [a, b, c, d, e, f, g, h, i, j] (by simp)
  have tl : ∀ (ds : List D) (S : Sto), mTuple [.v (.lst ds)] S = .ok (.v (.tup ds)) S := fun ds S => rfl
  clear hxs
  unfold law_m
  rw [fnM_ap, if_pos (by rfl)]
  unfold law_b
  simp [e0, e1, m10, en, e2, eb, rg, z, l1, tl, e3, e4, e5]
end K03

namespace K03
open PySem L2 Mi
def spLaw (K : Frag) : Sp := fun vs H Q _ => ∃ (a : Addr) (ns : List Int), vs = [.ref a] ∧ SqL K H a (ns.map V.int) ∧ ns.length ≤ 63 ∧ ∀ H', Q (.bl true) H'
theorem ints_at {K : Frag} {mg : MG} {F : Hp} : ∀ ns : List Int, AtL K mg g F (ns.map D.int) (ns.map V.int)
  | [] => .nil
  | n :: ns => .cons (.int n) (ints_at ns)
theorem sp_law {K : Frag} {mg : MG} (vs : List V) (H : Hp) (Q : VK) (E : XK) (h : spLaw K vs H Q E) : SpM K mg g 1 law_m vs H Q E := by
  obtain ⟨a, ns, rfl, hS, hl, hQ⟩ := h
  have hz : (ns.map D.int).length ≤ sizeLine := by
    rw [List.length_map, sizeLine_eq]
    omega
  refine ⟨rfl, [.v (.frl (ns.map D.int))], [], ⟨H, [], none⟩, .cons (At.frl hS (ints_at ns) hz) .nil, ⟨fun _ _ h => h, rfl, List.nodup_nil, fun k a c h1 _ => by simp at h1⟩, ?_⟩
  obtain ⟨S', e⟩ := law_true ns hl
  rw [e]
  intro wd' v H' x r q
  cases q
  exact hQ H'
theorem walk {l : PySem.W.OpenLaw} {q : Program} {loose : List Str} {XP : (Str → Option Value) → Heap → Prop} {YP : World → Heap → Prop} {d : DefRec} {K : Params → PySem.W.Frag} (hn : l.most = some 63) (hdf : d.params.defaults = [])
    (hY : ∀ (w : World) (h : Heap), YP w h → (K w.params).In h)
    (F : ∀ (w : World) (mg : Str → Option Value) (fa : Addr) (h : Heap), (K w.params).In h → h.Ns mainGlobals mg → mg d.name = some (.ref fa) →
      ∃ fd : FuncData, (∀ (s : Shared) (u : Value), BindsTo s fd ⟨[u], []⟩ [("_law_script", u)]) ∧ ∀ base : Heap, (K w.params).In base → base.Ns mainGlobals mg → FnOk l.prog w (K w.params) mg base (L2.CX l.prog w) 8 fa fd ["_law_script"] (SpM (K w.params) mg g 1 law_m)) :
    PySem.W.WalkO q loose XP YP l.row.toRowW d [] (fun f vs => PySem.call f vs) :=
  L2.walk_of (n := 63) (k := 8) (x := "_law_script") (CX := fun w => L2.CX l.prog w) (sp := fun w => spLaw (K w.params)) hn (by decide) hdf ⟨rfl, by decide, by decide⟩ hY
    (fun w mg fa h h1 h2 h3 => by
      obtain ⟨fd, hb, hF⟩ := F w mg fa h h1 h2 h3
      exact ⟨fd, hb, fun base k1 k2 => (hF base k1 k2).imp sp_law⟩)
    (fun _ _ a ns hl _ hS => ⟨a, ns, rfl, hS, hl, fun _ => rfl⟩) fun _ _ _ _ _ z => by
      obtain ⟨_, _, _, _, _, _, _, _, _, _, _, _, z⟩ := z
      exact z
end K03
open PySem PySem.W PyProof.Rows
set_option maxRecDepth 100000 in
set_option maxHeartbeats 0 in
theorem PySem.Challenge.cw_unseenprices_k03_counts_of_three_kinds_holds : PySem.Challenge.rw_unseenprices_k03_counts_of_three_kinds.Holds := by
  w_on; o_law; k_head; (case hw => w_witness2)
  k_fill
  refine K03.walk (l := PySem.Challenge.rw_unseenprices_k03_counts_of_three_kinds) rfl rfl (fun w h Y => PySem.W.kIn_of Y) ?F
  case F =>
    intro w mg fa h KX G hmg
    refine' K03.all_mk KX G hmg ?nz_abs ?nz_all ?nz_bool ?nz_enumerate ?nz_int ?nz_isinstance ?nz_len ?nz_list ?nz_max ?nz_min ?nz_range ?nz_sorted ?nz_sum ?nz_super ?nz_tuple ?g_BadNumber ?g_BadSet ?g_BadEntry ?g_NotALot ?g_NotFree ?g_PricesError ?g_Firsts ?g_Teams ?g_Works ?opq ?top_super ?i_BadNumber___init__ ?l_BadNumber___init__ ?c_BadNumber___init__ ?e_BadNumber___init__ ?o_BadNumber___init__ ?v_BadNumber___init__ ?w_BadNumber___init__ ?x_BadNumber___init__ ?y_BadNumber ?yb_BadNumber ?sa_BadNumber ?ex_BadNumber ?ty_BadNumber ?kc_BadNumber ?ve_BadNumber ?dc_BadNumber ?su_BadNumber ?mr_BadNumber ?ti_BadNumber ?no_BadNumber ?ga_BadNumber ?gg_BadNumber ?hd_BadNumber ?cl_BadNumber ?mo_BadNumber ?i_BadSet___init__ ?l_BadSet___init__ ?c_BadSet___init__ ?e_BadSet___init__ ?o_BadSet___init__ ?v_BadSet___init__ ?w_BadSet___init__ ?x_BadSet___init__ ?y_BadSet ?yb_BadSet ?sa_BadSet ?ex_BadSet ?ty_BadSet ?kc_BadSet ?ve_BadSet ?dc_BadSet ?su_BadSet ?mr_BadSet ?ti_BadSet ?no_BadSet ?ga_BadSet ?gg_BadSet ?hd_BadSet ?cl_BadSet ?mo_BadSet ?i_BadEntry___init__ ?l_BadEntry___init__ ?c_BadEntry___init__ ?e_BadEntry___init__ ?o_BadEntry___init__ ?v_BadEntry___init__ ?w_BadEntry___init__ ?x_BadEntry___init__ ?y_BadEntry ?yb_BadEntry ?sa_BadEntry ?ex_BadEntry ?ty_BadEntry ?kc_BadEntry ?ve_BadEntry ?dc_BadEntry ?su_BadEntry ?mr_BadEntry ?ti_BadEntry ?no_BadEntry ?ga_BadEntry ?gg_BadEntry ?hd_BadEntry ?cl_BadEntry ?mo_BadEntry ?i_NotFree___init__ ?l_NotFree___init__ ?c_NotFree___init__ ?e_NotFree___init__ ?o_NotFree___init__ ?v_NotFree___init__ ?w_NotFree___init__ ?x_NotFree___init__ ?y_NotFree ?yb_NotFree ?sa_NotFree ?ex_NotFree ?ty_NotFree ?kc_NotFree ?ve_NotFree ?dc_NotFree ?su_NotFree ?mr_NotFree ?ti_NotFree ?no_NotFree ?ga_NotFree ?gg_NotFree ?hd_NotFree ?cl_NotFree ?mo_NotFree ?gcl ?tcl ?is_BadEntry_BadNumber ?is_BadEntry_BadSet_NotALot_NotFree ?is_PricesError_BadNumber ?is_PricesError_BadSet ?is_PricesError_BadEntry ?is_PricesError_NotFree ?em_BadEntry_BadEntry ?em_BadNumber_BadNumber ?em_BadSet_BadSet ?em_BadSet_NotFree ?em_NotFree_NotFree ?em_NotFree_BadSet ?pg_Firsts ?hd_Firsts ?po_Firsts ?sa_Firsts ?mk_Firsts ?kc_Firsts ?pg_Teams ?hd_Teams ?po_Teams ?sa_Teams ?mk_Teams ?kc_Teams ?pg_Works ?hd_Works ?po_Works ?sa_Works ?mk_Works ?kc_Works ?na_Firsts__things ?na_Teams__things ?na_Works__things ?na_Teams_classes ?na_Works_days ?na_Firsts_number ?na_Teams_places ?na_Firsts_size ?na_Teams_size ?na_Works_size ?n_is_integer ?l_is_integer ?c_is_integer ?k_is_integer ?n_is_count ?l_is_count ?c_is_count ?k_is_count ?n_is_thing ?l_is_thing ?c_is_thing ?k_is_thing ?n_misplaced ?l_misplaced ?c_misplaced ?k_misplaced ?n_set_of ?l_set_of ?c_set_of ?k_set_of ?s0_Rule___init__ ?l_Rule___init__ ?c_Rule___init__ ?k_Rule___init__ ?s0_Rule__rank ?l_Rule__rank ?c_Rule__rank ?k_Rule__rank ?i_Firsts___init__ ?l_Firsts___init__ ?c_Firsts___init__ ?e_Firsts___init__ ?o_Firsts___init__ ?v_Firsts___init__ ?w_Firsts___init__ ?x_Firsts___init__ ?dc_Firsts___init__ ?mr_Firsts___init__ ?su_Firsts___init__ ?tp_Firsts___init__ ?fi_Firsts___init__ ?if_Firsts___init__ ?i_Firsts__rank ?l_Firsts__rank ?c_Firsts__rank ?e_Firsts__rank ?o_Firsts__rank ?v_Firsts__rank ?w_Firsts__rank ?x_Firsts__rank ?dc_Firsts__rank ?mr_Firsts__rank ?su_Firsts__rank ?tp_Firsts__rank ?fi_Firsts__rank ?i_Teams___init__ ?l_Teams___init__ ?c_Teams___init__ ?e_Teams___init__ ?o_Teams___init__ ?v_Teams___init__ ?w_Teams___init__ ?x_Teams___init__ ?dc_Teams___init__ ?mr_Teams___init__ ?su_Teams___init__ ?tp_Teams___init__ ?fi_Teams___init__ ?if_Teams___init__ ?i_Teams__rank ?l_Teams__rank ?c_Teams__rank ?k_Teams__rank ?i_Works___init__ ?l_Works___init__ ?c_Works___init__ ?e_Works___init__ ?o_Works___init__ ?v_Works___init__ ?w_Works___init__ ?x_Works___init__ ?dc_Works___init__ ?mr_Works___init__ ?su_Works___init__ ?tp_Works___init__ ?fi_Works___init__ ?if_Works___init__ ?i_Works__rank ?l_Works__rank ?c_Works__rank ?k_Works__rank ?me_Firsts__rank ?mi_Firsts__rank ?mp_Firsts__rank ?me_Teams__rank ?mi_Teams__rank ?mp_Teams__rank ?me_Works__rank ?mi_Works__rank ?mp_Works__rank ?i_Rule__free ?l_Rule__free ?c_Rule__free ?k_Rule__free ?me_Firsts__free ?mi_Firsts__free ?mp_Firsts__free ?me_Teams__free ?mi_Teams__free ?mp_Teams__free ?me_Works__free ?mi_Works__free ?mp_Works__free ?i_Rule_is_free ?l_Rule_is_free ?c_Rule_is_free ?k_Rule_is_free ?me_Firsts_is_free ?mi_Firsts_is_free ?mp_Firsts_is_free ?me_Teams_is_free ?mi_Teams_is_free ?mp_Teams_is_free ?me_Works_is_free ?mi_Works_is_free ?mp_Works_is_free ?i_Rule_rank ?l_Rule_rank ?c_Rule_rank ?k_Rule_rank ?me_Firsts_rank ?mi_Firsts_rank ?mp_Firsts_rank ?me_Teams_rank ?mi_Teams_rank ?mp_Teams_rank ?me_Works_rank ?mi_Works_rank ?mp_Works_rank ?n_timetable ?l_timetable ?c_timetable ?k_timetable ?n__law_pool ?l__law_pool ?c__law_pool ?k__law_pool ?n__law_mixed ?l__law_mixed ?c__law_mixed ?k__law_mixed ?n__law_draw ?l__law_draw ?c__law_draw ?k__law_draw ?n__law_digits ?l__law_digits ?c__law_digits ?k__law_digits ?n__law_firsts_hold ?l__law_firsts_hold ?c__law_firsts_hold ?k__law_firsts_hold ?n__law_teams_hold ?l__law_teams_hold ?c__law_teams_hold ?k__law_teams_hold ?n__law_timetable_holds ?l__law_timetable_holds ?c__law_timetable_holds ?k__law_timetable_holds ?n__law_no_set_place ?l__law_no_set_place ?c__law_no_set_place ?k__law_no_set_place ?n__law_works_hold ?l__law_works_hold ?c__law_works_hold ?k__law_works_hold ?n_law ?l_law ?c_law ?k_law
    (case nz_abs => k_is)
    (case nz_all => k_is)
    (case nz_bool => k_is)
    (case nz_enumerate => k_is)
    (case nz_int => k_is)
    (case nz_isinstance => k_is)
    (case nz_len => k_is)
    (case nz_list => k_is)
    (case nz_max => k_is)
    (case nz_min => k_is)
    (case nz_range => k_is)
    (case nz_sorted => k_is)
    (case nz_sum => k_is)
    (case nz_super => k_is)
    (case nz_tuple => k_is)
    (case g_BadNumber => k_is)
    (case g_BadSet => k_is)
    (case g_BadEntry => k_is)
    (case g_NotALot => k_is)
    (case g_NotFree => k_is)
    (case g_PricesError => k_is)
    (case g_Firsts => k_is)
    (case g_Teams => k_is)
    (case g_Works => k_is)
    (case opq => k_is)
    (case top_super => decide +kernel)
    (case i_BadNumber___init__ => k_is)
    (case l_BadNumber___init__ => k_is)
    (case c_BadNumber___init__ => k_is)
    (case e_BadNumber___init__ => k_is)
    (case o_BadNumber___init__ => k_is)
    (case v_BadNumber___init__ => exact rfl)
    (case w_BadNumber___init__ => decide +kernel)
    (case x_BadNumber___init__ => exact rfl)
    (case y_BadNumber => k_is)
    (case yb_BadNumber => first | exact rfl | kernel_rfl | decide +kernel)
    (case sa_BadNumber => k_is)
    (case ex_BadNumber => k_is)
    (case ty_BadNumber => k_is)
    (case kc_BadNumber => k_is)
    (case ve_BadNumber => k_is)
    (case dc_BadNumber => exact rfl)
    (case su_BadNumber => first | exact rfl | kernel_rfl | decide +kernel)
    (case mr_BadNumber => k_is)
    (case ti_BadNumber => k_is)
    (case no_BadNumber => k_is)
    (case ga_BadNumber => k_is)
    (case gg_BadNumber => k_is)
    (case hd_BadNumber => k_is)
    (case cl_BadNumber => k_is)
    (case mo_BadNumber => k_is)
    (case i_BadSet___init__ => k_is)
    (case l_BadSet___init__ => k_is)
    (case c_BadSet___init__ => k_is)
    (case e_BadSet___init__ => k_is)
    (case o_BadSet___init__ => k_is)
    (case v_BadSet___init__ => exact rfl)
    (case w_BadSet___init__ => decide +kernel)
    (case x_BadSet___init__ => exact rfl)
    (case y_BadSet => k_is)
    (case yb_BadSet => first | exact rfl | kernel_rfl | decide +kernel)
    (case sa_BadSet => k_is)
    (case ex_BadSet => k_is)
    (case ty_BadSet => k_is)
    (case kc_BadSet => k_is)
    (case ve_BadSet => k_is)
    (case dc_BadSet => exact rfl)
    (case su_BadSet => first | exact rfl | kernel_rfl | decide +kernel)
    (case mr_BadSet => k_is)
    (case ti_BadSet => k_is)
    (case no_BadSet => k_is)
    (case ga_BadSet => k_is)
    (case gg_BadSet => k_is)
    (case hd_BadSet => k_is)
    (case cl_BadSet => k_is)
    (case mo_BadSet => k_is)
    (case i_BadEntry___init__ => k_is)
    (case l_BadEntry___init__ => k_is)
    (case c_BadEntry___init__ => k_is)
    (case e_BadEntry___init__ => k_is)
    (case o_BadEntry___init__ => k_is)
    (case v_BadEntry___init__ => exact rfl)
    (case w_BadEntry___init__ => decide +kernel)
    (case x_BadEntry___init__ => exact rfl)
    (case y_BadEntry => k_is)
    (case yb_BadEntry => first | exact rfl | kernel_rfl | decide +kernel)
    (case sa_BadEntry => k_is)
    (case ex_BadEntry => k_is)
    (case ty_BadEntry => k_is)
    (case kc_BadEntry => k_is)
    (case ve_BadEntry => k_is)
    (case dc_BadEntry => exact rfl)
    (case su_BadEntry => first | exact rfl | kernel_rfl | decide +kernel)
    (case mr_BadEntry => k_is)
    (case ti_BadEntry => k_is)
    (case no_BadEntry => k_is)
    (case ga_BadEntry => k_is)
    (case gg_BadEntry => k_is)
    (case hd_BadEntry => k_is)
    (case cl_BadEntry => k_is)
    (case mo_BadEntry => k_is)
    (case i_NotFree___init__ => k_is)
    (case l_NotFree___init__ => k_is)
    (case c_NotFree___init__ => k_is)
    (case e_NotFree___init__ => k_is)
    (case o_NotFree___init__ => k_is)
    (case v_NotFree___init__ => exact rfl)
    (case w_NotFree___init__ => decide +kernel)
    (case x_NotFree___init__ => exact rfl)
    (case y_NotFree => k_is)
    (case yb_NotFree => first | exact rfl | kernel_rfl | decide +kernel)
    (case sa_NotFree => k_is)
    (case ex_NotFree => k_is)
    (case ty_NotFree => k_is)
    (case kc_NotFree => k_is)
    (case ve_NotFree => k_is)
    (case dc_NotFree => exact rfl)
    (case su_NotFree => first | exact rfl | kernel_rfl | decide +kernel)
    (case mr_NotFree => k_is)
    (case ti_NotFree => k_is)
    (case no_NotFree => k_is)
    (case ga_NotFree => k_is)
    (case gg_NotFree => k_is)
    (case hd_NotFree => k_is)
    (case cl_NotFree => k_is)
    (case mo_NotFree => k_is)
    (case gcl => k_is)
    (case tcl => k_is)
    (case is_BadEntry_BadNumber => first | exact rfl | kernel_rfl | decide +kernel)
    (case is_BadEntry_BadSet_NotALot_NotFree => first | exact rfl | kernel_rfl | decide +kernel)
    (case is_PricesError_BadNumber => first | exact rfl | kernel_rfl | decide +kernel)
    (case is_PricesError_BadSet => first | exact rfl | kernel_rfl | decide +kernel)
    (case is_PricesError_BadEntry => first | exact rfl | kernel_rfl | decide +kernel)
    (case is_PricesError_NotFree => first | exact rfl | kernel_rfl | decide +kernel)
    (case em_BadEntry_BadEntry => first | exact rfl | kernel_rfl | decide +kernel)
    (case em_BadNumber_BadNumber => first | exact rfl | kernel_rfl | decide +kernel)
    (case em_BadSet_BadSet => first | exact rfl | kernel_rfl | decide +kernel)
    (case em_BadSet_NotFree => first | exact rfl | kernel_rfl | decide +kernel)
    (case em_NotFree_NotFree => first | exact rfl | kernel_rfl | decide +kernel)
    (case em_NotFree_BadSet => first | exact rfl | kernel_rfl | decide +kernel)
    (case pg_Firsts => k_is)
    (case hd_Firsts => k_is)
    (case po_Firsts => k_is)
    (case sa_Firsts => k_is)
    (case mk_Firsts => k_is)
    (case kc_Firsts => k_is)
    (case pg_Teams => k_is)
    (case hd_Teams => k_is)
    (case po_Teams => k_is)
    (case sa_Teams => k_is)
    (case mk_Teams => k_is)
    (case kc_Teams => k_is)
    (case pg_Works => k_is)
    (case hd_Works => k_is)
    (case po_Works => k_is)
    (case sa_Works => k_is)
    (case mk_Works => k_is)
    (case kc_Works => k_is)
    (case na_Firsts__things => k_is)
    (case na_Teams__things => k_is)
    (case na_Works__things => k_is)
    (case na_Teams_classes => k_is)
    (case na_Works_days => k_is)
    (case na_Firsts_number => k_is)
    (case na_Teams_places => k_is)
    (case na_Firsts_size => k_is)
    (case na_Teams_size => k_is)
    (case na_Works_size => k_is)
    (case n_is_integer => k_is)
    (case l_is_integer => k_is)
    (case c_is_integer => k_is)
    (case k_is_integer => k_is)
    (case n_is_count => k_is)
    (case l_is_count => k_is)
    (case c_is_count => k_is)
    (case k_is_count => k_is)
    (case n_is_thing => k_is)
    (case l_is_thing => k_is)
    (case c_is_thing => k_is)
    (case k_is_thing => k_is)
    (case n_misplaced => k_is)
    (case l_misplaced => k_is)
    (case c_misplaced => k_is)
    (case k_misplaced => k_is)
    (case n_set_of => k_is)
    (case l_set_of => k_is)
    (case c_set_of => k_is)
    (case k_set_of => k_is)
    (case s0_Rule___init__ => first | ks_is | k_is)
    (case l_Rule___init__ => k_is)
    (case c_Rule___init__ => k_is)
    (case k_Rule___init__ => k_is)
    (case s0_Rule__rank => first | ks_is | k_is)
    (case l_Rule__rank => k_is)
    (case c_Rule__rank => k_is)
    (case k_Rule__rank => k_is)
    (case i_Firsts___init__ => k_is)
    (case l_Firsts___init__ => k_is)
    (case c_Firsts___init__ => k_is)
    (case e_Firsts___init__ => k_is)
    (case o_Firsts___init__ => k_is)
    (case v_Firsts___init__ => exact rfl)
    (case w_Firsts___init__ => decide +kernel)
    (case x_Firsts___init__ => exact rfl)
    (case dc_Firsts___init__ => exact rfl)
    (case mr_Firsts___init__ => k_is)
    (case su_Firsts___init__ => first | ks_is | k_is | kernel_rfl)
    (case tp_Firsts___init__ => k_is)
    (case fi_Firsts___init__ => first | k_is | kernel_rfl | decide +kernel)
    (case if_Firsts___init__ => k_is)
    (case i_Firsts__rank => k_is)
    (case l_Firsts__rank => k_is)
    (case c_Firsts__rank => k_is)
    (case e_Firsts__rank => k_is)
    (case o_Firsts__rank => k_is)
    (case v_Firsts__rank => exact rfl)
    (case w_Firsts__rank => decide +kernel)
    (case x_Firsts__rank => exact rfl)
    (case dc_Firsts__rank => exact rfl)
    (case mr_Firsts__rank => k_is)
    (case su_Firsts__rank => first | ks_is | k_is | kernel_rfl)
    (case tp_Firsts__rank => k_is)
    (case fi_Firsts__rank => first | k_is | kernel_rfl | decide +kernel)
    (case i_Teams___init__ => k_is)
    (case l_Teams___init__ => k_is)
    (case c_Teams___init__ => k_is)
    (case e_Teams___init__ => k_is)
    (case o_Teams___init__ => k_is)
    (case v_Teams___init__ => exact rfl)
    (case w_Teams___init__ => decide +kernel)
    (case x_Teams___init__ => exact rfl)
    (case dc_Teams___init__ => exact rfl)
    (case mr_Teams___init__ => k_is)
    (case su_Teams___init__ => first | ks_is | k_is | kernel_rfl)
    (case tp_Teams___init__ => k_is)
    (case fi_Teams___init__ => first | k_is | kernel_rfl | decide +kernel)
    (case if_Teams___init__ => k_is)
    (case i_Teams__rank => k_is)
    (case l_Teams__rank => k_is)
    (case c_Teams__rank => k_is)
    (case k_Teams__rank => k_is)
    (case i_Works___init__ => k_is)
    (case l_Works___init__ => k_is)
    (case c_Works___init__ => k_is)
    (case e_Works___init__ => k_is)
    (case o_Works___init__ => k_is)
    (case v_Works___init__ => exact rfl)
    (case w_Works___init__ => decide +kernel)
    (case x_Works___init__ => exact rfl)
    (case dc_Works___init__ => exact rfl)
    (case mr_Works___init__ => k_is)
    (case su_Works___init__ => first | ks_is | k_is | kernel_rfl)
    (case tp_Works___init__ => k_is)
    (case fi_Works___init__ => first | k_is | kernel_rfl | decide +kernel)
    (case if_Works___init__ => k_is)
    (case i_Works__rank => k_is)
    (case l_Works__rank => k_is)
    (case c_Works__rank => k_is)
    (case k_Works__rank => k_is)
    (case me_Firsts__rank => k_is)
    (case mi_Firsts__rank => k_is)
    (case mp_Firsts__rank => k_is)
    (case me_Teams__rank => k_is)
    (case mi_Teams__rank => k_is)
    (case mp_Teams__rank => k_is)
    (case me_Works__rank => k_is)
    (case mi_Works__rank => k_is)
    (case mp_Works__rank => k_is)
    (case i_Rule__free => k_is)
    (case l_Rule__free => k_is)
    (case c_Rule__free => k_is)
    (case k_Rule__free => k_is)
    (case me_Firsts__free => k_is)
    (case mi_Firsts__free => k_is)
    (case mp_Firsts__free => k_is)
    (case me_Teams__free => k_is)
    (case mi_Teams__free => k_is)
    (case mp_Teams__free => k_is)
    (case me_Works__free => k_is)
    (case mi_Works__free => k_is)
    (case mp_Works__free => k_is)
    (case i_Rule_is_free => k_is)
    (case l_Rule_is_free => k_is)
    (case c_Rule_is_free => k_is)
    (case k_Rule_is_free => k_is)
    (case me_Firsts_is_free => k_is)
    (case mi_Firsts_is_free => k_is)
    (case mp_Firsts_is_free => k_is)
    (case me_Teams_is_free => k_is)
    (case mi_Teams_is_free => k_is)
    (case mp_Teams_is_free => k_is)
    (case me_Works_is_free => k_is)
    (case mi_Works_is_free => k_is)
    (case mp_Works_is_free => k_is)
    (case i_Rule_rank => k_is)
    (case l_Rule_rank => k_is)
    (case c_Rule_rank => k_is)
    (case k_Rule_rank => k_is)
    (case me_Firsts_rank => k_is)
    (case mi_Firsts_rank => k_is)
    (case mp_Firsts_rank => k_is)
    (case me_Teams_rank => k_is)
    (case mi_Teams_rank => k_is)
    (case mp_Teams_rank => k_is)
    (case me_Works_rank => k_is)
    (case mi_Works_rank => k_is)
    (case mp_Works_rank => k_is)
    (case n_timetable => k_is)
    (case l_timetable => k_is)
    (case c_timetable => k_is)
    (case k_timetable => k_is)
    (case n__law_pool => k_is)
    (case l__law_pool => k_is)
    (case c__law_pool => k_is)
    (case k__law_pool => k_is)
    (case n__law_mixed => k_is)
    (case l__law_mixed => k_is)
    (case c__law_mixed => k_is)
    (case k__law_mixed => k_is)
    (case n__law_draw => k_is)
    (case l__law_draw => k_is)
    (case c__law_draw => k_is)
    (case k__law_draw => k_is)
    (case n__law_digits => k_is)
    (case l__law_digits => k_is)
    (case c__law_digits => k_is)
    (case k__law_digits => k_is)
    (case n__law_firsts_hold => k_is)
    (case l__law_firsts_hold => k_is)
    (case c__law_firsts_hold => k_is)
    (case k__law_firsts_hold => k_is)
    (case n__law_teams_hold => k_is)
    (case l__law_teams_hold => k_is)
    (case c__law_teams_hold => k_is)
    (case k__law_teams_hold => k_is)
    (case n__law_timetable_holds => k_is)
    (case l__law_timetable_holds => k_is)
    (case c__law_timetable_holds => k_is)
    (case k__law_timetable_holds => k_is)
    (case n__law_no_set_place => k_is)
    (case l__law_no_set_place => k_is)
    (case c__law_no_set_place => k_is)
    (case k__law_no_set_place => k_is)
    (case n__law_works_hold => k_is)
    (case l__law_works_hold => k_is)
    (case c__law_works_hold => k_is)
    (case k__law_works_hold => k_is)
    (case n_law => k_is)
    (case l_law => k_is)
    (case c_law => k_is)
    (case k_law => k_is)
#print axioms PySem.Challenge.cw_unseenprices_k03_counts_of_three_kinds_holds
