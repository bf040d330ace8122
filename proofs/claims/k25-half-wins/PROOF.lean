import PyProof.Rows.All
import Wide.All
import OpenK.AllK
import Wide.FinOn
import HandS.ForMost
import HandS.Exc
import HandS.TryOnly
import HandS.CallSlots
import HandS.WordsExc
import HandS.Wide
import HandS.IsInst
import HandS.Lambda
import HandS.HeadHook4
import HandS.EndTab
import HandS.EndBits
import HandS.HeadWalk
import HandS.Head2
import HandS.Style
import HandS.NoneIn
import HandS.Deep
import HandS.ExcOwn
import HandS.Conv
import PySem.Challenge.RW_byestand_k25_half_wins
set_option Elab.async false
set_option linter.all false
set_option maxRecDepth 100000
set_option maxHeartbeats 4000000
set_option autoImplicit false
namespace Ab
open PySem PySem.Spec PyProof.Rows L2

inductive D where
  | non | bl (b : Bool) | int (i : Int) | str (x : Str)
  | tup (xs : List D) | lst (xs : List D)
  | dk (ks : List Key) (xs : List D) | dt (ks : List (List Key)) (xs : List D)
  | scr (ns : List Int) | ref (i : Nat)

/-- a result: own: nobody else has it -/
structure R where
  d : D
  own : Bool

structure Gh where
  kn : Addr → HO → Prop
  m : List Addr
  px : List (Addr × HO)
  lk : List Addr

def WrT (K : PySem.W.Frag) (a : Addr) (xs : List V) : Prop :=
  ∃ (o : Obj) (its : Array Value) (n : Nat), K.lookup a = some o ∧ o.cls = .type "tuple" ∧ o.data = .seq its n ∧ its.size ≤ sizeLine ∧ Vals xs its.toList
def WrL (K : PySem.W.Frag) (a : Addr) (xs : List V) : Prop :=
  ∃ (o : Obj) (its : Array Value) (n : Nat), K.lookup a = some o ∧ o.cls = .type "list" ∧ o.dict = none ∧ o.data = .seq its n ∧ its.size ≤ sizeLine ∧ Vals xs its.toList
def TupAt (K : PySem.W.Frag) (g : Gh) (a : Addr) (vs : List V) : Prop := g.kn a (.tup vs) ∨ WrT K a vs
def ScrAt (K : PySem.W.Frag) (g : Gh) (a : Addr) (vs : List V) : Prop := g.kn a (.lst vs) ∨ (∃ o, g.kn a (.frz o (.lst vs))) ∨ WrL K a vs

mutual
def Rep (K : PySem.W.Frag) (g : Gh) : D → V → Prop
  | .non, v => v = .non
  | .bl b, v => v = .bl b
  | .int i, v => v = .int i
  | .str x, v => v = .str x
  | .tup ds, v => ∃ a vs, v = .ref a ∧ TupAt K g a vs ∧ Reps K g ds vs
  | .lst ds, v => ∃ a vs, v = .ref a ∧ g.kn a (.lst vs) ∧ Reps K g ds vs
  | .dk ks ds, v => ∃ a vs, v = .ref a ∧ ks.length = vs.length ∧ g.kn a (.dK (ks.zip vs)) ∧ Reps K g ds vs
  | .dt ks ds, v => ∃ a vs, v = .ref a ∧ ks.length = vs.length ∧ g.kn a (.dT (ks.zip vs)) ∧ Reps K g ds vs
  | .scr ns, v => ∃ a, v = .ref a ∧ ScrAt K g a (ns.map V.int)
  | .ref i, v => ∃ a, v = .ref a ∧ g.m[i]? = some a
def Reps (K : PySem.W.Frag) (g : Gh) : List D → List V → Prop
  | [], vs => vs = []
  | d :: ds, vs => ∃ v r, vs = v :: r ∧ Rep K g d v ∧ Reps K g ds r
end

/-- g' knows more -/
structure Le (g g' : Gh) : Prop where
  kn : ∀ a u, g.kn a u → g'.kn a u
  m : ∀ (i : Nat) (a : Addr), g.m[i]? = some a → g'.m[i]? = some a
  px : g'.px = g.px
  lk : g'.lk = g.lk
theorem Le.refl (g : Gh) : Le g g := ⟨fun _ _ h => h, fun _ _ h => h, rfl, rfl⟩
theorem Le.trans {a b c : Gh} (x : Le a b) (y : Le b c) : Le a c := ⟨fun p u h => y.kn p u (x.kn p u h), fun i p h => y.m i p (x.m i p h), y.px.trans x.px, y.lk.trans x.lk⟩

mutual
theorem Rep.mono {K : PySem.W.Frag} {g g' : Gh} (hk : ∀ a u, g.kn a u → g'.kn a u) (hm : ∀ (i : Nat) (a : Addr), g.m[i]? = some a → g'.m[i]? = some a) : ∀ (d : D) (v : V), Rep K g d v → Rep K g' d v
  | .non, v, h => by simpa only [Rep] using h
  | .bl _, v, h => by simpa only [Rep] using h
  | .int _, v, h => by simpa only [Rep] using h
  | .str _, v, h => by simpa only [Rep] using h
  | .tup ds, v, h => by
    simp only [Rep] at h ⊢
    obtain ⟨a, vs, e, t, r⟩ := h
    exact ⟨a, vs, e, t.imp (hk _ _) id, Reps.mono hk hm ds vs r⟩
  | .lst ds, v, h => by
    simp only [Rep] at h ⊢
    obtain ⟨a, vs, e, t, r⟩ := h
    exact ⟨a, vs, e, hk _ _ t, Reps.mono hk hm ds vs r⟩
  | .dk ks ds, v, h => by
    simp only [Rep] at h ⊢
    obtain ⟨a, vs, e, l, t, r⟩ := h
    exact ⟨a, vs, e, l, hk _ _ t, Reps.mono hk hm ds vs r⟩
  | .dt ks ds, v, h => by
    simp only [Rep] at h ⊢
    obtain ⟨a, vs, e, l, t, r⟩ := h
    exact ⟨a, vs, e, l, hk _ _ t, Reps.mono hk hm ds vs r⟩
  | .scr ns, v, h => by
    simp only [Rep] at h ⊢
    obtain ⟨a, e, t⟩ := h
    exact ⟨a, e, t.imp (hk _ _) (Or.imp (fun ⟨o, q⟩ => ⟨o, hk _ _ q⟩) id)⟩
  | .ref i, v, h => by
    simp only [Rep] at h ⊢
    obtain ⟨a, e, t⟩ := h
    exact ⟨a, e, hm _ _ t⟩
theorem Reps.mono {K : PySem.W.Frag} {g g' : Gh} (hk : ∀ a u, g.kn a u → g'.kn a u) (hm : ∀ (i : Nat) (a : Addr), g.m[i]? = some a → g'.m[i]? = some a) : ∀ (ds : List D) (vs : List V), Reps K g ds vs → Reps K g' ds vs
  | [], vs, h => by simpa only [Reps] using h
  | d :: ds, vs, h => by
    simp only [Reps] at h ⊢
    obtain ⟨v, r, e, h1, h2⟩ := h
    exact ⟨v, r, e, Rep.mono hk hm d v h1, Reps.mono hk hm ds r h2⟩
end
theorem Rep.le {K : PySem.W.Frag} {g g' : Gh} (l : Le g g') {d : D} {v : V} (h : Rep K g d v) : Rep K g' d v := Rep.mono l.kn l.m d v h
theorem Reps.le {K : PySem.W.Frag} {g g' : Gh} (l : Le g g') {d : List D} {v : List V} (h : Reps K g d v) : Reps K g' d v := Reps.mono l.kn l.m d v h
section
variable {K : PySem.W.Frag} {g : Gh}
theorem Reps.length : ∀ {ds : List D} {vs : List V}, Reps K g ds vs → ds.length = vs.length
  | [], vs, h => by simp only [Reps] at h; subst h; rfl
  | d :: ds, vs, h => by
    simp only [Reps] at h
    obtain ⟨v, r, e, _, h2⟩ := h
    subst e
    simp [Reps.length h2]
theorem Reps.nil : Reps K g [] [] := by simp only [Reps]
theorem Reps.cons {d : D} {v : V} {ds : List D} {vs : List V} (h : Rep K g d v) (t : Reps K g ds vs) : Reps K g (d :: ds) (v :: vs) := by
  simp only [Reps]
  exact ⟨v, vs, rfl, h, t⟩
theorem Reps.get : ∀ {ds : List D} {vs : List V} {i : Nat} {d : D}, Reps K g ds vs → ds[i]? = some d → ∃ v, vs[i]? = some v ∧ Rep K g d v
  | [], vs, i, d, h, e => by simp at e
  | c :: ds, vs, 0, d, h, e => by
    simp only [Reps] at h
    obtain ⟨v, r, rfl, h1, _⟩ := h
    simp at e
    subst e
    exact ⟨v, rfl, h1⟩
  | c :: ds, vs, i + 1, d, h, e => by
    simp only [Reps] at h
    obtain ⟨v, r, rfl, _, h2⟩ := h
    simp at e
    obtain ⟨v', e1, e2⟩ := Reps.get h2 e
    exact ⟨v', by simpa using e1, e2⟩
theorem Reps.append : ∀ {ds es : List D} {vs ws : List V}, Reps K g ds vs → Reps K g es ws → Reps K g (ds ++ es) (vs ++ ws)
  | [], es, vs, ws, h, k => by
    simp only [Reps] at h
    subst h
    simpa using k
  | d :: ds, es, vs, ws, h, k => by
    simp only [Reps] at h
    obtain ⟨v, r, rfl, h1, h2⟩ := h
    exact Reps.cons h1 (Reps.append h2 k)
theorem Reps.take (n : Nat) : ∀ {ds : List D} {vs : List V}, Reps K g ds vs → Reps K g (ds.take n) (vs.take n) := by
  induction n with
  | zero => intro ds vs h; simpa using Reps.nil
  | succ n ih =>
    intro ds vs h
    cases ds with
    | nil => simp only [Reps] at h; subst h; simpa using Reps.nil
    | cons d ds =>
      simp only [Reps] at h
      obtain ⟨v, r, rfl, h1, h2⟩ := h
      exact Reps.cons h1 (ih h2)
theorem Reps.drop (n : Nat) : ∀ {ds : List D} {vs : List V}, Reps K g ds vs → Reps K g (ds.drop n) (vs.drop n) := by
  induction n with
  | zero => intro ds vs h; simpa using h
  | succ n ih =>
    intro ds vs h
    cases ds with
    | nil => simp only [Reps] at h; subst h; simpa using Reps.nil
    | cons d ds =>
      simp only [Reps] at h
      obtain ⟨v, r, rfl, h1, h2⟩ := h
      exact ih h2
theorem Reps.set (i : Nat) {d : D} {v : V} (hd : Rep K g d v) : ∀ {ds : List D} {vs : List V}, Reps K g ds vs → Reps K g (ds.set i d) (vs.set i v) := by
  induction i with
  | zero =>
    intro ds vs h
    cases ds with
    | nil => simp only [Reps] at h; subst h; exact Reps.nil
    | cons c ds =>
      simp only [Reps] at h
      obtain ⟨w, r, rfl, h1, h2⟩ := h
      exact Reps.cons hd h2
  | succ i ih =>
    intro ds vs h
    cases ds with
    | nil => simp only [Reps] at h; subst h; exact Reps.nil
    | cons c ds =>
      simp only [Reps] at h
      obtain ⟨w, r, rfl, h1, h2⟩ := h
      exact Reps.cons h1 (ih h2)
theorem Reps.reverse : ∀ {ds : List D} {vs : List V}, Reps K g ds vs → Reps K g ds.reverse vs.reverse
  | [], vs, h => by simp only [Reps] at h; subst h; exact Reps.nil
  | d :: ds, vs, h => by
    simp only [Reps] at h
    obtain ⟨v, r, rfl, h1, h2⟩ := h
    rw [List.reverse_cons, List.reverse_cons]
    exact Reps.append (Reps.reverse h2) (Reps.cons h1 Reps.nil)
theorem Reps.dropLast {ds : List D} {vs : List V} (h : Reps K g ds vs) : Reps K g ds.dropLast vs.dropLast := by
  rw [List.dropLast_eq_take, List.dropLast_eq_take, h.length]
  exact h.take _
end
end Ab
namespace Ab
open PySem PySem.Spec PyProof.Rows L2

inductive Cell where
  | lst (xs : List D) | dk (ks : List Key) (xs : List D) | dt (ks : List (List Key)) (xs : List D) | ins (C : Str) (ns : List Str) (xs : List D)

structure AS where
  sl : List (Option R)
  sg : List Cell
  b : Nat

structure En where
  H0 : Hp
  m0 : List Addr
  kn0 : Addr → HO → Prop
  b : Nat
  S0 : List Cell
  T : List (Addr × Str)

def isTbl : HO → Bool
  | .tbl _ => true
  | _ => false
def isDk : HO → Bool
  | .dK _ => true
  | .dT _ => true
  | _ => false
/-- u stands at a, perhaps locked -/
def Std (g : Gh) (H : Hp) (a : Addr) (u : HO) : Prop := H a = some u ∨ (a ∈ g.lk ∧ isDk u = true ∧ ∃ o, H a = some (.frz o u))
def toCell : D → Option Cell
  | .lst xs => some (.lst xs)
  | .dk ks xs => some (.dk ks xs)
  | .dt ks xs => some (.dt ks xs)
  | _ => none
def ofCell : Cell → Option D
  | .lst xs => some (.lst xs)
  | .dk ks xs => some (.dk ks xs)
  | .dt ks xs => some (.dt ks xs)
  | _ => none
def CellIs (K : PySem.W.Frag) (g : Gh) : Cell → HO → Prop
  | .lst ds, u => ∃ vs, u = .lst vs ∧ Reps K g ds vs
  | .dk ks ds, u => ∃ vs, u = .dK (ks.zip vs) ∧ ks.length = vs.length ∧ Reps K g ds vs
  | .dt ks ds, u => ∃ vs, u = .dT (ks.zip vs) ∧ ks.length = vs.length ∧ Reps K g ds vs
  | .ins C ns ds, u => ∃ dx vs, u = .ins (He.ga K C) dx (ns.zip vs) ∧ ns.length = vs.length ∧ Reps K g ds vs
theorem CellIs.le {K : PySem.W.Frag} {g g' : Gh} (l : Le g g') : ∀ {c : Cell} {u : HO}, CellIs K g c u → CellIs K g' c u
  | .lst _, _, ⟨vs, e, r⟩ => ⟨vs, e, r.le l⟩
  | .dk _ _, _, ⟨vs, e, z, r⟩ => ⟨vs, e, z, r.le l⟩
  | .dt _ _, _, ⟨vs, e, z, r⟩ => ⟨vs, e, z, r.le l⟩
  | .ins _ _ _, _, ⟨dx, vs, e, z, r⟩ => ⟨dx, vs, e, z, r.le l⟩
/-- nothing of ours is at a -/
structure Loose (en : En) (g : Gh) (st : AS) (σ : L2.St) (a : Addr) : Prop where
  kn : ∀ u, ¬ g.kn a u
  m : a ∉ g.m
  h0 : en.H0 a = none
  px : ∀ p ∈ g.px, p.1 ≠ a
  sl : ∀ (i : Nat) (r : R), st.sl[i]? = some (some r) → r.own = true → σ[i]? ≠ some (some (.ref a))

structure Sim (K : PySem.W.Frag) (en : En) (g : Gh) (st : AS) (σ : L2.St) (H : Hp) : Prop where
  kn : ∀ a u, g.kn a u → Std g H a u
  len : st.sl.length = σ.length
  fz : ∀ (i : Nat) (r : R), st.sl[i]? = some (some r) → r.own = false → ∃ v, σ[i]? = some (some v) ∧ Rep K g r.d v
  ow : ∀ (i : Nat) (r : R), st.sl[i]? = some (some r) → r.own = true → ∃ a c u, σ[i]? = some (some (.ref a)) ∧ toCell r.d = some c ∧ H a = some u ∧ CellIs K g c u ∧
    (∀ u, ¬ g.kn a u) ∧ a ∉ g.m ∧ en.H0 a = none ∧ ∀ p ∈ g.px, p.1 ≠ a
  ud : ∀ (i j : Nat) (r r' : R) (a : Addr), st.sl[i]? = some (some r) → st.sl[j]? = some (some r') → r.own = true → r'.own = true → σ[i]? = some (some (.ref a)) → σ[j]? = some (some (.ref a)) → i = j
  ce : ∀ (i : Nat) (c : Cell), st.sg[i]? = some c → ∃ a u, g.m[i]? = some a ∧ H a = some u ∧ CellIs K g c u
  ml : g.m.length = st.sg.length
  nd : g.m.Nodup
  mq : ∀ a ∈ g.m, ∀ u, ¬ g.kn a u
  px : ∀ p ∈ g.px, H p.1 = some p.2 ∧ (∀ u, ¬ g.kn p.1 u) ∧ p.1 ∉ g.m ∧ en.H0 p.1 = none ∧ isTbl p.2 = false
  pd : (g.px.map (·.1)).Nodup
  lk : ∀ a ∈ g.lk, ∃ u, g.kn a u
  sb : st.b = en.b
  bl : st.b ≤ st.sg.length
  m0 : ∀ (i : Nat) (a : Addr), en.m0[i]? = some a → g.m[i]? = some a
  mn : ∀ (i : Nat) (a : Addr), en.m0.length ≤ i → g.m[i]? = some a → en.H0 a = none
  k0 : ∀ a u, en.kn0 a u → g.kn a u
  kw : ∀ a u, g.kn a u → en.kn0 a u ∨ en.H0 a = none
  fr : ∀ a o, en.H0 a = some o → a ∉ en.m0.drop en.b → (∀ ps, o ≠ .tbl ps) → Std g H a o
  tb : ∀ a ps, en.H0 a = some (.tbl ps) → ∃ qs, H a = some (.tbl qs)
  pr : ∀ i : Nat, i < en.b → st.sg[i]? = en.S0[i]?
  tt : LamX.Tabs en.T H

section
variable {K : PySem.W.Frag} {en : En} {g : Gh} {st : AS} {σ : L2.St} {H : Hp}
theorem Std.ne {a p : Addr} {u : HO} (h : Std g H a u) (n : H p = none) : a ≠ p := by
  rintro rfl
  rcases h with h | ⟨_, _, o, h⟩ <;> rw [n] at h <;> cases h
theorem Std.upd {a p : Addr} {u o : HO} (h : Std g H a u) (n : a ≠ p) : Std g (upd H p o) a u := by
  rcases h with h | ⟨l, d, q, h⟩
  · exact .inl (by rw [upd_ne n]; exact h)
  · exact .inr ⟨l, d, q, by rw [upd_ne n]; exact h⟩
theorem Sim.mem_drop (S : Sim K en g st σ H) {a : Addr} (h : a ∈ en.m0.drop en.b) : ∃ i : Nat, en.b ≤ i ∧ g.m[i]? = some a := by
  obtain ⟨j, hj⟩ := List.mem_iff_getElem?.mp h
  rw [List.getElem?_drop] at hj
  exact ⟨en.b + j, Nat.le_add_right _ _, S.m0 _ _ hj⟩
theorem Sim.cell_at (S : Sim K en g st σ H) {i : Nat} {a : Addr} (h : g.m[i]? = some a) : ∃ c u, st.sg[i]? = some c ∧ H a = some u ∧ CellIs K g c u := by
  have hl : i < st.sg.length := by
    rw [← S.ml]
    exact (List.getElem?_eq_some_iff.mp h).1
  obtain ⟨a', u, e1, e2, e3⟩ := S.ce i _ (List.getElem?_eq_getElem hl)
  rw [h] at e1
  cases e1
  exact ⟨_, u, List.getElem?_eq_getElem hl, e2, e3⟩
theorem Sim.m_some (S : Sim K en g st σ H) {a : Addr} (h : a ∈ g.m) : ∃ u, H a = some u := by
  obtain ⟨i, hi⟩ := List.mem_iff_getElem?.mp h
  obtain ⟨_, u, _, e, _⟩ := S.cell_at hi
  exact ⟨u, e⟩
theorem Sim.h0 (S : Sim K en g st σ H) {p : Addr} (n : H p = none) : en.H0 p = none := by
  cases e : en.H0 p with
  | none => rfl
  | some o =>
    by_cases ht : ∃ ps, o = .tbl ps
    · obtain ⟨ps, rfl⟩ := ht
      obtain ⟨qs, q⟩ := S.tb _ _ e
      rw [n] at q
      cases q
    · by_cases hd : p ∈ en.m0.drop en.b
      · obtain ⟨i, _, hi⟩ := S.mem_drop hd
        obtain ⟨u, hu⟩ := S.m_some (List.mem_of_getElem? hi)
        rw [n] at hu
        cases hu
      · exact absurd rfl ((S.fr _ _ e hd fun ps z => ht ⟨ps, z⟩).ne n)
/-- a new address -/
theorem Sim.fresh (S : Sim K en g st σ H) {p : Addr} (n : H p = none) : Loose en g st σ p where
  kn := fun u h => (S.kn _ _ h).ne n rfl
  m := fun h => by
    obtain ⟨u, hu⟩ := S.m_some h
    rw [n] at hu
    cases hu
  h0 := S.h0 n
  px := fun q hq e => by
    have := (S.px q hq).1
    rw [e, n] at this
    cases this
  sl := fun i r h o e => by
    obtain ⟨a, c, u, e1, _, e2, _⟩ := S.ow i r h o
    rw [e1] at e
    cases e
    rw [n] at e2
    cases e2
/-- something else is changed at p, where nothing of ours is -/
theorem Sim.out (S : Sim K en g st σ H) {p : Addr} {o : HO} (L : Loose en g st σ p) (ht : ∀ q ∈ en.T, q.1 ≠ p) (hc : LamX.Tabs en.T (upd H p o)) : Sim K en g st σ (upd H p o) := { S with
  kn := fun a u h => (S.kn a u h).upd fun e => L.kn u (e ▸ h)
  ow := fun i r h k => by
    obtain ⟨a, c, u, e1, e2, e3, e4⟩ := S.ow i r h k
    have ne : a ≠ p := by
      rintro rfl
      exact L.sl i r h k e1
    exact ⟨a, c, u, e1, e2, by rw [upd_ne ne]; exact e3, e4⟩
  ce := fun i c h => by
    obtain ⟨a, u, e1, e2, e3⟩ := S.ce i c h
    have ne : a ≠ p := by
      rintro rfl
      exact L.m (List.mem_of_getElem? e1)
    exact ⟨a, u, e1, by rw [upd_ne ne]; exact e2, e3⟩
  px := fun q hq => by
    obtain ⟨e1, e2⟩ := S.px q hq
    exact ⟨by rw [upd_ne (L.px q hq)]; exact e1, e2⟩
  fr := fun a u h k t => (S.fr a u h k t).upd fun e => by rw [e, L.h0] at h; cases h
  tb := fun a ps h => by
    obtain ⟨qs, e⟩ := S.tb a ps h
    exact ⟨qs, by rw [upd_ne (fun z => by rw [z, L.h0] at h; cases h)]; exact e⟩
  tt := hc }
theorem Sim.new (S : Sim K en g st σ H) {p : Addr} {o : HO} (n : H p = none) : Sim K en g st σ (upd H p o) :=
  S.out (S.fresh n) (fun q hq e => by
    obtain ⟨ps, h, _⟩ := S.tt q hq
    rw [e, n] at h
    cases h) (S.tt.ext fun b u e => by rw [upd_ne (ne_of_none e n)]; exact e)
def Gh.add (g : Gh) (p : Addr) (u : HO) : Gh := { g with kn := fun a o => g.kn a o ∨ (a = p ∧ o = u) }
theorem Le.add (g : Gh) (p : Addr) (u : HO) : Le g (g.add p u) := ⟨fun _ _ h => .inl h, fun _ _ h => h, rfl, rfl⟩
theorem add_kn {g : Gh} {p : Addr} {u : HO} : (g.add p u).kn p u := .inr ⟨rfl, rfl⟩
theorem Loose.add {p q : Addr} {u : HO} (L : Loose en g st σ p) (n : p ≠ q) : Loose en (g.add q u) st σ p := { L with
  kn := fun o h => h.elim (L.kn o) fun z => n z.1 }
/-- what stands at p, nobody's, is known from now on -/
theorem Sim.know (S : Sim K en g st σ H) {p : Addr} {u : HO} (e : H p = some u) (L : Loose en g st σ p) : Sim K en (g.add p u) st σ H := { S with
  kn := fun a o h => h.elim (S.kn a o) fun ⟨e1, e2⟩ => by subst e1; subst e2; exact .inl e
  fz := fun i r h k => by
    obtain ⟨v, e1, e2⟩ := S.fz i r h k
    exact ⟨v, e1, e2.le (Le.add g p u)⟩
  ow := fun i r h k => by
    obtain ⟨a, c, o, e1, e2, e3, e4, e5, e6⟩ := S.ow i r h k
    exact ⟨a, c, o, e1, e2, e3, e4.le (Le.add g p u), fun o' z => z.elim (e5 o') fun y => L.sl i r h k (y.1 ▸ e1), e6⟩
  ce := fun i c h => by
    obtain ⟨a, o, e1, e2, e3⟩ := S.ce i c h
    exact ⟨a, o, e1, e2, e3.le (Le.add g p u)⟩
  mq := fun a h o z => z.elim (S.mq a h o) fun y => L.m (y.1 ▸ h)
  px := fun q hq => by
    obtain ⟨e1, e2, e3⟩ := S.px q hq
    exact ⟨e1, fun o z => z.elim (e2 o) fun y => L.px q hq y.1, e3⟩
  lk := fun a h => let ⟨o, q⟩ := S.lk a h; ⟨o, .inl q⟩
  k0 := fun a o h => .inl (S.k0 a o h)
  kw := fun a o h => h.elim (S.kw a o) fun y => .inr (y.1 ▸ L.h0) }
/-- a new object, known -/
theorem Sim.newKn (S : Sim K en g st σ H) {p : Addr} {o : HO} (n : H p = none) : Sim K en (g.add p o) st σ (upd H p o) :=
  (S.new n).know upd_same (let L := S.fresh n; { L with })

/-- a result and its value -/
def RR (K : PySem.W.Frag) (en : En) (g : Gh) (st : AS) (σ : L2.St) (H : Hp) (r : R) (v : V) : Prop :=
  (r.own = false ∧ Rep K g r.d v) ∨ (r.own = true ∧ ∃ a c u, v = .ref a ∧ toCell r.d = some c ∧ H a = some u ∧ CellIs K g c u ∧ Loose en g st σ a)
def AS.put (st : AS) (i : Nat) (r : Option R) : AS := { st with sl := st.sl.set i r }
theorem get_set {α : Type} {l : List α} {i j : Nat} {x y : α} (h : (l.set i x)[j]? = some y) : (j = i ∧ y = x) ∨ (j ≠ i ∧ l[j]? = some y) := by
  rw [List.getElem?_set] at h
  by_cases e : i = j
  · rw [if_pos e] at h
    split at h
    · exact .inl ⟨e.symm, (Option.some.inj h).symm⟩
    · cases h
  · rw [if_neg e] at h
    exact .inr ⟨fun z => e z.symm, h⟩
theorem set_ne {α : Type} {l : List α} {i j : Nat} {x : α} (e : j ≠ i) : (l.set i x)[j]? = l[j]? := by
  rw [List.getElem?_set, if_neg (fun z => e z.symm)]
theorem set_eq {α : Type} {l : List α} {i : Nat} {x : α} (h : i < l.length) : (l.set i x)[i]? = some x := by
  rw [List.getElem?_set, if_pos rfl, if_pos h]
theorem Sim.put (S : Sim K en g st σ H) {i : Nat} {r : R} {v : V} (hr : RR K en g st σ H r v) : Sim K en g (st.put i (some r)) (σ.set i (some v)) H := { S with
  len := by
    show (st.sl.set i _).length = (σ.set i _).length
    rw [List.length_set, List.length_set, S.len]
  fz := fun j q h o => by
    rcases get_set (show (st.sl.set i (some r))[j]? = some (some q) from h) with ⟨e, e2⟩ | ⟨ne, h⟩
    · cases e2
      subst e
      have hl : j < σ.length := by
        rw [← S.len]
        have := (List.getElem?_eq_some_iff.mp (show (st.sl.set j _)[j]? = some (some _) from h)).1
        simpa using this
      rcases hr with ⟨_, hr⟩ | ⟨z, _⟩
      · exact ⟨v, set_eq hl, hr⟩
      · rw [z] at o
        cases o
    · obtain ⟨w, e1, e2⟩ := S.fz j q h o
      exact ⟨w, by rw [set_ne ne]; exact e1, e2⟩
  ow := fun j q h o => by
    rcases get_set (show (st.sl.set i (some r))[j]? = some (some q) from h) with ⟨e, e2⟩ | ⟨ne, h⟩
    · cases e2
      subst e
      have hl : j < σ.length := by
        rw [← S.len]
        have := (List.getElem?_eq_some_iff.mp (show (st.sl.set j _)[j]? = some (some _) from h)).1
        simpa using this
      rcases hr with ⟨z, _⟩ | ⟨_, a, c, u, rfl, e2, e3, e4, L⟩
      · rw [z] at o
        cases o
      · exact ⟨a, c, u, set_eq hl, e2, e3, e4, L.kn, L.m, L.h0, L.px⟩
    · obtain ⟨a, c, u, e1, e2⟩ := S.ow j q h o
      exact ⟨a, c, u, by rw [set_ne ne]; exact e1, e2⟩
  ud := fun j k q q' a h h' o o' e e' => by
    have key : ∀ (j : Nat) (q : R), st.sl[j]? = some (some q) → q.own = true → r.own = true → j ≠ i → σ[j]? = some (some (.ref a)) → v ≠ .ref a := by
      intro j q h o ro ne e z
      rcases hr with ⟨y, _⟩ | ⟨_, a', c, u, ev, _, _, _, L⟩
      · rw [y] at ro
        cases ro
      · rw [z] at ev
        cases ev
        exact L.sl j q h o e
    rcases get_set (show (st.sl.set i (some r))[j]? = some (some q) from h) with ⟨y, y2⟩ | ⟨ne, h⟩
    · rcases get_set (show (st.sl.set i (some r))[k]? = some (some q') from h') with ⟨z, z2⟩ | ⟨nk, h'⟩
      · rw [y, z]
      · cases y2
        rw [set_ne nk] at e'
        rcases get_set e with ⟨_, e⟩ | ⟨b, _⟩
        · exact absurd (Option.some.inj e).symm (key k q' h' o' o nk e')
        · exact absurd y b
    · rw [set_ne ne] at e
      rcases get_set (show (st.sl.set i (some r))[k]? = some (some q') from h') with ⟨z, z2⟩ | ⟨nk, h'⟩
      · cases z2
        rcases get_set e' with ⟨_, e'⟩ | ⟨b, _⟩
        · exact absurd (Option.some.inj e').symm (key j q h o o' ne e)
        · exact absurd z b
      · rw [set_ne nk] at e'
        exact S.ud j k q q' a h h' o o' e e' }
/-- a slot forgotten, whatever it holds -/
theorem Sim.wipe (S : Sim K en g st σ H) (i : Nat) (x : Option V) : Sim K en g (st.put i none) (σ.set i x) H := { S with
  len := by
    show (st.sl.set i _).length = (σ.set i _).length
    rw [List.length_set, List.length_set, S.len]
  fz := fun j q h o => by
    rcases get_set (show (st.sl.set i none)[j]? = some (some q) from h) with ⟨e, e2⟩ | ⟨ne, h⟩
    · cases e2
    · obtain ⟨w, e1, e2⟩ := S.fz j q h o
      exact ⟨w, by rw [set_ne ne]; exact e1, e2⟩
  ow := fun j q h o => by
    rcases get_set (show (st.sl.set i none)[j]? = some (some q) from h) with ⟨e, e2⟩ | ⟨ne, h⟩
    · cases e2
    · obtain ⟨a, c, u, e1, e2⟩ := S.ow j q h o
      exact ⟨a, c, u, by rw [set_ne ne]; exact e1, e2⟩
  ud := fun j k q q' a h h' o o' e e' => by
    rcases get_set (show (st.sl.set i none)[j]? = some (some q) from h) with ⟨_, y2⟩ | ⟨ne, h⟩
    · cases y2
    · rcases get_set (show (st.sl.set i none)[k]? = some (some q') from h') with ⟨_, z2⟩ | ⟨nk, h'⟩
      · cases z2
      · rw [set_ne ne] at e
        rw [set_ne nk] at e'
        exact S.ud j k q q' a h h' o o' e e' }
/-- an own slot becomes a known one -/
theorem rep_of_cell {K : PySem.W.Frag} {g : Gh} {d : D} {c : Cell} {a : Addr} {u : HO} (hc : toCell d = some c) (hu : CellIs K g c u) (k : g.kn a u) : Rep K g d (.ref a) := by
  cases d <;> simp only [toCell, Option.some.injEq, reduceCtorEq] at hc
  · subst hc
    obtain ⟨vs, rfl, r⟩ := hu
    simp only [Rep]
    exact ⟨a, vs, rfl, k, r⟩
  · subst hc
    obtain ⟨vs, rfl, l, r⟩ := hu
    simp only [Rep]
    exact ⟨a, vs, rfl, l, k, r⟩
  · subst hc
    obtain ⟨vs, rfl, l, r⟩ := hu
    simp only [Rep]
    exact ⟨a, vs, rfl, l, k, r⟩
theorem set_self {α : Type} {l : List α} {i : Nat} {x : α} (h : l[i]? = some x) : l.set i x = l := by
  apply List.ext_getElem?
  intro j
  rw [List.getElem?_set]
  by_cases e : i = j
  · subst e
    rw [if_pos rfl, h]
    have := (List.getElem?_eq_some_iff.mp h).1
    rw [if_pos this]
  · rw [if_neg e]
theorem Sim.seal (S : Sim K en g st σ H) {i : Nat} {r : R} (h : st.sl[i]? = some (some r)) (o : r.own = true) :
    ∃ a u, σ[i]? = some (some (.ref a)) ∧ Le g (g.add a u) ∧ Rep K (g.add a u) r.d (.ref a) ∧ Sim K en (g.add a u) (st.put i (some ⟨r.d, false⟩)) σ H := by
  obtain ⟨a, c, u, e1, e2, e3, e4, e5, e6, e7, e8⟩ := S.ow i r h o
  have hr : Rep K (g.add a u) r.d (.ref a) := rep_of_cell e2 (e4.le (Le.add g a u)) add_kn
  refine ⟨a, u, e1, Le.add g a u, hr, ?_⟩
  have S1 := S.wipe i σ[i]?.join
  have L : Loose en g (st.put i none) (σ.set i σ[i]?.join) a := ⟨e5, e6, e7, e8, fun j q hj oj z => by
    rcases get_set (show (st.sl.set i none)[j]? = some (some q) from hj) with ⟨_, y2⟩ | ⟨ne, hj⟩
    · cases y2
    · rw [set_ne ne] at z
      exact ne (S.ud j i q r a hj h oj o z e1)⟩
  have S2 := (S1.know e3 L).put (i := i) (r := ⟨r.d, false⟩) (v := .ref a) (.inl ⟨rfl, hr⟩)
  have es : (σ.set i σ[i]?.join).set i (some (V.ref a)) = σ := by
    rw [List.set_set]
    exact set_self e1
  have et : (st.put i none).put i (some ⟨r.d, false⟩) = st.put i (some ⟨r.d, false⟩) := by
    unfold AS.put
    simp
  rw [es, et] at S2
  exact S2
/-- a temporary that is nobody's, known from now on -/
theorem RR.seal {r : R} {v : V} (h : RR K en g st σ H r v) (S : Sim K en g st σ H) : ∃ g', Le g g' ∧ Sim K en g' st σ H ∧ Rep K g' r.d v := by
  rcases h with ⟨_, h⟩ | ⟨_, a, c, u, rfl, e2, e3, e4, L⟩
  · exact ⟨g, Le.refl g, S, h⟩
  · exact ⟨g.add a u, Le.add g a u, S.know e3 L, rep_of_cell e2 (e4.le (Le.add g a u)) add_kn⟩
/-- where a thing stands that may be changed -/
inductive Loc where
  | sl (i : Nat) | ce (i : Nat)
def AS.at_ (st : AS) : Loc → Option Cell
  | .sl i => match st.sl[i]? with
    | some (some ⟨d, true⟩) => toCell d
    | _ => none
  | .ce i => if st.b ≤ i then st.sg[i]? else none
def AS.setAt (st : AS) : Loc → Cell → AS
  | .sl i, c => match ofCell c with
    | some d => st.put i (some ⟨d, true⟩)
    | none => st
  | .ce i, c => { st with sg := st.sg.set i c }
def LocIs (g : Gh) (σ : L2.St) : Loc → Addr → Prop
  | .sl i, a => σ[i]? = some (some (.ref a))
  | .ce i, a => g.m[i]? = some a
theorem toCell_ofCell {d : D} {c : Cell} (h : ofCell c = some d) : toCell d = some c := by
  cases c <;> simp only [ofCell, Option.some.injEq, reduceCtorEq] at h <;> subst h <;> rfl
theorem Sim.loc (S : Sim K en g st σ H) {l : Loc} {c : Cell} (h : st.at_ l = some c) : ∃ a u, LocIs g σ l a ∧ H a = some u ∧ CellIs K g c u ∧ (∀ u, ¬ g.kn a u) := by
  cases l with
  | sl i =>
    simp only [AS.at_] at h
    split at h
    · rename_i d e
      obtain ⟨a, c', u, e1, e2, e3, e4, e5, _⟩ := S.ow i _ e rfl
      rw [h] at e2
      cases e2
      exact ⟨a, u, e1, e3, e4, e5⟩
    · cases h
  | ce i =>
    simp only [AS.at_] at h
    split at h
    · obtain ⟨a, u, e1, e2, e3⟩ := S.ce i c h
      exact ⟨a, u, e1, e2, e3, S.mq a (List.mem_of_getElem? e1)⟩
    · cases h
theorem nodup_ix {α : Type} {l : List α} (h : l.Nodup) {i j : Nat} {x : α} (a : l[i]? = some x) (b : l[j]? = some x) : i = j := L2.nd_ix h a b
theorem CellIs.notbl {c : Cell} {u : HO} (h : CellIs K g c u) : isTbl u = false := by
  cases c with
  | lst ds =>
    obtain ⟨_, rfl, _⟩ := h
    rfl
  | dk ks ds =>
    obtain ⟨_, rfl, _⟩ := h
    rfl
  | dt ks ds =>
    obtain ⟨_, rfl, _⟩ := h
    rfl
  | ins C ns ds =>
    obtain ⟨_, _, rfl, _⟩ := h
    rfl
theorem tabs_upd {T : List (Addr × Str)} {H : Hp} {a : Addr} {u o : HO} (t : LamX.Tabs T H) (h : H a = some u) (n : isTbl u = false) (hx : ∀ φ, u ≠ .ext φ) : LamX.Tabs T (upd H a o) := fun p hp => by
  obtain ⟨ps, h1, h2, h3⟩ := t p hp
  refine ⟨ps, ?_, h2, fun pos cv hc => ?_⟩
  · rw [upd_ne]
    · exact h1
    · rintro rfl
      rw [h] at h1
      cases h1
      cases n
  · obtain ⟨c, e1, e2⟩ := h3 pos cv hc
    refine ⟨c, e1, ?_⟩
    rw [upd_ne]
    · exact e2
    · rintro rfl
      rw [h] at e2
      exact hx _ (Option.some.inj e2)
theorem CellIs.noext {c : Cell} {u : HO} (h : CellIs K g c u) : ∀ φ, u ≠ .ext φ := by
  cases c with
  | lst ds =>
    obtain ⟨_, rfl, _⟩ := h
    intro φ z
    cases z
  | dk ks ds =>
    obtain ⟨_, rfl, _⟩ := h
    intro φ z
    cases z
  | dt ks ds =>
    obtain ⟨_, rfl, _⟩ := h
    intro φ z
    cases z
  | ins C ns ds =>
    obtain ⟨_, _, rfl, _⟩ := h
    intro φ z
    cases z
/-- the thing at l is changed -/
theorem Sim.chg (S : Sim K en g st σ H) {l : Loc} {c c' : Cell} {a : Addr} {u u' : HO} (h : st.at_ l = some c) (ha : LocIs g σ l a) (hu : H a = some u) (hc' : CellIs K g c' u') (hs : ∀ i, l = .sl i → (ofCell c').isSome = true) :
    Sim K en g (st.setAt l c') σ (upd H a u') := by
  obtain ⟨a', u0, ha', hu', hc, hk⟩ := S.loc h
  have ea : a' = a := by
    cases l with
    | sl i =>
      have e1 : σ[i]? = some (some (.ref a')) := ha'
      have e2 : σ[i]? = some (some (.ref a)) := ha
      rw [e1] at e2
      cases e2
      rfl
    | ce i =>
      have e1 : g.m[i]? = some a' := ha'
      have e2 : g.m[i]? = some a := ha
      rw [e1] at e2
      cases e2
      rfl
  subst ea
  rw [hu] at hu'
  cases hu'
  have kne : ∀ b o, g.kn b o → b ≠ a' := fun b o h e => hk o (e ▸ h)
  have tt := tabs_upd (o := u') S.tt hu hc.notbl hc.noext
  have tb : ∀ b ps, en.H0 b = some (.tbl ps) → ∃ qs, upd H a' u' b = some (.tbl qs) := fun b ps e => by
    obtain ⟨qs, q⟩ := S.tb b ps e
    refine ⟨qs, ?_⟩
    rw [upd_ne]
    · exact q
    · rintro rfl
      rw [hu] at q
      cases q
      have := hc.notbl
      cases this
  cases l with
  | sl i =>
    have ha : σ[i]? = some (some (.ref a')) := ha'
    simp only [AS.at_] at h
    split at h
    · rename_i d e
      obtain ⟨d', hd'⟩ := Option.isSome_iff_exists.mp (hs i rfl)
      obtain ⟨b, c0, u0, e1, e2, e3, e4, e5, e6, e7, e8⟩ := S.ow i _ e rfl
      rw [ha] at e1
      cases e1
      have hset : st.setAt (.sl i) c' = st.put i (some ⟨d', true⟩) := by
        simp only [AS.setAt, hd']
      rw [hset]
      have S1 := S.wipe i σ[i]?.join
      have L : Loose en g (st.put i none) (σ.set i σ[i]?.join) a' := ⟨e5, e6, e7, e8, fun j q hj oj z => by
        rcases get_set (show (st.sl.set i none)[j]? = some (some q) from hj) with ⟨_, y2⟩ | ⟨ne, hj⟩
        · cases y2
        · rw [set_ne ne] at z
          exact ne (S.ud j i q _ a' hj e oj rfl z ha)⟩
      have S2 := S1.out (o := u') L (fun q hq z => by
        obtain ⟨ps, h1, _⟩ := S.tt q hq
        rw [z, hu] at h1
        cases h1
        have := hc.notbl
        cases this) tt
      have S3 := S2.put (i := i) (r := ⟨d', true⟩) (v := .ref a') (.inr ⟨rfl, a', c', u', rfl, toCell_ofCell hd', upd_same, hc', L⟩)
      have es : (σ.set i σ[i]?.join).set i (some (V.ref a')) = σ := by
        rw [List.set_set]
        exact set_self ha
      have et : (st.put i none).put i (some ⟨d', true⟩) = st.put i (some ⟨d', true⟩) := by
        unfold AS.put
        simp
      rw [es, et] at S3
      exact S3
    · cases h
  | ce i =>
    have ha : g.m[i]? = some a' := ha'
    have hb : st.b ≤ i := by
      simp only [AS.at_] at h
      split at h
      · assumption
      · cases h
    have hil : i < st.sg.length := by
      rw [← S.ml]
      exact (List.getElem?_eq_some_iff.mp ha).1
    exact { S with
      kn := fun b o h => (S.kn b o h).upd (kne b o h)
      ow := fun j r hj oj => by
        obtain ⟨b, c0, o, e1, e2, e3, e4, e5, e6, e7⟩ := S.ow j r hj oj
        refine ⟨b, c0, o, e1, e2, ?_, e4, e5, e6, e7⟩
        rw [upd_ne]
        · exact e3
        · rintro rfl
          exact e6 (List.mem_of_getElem? ha)
      ce := fun j c0 hj => by
        rcases get_set (show (st.sg.set i c')[j]? = some c0 from hj) with ⟨e, e2⟩ | ⟨ne, hj⟩
        · subst e
          subst e2
          exact ⟨a', u', ha, upd_same, hc'⟩
        · obtain ⟨b, o, e1, e2, e3⟩ := S.ce j c0 hj
          refine ⟨b, o, e1, ?_, e3⟩
          rw [upd_ne]
          · exact e2
          · rintro rfl
            exact ne (nodup_ix S.nd e1 ha)
      ml := by
        show g.m.length = (st.sg.set i c').length
        rw [List.length_set]
        exact S.ml
      bl := by
        show st.b ≤ (st.sg.set i c').length
        rw [List.length_set]
        exact S.bl
      px := fun q hq => by
        obtain ⟨e1, e2, e3, e4⟩ := S.px q hq
        refine ⟨?_, e2, e3, e4⟩
        rw [upd_ne]
        · exact e1
        · intro z
          exact e3 (z ▸ List.mem_of_getElem? ha)
      fr := fun b o hb' nd ht => by
        refine (S.fr b o hb' nd ht).upd ?_
        rintro rfl
        by_cases hi : i < en.m0.length
        · apply nd
          have e0 := S.m0 i _ (List.getElem?_eq_getElem hi)
          rw [ha] at e0
          have e1 : en.m0[i]? = some b := by
            rw [List.getElem?_eq_getElem hi]
            exact e0.symm
          rw [S.sb] at hb
          have : (en.m0.drop en.b)[i - en.b]? = some b := by
            rw [List.getElem?_drop, show en.b + (i - en.b) = i by omega]
            exact e1
          exact List.mem_of_getElem? this
        · have := S.mn i b (by omega) ha
          rw [this] at hb'
          cases hb'
      tb := tb
      pr := fun j hj => by
        show (st.sg.set i c')[j]? = _
        rw [set_ne (by rw [S.sb] at hb; omega)]
        exact S.pr j hj
      tt := tt }
end
end Ab
namespace Ab
open PySem PySem.Spec PyProof.Rows L2

structure Ex where
  cls : Str
  fs : List (Str × V)
inductive Out (α : Type) where
  | val (a : α) (s : AS) | exc (e : Ex) (s : AS) | bad
def Out.bind {α β : Type} : Out α → (α → AS → Out β) → Out β
  | .val a s, k => k a s
  | .exc e s, _ => .exc e s
  | .bad, _ => .bad
/-- an operand: a value, or what a name holds -/
inductive Opd where
  | v (d : D) | sl (i : Nat)
abbrev EM := AS → Out R
abbrev OM := AS → Out Opd
abbrev TM := AS → Out Bool
abbrev AM := AS → Out (List D)

/-- what is wished of exceptions; the tables -/
structure WT where
  w : WX
  T : List (Addr × Str)
structure Ctx (X : Cx) (W : WT) : Prop where
  calm : X.calm = true
  nd : X.N.Nodup
  tk : Takes X W.w
  po : PassesOwn (model X.prog X.w) X.A X.env X.xe
  hu : X.A.units + 64 < cLine

def ExIs (K : PySem.W.Frag) (H : Hp) (e : Ex) (cls : Value) (d : Option Addr) : Prop := cls = .ref (He.ga K e.cls) ∧ ∃ dx, d = some dx ∧ H dx = some (.xd e.fs)

def OutP {α : Type} (K : PySem.W.Frag) (en : En) (W : WT) (g : Gh) (σ : L2.St) (P : α → AS → Gh → Hp → Prop) : Out α → Prop
  | .val a st' => ∀ g' H', Le g g' → Sim K en g' st' σ H' → P a st' g' H'
  | .exc e st' => ∀ g' H' cls d, Le g g' → Sim K en g' st' σ H' → ExIs K H' e cls d → W.w cls d σ H'
  | .bad => False
section
variable {K : PySem.W.Frag} {en : En} {W : WT} {g : Gh} {σ : L2.St}
theorem OutP.mono {α : Type} {g' : Gh} {P P' : α → AS → Gh → Hp → Prop} {o : Out α} (h : OutP K en W g σ P o) (l : Le g g') (hp : ∀ a st g2 H, Le g' g2 → Sim K en g2 st σ H → P a st g2 H → P' a st g2 H) : OutP K en W g' σ P' o := by
  cases o with
  | val a s => exact fun g2 H2 l2 S => hp _ _ _ _ l2 S (h g2 H2 (l.trans l2) S)
  | exc e s => exact fun g2 H2 c d l2 S => h g2 H2 c d (l.trans l2) S
  | bad => exact h
theorem OutP.bind {α β : Type} {P : β → AS → Gh → Hp → Prop} {o : Out α} {k : α → AS → Out β} (h : OutP K en W g σ P (o.bind k)) : OutP K en W g σ (fun a st g' H => OutP K en W g' σ P (k a st)) o := by
  cases o with
  | val a s => exact fun g2 H2 l2 S => OutP.mono h l2 fun _ _ _ _ _ _ x => x
  | exc e s => exact h
  | bad => exact h
end

section
variable {X : Cx}
def bestE (X : Cx) (e : Expr) : TE := fun σ H Q => ∀ pins s, Inv X pins σ H s → wpAny (model X.prog X.w) X.A (eval e X.env) (EP X pins σ Q) X.xe s
def bestT (X : Cx) (e : Expr) : TT := fun σ H Q => ∀ pins s, Inv X pins σ H s → wpAny (model X.prog X.w) X.A (isTrue e X.env (eval e X.env)) (TP X pins σ Q) X.xe s
def bestW (X : Cx) (e : Expr) : TT := fun σ H Q => ∀ whole pins s, Inv X pins σ H s → wpAny (model X.prog X.w) X.A (isTrue e X.env whole) (TP X pins σ Q) X.xe s
def bestA (X : Cx) (es : List Expr) : TA := fun σ H Q => ∀ pos pins s, Inv X pins σ H s → wpAny (model X.prog X.w) X.A (spliced (backTo pos (starEach es X.env))) (AP X pins σ Q) X.xe s
theorem pbE (e : Expr) : PE X e (bestE X e) := ⟨fun pins s σ H Q I h => h pins s I⟩
theorem pbT (e : Expr) : PT X e (bestT X e) := ⟨fun pins s σ H Q I h => h pins s I⟩
theorem pbW (e : Expr) : PW X e (bestW X e) := ⟨fun w pins s σ H Q I h => h w pins s I⟩
theorem pbA (es : List Expr) : PA X es (bestA X es) := ⟨fun pos pins s σ H Q I h => h pos pins s I⟩
theorem be {e : Expr} {t : TE} {σ : L2.St} {H : Hp} {Q : VK} (h : PE X e t) (q : t σ H Q) : bestE X e σ H Q := fun pins s I => h.run pins s σ H Q I q
theorem bt {e : Expr} {t : TT} {σ : L2.St} {H : Hp} {Q : Bool → Hp → Prop} (h : PT X e t) (q : t σ H Q) : bestT X e σ H Q := fun pins s I => h.run pins s σ H Q I q
theorem bw {e : Expr} {t : TT} {σ : L2.St} {H : Hp} {Q : Bool → Hp → Prop} (h : PW X e t) (q : t σ H Q) : bestW X e σ H Q := fun w pins s I => h.run w pins s σ H Q I q
theorem ba {es : List Expr} {t : TA} {σ : L2.St} {H : Hp} {Q : List V → Hp → Prop} (h : PA X es t) (q : t σ H Q) : bestA X es σ H Q := fun pos pins s I => h.run pos pins s σ H Q I q
end

/-- an operand's value -/
def OpdIs (K : PySem.W.Frag) (g : Gh) (σ : L2.St) : Opd → V → Prop
  | .v d, v => Rep K g d v
  | .sl i, v => σ[i]? = some (some v)
theorem OpdIs.le {K : PySem.W.Frag} {g g' : Gh} {σ : L2.St} (l : Le g g') : ∀ {o : Opd} {v : V}, OpdIs K g σ o v → OpdIs K g' σ o v
  | .v _, _, h => Rep.le l h
  | .sl _, _, h => h
def DenE (X : Cx) (W : WT) (e : Expr) (m : EM) : Prop := ∀ (en : En) (g : Gh) (st : AS) (σ : L2.St) (H : Hp) (Q : VK), en.T = W.T → Sim X.K en g st σ H →
  OutP X.K en W g σ (fun r st' g' H' => ∀ v, RR X.K en g' st' σ H' r v → Q v H') (m st) → bestE X e σ H Q
def DenO (X : Cx) (W : WT) (e : Expr) (m : OM) : Prop := ∀ (en : En) (g : Gh) (st : AS) (σ : L2.St) (H : Hp) (Q : VK), en.T = W.T → Sim X.K en g st σ H →
  OutP X.K en W g σ (fun o st' g' H' => ∀ v, OpdIs X.K g' σ o v → Q v H') (m st) → bestE X e σ H Q
def DenT (X : Cx) (W : WT) (e : Expr) (m : TM) : Prop := ∀ (en : En) (g : Gh) (st : AS) (σ : L2.St) (H : Hp) (Q : Bool → Hp → Prop), en.T = W.T → Sim X.K en g st σ H →
  OutP X.K en W g σ (fun b st' g' H' => Q b H') (m st) → bestT X e σ H Q
def DenW (X : Cx) (W : WT) (e : Expr) (m : TM) : Prop := ∀ (en : En) (g : Gh) (st : AS) (σ : L2.St) (H : Hp) (Q : Bool → Hp → Prop), en.T = W.T → Sim X.K en g st σ H →
  OutP X.K en W g σ (fun b st' g' H' => Q b H') (m st) → bestW X e σ H Q
/-- arguments: values, known from now on -/
def DenA (X : Cx) (W : WT) (es : List Expr) (m : AM) : Prop := ∀ (en : En) (g : Gh) (st : AS) (σ : L2.St) (H : Hp) (Q : List V → Hp → Prop), en.T = W.T → Sim X.K en g st σ H →
  OutP X.K en W g σ (fun ds st' g' H' => ∀ vs, Reps X.K g' ds vs → Q vs H') (m st) → bestA X es σ H Q

/-- what is read: the thing itself, off a name or a cell -/
def AS.view (st : AS) : D → Option D
  | .ref i => (st.sg[i]?).bind ofCell
  | d => some d
def AS.res (st : AS) : Opd → Option D
  | .v d => st.view d
  | .sl i => match st.sl[i]? with
    | some (some r) => st.view r.d
    | _ => none
/-- the thing as it stands -/
def Vw (K : PySem.W.Frag) (g : Gh) (H : Hp) : D → V → Prop
  | .lst ds, v => ∃ a vs, v = .ref a ∧ H a = some (.lst vs) ∧ Reps K g ds vs
  | .dk ks ds, v => ∃ a vs, v = .ref a ∧ ks.length = vs.length ∧ Rd H a (.dK (ks.zip vs)) ∧ Reps K g ds vs
  | .dt ks ds, v => ∃ a vs, v = .ref a ∧ ks.length = vs.length ∧ Rd H a (.dT (ks.zip vs)) ∧ Reps K g ds vs
  | .ref _, _ => False
  | .scr ns, v => ∃ a, v = .ref a ∧ SqL K H a (ns.map V.int)
  | .tup ds, v => ∃ a vs, v = .ref a ∧ SqT K H a vs ∧ TupAt K g a vs ∧ Reps K g ds vs
  | d, v => Rep K g d v
section
variable {K : PySem.W.Frag} {en : En} {g : Gh} {st : AS} {σ : L2.St} {H : Hp}
theorem Std.rd {a : Addr} {u : HO} (h : Std g H a u) : Rd H a u := h.imp id fun ⟨_, _, o, e⟩ => ⟨o, e⟩
theorem Std.at_ {a : Addr} {u : HO} (h : Std g H a u) (n : isDk u = false) : H a = some u := h.elim id fun ⟨_, e, _⟩ => by rw [n] at e; cases e
theorem Sim.tupAt (S : Sim K en g st σ H) {a : Addr} {vs : List V} (h : TupAt K g a vs) : SqT K H a vs := h.elim (fun k => .inl (.inl ((S.kn _ _ k).at_ rfl))) fun k => .inr k
theorem Sim.scrAt (S : Sim K en g st σ H) {a : Addr} {vs : List V} (h : ScrAt K g a vs) : SqL K H a vs := by
  rcases h with k | ⟨o, k⟩ | k
  · exact .inl (.inl ((S.kn _ _ k).at_ rfl))
  · exact .inl (.inr ⟨o, (S.kn _ _ k).at_ rfl⟩)
  · exact .inr k
theorem Vw.le {g' : Gh} (l : Le g g') : ∀ {d : D} {v : V}, Vw K g H d v → Vw K g' H d v := fun {d v} h => by
  cases d <;> simp only [Vw] at h ⊢
  · exact h.le l
  · exact h.le l
  · exact h.le l
  · exact h.le l
  · obtain ⟨a, vs, e, k, t, r⟩ := h; exact ⟨a, vs, e, k, t.imp (l.kn _ _) id, r.le l⟩
  · obtain ⟨a, vs, e, k, r⟩ := h; exact ⟨a, vs, e, k, r.le l⟩
  · obtain ⟨a, vs, e, k, r, z⟩ := h; exact ⟨a, vs, e, k, r, z.le l⟩
  · obtain ⟨a, vs, e, k, r, z⟩ := h; exact ⟨a, vs, e, k, r, z.le l⟩
  · exact h
/-- a known value is seen -/
theorem Sim.vw (S : Sim K en g st σ H) {d d' : D} {v : V} (h : Rep K g d v) (e : st.view d = some d') : Vw K g H d' v := by
  cases d with
  | ref i =>
    simp only [Rep] at h
    obtain ⟨a, rfl, hm⟩ := h
    simp only [AS.view] at e
    obtain ⟨c, hc, hd⟩ := Option.bind_eq_some_iff.mp e
    obtain ⟨a', u, e1, e2, e3⟩ := S.ce i c hc
    rw [hm] at e1
    cases e1
    cases c <;> simp only [ofCell, Option.some.injEq, reduceCtorEq] at hd <;> subst hd <;> simp only [Vw]
    · obtain ⟨vs, rfl, r⟩ := e3
      exact ⟨a, vs, rfl, e2, r⟩
    · obtain ⟨vs, rfl, l, r⟩ := e3
      exact ⟨a, vs, rfl, l, .inl e2, r⟩
    · obtain ⟨vs, rfl, l, r⟩ := e3
      exact ⟨a, vs, rfl, l, .inl e2, r⟩
  | _ =>
    simp only [AS.view, Option.some.injEq] at e
    subst e
    first
    | exact h
    | (simp only [Rep] at h
       simp only [Vw]
       first
       | (obtain ⟨a, vs, e, k, r⟩ := h; exact ⟨a, vs, e, S.tupAt k, k, r⟩)
       | (obtain ⟨a, vs, e, k, r⟩ := h; exact ⟨a, vs, e, (S.kn _ _ k).at_ rfl, r⟩)
       | (obtain ⟨a, vs, e, l, k, r⟩ := h; exact ⟨a, vs, e, l, (S.kn _ _ k).rd, r⟩)
       | (obtain ⟨a, e, k⟩ := h; exact ⟨a, e, S.scrAt k⟩))
theorem vw_of_cell {d : D} {c : Cell} {a : Addr} {u : HO} (hc : toCell d = some c) (hu : CellIs K g c u) (k : H a = some u) : Vw K g H d (.ref a) := by
  cases d <;> simp only [toCell, Option.some.injEq, reduceCtorEq] at hc <;> subst hc <;> simp only [Vw]
  · obtain ⟨vs, rfl, r⟩ := hu
    exact ⟨a, vs, rfl, k, r⟩
  · obtain ⟨vs, rfl, l, r⟩ := hu
    exact ⟨a, vs, rfl, l, .inl k, r⟩
  · obtain ⟨vs, rfl, l, r⟩ := hu
    exact ⟨a, vs, rfl, l, .inl k, r⟩
theorem view_cell {st : AS} {d d' : D} {c : Cell} (hc : toCell d = some c) (e : st.view d = some d') : d' = d := by
  cases d <;> simp only [toCell, Option.some.injEq, reduceCtorEq] at hc <;> simp only [AS.view, Option.some.injEq] at e <;> exact e.symm
/-- .. off an operand -/
theorem Sim.opd (S : Sim K en g st σ H) {o : Opd} {d' : D} {v : V} (h : OpdIs K g σ o v) (e : st.res o = some d') : Vw K g H d' v := by
  cases o with
  | v d => exact S.vw h e
  | sl i =>
    have h : σ[i]? = some (some v) := h
    simp only [AS.res] at e
    split at e
    · rename_i r hr
      cases ho : r.own with
      | false =>
        obtain ⟨w, e1, e2⟩ := S.fz i r hr ho
        rw [h] at e1
        cases e1
        exact S.vw e2 e
      | true =>
        obtain ⟨a, c, u, e1, e2, e3, e4, _⟩ := S.ow i r hr ho
        rw [h] at e1
        cases e1
        rw [view_cell e2 e]
        exact vw_of_cell e2 e4 e3
    · cases e
theorem RR.fz {r : D} {v : V} (h : Rep K g r v) : RR K en g st σ H ⟨r, false⟩ v := .inl ⟨rfl, h⟩
end

section
variable {X : Cx} {W : WT}
def mC (d : D) : EM := fun st => .val ⟨d, false⟩ st
theorem denE_mk {e : Expr} {m : EM} (h : ∀ (en : En) (g : Gh) (st : AS) (σ : L2.St) (H : Hp) (Q : VK), en.T = W.T → Sim X.K en g st σ H →
  OutP X.K en W g σ (fun r st' g' H' => ∀ v, RR X.K en g' st' σ H' r v → Q v H') (m st) → bestE X e σ H Q) : DenE X W e m := h
theorem de_int {i : Int} {j : Nat} {pos : Pos} : DenE X W (.Constant (.int i) j pos) (mC (.int i)) := fun en g st σ H Q hT S h => be pe_int (h g H (Le.refl g) S _ (.inl ⟨rfl, by simp only [Rep]⟩))
theorem de_bl {b : Bool} {j : Nat} {pos : Pos} : DenE X W (.Constant (.bool b) j pos) (mC (.bl b)) := fun en g st σ H Q hT S h => be pe_bl (h g H (Le.refl g) S _ (.inl ⟨rfl, by simp only [Rep]⟩))
theorem de_non {j : Nat} {pos : Pos} : DenE X W (.Constant .none j pos) (mC .non) := fun en g st σ H Q hT S h => be pe_non (h g H (Le.refl g) S _ (.inl ⟨rfl, by simp only [Rep]⟩))
theorem de_str {x : Str} {j : Nat} {pos : Pos} : DenE X W (.Constant (.str x) j pos) (mC (.str x)) := fun en g st σ H Q hT S h => be pe_str (h g H (Le.refl g) S _ (.inl ⟨rfl, by simp only [Rep]⟩))
/-- a name's value -/
def mVar (i : Nat) : EM := fun st => match st.sl[i]? with
  | some (some r) => if r.own then .val ⟨r.d, false⟩ (st.put i (some ⟨r.d, false⟩)) else .val r st
  | _ => .bad
def oVar (i : Nat) : OM := fun st => match st.sl[i]? with
  | some (some _) => .val (.sl i) st
  | _ => .bad
/-- a name's value, the name given up (return) -/
def mMove (i : Nat) : EM := fun st => match st.sl[i]? with
  | some (some r) => if r.own then .val r (st.put i none) else .val r st
  | _ => .bad
theorem Sim.has {K : PySem.W.Frag} {en : En} {g : Gh} {st : AS} {σ : L2.St} {H : Hp} (S : Sim K en g st σ H) {i : Nat} {r : R} (h : st.sl[i]? = some (some r)) : ∃ v, σ[i]? = some (some v) := by
  cases ho : r.own with
  | false =>
    obtain ⟨v, e, _⟩ := S.fz i r h ho
    exact ⟨v, e⟩
  | true =>
    obtain ⟨a, _, _, e, _⟩ := S.ow i r h ho
    exact ⟨_, e⟩
theorem de_var {i : Nat} {x : Str} {pos : Pos} (he : PE X (.Name x pos) (tVar i)) : DenE X W (.Name x pos) (mVar i) := by
  intro en g st σ H Q hT S h
  unfold mVar at h
  split at h
  · rename_i r hr
    split at h
    · rename_i ho
      obtain ⟨a, u, e, l, hR, S'⟩ := S.seal hr ho
      exact be he ⟨_, e, h _ H l S' _ (.inl ⟨rfl, hR⟩)⟩
    · rename_i ho
      obtain ⟨v, e, hR⟩ := S.fz i r hr (by simpa using ho)
      exact be he ⟨v, e, h g H (Le.refl g) S _ (.inl ⟨by simpa using ho, hR⟩)⟩
  · exact h.elim
theorem do_var {i : Nat} {x : Str} {pos : Pos} (he : PE X (.Name x pos) (tVar i)) : DenO X W (.Name x pos) (oVar i) := by
  intro en g st σ H Q hT S h
  unfold oVar at h
  split at h
  · rename_i r hr
    obtain ⟨v, e⟩ := S.has hr
    exact be he ⟨v, e, h g H (Le.refl g) S _ e⟩
  · exact h.elim
theorem de_move {i : Nat} {x : Str} {pos : Pos} (he : PE X (.Name x pos) (tVar i)) : DenE X W (.Name x pos) (mMove i) := by
  intro en g st σ H Q hT S h
  unfold mMove at h
  split at h
  · rename_i r hr
    split at h
    · rename_i ho
      obtain ⟨a, c, u, e1, e2, e3, e4, e5, e6, e7, e8⟩ := S.ow i r hr ho
      have S1 := S.wipe i σ[i]?.join
      have es : σ.set i σ[i]?.join = σ := by
        rw [e1]
        exact set_self e1
      rw [es] at S1
      refine be he ⟨_, e1, h g H (Le.refl g) S1 _ (.inr ⟨ho, a, c, u, rfl, e2, e3, e4, e5, e6, e7, e8, fun j q hj oj z => ?_⟩)⟩
      rcases get_set (show (st.sl.set i none)[j]? = some (some q) from hj) with ⟨_, y2⟩ | ⟨ne, hj⟩
      · cases y2
      · exact ne (S.ud j i q r a hj hr oj ho z e1)
    · rename_i ho
      obtain ⟨v, e, hR⟩ := S.fz i r hr (by simpa using ho)
      exact be he ⟨v, e, h g H (Le.refl g) S _ (.inl ⟨by simpa using ho, hR⟩)⟩
  · exact h.elim
/-- any expression as an operand -/
def oE (m : EM) : OM := fun st => (m st).bind fun r st1 => .val (.v r.d) st1
theorem do_E {e : Expr} {m : EM} (h : DenE X W e m) : DenO X W e (oE m) := by
  intro en g st σ H Q hT S q
  refine h en g st σ H Q hT S (q.bind.mono (Le.refl g) fun r st' g' H' l S' p => ?_)
  intro v hr
  obtain ⟨g2, l2, S2, hR⟩ := hr.seal S'
  exact p g2 H' l2 S2 v hR
/-- a value for good -/
theorem DenE.sealed {e : Expr} {m : EM} (h : DenE X W e m) {en : En} {g : Gh} {st : AS} {σ : L2.St} {H : Hp} {Q : VK} (hT : en.T = W.T) (S : Sim X.K en g st σ H)
    (q : OutP X.K en W g σ (fun r st' g' H' => ∀ v, Rep X.K g' r.d v → Q v H') (m st)) : bestE X e σ H Q := by
  refine h en g st σ H Q hT S ?_
  generalize m st = o at q
  cases o with
  | val r st' =>
    intro g' H' l S' v hr
    obtain ⟨g2, l2, S2, hR⟩ := hr.seal S'
    exact q g2 H' (l.trans l2) S2 v hR
  | exc e st' => exact q
  | bad => exact q
def aNil : AM := fun st => .val [] st
def aCons (m : EM) (r : AM) : AM := fun st => (m st).bind fun x st1 => (r st1).bind fun xs st2 => .val (x.d :: xs) st2
theorem da_nil : DenA X W [] aNil := fun en g st σ H Q hT S h => ba pa_nil (h g H (Le.refl g) S [] Reps.nil)
theorem da_cons {e : Expr} {es : List Expr} {m : EM} {r : AM} (h : DenE X W e m) (t : DenA X W es r) (hs : starEach (e :: es) X.env = (false, eval e X.env) :: starEach es X.env := by rfl) : DenA X W (e :: es) (aCons m r) := by
  intro en g st σ H Q hT S q
  refine ba (pa_cons (pbE e) (pbA es) hs) ?_
  refine h.sealed hT S (q.bind.mono (Le.refl g) fun x st1 g1 H1 l1 S1 q1 => ?_)
  intro v hv
  refine t en g1 st1 σ H1 _ hT S1 (q1.bind.mono (Le.refl g1) fun xs st2 g2 H2 l2 S2 q2 => ?_)
  intro vs hvs
  exact q2 g2 H2 (Le.refl g2) S2 _ (Reps.cons (hv.le l2) hvs)
/-- what a two-place operation does with what it sees -/
def OpV (X : Cx) (f : Value → Value → Sem Value) (F : D → D → Option R) : Prop := ∀ (en : En) (g : Gh) (st : AS) (σ : L2.St) (H : Hp) (x y : V) (dx dy : D) (r : R) (Q : VK), Sim X.K en g st σ H → Vw X.K g H dx x → Vw X.K g H dy y → F dx dy = some r →
  (∀ g' H' v, Le g g' → Sim X.K en g' st σ H' → RR X.K en g' st σ H' r v → Q v H') →
  ∀ (pins : List (Addr × Obj)) (s : Shared) (v u : Value), Inv X pins σ H s → RelV x v → RelV y u → wpAny (model X.prog X.w) X.A (f v u) (EP X pins σ Q) X.xe s
def bestR (X : Cx) (f : Value → Value → Sem Value) (σ : L2.St) : R2 := fun x y H Q => ∀ (pins : List (Addr × Obj)) (s : Shared) (v u : Value), Inv X pins σ H s → RelV x v → RelV y u → wpAny (model X.prog X.w) X.A (f v u) (EP X pins σ Q) X.xe s
def mBin (F : D → D → Option R) (a b : OM) : EM := fun st => (a st).bind fun oa st1 => (b st1).bind fun ob st2 =>
  match (st2.res oa).bind fun x => (st2.res ob).bind fun y => F x y with
  | some r => .val r st2
  | none => .bad
theorem bin_go {f : Value → Value → Sem Value} {F : D → D → Option R} {a b : Expr} {ma mb : OM} (ho : OpV X f F) (ha : DenO X W a ma) (hb : DenO X W b mb) {en : En} {g : Gh} {st : AS} {σ : L2.St} {H : Hp} {Q : VK} (hT : en.T = W.T) (S : Sim X.K en g st σ H)
    (q : OutP X.K en W g σ (fun r st' g' H' => ∀ v, RR X.K en g' st' σ H' r v → Q v H') (mBin F ma mb st)) : bestE X a σ H fun x H1 => bestE X b σ H1 fun y H2 => bestR X f σ x y H2 Q := by
  refine ha en g st σ H _ hT S (q.bind.mono (Le.refl g) fun oa st1 g1 H1 l1 S1 q1 => ?_)
  intro x hx
  refine hb en g1 st1 σ H1 _ hT S1 (q1.bind.mono (Le.refl g1) fun ob st2 g2 H2 l2 S2 q2 => ?_)
  intro y hy pins s v u I rx ry
  split at q2
  · rename_i r hr
    obtain ⟨dx, ex, hr⟩ := Option.bind_eq_some_iff.mp hr
    obtain ⟨dy, ey, hr⟩ := Option.bind_eq_some_iff.mp hr
    exact ho en g2 st2 σ H2 x y dx dy r Q S2 (S2.opd (hx.le l2) ex) (S2.opd hy ey) hr (fun g' H' v l S' h => q2 g' H' l S' v h) pins s v u I rx ry
  · exact q2.elim
theorem de_bin {op : Operator} {F : D → D → Option R} {a b : Expr} {ma mb : OM} {pos : Pos} (ho : OpV X (binaryOp op) F) (ha : DenO X W a ma) (hb : DenO X W b mb) : DenE X W (.BinOp a op b pos) (mBin F ma mb) := by
  intro en g st σ H Q hT S q pins s I
  refine wpAny_BinOp (bin (pbE a) (pbE b) (R := fun x y H2 => bestR X (binaryOp op) σ x y H2 Q) I (bin_go ho ha hb hT S q) fun v u s2 x y H2 I2 rx ry h => h pins s2 v u I2 rx ry)
theorem de_cmp {op : CmpOp} {F : D → D → Option R} {a b : Expr} {ma mb : OM} {pos : Pos} (ho : OpV X (compareOp op) F) (ha : DenO X W a ma) (hb : DenO X W b mb) (hm : behindInMarks op b = false) : DenE X W (.Compare a [op] [b] pos) (mBin F ma mb) := by
  intro en g st σ H Q hT S q pins s I
  refine wpAny_Compare1 (binT (pbE a) (pbE b) (R := fun x y H2 => bestR X (compareOp op) σ x y H2 Q) I (bin_go ho ha hb hT S q) fun v u s2 x y H2 I2 rx ry h => h pins s2 v u I2 rx ry) hm
/-- a value's own rule, from the layer's -/
theorem opv_of {f : Value → Value → Sem Value} {r : R2} (ho : OpR X f r) {σ : L2.St} {H : Hp} {x y : V} {Q : VK} (h : r x y H Q) : ∀ (pins : List (Addr × Obj)) (s : Shared) (v u : Value), Inv X pins σ H s → RelV x v → RelV y u → wpAny (model X.prog X.w) X.A (f v u) (EP X pins σ Q) X.xe s :=
  fun pins s v u I rx ry => ho pins s σ H x y v u Q I rx ry h
def LIM : Nat := 100000
theorem lim {n : Nat} (h : n ≤ LIM) : n ≤ sizeLine := by
  unfold LIM at h
  rw [sizeLine_eq]
  omega
theorem limlt {n : Nat} (h : n < LIM) : n < sizeLine := by
  unfold LIM at h
  rw [sizeLine_eq]
  omega
abbrev rv (d : D) : Option R := some ⟨d, false⟩
def addD : D → D → Option R
  | .int i, .int j => rv (.int (i + j))
  | .str x, .str y => if x.length + y.length ≤ LIM then rv (.str (x ++ y)) else none
  | .lst xs, .lst ys => if xs.length + ys.length ≤ LIM then some ⟨.lst (xs ++ ys), true⟩ else none
  | .tup xs, .tup ys => if xs.length + ys.length ≤ LIM ∧ xs ≠ [] then rv (.tup (xs ++ ys)) else none
  | _, _ => none
theorem Sim.newOwn {K : PySem.W.Frag} {en : En} {g : Gh} {st : AS} {σ : L2.St} {H : Hp} (S : Sim K en g st σ H) {d : D} {c : Cell} {u : HO} {p : Addr} (hc : toCell d = some c) (n : H p = none) (hu : CellIs K g c u) : RR K en g st σ (upd H p u) ⟨d, true⟩ (.ref p) :=
  .inr ⟨rfl, p, c, u, rfl, hc, upd_same, hu, S.fresh n⟩
end
end Ab
namespace Ab
open PySem PySem.Spec PyProof.Rows L2

mutual
def toPy : D → Option PyData
  | .non => some .none
  | .bl b => some (.bool b)
  | .int i => some (.int i)
  | .str x => some (.str x)
  | .tup xs => (toPys xs).map .tuple
  | .lst xs => (toPys xs).map .list
  | .dk _ _ => none
  | .dt _ _ => none
  | .scr _ => none
  | .ref _ => none
def toPys : List D → Option (List PyData)
  | [] => some []
  | d :: ds => match toPy d, toPys ds with
    | some p, some ps => some (p :: ps)
    | _, _ => none
end
def okD (d : D) : Bool := match toPy d with
  | some p => SeqAt.shaped p
  | none => false
def eqD (x y : D) : Bool := match toPy x, toPy y with
  | some p, some q => PyData.eqv p q
  | _, _ => false
section
variable {K : PySem.W.Frag} {en : En} {g : Gh} {st : AS} {σ : L2.St} {H : Hp}
mutual
theorem dp_of (S : Sim K en g st σ H) : ∀ (d : D) (p : PyData) (v : V), toPy d = some p → Rep K g d v → Dp K H v p
  | .non, p, v, e, h => by
    simp only [toPy, Option.some.injEq] at e
    simp only [Rep] at h
    subst e h
    exact .non
  | .bl b, p, v, e, h => by
    simp only [toPy, Option.some.injEq] at e
    simp only [Rep] at h
    subst e h
    exact .bl b
  | .int i, p, v, e, h => by
    simp only [toPy, Option.some.injEq] at e
    simp only [Rep] at h
    subst e h
    exact .int i
  | .str x, p, v, e, h => by
    simp only [toPy, Option.some.injEq] at e
    simp only [Rep] at h
    subst e h
    exact .str x
  | .tup xs, p, v, e, h => by
    simp only [toPy, Option.map_eq_some_iff] at e
    obtain ⟨ps, e1, rfl⟩ := e
    simp only [Rep] at h
    obtain ⟨a, vs, rfl, t, r⟩ := h
    exact .tup (S.tupAt t) (dps_of S xs ps vs e1 r)
  | .lst xs, p, v, e, h => by
    simp only [toPy, Option.map_eq_some_iff] at e
    obtain ⟨ps, e1, rfl⟩ := e
    simp only [Rep] at h
    obtain ⟨a, vs, rfl, t, r⟩ := h
    exact .lst (.inl (.inl ((S.kn _ _ t).at_ rfl))) (dps_of S xs ps vs e1 r)
  | .dk _ _, p, v, e, h => by simp [toPy] at e
  | .dt _ _, p, v, e, h => by simp [toPy] at e
  | .scr _, p, v, e, h => by simp [toPy] at e
  | .ref _, p, v, e, h => by simp [toPy] at e
theorem dps_of (S : Sim K en g st σ H) : ∀ (ds : List D) (ps : List PyData) (vs : List V), toPys ds = some ps → Reps K g ds vs → DpAll K H vs ps
  | [], ps, vs, e, h => by
    simp only [toPys, Option.some.injEq] at e
    simp only [Reps] at h
    subst e h
    exact .nil
  | d :: ds, ps, vs, e, h => by
    simp only [toPys] at e
    simp only [Reps] at h
    obtain ⟨v, r, rfl, h1, h2⟩ := h
    split at e
    · rename_i p q e1 e2
      simp only [Option.some.injEq] at e
      subst e
      exact .cons (dp_of S d p v e1 h1) (dps_of S ds q r e2 h2)
    · cases e
end
theorem dp_vw (S : Sim K en g st σ H) {d : D} {p : PyData} {v : V} (e : toPy d = some p) (h : Vw K g H d v) : Dp K H v p := by
  cases d <;> simp only [toPy, reduceCtorEq] at e <;> simp only [Vw] at h
  · exact dp_of S .non p v (by simpa [toPy] using e) h
  · exact dp_of S (.bl _) p v (by simpa [toPy] using e) h
  · exact dp_of S (.int _) p v (by simpa [toPy] using e) h
  · exact dp_of S (.str _) p v (by simpa [toPy] using e) h
  · rw [Option.map_eq_some_iff] at e
    obtain ⟨ps, e1, rfl⟩ := e
    obtain ⟨a, vs, rfl, t, _, r⟩ := h
    exact .tup t (dps_of S _ ps vs e1 r)
  · rw [Option.map_eq_some_iff] at e
    obtain ⟨ps, e1, rfl⟩ := e
    obtain ⟨a, vs, rfl, t, r⟩ := h
    exact .lst (.inl (.inl t)) (dps_of S _ ps vs e1 r)
theorem RR.newTup (S : Sim K en g st σ H) {ds : List D} {vs : List V} {p : Addr} (n : H p = none) (h : Reps K g ds vs) : ∃ g', Le g g' ∧ Sim K en g' st σ (upd H p (.tup vs)) ∧ RR K en g' st σ (upd H p (.tup vs)) ⟨.tup ds, false⟩ (.ref p) :=
  ⟨g.add p (.tup vs), Le.add _ _ _, S.newKn n, .inl ⟨rfl, by simp only [Rep]; exact ⟨p, vs, rfl, .inl add_kn, h.le (Le.add _ _ _)⟩⟩⟩
end
section
variable {X : Cx} {W : WT}
theorem rr_int {K : PySem.W.Frag} {en : En} {g : Gh} {st : AS} {σ : L2.St} {H : Hp} {i : Int} : RR K en g st σ H ⟨.int i, false⟩ (.int i) := .inl ⟨rfl, by simp only [Rep]⟩
theorem rr_bl {K : PySem.W.Frag} {en : En} {g : Gh} {st : AS} {σ : L2.St} {H : Hp} {i : Bool} : RR K en g st σ H ⟨.bl i, false⟩ (.bl i) := .inl ⟨rfl, by simp only [Rep]⟩
theorem rr_str {K : PySem.W.Frag} {en : En} {g : Gh} {st : AS} {σ : L2.St} {H : Hp} {i : Str} : RR K en g st σ H ⟨.str i, false⟩ (.str i) := .inl ⟨rfl, by simp only [Rep]⟩
theorem rr_non {K : PySem.W.Frag} {en : En} {g : Gh} {st : AS} {σ : L2.St} {H : Hp} : RR K en g st σ H ⟨.non, false⟩ .non := .inl ⟨rfl, by simp only [Rep]⟩
/-- ints under a condition -/
def intF (C : Int → Int → Bool) (f : Int → Int → D) : D → D → Option R
  | .int i, .int j => if C i j then rv (f i j) else none
  | _, _ => none
theorem opv_int {fn : Value → Value → Sem Value} {C : Int → Int → Bool} {f : Int → Int → Int} (h : ∀ (H : Hp) (i j : Int) (Q : VK) (σ : L2.St), C i j = true → Q (.int (f i j)) H → ∀ (pins : List (Addr × Obj)) (s : Shared) (v u : Value), Inv X pins σ H s → RelV (.int i) v → RelV (.int j) u →
    wpAny (model X.prog X.w) X.A (fn v u) (EP X pins σ Q) X.xe s) : OpV X fn (intF C fun i j => .int (f i j)) := by
  intro en g st σ H x y dx dy r Q S hx hy hr q
  unfold intF at hr
  split at hr
  · split at hr
    · rename_i i j hc
      cases hr
      simp only [Vw, Rep] at hx hy
      subst hx hy
      exact h H i j Q σ hc (q g H _ (Le.refl g) S rr_int)
    · cases hr
  · cases hr
theorem opv_bool {fn : Value → Value → Sem Value} {C : Int → Int → Bool} {f : Int → Int → Bool} (h : ∀ (H : Hp) (i j : Int) (Q : VK) (σ : L2.St), C i j = true → Q (.bl (f i j)) H → ∀ (pins : List (Addr × Obj)) (s : Shared) (v u : Value), Inv X pins σ H s → RelV (.int i) v → RelV (.int j) u →
    wpAny (model X.prog X.w) X.A (fn v u) (EP X pins σ Q) X.xe s) : OpV X fn (intF C fun i j => .bl (f i j)) := by
  intro en g st σ H x y dx dy r Q S hx hy hr q
  unfold intF at hr
  split at hr
  · split at hr
    · rename_i i j hc
      cases hr
      simp only [Vw, Rep] at hx hy
      subst hx hy
      exact h H i j Q σ hc (q g H _ (Le.refl g) S rr_bl)
    · cases hr
  · cases hr
abbrev anyI : Int → Int → Bool := fun _ _ => true
abbrev subD : D → D → Option R := intF anyI fun i j => .int (i - j)
def mulOk (i j : Int) : Bool := decide (i.natAbs < 2 ^ 64) || decide (j.natAbs < 2 ^ 64) || decide (i.natAbs.log2 + j.natAbs.log2 < 100000)
def divOk (_ j : Int) : Bool := decide (0 < j) && decide (j.natAbs.log2 < 9000)
def modOk (_ j : Int) : Bool := decide (0 < j)
def powOk (i j : Int) : Bool := decide (0 ≤ j) && decide (j ≤ 1000000) && decide (i.natAbs < 2 ^ 64)
abbrev fdivD : D → D → Option R := intF divOk fun i j => .int (i / j)
abbrev modD : D → D → Option R := intF modOk fun i j => .int (i % j)
abbrev powD : D → D → Option R := intF powOk fun i j => .int (i ^ j.toNat)
abbrev ltD : D → D → Option R := intF anyI fun i j => .bl (decide (i < j))
abbrev leD : D → D → Option R := intF anyI fun i j => .bl (decide (i ≤ j))
abbrev gtD : D → D → Option R := intF anyI fun i j => .bl (decide (j < i))
abbrev geD : D → D → Option R := intF anyI fun i j => .bl (decide (j ≤ i))
theorem v_sub : OpV X (binaryOp .Sub) subD := opv_int fun H i j Q σ _ q => opv_of op_sub ⟨i, j, rfl, rfl, q⟩
theorem v_fdiv : OpV X (binaryOp .FloorDiv) fdivD := opv_int fun H i j Q σ c q => opv_of op_fdivW ⟨i, j, rfl, rfl, by
  simp only [divOk, Bool.and_eq_true, decide_eq_true_eq] at c
  exact c, q⟩
theorem v_mod : OpV X (binaryOp .Mod) modD := opv_int fun H i j Q σ c q => opv_of op_mod ⟨i, j, rfl, rfl, by
  simp only [modOk, decide_eq_true_eq] at c
  exact c, q⟩
theorem v_pow : OpV X (binaryOp .Pow) powD := opv_int fun H i j Q σ c q => opv_of op_pow ⟨i, j, rfl, rfl, by
  simp only [powOk, Bool.and_eq_true, decide_eq_true_eq] at c
  exact ⟨c.1.1, c.1.2, c.2⟩, q⟩
theorem v_lt : OpV X (compareOp .Lt) ltD := opv_bool fun H i j Q σ _ q => opv_of op_lt ⟨i, j, rfl, rfl, q⟩
theorem v_le : OpV X (compareOp .LtE) leD := opv_bool fun H i j Q σ _ q => opv_of op_le ⟨i, j, rfl, rfl, q⟩
theorem v_gt : OpV X (compareOp .Gt) gtD := opv_bool fun H i j Q σ _ q => opv_of op_gt ⟨i, j, rfl, rfl, q⟩
theorem v_ge : OpV X (compareOp .GtE) geD := opv_bool fun H i j Q σ _ q => opv_of op_ge ⟨i, j, rfl, rfl, q⟩
theorem mul_cond {i j : Int} (c : mulOk i j = true) : CMul i j ∨ CMulW i j := by
  simp only [mulOk, Bool.or_eq_true, decide_eq_true_eq] at c
  rcases c with (c | c) | c
  · exact .inl (.inl ⟨by omega, by omega⟩)
  · exact .inl (.inr ⟨by omega, by omega⟩)
  · refine .inr ?_
    unfold CMulW
    omega
def mulD : D → D → Option R
  | .int i, .int j => if mulOk i j then rv (.int (i * j)) else none
  | .lst xs, .int k => if decide (0 ≤ k) && decide (k ≤ LIM) && decide (xs.length * k.toNat ≤ LIM) then some ⟨.lst (List.replicate k.toNat xs).flatten, true⟩ else none
  | _, _ => none
theorem Reps.rep {K : PySem.W.Frag} {g : Gh} {ds : List D} {vs : List V} (h : Reps K g ds vs) : ∀ k : Nat, Reps K g (List.replicate k ds).flatten (List.replicate k vs).flatten
  | 0 => Reps.nil
  | k + 1 => by
    rw [List.replicate_succ, List.replicate_succ, List.flatten_cons, List.flatten_cons]
    exact h.append (h.rep k)
theorem v_mul : OpV X (binaryOp .Mult) mulD := by
  intro en g st σ H x y dx dy r Q S hx hy hr q
  unfold mulD at hr
  split at hr
  · split at hr
    · rename_i i j hc
      cases hr
      simp only [Vw, Rep] at hx hy
      subst hx hy
      rcases mul_cond hc with c | c
      · exact opv_of op_mul ⟨i, j, rfl, rfl, c, q g H _ (Le.refl g) S rr_int⟩
      · exact opv_of op_mulW ⟨i, j, rfl, rfl, c, q g H _ (Le.refl g) S rr_int⟩
    · cases hr
  · split at hr
    · rename_i xs k hc
      cases hr
      simp only [Bool.and_eq_true, decide_eq_true_eq] at hc
      simp only [Vw] at hx
      obtain ⟨a, vs, rfl, ha, rp⟩ := hx
      simp only [Vw, Rep] at hy
      subst hy
      have h1 : k < 2 ^ 63 := by
        have := hc.1.2
        unfold LIM at this
        omega
      exact opv_of op_rep ⟨a, k, vs, rfl, rfl, ha, by omega, h1, lim (rp.length ▸ hc.2), fun p n => q g _ _ (Le.refl g) (S.new n) (S.newOwn (c := .lst _) rfl n ⟨_, rfl, rp.rep _⟩)⟩
    · cases hr
  · cases hr
theorem v_add : OpV X (binaryOp .Add) addD := by
  intro en g st σ H x y dx dy r Q S hx hy hr q
  unfold addD at hr
  split at hr
  · cases hr
    simp only [Vw, Rep] at hx hy
    subst hx hy
    exact opv_of op_add ⟨_, _, rfl, rfl, q g H _ (Le.refl g) S rr_int⟩
  · split at hr
    · rename_i hl
      cases hr
      simp only [Vw, Rep] at hx hy
      subst hx hy
      exact opv_of op_add_str ⟨_, _, rfl, rfl, lim hl, q g H _ (Le.refl g) S rr_str⟩
    · cases hr
  · split at hr
    · rename_i hl
      cases hr
      simp only [Vw] at hx hy
      obtain ⟨a, vs, rfl, ha, r1⟩ := hx
      obtain ⟨b, ws, rfl, hb, r2⟩ := hy
      exact opv_of op_cat ⟨a, b, vs, ws, rfl, rfl, ha, hb, lim (by rw [← r1.length, ← r2.length]; exact hl), fun p n => q g _ _ (Le.refl g) (S.new n) (S.newOwn (c := .lst _) rfl n ⟨_, rfl, r1.append r2⟩)⟩
    · cases hr
  · split at hr
    · rename_i xs ys hl
      cases hr
      simp only [Vw] at hx hy
      obtain ⟨a, vs, rfl, ha, ka, r1⟩ := hx
      obtain ⟨b, ws, rfl, hb, kb, r2⟩ := hy
      have hv : vs ≠ [] := fun z => by
        have := r1.length
        rw [z] at this
        exact hl.2 (List.length_eq_zero_iff.mp this)
      refine opv_of op_catT ⟨a, b, vs, ws, rfl, rfl, ha, hb, hv, lim (by rw [← r1.length, ← r2.length]; exact hl.1), fun e => ?_, fun e p n => ?_⟩
      · have e2 : ys = [] := by
          have := r2.length
          rw [e] at this
          exact List.length_eq_zero_iff.mp this
        subst e2
        rw [List.append_nil] at q
        exact q g H _ (Le.refl g) S (.inl ⟨rfl, by simp only [Rep]; exact ⟨a, vs, rfl, ka, r1⟩⟩)
      · obtain ⟨g', l, S', h⟩ := RR.newTup S n (r1.append r2)
        exact q g' _ _ l S' h
    · cases hr
  · cases hr
def eqF (x y : D) : Option R := if okD x && okD y then rv (.bl (eqD x y)) else none
def neF (x y : D) : Option R := if okD x && okD y then rv (.bl (!eqD x y)) else none
theorem okD_some {d : D} (h : okD d = true) : ∃ p, toPy d = some p ∧ SeqAt.shaped p = true := by
  unfold okD at h
  split at h
  · exact ⟨_, by assumption, h⟩
  · cases h
theorem v_eq (hu : X.A.units + 64 < cLine) : OpV X (compareOp .Eq) eqF := by
  intro en g st σ H x y dx dy r Q S hx hy hr q
  unfold eqF at hr
  split at hr
  · rename_i hc
    cases hr
    simp only [Bool.and_eq_true] at hc
    obtain ⟨p, e1, s1⟩ := okD_some hc.1
    obtain ⟨p', e2, s2⟩ := okD_some hc.2
    refine opv_of (op_eqD hu) ⟨p, p', dp_vw S e1 hx, dp_vw S e2 hy, s1, s2, ?_⟩
    have := q g H (.bl (eqD dx dy)) (Le.refl g) S rr_bl
    unfold eqD at this
    rw [e1, e2] at this
    exact this
  · cases hr
theorem v_ne (hu : X.A.units + 64 < cLine) : OpV X (compareOp .NotEq) neF := by
  intro en g st σ H x y dx dy r Q S hx hy hr q
  unfold neF at hr
  split at hr
  · rename_i hc
    cases hr
    simp only [Bool.and_eq_true] at hc
    obtain ⟨p, e1, s1⟩ := okD_some hc.1
    obtain ⟨p', e2, s2⟩ := okD_some hc.2
    refine opv_of (op_neD hu) ⟨p, p', dp_vw S e1 hx, dp_vw S e2 hy, s1, s2, ?_⟩
    have := q g H (.bl (!eqD dx dy)) (Le.refl g) S rr_bl
    unfold eqD at this
    rw [e1, e2] at this
    exact this
  · cases hr
def isNon : D → Bool
  | .non => true
  | _ => false
def isF (x y : D) : Option R := if isNon y then rv (.bl (isNon x)) else none
def isNotF (x y : D) : Option R := if isNon y then rv (.bl (!isNon x)) else none
theorem vw_non {K : PySem.W.Frag} {g : Gh} {H : Hp} {d : D} {v : V} (h : Vw K g H d v) : decide (v = .non) = isNon d := by
  cases d <;> simp only [Vw, Rep] at h
  · subst h; rfl
  · subst h; rfl
  · subst h; rfl
  · subst h; rfl
  · obtain ⟨_, _, rfl, _⟩ := h; rfl
  · obtain ⟨_, _, rfl, _⟩ := h; rfl
  · obtain ⟨_, _, rfl, _⟩ := h; rfl
  · obtain ⟨_, _, rfl, _⟩ := h; rfl
  · obtain ⟨_, rfl, _⟩ := h; rfl
theorem v_is : OpV X (compareOp .Is) isF := by
  intro en g st σ H x y dx dy r Q S hx hy hr q
  unfold isF at hr
  split at hr
  · rename_i hc
    cases hr
    have ey : y = .non := by
      have := vw_non hy
      rw [hc] at this
      exact of_decide_eq_true this
    refine opv_of op_isN ⟨ey, ?_⟩
    rw [vw_non hx]
    exact q g H _ (Le.refl g) S rr_bl
  · cases hr
theorem v_isnot : OpV X (compareOp .IsNot) isNotF := by
  intro en g st σ H x y dx dy r Q S hx hy hr q
  unfold isNotF at hr
  split at hr
  · rename_i hc
    cases hr
    have ey : y = .non := by
      have := vw_non hy
      rw [hc] at this
      exact of_decide_eq_true this
    refine opv_of op_notN ⟨ey, ?_⟩
    rw [vw_non hx]
    exact q g H _ (Le.refl g) S rr_bl
  · cases hr
end
end Ab
namespace Ab
open PySem PySem.Spec PyProof.Rows L2
section
variable {X : Cx} {W : WT}
def truD : D → Option Bool
  | .bl b => some b
  | .int i => some (i != 0)
  | .non => some false
  | _ => none
def tE (m : EM) : TM := fun st => (m st).bind fun r st1 => match truD r.d with
  | some b => .val b st1
  | none => .bad
theorem dt_E {e : Expr} {m : EM} (h : DenE X W e m) (he : ∀ whole, isTrue e X.env whole = (do let v ← whole; standAt e.pos; holding [v] (truthy v)) := by intro _; rfl) : DenT X W e (tE m) := by
  intro en g st σ H Q hT S q
  refine bt (pt_truth (pbE e) he) (h.sealed hT S (q.bind.mono (Le.refl g) fun r st1 g1 H1 l1 S1 q1 => ?_))
  intro v hv
  generalize r.d = d at q1 hv
  cases d <;> simp only [truD] at q1
  · simp only [Rep] at hv
    subst hv
    exact ⟨false, rfl, q1 g1 H1 (Le.refl g1) S1⟩
  · simp only [Rep] at hv
    subst hv
    exact ⟨_, rfl, q1 g1 H1 (Le.refl g1) S1⟩
  · simp only [Rep] at hv
    subst hv
    exact ⟨_, rfl, q1 g1 H1 (Le.refl g1) S1⟩
  all_goals exact q1.elim
/-- a comparison's answer as a test -/
def tB (m : EM) : TM := fun st => (m st).bind fun r st1 => match r.d with
  | .bl b => .val b st1
  | _ => .bad
theorem rr_isbl {K : PySem.W.Frag} {en : En} {g : Gh} {st : AS} {σ : L2.St} {H : Hp} {r : R} {b : Bool} {v : V} (h : RR K en g st σ H r v) (e : r.d = .bl b) : v = .bl b := by
  rcases h with ⟨_, h⟩ | ⟨_, a, c, u, _, hc, _⟩
  · rw [e] at h
    simpa only [Rep] using h
  · rw [e] at hc
    cases hc
theorem tB_go {en : En} {g : Gh} {st : AS} {σ : L2.St} {m : EM} {Q : Bool → Hp → Prop} (q : OutP X.K en W g σ (fun b st' g' H' => Q b H') (tB m st)) :
    OutP X.K en W g σ (fun r st' g' H' => ∀ v, RR X.K en g' st' σ H' r v → ∃ k, v = .bl k ∧ Q k H') (m st) := by
  refine q.bind.mono (Le.refl g) fun r st1 g1 H1 l1 S1 q1 => ?_
  intro v hv
  split at q1
  · rename_i b e
    exact ⟨b, rr_isbl hv e, q1 g1 H1 (Le.refl g1) S1⟩
  · exact q1.elim
theorem dt_cmp {op : CmpOp} {F : D → D → Option R} {a b : Expr} {ma mb : OM} {pos : Pos} (ho : OpV X (compareOp op) F) (ha : DenO X W a ma) (hb : DenO X W b mb) (hm : behindInMarks op b = false) : DenT X W (.Compare a [op] [b] pos) (tB (mBin F ma mb)) := by
  intro en g st σ H Q hT S q pins s I
  have key := bin_go ho ha hb (Q := fun v H' => ∃ k, v = .bl k ∧ Q k H') hT S (tB_go q)
  refine wpAny_isTrue_Compare1 (binT (pbE a) (pbE b) (R := fun x y H2 => bestR X (compareOp op) σ x y H2 _) I key fun v u s2 x y H2 I2 rx ry h => thn (h pins s2 v u I2 rx ry) fun c s3 ⟨x, H1, I1, r1, q1⟩ => ?_) hm
  obtain ⟨d, rfl, q⟩ := q1
  cases r1
  exact wpAny_truthy_bool ⟨H1, I1, q⟩
def mChain (F F' : D → D → Option R) (a b c : OM) : EM := fun st => (a st).bind fun oa st1 => (b st1).bind fun ob st2 =>
  match (st2.res oa).bind fun x => (st2.res ob).bind fun y => F x y with
  | some ⟨.bl true, _⟩ => (c st2).bind fun oc st3 => match (st3.res ob).bind fun y => (st3.res oc).bind fun z => F' y z with
    | some r => .val r st3
    | none => .bad
  | some ⟨.bl false, _⟩ => .val ⟨.bl false, false⟩ st2
  | _ => .bad
theorem chain_go {f f' : Value → Value → Sem Value} {F F' : D → D → Option R} {a b c : Expr} {ma mb mc : OM} (ho : OpV X f F) (ho' : OpV X f' F') (ha : DenO X W a ma) (hb : DenO X W b mb) (hc : DenO X W c mc) {en : En} {g : Gh} {st : AS} {σ : L2.St} {H : Hp} {Q : VK} (hT : en.T = W.T) (S : Sim X.K en g st σ H)
    (q : OutP X.K en W g σ (fun r st' g' H' => ∀ v, RR X.K en g' st' σ H' r v → Q v H') (mChain F F' ma mb mc st)) :
    bestE X a σ H fun x H1 => bestE X b σ H1 fun y H2 => bestR X f σ x y H2 fun z H3 => ∃ k, z = .bl k ∧ (if k = true then bestE X c σ H3 fun w H4 => bestR X f' σ y w H4 Q else Q (.bl false) H3) := by
  refine ha en g st σ H _ hT S (q.bind.mono (Le.refl g) fun oa st1 g1 H1 l1 S1 q1 => ?_)
  intro x hx
  refine hb en g1 st1 σ H1 _ hT S1 (q1.bind.mono (Le.refl g1) fun ob st2 g2 H2 l2 S2 q2 => ?_)
  intro y hy pins s v u I rx ry
  split at q2
  · rename_i o ow hr
    obtain ⟨dx, ex, hr⟩ := Option.bind_eq_some_iff.mp hr
    obtain ⟨dy, ey, hr⟩ := Option.bind_eq_some_iff.mp hr
    refine ho en g2 st2 σ H2 x y dx dy _ _ S2 (S2.opd (hx.le l2) ex) (S2.opd hy ey) hr (fun g3 H3 z l S3 hz => ⟨true, rr_isbl hz rfl, ?_⟩) pins s v u I rx ry
    rw [if_pos rfl]
    refine hc en g3 st2 σ H3 _ hT S3 (q2.bind.mono l fun oc st3 g4 H4 l4 S4 q4 => ?_)
    intro w hw pins s v u I rx ry
    split at q4
    · rename_i r hr
      obtain ⟨dx, ex, hr⟩ := Option.bind_eq_some_iff.mp hr
      obtain ⟨dy, ey, hr⟩ := Option.bind_eq_some_iff.mp hr
      exact ho' en g4 st3 σ H4 y w dx dy r Q S4 (S4.opd (hy.le (l.trans l4)) ex) (S4.opd hw ey) hr (fun g' H' v l S' h => q4 g' H' l S' v h) pins s v u I rx ry
    · exact q4.elim
  · rename_i o ow hr
    obtain ⟨dx, ex, hr⟩ := Option.bind_eq_some_iff.mp hr
    obtain ⟨dy, ey, hr⟩ := Option.bind_eq_some_iff.mp hr
    refine ho en g2 st2 σ H2 x y dx dy _ _ S2 (S2.opd (hx.le l2) ex) (S2.opd hy ey) hr (fun g3 H3 z l S3 hz => ⟨false, rr_isbl hz rfl, ?_⟩) pins s v u I rx ry
    rw [if_neg (by decide)]
    exact q2 g3 H3 l S3 _ rr_bl
  · exact q2.elim
theorem de_chain {op op' : CmpOp} {F F' : D → D → Option R} {a b c : Expr} {ma mb mc : OM} {pos : Pos} (ho : OpV X (compareOp op) F) (ho' : OpV X (compareOp op') F') (ha : DenO X W a ma) (hb : DenO X W b mb) (hc : DenO X W c mc)
    (hm : lastMarks [op, op'] [b, c] = false := by with_unfolding_all rfl) : DenE X W (.Compare a [op, op'] [b, c] pos) (mChain F F' ma mb mc) := by
  intro en g st σ H Q hT S q pins s I
  have key := chain_go ho ho' ha hb hc hT S q
  refine Compare_chain (thn ((pbE a).run pins s σ H _ I key) fun v s1 ⟨x, H1, I1, r1, q1⟩ => chain_link (thn ((pbE b).run pins s1 σ H1 _ I1 q1) fun u s2 ⟨y, H2, I2, r2, q2⟩ =>
    thn (q2 pins s2 v u I2 r1 r2) fun d s3 ⟨z, H3, I3, r3, k, e, q3⟩ => ?_)) hm
  subst e
  cases r3
  refine wpAny_truthy_bool ?_
  cases k with
  | false => exact ite_ff ⟨.bl false, H3, I3, rfl, q3⟩
  | true => exact ite_tt (chain_last (thn ((pbE c).run pins s3 σ H3 _ I3 q3) fun w' s4 ⟨z', H4, I4, r4, q4⟩ => q4 pins s4 u w' I4 r2 r4))
theorem dt_chain {op op' : CmpOp} {F F' : D → D → Option R} {a b c : Expr} {ma mb mc : OM} {pos : Pos} (ho : OpV X (compareOp op) F) (ho' : OpV X (compareOp op') F') (ha : DenO X W a ma) (hb : DenO X W b mb) (hc : DenO X W c mc)
    (hm : lastMarks [op, op'] [b, c] = false := by with_unfolding_all rfl) : DenT X W (.Compare a [op, op'] [b, c] pos) (tB (mChain F F' ma mb mc)) := by
  intro en g st σ H Q hT S q pins s I
  have key := chain_go ho ho' ha hb hc (Q := fun v H' => ∃ k, v = .bl k ∧ Q k H') hT S (tB_go q)
  refine isTrue_chain (thn ((pbE a).run pins s σ H _ I key) fun v s1 ⟨x, H1, I1, r1, q1⟩ => test_link (thn ((pbE b).run pins s1 σ H1 _ I1 q1) fun u s2 ⟨y, H2, I2, r2, q2⟩ =>
    thn (q2 pins s2 v u I2 r1 r2) fun d s3 ⟨z, H3, I3, r3, k, e, q3⟩ => ?_)) hm
  subst e
  cases r3
  refine wpAny_truthy_bool ?_
  cases k with
  | false =>
    obtain ⟨k', e', q'⟩ := q3
    cases e'
    exact ite_ff ⟨H3, I3, q'⟩
  | true =>
    refine ite_tt (test_last (thn ((pbE c).run pins s3 σ H3 _ I3 q3) fun w' s4 ⟨z', H4, I4, r4, q4⟩ => thn (q4 pins s4 u w' I4 r2 r4) fun d' s5 ⟨z2, H5, I5, r5, k2, e2, q5⟩ => ?_))
    subst e2
    cases r5
    exact wpAny_truthy_bool ⟨H5, I5, q5⟩
def tNotM (m : TM) : TM := fun st => (m st).bind fun b st1 => .val (!b) st1
def tAndM (a b : TM) : TM := fun st => (a st).bind fun x st1 => if x then b st1 else .val false st1
def tOrM (a b : TM) : TM := fun st => (a st).bind fun x st1 => if x then .val true st1 else b st1
theorem dt_not {a : Expr} {m : TM} {pos : Pos} (h : DenT X W a m) : DenT X W (.UnaryOp .Not a pos) (tNotM m) := by
  intro en g st σ H Q hT S q
  exact bt (pt_not (pbT a)) (h en g st σ H _ hT S (q.bind.mono (Le.refl g) fun b st1 g1 H1 l1 S1 q1 => q1 g1 H1 (Le.refl g1) S1))
theorem dt_W {a : Expr} {m : TM} (h : DenW X W a m) : DenT X W a m := fun en g st σ H Q hT S q => bt (pbW a).pt (h en g st σ H Q hT S q)
theorem dw_and1 {a : Expr} {m : TM} {pos : Pos} (h : DenT X W a m) : DenW X W (.BoolOp .And [a] pos) m := fun en g st σ H Q hT S q => bw (pw_and1 (pbT a)) (h en g st σ H Q hT S q)
theorem dw_or1 {a : Expr} {m : TM} {pos : Pos} (h : DenT X W a m) : DenW X W (.BoolOp .Or [a] pos) m := fun en g st σ H Q hT S q => bw (pw_or1 (pbT a)) (h en g st σ H Q hT S q)
theorem dw_and {a b : Expr} {rest : List Expr} {m n : TM} {pos : Pos} (h : DenT X W a m) (k : DenW X W (.BoolOp .And (b :: rest) pos) n) : DenW X W (.BoolOp .And (a :: b :: rest) pos) (tAndM m n) := by
  intro en g st σ H Q hT S q
  refine bw (pw_and (pbT a) (pbW _)) (h en g st σ H _ hT S (q.bind.mono (Le.refl g) fun b st1 g1 H1 l1 S1 q1 => ?_))
  cases b with
  | true => exact k en g1 st1 σ H1 Q hT S1 q1
  | false => exact q1 g1 H1 (Le.refl g1) S1
theorem dw_or {a b : Expr} {rest : List Expr} {m n : TM} {pos : Pos} (h : DenT X W a m) (k : DenW X W (.BoolOp .Or (b :: rest) pos) n) : DenW X W (.BoolOp .Or (a :: b :: rest) pos) (tOrM m n) := by
  intro en g st σ H Q hT S q
  refine bw (pw_or (pbT a) (pbW _)) (h en g st σ H _ hT S (q.bind.mono (Le.refl g) fun b st1 g1 H1 l1 S1 q1 => ?_))
  cases b with
  | false => exact k en g1 st1 σ H1 Q hT S1 q1
  | true => exact q1 g1 H1 (Le.refl g1) S1
/-- as values -/
def mB (m : EM) (k : Bool → EM) : EM := fun st => (m st).bind fun r st1 => match r.d with
  | .bl b => k b st1
  | _ => .bad
def mAndV (a b : EM) : EM := mB a fun x => if x then b else mC (.bl false)
def mOrV (a b : EM) : EM := mB a fun x => if x then mC (.bl true) else b
def mNotV (a : EM) : EM := mB a fun x => mC (.bl (!x))
theorem mB_go {e : Expr} {m : EM} {k : Bool → EM} (h : DenE X W e m) {en : En} {g : Gh} {st : AS} {σ : L2.St} {H : Hp} {Q : VK} {R' : Bool → Hp → Prop} (hT : en.T = W.T) (S : Sim X.K en g st σ H)
    (q : OutP X.K en W g σ (fun r st' g' H' => ∀ v, RR X.K en g' st' σ H' r v → Q v H') (mB m k st))
    (hk : ∀ b st1 g1 H1, Le g g1 → Sim X.K en g1 st1 σ H1 → OutP X.K en W g1 σ (fun r st' g' H' => ∀ v, RR X.K en g' st' σ H' r v → Q v H') (k b st1) → R' b H1) : bestE X e σ H fun x H1 => ∃ c, x = .bl c ∧ R' c H1 := by
  refine h en g st σ H _ hT S (q.bind.mono (Le.refl g) fun r st1 g1 H1 l1 S1 q1 => ?_)
  intro v hv
  split at q1
  · rename_i b e
    exact ⟨b, rr_isbl hv e, hk b st1 g1 H1 l1 S1 q1⟩
  · exact q1.elim
theorem de_one {a : Expr} {op : BoolOp} {m : EM} {pos : Pos} (h : DenE X W a m) : DenE X W (.BoolOp op [a] pos) m := fun en g st σ H Q hT S q => be (pe_one (pbE a)) (h en g st σ H Q hT S q)
theorem de_and {a b : Expr} {rest : List Expr} {m n : EM} {pos : Pos} (h : DenE X W a m) (k : DenE X W (.BoolOp .And (b :: rest) pos) n) : DenE X W (.BoolOp .And (a :: b :: rest) pos) (mAndV m n) := by
  intro en g st σ H Q hT S q
  refine be (pe_and (pbE a) (pbE _)) (mB_go h hT S q fun b st1 g1 H1 l1 S1 q1 => ?_)
  cases b with
  | true => exact k en g1 st1 σ H1 Q hT S1 q1
  | false => exact q1 g1 H1 (Le.refl g1) S1 _ rr_bl
theorem de_or {a b : Expr} {rest : List Expr} {m n : EM} {pos : Pos} (h : DenE X W a m) (k : DenE X W (.BoolOp .Or (b :: rest) pos) n) : DenE X W (.BoolOp .Or (a :: b :: rest) pos) (mOrV m n) := by
  intro en g st σ H Q hT S q
  refine be (pe_or (pbE a) (pbE _)) (mB_go h hT S q fun b st1 g1 H1 l1 S1 q1 => ?_)
  cases b with
  | false => exact k en g1 st1 σ H1 Q hT S1 q1
  | true => exact q1 g1 H1 (Le.refl g1) S1 _ rr_bl
theorem de_not {a : Expr} {m : EM} {pos : Pos} (h : DenE X W a m) : DenE X W (.UnaryOp .Not a pos) (mNotV m) := by
  intro en g st σ H Q hT S q
  exact be (pe_not (pbE a)) (mB_go h hT S q fun b st1 g1 H1 l1 S1 q1 => q1 g1 H1 (Le.refl g1) S1 _ rr_bl)
def mIf (c : TM) (a b : EM) : EM := fun st => (c st).bind fun x st1 => if x then a st1 else b st1
theorem de_if {c a b : Expr} {mc : TM} {ma mb : EM} {pos : Pos} (hc : DenT X W c mc) (ha : DenE X W a ma) (hb : DenE X W b mb) : DenE X W (.IfExp c a b pos) (mIf mc ma mb) := by
  intro en g st σ H Q hT S q
  refine be (pe_ifExp (pbT c) (pbE a) (pbE b)) (hc en g st σ H _ hT S (q.bind.mono (Le.refl g) fun x st1 g1 H1 l1 S1 q1 => ?_))
  cases x with
  | true => exact ha en g1 st1 σ H1 Q hT S1 q1
  | false => exact hb en g1 st1 σ H1 Q hT S1 q1
def mNeg (m : EM) : EM := fun st => (m st).bind fun r st1 => match r.d with
  | .int i => .val ⟨.int (-i), false⟩ st1
  | _ => .bad
theorem rr_isint {K : PySem.W.Frag} {en : En} {g : Gh} {st : AS} {σ : L2.St} {H : Hp} {r : R} {b : Int} {v : V} (h : RR K en g st σ H r v) (e : r.d = .int b) : v = .int b := by
  rcases h with ⟨_, h⟩ | ⟨_, a, c, u, _, hc, _⟩
  · rw [e] at h
    simpa only [Rep] using h
  · rw [e] at hc
    cases hc
theorem de_neg {a : Expr} {m : EM} {pos : Pos} (h : DenE X W a m) : DenE X W (.UnaryOp .USub a pos) (mNeg m) := by
  intro en g st σ H Q hT S q
  refine be (pe_un un_neg (pbE a)) (h en g st σ H _ hT S (q.bind.mono (Le.refl g) fun r st1 g1 H1 l1 S1 q1 => ?_))
  intro v hv
  split at q1
  · rename_i b e
    exact ⟨b, rr_isint hv e, q1 g1 H1 (Le.refl g1) S1 _ rr_int⟩
  · exact q1.elim
def mTup (a : AM) : EM := fun st => (a st).bind fun ds st1 => if ds.length ≤ LIM then .val ⟨.tup ds, false⟩ st1 else .bad
def mLst (a : AM) : EM := fun st => (a st).bind fun ds st1 => if ds.length ≤ LIM then .val ⟨.lst ds, true⟩ st1 else .bad
theorem de_tup {es : List Expr} {a : AM} {k : Nat} {pos : Pos} (h : DenA X W es a) : DenE X W (.Tuple es k pos) (mTup a) := by
  intro en g st σ H Q hT S q
  refine be (pe_tup (pbA es)) (h en g st σ H _ hT S (q.bind.mono (Le.refl g) fun ds st1 g1 H1 l1 S1 q1 => ?_))
  intro vs hv
  split at q1
  · rename_i hl
    refine ⟨lim (hv.length ▸ hl), fun p n => ?_⟩
    obtain ⟨g', l, S', h⟩ := RR.newTup S1 n hv
    exact q1 g' _ l S' _ h
  · exact q1.elim
theorem de_lst {es : List Expr} {a : AM} {pos : Pos} (h : DenA X W es a) : DenE X W (.List es pos) (mLst a) := by
  intro en g st σ H Q hT S q
  refine be (pe_lst (pbA es)) (h en g st σ H _ hT S (q.bind.mono (Le.refl g) fun ds st1 g1 H1 l1 S1 q1 => ?_))
  intro vs hv
  split at q1
  · rename_i hl
    exact ⟨lim (hv.length ▸ hl), fun p n => q1 g1 _ (Le.refl g1) (S1.new n) _ (S1.newOwn (c := .lst _) rfl n ⟨_, rfl, hv⟩)⟩
  · exact q1.elim
/-- the reading of a subscript by what is seen: lists, tuples, texts, the script -/
def ixD : D → D → Option R
  | .lst xs, .int i => (atI xs i).map fun d => ⟨d, false⟩
  | .tup xs, .int i => (atI xs i).map fun d => ⟨d, false⟩
  | .scr xs, .int i => (atI xs i).map fun d => ⟨.int d, false⟩
  | .str z, .int i => if z.length ≤ LIM then (atI z.cps.toList i).map fun c => ⟨.str ⟨#[c]⟩, false⟩ else none
  | _, _ => none
theorem atI_len {α β : Type} {xs : List α} {ys : List β} {i : Int} {x : α} (h : atI xs i = some x) (l : xs.length = ys.length) : ∃ j : Nat, xs[j]? = some x ∧ ∀ y, ys[j]? = some y → atI ys i = some y := by
  unfold atI at h
  obtain ⟨j, e1, e2⟩ := Option.bind_eq_some_iff.mp h
  refine ⟨j, e2, fun y hy => ?_⟩
  unfold atI
  rw [← l, e1]
  exact hy
theorem Reps.atI {K : PySem.W.Frag} {g : Gh} {ds : List D} {vs : List V} {i : Int} {d : D} (h : Reps K g ds vs) (e : atI ds i = some d) : ∃ v, L2.atI vs i = some v ∧ Rep K g d v := by
  obtain ⟨j, e1, e2⟩ := atI_len (ys := vs) e h.length
  obtain ⟨v, e3, e4⟩ := h.get e1
  exact ⟨v, e2 v e3, e4⟩
def mIx (a b : OM) : EM := mBin ixD a b
theorem de_ix {a b : Expr} {ma mb : OM} {pos : Pos} (ha : DenO X W a ma) (hb : DenO X W b mb) (hs : PlainIx b) : DenE X W (.Subscript a b pos) (mIx ma mb) := by
  intro en g st σ H Q hT S q
  refine be (pe_ix ix_seq (pbE a) (pbE b) hs) ?_
  refine ha en g st σ H _ hT S (q.bind.mono (Le.refl g) fun oa st1 g1 H1 l1 S1 q1 => ?_)
  intro x hx
  refine hb en g1 st1 σ H1 _ hT S1 (q1.bind.mono (Le.refl g1) fun ob st2 g2 H2 l2 S2 q2 => ?_)
  intro y hy
  split at q2
  · rename_i r hr
    obtain ⟨dx, ex, hr⟩ := Option.bind_eq_some_iff.mp hr
    obtain ⟨dy, ey, hr⟩ := Option.bind_eq_some_iff.mp hr
    have vx := S2.opd (hx.le l2) ex
    have vy := S2.opd hy ey
    unfold ixD at hr
    split at hr
    · rename_i xs i _
      obtain ⟨d, e1, e2⟩ := Option.map_eq_some_iff.mp hr
      subst e2
      simp only [Vw] at vx
      obtain ⟨a, vs, rfl, h1, h2⟩ := vx
      simp only [Vw, Rep] at vy
      subst vy
      obtain ⟨v, e3, e4⟩ := h2.atI e1
      exact .inl ⟨a, vs, i, v, rfl, rfl, .inl (.inl h1), e3, q2 g2 H2 (Le.refl g2) S2 v (.inl ⟨rfl, e4⟩)⟩
    · rename_i xs i _
      obtain ⟨d, e1, e2⟩ := Option.map_eq_some_iff.mp hr
      subst e2
      simp only [Vw] at vx
      obtain ⟨a, vs, rfl, h1, _, h2⟩ := vx
      simp only [Vw, Rep] at vy
      subst vy
      obtain ⟨v, e3, e4⟩ := h2.atI e1
      exact .inr (.inl ⟨a, vs, i, v, rfl, rfl, h1, e3, q2 g2 H2 (Le.refl g2) S2 v (.inl ⟨rfl, e4⟩)⟩)
    · rename_i xs i _
      obtain ⟨d, e1, e2⟩ := Option.map_eq_some_iff.mp hr
      subst e2
      simp only [Vw] at vx
      obtain ⟨a, rfl, h1⟩ := vx
      simp only [Vw, Rep] at vy
      subst vy
      obtain ⟨j, e3, e4⟩ := atI_len (ys := xs.map V.int) e1 (by simp)
      exact .inl ⟨a, _, i, .int d, rfl, rfl, h1, e4 _ (by simp [e3]), q2 g2 H2 (Le.refl g2) S2 _ rr_int⟩
    · split at hr
      · rename_i z i _ hl
        obtain ⟨c, e1, e2⟩ := Option.map_eq_some_iff.mp hr
        subst e2
        simp only [Vw, Rep] at vx vy
        subst vx vy
        exact .inr (.inr ⟨z, i, c, rfl, rfl, lim hl, e1, q2 g2 H2 (Le.refl g2) S2 _ rr_str⟩)
      · cases hr
    · cases hr
  · exact q2.elim
end
end Ab
namespace Ab
open PySem PySem.Spec PyProof.Rows L2

inductive OF where
  | val (r : R) (sg : List Cell) | exc (e : Ex) (sg : List Cell) | bad
/-- a def: the base, the arguments, the store -/
abbrev Fn := Nat → List D → List Cell → OF
def enOf (g : Gh) (H : Hp) (b : Nat) (sg : List Cell) (T : List (Addr × Str)) : En := ⟨H, g.m, g.kn, b, sg, T⟩
def bare (sg : List Cell) (b : Nat) : AS := ⟨[], sg, b⟩
def spF (K : PySem.W.Frag) (T : List (Addr × Str)) (n : Nat) (F : Fn) : Sp := fun vs H Q E => ∃ (g : Gh) (ds : List D) (sg : List Cell) (b : Nat), ds.length = n ∧ Reps K g ds vs ∧ g.px = [] ∧ Sim K (enOf g H b sg T) g (bare sg b) [] H ∧
  match F b ds sg with
  | .val r sg' => ∀ v H' g', Le g g' → Sim K (enOf g H b sg T) g' (bare sg' b) [] H' → RR K (enOf g H b sg T) g' (bare sg' b) [] H' r v → Q v H'
  | .exc e sg' => ∀ H' g' cls d, Le g g' → Sim K (enOf g H b sg T) g' (bare sg' b) [] H' → ExIs K H' e cls d → E cls d H'
  | .bad => False
section
variable {K : PySem.W.Frag} {en : En} {g g' : Gh} {st : AS} {σ : L2.St} {H H' : Hp} {sg' : List Cell}
theorem Rep.px {d : D} {v : V} {l : List (Addr × HO)} (h : Rep K g d v) : Rep K { g with px := l } d v := Rep.mono (g := g) (g' := { g with px := l }) (fun _ _ h => h) (fun _ _ h => h) d v h
theorem Reps.px {d : List D} {v : List V} {l : List (Addr × HO)} (h : Reps K g d v) : Reps K { g with px := l } d v := Reps.mono (g := g) (g' := { g with px := l }) (fun _ _ h => h) (fun _ _ h => h) d v h
theorem CellIs.mono {g' : Gh} (hk : ∀ a u, g.kn a u → g'.kn a u) (hm : ∀ (i : Nat) (a : Addr), g.m[i]? = some a → g'.m[i]? = some a) : ∀ {c : Cell} {u : HO}, CellIs K g c u → CellIs K g' c u
  | .lst _, _, ⟨vs, e, r⟩ => ⟨vs, e, Reps.mono hk hm _ _ r⟩
  | .dk _ _, _, ⟨vs, e, z, r⟩ => ⟨vs, e, z, Reps.mono hk hm _ _ r⟩
  | .dt _ _, _, ⟨vs, e, z, r⟩ => ⟨vs, e, z, Reps.mono hk hm _ _ r⟩
  | .ins _ _ _, _, ⟨dx, vs, e, z, r⟩ => ⟨dx, vs, e, z, Reps.mono hk hm _ _ r⟩
theorem CellIs.px {c : Cell} {u : HO} {l : List (Addr × HO)} (h : CellIs K g c u) : CellIs K { g with px := l } c u := CellIs.mono (g := g) (g' := { g with px := l }) (fun _ _ h => h) (fun _ _ h => h) h
/-- what a callee gets -/
theorem Sim.enter (S : Sim K en g st σ H) : Sim K (enOf { g with px := [] } H st.b st.sg en.T) { g with px := [] } (bare st.sg st.b) [] H where
  kn := S.kn
  len := rfl
  fz := fun i r h => by simp [bare] at h
  ow := fun i r h => by simp [bare] at h
  ud := fun i j r r' a h => by simp [bare] at h
  ce := fun i c h => by
    obtain ⟨a, u, e1, e2, e3⟩ := S.ce i c h
    exact ⟨a, u, e1, e2, e3.px⟩
  ml := S.ml
  nd := S.nd
  mq := S.mq
  px := fun p h => by cases h
  pd := .nil
  lk := S.lk
  sb := rfl
  bl := S.bl
  m0 := fun i a h => h
  mn := fun i a h e => by
    have := (List.getElem?_eq_some_iff.mp e).1
    exact absurd h (Nat.not_le_of_lt this)
  k0 := fun a u h => h
  kw := fun a u h => .inl h
  fr := fun a o h _ _ => .inl h
  tb := fun a ps h => ⟨ps, h⟩
  pr := fun i h => rfl
  tt := S.tt
/-- what a callee leaves, for the caller -/
theorem Sim.after (S : Sim K en g st σ H) (l : Le { g with px := [] } g') (A : Sim K (enOf { g with px := [] } H st.b st.sg en.T) g' (bare sg' st.b) [] H') :
    Le g { g' with px := g.px } ∧ Sim K en { g' with px := g.px } { st with sg := sg' } σ H' := by
  have keep : ∀ a u, H a = some u → a ∉ g.m → (∀ o, ¬ g.kn a o) → isTbl u = false → H' a = some u ∧ (∀ o, ¬ g'.kn a o) ∧ a ∉ g'.m := by
    intro a u hu hm hk ht
    have h1 := A.fr a u hu (fun z => hm (List.mem_of_mem_drop z)) (fun ps z => by rw [z] at ht; cases ht)
    refine ⟨?_, fun o ho => ?_, fun hm' => ?_⟩
    · rcases h1 with h1 | ⟨h2, _⟩
      · exact h1
      · rw [l.lk] at h2
        obtain ⟨o, ho⟩ := S.lk a h2
        exact absurd ho (hk o)
    · rcases A.kw a o ho with z | z
      · exact hk o z
      · have z : H a = none := z
        rw [hu] at z
        cases z
    · obtain ⟨i, hi⟩ := List.mem_iff_getElem?.mp hm'
      by_cases hl : i < g.m.length
      · have := A.m0 i _ (List.getElem?_eq_getElem (show i < g.m.length from hl))
        rw [hi] at this
        apply hm
        rw [Option.some.inj this]
        exact List.getElem_mem hl
      · have z : H a = none := A.mn i a (by show g.m.length ≤ i; omega) hi
        rw [hu] at z
        cases z
  have hle : Le g { g' with px := g.px } := ⟨l.kn, l.m, rfl, l.lk⟩
  refine ⟨hle, ?_⟩
  exact {
    kn := A.kn
    len := S.len
    fz := fun i r h o => by
      obtain ⟨v, e, hr⟩ := S.fz i r h o
      exact ⟨v, e, hr.le hle⟩
    ow := fun i r h o => by
      obtain ⟨a, c, u, e1, e2, e3, e4, e5, e6, e7, e8⟩ := S.ow i r h o
      obtain ⟨k1, k2, k3⟩ := keep a u e3 e6 e5 e4.notbl
      exact ⟨a, c, u, e1, e2, k1, e4.le hle, k2, k3, e7, e8⟩
    ud := S.ud
    ce := fun i c h => by
      obtain ⟨a, u, e1, e2, e3⟩ := A.ce i c h
      exact ⟨a, u, e1, e2, e3.px⟩
    ml := A.ml
    nd := A.nd
    mq := A.mq
    px := fun p h => by
      obtain ⟨e1, e2, e3, e4, e5⟩ := S.px p h
      obtain ⟨k1, k2, k3⟩ := keep p.1 p.2 e1 e3 e2 e5
      exact ⟨k1, k2, k3, e4, e5⟩
    pd := S.pd
    lk := A.lk
    sb := S.sb
    bl := A.bl
    m0 := fun i a h => A.m0 i a (S.m0 i a h)
    mn := fun i a h e => by
      by_cases hl : i < g.m.length
      · have := A.m0 i _ (List.getElem?_eq_getElem (show i < g.m.length from hl))
        have e : g'.m[i]? = some a := e
        rw [e] at this
        refine S.mn i a h ?_
        rw [List.getElem?_eq_getElem hl]
        exact this.symm
      · exact S.h0 (A.mn i a (by show g.m.length ≤ i; omega) e)
    k0 := fun a u h => A.k0 a u (S.k0 a u h)
    kw := fun a u h => by
      rcases A.kw a u h with z | z
      · exact S.kw a u z
      · exact .inr (S.h0 z)
    fr := fun a o h nd nt => by
      have nm : a ∉ g.m.drop st.b := fun hm => by
        obtain ⟨j, hj⟩ := List.mem_iff_getElem?.mp hm
        rw [List.getElem?_drop] at hj
        by_cases hl : st.b + j < en.m0.length
        · apply nd
          have := S.m0 _ _ (List.getElem?_eq_getElem hl)
          rw [hj] at this
          have e2 : (en.m0.drop en.b)[j]? = some a := by
            rw [List.getElem?_drop, ← S.sb, List.getElem?_eq_getElem hl]
            exact this.symm
          exact List.mem_of_getElem? e2
        · have := S.mn _ a (by omega) hj
          rw [h] at this
          cases this
      rcases S.fr a o h nd nt with q | ⟨q1, q2, od, q3⟩
      · exact A.fr a o q nm nt
      · have := A.fr a _ q3 nm (fun ps z => by cases z)
        exact .inr ⟨by rw [show ({ g' with px := g.px } : Gh).lk = g'.lk from rfl, l.lk]; exact q1, q2, od, this.at_ rfl⟩
    tb := fun a ps h => by
      obtain ⟨qs, q⟩ := S.tb a ps h
      exact A.tb a qs q
    pr := fun i h => (A.pr i (by show i < st.b; rw [S.sb]; exact h)).trans (S.pr i h)
    tt := A.tt }
theorem RR.after (S : Sim K en g st σ H) (l : Le { g with px := [] } g') (A : Sim K (enOf { g with px := [] } H st.b st.sg en.T) g' (bare sg' st.b) [] H') {r : R} {v : V} (h : RR K (enOf { g with px := [] } H st.b st.sg en.T) g' (bare sg' st.b) [] H' r v) :
    RR K en { g' with px := g.px } { st with sg := sg' } σ H' r v := by
  rcases h with ⟨o, h⟩ | ⟨o, a, c, u, e, e2, e3, e4, L⟩
  · exact .inl ⟨o, h.px⟩
  · have h0 : H a = none := L.h0
    refine .inr ⟨o, a, c, u, e, e2, e3, e4.px, L.kn, L.m, S.h0 h0, fun p hp z => ?_, fun i q hq oq z => ?_⟩
    · have := (S.px p hp).1
      rw [z, h0] at this
      cases this
    · obtain ⟨a', _, _, e1, _, e3, _⟩ := S.ow i q hq oq
      rw [e1] at z
      cases z
      rw [h0] at e3
      cases e3
end
section
variable {X : Cx} {W : WT}
def callF (F : Fn) (ds : List D) (st : AS) : Out R := match F st.b ds st.sg with
  | .val r sg' => .val r { st with sg := sg' }
  | .exc e sg' => .exc e { st with sg := sg' }
  | .bad => .bad
def mCall (F : Fn) (a : AM) : EM := fun st => (a st).bind fun ds st1 => callF F ds st1
/-- the promise at a call -/
theorem call_go {F : Fn} {en : En} {g : Gh} {st : AS} {σ : L2.St} {H : Hp} {Q : VK} {ds : List D} {vs : List V} (S : Sim X.K en g st σ H) (hv : Reps X.K g ds vs)
    (q : OutP X.K en W g σ (fun r st' g' H' => ∀ v, RR X.K en g' st' σ H' r v → Q v H') (callF F ds st)) : spF X.K en.T ds.length F vs H Q (WE W.w σ) := by
  refine ⟨{ g with px := [] }, ds, st.sg, st.b, rfl, hv.px, rfl, S.enter, ?_⟩
  unfold callF at q
  cases e : F st.b ds st.sg with
  | val r sg' =>
    rw [e] at q
    intro v H' g' l A hr
    obtain ⟨l2, S2⟩ := S.after l A
    exact q _ H' l2 S2 v (hr.after S l A)
  | exc x sg' =>
    rw [e] at q
    intro H' g' cls d l A hx
    obtain ⟨l2, S2⟩ := S.after l A
    exact q _ H' cls d l2 S2 hx
  | bad =>
    rw [e] at q
    exact q
end
end Ab
namespace Ab
open PySem PySem.Spec PyProof.Rows L2

inductive Fl where
  | nx | ret (r : R) | brk | cnt
abbrev SM := AS → Out Fl
abbrev GM := D → AS → Option AS
def OutS (K : PySem.W.Frag) (en : En) (W : WT) (g : Gh) (E : Ends) : Out Fl → Prop
  | .val .nx st' => ∀ g' σ' H', Le g g' → Sim K en g' st' σ' H' → E.nx σ' H'
  | .val (.ret r) st' => ∀ g' σ' H' v, Le g g' → Sim K en g' st' σ' H' → RR K en g' st' σ' H' r v → E.rt v H'
  | .val .brk st' => ∀ g' σ' H', Le g g' → Sim K en g' st' σ' H' → E.bk σ' H'
  | .val .cnt st' => ∀ g' σ' H', Le g g' → Sim K en g' st' σ' H' → E.ct σ' H'
  | .exc e st' => ∀ g' σ' H' cls d, Le g g' → Sim K en g' st' σ' H' → ExIs K H' e cls d → W.w cls d σ' H'
  | .bad => False
section
variable {K : PySem.W.Frag} {en : En} {W : WT} {g : Gh} {σ : L2.St} {E E' : Ends}
theorem OutS.mono {g' : Gh} {o : Out Fl} (h : OutS K en W g E o) (l : Le g g') : OutS K en W g' E o := by
  cases o with
  | val f s =>
    cases f with
    | nx => exact fun g2 σ2 H2 l2 S => h g2 σ2 H2 (l.trans l2) S
    | ret r => exact fun g2 σ2 H2 v l2 S hr => h g2 σ2 H2 v (l.trans l2) S hr
    | brk => exact fun g2 σ2 H2 l2 S => h g2 σ2 H2 (l.trans l2) S
    | cnt => exact fun g2 σ2 H2 l2 S => h g2 σ2 H2 (l.trans l2) S
  | exc e s => exact fun g2 σ2 H2 c d l2 S => h g2 σ2 H2 c d (l.trans l2) S
  | bad => exact h
theorem OutS.bindE {α : Type} {o : Out α} {k : α → AS → Out Fl} (h : OutS K en W g E (o.bind k)) : OutP K en W g σ (fun a st' g' H => OutS K en W g' E (k a st')) o := by
  cases o with
  | val a s => exact fun g2 H2 l2 S => OutS.mono h l2
  | exc e s => exact fun g2 H2 c d l S => h g2 σ H2 c d l S
  | bad => exact h
/-- one statement, then the rest -/
theorem OutS.bind {o : Out Fl} {k : Fl → AS → Out Fl} (h : OutS K en W g E (o.bind k)) (hn : ∀ st' g' σ' H', Le g g' → Sim K en g' st' σ' H' → OutS K en W g' E (k .nx st') → E'.nx σ' H')
    (hr : ∀ r st' g' σ' H' v, Le g g' → Sim K en g' st' σ' H' → RR K en g' st' σ' H' r v → OutS K en W g' E (k (.ret r) st') → E'.rt v H')
    (hb : ∀ st' g' σ' H', Le g g' → Sim K en g' st' σ' H' → OutS K en W g' E (k .brk st') → E'.bk σ' H')
    (hc : ∀ st' g' σ' H', Le g g' → Sim K en g' st' σ' H' → OutS K en W g' E (k .cnt st') → E'.ct σ' H') : OutS K en W g E' o := by
  cases o with
  | val f s =>
    cases f with
    | nx => exact fun g2 σ2 H2 l2 S => hn s g2 σ2 H2 l2 S (OutS.mono h l2)
    | ret r => exact fun g2 σ2 H2 v l2 S hv => hr r s g2 σ2 H2 v l2 S hv (OutS.mono h l2)
    | brk => exact fun g2 σ2 H2 l2 S => hb s g2 σ2 H2 l2 S (OutS.mono h l2)
    | cnt => exact fun g2 σ2 H2 l2 S => hc s g2 σ2 H2 l2 S (OutS.mono h l2)
  | exc e s => exact fun g2 σ2 H2 c d l2 S => h g2 σ2 H2 c d l2 S
  | bad => exact h
end
def bestS (X : Cx) (st : Stmt) : TS := fun E σ H => ∀ pins s, Inv X pins σ H s → wpAny (model X.prog X.w) X.A (exec st X.env) (SP X pins E) X.xe s
def bestSs (X : Cx) (st : List Stmt) : TS := fun E σ H => ∀ pins s, Inv X pins σ H s → wpAny (model X.prog X.w) X.A (execs st X.env) (SP X pins E) X.xe s
theorem pbS {X : Cx} (st : Stmt) : PS X st (bestS X st) := ⟨fun pins s σ H E I h => h pins s I⟩
theorem pbSs {X : Cx} (st : List Stmt) : PSs X st (bestSs X st) := ⟨fun pins s σ H E I h => h pins s I⟩
theorem bs {X : Cx} {st : Stmt} {t : TS} {E : Ends} {σ : L2.St} {H : Hp} (h : PS X st t) (q : t E σ H) : bestS X st E σ H := fun pins s I => h.run pins s σ H E I q
theorem bss {X : Cx} {st : List Stmt} {t : TS} {E : Ends} {σ : L2.St} {H : Hp} (h : PSs X st t) (q : t E σ H) : bestSs X st E σ H := fun pins s I => h.run pins s σ H E I q
def DenS (X : Cx) (W : WT) (s : Stmt) (m : SM) : Prop := ∀ (en : En) (g : Gh) (st : AS) (σ : L2.St) (H : Hp) (E : Ends), en.T = W.T → Sim X.K en g st σ H → OutS X.K en W g E (m st) → bestS X s E σ H
def DenSs (X : Cx) (W : WT) (s : List Stmt) (m : SM) : Prop := ∀ (en : En) (g : Gh) (st : AS) (σ : L2.St) (H : Hp) (E : Ends), en.T = W.T → Sim X.K en g st σ H → OutS X.K en W g E (m st) → bestSs X s E σ H
section
variable {X : Cx} {W : WT}
def sNil : SM := fun st => .val .nx st
def sSeq (a b : SM) : SM := fun st => (a st).bind fun f st1 => match f with
  | .nx => b st1
  | f => .val f st1
theorem dss_nil : DenSs X W [] sNil := fun en g st σ H E hT S h => bss pss_nil (h g σ H (Le.refl g) S)
theorem dss_cons {s : Stmt} {r : List Stmt} {a b : SM} (h : DenS X W s a) (k : DenSs X W r b) : DenSs X W (s :: r) (sSeq a b) := by
  intro en g st σ H E hT S q
  refine bss (pss_cons (pbS s) (pbSs r)) (h en g st σ H _ hT S (q.bind ?_ ?_ ?_ ?_))
  · exact fun st' g' σ' H' l S' q' => k en g' st' σ' H' E hT S' q'
  · exact fun r st' g' σ' H' v l S' hv q' => q' g' σ' H' v (Le.refl g') S' hv
  · exact fun st' g' σ' H' l S' q' => q' g' σ' H' (Le.refl g') S'
  · exact fun st' g' σ' H' l S' q' => q' g' σ' H' (Le.refl g') S'
theorem dss_one {s : Stmt} {a : SM} (h : DenS X W s a) : DenSs X W [s] a := fun en g st σ H E hT S q => bss (pss_one (pbS s)) (h en g st σ H E hT S q)
def sSet (i : Nat) (m : EM) : SM := fun st => (m st).bind fun r st1 => .val .nx (st1.put i (some r))
theorem ds_set {i : Nat} {x : Str} {e : Expr} {m : EM} {pos pos' : Pos} (hN : X.N.Nodup) (hi : X.N[i]? = some x) (hx : L2.Loc X.env.scope x) (h : DenE X W e m) (hs : swapsWith e (some (.Name x pos')) pos.line X.env = pure false := by rfl)
    (hf : X.fn x = true ∨ X.env.scope.names.lookup x = some .local := by first | exact .inl rfl | exact .inr rfl) : DenS X W (.Assign [.Name x pos'] e pos) (sSet i m) := by
  intro en g st σ H E hT S q
  refine bs (ps_set hN hi hx (pbE e) hs hf) (h en g st σ H _ hT S ((OutS.bindE q).mono (Le.refl g) fun r st1 g1 H1 l1 S1 q1 => ?_))
  intro v hv
  exact q1 g1 _ H1 (Le.refl g1) (S1.put hv)
def sExpr (m : EM) : SM := fun st => (m st).bind fun _ st1 => .val .nx st1
theorem ds_expr {e : Expr} {m : EM} {pos : Pos} (h : DenE X W e m) (hs : swapsWith e none pos.line X.env = pure false := by rfl) : DenS X W (.Expr e pos) (sExpr m) := by
  intro en g st σ H E hT S q
  refine bs (ps_expr (pbE e) hs) (h en g st σ H _ hT S ((OutS.bindE q).mono (Le.refl g) fun r st1 g1 H1 l1 S1 q1 => ?_))
  intro v hv
  exact q1 g1 _ H1 (Le.refl g1) S1
def sRet (m : EM) : SM := fun st => (m st).bind fun r st1 => .val (.ret r) st1
theorem ds_ret {e : Expr} {m : EM} {pos : Pos} (h : DenE X W e m) : DenS X W (.Return (some e) pos) (sRet m) := by
  intro en g st σ H E hT S q
  refine bs (ps_ret (pbE e)) (h en g st σ H _ hT S ((OutS.bindE q).mono (Le.refl g) fun r st1 g1 H1 l1 S1 q1 => ?_))
  intro v hv
  exact q1 g1 σ H1 v (Le.refl g1) S1 hv
def sRetN : SM := fun st => .val (.ret ⟨.non, false⟩) st
theorem ds_retN {pos : Pos} : DenS X W (.Return none pos) sRetN := fun en g st σ H E hT S q => bs ps_retN (q g σ H _ (Le.refl g) S rr_non)
def sPass : SM := fun st => .val .nx st
def sBrk : SM := fun st => .val .brk st
def sCnt : SM := fun st => .val .cnt st
theorem ds_pass {pos : Pos} : DenS X W (.Pass pos) sPass := fun en g st σ H E hT S q => bs ps_pass (q g σ H (Le.refl g) S)
theorem ds_brk {pos : Pos} : DenS X W (.Break pos) sBrk := fun en g st σ H E hT S q => bs ps_break (q g σ H (Le.refl g) S)
theorem ds_cnt {pos : Pos} : DenS X W (.Continue pos) sCnt := fun en g st σ H E hT S q => bs ps_continue (q g σ H (Le.refl g) S)
def sIf (c : TM) (a b : SM) : SM := fun st => (c st).bind fun x st1 => if x then a st1 else b st1
theorem ds_if {c : Expr} {a b : List Stmt} {mc : TM} {ma mb : SM} {pos : Pos} (hc : DenT X W c mc) (ha : DenSs X W a ma) (hb : DenSs X W b mb) : DenS X W (.If c a b pos) (sIf mc ma mb) := by
  intro en g st σ H E hT S q
  refine bs (ps_if (pbT c) (pbSs a) (pbSs b)) (hc en g st σ H _ hT S ((OutS.bindE q).mono (Le.refl g) fun x st1 g1 H1 l1 S1 q1 => ?_))
  cases x with
  | true => exact ha en g1 st1 σ H1 E hT S1 q1
  | false => exact hb en g1 st1 σ H1 E hT S1 q1
/-- a loop's turn: what the body's end means -/
def turnEnd (k : AS → Out Fl) : Fl → AS → Out Fl
  | .nx, st => k st
  | .cnt, st => k st
  | .brk, st => .val .nx st
  | .ret r, st => .val (.ret r) st
/-- turns enough -/
def BIG : Nat := 10000000000000000000000000000000000000000000000000000000000000000000000000000000000000000000000000000
def whileM : Nat → TM → SM → SM
  | 0, _, _ => fun _ => .bad
  | n + 1, c, body => fun st => (c st).bind fun b st1 => if b then (body st1).bind (turnEnd (whileM n c body)) else .val .nx st1
theorem ds_while {c : Expr} {b : List Stmt} {mc : TM} {mb : SM} {pos : Pos} (n : Nat) (C : Ctx X W) (hc : DenT X W c mc) (hb : DenSs X W b mb) : DenS X W (.While c b [] pos) (whileM n mc mb) := by
  intro en g st σ H E hT S q
  refine bs (ps_while C.po (pbT c) (pbSs b)) ⟨fun m σ H => ∃ g st, Sim X.K en g st σ H ∧ OutS X.K en W g E (whileM m mc mb st), ⟨n, g, st, S, q⟩, ?_⟩
  rintro m σ H ⟨g, st, S, q⟩
  cases m with
  | zero => exact q.elim
  | succ m =>
    refine hc en g st σ H _ hT S ((OutS.bindE q).mono (Le.refl g) fun x st1 g1 H1 l1 S1 q1 => ?_)
    cases x with
    | false => exact q1 g1 σ H1 (Le.refl g1) S1
    | true =>
      rw [if_pos rfl] at q1
      refine ⟨fun σ' H' => ∃ g st, Sim X.K en g st σ' H' ∧ OutS X.K en W g E (whileM m mc mb st), fun σ' H' h => ⟨m, Nat.lt_succ_self m, h⟩, hb en g1 st1 σ H1 _ hT S1 (q1.bind ?_ ?_ ?_ ?_)⟩
      · exact fun st' g' σ' H' l S' q' => ⟨g', st', S', q'⟩
      · exact fun r st' g' σ' H' v l S' hv q' => q' g' σ' H' v (Le.refl g') S' hv
      · exact fun st' g' σ' H' l S' q' => q' g' σ' H' (Le.refl g') S'
      · exact fun st' g' σ' H' l S' q' => ⟨g', st', S', q'⟩
/-- a, b = x, y -/
def sPar (i j : Nat) (a : AM) : SM := fun st => (a st).bind fun ds st1 => match ds with
  | [d, e] => .val .nx ((st1.put i (some ⟨d, false⟩)).put j (some ⟨e, false⟩))
  | _ => .bad
theorem RR.put {K : PySem.W.Frag} {en : En} {g : Gh} {st : AS} {σ : L2.St} {H : Hp} {d : D} {v : V} (h : Rep K g d v) : RR K en g st σ H ⟨d, false⟩ v := .inl ⟨rfl, h⟩
theorem ds_par {i j : Nat} {x y : Str} {a b : Expr} {ma : AM} {px py pt pos : Pos} {kt k2 : Nat} {pt2 : Pos} (C : Ctx X W) (hi : X.N[i]? = some x) (hj : X.N[j]? = some y) (hij : i ≠ j)
    (hx : X.env.scope.names.lookup x = some .local) (hy : X.env.scope.names.lookup y = some .local) (ha : DenA X W [a, b] ma)
    (hw : swappedStores [.Tuple [.Name x px, .Name y py] kt pt] (.Tuple [a, b] k2 pt2) X.env = pure (some [x, y]))
    (hs : swapsWithSole [.Tuple [.Name x px, .Name y py] kt pt] (.Tuple [a, b] k2 pt2) pos.line X.env = pure false := by rfl) :
    DenS X W (.Assign [.Tuple [.Name x px, .Name y py] kt pt] (.Tuple [a, b] k2 pt2) pos) (sPar i j ma) := by
  intro en g st σ H E hT S q
  refine bs (ps_par C.calm C.nd hi hj hij hx hy (pbA _) hw hs) (ha en g st σ H _ hT S ((OutS.bindE q).mono (Le.refl g) fun ds st1 g1 H1 l1 S1 q1 => ?_))
  intro vs hv
  split at q1
  · rename_i d e
    simp only [Reps] at hv
    obtain ⟨v, r, rfl, hd, w, r', rfl, he, rfl⟩ := hv
    exact ⟨v, w, rfl, q1 g1 _ H1 (Le.refl g1) ((S1.put (RR.put hd)).put (RR.put he))⟩
  · exact q1.elim
def bestG (X : Cx) (tg : Expr) : TG := fun v σ H Q => ∀ pins s u, Inv X pins σ H s → RelV v u → wpAny (model X.prog X.w) X.A (assign tg X.env u) (fun _ s' => ∃ σ' H', Inv X pins σ' H' s' ∧ Q σ' H') X.xe s
def bestGs (X : Cx) (ts : List Expr) : TGs := fun vs σ H Q => ∀ pins s us, Inv X pins σ H s → Vals vs us → wpAny (model X.prog X.w) X.A (assignInOrder ((assignEach ts X.env).map (·.2)) us) (fun _ s' => ∃ σ' H', Inv X pins σ' H' s' ∧ Q σ' H') X.xe s
theorem pbG {X : Cx} (tg : Expr) : PG X tg (bestG X tg) := ⟨fun pins s σ H v u Q I r h => h pins s u I r⟩
theorem pbGs {X : Cx} (ts : List Expr) : PGs X ts (bestGs X ts) := ⟨fun pins s σ H v u Q I r h => h pins s u I r⟩
theorem bg {tg : Expr} {t : TG} {v : V} {σ : L2.St} {H : Hp} {Q : L2.St → Hp → Prop} (h : PG X tg t) (q : t v σ H Q) : bestG X tg v σ H Q := fun pins s u I r => h.run pins s σ H v u Q I r q
theorem bgs {ts : List Expr} {t : TGs} {v : List V} {σ : L2.St} {H : Hp} {Q : L2.St → Hp → Prop} (h : PGs X ts t) (q : t v σ H Q) : bestGs X ts v σ H Q := fun pins s u I r => h.run pins s σ H v u Q I r q
theorem wipe_set {σ : L2.St} {t : Nat} {x : Option V} : ∀ {vs : List Nat}, t ∈ vs → wipe (σ.set t x) vs = wipe σ vs := by
  intro vs h
  have comm : ∀ (vs : List Nat), wipe (σ.set t x) vs = (wipe σ vs).set t ((wipe (σ.set t x) vs)[t]?.join) ∨ (wipe (σ.set t x) vs) = wipe σ vs := by
    intro vs
    induction vs with
    | nil =>
      by_cases hl : t < σ.length
      · refine .inl ?_
        show σ.set t x = σ.set t ((σ.set t x)[t]?.join)
        rw [set_eq hl]
        rfl
      · refine .inr ?_
        show σ.set t x = σ
        exact List.set_eq_of_length_le (by omega)
    | cons v vs ih =>
      show (wipe (σ.set t x) vs).set v none = ((wipe σ vs).set v none).set t (((wipe (σ.set t x) vs).set v none)[t]?.join) ∨ (wipe (σ.set t x) vs).set v none = (wipe σ vs).set v none
      by_cases e : v = t
      · subst e
        refine .inr ?_
        rcases ih with ih | ih
        · rw [ih, List.set_set]
        · rw [ih]
      · rcases ih with ih | ih
        · refine .inl ?_
          have e2 : ((wipe (σ.set t x) vs).set v none)[t]? = (wipe (σ.set t x) vs)[t]? := set_ne (fun z => e z.symm)
          rw [e2, List.set_comm _ _ e, ← ih]
        · exact .inr (by rw [ih])
  induction vs with
  | nil => cases h
  | cons v vs ih =>
    show (wipe (σ.set t x) vs).set v none = (wipe σ vs).set v none
    by_cases e : v = t
    · subst e
      rcases comm vs with c | c
      · rw [c, List.set_set]
      · rw [c]
    · rw [ih ((List.mem_cons.mp h).resolve_left (fun z => e z.symm))]
/-- only these slots differ -/
def OnlyAt (ts : List Nat) (σ σ' : L2.St) : Prop := ∀ vs : List Nat, (∀ t ∈ ts, t ∈ vs) → wipe σ' vs = wipe σ vs
def DenG (X : Cx) (tg : Expr) (ts : List Nat) (G : GM) : Prop := ∀ (en : En) (g : Gh) (st st' : AS) (σ : L2.St) (H : Hp) (d : D) (v : V) (Q : L2.St → Hp → Prop), Sim X.K en g st σ H → Rep X.K g d v → G d st = some st' → (∀ σ', Sim X.K en g st' σ' H → OnlyAt ts σ σ' → Q σ' H) → bestG X tg v σ H Q
def DenGs (X : Cx) (ts : List Expr) (is : List Nat) (G : List D → AS → Option AS) : Prop := ∀ (en : En) (g : Gh) (st st' : AS) (σ : L2.St) (H : Hp) (ds : List D) (vs : List V) (Q : L2.St → Hp → Prop), Sim X.K en g st σ H → Reps X.K g ds vs → G ds st = some st' → (∀ σ', Sim X.K en g st' σ' H → OnlyAt is σ σ' → Q σ' H) → bestGs X ts vs σ H Q
def gNm (i : Nat) : GM := fun d st => some (st.put i (some ⟨d, false⟩))
theorem dg_nm {i : Nat} {x : Str} {pos : Pos} (hN : X.N.Nodup) (hi : X.N[i]? = some x) (hx : L2.Loc X.env.scope x) (hf : X.fn x = true ∨ X.env.scope.names.lookup x = some .local := by first | exact .inl rfl | exact .inr rfl) : DenG X (.Name x pos) [i] (gNm i) := by
  intro en g st st' σ H d v Q S hr e q
  cases e
  exact bg (pg_name hN hi hx hf) (q _ (S.put (RR.put hr)) fun vs h => wipe_set (h i (List.mem_singleton.mpr rfl)))
def gsNil : List D → AS → Option AS := fun ds st => match ds with
  | [] => some st
  | _ => none
def gsCons (G : GM) (Gs : List D → AS → Option AS) : List D → AS → Option AS := fun ds st => match ds with
  | d :: r => (G d st).bind fun st1 => Gs r st1
  | [] => none
theorem dgs_nil : DenGs X [] [] gsNil := by
  intro en g st st' σ H ds vs Q S hr e q
  cases ds with
  | nil =>
    simp only [gsNil, Option.some.injEq] at e
    subst e
    simp only [Reps] at hr
    exact bgs pgs_nil ⟨hr, q _ S fun vs _ => rfl⟩
  | cons d r => simp [gsNil] at e
theorem dgs_cons {t : Expr} {ts : List Expr} {i1 i2 : List Nat} {G : GM} {Gs : List D → AS → Option AS} (h : DenG X t i1 G) (k : DenGs X ts i2 Gs) (hs : (assignEach (t :: ts) X.env).map (·.2) = assign t X.env :: (assignEach ts X.env).map (·.2) := by rfl) : DenGs X (t :: ts) (i1 ++ i2) (gsCons G Gs) := by
  intro en g st st' σ H ds vs Q S hr e q
  cases ds with
  | nil => simp [gsCons] at e
  | cons d r =>
    simp only [gsCons] at e
    obtain ⟨st1, e1, e2⟩ := Option.bind_eq_some_iff.mp e
    simp only [Reps] at hr
    obtain ⟨v, r', rfl, h1, h2⟩ := hr
    exact bgs (pgs_cons (pbG t) (pbGs ts) hs) ⟨v, r', rfl, h en g st st1 σ H d v _ S h1 e1 fun σ1 S1 o1 => k en g st1 st' σ1 H r r' Q S1 h2 e2 fun σ2 S2 o2 => q σ2 S2 fun vs hv => (o2 vs fun t ht => hv t (List.mem_append_right _ ht)).trans (o1 vs fun t ht => hv t (List.mem_append_left _ ht))⟩
def gTp (Gs : List D → AS → Option AS) : GM := fun d st => match d with
  | .tup ds => Gs ds st
  | _ => none
def gLs (Gs : List D → AS → Option AS) : GM := fun d st => match d with
  | .lst ds => Gs ds st
  | _ => none
theorem gs_len {ts : List Expr} {n : Nat} {k : Nat} {pos : Pos} {Gs : List D → AS → Option AS} {ds : List D} {st st' : AS} (hl : ∀ ds st st', Gs ds st = some st' → ds.length = n) (e : Gs ds st = some st') : ds.length = n := hl ds st st' e
theorem dg_tp {ts : List Expr} {is : List Nat} {n k : Nat} {pos : Pos} {Gs : List D → AS → Option AS} (hc : X.calm = true) (h : DenGs X ts is Gs) (hl : ∀ ds st st', Gs ds st = some st' → ds.length = n)
    (hn : (assignEach ts X.env).length = n := by rfl) (hst : (assignEach ts X.env).findIdx? (·.1) = none := by rfl) : DenG X (.Tuple ts k pos) is (gTp Gs) := by
  intro en g st st' σ H d v Q S hr e q
  cases d <;> simp only [gTp, reduceCtorEq] at e
  simp only [Rep] at hr
  obtain ⟨a, vs, rfl, t, r⟩ := hr
  exact bg (pg_tup hc (pbGs ts) hn hst) ⟨a, vs, rfl, S.tupAt t, by rw [← r.length]; exact hl _ _ _ e, h en g st st' σ H _ vs Q S r e q⟩
theorem dg_ls {ts : List Expr} {is : List Nat} {n k : Nat} {pos : Pos} {Gs : List D → AS → Option AS} (hc : X.calm = true) (h : DenGs X ts is Gs) (hl : ∀ ds st st', Gs ds st = some st' → ds.length = n)
    (hn : (assignEach ts X.env).length = n := by rfl) (hst : (assignEach ts X.env).findIdx? (·.1) = none := by rfl) : DenG X (.Tuple ts k pos) is (gLs Gs) := by
  intro en g st st' σ H d v Q S hr e q
  cases d <;> simp only [gLs, reduceCtorEq] at e
  simp only [Rep] at hr
  obtain ⟨a, vs, rfl, t, r⟩ := hr
  exact bg (pg_unl hc (pbGs ts) hn hst) ⟨a, vs, rfl, .inl (.inl ((S.kn _ _ t).at_ rfl)), by rw [← r.length]; exact hl _ _ _ e, h en g st st' σ H _ vs Q S r e q⟩
theorem gl_nil : ∀ ds st st', gsNil ds st = some st' → ds.length = 0 := by
  intro ds st st' e
  cases ds with
  | nil => rfl
  | cons d r => simp [gsNil] at e
theorem gl_cons {n : Nat} {G : GM} {Gs : List D → AS → Option AS} (h : ∀ ds st st', Gs ds st = some st' → ds.length = n) : ∀ ds st st', gsCons G Gs ds st = some st' → ds.length = n + 1 := by
  intro ds st st' e
  cases ds with
  | nil => simp [gsCons] at e
  | cons d r =>
    simp only [gsCons] at e
    obtain ⟨st1, _, e2⟩ := Option.bind_eq_some_iff.mp e
    rw [List.length_cons, h r st1 st' e2]
/-- target = e -/
def sAsg (m : EM) (G : GM) : SM := fun st => (m st).bind fun r st1 => match G r.d st1 with
  | some st2 => .val .nx st2
  | none => .bad
theorem ds_asg {tg e : Expr} {is : List Nat} {m : EM} {G : GM} {pos : Pos} (h : DenE X W e m) (hg : DenG X tg is G) (hs : swapsWithSole [tg] e pos.line X.env = pure false := by rfl) (hw : swappedStores [tg] e X.env = pure none := by rfl)
    (h1 : (assignEach [tg] X.env).map (·.2) = [assign tg X.env] := by rfl) : DenS X W (.Assign [tg] e pos) (sAsg m G) := by
  intro en g st σ H E hT S q
  refine bs (ps_asg (pbE e) (pbG tg) hs hw h1) (h.sealed hT S ((OutS.bindE q).mono (Le.refl g) fun r st1 g1 H1 l1 S1 q1 => ?_))
  intro v hv
  split at q1
  · rename_i st2 e2
    exact hg en g1 st1 st2 σ H1 r.d v _ S1 hv e2 fun σ' S' _ => q1 g1 σ' H1 (Le.refl g1) S'
  · exact q1.elim
end
end Ab
namespace Ab
open PySem PySem.Spec PyProof.Rows L2
/-- what is walked: the items; the guard says that they still stand -/
structure Src where
  ds : List D
  ok : AS → Bool
abbrev IM := AS → Out Src
/-- g' knows more (its pins apart) -/
structure LeK (g g' : Gh) : Prop where
  kn : ∀ a u, g.kn a u → g'.kn a u
  m : ∀ (i : Nat) (a : Addr), g.m[i]? = some a → g'.m[i]? = some a
theorem Le.k {g g' : Gh} (l : Le g g') : LeK g g' := ⟨l.kn, l.m⟩
theorem LeK.refl (g : Gh) : LeK g g := ⟨fun _ _ h => h, fun _ _ h => h⟩
theorem LeK.trans {a b c : Gh} (x : LeK a b) (y : LeK b c) : LeK a c := ⟨fun p u h => y.kn p u (x.kn p u h), fun i p h => y.m i p (x.m i p h)⟩
theorem Reps.leK {K : PySem.W.Frag} {g g' : Gh} (l : LeK g g') {d : List D} {v : List V} (h : Reps K g d v) : Reps K g' d v := Reps.mono l.kn l.m d v h
theorem Rep.leK {K : PySem.W.Frag} {g g' : Gh} (l : LeK g g') {d : D} {v : V} (h : Rep K g d v) : Rep K g' d v := Rep.mono l.kn l.m d v h
structure Walks (K : PySem.W.Frag) (en : En) (g1 : Gh) (J : It) (s : Src) : Prop where
  stop : ∀ (i : Nat) (g : Gh) (st : AS) (σ : L2.St) (H : Hp), LeK g1 g → Sim K en g st σ H → s.ok st = true → s.ds.length ≤ i → J.stop i H
  go : ∀ (i : Nat) (g : Gh) (st : AS) (σ : L2.St) (H : Hp), LeK g1 g → Sim K en g st σ H → s.ok st = true → i < s.ds.length → J.go i H
  yld : ∀ (i : Nat) (g : Gh) (st : AS) (σ : L2.St) (H : Hp) (x : V) (H' : Hp) (d : D), LeK g1 g → Sim K en g st σ H → s.ok st = true → s.ds[i]? = some d → J.yld i H x H' → ∃ g', Le g g' ∧ Sim K en g' st σ H' ∧ Rep K g' d x
def bestI (X : Cx) (tg iter : Expr) : TI := fun σ H R => ∀ pins s, Inv X pins σ H s → wpAny (model X.prog X.w) X.A (eval iter X.env) (fun v s1 => wpAny (model X.prog X.w) X.A (pyIter v) (PIE X pins σ tg R) X.xe s1) X.xe s
theorem pbI {X : Cx} (tg iter : Expr) : PI X tg iter (bestI X tg iter) := ⟨fun pins s σ H R I h => h pins s I⟩
theorem bi {X : Cx} {tg iter : Expr} {t : TI} {σ : L2.St} {H : Hp} {R : It → Hp → Prop} (h : PI X tg iter t) (q : t σ H R) : bestI X tg iter σ H R := fun pins s I => h.run pins s σ H R I q
def DenI (X : Cx) (W : WT) (tg iter : Expr) (m : IM) : Prop := ∀ (en : En) (g : Gh) (st : AS) (σ : L2.St) (H : Hp) (R : It → Hp → Prop), en.T = W.T → Sim X.K en g st σ H →
  OutP X.K en W g σ (fun s st' g' H' => ∀ J, Walks X.K en g' J s → R J H') (m st) → bestI X tg iter σ H R
section
variable {X : Cx} {W : WT}
/-- the turns of a for -/
def forG (ok : AS → Bool) (G : GM) (body : SM) : List D → SM
  | [] => fun st => if ok st then .val .nx st else .bad
  | d :: r => fun st => if ok st then (match G d st with
    | some st1 => (body st1).bind (turnEnd (forG ok G body r))
    | none => .bad) else .bad
def sFor (m : IM) (G : GM) (body : SM) : SM := fun st => (m st).bind fun s st1 => forG s.ok G body s.ds st1
theorem ds_for {tg iter : Expr} {is : List Nat} {b : List Stmt} {m : IM} {G : GM} {mb : SM} {pos : Pos} (C : Ctx X W) (hi : DenI X W tg iter m) (hg : DenG X tg is G) (hb : DenSs X W b mb) (hs : ∀ x, foldedSetIterable iter X.env x = pure x := by intro _; rfl) : DenS X W (.For tg iter b [] pos) (sFor m G mb) := by
  intro en g st σ H E hT S q
  refine bs (ps_for C.po C.calm (pbI tg iter) (pbG tg) (pbSs b) hs) (hi en g st σ H _ hT S ((OutS.bindE q).mono (Le.refl g) fun s st1 g1 H1 l1 S1 q1 => ?_))
  intro J wk
  refine ⟨fun i m σ H => m = s.ds.length - i ∧ i ≤ s.ds.length ∧ ∃ g st, Le g1 g ∧ Sim X.K en g st σ H ∧ OutS X.K en W g E (forG s.ok G mb (s.ds.drop i) st), ⟨s.ds.length, by omega, Nat.zero_le _, g1, st1, Le.refl g1, S1, q1⟩, ?_⟩
  rintro i m σ H ⟨hm, hle, g2, st2, l2, S2, q2⟩
  by_cases hi : i < s.ds.length
  · obtain ⟨d, hd⟩ : ∃ d, s.ds[i]? = some d := ⟨_, List.getElem?_eq_getElem hi⟩
    have ed : s.ds.drop i = d :: s.ds.drop (i + 1) := by
      rw [List.drop_eq_getElem_cons hi]
      rw [List.getElem?_eq_getElem hi] at hd
      rw [Option.some.inj hd]
    rw [ed] at q2
    simp only [forG] at q2
    split at q2
    · rename_i hok
      split at q2
      · rename_i st3 e3
        refine .inr ⟨wk.go i g2 st2 σ H l2.k S2 hok hi, fun σ' H' => ∃ g st, Le g1 g ∧ Sim X.K en g st σ' H' ∧ OutS X.K en W g E (forG s.ok G mb (s.ds.drop (i + 1)) st), fun σ' H' h => ⟨m - 1, by omega, by omega, by omega, h⟩, fun x H' hy => ?_⟩
        obtain ⟨g3, l3, S3, hx⟩ := wk.yld i g2 st2 σ H x H' d l2.k S2 hok hd hy
        refine hg en g3 st2 st3 σ H' d x _ S3 hx e3 fun σ' S' _ => hb en g3 st3 σ' H' _ hT S' ((q2.mono l3).bind ?_ ?_ ?_ ?_)
        · exact fun st' g' σ' H' l S' q' => ⟨g', st', (l2.trans l3).trans l, S', q'⟩
        · exact fun r st' g' σ' H' v l S' hv q' => q' g' σ' H' v (Le.refl g') S' hv
        · exact fun st' g' σ' H' l S' q' => q' g' σ' H' (Le.refl g') S'
        · exact fun st' g' σ' H' l S' q' => ⟨g', st', (l2.trans l3).trans l, S', q'⟩
      · exact q2.elim
    · exact q2.elim
  · have e : s.ds.drop i = [] := List.drop_eq_nil_iff.mpr (by omega)
    rw [e] at q2
    simp only [forG] at q2
    split at q2
    · rename_i hok
      exact .inl ⟨wk.stop i g2 st2 σ H l2.k S2 hok (by omega), q2 g2 σ H (Le.refl g2) S2⟩
    · exact q2.elim
def okT : AS → Bool := fun _ => true
/-- a list for good -/
def iL (m : EM) : IM := fun st => (m st).bind fun r st1 => match r.d with
  | .lst ds => .val ⟨ds, okT⟩ st1
  | _ => .bad
def iT (m : EM) : IM := fun st => (m st).bind fun r st1 => match r.d with
  | .tup ds => .val ⟨ds, okT⟩ st1
  | _ => .bad
theorem walks_list {K : PySem.W.Frag} {en : En} {g : Gh} {a : Addr} {ds : List D} {vs : List V} (hk : g.kn a (.lst vs)) (hr : Reps K g ds vs) : Walks K en g (Itl K a) ⟨ds, okT⟩ where
  stop := fun i g' st σ H l S _ h => ⟨vs, .inl (.inl ((S.kn _ _ (l.kn _ _ hk)).at_ rfl)), hr.length ▸ h⟩
  go := fun i g' st σ H l S _ h => ⟨vs, vs[i]'(hr.length ▸ h), .inl (.inl ((S.kn _ _ (l.kn _ _ hk)).at_ rfl)), List.getElem?_eq_getElem _⟩
  yld := fun i g' st σ H x H' d l S _ e ⟨e1, e2⟩ => by
    subst e1
    obtain ⟨v, e3, e4⟩ := (hr.leK l).get e
    have := e2 vs (.inl (.inl ((S.kn _ _ (l.kn _ _ hk)).at_ rfl)))
    rw [e3] at this
    cases this
    exact ⟨g', Le.refl _, S, e4⟩
theorem walks_tup {K : PySem.W.Frag} {en : En} {g : Gh} {a : Addr} {ds : List D} {vs : List V} (hk : TupAt K g a vs) (hr : Reps K g ds vs) : Walks K en g (Itt K a) ⟨ds, okT⟩ where
  stop := fun i g' st σ H l S _ h => ⟨vs, S.tupAt (hk.imp (l.kn _ _) id), hr.length ▸ h⟩
  go := fun i g' st σ H l S _ h => ⟨vs, vs[i]'(hr.length ▸ h), S.tupAt (hk.imp (l.kn _ _) id), List.getElem?_eq_getElem _⟩
  yld := fun i g' st σ H x H' d l S _ e ⟨e1, e2⟩ => by
    subst e1
    obtain ⟨v, e3, e4⟩ := (hr.leK l).get e
    have := e2 vs (S.tupAt (hk.imp (l.kn _ _) id))
    rw [e3] at this
    cases this
    exact ⟨g', Le.refl _, S, e4⟩
theorem di_L {tg e : Expr} {m : EM} (h : DenE X W e m) : DenI X W tg e (iL m) := by
  intro en g st σ H R hT S q
  refine bi (pi_list (pbE e)) (h.sealed hT S (q.bind.mono (Le.refl g) fun r st1 g1 H1 l1 S1 q1 => ?_))
  intro v hv
  generalize r.d = d at hv q1
  cases d <;> simp only at q1
  · exact q1.elim
  · exact q1.elim
  · exact q1.elim
  · exact q1.elim
  · exact q1.elim
  · simp only [Rep] at hv
    obtain ⟨a, vs, rfl, hk, hr⟩ := hv
    exact ⟨a, rfl, ⟨vs, .inl (.inl ((S1.kn _ _ hk).at_ rfl))⟩, q1 g1 H1 (Le.refl g1) S1 _ (walks_list hk hr)⟩
  · exact q1.elim
  · exact q1.elim
  · exact q1.elim
  · exact q1.elim
theorem di_T {tg e : Expr} {m : EM} (h : DenE X W e m) : DenI X W tg e (iT m) := by
  intro en g st σ H R hT S q
  refine bi (pi_tup (pbE e)) (h.sealed hT S (q.bind.mono (Le.refl g) fun r st1 g1 H1 l1 S1 q1 => ?_))
  intro v hv
  generalize r.d = d at hv q1
  cases d <;> simp only at q1
  · exact q1.elim
  · exact q1.elim
  · exact q1.elim
  · exact q1.elim
  · simp only [Rep] at hv
    obtain ⟨a, vs, rfl, hk, hr⟩ := hv
    exact ⟨a, rfl, ⟨vs, S1.tupAt hk⟩, q1 g1 H1 (Le.refl g1) S1 _ (walks_tup hk hr)⟩
  · exact q1.elim
  · exact q1.elim
  · exact q1.elim
  · exact q1.elim
  · exact q1.elim
/-- range(lo, hi) -/
def rngD (lo hi : Int) : List D := (List.range (hi - lo).toNat).map fun i => .int (lo + (i : Nat))
theorem walks_rng {K : PySem.W.Frag} {en : En} {g : Gh} {lo hi : Int} : Walks K en g (Itr lo (hi - lo).toNat) ⟨rngD lo hi, okT⟩ where
  stop := fun i g' st σ H l S _ h => by
    simp only [rngD, List.length_map, List.length_range] at h
    exact h
  go := fun i g' st σ H l S _ h => by
    simp only [rngD, List.length_map, List.length_range] at h
    exact h
  yld := fun i g' st σ H x H' d l S _ e ⟨e1, e2⟩ => by
    subst e1 e2
    simp only [rngD, List.getElem?_map, Option.map_eq_some_iff] at e
    obtain ⟨j, e1, rfl⟩ := e
    rw [List.getElem?_range] at e1
    · cases e1
      exact ⟨g', Le.refl _, S, by simp only [Rep]⟩
    · have := (List.getElem?_eq_some_iff.mp e1).1
      simpa using this
def smallI (i : Int) : Bool := decide (-(2 ^ 62) ≤ i) && decide (i < 2 ^ 62)
theorem smallI_ok {i : Int} (h : smallI i = true) : -(2 ^ 62) ≤ i ∧ i < 2 ^ 62 := by
  simp only [smallI, Bool.and_eq_true, decide_eq_true_eq] at h
  exact h
def iR1 (a : AM) : IM := fun st => (a st).bind fun ds st1 => match ds with
  | [.int n] => if smallI n then .val ⟨rngD 0 n, okT⟩ st1 else .bad
  | _ => .bad
def iR2 (a : AM) : IM := fun st => (a st).bind fun ds st1 => match ds with
  | [.int lo, .int hi] => if smallI lo && smallI hi then .val ⟨rngD lo hi, okT⟩ st1 else .bad
  | _ => .bad
theorem di_r1 {tg a : Expr} {m : AM} {p pos : Pos} (hg : Gl X "range") (hm : X.mg "range" = none) (ha : DenA X W [a] m) (hs : starEach [a] X.env = [(false, eval a X.env)] := by rfl) : DenI X W tg (.Call (.Name "range" p) [a] [] pos) (iR1 m) := by
  intro en g st σ H R hT S q
  refine bi (pi_range1 hg hm (pbA _) hs) (ha en g st σ H _ hT S (q.bind.mono (Le.refl g) fun ds st1 g1 H1 l1 S1 q1 => ?_))
  intro vs hv
  split at q1
  · rename_i n
    split at q1
    · rename_i hn
      simp only [Reps, Rep] at hv
      obtain ⟨_, _, rfl, rfl, rfl⟩ := hv
      obtain ⟨h1, h2⟩ := smallI_ok hn
      have := q1 g1 H1 (Le.refl g1) S1 (Itr 0 (n - 0).toNat) walks_rng
      rw [Int.sub_zero] at this
      exact ⟨n, rfl, h1, h2, this⟩
    · exact q1.elim
  · exact q1.elim
theorem di_r2 {tg a b : Expr} {m : AM} {p pos : Pos} (hg : Gl X "range") (hm : X.mg "range" = none) (ha : DenA X W [a, b] m) (hs : starEach [a, b] X.env = [(false, eval a X.env), (false, eval b X.env)] := by rfl) (hs2 : starEach [b] X.env = [(false, eval b X.env)] := by rfl) : DenI X W tg (.Call (.Name "range" p) [a, b] [] pos) (iR2 m) := by
  intro en g st σ H R hT S q
  refine bi (pi_range2 hg hm (pbA _) hs hs2) (ha en g st σ H _ hT S (q.bind.mono (Le.refl g) fun ds st1 g1 H1 l1 S1 q1 => ?_))
  intro vs hv
  split at q1
  · rename_i lo hi
    split at q1
    · rename_i hn
      simp only [Bool.and_eq_true] at hn
      simp only [Reps, Rep] at hv
      obtain ⟨_, _, rfl, rfl, _, _, rfl, rfl, rfl⟩ := hv
      obtain ⟨h1, h2⟩ := smallI_ok hn.1
      obtain ⟨h3, h4⟩ := smallI_ok hn.2
      exact ⟨lo, hi, rfl, ⟨h1, h2, h3, h4⟩, q1 g1 H1 (Le.refl g1) S1 _ walks_rng⟩
    · exact q1.elim
  · exact q1.elim
end
end Ab
namespace Ab
open PySem PySem.Spec PyProof.Rows L2
def wipeS (st : AS) : List Nat → AS
  | [] => st
  | v :: vs => (wipeS st vs).put v none
/-- the slots of before, as far as they are nobody's own -/
def unwipe (sl0 : List (Option R)) : List Nat → AS → AS
  | [], st => st
  | v :: vs, st => unwipe sl0 vs (st.put v (if vs.contains v then none else match sl0[v]? with
    | some (some r) => if r.own then none else some r
    | _ => none))
section
variable {K : PySem.W.Frag} {en : En} {g : Gh} {st : AS} {σ : L2.St} {H : Hp}
theorem Sim.wipes (S : Sim K en g st σ H) : ∀ vs : List Nat, Sim K en g (wipeS st vs) (L2.wipe σ vs) H
  | [] => S
  | v :: vs => (S.wipes vs).wipe v none
theorem wipe_get {σ : L2.St} {v : Nat} : ∀ {vs : List Nat}, v ∉ vs → (L2.wipe σ vs)[v]? = σ[v]?
  | [], _ => rfl
  | w :: vs, h => by
    show ((L2.wipe σ vs).set w none)[v]? = _
    rw [set_ne (fun z => h (by rw [z]; exact List.mem_cons_self)), wipe_get (fun z => h (List.mem_cons_of_mem _ z))]
theorem wipe_at {σ : L2.St} {j : Nat} : ∀ {vs : List Nat}, (L2.wipe σ vs)[j]? = if j ∈ vs then (σ[j]?).map (fun _ => none) else σ[j]?
  | [] => by simp [L2.wipe]
  | v :: vs => by
    show ((L2.wipe σ vs).set v none)[j]? = _
    by_cases e : j = v
    · subst e
      rw [if_pos List.mem_cons_self]
      by_cases hl : j < (L2.wipe σ vs).length
      · rw [set_eq hl]
        rw [wipe_length] at hl
        rw [List.getElem?_eq_getElem hl]
        rfl
      · rw [List.set_eq_of_length_le (by omega)]
        rw [wipe_length] at hl
        rw [List.getElem?_eq_none (by rw [wipe_length]; omega), List.getElem?_eq_none (by omega)]
        rfl
    · rw [set_ne e, wipe_at]
      simp [e]
theorem wipe_idem {σ : L2.St} {vs : List Nat} : L2.wipe (L2.wipe σ vs) vs = L2.wipe σ vs := by
  apply List.ext_getElem?
  intro j
  rw [wipe_at, wipe_at]
  split
  · cases σ[j]? <;> rfl
  · rfl
theorem Sim.unwipes {sl0 : List (Option R)} (hs : ∀ (v : Nat) (r : R), sl0[v]? = some (some r) → r.own = false → ∃ w, σ[v]? = some (some w) ∧ Rep K g r.d w) : ∀ (vs : List Nat) (st : AS), Sim K en g st (L2.wipe σ vs) H → Sim K en g (unwipe sl0 vs st) σ H
  | [], st, S => S
  | v :: vs, st, S => by
    have S : Sim K en g st ((L2.wipe σ vs).set v none) H := S
    refine Sim.unwipes hs vs _ ?_
    have e0 : ∀ x, ((L2.wipe σ vs).set v none).set v x = (L2.wipe σ vs).set v x := fun x => List.set_set ..
    by_cases hv : v < (L2.wipe σ vs).length
    · have e1 : (L2.wipe σ vs)[v]? = some (L2.wipe σ vs)[v] := List.getElem?_eq_getElem hv
      have e2 : ((L2.wipe σ vs).set v none).set v (L2.wipe σ vs)[v] = L2.wipe σ vs := by
        rw [e0]
        exact set_self e1
      have none_ : Sim K en g (st.put v none) (L2.wipe σ vs) H := by
        have := S.wipe v (L2.wipe σ vs)[v]
        rw [e2] at this
        exact this
      split
      · exact none_
      · rename_i hc
        split
        · rename_i r hr
          split
          · exact none_
          · rename_i ho
            obtain ⟨w, hw, hR⟩ := hs v r hr (by simpa using ho)
            have hn : v ∉ vs := by simpa using hc
            rw [← wipe_get hn] at hw
            have := S.put (i := v) (r := r) (v := w) (.inl ⟨by simpa using ho, hR⟩)
            rw [e0, set_self hw] at this
            exact this
        · exact none_
    · have e2 : (L2.wipe σ vs).set v none = L2.wipe σ vs := List.set_eq_of_length_le (by omega)
      rw [e2] at S
      have hl : ∀ x, st.put v x = st := fun x => by
        unfold AS.put
        rw [List.set_eq_of_length_le (by rw [S.len]; omega)]
      rw [hl]
      exact S
def Gh.pin (g : Gh) (p : Addr) (u : HO) : Gh := { g with px := (p, u) :: g.px }
theorem Rep.pin {d : D} {v : V} {p : Addr} {u : HO} (h : Rep K g d v) : Rep K (g.pin p u) d v := h.px
theorem Sim.pin (S : Sim K en g st σ H) {p : Addr} {u : HO} (e : H p = some u) (ht : isTbl u = false) (L : Loose en g st σ p) : Sim K en (g.pin p u) st σ H := { S with
  fz := fun i r h k => by
    obtain ⟨v, e1, e2⟩ := S.fz i r h k
    exact ⟨v, e1, e2.px⟩
  ow := fun i r h k => by
    obtain ⟨a, c, o, e1, e2, e3, e4, e5, e6, e7, e8⟩ := S.ow i r h k
    refine ⟨a, c, o, e1, e2, e3, e4.px, e5, e6, e7, fun q hq => ?_⟩
    rcases List.mem_cons.mp hq with rfl | hq
    · rintro rfl
      exact L.sl i r h k e1
    · exact e8 q hq
  ce := fun i c h => by
    obtain ⟨a, o, e1, e2, e3⟩ := S.ce i c h
    exact ⟨a, o, e1, e2, e3.px⟩
  px := fun q hq => by
    rcases List.mem_cons.mp hq with rfl | hq
    · exact ⟨e, L.kn, L.m, L.h0, ht⟩
    · exact S.px q hq
  pd := List.nodup_cons.mpr ⟨fun h => by
    obtain ⟨q, hq, e⟩ := List.mem_map.mp h
    exact L.px q hq e, S.pd⟩ }
theorem Sim.pinUpd {p : Addr} {u u' : HO} {l : List (Addr × HO)} (S : Sim K en g st σ H) (hp : g.px = (p, u) :: l) (hx : ∀ φ, u ≠ .ext φ) (ht : isTbl u' = false) : Sim K en { g with px := (p, u') :: l } st σ (upd H p u') := by
  have hm : (p, u) ∈ g.px := by rw [hp]; exact List.mem_cons_self
  obtain ⟨e, k1, k2, k3, k4⟩ := S.px _ hm
  have e : H p = some u := e
  have kne : ∀ b o, g.kn b o → b ≠ p := fun b o h z => k1 o (z ▸ h)
  exact { S with
    kn := fun a o h => (S.kn a o h).upd (kne a o h)
    fz := fun i r h k => by
      obtain ⟨v, e1, e2⟩ := S.fz i r h k
      exact ⟨v, e1, e2.px⟩
    ow := fun i r h k => by
      obtain ⟨a, c, o, e1, e2, e3, e4, e5, e6, e7, e8⟩ := S.ow i r h k
      have ne : a ≠ p := fun z => e8 _ hm z.symm
      refine ⟨a, c, o, e1, e2, by rw [upd_ne ne]; exact e3, e4.px, e5, e6, e7, fun q hq => ?_⟩
      rcases List.mem_cons.mp hq with rfl | hq
      · exact fun z => ne z.symm
      · exact e8 q (by rw [hp]; exact List.mem_cons_of_mem _ hq)
    ce := fun i c h => by
      obtain ⟨a, o, e1, e2, e3⟩ := S.ce i c h
      have ne : a ≠ p := by
        rintro rfl
        exact k2 (List.mem_of_getElem? e1)
      exact ⟨a, o, e1, by rw [upd_ne ne]; exact e2, e3.px⟩
    px := fun q hq => by
      rcases List.mem_cons.mp hq with rfl | hq
      · exact ⟨upd_same, k1, k2, k3, ht⟩
      · obtain ⟨f1, f2⟩ := S.px q (by rw [hp]; exact List.mem_cons_of_mem _ hq)
        have ne : q.1 ≠ p := by
          have := S.pd
          rw [hp, List.map_cons, List.nodup_cons] at this
          intro z
          exact this.1 (List.mem_map.mpr ⟨q, hq, z⟩)
        exact ⟨by rw [upd_ne ne]; exact f1, f2⟩
    pd := by
      have := S.pd
      rw [hp] at this
      exact this
    fr := fun a o h nd nt => (S.fr a o h nd nt).upd fun z => by rw [z, k3] at h; cases h
    tb := fun a ps h => by
      obtain ⟨qs, q⟩ := S.tb a ps h
      refine ⟨qs, ?_⟩
      rw [upd_ne]
      · exact q
      · rintro rfl
        rw [k3] at h
        cases h
    tt := tabs_upd S.tt e k4 hx }
theorem Sim.unpin {p : Addr} {u : HO} {l : List (Addr × HO)} (S : Sim K en g st σ H) (hp : g.px = (p, u) :: l) : Sim K en { g with px := l } st σ H ∧ Loose en { g with px := l } st σ p ∧ H p = some u := by
  have hm : (p, u) ∈ g.px := by rw [hp]; exact List.mem_cons_self
  obtain ⟨e, k1, k2, k3, k4⟩ := S.px _ hm
  refine ⟨{ S with
    fz := fun i r h k => by
      obtain ⟨v, e1, e2⟩ := S.fz i r h k
      exact ⟨v, e1, e2.px⟩
    ow := fun i r h k => by
      obtain ⟨a, c, o, e1, e2, e3, e4, e5, e6, e7, e8⟩ := S.ow i r h k
      exact ⟨a, c, o, e1, e2, e3, e4.px, e5, e6, e7, fun q hq => e8 q (by rw [hp]; exact List.mem_cons_of_mem _ hq)⟩
    ce := fun i c h => by
      obtain ⟨a, o, e1, e2, e3⟩ := S.ce i c h
      exact ⟨a, o, e1, e2, e3.px⟩
    px := fun q hq => S.px q (by rw [hp]; exact List.mem_cons_of_mem _ hq)
    pd := by
      have := S.pd
      rw [hp, List.map_cons, List.nodup_cons] at this
      exact this.2 }, ⟨k1, k2, k3, fun q hq => ?_, fun i r h o z => ?_⟩, e⟩
  · have := S.pd
    rw [hp, List.map_cons, List.nodup_cons] at this
    intro z
    exact this.1 (List.mem_map.mpr ⟨q, hq, z⟩)
  · obtain ⟨a, c, o', e1, _, _, _, _, _, _, e8⟩ := S.ow i r h o
    rw [e1] at z
    cases z
    exact e8 _ hm rfl
end
def compG (ok : AS → Bool) (vs : List Nat) (G : GM) (c : TM) (m : EM) : List D → List D → AS → Out (List D)
  | [], acc, st => if ok st then .val acc st else .bad
  | d :: r, acc, st => if ok st then (match G d st with
    | some st1 => (match c st1 with
      | .val true st2 => (match m st2 with
        | .val x st3 => if acc.length < LIM then compG ok vs G c m r (acc ++ [x.d]) (wipeS st3 vs) else .bad
        | _ => .bad)
      | .val false st2 => compG ok vs G c m r acc (wipeS st2 vs)
      | _ => .bad)
    | none => .bad) else .bad
def mComp (im : IM) (vs : List Nat) (G : GM) (c : TM) (m : EM) : EM := fun st => (im st).bind fun s st1 => match compG s.ok vs G c m s.ds [] (wipeS st1 vs) with
  | .val acc st2 => .val ⟨.lst acc, true⟩ (unwipe st1.sl vs st2)
  | _ => .bad
def tTrue : TM := fun st => .val true st
def bestTs (X : Cx) (ifs : List Expr) : TT := fun σ H Q => ∀ pins s, Inv X pins σ H s →
  wpAny (model X.prog X.w) X.A (forIn ifs true fun c r => if r = true then do let ok ← isTrue c X.env (eval c X.env); pure (ForInStep.yield ok) else pure (ForInStep.yield r)) (TP X pins σ Q) X.xe s
theorem pbTs {X : Cx} (ifs : List Expr) : PTs X ifs (bestTs X ifs) := ⟨fun pins s σ H Q I h => h pins s I⟩
def DenTs (X : Cx) (W : WT) (ifs : List Expr) (m : TM) : Prop := ∀ (en : En) (g : Gh) (st : AS) (σ : L2.St) (H : Hp) (Q : Bool → Hp → Prop), en.T = W.T → Sim X.K en g st σ H →
  OutP X.K en W g σ (fun b st' g' H' => Q b H') (m st) → bestTs X ifs σ H Q
theorem dts_nil {X : Cx} {W : WT} : DenTs X W [] tTrue := fun en g st σ H Q hT S h pins s I => pts_nil.run pins s σ H Q I (h g H (Le.refl g) S)
theorem dts_one {X : Cx} {W : WT} {c : Expr} {m : TM} (h : DenT X W c m) : DenTs X W [c] m := fun en g st σ H Q hT S q pins s I => (pts_one (pbT c)).run pins s σ H Q I (h en g st σ H Q hT S q)
abbrev W0 (W : WT) : WT := ⟨fun _ _ _ _ => False, W.T⟩
section
variable {X : Cx} {W : WT} {elt tg iter : Expr} {ifs : List Expr} {scope : Scope} {own : List (Str × Nat)} {is : List Nat} {im : IM} {G : GM} {c : TM} {m : EM}
abbrev BX (X : Cx) (scope : Scope) (s : Shared) (H : Hp) (C : Addr) (cl : List (Str × Addr)) (fp : List Addr) : Cx := X.blk s H scope (compEnvC scope cl C X.env) fp
def uG (X : Cx) (scope : Scope) (tg : Expr) : TG := fun v σ H Q => ∀ (s : Shared) (H' : Hp) (C : Addr) (cl : List (Str × Addr)) (fp : List Addr), bestG (BX X scope s H' C cl fp) tg v σ H Q
def uT (X : Cx) (scope : Scope) (ifs : List Expr) : TT := fun σ H Q => ∀ (s : Shared) (H' : Hp) (C : Addr) (cl : List (Str × Addr)) (fp : List Addr), bestTs (BX X scope s H' C cl fp) ifs σ H Q
def uE (X : Cx) (scope : Scope) (e : Expr) : TE := fun σ H Q => ∀ (s : Shared) (H' : Hp) (C : Addr) (cl : List (Str × Addr)) (fp : List Addr), bestE (BX X scope s H' C cl fp) e σ H Q
theorem puG (s : Shared) (H : Hp) (C : Addr) (cl : List (Str × Addr)) (fp : List Addr) : PG (BX X scope s H C cl fp) tg (uG X scope tg) := ⟨fun pins s' σ H' v u Q I r h => h s H C cl fp pins s' u I r⟩
theorem puT (s : Shared) (H : Hp) (C : Addr) (cl : List (Str × Addr)) (fp : List Addr) : PTs (BX X scope s H C cl fp) ifs (uT X scope ifs) := ⟨fun pins s' σ H' Q I h => h s H C cl fp pins s' I⟩
theorem puE (s : Shared) (H : Hp) (C : Addr) (cl : List (Str × Addr)) (fp : List Addr) : PE (BX X scope s H C cl fp) elt (uE X scope elt) := ⟨fun pins s' σ H' Q I h => h s H C cl fp pins s' I⟩
theorem lc_go {is : List Nat} (hi : DenI X W tg iter im)
    (hg : ∀ (s : Shared) (H : Hp) (C : Addr) (cl : List (Str × Addr)) (fp : List Addr), DenG (BX X scope s H C cl fp) tg is G) (hsub : ∀ t ∈ is, t ∈ own.map (·.2))
    (hc : ∀ (s : Shared) (H : Hp) (C : Addr) (cl : List (Str × Addr)) (fp : List Addr), DenTs (BX X scope s H C cl fp) (W0 W) ifs c)
    (he : ∀ (s : Shared) (H : Hp) (C : Addr) (cl : List (Str × Addr)) (fp : List Addr), DenE (BX X scope s H C cl fp) (W0 W) elt m)
    {en : En} {g : Gh} {st : AS} {σ : L2.St} {H : Hp} {Q : VK} (hT : en.T = W.T) (S : Sim X.K en g st σ H)
    (q : OutP X.K en W g σ (fun r st' g' H' => ∀ v, RR X.K en g' st' σ H' r v → Q v H') (mComp im (own.map (·.2)) G c m st)) :
    tLc (bestI X tg iter) (uG X scope tg) (uT X scope ifs) (uE X scope elt) (own.map (·.2)) σ H Q := by
  refine hi en g st σ H _ hT S (q.bind.mono (Le.refl g) fun s st1 g1 H1 l1 S1 q1 => ?_)
  intro J wk D nD
  -- what the rest of the walk is to reach
  have SD : Sim X.K en g1 st1 σ (upd H1 D (.lst [])) := S1.new nD
  have SP : Sim X.K en (g1.pin D (.lst [])) st1 σ (upd H1 D (.lst [])) := SD.pin upd_same rfl (by
    have L := S1.fresh nD
    exact { L with })
  generalize hvs : own.map (·.2) = vs at *
  refine ⟨fun i n H => n = s.ds.length - i ∧ i ≤ s.ds.length ∧ ∃ (g2 : Gh) (st2 : AS) (acc : List Ab.D) (ws : List V), LeK g1 g2 ∧ g2.lk = g1.lk ∧ g2.px = (D, .lst ws) :: g1.px ∧ Sim X.K en g2 st2 (L2.wipe σ vs) H ∧ Reps X.K g2 acc ws ∧
    (match compG s.ok vs G c m (s.ds.drop i) acc st2 with
      | .val acc' st3 => OutP X.K en W g1 σ (fun r st' g' H' => ∀ v, RR X.K en g' st' σ H' r v → Q v H') (.val ⟨.lst acc', true⟩ (unwipe st1.sl vs st3))
      | _ => False), ⟨s.ds.length, by omega, Nat.zero_le _, g1.pin D (.lst []), wipeS st1 vs, [], [], ⟨fun _ _ h => h, fun _ _ h => h⟩, rfl, rfl, SP.wipes vs, Reps.nil, ?_⟩, ?_⟩
  · rw [List.drop_zero]
    split at q1
    · exact q1
    · exact q1.elim
  rintro i n H2 ⟨hn, hle, g2, st2, acc, ws, lk, ll, hp, S2, ra, q2⟩
  by_cases hi : i < s.ds.length
  · obtain ⟨d, hd⟩ : ∃ d, s.ds[i]? = some d := ⟨_, List.getElem?_eq_getElem hi⟩
    have ed : s.ds.drop i = d :: s.ds.drop (i + 1) := by
      rw [List.drop_eq_getElem_cons hi]
      rw [List.getElem?_eq_getElem hi] at hd
      rw [Option.some.inj hd]
    rw [ed] at q2
    simp only [compG] at q2
    by_cases hok : s.ok st2 = true
    · rw [if_pos hok] at q2
      cases e3 : G d st2 with
      | none =>
        rw [e3] at q2
        exact q2.elim
      | some st3 =>
        rw [e3] at q2
        dsimp only at q2
        refine .inr ⟨wk.go i g2 st2 _ H2 lk S2 hok hi, fun H' => ∃ (g2 : Gh) (st2 : AS) (acc : List Ab.D) (ws : List V), LeK g1 g2 ∧ g2.lk = g1.lk ∧ g2.px = (D, .lst ws) :: g1.px ∧ Sim X.K en g2 st2 (L2.wipe σ vs) H' ∧ Reps X.K g2 acc ws ∧
          (match compG s.ok vs G c m (s.ds.drop (i + 1)) acc st2 with
            | .val acc' st3 => OutP X.K en W g1 σ (fun r st' g' H' => ∀ v, RR X.K en g' st' σ H' r v → Q v H') (.val ⟨.lst acc', true⟩ (unwipe st1.sl vs st3))
            | _ => False), fun H' h => ⟨n - 1, by omega, by omega, by omega, h⟩, fun x H' hy => ?_⟩
        obtain ⟨g3, l3, S3, hx⟩ := wk.yld i g2 st2 _ H2 x H' d lk S2 hok hd hy
        intro s0 H0 C cl fp
        refine hg s0 H0 C cl fp en g3 st2 st3 _ H' d x _ S3 hx e3 fun σ3 S3' o3 => ⟨?_, ?_⟩
        · have := o3 vs hsub
          rw [this]
          exact wipe_idem
        have ew : L2.wipe σ3 vs = L2.wipe σ vs := (o3 vs hsub).trans wipe_idem
        intro s1 H0' C' cl' fp'
        cases ec : c st3 with
        | bad =>
          rw [ec] at q2
          exact q2.elim
        | exc e s =>
          rw [ec] at q2
          exact q2.elim
        | val b st4 =>
          rw [ec] at q2
          refine hc s1 H0' C' cl' fp' en g3 st3 σ3 H' _ hT S3' ?_
          rw [ec]
          intro g4 H4 l4 S4
          cases b with
          | false =>
            dsimp only at q2
            refine ⟨g4, wipeS st4 vs, acc, ws, (lk.trans l3.k).trans l4.k, by rw [l4.lk, l3.lk, ll], by rw [l4.px, l3.px, hp], ?_, (ra.le l3).le l4, q2⟩
            have := S4.wipes vs
            rw [ew] at this
            exact this
          | true =>
            dsimp only at q2
            intro s2 H0'' C'' cl'' fp''
            cases em : m st4 with
            | bad =>
              rw [em] at q2
              exact q2.elim
            | exc e s =>
              rw [em] at q2
              exact q2.elim
            | val y st5 =>
              rw [em] at q2
              dsimp only at q2
              refine (he s2 H0'' C'' cl'' fp'').sealed hT S4 ?_
              rw [em]
              intro g5 H5 l5 S5 v hv
              have hp5 : g5.px = (D, .lst ws) :: g1.px := by rw [l5.px, l4.px, l3.px, hp]
              have hD := (S5.px (D, .lst ws) (by rw [hp5]; exact List.mem_cons_self)).1
              by_cases hl : acc.length < LIM
              · rw [if_pos hl] at q2
                refine ⟨ws, hD, limlt (by rw [← ra.length]; exact hl), { g5 with px := (D, .lst (ws ++ [v])) :: g1.px }, wipeS st5 vs, acc ++ [y.d], ws ++ [v], ⟨fun a u h => l5.kn a u (l4.kn a u (l3.kn a u (lk.kn a u h))), fun j a h => l5.m j a (l4.m j a (l3.m j a (lk.m j a h)))⟩, by show g5.lk = g1.lk; rw [l5.lk, l4.lk, l3.lk, ll], rfl, ?_, ?_, q2⟩
                · have := (S5.pinUpd hp5 (u' := .lst (ws ++ [v])) (fun φ z => by cases z) rfl).wipes vs
                  rw [ew] at this
                  exact this
                · exact ((((ra.le l3).le l4).le l5).append (Reps.cons hv Reps.nil)).px
              · rw [if_neg hl] at q2
                exact q2.elim
    · rw [if_neg hok] at q2
      exact q2.elim
  · have e : s.ds.drop i = [] := List.drop_eq_nil_iff.mpr (by omega)
    rw [e] at q2
    simp only [compG] at q2
    by_cases hok : s.ok st2 = true
    · rw [if_pos hok] at q2
      have SU := Sim.unwipes (g := g2) (sl0 := st1.sl) (σ := σ) (fun v r h o => by
        obtain ⟨w, e1, e2⟩ := S1.fz v r h o
        exact ⟨w, e1, e2.leK lk⟩) vs st2 S2
      obtain ⟨SU2, L, hD⟩ := SU.unpin hp
      refine .inl ⟨wk.stop i g2 st2 _ H2 lk S2 hok (by omega), q2 { g2 with px := g1.px } H2 ⟨lk.kn, lk.m, rfl, ll⟩ SU2 _ (.inr ⟨rfl, D, .lst acc, .lst ws, rfl, rfl, hD, ⟨ws, rfl, ra.px⟩, L⟩)⟩
    · rw [if_neg hok] at q2
      exact q2.elim
theorem de_comp {pos : Pos} {is : List Nat} (C : Ctx X W) (ok : BlkOk X.N X.env.scope scope own) (hi : DenI X W tg iter im)
    (hg : ∀ (s : Shared) (H : Hp) (C : Addr) (cl : List (Str × Addr)) (fp : List Addr), DenG (BX X scope s H C cl fp) tg is G) (hsub : ∀ t ∈ is, t ∈ own.map (·.2))
    (hc : ∀ (s : Shared) (H : Hp) (C : Addr) (cl : List (Str × Addr)) (fp : List Addr), DenTs (BX X scope s H C cl fp) (W0 W) ifs c)
    (he : ∀ (s : Shared) (H : Hp) (C : Addr) (cl : List (Str × Addr)) (fp : List Addr), DenE (BX X scope s H C cl fp) (W0 W) elt m) (hs : ∀ x, foldedSetIterable iter X.env x = pure x := by intro _; rfl) :
    DenE X W (.ListComp elt [⟨tg, iter, ifs, 0⟩] scope pos) (mComp im (own.map (·.2)) G c m) := by
  intro en g st σ H Q hT S q
  exact be (pe_lc C.calm C.nd (pbI tg iter) ok (fun s H C cl fp => puG s H C cl fp) (fun s H C cl fp => puT s H C cl fp) (fun s H C cl fp => puE s H C cl fp) hs) (lc_go hi hg hsub hc he hT S q)
/-- name = [..] on one line -/
theorem ds_setLc {pos spos : Pos} {i : Nat} {y : Str} {py : Pos} {is : List Nat} (C : Ctx X W) (hy : X.N[i]? = some y) (hyl : X.env.scope.names.lookup y = some .local)
    (hsw : swapsWith (.ListComp elt [⟨tg, iter, ifs, 0⟩] scope pos) (some (.Name y py)) spos.line X.env = pure true) (ok : BlkOk X.N X.env.scope scope own) (hi : DenI X W tg iter im)
    (hg : ∀ (s : Shared) (H : Hp) (C : Addr) (cl : List (Str × Addr)) (fp : List Addr), DenG (BX X scope s H C cl fp) tg is G) (hsub : ∀ t ∈ is, t ∈ own.map (·.2))
    (hc : ∀ (s : Shared) (H : Hp) (C : Addr) (cl : List (Str × Addr)) (fp : List Addr), DenTs (BX X scope s H C cl fp) (W0 W) ifs c)
    (he : ∀ (s : Shared) (H : Hp) (C : Addr) (cl : List (Str × Addr)) (fp : List Addr), DenE (BX X scope s H C cl fp) (W0 W) elt m) (hs : ∀ x, foldedSetIterable iter X.env x = pure x := by intro _; rfl) :
    DenS X W (.Assign [.Name y py] (.ListComp elt [⟨tg, iter, ifs, 0⟩] scope pos) spos) (sSet i (mComp im (own.map (·.2)) G c m)) := by
  intro en g st σ H E hT S q
  refine bs (ps_setLc C.calm C.nd hy hyl hsw (pbI tg iter) ok (fun s H C cl fp => puG s H C cl fp) (fun s H C cl fp => puT s H C cl fp) (fun s H C cl fp => puE s H C cl fp) hs) ?_
  refine lc_go hi hg hsub hc he hT S ((OutS.bindE q).mono (Le.refl g) fun r st1 g1 H1 l1 S1 q1 => ?_)
  intro v hv
  exact q1 g1 _ H1 (Le.refl g1) (S1.put hv)
end
end Ab
namespace Ab
open PySem PySem.Spec PyProof.Rows L2
/-- a def's run -/
def startS (n : Nat) (ds : List D) : List (Option R) := ds.map (fun d => some ⟨d, false⟩) ++ List.replicate (n - ds.length) none
def runF (B : SM) (n : Nat) : Fn := fun b ds sg => match B ⟨startS n ds, sg, b⟩ with
  | .val (.ret r) st => .val r st.sg
  | .val .nx st => .val ⟨.non, false⟩ st.sg
  | .exc e st => .exc e st.sg
  | _ => .bad
section
variable {K : PySem.W.Frag} {en : En} {g : Gh} {st : AS} {σ : L2.St} {H : Hp}
theorem Sim.bare (S : Sim K en g st σ H) : Sim K en g (bare st.sg st.b) [] H := { S with
  len := rfl
  fz := fun i r h => by simp [Ab.bare] at h
  ow := fun i r h => by simp [Ab.bare] at h
  ud := fun i j r r' a h => by simp [Ab.bare] at h }
theorem RR.bare {r : R} {v : V} (h : RR K en g st σ H r v) : RR K en g (Ab.bare st.sg st.b) [] H r v := by
  rcases h with h | ⟨o, a, c, u, e, e2, e3, e4, L⟩
  · exact .inl h
  · exact .inr ⟨o, a, c, u, e, e2, e3, e4, { L with sl := fun i r h => by simp [Ab.bare] at h }⟩
theorem startS_get {n : Nat} {ds : List D} {i : Nat} {r : R} (h : (startS n ds)[i]? = some (some r)) : ∃ d, ds[i]? = some d ∧ r = ⟨d, false⟩ := by
  unfold startS at h
  rw [List.getElem?_append] at h
  split at h
  · rw [List.getElem?_map, Option.map_eq_some_iff] at h
    obtain ⟨d, e, h⟩ := h
    exact ⟨d, e, (Option.some.inj h).symm⟩
  · rw [List.getElem?_replicate] at h
    split at h <;> cases h
theorem Sim.args (S : Sim K en g (Ab.bare st.sg st.b) [] H) {N : List Str} {ds : List D} {vs : List V} (hr : Reps K g ds vs) : Sim K en g ⟨startS N.length ds, st.sg, st.b⟩ (L2.start N vs) H := { S with
  len := by
    show (startS N.length ds).length = (L2.start N vs).length
    unfold startS L2.start
    simp [hr.length]
  fz := fun i r h o => by
    obtain ⟨d, e, rfl⟩ := startS_get h
    obtain ⟨v, e1, e2⟩ := hr.get e
    refine ⟨v, ?_, e2⟩
    unfold L2.start
    rw [List.getElem?_append_left (by rw [List.length_map]; exact (List.getElem?_eq_some_iff.mp e1).1), List.getElem?_map, e1]
    rfl
  ow := fun i r h o => by
    obtain ⟨d, e, rfl⟩ := startS_get h
    cases o
  ud := fun i j r r' a h h' o => by
    obtain ⟨d, e, rfl⟩ := startS_get h
    cases o }
end
section
variable {P : Program} {w : World} {K : PySem.W.Frag} {mg : Str → Option Value} {base : Heap} {T : List (Addr × Str)}
/-- THE RULE for a def -/
theorem fn_ok {x qual : Str} {params : Arguments} {body : List Stmt} {scope : Scope} {f : Addr} {fd : FuncData} {N ps : List Str} {k : Nat} {B : SM} (F : FunD K x qual params body scope [] [] f fd) (S : FnScope N ps scope)
    (hb : ∀ (cdv : Value) (A : Around) (outer : List Env) (s : Shared) (H : Hp) (E : XK), Room k (A.deeper (envOfC qual scope s.heap.objs.size f cdv)) →
      Ctx (cxOf (L2.CX P w) P w K mg base N qual scope f cdv A outer s H E) ⟨fun cls d _ H => E cls d H, T⟩ →
      DenSs (cxOf (L2.CX P w) P w K mg base N qual scope f cdv A outer s H E) ⟨fun cls d _ H => E cls d H, T⟩ body B) : FnOk P w K mg base (L2.CX P w) (k + 1) f fd ps (spF K T ps.length (runF B N.length)) := by
  refine F.ok S (fun vs H Q E h => ?_) (fun cdv A outer s H vs Q E hr h => ?_)
  · obtain ⟨g, ds, sg, b, hl, rv, _⟩ := h
    rw [← rv.length]
    exact hl
  · obtain ⟨g, ds, sg, b, hl, rv, hx, S0, hF⟩ := h
    refine ⟨bestSs _ body, pbSs body, ?_⟩
    have C : Ctx (cxOf (L2.CX P w) P w K mg base N qual scope f cdv A outer s H E) ⟨fun cls d _ H => E cls d H, T⟩ := ⟨rfl, S.nd, takes_of rfl rfl rfl rfl, passes_of rfl, by
      have := hr.un
      show (A.deeper (envOfC qual scope s.heap.objs.size f cdv)).units + 64 < cLine
      omega⟩
    have S1 : Sim K (enOf g H b sg T) g ⟨startS N.length ds, sg, b⟩ (L2.start N vs) H := Sim.args (st := ⟨[], sg, b⟩) S0 rv
    refine hb cdv A outer s H E hr C (enOf g H b sg T) g _ _ H _ rfl S1 ?_
    unfold runF at hF
    cases e : B ⟨startS N.length ds, sg, b⟩ with
    | bad =>
      rw [e] at hF
      exact hF
    | exc x st' =>
      rw [e] at hF
      intro g' σ' H' cls d l S' hx
      have eb : st'.b = b := S'.sb
      have := S'.bare
      rw [eb] at this
      exact hF H' g' cls d l this hx
    | val f st' =>
      rw [e] at hF
      cases f with
      | nx =>
        intro g' σ' H' l S'
        have eb : st'.b = b := S'.sb
        have := S'.bare
        rw [eb] at this
        exact hF _ H' g' l this rr_non
      | ret r =>
        intro g' σ' H' v l S' hv
        have eb : st'.b = b := S'.sb
        have h1 := S'.bare
        have h2 := hv.bare
        rw [eb] at h1 h2
        exact hF v H' g' l h1 h2
      | brk => exact hF.elim
      | cnt => exact hF.elim
end
/-- a def of the module -/
structure GDef (P : Program) (w : World) (K : PySem.W.Frag) (mg : Str → Option Value) (base : Heap) (T : List (Addr × Str)) (k : Nat) (x : Str) (n : Nat) (F : Fn) : Prop where
  ok : ∃ fd ps, FnOk P w K mg base (L2.CX P w) k (He.ga K x) fd ps (spF K T n F) ∧ Binds K fd ps []
  mg : mg x = some (.ref (He.ga K x))
  kp : PySem.W.keepIn K (.ref (He.ga K x)) = true
/-- a method -/
structure MDef (P : Program) (w : World) (K : PySem.W.Frag) (mg : Str → Option Value) (base : Heap) (T : List (Addr × Str)) (k : Nat) (C m : Str) (n : Nat) (F : Fn) : Prop where
  ok : ∃ fd ps, FnOk P w K mg base (L2.CX P w) k (He.ma K (He.ga K C) m) fd ps (spF K T n F) ∧ Binds K fd ps []
  mt : Meth K (He.ga K C) m (He.ma K (He.ga K C) m)
  cl : Cls K (He.ga K C)
theorem GDef.mono {P : Program} {w : World} {K : PySem.W.Frag} {mg : Str → Option Value} {base : Heap} {T : List (Addr × Str)} {j k : Nat} {x : Str} {n : Nat} {F : Fn} (G : GDef P w K mg base T j x n F) (h : j ≤ k) : GDef P w K mg base T k x n F :=
  ⟨let ⟨fd, ps, a, b⟩ := G.ok; ⟨fd, ps, a.mono h, b⟩, G.mg, G.kp⟩
theorem MDef.mono {P : Program} {w : World} {K : PySem.W.Frag} {mg : Str → Option Value} {base : Heap} {T : List (Addr × Str)} {j k : Nat} {x m : Str} {n : Nat} {F : Fn} (G : MDef P w K mg base T j x m n F) (h : j ≤ k) : MDef P w K mg base T k x m n F :=
  ⟨let ⟨fd, ps, a, b⟩ := G.ok; ⟨fd, ps, a.mono h, b⟩, G.mt, G.cl⟩
mutual
/-- no new cell is named -/
def refsLt (n : Nat) : D → Bool
  | .ref i => decide (i < n)
  | .tup xs => refsLts n xs
  | .lst xs => refsLts n xs
  | .dk _ xs => refsLts n xs
  | .dt _ xs => refsLts n xs
  | .non => true
  | .bl _ => true
  | .int _ => true
  | .str _ => true
  | .scr _ => true
def refsLts (n : Nat) : List D → Bool
  | [] => true
  | d :: ds => refsLt n d && refsLts n ds
end
/-- the def changes nothing of before -/
def pureF (F : Fn) : Fn := fun _ ds sg => match F sg.length ds sg with
  | .val r sg' => if refsLt sg.length r.d then .val r sg else .bad
  | .exc e sg' => .exc e sg
  | .bad => .bad
section
variable {K : PySem.W.Frag} {g g' : Gh}
mutual
theorem Rep.cut {n : Nat} (hk : ∀ a u, g.kn a u → g'.kn a u) (hm : ∀ (i : Nat) (a : Addr), i < n → g.m[i]? = some a → g'.m[i]? = some a) : ∀ (d : D) (v : V), refsLt n d = true → Rep K g d v → Rep K g' d v
  | .non, v, _, h => by simpa only [Rep] using h
  | .bl _, v, _, h => by simpa only [Rep] using h
  | .int _, v, _, h => by simpa only [Rep] using h
  | .str _, v, _, h => by simpa only [Rep] using h
  | .tup ds, v, e0, h => by
    simp only [Rep] at h ⊢
    obtain ⟨a, vs, e, t, r⟩ := h
    exact ⟨a, vs, e, t.imp (hk _ _) id, Reps.cut hk hm ds vs (by simpa only [refsLt] using e0) r⟩
  | .lst ds, v, e0, h => by
    simp only [Rep] at h ⊢
    obtain ⟨a, vs, e, t, r⟩ := h
    exact ⟨a, vs, e, hk _ _ t, Reps.cut hk hm ds vs (by simpa only [refsLt] using e0) r⟩
  | .dk ks ds, v, e0, h => by
    simp only [Rep] at h ⊢
    obtain ⟨a, vs, e, l, t, r⟩ := h
    exact ⟨a, vs, e, l, hk _ _ t, Reps.cut hk hm ds vs (by simpa only [refsLt] using e0) r⟩
  | .dt ks ds, v, e0, h => by
    simp only [Rep] at h ⊢
    obtain ⟨a, vs, e, l, t, r⟩ := h
    exact ⟨a, vs, e, l, hk _ _ t, Reps.cut hk hm ds vs (by simpa only [refsLt] using e0) r⟩
  | .scr ns, v, _, h => by
    simp only [Rep] at h ⊢
    obtain ⟨a, e, t⟩ := h
    exact ⟨a, e, t.imp (hk _ _) (Or.imp (fun ⟨o, q⟩ => ⟨o, hk _ _ q⟩) id)⟩
  | .ref i, v, e0, h => by
    simp only [Rep] at h ⊢
    obtain ⟨a, e, t⟩ := h
    exact ⟨a, e, hm _ _ (by simpa only [refsLt, decide_eq_true_eq] using e0) t⟩
theorem Reps.cut {n : Nat} (hk : ∀ a u, g.kn a u → g'.kn a u) (hm : ∀ (i : Nat) (a : Addr), i < n → g.m[i]? = some a → g'.m[i]? = some a) : ∀ (ds : List D) (vs : List V), refsLts n ds = true → Reps K g ds vs → Reps K g' ds vs
  | [], vs, _, h => by simpa only [Reps] using h
  | d :: ds, vs, e0, h => by
    simp only [Reps] at h ⊢
    simp only [refsLts, Bool.and_eq_true] at e0
    obtain ⟨v, r, e, h1, h2⟩ := h
    exact ⟨v, r, e, Rep.cut hk hm d v e0.1 h1, Reps.cut hk hm ds r e0.2 h2⟩
end
end
theorem refs_cell {n : Nat} {d : D} {c : Cell} {K : PySem.W.Frag} {g g' : Gh} {u : HO} (hk : ∀ a u, g.kn a u → g'.kn a u) (hm : ∀ (i : Nat) (a : Addr), i < n → g.m[i]? = some a → g'.m[i]? = some a) (hc : toCell d = some c) (h : refsLt n d = true) (q : CellIs K g c u) : CellIs K g' c u := by
  cases d <;> simp only [toCell, Option.some.injEq, reduceCtorEq] at hc <;> subst hc
  · obtain ⟨vs, e, r⟩ := q
    exact ⟨vs, e, r.cut hk hm _ _ (by simpa only [refsLt] using h)⟩
  · obtain ⟨vs, e, l, r⟩ := q
    exact ⟨vs, e, l, r.cut hk hm _ _ (by simpa only [refsLt] using h)⟩
  · obtain ⟨vs, e, l, r⟩ := q
    exact ⟨vs, e, l, r.cut hk hm _ _ (by simpa only [refsLt] using h)⟩
theorem sp_pure {K : PySem.W.Frag} {T : List (Addr × Str)} {n : Nat} {F : Fn} {vs : List V} {H : Hp} {Q : VK} {E : XK} (h : spF K T n (pureF F) vs H Q E) : spF K T n F vs H Q E := by
  obtain ⟨g, ds, sg, b, hl, rv, hx, S0, hF⟩ := h
  have S1 : Sim K (enOf g H sg.length sg T) g (bare sg sg.length) [] H := { S0 with
    sb := rfl
    bl := Nat.le_refl _
    fr := fun a o h _ _ => .inl h
    pr := fun i h => rfl }
  refine ⟨g, ds, sg, sg.length, hl, rv, hx, S1, ?_⟩
  -- back to what stood before
  have back : ∀ {g' : Gh} {H' : Hp} {sg' : List Cell}, Le g g' → Sim K (enOf g H sg.length sg T) g' (bare sg' sg.length) [] H' → Le g { g' with m := g.m } ∧ Sim K (enOf g H b sg T) { g' with m := g.m } (bare sg b) [] H' := by
    intro g' H' sg' l A
    have lk : ∀ a u, g'.kn a u → ({ g' with m := g.m } : Gh).kn a u := fun _ _ h => h
    refine ⟨⟨l.kn, fun _ _ h => h, l.px, l.lk⟩, { A with
      fz := fun i r h => by simp [bare] at h
      ow := fun i r h => by simp [bare] at h
      ce := fun i c h => ?_
      ml := S0.ml
      nd := S0.nd
      mq := fun a ha => ?_
      px := fun p hp => by
        rw [show ({ g' with m := g.m } : Gh).px = g'.px from rfl, l.px, hx] at hp
        cases hp
      sb := rfl
      bl := S0.bl
      m0 := fun i a h => h
      mn := fun i a h e => absurd h (Nat.not_le_of_lt (List.getElem?_eq_some_iff.mp e).1)
      fr := fun a o h nd nt => A.fr a o h (by
        show a ∉ g.m.drop sg.length
        have e0 : g.m.length = sg.length := S0.ml
        rw [List.drop_eq_nil_of_le (by rw [e0]; exact Nat.le_refl _)]
        exact fun z => nomatch z) nt
      pr := fun i h => rfl }⟩
    · obtain ⟨a, u, e1, e2, e3⟩ := S0.ce i c h
      have := A.fr a u e2 (by
        show a ∉ g.m.drop sg.length
        have e0 : g.m.length = sg.length := S0.ml
        rw [List.drop_eq_nil_of_le (by rw [e0]; exact Nat.le_refl _)]
        exact fun z => nomatch z) (fun ps z => by have := e3.notbl; rw [z] at this; cases this)
      refine ⟨a, u, e1, ?_, e3.mono (g' := { g' with m := g.m }) l.kn (fun _ _ h => h)⟩
      rcases this with q | ⟨q, _⟩
      · exact q
      · rw [l.lk] at q
        obtain ⟨o, ho⟩ := S0.lk a q
        exact absurd ho (S0.mq a (List.mem_of_getElem? e1) o)
    · obtain ⟨i, hi⟩ := List.mem_iff_getElem?.mp ha
      exact A.mq a (List.mem_of_getElem? (l.m i a hi))
  unfold pureF at hF
  cases e : F sg.length ds sg with
  | bad =>
    rw [e] at hF
    exact hF
  | exc x sg' =>
    rw [e] at hF
    intro H' g' cls d l A hx'
    obtain ⟨l2, A2⟩ := back l A
    exact hF H' _ cls d l2 A2 hx'
  | val r sg' =>
    rw [e] at hF
    dsimp only at hF
    by_cases hr : refsLt sg.length r.d = true
    · rw [if_pos hr] at hF
      intro v H' g' l A hv
      obtain ⟨l2, A2⟩ := back l A
      refine hF v H' _ l2 A2 ?_
      have e0 : g.m.length = sg.length := S0.ml
      have hm : ∀ (i : Nat) (a : Addr), i < sg.length → g'.m[i]? = some a → ({ g' with m := g.m } : Gh).m[i]? = some a := fun i a hi ha => by
        have := l.m i _ (List.getElem?_eq_getElem (show i < g.m.length by omega))
        show g.m[i]? = some a
        rw [List.getElem?_eq_getElem (by omega), ← this]
        exact ha
      rcases hv with ⟨o, hv⟩ | ⟨o, a, c, u, e1, e2, e3, e4, L⟩
      · exact .inl ⟨o, Rep.cut (g := g') (g' := { g' with m := g.m }) (fun _ _ h => h) hm _ _ hr hv⟩
      · refine .inr ⟨o, a, c, u, e1, e2, e3, refs_cell (g := g') (g' := { g' with m := g.m }) (fun _ _ h => h) hm e2 hr e4, { L with
          m := fun hm' => ?_
          sl := fun i r h => by simp [bare] at h }⟩
        obtain ⟨i, hi⟩ := List.mem_iff_getElem?.mp (show a ∈ g.m from hm')
        exact L.m (List.mem_of_getElem? (l.m i a hi))
    · rw [if_neg hr] at hF
      exact hF.elim
section
variable {P : Program} {w : World} {K : PySem.W.Frag} {mg : Str → Option Value} {base : Heap} {T : List (Addr × Str)} {k : Nat} {x m : Str} {n : Nat} {F : Fn}
theorem GDef.pure (G : GDef P w K mg base T k x n F) : GDef P w K mg base T k x n (pureF F) := ⟨let ⟨fd, ps, a, b⟩ := G.ok; ⟨fd, ps, a.imp fun _ _ _ _ h => sp_pure h, b⟩, G.mg, G.kp⟩
theorem MDef.pure (G : MDef P w K mg base T k x m n F) : MDef P w K mg base T k x m n (pureF F) := ⟨let ⟨fd, ps, a, b⟩ := G.ok; ⟨fd, ps, a.imp fun _ _ _ _ h => sp_pure h, b⟩, G.mt, G.cl⟩
end
section
variable {X : Cx} {W : WT} {k n : Nat} {F : Fn}
def mCallN (n : Nat) (F : Fn) (a : AM) : EM := fun st => (a st).bind fun ds st1 => if ds.length = n then callF F ds st1 else .bad
theorem de_call {x : Str} {e : Expr} {es : List Expr} {a : AM} {p pos : Pos} (C : Ctx X W) (G : GDef X.prog X.w X.K X.mg X.base W.T k x n F) (hr : Room k X.A) (hg : Gl X x) (ha : DenA X W (e :: es) a) (hdb : (x == ("__debug__" : Str)) = false := by decide)
    (he : starEach (e :: es) X.env = (false, eval e X.env) :: starEach es X.env := by rfl) (hpl : (backTo pos (starEach es X.env)).any (·.1) = false := by rfl) : DenE X W (.Call (.Name x p) (e :: es) [] pos) (mCallN n F a) := by
  intro en g st σ H Q hT S q
  obtain ⟨fd, ps, Fk, hb⟩ := G.ok
  refine be (pe_callS Fk hr hg G.mg G.kp hb (fun σ => passAt C.tk σ) (pbA _) hdb he hpl) (ha en g st σ H _ hT S (q.bind.mono (Le.refl g) fun ds st1 g1 H1 l1 S1 q1 => ?_))
  intro vs hv
  split at q1
  · rename_i hl
    have := call_go S1 hv q1
    rw [hT, hl] at this
    exact this
  · exact q1.elim
theorem de_call0 {x : Str} {p pos : Pos} (C : Ctx X W) (G : GDef X.prog X.w X.K X.mg X.base W.T k x 0 F) (hr : Room k X.A) (hg : Gl X x) (hdb : (x == ("__debug__" : Str)) = false := by decide) : DenE X W (.Call (.Name x p) [] [] pos) (callF F []) := by
  intro en g st σ H Q hT S q pins s I
  obtain ⟨fd, ps, Fk, hb⟩ := G.ok
  have := call_go S Reps.nil q
  rw [hT] at this
  refine wpAny_Call_Name_kw (ld_glob I hg G.mg ?_ hdb)
  exact PySem.W.callWith_K0 I.kIn G.kp (run_fnS (us := []) Fk hr hb (passAt C.tk σ) I .nil this)
/-- o.m(..): the receiver an instance of C -/
def isIns (C : Str) (st : AS) (d : D) : Bool := match d with
  | .ref i => match st.sg[i]? with
    | some (.ins C' ns _) => decide (C' = C)
    | _ => false
  | _ => false
def noName (m : Str) (st : AS) (d : D) : Bool := match d with
  | .ref i => match st.sg[i]? with
    | some (.ins _ ns _) => !ns.contains m
    | _ => false
  | _ => false
def mMeth (C m : Str) (n : Nat) (F : Fn) (o : EM) (a : AM) : EM := fun st => (o st).bind fun r st1 => if isIns C st1 r.d && noName m st1 r.d then
  (a st1).bind fun ds st2 => if ds.length + 1 = n then callF F (r.d :: ds) st2 else .bad else .bad
theorem lookup_zip_none {m : Str} : ∀ {ns : List Str} {vs : List V}, ns.contains m = false → (ns.zip vs).lookup m = none
  | [], _, _ => rfl
  | _ :: _, [], _ => rfl
  | n :: ns, v :: vs, h => by
    rw [List.contains_cons, Bool.or_eq_false_iff] at h
    rw [List.zip_cons_cons, List.lookup_cons, h.1]
    exact lookup_zip_none h.2
theorem Sim.ins {K : PySem.W.Frag} {en : En} {g : Gh} {st : AS} {σ : L2.St} {H : Hp} (S : Sim K en g st σ H) {C : Str} {d : D} {v : V} (hv : Rep K g d v) (h : isIns C st d = true) :
    ∃ i ns ds a dx vs, d = .ref i ∧ st.sg[i]? = some (.ins C ns ds) ∧ v = .ref a ∧ g.m[i]? = some a ∧ H a = some (.ins (He.ga K C) dx (ns.zip vs)) ∧ ns.length = vs.length ∧ Reps K g ds vs := by
  unfold isIns at h
  split at h
  · rename_i i
    split at h
    · rename_i C' ns ds e
      have : C' = C := of_decide_eq_true h
      subst this
      simp only [Rep] at hv
      obtain ⟨a, rfl, hm⟩ := hv
      obtain ⟨a', u, e1, e2, e3⟩ := S.ce i _ e
      rw [hm] at e1
      cases e1
      obtain ⟨dx, vs, rfl, l, r⟩ := e3
      exact ⟨i, ns, ds, a, dx, vs, rfl, e, rfl, hm, e2, l, r⟩
    · cases h
  · cases h
theorem de_meth {C m : Str} {pl : Sem Bool} {o e : Expr} {es : List Expr} {mo : EM} {a : AM} {apos pos : Pos} (Cc : Ctx X W) (G : MDef X.prog X.w X.K X.mg X.base W.T k C m n F) (hr : Room k X.A) (ho : DenE X W o mo) (ha : DenA X W (e :: es) a)
    (hst : starEach (e :: es) X.env = (false, eval e X.env) :: starEach es X.env := by rfl) (hpl : (backTo pos (starEach es X.env)).any (·.1) = false := by rfl)
    (ht : eval (.Call (.Attribute o m apos) (e :: es) [] pos) X.env = (do
      let ov ← eval o X.env
      standAt apos.atName
      let (f, first) ← holding [ov] (getMethod ov m pl)
      callWith pos f first (backTo pos (starEach (e :: es) X.env)) (backToKw pos (keywordEach [] X.env))) := by rfl) : DenE X W (.Call (.Attribute o m apos) (e :: es) [] pos) (mMeth C m n F mo a) := by
  intro en g st σ H Q hT S q pins s I
  obtain ⟨fd, ps, Fk, hb⟩ := G.ok
  refine PySem.W.methodCall_KW (pl := pl) (thn (ho.sealed hT S (Q := fun x H1 => ∃ a' dx fs, x = .ref a' ∧ H1 a' = some (.ins (He.ga X.K C) dx fs) ∧ fs.lookup m = none ∧ bestA X (e :: es) σ H1 fun vs H2 => spF X.K W.T n F (x :: vs) H2 Q (WE W.w σ))
    (q.bind.mono (Le.refl g) fun r st1 g1 H1 l1 S1 q1 => ?_) pins s I) fun u s1 ⟨x, H1, I1, rx, a', dx, fs, ex, ea, l, q⟩ => ?_) ht
  · intro v hv
    split at q1
    · rename_i hc
      rw [Bool.and_eq_true] at hc
      obtain ⟨i, ns, ds, a', dx, vs, e1, e2, e3, e4, e5, e6, e7⟩ := S1.ins hv hc.1
      have hn : ns.contains m = false := by
        have := hc.2
        unfold noName at this
        rw [e1] at this
        dsimp only at this
        rw [e2] at this
        simpa using this
      refine ⟨a', dx, _, e3, e5, lookup_zip_none hn, ha en g1 st1 σ H1 _ hT S1 (q1.bind.mono (Le.refl g1) fun as st2 g2 H2 l2 S2 q2 => ?_)⟩
      intro ws hw
      split at q2
      · rename_i hl
        have := call_go S2 (Reps.cons (hv.le l2) hw) q2
        rw [hT, List.length_cons, hl] at this
        exact this
      · exact q2.elim
    · exact q1.elim
  · subst ex
    obtain rfl : u = Value.ref a' := rx
    refine getmeth_ok I1 ea G.cl G.mt l ?_
    refine PySem.W.callWith_K (first := [.ref a']) (h₀ := X.base) I.ok.mod.kin G.mt.kp (thn ((pbA (e :: es)).run pos pins s1 σ H1 _ I1 q) fun us s2 ⟨vs, H2, I2, r, q2⟩ => ⟨I2.kIn, ?_⟩) hst hpl
    exact run_fnS (us := .ref a' :: us) (vs := .ref a' :: vs) Fk hr hb (passAt Cc.tk σ) I2 (.cons rfl r) q2
def mMeth0 (C m : Str) (F : Fn) (o : EM) : EM := fun st => (o st).bind fun r st1 => if isIns C st1 r.d && noName m st1 r.d then callF F [r.d] st1 else .bad
theorem de_meth0 {C m : Str} {pl : Sem Bool} {o : Expr} {mo : EM} {apos pos : Pos} (Cc : Ctx X W) (G : MDef X.prog X.w X.K X.mg X.base W.T k C m 1 F) (hr : Room k X.A) (ho : DenE X W o mo)
    (ht : eval (.Call (.Attribute o m apos) [] [] pos) X.env = (do
      let ov ← eval o X.env
      standAt apos.atName
      let (f, first) ← holding [ov] (getMethod ov m pl)
      callWith pos f first (backTo pos (starEach [] X.env)) (backToKw pos (keywordEach [] X.env))) := by rfl) : DenE X W (.Call (.Attribute o m apos) [] [] pos) (mMeth0 C m F mo) := by
  intro en g st σ H Q hT S q pins s I
  obtain ⟨fd, ps, Fk, hb⟩ := G.ok
  refine PySem.W.methodCall_KW (pl := pl) (thn (ho.sealed hT S (Q := fun x H1 => ∃ a' dx fs, x = .ref a' ∧ H1 a' = some (.ins (He.ga X.K C) dx fs) ∧ fs.lookup m = none ∧ spF X.K W.T 1 F [x] H1 Q (WE W.w σ))
    (q.bind.mono (Le.refl g) fun r st1 g1 H1 l1 S1 q1 => ?_) pins s I) fun u s1 ⟨x, H1, I1, rx, a', dx, fs, ex, ea, l, q⟩ => ?_) ht
  · intro v hv
    split at q1
    · rename_i hc
      rw [Bool.and_eq_true] at hc
      obtain ⟨i, ns, ds, a', dx, vs, e1, e2, e3, e4, e5, e6, e7⟩ := S1.ins hv hc.1
      have hn : ns.contains m = false := by
        have := hc.2
        unfold noName at this
        rw [e1] at this
        dsimp only at this
        rw [e2] at this
        simpa using this
      have := call_go S1 (Reps.cons hv Reps.nil) q1
      rw [hT] at this
      exact ⟨a', dx, _, e3, e5, lookup_zip_none hn, this⟩
    · exact q1.elim
  · subst ex
    obtain rfl : u = Value.ref a' := rx
    refine getmeth_ok I1 ea G.cl G.mt l ?_
    exact PySem.W.callWith_K0 (first := [.ref a']) I1.kIn G.mt.kp (run_fnS (us := [.ref a']) (vs := [.ref a']) Fk hr hb (passAt Cc.tk σ) I1 (.cons rfl .nil) q)
end
end Ab
namespace Ab
open PySem PySem.Spec PyProof.Rows L2
section
variable {X : Cx} {W : WT}
abbrev RF := List V → Hp → VK → Prop
def RV1 (X : Cx) (r : RF) (F : D → Option R) : Prop := ∀ (en : En) (g : Gh) (st : AS) (σ : L2.St) (H : Hp) (x : V) (dx : D) (rr : R) (Q : VK), Sim X.K en g st σ H → Vw X.K g H dx x → F dx = some rr →
  (∀ g' H' v, Le g g' → Sim X.K en g' st σ H' → RR X.K en g' st σ H' rr v → Q v H') → r [x] H Q
def RV2 (X : Cx) (r : RF) (F : D → D → Option R) : Prop := ∀ (en : En) (g : Gh) (st : AS) (σ : L2.St) (H : Hp) (x y : V) (dx dy : D) (rr : R) (Q : VK), Sim X.K en g st σ H → Vw X.K g H dx x → Vw X.K g H dy y → F dx dy = some rr →
  (∀ g' H' v, Le g g' → Sim X.K en g' st σ H' → RR X.K en g' st σ H' rr v → Q v H') → r [x, y] H Q
def mB1 (F : D → Option R) (o : OM) : EM := fun st => (o st).bind fun oa st1 => match (st1.res oa).bind F with
  | some r => .val r st1
  | none => .bad
theorem b1_go {r : RF} {F : D → Option R} {a : Expr} {m : OM} (hr : RV1 X r F) (ha : DenO X W a m) {en : En} {g : Gh} {st : AS} {σ : L2.St} {H : Hp} {Q : VK} (hT : en.T = W.T) (S : Sim X.K en g st σ H)
    (q : OutP X.K en W g σ (fun r st' g' H' => ∀ v, RR X.K en g' st' σ H' r v → Q v H') (mB1 F m st)) : bestE X a σ H fun x H1 => r [x] H1 Q := by
  refine ha en g st σ H _ hT S (q.bind.mono (Le.refl g) fun oa st1 g1 H1 l1 S1 q1 => ?_)
  intro x hx
  split at q1
  · rename_i rr e
    obtain ⟨dx, e1, e2⟩ := Option.bind_eq_some_iff.mp e
    exact hr en g1 st1 σ H1 x dx rr Q S1 (S1.opd hx e1) e2 fun g' H' v l S' h => q1 g' H' l S' v h
  · exact q1.elim
/-- f(a), f a built-in function -/
theorem de_b1 {x : Str} {id : String} {r : RF} {F : D → Option R} {a : Expr} {m : OM} {p pos : Pos} (hc : CallR X (.builtin id) r) (hr : RV1 X r F) (hg : Gl X x) (hm : X.mg x = none) (hv : bootBuiltins x = some (.builtin id)) (ha : DenO X W a m)
    (hn : x ≠ "__name__" := by decide) (hdb : (x == ("__debug__" : Str)) = false := by decide) (he : starEach [a] X.env = (false, eval a X.env) :: starEach [] X.env := by rfl) : DenE X W (.Call (.Name x p) [a] [] pos) (mB1 F m) := by
  intro en g st σ H Q hT S q
  exact be (pe_callB hc hg hm hv (pa_cons (pbE a) pa_nil he) hn hdb he rfl) (b1_go hr ha hT S q)
theorem de_ty1 {x : Str} {T : String} {r : RF} {F : D → Option R} {a : Expr} {m : OM} {p pos : Pos} (hc : CallR X (.type T) r) (hr : RV1 X r F) (hg : Gl X x) (hm : X.mg x = none) (hv : bootBuiltins x = some (.type T)) (ha : DenO X W a m)
    (hn : x ≠ "__name__" := by decide) (hdb : (x == ("__debug__" : Str)) = false := by decide) (he : starEach [a] X.env = (false, eval a X.env) :: starEach [] X.env := by rfl) : DenE X W (.Call (.Name x p) [a] [] pos) (mB1 F m) := by
  intro en g st σ H Q hT S q
  exact be (pe_callTy hc hg hm hv (pa_cons (pbE a) pa_nil he) hn hdb he rfl) (b1_go hr ha hT S q)
theorem de_b2 {x : Str} {id : String} {r : RF} {F : D → D → Option R} {a b : Expr} {ma mb : OM} {p pos : Pos} (hc : CallR X (.builtin id) r) (hr : RV2 X r F) (hg : Gl X x) (hm : X.mg x = none) (hv : bootBuiltins x = some (.builtin id)) (ha : DenO X W a ma) (hb : DenO X W b mb)
    (hn : x ≠ "__name__" := by decide) (hdb : (x == ("__debug__" : Str)) = false := by decide) (he : starEach [a, b] X.env = (false, eval a X.env) :: starEach [b] X.env := by rfl) (he2 : starEach [b] X.env = (false, eval b X.env) :: starEach [] X.env := by rfl)
    (hpl : (backTo pos (starEach [b] X.env)).any (·.1) = false := by rfl) : DenE X W (.Call (.Name x p) [a, b] [] pos) (mBin F ma mb) := by
  intro en g st σ H Q hT S q
  refine be (pe_callB hc hg hm hv (pa_cons (pbE a) (pa_cons (pbE b) pa_nil he2) he) hn hdb he hpl) ?_
  refine ha en g st σ H _ hT S (q.bind.mono (Le.refl g) fun oa st1 g1 H1 l1 S1 q1 => ?_)
  intro x hx
  refine hb en g1 st1 σ H1 _ hT S1 (q1.bind.mono (Le.refl g1) fun ob st2 g2 H2 l2 S2 q2 => ?_)
  intro y hy
  split at q2
  · rename_i rr e
    obtain ⟨dx, e1, e⟩ := Option.bind_eq_some_iff.mp e
    obtain ⟨dy, e2, e⟩ := Option.bind_eq_some_iff.mp e
    exact hr en g2 st2 σ H2 x y dx dy rr Q S2 (S2.opd (hx.le l2) e1) (S2.opd hy e2) e fun g' H' v l S' h => q2 g' H' l S' v h
  · exact q2.elim
def lenD : D → Option R
  | .lst xs => rv (.int xs.length)
  | .tup xs => rv (.int xs.length)
  | .scr xs => rv (.int xs.length)
  | .str x => if x.length ≤ LIM then rv (.int x.length) else none
  | _ => none
theorem r_len : RV1 X (fun xs H Q => ∃ x n, xs = [x] ∧ LenV X.K x H n ∧ Q (.int n) H) lenD := by
  intro en g st σ H x dx rr Q S hx hr q
  unfold lenD at hr
  split at hr
  · cases hr
    simp only [Vw] at hx
    obtain ⟨a, vs, rfl, h, r⟩ := hx
    exact ⟨_, vs.length, rfl, .inl ⟨vs, .inl (.inl h), rfl⟩, by rw [← r.length]; exact q g H _ (Le.refl g) S rr_int⟩
  · cases hr
    simp only [Vw] at hx
    obtain ⟨a, vs, rfl, h, _, r⟩ := hx
    exact ⟨_, vs.length, rfl, .inr ⟨vs, h, rfl⟩, by rw [← r.length]; exact q g H _ (Le.refl g) S rr_int⟩
  · cases hr
    simp only [Vw] at hx
    obtain ⟨a, rfl, h⟩ := hx
    exact ⟨_, _, rfl, .inl ⟨_, h, rfl⟩, by rw [List.length_map]; exact q g H _ (Le.refl g) S rr_int⟩
  · split at hr
    · rename_i hl
      cases hr
      simp only [Vw, Rep] at hx
      subst hx
      exact ⟨_, _, rfl, ⟨lim hl, rfl⟩, q g H _ (Le.refl g) S rr_int⟩
    · cases hr
  · cases hr
def absD : D → Option R
  | .int i => rv (.int (if i < 0 then -i else i))
  | _ => none
theorem r_abs : RV1 X (fun xs H Q => ∃ i, xs = [.int i] ∧ Q (.int (if i < 0 then -i else i)) H) absD := by
  intro en g st σ H x dx rr Q S hx hr q
  unfold absD at hr
  split at hr
  · cases hr
    simp only [Vw, Rep] at hx
    subst hx
    exact ⟨_, rfl, q g H _ (Le.refl g) S rr_int⟩
  · cases hr
def intD : D → Option R
  | .int i => rv (.int i)
  | .bl b => rv (.int (if b then 1 else 0))
  | _ => none
theorem r_int : RV1 X (fun xs H Q => (∃ i, xs = [.int i] ∧ Q (.int i) H) ∨ ∃ k, xs = [.bl k] ∧ Q (.int (if k then 1 else 0)) H) intD := by
  intro en g st σ H x dx rr Q S hx hr q
  unfold intD at hr
  split at hr
  · cases hr
    simp only [Vw, Rep] at hx
    subst hx
    exact .inl ⟨_, rfl, q g H _ (Le.refl g) S rr_int⟩
  · cases hr
    simp only [Vw, Rep] at hx
    subst hx
    exact .inr ⟨_, rfl, q g H _ (Le.refl g) S rr_int⟩
  · cases hr
abbrev minD : D → D → Option R := intF anyI fun i j => .int (if j < i then j else i)
abbrev maxD : D → D → Option R := intF anyI fun i j => .int (if j > i then j else i)
theorem r_min : RV2 X (fun xs H Q => ∃ i j, xs = [.int i, .int j] ∧ Q (.int (if j < i then j else i)) H) minD := by
  intro en g st σ H x y dx dy rr Q S hx hy hr q
  unfold minD intF at hr
  split at hr
  · simp only [anyI, if_true] at hr
    cases hr
    simp only [Vw, Rep] at hx hy
    subst hx hy
    exact ⟨_, _, rfl, q g H _ (Le.refl g) S rr_int⟩
  · cases hr
theorem r_max : RV2 X (fun xs H Q => ∃ i j, xs = [.int i, .int j] ∧ Q (.int (if j > i then j else i)) H) maxD := by
  intro en g st σ H x y dx dy rr Q S hx hy hr q
  unfold maxD intF at hr
  split at hr
  · simp only [anyI, if_true] at hr
    cases hr
    simp only [Vw, Rep] at hx hy
    subst hx hy
    exact ⟨_, _, rfl, q g H _ (Le.refl g) S rr_int⟩
  · cases hr
/-- a list of bools, of ints -/
def blsD : List D → Option (List Bool)
  | [] => some []
  | .bl b :: r => (blsD r).map (b :: ·)
  | _ => none
def intsD : List D → Option (List Int)
  | [] => some []
  | .int b :: r => (intsD r).map (b :: ·)
  | _ => none
theorem bls_reps {K : PySem.W.Frag} {g : Gh} : ∀ {ds : List D} {bs : List Bool} {vs : List V}, blsD ds = some bs → Reps K g ds vs → vs = bs.map V.bl
  | [], bs, vs, e, h => by
    simp only [blsD, Option.some.injEq] at e
    simp only [Reps] at h
    subst e h
    rfl
  | d :: r, bs, vs, e, h => by
    cases d <;> simp only [blsD, reduceCtorEq] at e
    obtain ⟨bs', e1, rfl⟩ := Option.map_eq_some_iff.mp e
    simp only [Reps, Rep] at h
    obtain ⟨v, r', rfl, rfl, h2⟩ := h
    rw [bls_reps e1 h2]
    rfl
theorem ints_reps {K : PySem.W.Frag} {g : Gh} : ∀ {ds : List D} {bs : List Int} {vs : List V}, intsD ds = some bs → Reps K g ds vs → vs = bs.map V.int
  | [], bs, vs, e, h => by
    simp only [intsD, Option.some.injEq] at e
    simp only [Reps] at h
    subst e h
    rfl
  | d :: r, bs, vs, e, h => by
    cases d <;> simp only [intsD, reduceCtorEq] at e
    obtain ⟨bs', e1, rfl⟩ := Option.map_eq_some_iff.mp e
    simp only [Reps, Rep] at h
    obtain ⟨v, r', rfl, rfl, h2⟩ := h
    rw [ints_reps e1 h2]
    rfl
def allD : D → Option R
  | .lst xs => (blsD xs).map fun bs => ⟨.bl (bs.all id), false⟩
  | _ => none
theorem r_all : RV1 X (rAll X.K) allD := by
  intro en g st σ H x dx rr Q S hx hr q
  unfold allD at hr
  split at hr
  · obtain ⟨bs, e, rfl⟩ := Option.map_eq_some_iff.mp hr
    simp only [Vw] at hx
    obtain ⟨a, vs, rfl, h, r⟩ := hx
    rw [bls_reps e r] at h
    exact ⟨a, bs, rfl, .inl (.inl h), q g H _ (Le.refl g) S rr_bl⟩
  · cases hr
def sumD : D → Option R
  | .lst xs => (intsD xs).map fun ns => ⟨.int ns.sum, false⟩
  | _ => none
theorem r_sum : RV1 X (rSum X.K) sumD := by
  intro en g st σ H x dx rr Q S hx hr q
  unfold sumD at hr
  split at hr
  · obtain ⟨bs, e, rfl⟩ := Option.map_eq_some_iff.mp hr
    simp only [Vw] at hx
    obtain ⟨a, vs, rfl, h, r⟩ := hx
    rw [ints_reps e r] at h
    exact ⟨a, bs, rfl, .inl (.inl h), q g H _ (Le.refl g) S rr_int⟩
  · cases hr
def tyN : D → Option String
  | .non => some "NoneType"
  | .bl _ => some "bool"
  | .int _ => some "int"
  | .str _ => some "str"
  | .tup _ => some "tuple"
  | .lst _ => some "list"
  | .dk _ _ => some "dict"
  | _ => none
theorem tyN_ok {en : En} {g : Gh} {st : AS} {σ : L2.St} {H : Hp} {d : D} {v : V} {n : String} (S : Sim X.K en g st σ H) (h : Vw X.K g H d v) (e : tyN d = some n) : TyX X.K H v (.type n) := by
  cases d <;> simp only [tyN, Option.some.injEq, reduceCtorEq] at e <;> subst e <;> simp only [Vw, Rep] at h
  · subst h; exact .base .non
  · subst h; exact .base (.bl _)
  · subst h; exact .base (.int _)
  · subst h; exact .base (.str _)
  · obtain ⟨a, vs, rfl, _, k, _⟩ := h
    rcases k with k | ⟨o, its, n, k, c, _⟩
    · exact .base (.tup ((S.kn _ _ k).at_ rfl))
    · exact .kTuple k c
  · obtain ⟨a, vs, rfl, k, _⟩ := h
    exact .base (.lst k)
  · obtain ⟨a, vs, rfl, _, k, _⟩ := h
    rcases k with k | ⟨o, k⟩
    · exact .base (.dK k)
    · exact .fDict k
def isiD (T : String) (d : D) : Option R := (tyN d).bind fun n => (kitB n T).map fun b => ⟨.bl b, false⟩
theorem de_isi {a : Expr} {m : OM} {T : String} {y : Str} {p p2 pos : Pos} (hg : Gl X "isinstance") (hm : X.mg "isinstance" = none) (ha : DenO X W a m) (hg2 : Gl X y) (hm2 : X.mg y = none) (hv2 : bootBuiltins y = some (.type T))
    (hn2 : y ≠ "__name__" := by decide) (hd2 : (y == ("__debug__" : Str)) = false := by decide)
    (he : starEach [a, .Name y p2] X.env = (false, eval a X.env) :: starEach [.Name y p2] X.env := by rfl) : DenE X W (.Call (.Name "isinstance" p) [a, .Name y p2] [] pos) (mB1 (isiD T) m) := by
  intro en g st σ H Q hT S q
  refine be (pe_callB call_isi hg hm (by decide +kernel) (pa_cons (pbE a) (pa_cons (pe_bltn (v := .ty T) hg2 hm2 hv2 rfl hn2 hd2) pa_nil) he) (by decide) (by decide) he rfl) ?_
  refine ha en g st σ H _ hT S (q.bind.mono (Le.refl g) fun oa st1 g1 H1 l1 S1 q1 => ?_)
  intro x hx
  split at q1
  · rename_i rr e
    obtain ⟨dx, e1, e2⟩ := Option.bind_eq_some_iff.mp e
    obtain ⟨n, e3, e4⟩ := Option.bind_eq_some_iff.mp e2
    obtain ⟨b, e5, rfl⟩ := Option.map_eq_some_iff.mp e4
    exact ⟨x, .ty T, .type n, .type T, b, rfl, .ty T, tyN_ok S1 (S1.opd hx e1) e3, kit_ty e5, q1 g1 H1 (Le.refl g1) S1 _ rr_bl⟩
  · exact q1.elim
def locOf (st : AS) : Opd → Option Loc
  | .sl i => match st.sl[i]? with
    | some (some ⟨_, true⟩) => some (.sl i)
    | some (some ⟨.ref j, false⟩) => some (.ce j)
    | _ => none
  | .v (.ref j) => some (.ce j)
  | _ => none
theorem Sim.locOf {K : PySem.W.Frag} {en : En} {g : Gh} {st : AS} {σ : L2.St} {H : Hp} (S : Sim K en g st σ H) {o : Opd} {l : Loc} {v : V} (h : OpdIs K g σ o v) (e : locOf st o = some l) : ∃ a, v = .ref a ∧ LocIs g σ l a := by
  cases o with
  | v d =>
    cases d <;> simp only [Ab.locOf, Option.some.injEq, reduceCtorEq] at e
    subst e
    simp only [OpdIs, Rep] at h
    obtain ⟨a, rfl, hm⟩ := h
    exact ⟨a, rfl, hm⟩
  | sl i =>
    have h : σ[i]? = some (some v) := h
    simp only [Ab.locOf] at e
    split at e
    · rename_i d hd
      cases e
      obtain ⟨a, c, u, e1, _⟩ := S.ow i _ hd rfl
      rw [h] at e1
      cases e1
      exact ⟨a, rfl, h⟩
    · rename_i j hj
      cases e
      obtain ⟨w, e1, e2⟩ := S.fz i _ hj rfl
      rw [h] at e1
      cases e1
      simp only [Rep] at e2
      obtain ⟨a, rfl, hm⟩ := e2
      exact ⟨a, rfl, hm⟩
    · cases e
/-- a change of what an operand names: the thing there, the arguments; what it gives, what then stands there -/
def okAt : Loc → Cell → Bool
  | .sl _, c => (ofCell c).isSome
  | .ce _, _ => true
def mutS (F : Cell → List D → Option (R × Cell)) (st : AS) (o : Opd) (ds : List D) : Option (R × AS) :=
  (locOf st o).bind fun l => (st.at_ l).bind fun c => (F c ds).bind fun p => if okAt l p.2 then some (p.1, st.setAt l p.2) else none
def mutO (F : Cell → List D → Option (R × Cell)) (st : AS) (o : Opd) (ds : List D) : Out R := match mutS F st o ds with
  | some (r, st') => .val r st'
  | none => .bad
def apD : Cell → List D → Option (R × Cell)
  | .lst xs, [d] => if xs.length < LIM then some (⟨.non, false⟩, .lst (xs ++ [d])) else none
  | _, _ => none
def kindL (st : AS) (o : Opd) : Bool := match (locOf st o).bind st.at_ with
  | some (.lst _) => true
  | _ => false
/-- o.m(..), the receiver a list -/
def mMutL (F : Cell → List D → Option (R × Cell)) (o : OM) (a : AM) : EM := fun st => (o st).bind fun oa st1 => if kindL st1 oa then (a st1).bind fun ds st2 => mutO F st2 oa ds else .bad
def MutV (X : Cx) (r : V → List V → Hp → VK → Prop) (F : Cell → List D → Option (R × Cell)) : Prop := ∀ (K : PySem.W.Frag) (g : Gh) (H : Hp) (a : Addr) (c c' : Cell) (u : HO) (ds : List D) (vs : List V) (rr : R) (Q : VK), H a = some u → CellIs K g c u → Reps K g ds vs → F c ds = some (rr, c') →
  (∀ u' v, CellIs K g c' u' → (rr.own = false ∧ Rep K g rr.d v) → Q v (upd H a u')) → r (.ref a) vs H Q
theorem mut_go {r : V → List V → Hp → VK → Prop} {F : Cell → List D → Option (R × Cell)} (hr : MutV X r F) {en : En} {g : Gh} {st : AS} {σ : L2.St} {H : Hp} {Q : VK} {o : Opd} {ds : List D} {x : V} {vs : List V} (S : Sim X.K en g st σ H) (hx : OpdIs X.K g σ o x) (hv : Reps X.K g ds vs)
    (q : OutP X.K en W g σ (fun r st' g' H' => ∀ v, RR X.K en g' st' σ H' r v → Q v H') (mutO F st o ds)) : r x vs H Q := by
  unfold mutO at q
  cases e : mutS F st o ds with
  | none =>
    rw [e] at q
    exact q.elim
  | some p =>
    obtain ⟨rr, st'⟩ := p
    rw [e] at q
    unfold mutS at e
    obtain ⟨l, e1, e⟩ := Option.bind_eq_some_iff.mp e
    obtain ⟨c, e2, e⟩ := Option.bind_eq_some_iff.mp e
    obtain ⟨p, e3, e⟩ := Option.bind_eq_some_iff.mp e
    by_cases hk : okAt l p.2 = true
    · rw [if_pos hk] at e
      cases e
      obtain ⟨a, rfl, hl⟩ := S.locOf hx e1
      obtain ⟨a', u, hl', hu, hc, _⟩ := S.loc e2
      have ea : a' = a := by
        cases l with
        | sl i =>
          have h1 : σ[i]? = some (some (.ref a')) := hl'
          have h2 : σ[i]? = some (some (.ref a)) := hl
          rw [h1] at h2
          cases h2
          rfl
        | ce i =>
          have h1 : g.m[i]? = some a' := hl'
          have h2 : g.m[i]? = some a := hl
          rw [h1] at h2
          cases h2
          rfl
      subst ea
      refine hr X.K g H a' c p.2 u ds vs p.1 Q hu hc hv e3 fun u' v hc' hR => ?_
      have S2 := S.chg e2 hl hu hc' (fun i e => by
        subst e
        exact hk)
      exact q g _ (Le.refl g) S2 v (.inl hR)
    · rw [if_neg hk] at e
      cases e
theorem kindL_ok {K : PySem.W.Frag} {en : En} {g : Gh} {st : AS} {σ : L2.St} {H : Hp} {o : Opd} {v : V} (S : Sim K en g st σ H) (h : OpdIs K g σ o v) (e : kindL st o = true) : tyV K "list" v H := by
  unfold kindL at e
  split at e
  · rename_i xs e1
    obtain ⟨l, e2, e3⟩ := Option.bind_eq_some_iff.mp e1
    obtain ⟨a, rfl, hl⟩ := S.locOf h e2
    obtain ⟨a', u, hl', hu, hc, _⟩ := S.loc e3
    have ea : a' = a := by
      cases l with
      | sl i =>
        have h1 : σ[i]? = some (some (.ref a')) := hl'
        have h2 : σ[i]? = some (some (.ref a)) := hl
        rw [h1] at h2
        cases h2
        rfl
      | ce i =>
        have h1 : g.m[i]? = some a' := hl'
        have h2 : g.m[i]? = some a := hl
        rw [h1] at h2
        cases h2
        rfl
    subst ea
    obtain ⟨vs, rfl, _⟩ := hc
    exact .inl ⟨rfl, vs, .inl (.inl hu)⟩
  · cases e
theorem v_append : MutV X rAppend apD := by
  intro K g H a c c' u ds vs rr Q hu hc hv hF q
  unfold apD at hF
  split at hF
  · rename_i xs d
    split at hF
    · rename_i hl
      cases hF
      obtain ⟨ws, rfl, r⟩ := hc
      simp only [Reps] at hv
      obtain ⟨v, r', rfl, hd, rfl⟩ := hv
      exact ⟨a, ws, v, rfl, rfl, hu, limlt (by rw [← r.length]; exact hl), q _ _ ⟨_, rfl, r.append (Reps.cons hd Reps.nil)⟩ ⟨rfl, by simp only [Rep]⟩⟩
    · cases hF
  · cases hF
/-- o.m(e), m a list's method -/
theorem de_mutL {m : Str} {id : String} {r : V → List V → Hp → VK → Prop} {F : Cell → List D → Option (R × Cell)} {o e : Expr} {mo : OM} {a : AM} {apos cpos : Pos} (slot : Slot "list" m id) (hty : typeOf (.builtin id) = pure (.type "method_descriptor")) (hm : MtR X id r) (hr : MutV X r F)
    (ho : DenO X W o mo) (ha : DenA X W [e] a) (hbase : attributeBase o m X.env (eval o X.env) = eval o X.env := by rfl)
    (hfew : ((backTo cpos (starEach [e] X.env)).all (fun x => !x.1) && (backToKw cpos (keywordEach [] X.env)).all (fun x => x.1.isSome)
      && decide (([e] : List Expr).length + ([] : List Keyword).length + (if ([] : List Keyword).isEmpty then 0 else 1) < 30)) = true := by rfl)
    (hline : (apos.endLine == cpos.line) = true := by rfl) (hs : starEach [e] X.env = (false, eval e X.env) :: starEach [] X.env := by rfl) :
    DenE X W (.Call (.Attribute o m apos) [e] [] cpos) (mMutL F mo a) := by
  intro en g st σ H Q hT S q
  refine be (pe_bm PySem.F.plainAttrs_list slot hty hm (pbE o) (pbA [e]) hbase hfew hline hs rfl) ?_
  refine ho en g st σ H _ hT S (q.bind.mono (Le.refl g) fun oa st1 g1 H1 l1 S1 q1 => ?_)
  intro x hx
  split at q1
  · rename_i hk
    refine ⟨kindL_ok S1 hx hk, ha en g1 st1 σ H1 _ hT S1 (q1.bind.mono (Le.refl g1) fun ds st2 g2 H2 l2 S2 q2 => ?_)⟩
    intro vs hv
    exact mut_go hr S2 (hx.le l2) hv q2
  · exact q1.elim
theorem ctx_blk (C : Ctx X W) {scope : Scope} {s : Shared} {H : Hp} {Ca : Addr} {cl : List (Str × Addr)} {fp : List Addr} : Ctx (BX X scope s H Ca cl fp) (W0 W) :=
  ⟨C.calm, C.nd, LamX.takes0, PassesOwn.never, C.hu⟩
theorem de_gint {x : Str} {i : Int} {pos : Pos} (hg : Gl X x) (hm : ∃ t, X.mg x = some (.int i t)) (hd : (x == ("__debug__" : Str)) = false := by decide) : DenE X W (.Name x pos) (mC (.int i)) := by
  intro en g st σ H Q hT S h
  obtain ⟨t, hm⟩ := hm
  exact be (pe_glob (v := .int i) hg hm ⟨t, rfl⟩ hd) (h g H (Le.refl g) S _ rr_int)
theorem de_gstr {x z : Str} {pos : Pos} (hg : Gl X x) (hm : ∃ t, X.mg x = some (.str z t)) (hd : (x == ("__debug__" : Str)) = false := by decide) : DenE X W (.Name x pos) (mC (.str z)) := by
  intro en g st σ H Q hT S h
  obtain ⟨t, hm⟩ := hm
  exact be (pe_glob (v := .str z) hg hm ⟨t, rfl⟩ hd) (h g H (Le.refl g) S _ rr_str)
end
end Ab
namespace Ab
open PySem PySem.Spec PyProof.Rows L2
section
variable {P : Program} {w : World} {K : PySem.W.Frag} {mg : Str → Option Value} {base : Heap} {T : List (Addr × Str)}
theorem fn_bad {f : Addr} {fd : FuncData} {ps : List Str} {k : Nat} : FnOk P w K mg base (L2.CX P w) k f fd ps (spF K T ps.length fun _ _ _ => .bad) where
  len := fun vs H Q E h => by
    obtain ⟨g, ds, sg, b, hl, rv, _⟩ := h
    rw [← rv.length]
    exact hl
  run := fun A outer s H args us vs Q E _ _ _ _ h => by
    obtain ⟨g, ds, sg, b, _, _, _, _, hF⟩ := h
    exact hF.elim
def kn1 (a : Addr) (u : HO) : Gh := ⟨fun b o => b = a ∧ o = u, [], [], []⟩
def kn0 : Gh := ⟨fun _ _ => False, [], [], []⟩
theorem sim_kn {H : Hp} {g : Gh} (hk : ∀ a u, g.kn a u → H a = some u) (hm : g.m = []) (hp : g.px = []) (hl : g.lk = []) (ht : LamX.Tabs T H) : Sim K (enOf g H 0 [] T) g (bare [] 0) [] H where
  kn := fun a u h => .inl (hk a u h)
  len := rfl
  fz := fun i r h => by simp [bare] at h
  ow := fun i r h => by simp [bare] at h
  ud := fun i j r r' a h => by simp [bare] at h
  ce := fun i c h => by simp [bare] at h
  ml := by rw [hm]; rfl
  nd := by rw [hm]; exact .nil
  mq := fun a h => by rw [hm] at h; cases h
  px := fun p h => by rw [hp] at h; cases h
  pd := by rw [hp]; exact .nil
  lk := fun a h => by rw [hl] at h; cases h
  sb := rfl
  bl := Nat.le_refl _
  m0 := fun i a h => h
  mn := fun i a h e => by rw [hm] at e; simp at e
  k0 := fun a u h => h
  kw := fun a u h => .inl h
  fr := fun a o h _ _ => .inl h
  tb := fun a ps h => ⟨ps, h⟩
  pr := fun i h => rfl
  tt := ht
theorem sp_law {F : Fn} {H : Hp} {a : Addr} {ns : List Int} (hF : ∃ sg, F 0 [.scr ns] [] = .val ⟨.bl true, false⟩ sg) (hs : SqL K H a (ns.map V.int)) (ht : LamX.Tabs T H) : spF K T 1 F [.ref a] H (fun v _ => v = .bl true) fun _ _ _ => False := by
  obtain ⟨sg, hF⟩ := hF
  have key : ∀ g : Gh, (∀ a u, g.kn a u → H a = some u) → g.m = [] → g.px = [] → g.lk = [] → ScrAt K g a (ns.map V.int) → spF K T 1 F [.ref a] H (fun v _ => v = .bl true) fun _ _ _ => False := by
    intro g h1 h2 h3 h4 h5
    refine ⟨g, [.scr ns], [], 0, rfl, Reps.cons (by simp only [Rep]; exact ⟨a, rfl, h5⟩) Reps.nil, h3, sim_kn h1 h2 h3 h4 ht, ?_⟩
    rw [hF]
    intro v H' g' l S hv
    exact rr_isbl hv rfl
  rcases hs with (h | ⟨o, h⟩) | h
  · exact key (kn1 a _) (fun b u ⟨e1, e2⟩ => by rw [e1, e2]; exact h) rfl rfl rfl (.inl ⟨rfl, rfl⟩)
  · exact key (kn1 a _) (fun b u ⟨e1, e2⟩ => by rw [e1, e2]; exact h) rfl rfl rfl (.inr (.inl ⟨o, rfl, rfl⟩))
  · exact key kn0 (fun b u e => e.elim) rfl rfl rfl (.inr (.inr h))
end
theorem law_end {l : PySem.W.OpenLaw} {w : World} {K : PySem.W.Frag} {mg : Str → Option Value} {fa : Addr} {h : Heap} {k n : Nat} {x : Str} {fd : FuncData} {F : Fn} (cs : List (Addr × Addr)) (q : Addr × Addr → Str)
    (hF : ∀ ns : List Int, ns.length ≤ n → ∃ sg, F 0 [.scr ns] [] = .val ⟨.bl true, false⟩ sg)
    (h1 : ∀ p ∈ cs, h.get? p.2 = some { cls := .none, data := .fields #[] }) (h2 : ∀ p ∈ cs, K.lookup p.2 = none) (h3 : ∀ p ∈ cs, PySem.W.CodeHd h p.1 p.2) (hb : ∀ (s : Shared) (u : Value), BindsTo s fd ⟨[u], []⟩ [(x, u)])
    (ok : ∀ base : Heap, K.In base → base.Ns mainGlobals mg → (∀ p ∈ cs, LamX.TabB base mg p.1 p.2) → FnOk l.prog w K mg base (L2.CX l.prog w) k fa fd [x] (spF K (cs.map fun p => (p.2, q p)) 1 F)) : LamX.LawAtS l w K (L2.CX l.prog w) k n x mg fa h :=
  ⟨fd, cs, _, h1, h2, h3, hb, fun H a ns hl _ ht hs => sp_law (hF ns hl) hs fun p hp => by
    obtain ⟨c, hc, rfl⟩ := List.mem_map.mp hp
    exact LamX.TabS.nil (ht c hc), ok⟩
theorem no_exc {P : Program} {w : World} {H : Hp} {s : Shared} {e : Value} {s' : Shared} (h : L2.CX P w [] H s (fun _ _ _ => False) e s') : False := by
  obtain ⟨_, _, _, _, _, _, _, _, _, _, _, _, z⟩ := h
  exact z
end Ab
namespace Ab
open PySem PySem.Spec PyProof.Rows L2
section
variable {st st1 st2 : AS} {i : Nat} {d x y : D} {r : R} {oa ob : Opd} {a b : OM} {m : EM} {F : D → D → Option R}
theorem bind_val {α β : Type} {a : α} {s : AS} {k : α → AS → Out β} : (Out.val a s).bind k = k a s := rfl
theorem bind_bad {α β : Type} {k : α → AS → Out β} : (Out.bad : Out α).bind k = .bad := rfl
theorem bind_exc {α β : Type} {e : Ex} {s : AS} {k : α → AS → Out β} : (Out.exc e s : Out α).bind k = .exc e s := rfl
/-- an evaluation's steps -/
theorem e_C : mC d st = .val ⟨d, false⟩ st := rfl
theorem e_var (h : st.sl[i]? = some (some ⟨d, false⟩)) : mVar i st = .val ⟨d, false⟩ st := by
  unfold mVar
  rw [h]
  rfl
theorem e_oVar (h : st.sl[i]? = some (some r)) : oVar i st = .val (.sl i) st := by
  unfold oVar
  rw [h]
theorem e_move (h : st.sl[i]? = some (some ⟨d, false⟩)) : mMove i st = .val ⟨d, false⟩ st := by
  unfold mMove
  rw [h]
  rfl
theorem e_moveOwn (h : st.sl[i]? = some (some ⟨d, true⟩)) : mMove i st = .val ⟨d, true⟩ (st.put i none) := by
  unfold mMove
  rw [h]
  rfl
theorem e_oE (h : m st = .val r st1) : oE m st = .val (.v r.d) st1 := by
  unfold oE
  rw [h]
  rfl
theorem e_bin (ha : a st = .val oa st1) (hb : b st1 = .val ob st2) (hx : st2.res oa = some x) (hy : st2.res ob = some y) (h : F x y = some r) : mBin F a b st = .val r st2 := by
  unfold mBin
  rw [ha, bind_val, hb, bind_val, hx, Option.bind_some, hy, Option.bind_some, h]
end
end Ab
namespace Ab
open PySem PySem.Spec PyProof.Rows L2
section
variable {X : Cx} {W : WT}
abbrev PM := AS → Out (Option Int)
def bestP (X : Cx) (o : Option Expr) : TO := fun σ H Q => ∀ pins s, Inv X pins σ H s → wpAny (model X.prog X.w) X.A (evalPart o X.env) (fun u s' => ∃ i H', Inv X pins σ H' s' ∧ IsPart u i ∧ Q i H') X.xe s
theorem pbP (o : Option Expr) : PO X o (bestP X o) := ⟨fun pins s σ H Q I h => h pins s I⟩
theorem bp {o : Option Expr} {t : TO} {σ : L2.St} {H : Hp} {Q : Option Int → Hp → Prop} (h : PO X o t) (q : t σ H Q) : bestP X o σ H Q := fun pins s I => h.run pins s σ H Q I q
def DenP (X : Cx) (W : WT) (o : Option Expr) (m : PM) : Prop := ∀ (en : En) (g : Gh) (st : AS) (σ : L2.St) (H : Hp) (Q : Option Int → Hp → Prop), en.T = W.T → Sim X.K en g st σ H →
  OutP X.K en W g σ (fun i st' g' H' => Q i H') (m st) → bestP X o σ H Q
def pNone : PM := fun st => .val none st
def pSome (m : EM) : PM := fun st => (m st).bind fun r st1 => match r.d with
  | .int i => .val (some i) st1
  | _ => .bad
theorem dp_none : DenP X W none pNone := fun en g st σ H Q hT S q => bp po_none (q g H (Le.refl g) S)
theorem dp_some {e : Expr} {m : EM} (h : DenE X W e m) : DenP X W (some e) (pSome m) := by
  intro en g st σ H Q hT S q
  refine bp (po_some (pbE e)) (h.sealed hT S (q.bind.mono (Le.refl g) fun r st1 g1 H1 l1 S1 q1 => ?_))
  intro v hv
  split at q1
  · rename_i i e
    rw [e] at hv
    simp only [Rep] at hv
    exact ⟨i, hv, q1 g1 H1 (Le.refl g1) S1⟩
  · exact q1.elim
def cutD (xs : List D) (lo hi : Option Int) : List D := (xs.drop (HT.sIx xs.length 0 lo)).take (HT.sIx xs.length xs.length hi - HT.sIx xs.length 0 lo)
theorem Reps.dropR {K : PySem.W.Frag} {g : Gh} : ∀ {ds : List D} {vs : List V} (n : Nat), Reps K g ds vs → Reps K g (ds.drop n) (vs.drop n)
  | [], vs, n, h => by
    simp only [Reps] at h
    subst h
    simp only [List.drop_nil, Reps]
  | d :: ds, vs, 0, h => h
  | d :: ds, vs, n + 1, h => by
    simp only [Reps] at h
    obtain ⟨v, r, rfl, h1, h2⟩ := h
    simp only [List.drop_succ_cons]
    exact Reps.dropR n h2
theorem Reps.takeR {K : PySem.W.Frag} {g : Gh} : ∀ {ds : List D} {vs : List V} (n : Nat), Reps K g ds vs → Reps K g (ds.take n) (vs.take n)
  | [], vs, n, h => by
    simp only [Reps] at h
    subst h
    simp only [List.take_nil, Reps]
  | d :: ds, vs, 0, h => by simp only [List.take_zero, Reps]
  | d :: ds, vs, n + 1, h => by
    simp only [Reps] at h
    obtain ⟨v, r, rfl, h1, h2⟩ := h
    simp only [List.take_succ_cons]
    exact Reps.cons h1 (Reps.takeR n h2)
theorem Reps.cutR {K : PySem.W.Frag} {g : Gh} {ds : List D} {vs : List V} (lo hi : Option Int) (h : Reps K g ds vs) : Reps K g (cutD ds lo hi) (cutV vs lo hi) := by
  unfold cutD cutV
  rw [h.length]
  exact (h.dropR _).takeR _
theorem Reps.rev {K : PySem.W.Frag} {g : Gh} : ∀ {ds : List D} {vs : List V}, Reps K g ds vs → Reps K g ds.reverse vs.reverse
  | [], vs, h => by
    simp only [Reps] at h
    subst h
    simp only [List.reverse_nil, Reps]
  | d :: ds, vs, h => by
    simp only [Reps] at h
    obtain ⟨v, r, rfl, h1, h2⟩ := h
    simp only [List.reverse_cons]
    exact (Reps.rev h2).append (Reps.cons h1 Reps.nil)
def slD (lo hi : Option Int) : D → Option R
  | .lst xs => some ⟨.lst (cutD xs lo hi), true⟩
  | .tup xs => if HT.sIx xs.length 0 lo = 0 ∧ HT.sIx xs.length xs.length hi = xs.length then none else rv (.tup (cutD xs lo hi))
  | _ => none
def mSlice (a : OM) (l h : PM) : EM := fun st => (a st).bind fun oa st1 => (l st1).bind fun lo st2 => (h st2).bind fun hi st3 =>
  match (st3.res oa).bind (slD lo hi) with
  | some r => .val r st3
  | none => .bad
theorem de_slice {e : Expr} {lo hi : Option Expr} {ma : OM} {ml mh : PM} {p2 pos : Pos} (ha : DenO X W e ma) (hl : DenP X W lo ml) (hh : DenP X W hi mh) : DenE X W (.Subscript e (.Slice lo hi none p2) pos) (mSlice ma ml mh) := by
  intro en g st σ H Q hT S q
  refine be (pe_slice (SlR.or sl_list sl_tup) (pbE e) (pbP lo) (pbP hi)) ?_
  refine ha en g st σ H _ hT S (q.bind.mono (Le.refl g) fun oa st1 g1 H1 l1 S1 q1 => ?_)
  intro x hx
  refine hl en g1 st1 σ H1 _ hT S1 (q1.bind.mono (Le.refl g1) fun i st2 g2 H2 l2 S2 q2 => ?_)
  refine hh en g2 st2 σ H2 _ hT S2 (q2.bind.mono (Le.refl g2) fun j st3 g3 H3 l3 S3 q3 => ?_)
  split at q3
  · rename_i r hr
    obtain ⟨dx, ex, hr⟩ := Option.bind_eq_some_iff.mp hr
    have vx := S3.opd ((hx.le l2).le l3) ex
    unfold slD at hr
    split at hr
    · cases hr
      simp only [Vw] at vx
      obtain ⟨a, vs, rfl, h1, h2⟩ := vx
      exact .inl ⟨a, vs, rfl, .inl (.inl h1), fun p n => q3 g3 _ (Le.refl g3) (S3.new n) _ (S3.newOwn (c := .lst _) rfl n ⟨_, rfl, h2.cutR i j⟩)⟩
    · split at hr
      · cases hr
      · rename_i xs hw
        cases hr
        simp only [Vw] at vx
        obtain ⟨a, vs, rfl, h1, _, h2⟩ := vx
        rw [h2.length] at hw
        refine .inr ⟨a, vs, rfl, h1, hw, fun p n => ?_⟩
        obtain ⟨g', l, S', h⟩ := RR.newTup S3 n (h2.cutR i j)
        exact q3 g' _ l S' _ h
    · cases hr
  · exact q3.elim
def revD : D → Option R
  | .lst xs => some ⟨.lst xs.reverse, true⟩
  | _ => none
theorem de_rev {e : Expr} {m : OM} {k : Nat} {p1 p2 p3 pos : Pos} (h : DenO X W e m) : DenE X W (.Subscript e (.Slice none none (some (.UnaryOp .USub (.Constant (.int 1) k p1) p2)) p3) pos) (mB1 revD m) := by
  intro en g st σ H Q hT S q
  refine be (pe_revL (pbE e)) (h en g st σ H _ hT S (q.bind.mono (Le.refl g) fun oa st1 g1 H1 l1 S1 q1 => ?_))
  intro x hx
  split at q1
  · rename_i r hr
    obtain ⟨dx, ex, hr⟩ := Option.bind_eq_some_iff.mp hr
    have vx := S1.opd hx ex
    unfold revD at hr
    split at hr
    · cases hr
      simp only [Vw] at vx
      obtain ⟨a, vs, rfl, h1, h2⟩ := vx
      exact ⟨a, vs, rfl, .inl (.inl h1), fun p n => q1 g1 _ (Le.refl g1) (S1.new n) _ (S1.newOwn (c := .lst _) rfl n ⟨_, rfl, h2.rev⟩)⟩
    · cases hr
  · exact q1.elim
def listD : D → Option R
  | .lst xs => some ⟨.lst xs, true⟩
  | .tup xs => some ⟨.lst xs, true⟩
  | _ => none
theorem r_list : RV1 X (fun xs H Q => ∃ p ys, xs = [.ref p] ∧ (SqL X.K H p ys ∨ SqT X.K H p ys) ∧ ∀ l, H l = none → Q (.ref l) (upd H l (.lst ys))) listD := by
  intro en g st σ H x dx rr Q S hx hr q
  unfold listD at hr
  split at hr
  · cases hr
    simp only [Vw] at hx
    obtain ⟨a, vs, rfl, h1, h2⟩ := hx
    exact ⟨a, vs, rfl, .inl (.inl (.inl h1)), fun p n => q g _ _ (Le.refl g) (S.new n) (S.newOwn (c := .lst _) rfl n ⟨_, rfl, h2⟩)⟩
  · cases hr
    simp only [Vw] at hx
    obtain ⟨a, vs, rfl, h1, _, h2⟩ := hx
    exact ⟨a, vs, rfl, .inr h1, fun p n => q g _ _ (Le.refl g) (S.new n) (S.newOwn (c := .lst _) rfl n ⟨_, rfl, h2⟩)⟩
  · cases hr
def enD : Nat → List D → List D
  | _, [] => []
  | i, d :: ds => .tup [.int i, d] :: enD (i + 1) ds
theorem enD_length : ∀ (ds : List D) (i : Nat), (enD i ds).length = ds.length
  | [], i => rfl
  | d :: ds, i => by rw [enD, List.length_cons, enD_length ds, List.length_cons]
theorem enD_get : ∀ (ds : List D) (k i : Nat) (e : D), (enD k ds)[i]? = some e → ∃ d, ds[i]? = some d ∧ e = .tup [.int ((k + i : Nat) : Int), d]
  | [], k, i, e, h => by simp [enD] at h
  | d :: ds, k, 0, e, h => by
    simp only [enD, List.getElem?_cons_zero, Option.some.injEq] at h
    exact ⟨d, rfl, h.symm⟩
  | d :: ds, k, i + 1, e, h => by
    simp only [enD, List.getElem?_cons_succ] at h
    obtain ⟨d', h1, h2⟩ := enD_get ds (k + 1) i e h
    refine ⟨d', by simpa using h1, ?_⟩
    rw [h2, show k + 1 + i = k + (i + 1) by omega]
def iEn (m : EM) : IM := fun st => (m st).bind fun r st1 => match r.d with
  | .lst ds => .val ⟨enD 0 ds, okT⟩ st1
  | _ => .bad
theorem walks_en {K : PySem.W.Frag} {en : En} {g : Gh} {a : Addr} {ds : List D} {vs : List V} (hk : g.kn a (.lst vs)) (hr : Reps K g ds vs) : Walks K en g (Ite K a) ⟨enD 0 ds, okT⟩ where
  stop := fun i g' st σ H l S _ h => ⟨vs, .inl (.inl ((S.kn _ _ (l.kn _ _ hk)).at_ rfl)), by have := hr.length; rw [enD_length] at h; omega⟩
  go := fun i g' st σ H l S _ h => ⟨vs, vs[i]'(by have := hr.length; rw [enD_length] at h; omega), .inl (.inl ((S.kn _ _ (l.kn _ _ hk)).at_ rfl)), List.getElem?_eq_getElem _⟩
  yld := fun i g' st σ H x H' d l S _ e ⟨T, y, e1, e2, e3, e4⟩ => by
    obtain ⟨d', h1, h2⟩ := enD_get ds 0 i d e
    obtain ⟨v, e5, e6⟩ := (hr.leK l).get h1
    have := e4 vs (.inl (.inl ((S.kn _ _ (l.kn _ _ hk)).at_ rfl)))
    rw [e5] at this
    cases this
    subst e1 e3 h2
    have hv : Reps K g' [.int ((0 + i : Nat) : Int), d'] [.int (i : Nat), y] := Reps.cons (by simp only [Rep, Nat.zero_add]) (Reps.cons e6 Reps.nil)
    refine ⟨g'.add T _, Le.add g' T _, S.newKn e2, ?_⟩
    simp only [Rep]
    exact ⟨T, _, rfl, .inl (.inr ⟨rfl, rfl⟩), hv.le (Le.add g' T _)⟩
theorem di_en {e : Expr} {m : EM} {p pos tpos : Pos} {elts : List Expr} {kk : Nat} (hg : Gl X "enumerate") (hm : X.mg "enumerate" = none) (h : DenE X W e m) (hs : starEach [e] X.env = [(false, eval e X.env)] := by rfl) :
    DenI X W (.Tuple elts kk tpos) (.Call (.Name "enumerate" p) [e] [] pos) (iEn m) := by
  intro en g st σ H R hT S q
  refine bi (pi_enum hg hm (pbA [e]) hs) ?_
  refine (da_cons (hs := hs) h da_nil) en g st σ H _ hT S ?_
  unfold iEn at q
  unfold aCons aNil
  generalize m st = o at q
  cases o with
  | val r st1 =>
    simp only [Out.bind] at q ⊢
    intro g1 H1 l1 S1 vs hv
    generalize r.d = d at hv q
    cases d <;> simp only at q
    case lst ds =>
      simp only [Reps] at hv
      obtain ⟨v, r', rfl, h1, rfl⟩ := hv
      simp only [Rep] at h1
      obtain ⟨a, xs, rfl, hk, hr⟩ := h1
      exact ⟨a, xs, rfl, .inl (.inl ((S1.kn _ _ hk).at_ rfl)), q g1 H1 l1 S1 _ (walks_en hk hr)⟩
    all_goals exact q.elim
  | exc e st1 => exact q
  | bad => exact q
end
end Ab
namespace Ab
open PySem PySem.Spec PyProof.Rows L2
def frz1 (st : AS) (i : Nat) : AS := match st.sl[i]? with
  | some (some r) => if r.own then st.put i (some ⟨r.d, false⟩) else st
  | _ => st
def frzN (st : AS) : Nat → AS
  | 0 => st
  | n + 1 => frz1 (frzN st n) n
def noOwn : Option R → Bool
  | some r => !r.own
  | none => true
def flatD : D → Bool
  | .non => true
  | .bl _ => true
  | .int _ => true
  | .str _ => true
  | _ => false
section
variable {K : PySem.W.Frag} {en : En} {g : Gh} {st : AS} {σ : L2.St} {H : Hp}
theorem frz1_sg (st : AS) (i : Nat) : (frz1 st i).sg = st.sg := by
  unfold frz1
  split
  · split <;> rfl
  · rfl
theorem frzN_sg (st : AS) : ∀ n, (frzN st n).sg = st.sg
  | 0 => rfl
  | n + 1 => by rw [frzN, frz1_sg, frzN_sg st n]
theorem sealN (S : Sim K en g st σ H) : ∀ n, ∃ gs, Le g gs ∧ Sim K en gs (frzN st n) σ H ∧ gs.m = g.m ∧ ∀ (i : Nat) (r : R), st.sl[i]? = some (some r) → r.own = true → (frzN st n).sl[i]? = some (some r) ∨ ∃ (a : Addr) (u : HO), σ[i]? = some (some (V.ref a)) ∧ gs.kn a u
  | 0 => ⟨g, Le.refl g, S, rfl, fun i r h _ => .inl h⟩
  | n + 1 => by
    obtain ⟨gs, l, S1, hm, hk⟩ := sealN S n
    rw [frzN, frz1]
    split
    · rename_i r hr
      split
      · rename_i ho
        obtain ⟨a, u, e1, l1, _, S2⟩ := S1.seal hr ho
        refine ⟨gs.add a u, l.trans l1, S2, hm, fun i q hi oi => ?_⟩
        rcases hk i q hi oi with h | ⟨b, w, h1, h2⟩
        · by_cases e : n = i
          · subst e
            exact .inr ⟨a, u, e1, add_kn⟩
          · refine .inl ?_
            show ((frzN st n).sl.set n _)[i]? = _
            rw [List.getElem?_set_ne e]
            exact h
        · exact .inr ⟨b, w, h1, .inl h2⟩
      · exact ⟨gs, l, S1, hm, hk⟩
    · exact ⟨gs, l, S1, hm, hk⟩
theorem Sim.back {gs g' : Gh} {st1 st2 : AS} {H' : Hp} (S : Sim K en g st σ H) (l : Le g gs) (S1 : Sim K en gs st1 σ H) (hk : ∀ (i : Nat) (r : R), st.sl[i]? = some (some r) → r.own = true → ∃ (a : Addr) (u : HO), σ[i]? = some (some (V.ref a)) ∧ gs.kn a u) (hz : st.sg = []) (l2 : Le gs g') (S2 : Sim K en g' st2 σ H') : Sim K en g st σ H' := { S with
  kn := fun a u h => by
    rcases S2.kn a u (l2.kn a u (l.kn a u h)) with h1 | ⟨h1, h2⟩
    · exact .inl h1
    · exact .inr ⟨by rw [← l.lk, ← l2.lk]; exact h1, h2⟩
  ow := fun i r h o => by
    obtain ⟨a, c, u, e1, e2, e3, e4, e5, e6, e7, e8⟩ := S.ow i r h o
    obtain ⟨b, w, e9, e10⟩ := hk i r h o
    rw [e1] at e9
    cases e9
    have nl : a ∉ g.lk := fun z => let ⟨w, q⟩ := S.lk a z; e5 w q
    have hw : w = u := by
      rcases S1.kn a w e10 with h1 | ⟨h1, _⟩
      · rw [e3] at h1
        exact (Option.some.inj h1).symm
      · exact absurd (l.lk ▸ h1) nl
    subst hw
    have h' : H' a = some w := by
      rcases S2.kn a w (l2.kn a w e10) with h1 | ⟨h1, _⟩
      · exact h1
      · exact absurd (l.lk ▸ l2.lk ▸ h1) nl
    exact ⟨a, c, w, e1, e2, h', e4, e5, e6, e7, e8⟩
  ce := fun i c h => by rw [hz] at h; simp at h
  px := fun p hp => by
    have hp' : p ∈ g'.px := by rw [l2.px, l.px]; exact hp
    obtain ⟨_, e2, e3, e4, e5⟩ := S.px p hp
    exact ⟨(S2.px p hp').1, e2, e3, e4, e5⟩
  fr := fun a o h1 h2 h3 => by
    rcases S2.fr a o h1 h2 h3 with h | ⟨h, r⟩
    · exact .inl h
    · exact .inr ⟨by rw [← l.lk, ← l2.lk]; exact h, r⟩
  tb := S2.tb
  tt := S2.tt }
end
section
variable {X : Cx} {W : WT}
def mBack (m : EM) : EM := fun st => if st.sg.isEmpty && (frzN st st.sl.length).sl.all noOwn then (match m (frzN st st.sl.length) with
  | .val r st2 => if !r.own && flatD r.d then .val r st else .bad
  | _ => .bad) else .bad
theorem de_back {e : Expr} {m : EM} (h : DenE X W e m) : DenE X W e (mBack m) := by
  intro en g st σ H Q hT S q
  unfold mBack at q
  split at q
  · rename_i hc
    simp only [Bool.and_eq_true] at hc
    have hz : st.sg = [] := by simpa using hc.1
    obtain ⟨gs, l, S1, hm, hk⟩ := sealN S st.sl.length
    have hk2 : ∀ (i : Nat) (r : R), st.sl[i]? = some (some r) → r.own = true → ∃ (a : Addr) (u : HO), σ[i]? = some (some (V.ref a)) ∧ gs.kn a u := by
      intro i r hi ho
      rcases hk i r hi ho with z | z
      · have := List.all_eq_true.mp hc.2 _ (List.mem_of_getElem? z)
        simp [noOwn, ho] at this
      · exact z
    refine h en gs (frzN st st.sl.length) σ H Q hT S1 ?_
    cases hm : m (frzN st st.sl.length) with
    | val r st2 =>
      rw [hm] at q
      simp only at q
      split at q
      · rename_i hf
        simp only [Bool.and_eq_true, Bool.not_eq_true'] at hf
        intro g' H' l2 S2 v hv
        refine q g H' (Le.refl g) (S.back l S1 hk2 hz l2 S2) v ?_
        rcases hv with ⟨h1, h2⟩ | ⟨h1, _⟩
        · refine .inl ⟨h1, ?_⟩
          cases hd : r.d <;> rw [hd] at h2 hf <;> simp only [flatD, Bool.false_eq_true, and_false] at hf <;> simpa only [Rep] using h2
        · rw [hf.1] at h1
          cases h1
      · exact q.elim
    | exc x st2 => rw [hm] at q; exact q.elim
    | bad => rw [hm] at q; exact q.elim
  · exact q.elim
end
end Ab
namespace Ab
open PySem PySem.Spec PyProof.Rows L2
namespace Q
def B_L_mixed : SM :=
  sSeq (sSet 2 (mBin modD (oE (mBin mulD (oVar 0) (oVar 0))) (oE (mC (.int 2147483647)))))
  (sRet (mBin modD (oE (mBin addD (oE (mBin addD (oE (mBin mulD (oVar 2) (oE (mBin addD (oE (mBin modD (oVar 0) (oE (mC (.int 65521))))) (oE (mC (.int 3))))))) (oE (mBin mulD (oVar 1) (oE (mC (.int 7919))))))) (oE (mC (.int 131))))) (oE (mC (.int 2147483647)))))
def F_L_mixed : Fn := runF B_L_mixed 3
def S_draw : SM := (sIf (tB (mBin gtD (oVar 2) (oE (mC (.int 0))))) (sSeq (sExpr (mMutL apD (oVar 4) (aCons (mBin modD (oVar 2) (oVar 5)) (aNil))))
  (sSet 2 (mBin fdivD (oVar 2) (oVar 5)))) (sSeq (sSet 3 (mCallN 2 (pureF F_L_mixed) (aCons (mVar 3) (aCons (mB1 lenD (oVar 4)) (aNil)))))
  (sExpr (mMutL apD (oVar 4) (aCons (mBin modD (oE (mBin fdivD (oVar 3) (oE (mC (.int 61))))) (oVar 5)) (aNil))))))
def B_L_draw : SM :=
  sSeq (sSet 2 (mIf (tB (mBin geD (oVar 0) (oE (mBin powD (oE (mC (.int 10))) (oE (mC (.int 18))))))) (mVar 0) (mC (.int 0))))
  (sSeq (sSet 3 (mBin modD (oE (mBin addD (oE (mBin mulD (oE (mB1 absD (oVar 0))) (oE (mC (.int 2654435))))) (oE (mC (.int 40503))))) (oE (mC (.int 2147483647)))))
  (sSeq (sSet 4 (mLst (aNil)))
  (sSeq (sFor (iL (mVar 1)) (gNm 5) S_draw)
  (sRet (mMove 4)))))
def F_L_draw : Fn := runF B_L_draw 6
def B_L_cell : SM :=
  sSeq (sIf (tB (mBin ltD (oVar 1) (oE (mB1 lenD (oVar 0))))) (sRet (mIx (oVar 0) (oVar 1))) (sNil))
  (sSeq (sIf (tB (mBin eqF (oE (mB1 lenD (oVar 0))) (oE (mC (.int 0))))) (sRet (mBin mulD (oE (mC (.int 7919))) (oVar 1))) (sNil))
  (sRet (mBin addD (oE (mIx (oVar 0) (oE (mBin modD (oVar 1) (oE (mB1 lenD (oVar 0))))))) (oE (mBin mulD (oE (mC (.int 104729))) (oVar 1))))))
def F_L_cell : Fn := runF B_L_cell 2
theorem mulL {i j : Int} (h : i.natAbs < 2 ^ 64) : mulOk i j = true := by
  simp only [mulOk, h, decide_true, Bool.true_or]
theorem mulR {i j : Int} (h : j.natAbs < 2 ^ 64) : mulOk i j = true := by
  simp only [mulOk, h, decide_true, Bool.true_or, Bool.or_true]
theorem eqInt (i j : Int) : eqF (.int i) (.int j) = rv (.bl (decide (i = j))) := by
  simp [eqF, okD, eqD, toPy, SeqAt.shaped, PyData.eqv, rv, PyData.canLay0, PyData.depth]
  rfl
theorem mixed_eq (b : Nat) (s k : Int) (sg : List Cell) (h0 : 0 ≤ s) (h1 : s < 2147483647) : ∃ r, 0 ≤ r ∧ r < 2147483647 ∧ F_L_mixed b [.int s, .int k] sg = .val ⟨.int r, false⟩ sg := by
  have h : mulOk s s = true := mulL (by omega)
  have h2 : mulOk (s * s % 2147483647) (s % 65521 + 3) = true := mulL (by
    have a := Int.emod_nonneg (s * s) (b := 2147483647) (by decide)
    have b := Int.emod_lt_of_pos (s * s) (b := 2147483647) (by decide)
    omega)
  have h3 : mulOk k 7919 = true := mulR (by decide)
  refine ⟨(s * s % 2147483647 * (s % 65521 + 3) + k * 7919 + 131) % 2147483647, Int.emod_nonneg _ (by decide), Int.emod_lt_of_pos _ (by decide), ?_⟩
  simp only [F_L_mixed, B_L_mixed, h, h2, h3, runF, startS, sRet, sSeq, sSet, sIf, sNil, sExpr, mBin, mIf, mVar, mMove, oE, oVar, mC, mIx, mLst, mTup, mNeg, aNil, aCons, tB, tE, mCallN, callF, pureF, refsLt, refsLts, mB1, AS.res, AS.view, bind_val, intF, mulD, addD, lenD, absD, modOk, rv, AS.put, List.map, List.append, List.replicate, List.length, List.cons_append, List.nil_append, List.getElem?_cons_zero, List.getElem?_cons_succ, Option.bind_some, if_true, if_false, List.set, decide_true, decide_false, reduceIte, Int.reduceLT, Bool.false_eq_true]
theorem log2_of {n k : Nat} (h : n < 2 ^ k) (hk : 0 < k) : n.log2 < k := by
  by_cases e : n = 0
  · subst e
    simpa using hk
  · exact (Nat.log2_lt e).2 h
/-- one turn of the draw -/
theorem draw_turn (b : Nat) (sg : List Cell) (A B : Option R) (rest seed : Int) (fs : List D) (l : Int) (h0 : 0 ≤ seed) (h1 : seed < 2147483647) (hl : 0 < l) (hl2 : l < 2 ^ 100) (hf : fs.length < 10000) : ∃ rest' seed' r, 0 ≤ seed' ∧ seed' < 2147483647 ∧ 0 ≤ r ∧ r < l ∧
    S_draw ⟨[A, B, some ⟨.int rest, false⟩, some ⟨.int seed, false⟩, some ⟨.lst fs, true⟩, some ⟨.int l, false⟩], sg, b⟩ = .val .nx ⟨[A, B, some ⟨.int rest', false⟩, some ⟨.int seed', false⟩, some ⟨.lst (fs ++ [.int r]), true⟩, some ⟨.int l, false⟩], sg, b⟩ := by
  have hd : divOk rest l = true := by
    have : l.natAbs.log2 < 100 := log2_of (by omega) (by decide)
    simp only [divOk, hl, decide_true, Bool.true_and, decide_eq_true_eq]
    omega
  have hf2 : fs.length < LIM := by
    unfold LIM
    omega
  by_cases hr : 0 < rest
  · refine ⟨rest / l, seed, rest % l, h0, h1, Int.emod_nonneg _ (by omega), Int.emod_lt_of_pos _ hl, ?_⟩
    simp only [S_draw, hr, hd, hl, hf2, mMutL, apD, kindL, locOf, AS.at_, AS.setAt, toCell, ofCell, mutO, mutS, okAt, Option.isSome_some, runF, startS, sRet, sSeq, sSet, sIf, sNil, sExpr, mBin, mIf, mVar, mMove, oE, oVar, mC, mIx, mLst, mTup, mNeg, aNil, aCons, tB, tE, mCallN, callF, pureF, refsLt, refsLts, mB1, AS.res, AS.view, bind_val, intF, mulD, addD, lenD, absD, modOk, rv, AS.put, List.map, List.append, List.replicate, List.length, List.cons_append, List.nil_append, List.getElem?_cons_zero, List.getElem?_cons_succ, Option.bind_some, if_true, if_false, List.set, decide_true, decide_false, reduceIte, Int.reduceLT, Bool.false_eq_true]
  · obtain ⟨s', a1, a2, e⟩ := mixed_eq sg.length seed fs.length sg h0 h1
    refine ⟨rest, s', s' / 61 % l, a1, a2, Int.emod_nonneg _ (by omega), Int.emod_lt_of_pos _ hl, ?_⟩
    have hd2 : divOk s' 61 = true := by
      simp only [divOk, Int.reduceLT, decide_true, Bool.true_and]
      decide +kernel
    simp only [S_draw, hr, hd, hl, hf2, e, hd2, mMutL, apD, kindL, locOf, AS.at_, AS.setAt, toCell, ofCell, mutO, mutS, okAt, Option.isSome_some, runF, startS, sRet, sSeq, sSet, sIf, sNil, sExpr, mBin, mIf, mVar, mMove, oE, oVar, mC, mIx, mLst, mTup, mNeg, aNil, aCons, tB, tE, mCallN, callF, pureF, refsLt, refsLts, mB1, AS.res, AS.view, bind_val, intF, mulD, addD, lenD, absD, modOk, rv, AS.put, List.map, List.append, List.replicate, List.length, List.cons_append, List.nil_append, List.getElem?_cons_zero, List.getElem?_cons_succ, Option.bind_some, if_true, if_false, List.set, decide_true, decide_false, reduceIte, Int.reduceLT, Bool.false_eq_true]
/-- each number in its limits -/
def InR : List Int → List Int → Prop
  | [], [] => True
  | r :: rs, l :: ls => (0 ≤ r ∧ r < l) ∧ InR rs ls
  | _, _ => False
/-- all turns -/
theorem draw_turns (b : Nat) (sg : List Cell) (A B : Option R) : ∀ (ls : List Int) (rest seed : Int) (fs : List D) (C : Option R), 0 ≤ seed → seed < 2147483647 → (∀ l ∈ ls, 0 < l ∧ l < 2 ^ 100) → fs.length + ls.length < 10000 → ∃ rs : List Int, InR rs ls ∧ ∃ rest' seed' C',
    forG okT (gNm 5) S_draw (ls.map .int) ⟨[A, B, some ⟨.int rest, false⟩, some ⟨.int seed, false⟩, some ⟨.lst fs, true⟩, C], sg, b⟩ = .val .nx ⟨[A, B, some ⟨.int rest', false⟩, some ⟨.int seed', false⟩, some ⟨.lst (fs ++ rs.map .int), true⟩, C'], sg, b⟩
  | [], rest, seed, fs, C, _, _, _, _ => ⟨[], trivial, rest, seed, C, by simp only [List.map, forG, okT, List.append_nil, if_true]⟩
  | l :: ls, rest, seed, fs, C, h0, h1, hl, hn => by
    simp only [List.length_cons] at hn
    obtain ⟨rest', seed', r, a0, a1, a2, a3, e⟩ := draw_turn b sg A B rest seed fs l h0 h1 (hl l List.mem_cons_self).1 (hl l List.mem_cons_self).2 (by omega)
    obtain ⟨rs, hrs, rest2, seed2, C2, e2⟩ := draw_turns b sg A B ls rest' seed' (fs ++ [.int r]) (some ⟨.int l, false⟩) a0 a1 (fun x hx => hl x (List.mem_cons_of_mem _ hx)) (by simp only [List.length_append, List.length_cons, List.length_nil]; omega)
    refine ⟨r :: rs, ⟨⟨a2, a3⟩, hrs⟩, rest2, seed2, C2, ?_⟩
    rw [List.map_cons]
    simp only [forG, okT, if_true, gNm, AS.put, List.set]
    rw [e, bind_val]
    simp only [turnEnd]
    have e3 : fs ++ [D.int r] ++ List.map D.int rs = fs ++ List.map D.int (r :: rs) := by simp
    rw [← e3]
    exact e2
/-- THE DRAW: each number in its limits -/
theorem draw_eq (b : Nat) (sg : List Cell) (c : Int) (ls : List Int) (hl : ∀ l ∈ ls, 0 < l ∧ l < 2 ^ 100) (hn : ls.length < 10000) : ∃ rs : List Int, InR rs ls ∧
    F_L_draw b [.int c, .lst (ls.map .int)] sg = .val ⟨.lst (rs.map .int), true⟩ sg := by
  have h18 : powOk 10 18 = true := by decide +kernel
  have hm (i : Int) : mulOk i 2654435 = true := mulR (by decide)
  have s0 := Int.emod_nonneg ((if c < 0 then -c else c) * 2654435 + 40503) (b := 2147483647) (by decide)
  have s1 := Int.emod_lt_of_pos ((if c < 0 then -c else c) * 2654435 + 40503) (b := 2147483647) (by decide)
  obtain ⟨rs, hrs, rest', seed', C', e⟩ := draw_turns b sg (some ⟨.int c, false⟩) (some ⟨.lst (ls.map .int), false⟩) ls (if 10 ^ 18 ≤ c then c else 0) _ [] none s0 s1 hl (by simp only [List.length_nil]; omega)
  refine ⟨rs, hrs, ?_⟩
  rw [List.nil_append] at e
  have e18 : (10 : Int) ^ (18 : Int).toNat = 10 ^ 18 := rfl
  by_cases h : (10 : Int) ^ 18 ≤ c
  · rw [if_pos h] at e
    simp only [F_L_draw, B_L_draw, h18, hm, sFor, iL, e18, h, runF, startS, sRet, sSeq, sSet, sIf, sNil, sExpr, mBin, mIf, mVar, mMove, oE, oVar, mC, mIx, mLst, mTup, mNeg, aNil, aCons, tB, tE, mCallN, callF, pureF, refsLt, refsLts, mB1, AS.res, AS.view, bind_val, intF, mulD, addD, lenD, absD, modOk, rv, AS.put, List.map, List.append, List.replicate, List.length, List.cons_append, List.nil_append, List.getElem?_cons_zero, List.getElem?_cons_succ, Option.bind_some, if_true, if_false, List.set, decide_true, decide_false, reduceIte, Int.reduceLT, Bool.false_eq_true, Nat.zero_le, LIM]
    rw [e]
    simp only [runF, startS, sRet, sSeq, sSet, sIf, sNil, sExpr, mBin, mIf, mVar, mMove, oE, oVar, mC, mIx, mLst, mTup, mNeg, aNil, aCons, tB, tE, mCallN, callF, pureF, refsLt, refsLts, mB1, AS.res, AS.view, bind_val, intF, mulD, addD, lenD, absD, modOk, rv, AS.put, List.map, List.append, List.replicate, List.length, List.cons_append, List.nil_append, List.getElem?_cons_zero, List.getElem?_cons_succ, Option.bind_some, if_true, if_false, List.set, decide_true, decide_false, reduceIte, Int.reduceLT, Bool.false_eq_true]
  · rw [if_neg h] at e
    simp only [F_L_draw, B_L_draw, h18, hm, sFor, iL, e18, h, runF, startS, sRet, sSeq, sSet, sIf, sNil, sExpr, mBin, mIf, mVar, mMove, oE, oVar, mC, mIx, mLst, mTup, mNeg, aNil, aCons, tB, tE, mCallN, callF, pureF, refsLt, refsLts, mB1, AS.res, AS.view, bind_val, intF, mulD, addD, lenD, absD, modOk, rv, AS.put, List.map, List.append, List.replicate, List.length, List.cons_append, List.nil_append, List.getElem?_cons_zero, List.getElem?_cons_succ, Option.bind_some, if_true, if_false, List.set, decide_true, decide_false, reduceIte, Int.reduceLT, Bool.false_eq_true, Nat.zero_le, LIM]
    rw [e]
    simp only [runF, startS, sRet, sSeq, sSet, sIf, sNil, sExpr, mBin, mIf, mVar, mMove, oE, oVar, mC, mIx, mLst, mTup, mNeg, aNil, aCons, tB, tE, mCallN, callF, pureF, refsLt, refsLts, mB1, AS.res, AS.view, bind_val, intF, mulD, addD, lenD, absD, modOk, rv, AS.put, List.map, List.append, List.replicate, List.length, List.cons_append, List.nil_append, List.getElem?_cons_zero, List.getElem?_cons_succ, Option.bind_some, if_true, if_false, List.set, decide_true, decide_false, reduceIte, Int.reduceLT, Bool.false_eq_true]
/-- a cell of the script -/
theorem cell_eq (b : Nat) (sg : List Cell) (ns : List Int) (k : Nat) (hk : k < 1000) : ∃ c, F_L_cell b [.scr ns, .int k] sg = .val ⟨.int c, false⟩ sg := by
  have hm (i : Int) : mulOk 7919 i = true := mulL (by decide)
  have hm2 (i : Int) : mulOk 104729 i = true := mulL (by decide)
  have hat (j : Nat) (h : j < ns.length) : atI ns (j : Int) = some ns[j] := by
    unfold atI ixN
    rw [if_pos (by omega), if_pos (by omega), Option.bind_some, Int.toNat_natCast, List.getElem?_eq_getElem h]
  by_cases h : k < ns.length
  · have h' : (k : Int) < ns.length := by omega
    refine ⟨ns[k], ?_⟩
    simp only [F_L_cell, B_L_cell, h', ixD, hat k h, Option.map_some, runF, startS, sRet, sSeq, sSet, sIf, sNil, sExpr, mBin, mIf, mVar, mMove, oE, oVar, mC, mIx, mLst, mTup, mNeg, aNil, aCons, tB, tE, mCallN, callF, pureF, refsLt, refsLts, mB1, AS.res, AS.view, bind_val, intF, mulD, addD, lenD, absD, modOk, rv, AS.put, List.map, List.append, List.replicate, List.length, List.cons_append, List.nil_append, List.getElem?_cons_zero, List.getElem?_cons_succ, Option.bind_some, if_true, if_false, List.set, decide_true, decide_false, reduceIte, Int.reduceLT, Bool.false_eq_true]
  · have h' : ¬ (k : Int) < ns.length := by omega
    by_cases z : ns.length = 0
    · refine ⟨7919 * k, ?_⟩
      have z' : (((ns.length : Nat) : Int) = 0) = True := eq_true (by omega)
      simp only [F_L_cell, B_L_cell, h', z', eqInt, hm, ixD, runF, startS, sRet, sSeq, sSet, sIf, sNil, sExpr, mBin, mIf, mVar, mMove, oE, oVar, mC, mIx, mLst, mTup, mNeg, aNil, aCons, tB, tE, mCallN, callF, pureF, refsLt, refsLts, mB1, AS.res, AS.view, bind_val, intF, mulD, addD, lenD, absD, modOk, rv, AS.put, List.map, List.append, List.replicate, List.length, List.cons_append, List.nil_append, List.getElem?_cons_zero, List.getElem?_cons_succ, Option.bind_some, if_true, if_false, List.set, decide_true, decide_false, reduceIte, Int.reduceLT, Bool.false_eq_true]
    · have z' : ¬ ((ns.length : Nat) : Int) = 0 := by omega
      have z2 : (0 : Int) < ns.length := by omega
      have lt : k % ns.length < ns.length := Nat.mod_lt _ (by omega)
      have a := hat _ lt
      rw [Int.natCast_emod] at a
      refine ⟨ns[k % ns.length] + 104729 * k, ?_⟩
      simp only [F_L_cell, B_L_cell, h', z', z2, eqInt, hm, hm2, ixD, a, Option.map_some, addD, runF, startS, sRet, sSeq, sSet, sIf, sNil, sExpr, mBin, mIf, mVar, mMove, oE, oVar, mC, mIx, mLst, mTup, mNeg, aNil, aCons, tB, tE, mCallN, callF, pureF, refsLt, refsLts, mB1, AS.res, AS.view, bind_val, intF, mulD, addD, lenD, absD, modOk, rv, AS.put, List.map, List.append, List.replicate, List.length, List.cons_append, List.nil_append, List.getElem?_cons_zero, List.getElem?_cons_succ, Option.bind_some, if_true, if_false, List.set, decide_true, decide_false, reduceIte, Int.reduceLT, Bool.false_eq_true]
end Q
end Ab
namespace Ab
open PySem PySem.Spec PyProof.Rows L2
namespace Q
def B_divisor : SM :=
  sSeq (sSet 0 (mB1 absD (oVar 0)))
  (sSeq (sSet 1 (mB1 absD (oVar 1)))
  (sSeq (whileM BIG (tB (mBin neF (oVar 1) (oE (mC (.int 0))))) (sPar 0 1 (aCons (mVar 1) (aCons (mBin modD (oVar 0) (oVar 1)) (aNil)))))
  (sRet (mMove 0))))
def F_divisor : Fn := runF B_divisor 2

def B_lowest : SM :=
  sSeq (sIf (tB (mBin ltD (oVar 1) (oE (mC (.int 0))))) (sSeq (sSet 0 (mNeg (mVar 0)))
  (sSet 1 (mNeg (mVar 1)))) (sNil))
  (sSeq (sSet 2 (mCallN 2 (pureF F_divisor) (aCons (mVar 0) (aCons (mVar 1) (aNil)))))
  (sRet (mTup (aCons (mBin fdivD (oVar 0) (oVar 2)) (aCons (mBin fdivD (oVar 1) (oVar 2)) (aNil))))))
def F_lowest : Fn := runF B_lowest 3

def B_L_num : SM :=
  sRet (mAndV (mB1 (isiD "int") (oVar 0)) (mNotV (mB1 (isiD "bool") (oVar 0))))
def F_L_num : Fn := runF B_L_num 1

def B_L_same (f : Fn) : SM :=
  sSeq (sIf (tB (mBin isF (oVar 1) (oE (mC .non)))) (sRet (mBin isF (oVar 0) (oE (mC .non)))) (sNil))
  (sSeq (sIf (tE (mB1 (isiD "bool") (oVar 1))) (sRet (mAndV (mB1 (isiD "bool") (oVar 0)) (mBin eqF (oVar 0) (oVar 1)))) (sNil))
  (sSeq (sIf (tE (mB1 (isiD "int") (oVar 1))) (sRet (mAndV (mCallN 1 (pureF F_L_num) (aCons (mVar 0) (aNil))) (mBin eqF (oVar 0) (oVar 1)))) (sNil))
  (sSeq (sIf (tE (mB1 (isiD "str") (oVar 1))) (sRet (mAndV (mB1 (isiD "str") (oVar 0)) (mBin eqF (oVar 0) (oVar 1)))) (sNil))
  (sSeq (sIf (tOrM (tAndM (tE (mB1 (isiD "tuple") (oVar 1))) (tNotM (tE (mB1 (isiD "tuple") (oVar 0))))) (tAndM (tE (mB1 (isiD "list") (oVar 1))) (tNotM (tE (mB1 (isiD "list") (oVar 0)))))) (sRet (mC (.bl false))) (sNil))
  (sRet (mAndV (mBin eqF (oE (mB1 lenD (oVar 0))) (oE (mB1 lenD (oVar 1)))) (mB1 allD (oE (mComp (iR1 (aCons (mB1 lenD (oVar 1)) (aNil))) [2] (gNm 2) (tTrue) (mCallN 2 f (aCons (mIx (oVar 0) (oVar 2)) (aCons (mIx (oVar 1) (oVar 2)) (aNil)))))))))))))
def F_L_same : Nat → Fn
  | 0 => fun _ _ _ => .bad
  | n + 1 => runF (B_L_same (F_L_same n)) 3

def B_L_is_part : SM :=
  sSeq (sIf (tOrM (tNotM (tE (mB1 (isiD "tuple") (oVar 0)))) (tOrM (tB (mBin neF (oE (mB1 lenD (oVar 0))) (oE (mC (.int 2))))) (tOrM (tNotM (tE (mCallN 1 (pureF F_L_num) (aCons (mIx (oVar 0) (oE (mC (.int 0)))) (aNil))))) (tNotM (tE (mCallN 1 (pureF F_L_num) (aCons (mIx (oVar 0) (oE (mC (.int 1)))) (aNil)))))))) (sRet (mC (.bl false))) (sNil))
  (sSeq (sPar 1 2 (aCons (mB1 absD (oE (mIx (oVar 0) (oE (mC (.int 0)))))) (aCons (mIx (oVar 0) (oE (mC (.int 1)))) (aNil))))
  (sSeq (whileM BIG (tB (mBin gtD (oVar 2) (oE (mC (.int 0))))) (sPar 1 2 (aCons (mVar 2) (aCons (mBin modD (oVar 1) (oVar 2)) (aNil)))))
  (sRet (mAndV (mBin gtD (oE (mIx (oVar 0) (oE (mC (.int 1))))) (oE (mC (.int 0)))) (mBin eqF (oVar 1) (oE (mC (.int 1))))))))
def F_L_is_part : Fn := runF B_L_is_part 3

def B_L_part_as : SM :=
  sRet (mAndV (mCallN 1 (pureF F_L_is_part) (aCons (mVar 0) (aNil))) (mBin eqF (oE (mBin mulD (oE (mIx (oVar 0) (oE (mC (.int 0))))) (oVar 2))) (oE (mBin mulD (oVar 1) (oE (mIx (oVar 0) (oE (mC (.int 1)))))))))
def F_L_part_as : Fn := runF B_L_part_as 3

theorem neInt (i j : Int) : neF (.int i) (.int j) = rv (.bl (!decide (i = j))) := by
  simp [neF, okD, eqD, toPy, SeqAt.shaped, PyData.eqv, rv, PyData.canLay0, PyData.depth]
  rfl
theorem mulB {i j : Int} (hi : i.natAbs < 2 ^ 2000) (hj : j.natAbs < 2 ^ 2000) : mulOk i j = true := by
  have a := log2_of hi (by decide)
  have b := log2_of hj (by decide)
  have : i.natAbs.log2 + j.natAbs.log2 < 100000 := by omega
  simp only [mulOk, this, decide_true, Bool.or_true]
theorem big_lt {n : Nat} (h : n < 2 ^ 330) : n < BIG := Nat.lt_trans h (by unfold BIG; decide +kernel)
theorem gcd_loop (b : Nat) (sg : List Cell) (R : List (Option R)) : ∀ (n m k : Nat), k < n → whileM n (Ab.tB (mBin neF (oVar 1) (oE (mC (.int 0))))) (sPar 0 1 (aCons (mVar 1) (aCons (mBin modD (oVar 0) (oVar 1)) (aNil)))) ⟨some ⟨.int m, false⟩ :: some ⟨.int k, false⟩ :: R, sg, b⟩ =
    .val .nx ⟨some ⟨.int (Nat.gcd m k : Nat), false⟩ :: some ⟨.int 0, false⟩ :: R, sg, b⟩
  | 0, m, k, h => by omega
  | n + 1, m, k, h => by
    by_cases z : k = 0
    · subst z
      have e0 : (((0 : Nat) : Int) = 0) = True := eq_true rfl
      simp only [whileM, neInt, e0, Nat.gcd_zero_right, Bool.not_true, runF, startS, sRet, sSeq, sSet, sIf, sNil, sExpr, mBin, mIf, mVar, mMove, oE, oVar, mC, mIx, mLst, mTup, mNeg, aNil, aCons, Ab.tB, tE, Bool.and_self, Bool.true_and, Bool.and_true, mCallN, callF, pureF, refsLt, refsLts, mB1, AS.res, AS.view, bind_val, intF, mulD, addD, lenD, absD, modOk, rv, AS.put, List.map, List.append, List.replicate, List.length, List.cons_append, List.nil_append, List.getElem?_cons_zero, List.getElem?_cons_succ, Option.bind_some, if_true, if_false, List.set, decide_true, decide_false, reduceIte, Int.reduceLT, Bool.false_eq_true, Nat.reduceAdd, Nat.reduceSub, Nat.reduceLeDiff, eq_self, Int.reduceEq, Bool.not_true, Bool.not_false, Int.natCast_zero]
    · have e0 : (((k : Nat) : Int) = 0) = False := eq_false (by omega)
      have e1 : (0 : Int) < k := by omega
      simp only [whileM, neInt, e0, e1, sPar, Bool.not_false, turnEnd, runF, startS, sRet, sSeq, sSet, sIf, sNil, sExpr, mBin, mIf, mVar, mMove, oE, oVar, mC, mIx, mLst, mTup, mNeg, aNil, aCons, Ab.tB, tE, Bool.and_self, Bool.true_and, Bool.and_true, mCallN, callF, pureF, refsLt, refsLts, mB1, AS.res, AS.view, bind_val, intF, mulD, addD, lenD, absD, modOk, rv, AS.put, List.map, List.append, List.replicate, List.length, List.cons_append, List.nil_append, List.getElem?_cons_zero, List.getElem?_cons_succ, Option.bind_some, if_true, if_false, List.set, decide_true, decide_false, reduceIte, Int.reduceLT, Bool.false_eq_true, Nat.reduceAdd, Nat.reduceSub, Nat.reduceLeDiff, eq_self, Int.reduceEq, Bool.not_true, Bool.not_false]
      have lt : m % k < n := by
        have := Nat.mod_lt m (show 0 < k by omega)
        omega
      have := gcd_loop b sg R n k (m % k) lt
      rw [Int.natCast_emod] at this
      rw [this, Nat.gcd_comm k, ← Nat.gcd_rec, Nat.gcd_comm]
theorem abs_eq (i : Int) : (if i < 0 then -i else i) = (i.natAbs : Int) := by
  split <;> omega
theorem divisor_eq (b : Nat) (sg : List Cell) (a c : Int) (h : c.natAbs < BIG) : F_divisor b [.int a, .int c] sg = .val ⟨.int (Nat.gcd a.natAbs c.natAbs : Nat), false⟩ sg := by
  have := gcd_loop b sg [] BIG a.natAbs c.natAbs h
  simp only [F_divisor, B_divisor, abs_eq, runF, startS, sRet, sSeq, sSet, sIf, sNil, sExpr, mBin, mIf, mVar, mMove, oE, oVar, mC, mIx, mLst, mTup, mNeg, aNil, aCons, Ab.tB, tE, Bool.and_self, Bool.true_and, Bool.and_true, mCallN, callF, pureF, refsLt, refsLts, mB1, AS.res, AS.view, bind_val, intF, mulD, addD, lenD, absD, modOk, rv, AS.put, List.map, List.append, List.replicate, List.length, List.cons_append, List.nil_append, List.getElem?_cons_zero, List.getElem?_cons_succ, Option.bind_some, if_true, if_false, List.set, decide_true, decide_false, reduceIte, Int.reduceLT, Bool.false_eq_true, Nat.reduceAdd, Nat.reduceSub, Nat.reduceLeDiff, eq_self, Int.reduceEq, Bool.not_true, Bool.not_false]
  rw [this]
  simp only [runF, startS, sRet, sSeq, sSet, sIf, sNil, sExpr, mBin, mIf, mVar, mMove, oE, oVar, mC, mIx, mLst, mTup, mNeg, aNil, aCons, Ab.tB, tE, Bool.and_self, Bool.true_and, Bool.and_true, mCallN, callF, pureF, refsLt, refsLts, mB1, AS.res, AS.view, bind_val, intF, mulD, addD, lenD, absD, modOk, rv, AS.put, List.map, List.append, List.replicate, List.length, List.cons_append, List.nil_append, List.getElem?_cons_zero, List.getElem?_cons_succ, Option.bind_some, if_true, if_false, List.set, decide_true, decide_false, reduceIte, Int.reduceLT, Bool.false_eq_true, Nat.reduceAdd, Nat.reduceSub, Nat.reduceLeDiff, eq_self, Int.reduceEq, Bool.not_true, Bool.not_false]
def lowP (o u : Int) : Int := (if u < 0 then -o else o) / ((Nat.gcd o.natAbs u.natAbs : Nat) : Int)
def lowQ (o u : Int) : Int := (if u < 0 then -u else u) / ((Nat.gcd o.natAbs u.natAbs : Nat) : Int)
theorem lowest_eq (b : Nat) (sg : List Cell) (o u : Int) (h : u.natAbs < 2 ^ 330) (h0 : u ≠ 0) : F_lowest b [.int o, .int u] sg = .val ⟨.tup [.int (lowP o u), .int (lowQ o u)], false⟩ sg := by
  have gp : 0 < Nat.gcd o.natAbs u.natAbs := Nat.gcd_pos_of_pos_right _ (by omega)
  have gl : Nat.gcd o.natAbs u.natAbs < 2 ^ 330 := Nat.lt_of_le_of_lt (Nat.gcd_le_right _ (by omega)) h
  have hd (i : Int) : divOk i ((Nat.gcd o.natAbs u.natAbs : Nat) : Int) = true := by
    have := log2_of (n := ((Nat.gcd o.natAbs u.natAbs : Nat) : Int).natAbs) (k := 330) (by rw [Int.natAbs_natCast]; exact gl) (by decide)
    have e1 : (0 : Int) < ((Nat.gcd o.natAbs u.natAbs : Nat) : Int) := by omega
    simp only [divOk, e1, decide_true, Bool.true_and, decide_eq_true_eq]
    omega
  by_cases n : u < 0
  · have e := divisor_eq sg.length sg (-o) (-u) (by rw [Int.natAbs_neg]; exact big_lt h)
    rw [Int.natAbs_neg, Int.natAbs_neg] at e
    simp only [F_lowest, B_lowest, n, e, hd, lowP, lowQ, LIM, Nat.reduceAdd, Nat.reduceLeDiff, Nat.reduceSub, runF, startS, sRet, sSeq, sSet, sIf, sNil, sExpr, mBin, mIf, mVar, mMove, oE, oVar, mC, mIx, mLst, mTup, mNeg, aNil, aCons, Ab.tB, tE, Bool.and_self, Bool.true_and, Bool.and_true, mCallN, callF, pureF, refsLt, refsLts, mB1, AS.res, AS.view, bind_val, intF, mulD, addD, lenD, absD, modOk, rv, AS.put, List.map, List.append, List.replicate, List.length, List.cons_append, List.nil_append, List.getElem?_cons_zero, List.getElem?_cons_succ, Option.bind_some, if_true, if_false, List.set, decide_true, decide_false, reduceIte, Int.reduceLT, Bool.false_eq_true, Nat.reduceAdd, Nat.reduceSub, Nat.reduceLeDiff, eq_self, Int.reduceEq, Bool.not_true, Bool.not_false]
  · have e := divisor_eq sg.length sg o u (big_lt h)
    simp only [F_lowest, B_lowest, n, e, hd, lowP, lowQ, LIM, Nat.reduceAdd, Nat.reduceLeDiff, Nat.reduceSub, runF, startS, sRet, sSeq, sSet, sIf, sNil, sExpr, mBin, mIf, mVar, mMove, oE, oVar, mC, mIx, mLst, mTup, mNeg, aNil, aCons, Ab.tB, tE, Bool.and_self, Bool.true_and, Bool.and_true, mCallN, callF, pureF, refsLt, refsLts, mB1, AS.res, AS.view, bind_val, intF, mulD, addD, lenD, absD, modOk, rv, AS.put, List.map, List.append, List.replicate, List.length, List.cons_append, List.nil_append, List.getElem?_cons_zero, List.getElem?_cons_succ, Option.bind_some, if_true, if_false, List.set, decide_true, decide_false, reduceIte, Int.reduceLT, Bool.false_eq_true, Nat.reduceAdd, Nat.reduceSub, Nat.reduceLeDiff, eq_self, Int.reduceEq, Bool.not_true, Bool.not_false]
theorem low_ok (o u : Int) (h0 : u ≠ 0) : 0 < lowQ o u ∧ Nat.gcd (lowP o u).natAbs (lowQ o u).natAbs = 1 ∧ lowP o u * u = o * lowQ o u ∧ (lowQ o u).natAbs ≤ u.natAbs ∧ (lowP o u).natAbs ≤ o.natAbs := by
  have gp : 0 < Nat.gcd o.natAbs u.natAbs := Nat.gcd_pos_of_pos_right _ (by omega)
  generalize hg : Nat.gcd o.natAbs u.natAbs = g at gp
  obtain ⟨a, ha⟩ : g ∣ o.natAbs := hg ▸ Nat.gcd_dvd_left _ _
  obtain ⟨c, hc⟩ : g ∣ u.natAbs := hg ▸ Nat.gcd_dvd_right _ _
  have cp : 0 < c := Nat.pos_of_ne_zero (by rintro rfl; omega)
  have gac : Nat.gcd a c = 1 := by
    have : g * Nat.gcd a c = g * 1 := by rw [← Nat.gcd_mul_left, ← ha, ← hc, hg, Nat.mul_one]
    exact Nat.eq_of_mul_eq_mul_left gp this
  have gz : (g : Int) ≠ 0 := by omega
  have q : lowQ o u = c := by
    have : (if u < 0 then -u else u) = (g : Int) * c := by rw [abs_eq, hc, Int.natCast_mul]
    rw [lowQ, hg, this, Int.mul_ediv_cancel_left _ gz]
  have cu : c ≤ u.natAbs := by rw [hc]; exact Nat.le_mul_of_pos_left _ gp
  have ao : a ≤ o.natAbs := by rw [ha]; exact Nat.le_mul_of_pos_left _ gp
  rw [q]
  have p : lowP o u = (if u < 0 then (if o < 0 then (a : Int) else -a) else (if o < 0 then -(a : Int) else a)) := by
    have : (if u < 0 then -o else o) = (g : Int) * (if u < 0 then (if o < 0 then (a : Int) else -a) else (if o < 0 then -(a : Int) else a)) := by
      have e : (o.natAbs : Int) = (g : Int) * a := by rw [ha, Int.natCast_mul]
      split <;> split <;> (try rw [Int.mul_neg]) <;> omega
    rw [lowP, hg, this, Int.mul_ediv_cancel_left _ gz]
  have pa : (lowP o u).natAbs = a := by
    rw [p]
    split <;> split <;> omega
  refine ⟨by omega, ?_, ?_, by simpa using cu, by omega⟩
  · rw [pa, Int.natAbs_natCast, gac]
  · have eo : (o.natAbs : Int) = (g : Int) * a := by rw [ha, Int.natCast_mul]
    have eu : (u.natAbs : Int) = (g : Int) * c := by rw [hc, Int.natCast_mul]
    have key : (a : Int) * (g * c) = (g * a) * c := by rw [← Int.mul_assoc, Int.mul_comm (a : Int) g]
    rw [p]
    split <;> split
    · rw [show u = -(g * c : Int) by omega, show o = -(g * a : Int) by omega, Int.mul_neg, Int.neg_mul, key]
    · rw [show u = -(g * c : Int) by omega, show o = (g * a : Int) by omega, Int.neg_mul_neg, key]
    · rw [show u = (g * c : Int) by omega, show o = -(g * a : Int) by omega, Int.neg_mul, Int.neg_mul, key]
    · rw [show u = (g * c : Int) by omega, show o = (g * a : Int) by omega, key]
theorem gcd_loop2 (b : Nat) (sg : List Cell) (A : Option Ab.R) : ∀ (n m k : Nat), k < n → whileM n (Ab.tB (mBin gtD (oVar 2) (oE (mC (.int 0))))) (sPar 1 2 (aCons (mVar 2) (aCons (mBin modD (oVar 1) (oVar 2)) (aNil)))) ⟨[A, some ⟨.int m, false⟩, some ⟨.int k, false⟩], sg, b⟩ =
    .val .nx ⟨[A, some ⟨.int (Nat.gcd m k : Nat), false⟩, some ⟨.int 0, false⟩], sg, b⟩
  | 0, m, k, h => by omega
  | n + 1, m, k, h => by
    by_cases z : k = 0
    · subst z
      have e0 : ((0 : Int) < ((0 : Nat) : Int)) = False := eq_false (by omega)
      simp only [whileM, e0, Nat.gcd_zero_right, runF, startS, sRet, sSeq, sSet, sIf, sNil, sExpr, mBin, mIf, mVar, mMove, oE, oVar, mC, mIx, mLst, mTup, mNeg, aNil, aCons, Ab.tB, tE, Bool.and_self, Bool.true_and, Bool.and_true, mCallN, callF, pureF, refsLt, refsLts, mB1, AS.res, AS.view, bind_val, intF, mulD, addD, lenD, absD, modOk, rv, AS.put, List.map, List.append, List.replicate, List.length, List.cons_append, List.nil_append, List.getElem?_cons_zero, List.getElem?_cons_succ, Option.bind_some, if_true, if_false, List.set, decide_true, decide_false, reduceIte, Int.reduceLT, Bool.false_eq_true, Nat.reduceAdd, Nat.reduceSub, Nat.reduceLeDiff, eq_self, Int.reduceEq, Bool.not_true, Bool.not_false, Int.natCast_zero]
    · have e1 : (0 : Int) < k := by omega
      simp only [whileM, e1, sPar, turnEnd, runF, startS, sRet, sSeq, sSet, sIf, sNil, sExpr, mBin, mIf, mVar, mMove, oE, oVar, mC, mIx, mLst, mTup, mNeg, aNil, aCons, Ab.tB, tE, Bool.and_self, Bool.true_and, Bool.and_true, mCallN, callF, pureF, refsLt, refsLts, mB1, AS.res, AS.view, bind_val, intF, mulD, addD, lenD, absD, modOk, rv, AS.put, List.map, List.append, List.replicate, List.length, List.cons_append, List.nil_append, List.getElem?_cons_zero, List.getElem?_cons_succ, Option.bind_some, if_true, if_false, List.set, decide_true, decide_false, reduceIte, Int.reduceLT, Bool.false_eq_true, Nat.reduceAdd, Nat.reduceSub, Nat.reduceLeDiff, eq_self, Int.reduceEq, Bool.not_true, Bool.not_false]
      have lt : m % k < n := by
        have := Nat.mod_lt m (show 0 < k by omega)
        omega
      have := gcd_loop2 b sg A n k (m % k) lt
      rw [Int.natCast_emod] at this
      rw [this, Nat.gcd_comm k, ← Nat.gcd_rec, Nat.gcd_comm]
theorem cast2 : ((2 : Nat) : Int) = 2 := rfl
theorem num_eq (b : Nat) (sg : List Cell) (i : Int) : F_L_num b [.int i] sg = .val ⟨.bl true, false⟩ sg := by kernel_rfl
theorem is_part_eq (b : Nat) (sg : List Cell) (p q : Int) (h : 0 < q) (hq : q.natAbs < 2 ^ 330) (hg : Nat.gcd p.natAbs q.natAbs = 1) : F_L_is_part b [.tup [.int p, .int q]] sg = .val ⟨.bl true, false⟩ sg := by
  have l := gcd_loop2 b sg (some ⟨.tup [.int p, .int q], false⟩) BIG p.natAbs q.natAbs (big_lt hq)
  have eq : ((q.natAbs : Nat) : Int) = q := by omega
  rw [hg, eq] at l
  have t : isiD "tuple" (.tup [.int p, .int q]) = rv (.bl true) := by kernel_rfl
  have i0 : ixD (.tup [.int p, .int q]) (.int 0) = rv (.int p) := by kernel_rfl
  have i1 : ixD (.tup [.int p, .int q]) (.int 1) = rv (.int q) := by kernel_rfl
  have ln : lenD (.tup [.int p, .int q]) = rv (.int 2) := by kernel_rfl
  simp only [F_L_is_part, B_L_is_part, t, i0, i1, ln, num_eq, neInt, tOrM, tNotM, truD, sPar, abs_eq, Bool.not_true, cast2, runF, startS, sRet, sSeq, sSet, sIf, sNil, sExpr, mBin, mIf, mVar, mMove, oE, oVar, mC, mIx, mLst, mTup, mNeg, aNil, aCons, Ab.tB, tE, Bool.and_self, Bool.true_and, Bool.and_true, mCallN, callF, pureF, refsLt, refsLts, mB1, AS.res, AS.view, bind_val, intF, mulD, addD, lenD, absD, modOk, rv, AS.put, List.map, List.append, List.replicate, List.length, List.cons_append, List.nil_append, List.getElem?_cons_zero, List.getElem?_cons_succ, Option.bind_some, if_true, if_false, List.set, decide_true, decide_false, reduceIte, Int.reduceLT, Bool.false_eq_true, Nat.reduceAdd, Nat.reduceSub, Nat.reduceLeDiff, eq_self, Int.reduceEq, Bool.not_true, Bool.not_false]
  rw [l]
  simp only [mAndV, mB, eqInt, h, i1, runF, startS, sRet, sSeq, sSet, sIf, sNil, sExpr, mBin, mIf, mVar, mMove, oE, oVar, mC, mIx, mLst, mTup, mNeg, aNil, aCons, Ab.tB, tE, Bool.and_self, Bool.true_and, Bool.and_true, mCallN, callF, pureF, refsLt, refsLts, mB1, AS.res, AS.view, bind_val, intF, mulD, addD, lenD, absD, modOk, rv, AS.put, List.map, List.append, List.replicate, List.length, List.cons_append, List.nil_append, List.getElem?_cons_zero, List.getElem?_cons_succ, Option.bind_some, if_true, if_false, List.set, decide_true, decide_false, reduceIte, Int.reduceLT, Bool.false_eq_true, Nat.reduceAdd, Nat.reduceSub, Nat.reduceLeDiff, eq_self, Int.reduceEq, Bool.not_true, Bool.not_false, Int.natCast_one]
theorem part_as_eq (b : Nat) (sg : List Cell) (p q o u : Int) (h : 0 < q) (hq : q.natAbs < 2 ^ 330) (hg : Nat.gcd p.natAbs q.natAbs = 1) (hm : mulOk p u = true) (hm2 : mulOk o q = true) (e : p * u = o * q) : F_L_part_as b [.tup [.int p, .int q], .int o, .int u] sg = .val ⟨.bl true, false⟩ sg := by
  have i0 : ixD (.tup [.int p, .int q]) (.int 0) = rv (.int p) := by kernel_rfl
  have i1 : ixD (.tup [.int p, .int q]) (.int 1) = rv (.int q) := by kernel_rfl
  simp only [F_L_part_as, B_L_part_as, is_part_eq _ _ p q h hq hg, i0, i1, mAndV, mB, eqInt, hm, hm2, e, runF, startS, sRet, sSeq, sSet, sIf, sNil, sExpr, mBin, mIf, mVar, mMove, oE, oVar, mC, mIx, mLst, mTup, mNeg, aNil, aCons, Ab.tB, tE, Bool.and_self, Bool.true_and, Bool.and_true, mCallN, callF, pureF, refsLt, refsLts, mB1, AS.res, AS.view, bind_val, intF, mulD, addD, lenD, absD, modOk, rv, AS.put, List.map, List.append, List.replicate, List.length, List.cons_append, List.nil_append, List.getElem?_cons_zero, List.getElem?_cons_succ, Option.bind_some, if_true, if_false, List.set, decide_true, decide_false, reduceIte, Int.reduceLT, Bool.false_eq_true, Nat.reduceAdd, Nat.reduceSub, Nat.reduceLeDiff, eq_self, Int.reduceEq, Bool.not_true, Bool.not_false]
end Q
end Ab
namespace Ab
open PySem PySem.Spec PyProof.Rows L2
namespace Q
def B_wins_over : SM :=
  sRet (mBin addD (oE (mBin mulD (oE (mC (.int 2))) (oE (mB1 intD (oE (mBin ltD (oVar 1) (oVar 0))))))) (oE (mB1 intD (oE (mBin eqF (oVar 1) (oVar 0))))))
def F_wins_over : Fn := runF B_wins_over 2

def B_half_wins : SM :=
  sSeq (sSet 1 (mLst (aNil)))
  (sSeq (sFor (iEn (mVar 0)) (gTp (gsCons (gNm 2) (gsCons (gNm 3) (gsNil)))) (sSeq (sSet 4 (mBin addD (oE (mSlice (oVar 0) (pNone) (pSome (mVar 2)))) (oE (mSlice (oVar 0) (pSome (mBin addD (oVar 2) (oE (mC (.int 1))))) (pNone)))))
  (sExpr (mMutL apD (oVar 1) (aCons (mB1 sumD (oE (mComp (iL (mVar 4)) [5] (gNm 5) (Ab.tTrue) (mCallN 2 (pureF F_wins_over) (aCons (mVar 3) (aCons (mVar 5) (aNil))))))) (aNil))))))
  (sRet (mMove 1)))
def F_half_wins : Fn := runF B_half_wins 6

def B_L_half_wins : SM :=
  sSeq (sSet 1 (mLst (aNil)))
  (sSeq (sFor (iR1 (aCons (mB1 lenD (oVar 0)) (aNil))) (gNm 2) (sSeq (sSet 3 (mB1 lenD (oE (mComp (iL (mVar 0)) [5] (gNm 5) (Ab.tB (mBin ltD (oVar 5) (oE (mIx (oVar 0) (oVar 2))))) (mVar 5)))))
  (sSeq (sSet 4 (mBin subD (oE (mB1 lenD (oE (mComp (iL (mVar 0)) [5] (gNm 5) (Ab.tB (mBin eqF (oVar 5) (oE (mIx (oVar 0) (oVar 2))))) (mVar 5))))) (oE (mC (.int 1)))))
  (sExpr (mMutL apD (oVar 1) (aCons (mBin addD (oE (mBin mulD (oE (mC (.int 2))) (oVar 3))) (oVar 4)) (aNil)))))))
  (sRet (mMove 1)))
def F_L_half_wins : Fn := runF B_L_half_wins 6

def B_L_score : SM :=
  sRet (mIx (oE (mLst (aCons (mBin subD (oE (mBin mulD (oE (mBin modD (oVar 0) (oE (mC (.int 41))))) (oE (mC (.int 10))))) (oE (mC (.int 200)))) (aCons (mBin modD (oVar 0) (oE (mC (.int 5)))) (aCons (mC (.int 9999)) (aCons (mNeg (mC (.int 9999))) (aCons (mBin subD (oE (mBin modD (oVar 0) (oE (mC (.int 19999))))) (oE (mC (.int 9999)))) (aCons (mC (.int 9998)) (aCons (mNeg (mC (.int 9998))) (aCons (mC (.int 0)) (aNil))))))))))) (oE (mBin modD (oVar 1) (oE (mC (.int 8))))))
def F_L_score : Fn := runF B_L_score 2

def S_hw : SM := (sSeq (sSet 4 (mBin addD (oE (mSlice (oVar 0) (pNone) (pSome (mVar 2)))) (oE (mSlice (oVar 0) (pSome (mBin addD (oVar 2) (oE (mC (.int 1))))) (pNone)))))
  (sExpr (mMutL apD (oVar 1) (aCons (mB1 sumD (oE (mComp (iL (mVar 4)) [5] (gNm 5) (Ab.tTrue) (mCallN 2 (pureF F_wins_over) (aCons (mVar 3) (aCons (mVar 5) (aNil))))))) (aNil)))))
def S_lhw : SM := (sSeq (sSet 3 (mB1 lenD (oE (mComp (iL (mVar 0)) [5] (gNm 5) (Ab.tB (mBin ltD (oVar 5) (oE (mIx (oVar 0) (oVar 2))))) (mVar 5)))))
  (sSeq (sSet 4 (mBin subD (oE (mB1 lenD (oE (mComp (iL (mVar 0)) [5] (gNm 5) (Ab.tB (mBin eqF (oVar 5) (oE (mIx (oVar 0) (oVar 2))))) (mVar 5))))) (oE (mC (.int 1)))))
  (sExpr (mMutL apD (oVar 1) (aCons (mBin addD (oE (mBin mulD (oE (mC (.int 2))) (oVar 3))) (oVar 4)) (aNil))))))
theorem B_hw_eq : B_half_wins = sSeq (sSet 1 (mLst aNil)) (sSeq (sFor (iEn (mVar 0)) (gTp (gsCons (gNm 2) (gsCons (gNm 3) gsNil))) S_hw) (sRet (mMove 1))) := rfl
theorem B_lhw_eq : B_L_half_wins = sSeq (sSet 1 (mLst aNil)) (sSeq (sFor (iR1 (aCons (mB1 lenD (oVar 0)) aNil)) (gNm 2) S_lhw) (sRet (mMove 1))) := rfl
abbrev L (xs : List Int) : D := .lst (xs.map .int)
def w (s o : Int) : Int := 2 * (if o < s then 1 else 0) + (if o = s then 1 else 0)
def sw (s : Int) (xs : List Int) : Int := (xs.map (w s)).sum
def hw (xs : List Int) : List Int := xs.map fun s => sw s xs - 1
theorem atL (pre : List Int) (y : Int) (ys : List Int) : atI ((pre ++ y :: ys).map D.int) (pre.length : Int) = some (.int y) := by
  unfold atI ixN
  rw [if_pos (by omega), if_pos (by simp only [List.length_map, List.length_append, List.length_cons]; omega), Option.bind_some, Int.toNat_natCast]
  simp
theorem sw_append (s : Int) (a b : List Int) : sw s (a ++ b) = sw s a + sw s b := by simp [sw, List.sum_append]
theorem sw_cons (s x : Int) (b : List Int) : sw s (x :: b) = w s x + sw s b := by simp [sw]
theorem w_self (s : Int) : w s s = 1 := by simp [w]
theorem sw_lt (s : Int) : ∀ xs : List Int, sw s xs = 2 * ((xs.filter fun o => decide (o < s)).length : Int) + ((xs.filter fun o => decide (o = s)).length : Int)
  | [] => rfl
  | x :: xs => by
    rw [sw_cons, sw_lt s xs, w]
    by_cases h : x < s
    · have : ¬ x = s := by omega
      simp only [List.filter_cons, h, this, decide_true, decide_false, if_true, if_false, List.length_cons, Bool.false_eq_true]
      omega
    · by_cases e : x = s
      · simp only [List.filter_cons, h, e, decide_true, decide_false, if_true, if_false, List.length_cons, Bool.false_eq_true, Int.lt_irrefl]
        omega
      · simp only [List.filter_cons, h, e, decide_true, decide_false, if_true, if_false, List.length_cons, Bool.false_eq_true]
        omega
theorem intsD_map : ∀ xs : List Int, intsD (xs.map .int) = some xs
  | [] => rfl
  | x :: xs => by rw [List.map_cons, intsD, intsD_map xs]; rfl
theorem wins_eq (b : Nat) (sg : List Cell) (s o : Int) : F_wins_over b [.int s, .int o] sg = .val ⟨.int (w s o), false⟩ sg := by
  have m (x : Int) : mulOk 2 x = true := mulL (by decide)
  by_cases h : o < s
  · have e : ¬ o = s := by omega
    simp only [F_wins_over, B_wins_over, w, intD, eqInt, h, e, m, runF, startS, sRet, sSeq, sSet, sIf, sNil, sExpr, mBin, mIf, mVar, mMove, oE, oVar, mC, mIx, mLst, mTup, mNeg, aNil, aCons, Ab.tB, tE, Bool.and_self, Bool.true_and, Bool.and_true, mCallN, callF, pureF, refsLt, refsLts, mB1, AS.res, AS.view, bind_val, intF, mulD, addD, lenD, absD, modOk, rv, AS.put, List.map, List.append, List.replicate, List.length, List.cons_append, List.nil_append, List.getElem?_cons_zero, List.getElem?_cons_succ, Option.bind_some, if_true, if_false, List.set, decide_true, decide_false, reduceIte, Int.reduceLT, Bool.false_eq_true, Nat.reduceAdd, Nat.reduceSub, Nat.reduceLeDiff, eq_self, Int.reduceEq, Bool.not_true, Bool.not_false]
  · by_cases e : o = s
    · have e' : (o = s) = True := eq_true e
      simp only [F_wins_over, B_wins_over, w, intD, eqInt, h, e', m, runF, startS, sRet, sSeq, sSet, sIf, sNil, sExpr, mBin, mIf, mVar, mMove, oE, oVar, mC, mIx, mLst, mTup, mNeg, aNil, aCons, Ab.tB, tE, Bool.and_self, Bool.true_and, Bool.and_true, mCallN, callF, pureF, refsLt, refsLts, mB1, AS.res, AS.view, bind_val, intF, mulD, addD, lenD, absD, modOk, rv, AS.put, List.map, List.append, List.replicate, List.length, List.cons_append, List.nil_append, List.getElem?_cons_zero, List.getElem?_cons_succ, Option.bind_some, if_true, if_false, List.set, decide_true, decide_false, reduceIte, Int.reduceLT, Bool.false_eq_true, Nat.reduceAdd, Nat.reduceSub, Nat.reduceLeDiff, eq_self, Int.reduceEq, Bool.not_true, Bool.not_false]
    · simp only [F_wins_over, B_wins_over, w, intD, eqInt, h, e, m, runF, startS, sRet, sSeq, sSet, sIf, sNil, sExpr, mBin, mIf, mVar, mMove, oE, oVar, mC, mIx, mLst, mTup, mNeg, aNil, aCons, Ab.tB, tE, Bool.and_self, Bool.true_and, Bool.and_true, mCallN, callF, pureF, refsLt, refsLts, mB1, AS.res, AS.view, bind_val, intF, mulD, addD, lenD, absD, modOk, rv, AS.put, List.map, List.append, List.replicate, List.length, List.cons_append, List.nil_append, List.getElem?_cons_zero, List.getElem?_cons_succ, Option.bind_some, if_true, if_false, List.set, decide_true, decide_false, reduceIte, Int.reduceLT, Bool.false_eq_true, Nat.reduceAdd, Nat.reduceSub, Nat.reduceLeDiff, eq_self, Int.reduceEq, Bool.not_true, Bool.not_false]
/-- the inner comprehension of half_wins -/
theorem comp_w (b : Nat) (sg : List Cell) (s0 s1 s2 s4 : Option Ab.R) (s : Int) : ∀ (ys acc : List Int), acc.length + ys.length < 1000 → compG okT [5] (gNm 5) Ab.tTrue (mCallN 2 (pureF F_wins_over) (aCons (mVar 3) (aCons (mVar 5) aNil))) (ys.map .int) (acc.map .int) ⟨[s0, s1, s2, some ⟨.int s, false⟩, s4, none], sg, b⟩ =
    .val ((acc ++ ys.map (w s)).map .int) ⟨[s0, s1, s2, some ⟨.int s, false⟩, s4, none], sg, b⟩
  | [], acc, h => by simp only [List.map_nil, compG, okT, List.append_nil, if_true]
  | y :: ys, acc, h => by
    have e := wins_eq sg.length sg s y
    have ih := comp_w b sg s0 s1 s2 s4 s ys (acc ++ [w s y]) (by simp only [List.length_append, List.length_cons, List.length_nil] at *; omega)
    have hl : acc.length < LIM := by unfold LIM; simp only [List.length_cons] at h; omega
    rw [List.map_append, List.map_cons, List.map_nil] at ih
    rw [List.map_cons]
    simp only [compG, okT, gNm, Ab.tTrue, e, wipeS, List.length_map, hl, runF, startS, sRet, sSeq, sSet, sIf, sNil, sExpr, mBin, mIf, mVar, mMove, oE, oVar, mC, mIx, mLst, mTup, mNeg, aNil, aCons, Ab.tB, tE, Bool.and_self, Bool.true_and, Bool.and_true, mCallN, callF, pureF, refsLt, refsLts, mB1, AS.res, AS.view, bind_val, intF, mulD, addD, lenD, absD, modOk, rv, AS.put, List.map, List.append, List.replicate, List.length, List.cons_append, List.nil_append, List.getElem?_cons_zero, List.getElem?_cons_succ, Option.bind_some, if_true, if_false, List.set, decide_true, decide_false, reduceIte, Int.reduceLT, Bool.false_eq_true, Nat.reduceAdd, Nat.reduceSub, Nat.reduceLeDiff, eq_self, Int.reduceEq, Bool.not_true, Bool.not_false, ih, List.append_assoc, List.map_cons, List.nil_append, List.cons_append]
theorem cut_pre (pre : List Int) (ys : List Int) : cutD ((pre ++ ys).map .int) none (some (pre.length : Int)) = pre.map .int := by
  unfold cutD
  rw [HT.sIx_nat]
  simp [HT.sIx_none]
theorem cut_suf (pre : List Int) (y : Int) (ys : List Int) : cutD ((pre ++ y :: ys).map .int) (some ((pre.length : Int) + 1)) none = ys.map .int := by
  unfold cutD
  have : ((pre.length : Int) + 1) = ((pre.length + 1 : Nat) : Int) := by omega
  rw [this, HT.sIx_nat, HT.sIx_none]
  have e : min (pre.length + 1) ((pre ++ y :: ys).map D.int).length = pre.length + 1 := by simp
  rw [e, List.map_append, List.map_cons, ← List.length_map (f := D.int) (as := pre)]
  have e2 : (pre.map D.int ++ D.int y :: ys.map D.int).drop ((pre.map D.int).length + 1) = ys.map D.int := by
    rw [← List.drop_drop, List.drop_left]
    rfl
  rw [e2, List.take_of_length_le]
  simp
  omega
/-- one turn of half_wins -/
theorem hw_turn (b : Nat) (sg : List Cell) (pre : List Int) (y : Int) (ys acc : List Int) (s4 : Option Ab.R) (h : pre.length + ys.length < 500) (h2 : acc.length < 500) :
    S_hw ⟨[some ⟨L (pre ++ y :: ys), false⟩, some ⟨L acc, true⟩, some ⟨.int pre.length, false⟩, some ⟨.int y, false⟩, s4, none], sg, b⟩ =
    .val .nx ⟨[some ⟨L (pre ++ y :: ys), false⟩, some ⟨L (acc ++ [sw y (pre ++ y :: ys) - 1]), true⟩, some ⟨.int pre.length, false⟩, some ⟨.int y, false⟩, some ⟨L (pre ++ ys), false⟩, none], sg, b⟩ := by
  have c1 := cut_pre pre (y :: ys)
  have c2 := cut_suf pre y ys
  have hl : pre.length + ys.length ≤ LIM := by unfold LIM; omega
  have hl2 : acc.length < LIM := by unfold LIM; omega
  have cw := comp_w b sg (some ⟨L (pre ++ y :: ys), false⟩) (some ⟨L acc, true⟩) (some ⟨.int pre.length, false⟩) (some ⟨L (pre ++ ys), false⟩) y (pre ++ ys) [] (by simp only [List.length_nil, List.length_append]; omega)
  rw [List.nil_append, List.map_nil] at cw
  have sm : ((pre ++ ys).map (w y)).sum = sw y (pre ++ y :: ys) - 1 := by
    show sw y (pre ++ ys) = _
    rw [sw_append, sw_append, sw_cons, w_self]
    omega
  have ma : pre.map D.int ++ ys.map D.int = (pre ++ ys).map D.int := (List.map_append ..).symm
  simp only [S_hw, mSlice, pNone, pSome, slD, c1, c2, addD, List.length_map, hl, ma, runF, startS, sRet, sSeq, sSet, sIf, sNil, sExpr, mBin, mIf, mVar, mMove, oE, oVar, mC, mIx, mLst, mTup, mNeg, aNil, aCons, Ab.tB, tE, Bool.and_self, Bool.true_and, Bool.and_true, mCallN, callF, pureF, refsLt, refsLts, mB1, AS.res, AS.view, bind_val, intF, mulD, addD, lenD, absD, modOk, rv, AS.put, List.map, List.append, List.replicate, List.length, List.cons_append, List.nil_append, List.getElem?_cons_zero, List.getElem?_cons_succ, Option.bind_some, if_true, if_false, List.set, decide_true, decide_false, reduceIte, Int.reduceLT, Bool.false_eq_true, Nat.reduceAdd, Nat.reduceSub, Nat.reduceLeDiff, eq_self, Int.reduceEq, Bool.not_true, Bool.not_false]
  simp only [mMutL, kindL, locOf, AS.at_, toCell, mComp, iL, wipeS, unwipe, runF, startS, sRet, sSeq, sSet, sIf, sNil, sExpr, mBin, mIf, mVar, mMove, oE, oVar, mC, mIx, mLst, mTup, mNeg, aNil, aCons, Ab.tB, tE, Bool.and_self, Bool.true_and, Bool.and_true, mCallN, callF, pureF, refsLt, refsLts, mB1, AS.res, AS.view, bind_val, intF, mulD, addD, lenD, absD, modOk, rv, AS.put, List.map, List.append, List.replicate, List.length, List.cons_append, List.nil_append, List.getElem?_cons_zero, List.getElem?_cons_succ, Option.bind_some, if_true, if_false, List.set, decide_true, decide_false, reduceIte, Int.reduceLT, Bool.false_eq_true, Nat.reduceAdd, Nat.reduceSub, Nat.reduceLeDiff, eq_self, Int.reduceEq, Bool.not_true, Bool.not_false, cw, List.contains_nil]
  simp only [sumD, intsD_map, sm, Option.map_some, runF, startS, sRet, sSeq, sSet, sIf, sNil, sExpr, mBin, mIf, mVar, mMove, oE, oVar, mC, mIx, mLst, mTup, mNeg, aNil, aCons, Ab.tB, tE, Bool.and_self, Bool.true_and, Bool.and_true, mCallN, callF, pureF, refsLt, refsLts, mB1, AS.res, AS.view, bind_val, intF, mulD, addD, lenD, absD, modOk, rv, AS.put, List.map, List.append, List.replicate, List.length, List.cons_append, List.nil_append, List.getElem?_cons_zero, List.getElem?_cons_succ, Option.bind_some, if_true, if_false, List.set, decide_true, decide_false, reduceIte, Int.reduceLT, Bool.false_eq_true, Nat.reduceAdd, Nat.reduceSub, Nat.reduceLeDiff, eq_self, Int.reduceEq, Bool.not_true, Bool.not_false]
  simp only [mMutL, apD, kindL, locOf, AS.at_, AS.setAt, toCell, ofCell, mutO, mutS, okAt, Option.isSome_some, Option.map_some, List.length_map, hl2, L, List.map_append, List.map_cons, List.map_nil, runF, startS, sRet, sSeq, sSet, sIf, sNil, sExpr, mBin, mIf, mVar, mMove, oE, oVar, mC, mIx, mLst, mTup, mNeg, aNil, aCons, Ab.tB, tE, Bool.and_self, Bool.true_and, Bool.and_true, mCallN, callF, pureF, refsLt, refsLts, mB1, AS.res, AS.view, bind_val, intF, mulD, addD, lenD, absD, modOk, rv, AS.put, List.map, List.append, List.replicate, List.length, List.cons_append, List.nil_append, List.getElem?_cons_zero, List.getElem?_cons_succ, Option.bind_some, if_true, if_false, List.set, decide_true, decide_false, reduceIte, Int.reduceLT, Bool.false_eq_true, Nat.reduceAdd, Nat.reduceSub, Nat.reduceLeDiff, eq_self, Int.reduceEq, Bool.not_true, Bool.not_false]
theorem enD_cons (i : Nat) (y : D) (ys : List D) : enD i (y :: ys) = .tup [.int i, y] :: enD (i + 1) ys := rfl
theorem hw_turns (b : Nat) (sg : List Cell) : ∀ (ys pre acc : List Int) (s2 s3 s4 : Option Ab.R), pre.length + ys.length < 400 → acc.length = pre.length → ∃ t2 t3 t4,
    forG okT (gTp (gsCons (gNm 2) (gsCons (gNm 3) gsNil))) S_hw (enD pre.length (ys.map .int)) ⟨[some ⟨L (pre ++ ys), false⟩, some ⟨L acc, true⟩, s2, s3, s4, none], sg, b⟩ =
    .val .nx ⟨[some ⟨L (pre ++ ys), false⟩, some ⟨L (acc ++ ys.map fun s => sw s (pre ++ ys) - 1), true⟩, t2, t3, t4, none], sg, b⟩
  | [], pre, acc, s2, s3, s4, h, h2 => ⟨s2, s3, s4, by simp only [List.map_nil, enD, forG, okT, List.append_nil, if_true]⟩
  | y :: ys, pre, acc, s2, s3, s4, h, h2 => by
    simp only [List.length_cons] at h
    have e := hw_turn b sg pre y ys acc s4 (by omega) (by omega)
    obtain ⟨t2, t3, t4, ih⟩ := hw_turns b sg ys (pre ++ [y]) (acc ++ [sw y (pre ++ y :: ys) - 1]) (some ⟨.int pre.length, false⟩) (some ⟨.int y, false⟩) (some ⟨L (pre ++ ys), false⟩) (by simp only [List.length_append, List.length_cons, List.length_nil]; omega) (by simp [h2])
    refine ⟨t2, t3, t4, ?_⟩
    have ap : pre ++ [y] ++ ys = pre ++ y :: ys := by simp
    have ln : (pre ++ [y]).length = pre.length + 1 := by simp
    rw [ap, ln] at ih
    rw [List.map_cons, enD_cons]
    simp only [forG, okT, gTp, gsCons, gsNil, gNm, AS.put, List.set, if_true, Option.bind_some]
    rw [e, bind_val]
    simp only [turnEnd]
    rw [ih]
    simp only [List.append_assoc, List.map_cons, List.cons_append, List.nil_append]
theorem half_wins_eq (b : Nat) (sg : List Cell) (xs : List Int) (h : xs.length < 400) : F_half_wins b [L xs] sg = .val ⟨L (hw xs), true⟩ sg := by
  obtain ⟨t2, t3, t4, e⟩ := hw_turns b sg xs [] [] none none none (by simpa using h) rfl
  simp only [List.nil_append, List.length_nil] at e
  simp only [F_half_wins, B_hw_eq, sFor, iEn, LIM, Nat.zero_le, runF, startS, sRet, sSeq, sSet, sIf, sNil, sExpr, mBin, mIf, mVar, mMove, oE, oVar, mC, mIx, mLst, mTup, mNeg, aNil, aCons, Ab.tB, tE, Bool.and_self, Bool.true_and, Bool.and_true, mCallN, callF, pureF, refsLt, refsLts, mB1, AS.res, AS.view, bind_val, intF, mulD, addD, lenD, absD, modOk, rv, AS.put, List.map, List.append, List.replicate, List.length, List.cons_append, List.nil_append, List.getElem?_cons_zero, List.getElem?_cons_succ, Option.bind_some, if_true, if_false, List.set, decide_true, decide_false, reduceIte, Int.reduceLT, Bool.false_eq_true, Nat.reduceAdd, Nat.reduceSub, Nat.reduceLeDiff, eq_self, Int.reduceEq, Bool.not_true, Bool.not_false]
  rw [show (D.lst [] : D) = L [] from rfl, e]
  simp only [runF, startS, sRet, sSeq, sSet, sIf, sNil, sExpr, mBin, mIf, mVar, mMove, oE, oVar, mC, mIx, mLst, mTup, mNeg, aNil, aCons, Ab.tB, tE, Bool.and_self, Bool.true_and, Bool.and_true, mCallN, callF, pureF, refsLt, refsLts, mB1, AS.res, AS.view, bind_val, intF, mulD, addD, lenD, absD, modOk, rv, AS.put, List.map, List.append, List.replicate, List.length, List.cons_append, List.nil_append, List.getElem?_cons_zero, List.getElem?_cons_succ, Option.bind_some, if_true, if_false, List.set, decide_true, decide_false, reduceIte, Int.reduceLT, Bool.false_eq_true, Nat.reduceAdd, Nat.reduceSub, Nat.reduceLeDiff, eq_self, Int.reduceEq, Bool.not_true, Bool.not_false, hw]
/-- the inner comprehensions of _law_half_wins -/
theorem comp_lt (b : Nat) (sg : List Cell) (xs : List Int) (k s : Int) (hk : ixD (L xs) (.int k) = rv (.int s)) (s1 s3 s4 : Option Ab.R) : ∀ (ys acc : List Int), acc.length + ys.length < 1000 → compG okT [5] (gNm 5) (Ab.tB (mBin ltD (oVar 5) (oE (mIx (oVar 0) (oVar 2))))) (mVar 5) (ys.map .int) (acc.map .int) ⟨[some ⟨L xs, false⟩, s1, some ⟨.int k, false⟩, s3, s4, none], sg, b⟩ =
    .val ((acc ++ ys.filter fun o => decide (o < s)).map .int) ⟨[some ⟨L xs, false⟩, s1, some ⟨.int k, false⟩, s3, s4, none], sg, b⟩
  | [], acc, h => by simp only [List.map_nil, compG, okT, List.append_nil, List.filter_nil, if_true]
  | y :: ys, acc, h => by
    have hl : acc.length < LIM := by unfold LIM; simp only [List.length_cons] at h; omega
    rw [List.map_cons]
    by_cases c : y < s
    · have ih := comp_lt b sg xs k s hk s1 s3 s4 ys (acc ++ [y]) (by simp only [List.length_append, List.length_cons, List.length_nil] at *; omega)
      rw [List.map_append, List.map_cons, List.map_nil] at ih
      simp only [mIx] at ih
      simp only [compG, okT, gNm, hk, c, wipeS, List.length_map, hl, runF, startS, sRet, sSeq, sSet, sIf, sNil, sExpr, mBin, mIf, mVar, mMove, oE, oVar, mC, mIx, mLst, mTup, mNeg, aNil, aCons, Ab.tB, tE, Bool.and_self, Bool.true_and, Bool.and_true, mCallN, callF, pureF, refsLt, refsLts, mB1, AS.res, AS.view, bind_val, intF, mulD, addD, lenD, absD, modOk, rv, AS.put, List.map, List.append, List.replicate, List.length, List.cons_append, List.nil_append, List.getElem?_cons_zero, List.getElem?_cons_succ, Option.bind_some, if_true, if_false, List.set, decide_true, decide_false, reduceIte, Int.reduceLT, Bool.false_eq_true, Nat.reduceAdd, Nat.reduceSub, Nat.reduceLeDiff, eq_self, Int.reduceEq, Bool.not_true, Bool.not_false, ih, List.append_assoc, List.filter_cons, List.nil_append, List.cons_append]
    · have ih := comp_lt b sg xs k s hk s1 s3 s4 ys acc (by simp only [List.length_cons] at *; omega)
      simp only [mIx] at ih
      simp only [compG, okT, gNm, hk, c, wipeS, List.length_map, hl, runF, startS, sRet, sSeq, sSet, sIf, sNil, sExpr, mBin, mIf, mVar, mMove, oE, oVar, mC, mIx, mLst, mTup, mNeg, aNil, aCons, Ab.tB, tE, Bool.and_self, Bool.true_and, Bool.and_true, mCallN, callF, pureF, refsLt, refsLts, mB1, AS.res, AS.view, bind_val, intF, mulD, addD, lenD, absD, modOk, rv, AS.put, List.map, List.append, List.replicate, List.length, List.cons_append, List.nil_append, List.getElem?_cons_zero, List.getElem?_cons_succ, Option.bind_some, if_true, if_false, List.set, decide_true, decide_false, reduceIte, Int.reduceLT, Bool.false_eq_true, Nat.reduceAdd, Nat.reduceSub, Nat.reduceLeDiff, eq_self, Int.reduceEq, Bool.not_true, Bool.not_false, ih, List.filter_cons]
theorem comp_eq (b : Nat) (sg : List Cell) (xs : List Int) (k s : Int) (hk : ixD (L xs) (.int k) = rv (.int s)) (s1 s3 s4 : Option Ab.R) : ∀ (ys acc : List Int), acc.length + ys.length < 1000 → compG okT [5] (gNm 5) (Ab.tB (mBin eqF (oVar 5) (oE (mIx (oVar 0) (oVar 2))))) (mVar 5) (ys.map .int) (acc.map .int) ⟨[some ⟨L xs, false⟩, s1, some ⟨.int k, false⟩, s3, s4, none], sg, b⟩ =
    .val ((acc ++ ys.filter fun o => decide (o = s)).map .int) ⟨[some ⟨L xs, false⟩, s1, some ⟨.int k, false⟩, s3, s4, none], sg, b⟩
  | [], acc, h => by simp only [List.map_nil, compG, okT, List.append_nil, List.filter_nil, if_true]
  | y :: ys, acc, h => by
    have hl : acc.length < LIM := by unfold LIM; simp only [List.length_cons] at h; omega
    rw [List.map_cons]
    by_cases c : y = s
    · have c : (y = s) = True := eq_true c
      have ih := comp_eq b sg xs k s hk s1 s3 s4 ys (acc ++ [y]) (by simp only [List.length_append, List.length_cons, List.length_nil] at *; omega)
      rw [List.map_append, List.map_cons, List.map_nil] at ih
      simp only [mIx] at ih
      simp only [compG, okT, gNm, hk, eqInt, c, wipeS, List.length_map, hl, runF, startS, sRet, sSeq, sSet, sIf, sNil, sExpr, mBin, mIf, mVar, mMove, oE, oVar, mC, mIx, mLst, mTup, mNeg, aNil, aCons, Ab.tB, tE, Bool.and_self, Bool.true_and, Bool.and_true, mCallN, callF, pureF, refsLt, refsLts, mB1, AS.res, AS.view, bind_val, intF, mulD, addD, lenD, absD, modOk, rv, AS.put, List.map, List.append, List.replicate, List.length, List.cons_append, List.nil_append, List.getElem?_cons_zero, List.getElem?_cons_succ, Option.bind_some, if_true, if_false, List.set, decide_true, decide_false, reduceIte, Int.reduceLT, Bool.false_eq_true, Nat.reduceAdd, Nat.reduceSub, Nat.reduceLeDiff, eq_self, Int.reduceEq, Bool.not_true, Bool.not_false, ih, List.append_assoc, List.filter_cons, List.nil_append, List.cons_append]
    · have ih := comp_eq b sg xs k s hk s1 s3 s4 ys acc (by simp only [List.length_cons] at *; omega)
      simp only [mIx] at ih
      simp only [compG, okT, gNm, hk, eqInt, c, wipeS, List.length_map, hl, runF, startS, sRet, sSeq, sSet, sIf, sNil, sExpr, mBin, mIf, mVar, mMove, oE, oVar, mC, mIx, mLst, mTup, mNeg, aNil, aCons, Ab.tB, tE, Bool.and_self, Bool.true_and, Bool.and_true, mCallN, callF, pureF, refsLt, refsLts, mB1, AS.res, AS.view, bind_val, intF, mulD, addD, lenD, absD, modOk, rv, AS.put, List.map, List.append, List.replicate, List.length, List.cons_append, List.nil_append, List.getElem?_cons_zero, List.getElem?_cons_succ, Option.bind_some, if_true, if_false, List.set, decide_true, decide_false, reduceIte, Int.reduceLT, Bool.false_eq_true, Nat.reduceAdd, Nat.reduceSub, Nat.reduceLeDiff, eq_self, Int.reduceEq, Bool.not_true, Bool.not_false, ih, List.filter_cons]
theorem ixL (pre : List Int) (y : Int) (ys : List Int) : ixD (L (pre ++ y :: ys)) (.int (pre.length : Int)) = rv (.int y) := by
  have := atL pre y ys
  simp only [ixD, this, Option.map_some]
theorem lhw_turn (b : Nat) (sg : List Cell) (pre : List Int) (y : Int) (ys acc : List Int) (s3 s4 : Option Ab.R) (h : pre.length + ys.length < 500) (h2 : acc.length < 500) : ∃ t3 t4,
    S_lhw ⟨[some ⟨L (pre ++ y :: ys), false⟩, some ⟨L acc, true⟩, some ⟨.int pre.length, false⟩, s3, s4, none], sg, b⟩ =
    .val .nx ⟨[some ⟨L (pre ++ y :: ys), false⟩, some ⟨L (acc ++ [sw y (pre ++ y :: ys) - 1]), true⟩, some ⟨.int pre.length, false⟩, t3, t4, none], sg, b⟩ := by
  have hk := ixL pre y ys
  have hl2 : acc.length < LIM := by unfold LIM; omega
  have hz : (0 : Nat) + (pre ++ y :: ys).length < 1000 := by simp only [List.length_append, List.length_cons]; omega
  have cl := comp_lt b sg (pre ++ y :: ys) pre.length y hk (some ⟨L acc, true⟩) s3 s4 (pre ++ y :: ys) [] hz
  have ce (t3 : Option Ab.R) := comp_eq b sg (pre ++ y :: ys) pre.length y hk (some ⟨L acc, true⟩) t3 s4 (pre ++ y :: ys) [] hz
  have sm := sw_lt y (pre ++ y :: ys)
  generalize pre ++ y :: ys = xs at *
  rw [List.nil_append, List.map_nil] at cl
  simp only [mIx] at cl
  have m (x : Int) : mulOk 2 x = true := mulL (by decide)
  refine ⟨some ⟨.int ((xs.filter fun o => decide (o < y)).length : Int), false⟩, some ⟨.int (((xs.filter fun o => decide (o = y)).length : Int) - 1), false⟩, ?_⟩
  have ce := ce (some ⟨.int ((xs.filter fun o => decide (o < y)).length : Int), false⟩)
  rw [List.nil_append, List.map_nil] at ce
  simp only [mIx] at ce
  have fin : 2 * ((xs.filter fun o => decide (o < y)).length : Int) + (((xs.filter fun o => decide (o = y)).length : Int) - 1) = sw y xs - 1 := by rw [sm]; omega
  simp only [S_lhw, mComp, iL, wipeS, unwipe, runF, startS, sRet, sSeq, sSet, sIf, sNil, sExpr, mBin, mIf, mVar, mMove, oE, oVar, mC, mIx, mLst, mTup, mNeg, aNil, aCons, Ab.tB, tE, Bool.and_self, Bool.true_and, Bool.and_true, mCallN, callF, pureF, refsLt, refsLts, mB1, AS.res, AS.view, bind_val, intF, mulD, addD, lenD, absD, modOk, rv, AS.put, List.map, List.append, List.replicate, List.length, List.cons_append, List.nil_append, List.getElem?_cons_zero, List.getElem?_cons_succ, Option.bind_some, if_true, if_false, List.set, decide_true, decide_false, reduceIte, Int.reduceLT, Bool.false_eq_true, Nat.reduceAdd, Nat.reduceSub, Nat.reduceLeDiff, eq_self, Int.reduceEq, Bool.not_true, Bool.not_false, cl, List.contains_nil, List.length_map]
  simp only [mComp, iL, wipeS, unwipe, runF, startS, sRet, sSeq, sSet, sIf, sNil, sExpr, mBin, mIf, mVar, mMove, oE, oVar, mC, mIx, mLst, mTup, mNeg, aNil, aCons, Ab.tB, tE, Bool.and_self, Bool.true_and, Bool.and_true, mCallN, callF, pureF, refsLt, refsLts, mB1, AS.res, AS.view, bind_val, intF, mulD, addD, lenD, absD, modOk, rv, AS.put, List.map, List.append, List.replicate, List.length, List.cons_append, List.nil_append, List.getElem?_cons_zero, List.getElem?_cons_succ, Option.bind_some, if_true, if_false, List.set, decide_true, decide_false, reduceIte, Int.reduceLT, Bool.false_eq_true, Nat.reduceAdd, Nat.reduceSub, Nat.reduceLeDiff, eq_self, Int.reduceEq, Bool.not_true, Bool.not_false, ce, List.contains_nil, List.length_map]
  simp only [m, fin, mMutL, apD, kindL, locOf, AS.at_, AS.setAt, toCell, ofCell, mutO, mutS, okAt, Option.isSome_some, Option.map_some, List.length_map, hl2, L, List.map_append, List.map_cons, List.map_nil, runF, startS, sRet, sSeq, sSet, sIf, sNil, sExpr, mBin, mIf, mVar, mMove, oE, oVar, mC, mIx, mLst, mTup, mNeg, aNil, aCons, Ab.tB, tE, Bool.and_self, Bool.true_and, Bool.and_true, mCallN, callF, pureF, refsLt, refsLts, mB1, AS.res, AS.view, bind_val, intF, mulD, addD, lenD, absD, modOk, rv, AS.put, List.map, List.append, List.replicate, List.length, List.cons_append, List.nil_append, List.getElem?_cons_zero, List.getElem?_cons_succ, Option.bind_some, if_true, if_false, List.set, decide_true, decide_false, reduceIte, Int.reduceLT, Bool.false_eq_true, Nat.reduceAdd, Nat.reduceSub, Nat.reduceLeDiff, eq_self, Int.reduceEq, Bool.not_true, Bool.not_false]
theorem lhw_turns (b : Nat) (sg : List Cell) : ∀ (ys pre acc : List Int) (s2 s3 s4 : Option Ab.R), pre.length + ys.length < 400 → acc.length = pre.length → ∃ t2 t3 t4,
    forG okT (gNm 2) S_lhw ((List.range' pre.length ys.length).map fun i => .int (0 + (i : Nat))) ⟨[some ⟨L (pre ++ ys), false⟩, some ⟨L acc, true⟩, s2, s3, s4, none], sg, b⟩ =
    .val .nx ⟨[some ⟨L (pre ++ ys), false⟩, some ⟨L (acc ++ ys.map fun s => sw s (pre ++ ys) - 1), true⟩, t2, t3, t4, none], sg, b⟩
  | [], pre, acc, s2, s3, s4, h, h2 => ⟨s2, s3, s4, by simp only [List.length_nil, List.range'_zero, List.map_nil, forG, okT, List.append_nil, if_true]⟩
  | y :: ys, pre, acc, s2, s3, s4, h, h2 => by
    simp only [List.length_cons] at h
    obtain ⟨u3, u4, e⟩ := lhw_turn b sg pre y ys acc s3 s4 (by omega) (by omega)
    obtain ⟨t2, t3, t4, ih⟩ := lhw_turns b sg ys (pre ++ [y]) (acc ++ [sw y (pre ++ y :: ys) - 1]) (some ⟨.int pre.length, false⟩) u3 u4 (by simp only [List.length_append, List.length_cons, List.length_nil]; omega) (by simp [h2])
    refine ⟨t2, t3, t4, ?_⟩
    have ap : pre ++ [y] ++ ys = pre ++ y :: ys := by simp
    have ln : (pre ++ [y]).length = pre.length + 1 := by simp
    rw [ap, ln] at ih
    rw [List.length_cons, List.range'_succ, List.map_cons]
    simp only [forG, okT, gNm, AS.put, List.set, if_true, Int.zero_add]
    rw [e, bind_val]
    simp only [turnEnd]
    simp only [Int.zero_add] at ih
    rw [ih]
    simp only [List.append_assoc, List.map_cons, List.cons_append, List.nil_append]
end Q
end Ab
namespace Ab
open PySem PySem.Spec PyProof.Rows L2
namespace Q
theorem small_of (n : Nat) (h : n < 400) : smallI (n : Int) = true := by
  have a : -(2 ^ 62 : Int) ≤ (n : Int) := by omega
  have b : (n : Int) < 2 ^ 62 := by omega
  simp only [smallI, a, b, decide_true, Bool.and_self]
theorem rng_eq (n : Nat) : rngD 0 n = (List.range' 0 n).map fun i => .int (0 + (i : Nat)) := by
  unfold rngD
  rw [List.range_eq_range']
  simp
theorem iR1_int {m : AM} {st st1 : AS} {i : Int} (h : m st = .val [.int i] st1) (hn : smallI i = true) : iR1 m st = .val ⟨rngD 0 i, okT⟩ st1 := by
  simp only [iR1, h, bind_val, hn, if_true]
theorem iR1_eq {m : AM} {st st1 : AS} {n : Nat} (h : m st = .val [.int (n : Int)] st1) (hn : n < 400) : iR1 m st = .val ⟨(List.range' 0 n).map fun i => .int (0 + (i : Nat)), okT⟩ st1 := by
  rw [← rng_eq]
  exact iR1_int h (small_of n hn)
theorem lhw_i (b : Nat) (sg : List Cell) (xs : List Int) (h : xs.length < 400) : iR1 (aCons (mB1 lenD (oVar 0)) aNil) ⟨[some ⟨L xs, false⟩, some ⟨L [], true⟩, none, none, none, none], sg, b⟩ = .val ⟨(List.range' 0 xs.length).map fun i => .int (0 + (i : Nat)), okT⟩ ⟨[some ⟨L xs, false⟩, some ⟨L [], true⟩, none, none, none, none], sg, b⟩ := by
  have a : aCons (mB1 lenD (oVar 0)) aNil ⟨[some ⟨L xs, false⟩, some ⟨L [], true⟩, none, none, none, none], sg, b⟩ = .val [.int (xs.length : Int)] ⟨[some ⟨L xs, false⟩, some ⟨L [], true⟩, none, none, none, none], sg, b⟩ := by simp only [runF, startS, sRet, sSeq, sSet, sIf, sNil, sExpr, mBin, mIf, mVar, mMove, oE, oVar, mC, mIx, mLst, mTup, mNeg, aNil, aCons, Ab.tB, tE, Bool.and_self, Bool.true_and, Bool.and_true, mCallN, callF, pureF, refsLt, refsLts, mB1, AS.res, AS.view, bind_val, intF, mulD, addD, lenD, absD, modOk, rv, AS.put, List.map, List.append, List.replicate, List.length, List.cons_append, List.nil_append, List.getElem?_cons_zero, List.getElem?_cons_succ, Option.bind_some, if_true, if_false, List.set, decide_true, decide_false, reduceIte, Int.reduceLT, Bool.false_eq_true, Nat.reduceAdd, Nat.reduceSub, Nat.reduceLeDiff, eq_self, Int.reduceEq, Bool.not_true, Bool.not_false, List.length_map]
  exact iR1_eq a h
theorem lhw_f (b : Nat) (sg : List Cell) (xs : List Int) (h : xs.length < 400) : ∃ t2 t3 t4, sFor (iR1 (aCons (mB1 lenD (oVar 0)) aNil)) (gNm 2) S_lhw ⟨[some ⟨L xs, false⟩, some ⟨L [], true⟩, none, none, none, none], sg, b⟩ = .val .nx ⟨[some ⟨L xs, false⟩, some ⟨L (hw xs), true⟩, t2, t3, t4, none], sg, b⟩ := by
  have g : (([] : List Int)).length + xs.length < 400 := by rw [List.length_nil, Nat.zero_add]; exact h
  obtain ⟨t2, t3, t4, e⟩ := lhw_turns b sg xs [] [] none none none g rfl
  refine ⟨t2, t3, t4, ?_⟩
  unfold sFor
  rw [lhw_i b sg xs h, bind_val]
  exact e
theorem run_list (S : SM) (b : Nat) (sg : List Cell) (d x : D) (s0 t2 t3 t4 t5 : Option Ab.R) (hx : (match x with | .ref _ => false | _ => true) = true) (hS : S ⟨[some ⟨d, false⟩, some ⟨.lst [], true⟩, none, none, none, none], sg, b⟩ = .val .nx ⟨[s0, some ⟨x, true⟩, t2, t3, t4, t5], sg, b⟩) :
    runF (sSeq (sSet 1 (mLst aNil)) (sSeq S (sRet (mMove 1)))) 6 b [d] sg = .val ⟨x, true⟩ sg := by
  simp only [LIM, Nat.zero_le, runF, startS, sRet, sSeq, sSet, sIf, sNil, sExpr, mBin, mIf, mVar, mMove, oE, oVar, mC, mIx, mLst, mTup, mNeg, aNil, aCons, Ab.tB, tE, Bool.and_self, Bool.true_and, Bool.and_true, mCallN, callF, pureF, refsLt, refsLts, mB1, AS.res, AS.view, bind_val, intF, mulD, addD, lenD, absD, modOk, rv, AS.put, List.map, List.append, List.replicate, List.length, List.cons_append, List.nil_append, List.getElem?_cons_zero, List.getElem?_cons_succ, Option.bind_some, if_true, if_false, List.set, decide_true, decide_false, reduceIte, Int.reduceLT, Bool.false_eq_true, Nat.reduceAdd, Nat.reduceSub, Nat.reduceLeDiff, eq_self, Int.reduceEq, Bool.not_true, Bool.not_false]
  rw [hS]
  simp only [runF, startS, sRet, sSeq, sSet, sIf, sNil, sExpr, mBin, mIf, mVar, mMove, oE, oVar, mC, mIx, mLst, mTup, mNeg, aNil, aCons, Ab.tB, tE, Bool.and_self, Bool.true_and, Bool.and_true, mCallN, callF, pureF, refsLt, refsLts, mB1, AS.res, AS.view, bind_val, intF, mulD, addD, lenD, absD, modOk, rv, AS.put, List.map, List.append, List.replicate, List.length, List.cons_append, List.nil_append, List.getElem?_cons_zero, List.getElem?_cons_succ, Option.bind_some, if_true, if_false, List.set, decide_true, decide_false, reduceIte, Int.reduceLT, Bool.false_eq_true, Nat.reduceAdd, Nat.reduceSub, Nat.reduceLeDiff, eq_self, Int.reduceEq, Bool.not_true, Bool.not_false]
theorem L_half_wins_eq (b : Nat) (sg : List Cell) (xs : List Int) (h : xs.length < 400) : F_L_half_wins b [L xs] sg = .val ⟨L (hw xs), true⟩ sg := by
  obtain ⟨t2, t3, t4, hf⟩ := lhw_f b sg xs h
  exact run_list _ b sg (L xs) (L (hw xs)) _ t2 t3 t4 none rfl hf
theorem at8 (x0 x1 x2 x3 x4 x5 x6 x7 e : Int) (h0 : 0 ≤ e) (h1 : e < 8) : ∃ v, atI [D.int x0, .int x1, .int x2, .int x3, .int x4, .int x5, .int x6, .int x7] e = some (.int v) := by
  have : e = 0 ∨ e = 1 ∨ e = 2 ∨ e = 3 ∨ e = 4 ∨ e = 5 ∨ e = 6 ∨ e = 7 := by omega
  rcases this with rfl | rfl | rfl | rfl | rfl | rfl | rfl | rfl
  · exact ⟨x0, by kernel_rfl⟩
  · exact ⟨x1, by kernel_rfl⟩
  · exact ⟨x2, by kernel_rfl⟩
  · exact ⟨x3, by kernel_rfl⟩
  · exact ⟨x4, by kernel_rfl⟩
  · exact ⟨x5, by kernel_rfl⟩
  · exact ⟨x6, by kernel_rfl⟩
  · exact ⟨x7, by kernel_rfl⟩
theorem score_eq (b : Nat) (sg : List Cell) (a c : Int) : ∃ v, F_L_score b [.int a, .int c] sg = .val ⟨.int v, false⟩ sg := by
  have m : mulOk (a % 41) 10 = true := mulR (by decide)
  have h0 := Int.emod_nonneg c (b := 8) (by decide)
  have h1 := Int.emod_lt_of_pos c (b := 8) (by decide)
  have : ∃ v, atI [D.int (a % 41 * 10 - 200), .int (a % 5), .int 9999, .int (-9999), .int (a % 19999 - 9999), .int 9998, .int (-9998), .int 0] (c % 8) = some (.int v) := at8 _ _ _ _ _ _ _ _ _ h0 h1
  obtain ⟨v, hv⟩ := this
  refine ⟨v, ?_⟩
  simp only [F_L_score, B_L_score, m, ixD, hv, Option.map_some, LIM, List.length_cons, List.length_nil, runF, startS, sRet, sSeq, sSet, sIf, sNil, sExpr, mBin, mIf, mVar, mMove, oE, oVar, mC, mIx, mLst, mTup, mNeg, aNil, aCons, Ab.tB, tE, Bool.and_self, Bool.true_and, Bool.and_true, mCallN, callF, pureF, refsLt, refsLts, mB1, AS.res, AS.view, bind_val, intF, mulD, addD, lenD, absD, modOk, rv, AS.put, List.map, List.append, List.replicate, List.length, List.cons_append, List.nil_append, List.getElem?_cons_zero, List.getElem?_cons_succ, Option.bind_some, if_true, if_false, List.set, decide_true, decide_false, reduceIte, Int.reduceLT, Bool.false_eq_true, Nat.reduceAdd, Nat.reduceSub, Nat.reduceLeDiff, eq_self, Int.reduceEq, Bool.not_true, Bool.not_false]
theorem hw_length (xs : List Int) : (hw xs).length = xs.length := by simp [hw]
theorem sw_rev (s : Int) (xs : List Int) : sw s xs.reverse = sw s xs := by simp [sw, List.map_reverse, List.sum_reverse]
theorem hw_rev (xs : List Int) : hw xs.reverse = (hw xs).reverse := by simp [hw, sw_rev, List.map_reverse]
end Q
end Ab
namespace Ab
open PySem PySem.Spec PyProof.Rows L2
namespace Q
theorem compM (v : Nat) (m : EM) (f : D → D) (st : AS) (hp : ∀ d, (st.put v (some ⟨d, false⟩)).put v none = st) : ∀ (ds acc : List D), (∀ d ∈ ds, ∃ o, m (st.put v (some ⟨d, false⟩)) = .val ⟨f d, o⟩ (st.put v (some ⟨d, false⟩))) → acc.length + ds.length < 1000 → compG okT [v] (gNm v) Ab.tTrue m ds acc st = .val (acc ++ ds.map f) st
  | [], acc, _, h => by simp only [List.map_nil, compG, okT, List.append_nil, if_true]
  | d :: ds, acc, hm, h => by
    obtain ⟨o, e⟩ := hm d List.mem_cons_self
    have ih := compM v m f st hp ds (acc ++ [f d]) (fun x hx => hm x (List.mem_cons_of_mem _ hx)) (by simp only [List.length_append, List.length_cons, List.length_nil] at *; omega)
    have hl : acc.length < LIM := by unfold LIM; simp only [List.length_cons] at h; omega
    simp only [compG, okT, gNm, Ab.tTrue, e, wipeS, hp, hl, ih, if_true, List.append_assoc, List.map_cons, List.nil_append, List.cons_append]
theorem mCompM (v : Nat) (im : IM) (m : EM) (f : D → D) (st st1 : AS) (ds : List D) (hi : im st = .val ⟨ds, okT⟩ st1) (hw : st1.put v none = st1) (hu : unwipe st1.sl [v] st1 = st1) (hp : ∀ d, (st1.put v (some ⟨d, false⟩)).put v none = st1)
    (hm : ∀ d ∈ ds, ∃ o, m (st1.put v (some ⟨d, false⟩)) = .val ⟨f d, o⟩ (st1.put v (some ⟨d, false⟩))) (hn : ds.length < 900) : mComp im [v] (gNm v) Ab.tTrue m st = .val ⟨.lst (ds.map f), true⟩ st1 := by
  have c := compM v m f st1 hp ds [] hm (by rw [List.length_nil]; omega)
  rw [List.nil_append] at c
  unfold mComp
  rw [hi, bind_val]
  simp only [wipeS, hw, c, hu]
theorem refs_int (n : Nat) : ∀ ys : List Int, refsLts n (ys.map .int) = true
  | [] => rfl
  | y :: ys => by simp only [List.map_cons, refsLts, refsLt, refs_int n ys, Bool.and_self]
theorem refs_pair (n : Nat) (f g : Int → Int) : ∀ ys : List Int, refsLts n (ys.map fun y => .tup [.int (f y), .int (g y)]) = true
  | [] => rfl
  | y :: ys => by simp only [List.map_cons, refsLts, refsLt, refs_pair n f g ys, Bool.and_self]
theorem toPys_int : ∀ ys : List Int, toPys (ys.map .int) = some (ys.map .int)
  | [] => rfl
  | y :: ys => by simp only [List.map_cons, toPys, toPy, toPys_int ys]
theorem lay_int : ∀ ys : List Int, PyData.canLayAll0 (ys.map .int) = true ∧ PyData.depthAll (ys.map .int) ≤ 1 ∧ PyData.eqvAll (ys.map .int) (ys.map .int) = true
  | [] => ⟨rfl, by simp [PyData.depthAll], rfl⟩
  | y :: ys => by
    obtain ⟨a, b, c⟩ := lay_int ys
    refine ⟨?_, ?_, ?_⟩
    · simp [PyData.canLayAll0, PyData.canLay0, a]
    · simp only [List.map_cons, PyData.depthAll, PyData.depth]
      omega
    · simp [PyData.eqvAll, PyData.eqv, c]
theorem neL (ys : List Int) : neF (L ys) (L ys) = rv (.bl false) := by
  obtain ⟨a, b, c⟩ := lay_int ys
  have d : PyData.depthAll (ys.map .int) + 1 ≤ 64 := by omega
  simp [neF, okD, eqD, toPy, toPys_int, SeqAt.shaped, PyData.eqv, rv, PyData.canLay0, PyData.depth, a, c]
  omega
theorem toPys_pair (f g : Int → Int) : ∀ ys : List Int, toPys (ys.map fun y => .tup [.int (f y), .int (g y)]) = some (ys.map fun y => .tuple [.int (f y), .int (g y)])
  | [] => rfl
  | y :: ys => by simp only [List.map_cons, toPys, toPy, Option.map_some, toPys_pair f g ys]
theorem lay_pair (f g : Int → Int) : ∀ ys : List Int, PyData.canLayAll0 (ys.map fun y => .tuple [.int (f y), .int (g y)]) = true ∧ PyData.depthAll (ys.map fun y => .tuple [.int (f y), .int (g y)]) ≤ 5 ∧ PyData.eqvAll (ys.map fun y => .tuple [.int (f y), .int (g y)]) (ys.map fun y => .tuple [.int (f y), .int (g y)]) = true
  | [] => ⟨rfl, by simp [PyData.depthAll], rfl⟩
  | y :: ys => by
    obtain ⟨a, b, c⟩ := lay_pair f g ys
    refine ⟨?_, ?_, ?_⟩
    · simp [PyData.canLayAll0, PyData.canLay0, a]
    · simp only [List.map_cons, PyData.depthAll, PyData.depth]
      omega
    · simp [PyData.eqvAll, PyData.eqv, c]
theorem neLP (f g : Int → Int) (ys : List Int) : neF (.lst (ys.map fun y => .tup [.int (f y), .int (g y)])) (.lst (ys.map fun y => .tup [.int (f y), .int (g y)])) = rv (.bl false) := by
  obtain ⟨a, b, c⟩ := lay_pair f g ys
  simp [neF, okD, eqD, toPy, toPys_pair, SeqAt.shaped, PyData.eqv, rv, PyData.canLay0, PyData.depth, a, c]
  omega
theorem ixMap (f : Int → D) (ys : List Int) (i : Nat) (h : i < ys.length) : ixD (.lst (ys.map f)) (.int (0 + (i : Nat))) = rv (f ys[i]) := by
  have : atI (ys.map f) (0 + (i : Int)) = some (f ys[i]) := by
    unfold atI ixN
    rw [Int.zero_add, if_pos (by omega), if_pos (by rw [List.length_map]; omega), Option.bind_some, Int.toNat_natCast, List.getElem?_map, List.getElem?_eq_getElem h]
    rfl
  simp only [ixD, this, Option.map_some]
theorem ixAny (ys : List Int) (i : Int) (h0 : 0 ≤ i) (h : i < ys.length) : ∃ v, ixD (L ys) (.int i) = rv (.int v) := by
  obtain ⟨n, rfl⟩ := Int.eq_ofNat_of_zero_le h0
  have := ixMap .int ys n (by omega)
  rw [Int.zero_add] at this
  exact ⟨_, this⟩
theorem all_true : ∀ n : List D, allD (.lst (n.map fun _ => .bl true)) = rv (.bl true) := by
  have b : ∀ n : List D, blsD (n.map fun _ => .bl true) = some (n.map fun _ => true) := by
    intro n
    induction n with
    | nil => rfl
    | cons x xs ih => rw [List.map_cons, blsD, ih]; rfl
  intro n
  simp only [allD, b, Option.map_some]
  have : (n.map fun _ => true).all id = true := by simp
  rw [this]
theorem isi_list (xs : List D) : isiD "list" (.lst xs) = rv (.bl true) := by kernel_rfl
theorem seq_nx {a b : SM} {st st1 : AS} (h : a st = .val .nx st1) : sSeq a b st = b st1 := by
  unfold sSeq
  rw [h, bind_val]
theorem set_val {i : Nat} {m : EM} {st st1 : AS} {r : Ab.R} (h : m st = .val r st1) : sSet i m st = .val .nx (st1.put i (some r)) := by
  unfold sSet
  rw [h, bind_val]
theorem if_f {c : TM} {a b : SM} {st st1 : AS} (h : c st = .val false st1) : sIf c a b st = b st1 := by
  unfold sIf
  rw [h, bind_val]
  rfl
/-- a call of one argument, a name's value -/
theorem call1 {F : Fn} {i : Nat} {st st1 : AS} {d : D} {r : Ab.R} (hv : mVar i st = .val ⟨d, false⟩ st1) (hF : F st1.sg.length [d] st1.sg = .val r st1.sg) (hr : refsLt st1.sg.length r.d = true) : mCallN 1 (pureF F) (aCons (mVar i) aNil) st = .val r st1 := by
  simp only [aCons, hv, bind_val, aNil, mCallN, List.length, Nat.reduceAdd, if_true, callF, pureF, hF, hr]
theorem call2 {F : Fn} {i j : Nat} {st st1 st2 : AS} {d e : D} {r : Ab.R} (hv : mVar i st = .val ⟨d, false⟩ st1) (hv2 : mVar j st1 = .val ⟨e, false⟩ st2) (hF : F st2.sg.length [d, e] st2.sg = .val r st2.sg) (hr : refsLt st2.sg.length r.d = true) : mCallN 2 (pureF F) (aCons (mVar i) (aCons (mVar j) aNil)) st = .val r st2 := by
  simp only [aCons, hv, hv2, bind_val, aNil, mCallN, List.length, Nat.reduceAdd, if_true, callF, pureF, hF, hr]
theorem iL_eq {m : EM} {st st1 : AS} {ds : List D} {o : Bool} (h : m st = .val ⟨.lst ds, o⟩ st1) : iL m st = .val ⟨ds, okT⟩ st1 := by
  unfold iL
  rw [h, bind_val]
/-- count, then a list made item by item -/
theorem run_map (I : IM) (M : EM) (b : Nat) (sg : List Cell) (xs : List Int) (m : Int) (ds : List D) (f : D → D) (hI : I ⟨[some ⟨L xs, false⟩, some ⟨.int m, false⟩, some ⟨.int xs.length, false⟩, none], sg, b⟩ = .val ⟨ds, okT⟩ ⟨[some ⟨L xs, false⟩, some ⟨.int m, false⟩, some ⟨.int xs.length, false⟩, none], sg, b⟩)
    (hM : ∀ d ∈ ds, ∃ o, M ⟨[some ⟨L xs, false⟩, some ⟨.int m, false⟩, some ⟨.int xs.length, false⟩, some ⟨d, false⟩], sg, b⟩ = .val ⟨f d, o⟩ ⟨[some ⟨L xs, false⟩, some ⟨.int m, false⟩, some ⟨.int xs.length, false⟩, some ⟨d, false⟩], sg, b⟩) (hn : ds.length < 900) :
    runF (sSeq (sSet 2 (mB1 lenD (oVar 0))) (sRet (mComp I [3] (gNm 3) Ab.tTrue M))) 4 b [L xs, .int m] sg = .val ⟨.lst (ds.map f), true⟩ sg := by
  have c := mCompM 3 I M f _ _ ds hI rfl rfl (fun _ => rfl) hM hn
  have s : sSet 2 (mB1 lenD (oVar 0)) ⟨[some ⟨L xs, false⟩, some ⟨.int m, false⟩, none, none], sg, b⟩ = .val .nx ⟨[some ⟨L xs, false⟩, some ⟨.int m, false⟩, some ⟨.int xs.length, false⟩, none], sg, b⟩ := by
    simp only [runF, startS, sRet, sSeq, sSet, sIf, sNil, sExpr, mBin, mIf, mVar, mMove, oE, oVar, mC, mIx, mLst, mTup, mNeg, aNil, aCons, Ab.tB, tE, Bool.and_self, Bool.true_and, Bool.and_true, mCallN, callF, pureF, refsLt, refsLts, mB1, AS.res, AS.view, bind_val, intF, mulD, addD, lenD, absD, modOk, rv, AS.put, List.map, List.append, List.replicate, List.length, List.cons_append, List.nil_append, List.getElem?_cons_zero, List.getElem?_cons_succ, Option.bind_some, if_true, if_false, List.set, decide_true, decide_false, reduceIte, Int.reduceLT, Bool.false_eq_true, Nat.reduceAdd, Nat.reduceSub, Nat.reduceLeDiff, eq_self, Int.reduceEq, Bool.not_true, Bool.not_false, List.length_map]
  unfold runF
  rw [show startS 4 [L xs, .int m] = [some ⟨L xs, false⟩, some ⟨.int m, false⟩, none, none] from rfl, seq_nx s]
  unfold sRet
  rw [c, bind_val]
end Q
end Ab
namespace K25
open PySem PySem.Spec PyProof.Rows L2 Ab
def B_wins_over : SM :=
  sRet (mBin addD (oE (mBin mulD (oE (mC (.int 2))) (oE (mB1 intD (oE (mBin ltD (oVar 1) (oVar 0))))))) (oE (mB1 intD (oE (mBin eqF (oVar 1) (oVar 0))))))
def F_wins_over : Fn := runF B_wins_over 2

def B_half_wins : SM :=
  sSeq (sSet 1 (mLst (aNil)))
  (sSeq (sFor (iEn (mVar 0)) (gTp (gsCons (gNm 2) (gsCons (gNm 3) (gsNil)))) (sSeq (sSet 4 (mBin addD (oE (mSlice (oVar 0) (pNone) (pSome (mVar 2)))) (oE (mSlice (oVar 0) (pSome (mBin addD (oVar 2) (oE (mC (.int 1))))) (pNone)))))
  (sExpr (mMutL apD (oVar 1) (aCons (mB1 sumD (oE (mComp (iL (mVar 4)) [5] (gNm 5) (tTrue) (mCallN 2 (pureF F_wins_over) (aCons (mVar 3) (aCons (mVar 5) (aNil))))))) (aNil))))))
  (sRet (mMove 1)))
def F_half_wins : Fn := runF B_half_wins 6

def B_L_mixed : SM :=
  sSeq (sSet 2 (mBin modD (oE (mBin mulD (oVar 0) (oVar 0))) (oE (mC (.int 2147483647)))))
  (sRet (mBin modD (oE (mBin addD (oE (mBin addD (oE (mBin mulD (oVar 2) (oE (mBin addD (oE (mBin modD (oVar 0) (oE (mC (.int 65521))))) (oE (mC (.int 3))))))) (oE (mBin mulD (oVar 1) (oE (mC (.int 7919))))))) (oE (mC (.int 131))))) (oE (mC (.int 2147483647)))))
def F_L_mixed : Fn := runF B_L_mixed 3

def B_L_draw : SM :=
  sSeq (sSet 2 (mIf (tB (mBin geD (oVar 0) (oE (mBin powD (oE (mC (.int 10))) (oE (mC (.int 18))))))) (mVar 0) (mC (.int 0))))
  (sSeq (sSet 3 (mBin modD (oE (mBin addD (oE (mBin mulD (oE (mB1 absD (oVar 0))) (oE (mC (.int 2654435))))) (oE (mC (.int 40503))))) (oE (mC (.int 2147483647)))))
  (sSeq (sSet 4 (mLst (aNil)))
  (sSeq (sFor (iL (mVar 1)) (gNm 5) (sIf (tB (mBin gtD (oVar 2) (oE (mC (.int 0))))) (sSeq (sExpr (mMutL apD (oVar 4) (aCons (mBin modD (oVar 2) (oVar 5)) (aNil))))
  (sSet 2 (mBin fdivD (oVar 2) (oVar 5)))) (sSeq (sSet 3 (mCallN 2 (pureF F_L_mixed) (aCons (mVar 3) (aCons (mB1 lenD (oVar 4)) (aNil)))))
  (sExpr (mMutL apD (oVar 4) (aCons (mBin modD (oE (mBin fdivD (oVar 3) (oE (mC (.int 61))))) (oVar 5)) (aNil)))))))
  (sRet (mMove 4)))))
def F_L_draw : Fn := runF B_L_draw 6

def B_L_cell : SM :=
  sSeq (sIf (tB (mBin ltD (oVar 1) (oE (mB1 lenD (oVar 0))))) (sRet (mIx (oVar 0) (oVar 1))) (sNil))
  (sSeq (sIf (tB (mBin eqF (oE (mB1 lenD (oVar 0))) (oE (mC (.int 0))))) (sRet (mBin mulD (oE (mC (.int 7919))) (oVar 1))) (sNil))
  (sRet (mBin addD (oE (mIx (oVar 0) (oE (mBin modD (oVar 1) (oE (mB1 lenD (oVar 0))))))) (oE (mBin mulD (oE (mC (.int 104729))) (oVar 1))))))
def F_L_cell : Fn := runF B_L_cell 2

def B_L_num : SM :=
  sRet (mAndV (mB1 (isiD "int") (oVar 0)) (mNotV (mB1 (isiD "bool") (oVar 0))))
def F_L_num : Fn := runF B_L_num 1

def B_L_same (f : Fn) : SM :=
  sSeq (sIf (tB (mBin isF (oVar 1) (oE (mC .non)))) (sRet (mBin isF (oVar 0) (oE (mC .non)))) (sNil))
  (sSeq (sIf (tE (mB1 (isiD "bool") (oVar 1))) (sRet (mAndV (mB1 (isiD "bool") (oVar 0)) (mBin eqF (oVar 0) (oVar 1)))) (sNil))
  (sSeq (sIf (tE (mB1 (isiD "int") (oVar 1))) (sRet (mAndV (mCallN 1 (pureF F_L_num) (aCons (mVar 0) (aNil))) (mBin eqF (oVar 0) (oVar 1)))) (sNil))
  (sSeq (sIf (tE (mB1 (isiD "str") (oVar 1))) (sRet (mAndV (mB1 (isiD "str") (oVar 0)) (mBin eqF (oVar 0) (oVar 1)))) (sNil))
  (sSeq (sIf (tOrM (tAndM (tE (mB1 (isiD "tuple") (oVar 1))) (tNotM (tE (mB1 (isiD "tuple") (oVar 0))))) (tAndM (tE (mB1 (isiD "list") (oVar 1))) (tNotM (tE (mB1 (isiD "list") (oVar 0)))))) (sRet (mC (.bl false))) (sNil))
  (sRet (mAndV (mBin eqF (oE (mB1 lenD (oVar 0))) (oE (mB1 lenD (oVar 1)))) (mB1 allD (oE (mComp (iR1 (aCons (mB1 lenD (oVar 1)) (aNil))) [2] (gNm 2) (tTrue) (mCallN 2 f (aCons (mIx (oVar 0) (oVar 2)) (aCons (mIx (oVar 1) (oVar 2)) (aNil)))))))))))))
def F_L_same : Nat → Fn
  | 0 => fun _ _ _ => .bad
  | n + 1 => runF (B_L_same (F_L_same n)) 3

def B_L_half_wins : SM :=
  sSeq (sSet 1 (mLst (aNil)))
  (sSeq (sFor (iR1 (aCons (mB1 lenD (oVar 0)) (aNil))) (gNm 2) (sSeq (sSet 3 (mB1 lenD (oE (mComp (iL (mVar 0)) [5] (gNm 5) (tB (mBin ltD (oVar 5) (oE (mIx (oVar 0) (oVar 2))))) (mVar 5)))))
  (sSeq (sSet 4 (mBin subD (oE (mB1 lenD (oE (mComp (iL (mVar 0)) [5] (gNm 5) (tB (mBin eqF (oVar 5) (oE (mIx (oVar 0) (oVar 2))))) (mVar 5))))) (oE (mC (.int 1)))))
  (sExpr (mMutL apD (oVar 1) (aCons (mBin addD (oE (mBin mulD (oE (mC (.int 2))) (oVar 3))) (oVar 4)) (aNil)))))))
  (sRet (mMove 1)))
def F_L_half_wins : Fn := runF B_L_half_wins 6

def B_L_score : SM :=
  sRet (mIx (oE (mLst (aCons (mBin subD (oE (mBin mulD (oE (mBin modD (oVar 0) (oE (mC (.int 41))))) (oE (mC (.int 10))))) (oE (mC (.int 200)))) (aCons (mBin modD (oVar 0) (oE (mC (.int 5)))) (aCons (mC (.int 9999)) (aCons (mNeg (mC (.int 9999))) (aCons (mBin subD (oE (mBin modD (oVar 0) (oE (mC (.int 19999))))) (oE (mC (.int 9999)))) (aCons (mC (.int 9998)) (aCons (mNeg (mC (.int 9998))) (aCons (mC (.int 0)) (aNil))))))))))) (oE (mBin modD (oVar 1) (oE (mC (.int 8))))))
def F_L_score : Fn := runF B_L_score 2

def B_law : SM :=
  sSeq (sFor (iR1 (aCons (mC (.int 6)) (aNil))) (gNm 1) (sSeq (sSet 2 (mCallN 2 (pureF F_L_draw) (aCons (mCallN 2 (pureF F_L_cell) (aCons (mVar 0) (aCons (mVar 1) (aNil)))) (aCons (mBin addD (oE (mLst (aCons (mC (.int 9)) (aNil)))) (oE (mBin mulD (oE (mLst (aCons (mC (.int 20000)) (aCons (mC (.int 8)) (aNil))))) (oE (mC (.int 9)))))) (aNil)))))
  (sSeq (sSet 3 (mComp (iR1 (aCons (mBin addD (oE (mIx (oVar 2) (oE (mC (.int 0))))) (oE (mC (.int 1)))) (aNil))) [7] (gNm 7) (tTrue) (mCallN 2 (pureF F_L_score) (aCons (mIx (oVar 2) (oE (mBin addD (oE (mC (.int 1))) (oE (mBin mulD (oE (mC (.int 2))) (oVar 7)))))) (aCons (mIx (oVar 2) (oE (mBin addD (oE (mC (.int 2))) (oE (mBin mulD (oE (mC (.int 2))) (oVar 7)))))) (aNil))))))
  (sSeq (sSet 4 (mB1 listD (oVar 3)))
  (sSeq (sSet 5 (mCallN 1 (pureF F_L_half_wins) (aCons (mVar 3) (aNil))))
  (sSeq (sSet 6 (mCallN 1 (pureF F_half_wins) (aCons (mVar 4) (aNil))))
  (sSeq (sIf (tOrM (tNotM (tE (mBack (mCallN 2 (pureF (F_L_same 8)) (aCons (mVar 6) (aCons (mVar 5) (aNil))))))) (tOrM (tB (mBin neF (oVar 4) (oVar 3))) (tB (mBin neF (oE (mB1 sumD (oVar 6))) (oE (mBin mulD (oE (mB1 lenD (oVar 3))) (oE (mBin subD (oE (mB1 lenD (oVar 3))) (oE (mC (.int 1))))))))))) (sRet (mC (.bl false))) (sNil))
  (sSeq (sExpr (mMutL apD (oVar 6) (aCons (mC (.int 0)) (aNil))))
  (sIf (tOrM (tB (mBin neF (oE (mCallN 1 (pureF F_half_wins) (aCons (mVar 4) (aNil)))) (oVar 5))) (tB (mBin neF (oE (mCallN 1 (pureF F_half_wins) (aCons (mB1 revD (oVar 3)) (aNil)))) (oE (mB1 revD (oVar 5)))))) (sRet (mC (.bl false))) (sNil))))))))))
  (sRet (mC (.bl true)))
def F_law : Fn := runF B_law 8


open Ab.Q (L hw w sw)
theorem q_cell : F_L_cell = Ab.Q.F_L_cell := rfl
theorem q_draw : F_L_draw = Ab.Q.F_L_draw := rfl
theorem q_hw : F_half_wins = Ab.Q.F_half_wins := rfl
theorem q_lhw : F_L_half_wins = Ab.Q.F_L_half_wins := rfl
theorem q_score : F_L_score = Ab.Q.F_L_score := rfl
def S_A : SM := (sSet 2 (mCallN 2 (pureF F_L_draw) (aCons (mCallN 2 (pureF F_L_cell) (aCons (mVar 0) (aCons (mVar 1) (aNil)))) (aCons (mBin addD (oE (mLst (aCons (mC (.int 9)) (aNil)))) (oE (mBin mulD (oE (mLst (aCons (mC (.int 20000)) (aCons (mC (.int 8)) (aNil))))) (oE (mC (.int 9)))))) (aNil)))))
def S_B : SM := (sSet 3 (mComp (iR1 (aCons (mBin addD (oE (mIx (oVar 2) (oE (mC (.int 0))))) (oE (mC (.int 1)))) (aNil))) [7] (gNm 7) (Ab.tTrue) (mCallN 2 (pureF F_L_score) (aCons (mIx (oVar 2) (oE (mBin addD (oE (mC (.int 1))) (oE (mBin mulD (oE (mC (.int 2))) (oVar 7)))))) (aCons (mIx (oVar 2) (oE (mBin addD (oE (mC (.int 2))) (oE (mBin mulD (oE (mC (.int 2))) (oVar 7)))))) (aNil))))))
def S_C : SM := (sSet 4 (mB1 listD (oVar 3)))
def S_D : SM := (sSet 5 (mCallN 1 (pureF F_L_half_wins) (aCons (mVar 3) (aNil))))
def S_E : SM := (sSet 6 (mCallN 1 (pureF F_half_wins) (aCons (mVar 4) (aNil))))
def S_F : SM := (sIf (Ab.tOrM (Ab.tNotM (tE (mBack (mCallN 2 (pureF (F_L_same 8)) (aCons (mVar 6) (aCons (mVar 5) (aNil))))))) (Ab.tOrM (Ab.tB (mBin neF (oVar 4) (oVar 3))) (Ab.tB (mBin neF (oE (mB1 sumD (oVar 6))) (oE (mBin mulD (oE (mB1 lenD (oVar 3))) (oE (mBin subD (oE (mB1 lenD (oVar 3))) (oE (mC (.int 1))))))))))) (sRet (mC (.bl false))) (sNil))
def S_G : SM := (sExpr (mMutL apD (oVar 6) (aCons (mC (.int 0)) (aNil))))
def S_H : SM := (sIf (Ab.tOrM (Ab.tB (mBin neF (oE (mCallN 1 (pureF F_half_wins) (aCons (mVar 4) (aNil)))) (oVar 5))) (Ab.tB (mBin neF (oE (mCallN 1 (pureF F_half_wins) (aCons (mB1 revD (oVar 3)) (aNil)))) (oE (mB1 revD (oVar 5)))))) (sRet (mC (.bl false))) (sNil))

def S_body : SM := sSeq S_A (sSeq S_B (sSeq S_C (sSeq S_D (sSeq S_E (sSeq S_F (sSeq S_G (S_H)))))))
theorem B_law_eq : B_law = sSeq (sFor (iR1 (aCons (mC (.int 6)) (aNil))) (gNm 1) S_body) (sRet (mC (.bl true))) := rfl
theorem backE {m : EM} {st st1 st2 : AS} {r : Ab.R} (h1 : st.sg.isEmpty = true) (h2 : frzN st st.sl.length = st1) (h3 : st1.sl.all noOwn = true) (h4 : m st1 = .val r st2) (h5 : (!r.own && flatD r.d) = true) : mBack m st = .val r st := by
  unfold mBack
  rw [h2, h1, h3, h4]
  simp only [Bool.and_self, if_true, h5]
def B_same (Cm : EM) : SM := 
  sSeq (sIf (Ab.tB (mBin isF (oVar 1) (oE (mC .non)))) (sRet (mBin isF (oVar 0) (oE (mC .non)))) (sNil))
  (sSeq (sIf (tE (mB1 (isiD "bool") (oVar 1))) (sRet (mAndV (mB1 (isiD "bool") (oVar 0)) (mBin eqF (oVar 0) (oVar 1)))) (sNil))
  (sSeq (sIf (tE (mB1 (isiD "int") (oVar 1))) (sRet (mAndV (mCallN 1 (pureF F_L_num) (aCons (mVar 0) (aNil))) (mBin eqF (oVar 0) (oVar 1)))) (sNil))
  (sSeq (sIf (tE (mB1 (isiD "str") (oVar 1))) (sRet (mAndV (mB1 (isiD "str") (oVar 0)) (mBin eqF (oVar 0) (oVar 1)))) (sNil))
  (sSeq (sIf (Ab.tOrM (tAndM (tE (mB1 (isiD "tuple") (oVar 1))) (Ab.tNotM (tE (mB1 (isiD "tuple") (oVar 0))))) (tAndM (tE (mB1 (isiD "list") (oVar 1))) (Ab.tNotM (tE (mB1 (isiD "list") (oVar 0)))))) (sRet (mC (.bl false))) (sNil))
  (sRet (mAndV (mBin eqF (oE (mB1 lenD (oVar 0))) (oE (mB1 lenD (oVar 1)))) (mB1 allD (oE Cm))))))))

def C_same (f : Fn) : EM := (mComp (iR1 (aCons (mB1 lenD (oVar 1)) (aNil))) [2] (gNm 2) (Ab.tTrue) (mCallN 2 f (aCons (mIx (oVar 0) (oVar 2)) (aCons (mIx (oVar 1) (oVar 2)) (aNil)))))
theorem B_same_eq (f : Fn) : B_L_same f = B_same (C_same f) := rfl
theorem same_int (b : Nat) (sg : List Cell) (x : Int) : F_L_same 7 b [.int x, .int x] sg = .val ⟨.bl true, false⟩ sg := by
  have n1 : isF (.int x) .non = rv (.bl false) := by kernel_rfl
  have t1 : isiD "bool" (.int x) = rv (.bl false) := by kernel_rfl
  have t2 : isiD "int" (.int x) = rv (.bl true) := by kernel_rfl
  have t3 : F_L_num sg.length [.int x] sg = .val ⟨.bl true, false⟩ sg := by kernel_rfl
  simp only [F_L_same, B_L_same, n1, t1, t2, t3, mAndV, mB, Ab.Q.eqInt, truD, runF, startS, sRet, sSeq, sSet, sIf, sNil, sExpr, mBin, mIf, mVar, mMove, oE, oVar, mC, mIx, mLst, mTup, mNeg, aNil, aCons, Ab.tB, tE, Bool.and_self, Bool.true_and, Bool.and_true, mCallN, callF, pureF, refsLt, refsLts, mB1, AS.res, AS.view, bind_val, intF, mulD, addD, lenD, absD, modOk, rv, AS.put, List.map, List.append, List.replicate, List.length, List.cons_append, List.nil_append, List.getElem?_cons_zero, List.getElem?_cons_succ, Option.bind_some, if_true, if_false, List.set, decide_true, decide_false, reduceIte, Int.reduceLT, Bool.false_eq_true, Nat.reduceAdd, Nat.reduceSub, Nat.reduceLeDiff, eq_self, Int.reduceEq, Bool.not_true, Bool.not_false]
theorem run_same (Cm : EM) (b : Nat) (sg : List Cell) (xs : List Int) (ds : List D) (hC : Cm ⟨[some ⟨L xs, false⟩, some ⟨L xs, false⟩, none], sg, b⟩ = .val ⟨.lst (ds.map fun _ => .bl true), true⟩ ⟨[some ⟨L xs, false⟩, some ⟨L xs, false⟩, none], sg, b⟩) : runF (B_same Cm) 3 b [L xs, L xs] sg = .val ⟨.bl true, false⟩ sg := by
  have n1 : isF (L xs) .non = rv (.bl false) := by kernel_rfl
  have t1 : isiD "bool" (L xs) = rv (.bl false) := by kernel_rfl
  have t2 : isiD "int" (L xs) = rv (.bl false) := by kernel_rfl
  have t3 : isiD "str" (L xs) = rv (.bl false) := by kernel_rfl
  have t4 : isiD "tuple" (L xs) = rv (.bl false) := by kernel_rfl
  have t5 : isiD "list" (L xs) = rv (.bl true) := by kernel_rfl
  simp only [B_same, n1, t1, t2, t3, t4, t5, mAndV, mB, Ab.Q.eqInt, Ab.tOrM, Ab.tAndM, Ab.tNotM, truD, hC, Ab.Q.all_true, runF, startS, sRet, sSeq, sSet, sIf, sNil, sExpr, mBin, mIf, mVar, mMove, oE, oVar, mC, mIx, mLst, mTup, mNeg, aNil, aCons, Ab.tB, tE, Bool.and_self, Bool.true_and, Bool.and_true, mCallN, callF, pureF, refsLt, refsLts, mB1, AS.res, AS.view, bind_val, intF, mulD, addD, lenD, absD, modOk, rv, AS.put, List.map, List.append, List.replicate, List.length, List.cons_append, List.nil_append, List.getElem?_cons_zero, List.getElem?_cons_succ, Option.bind_some, if_true, if_false, List.set, decide_true, decide_false, reduceIte, Int.reduceLT, Bool.false_eq_true, Nat.reduceAdd, Nat.reduceSub, Nat.reduceLeDiff, eq_self, Int.reduceEq, Bool.not_true, Bool.not_false]
theorem sameL (b : Nat) (sg : List Cell) (xs : List Int) (h : xs.length < 400) : F_L_same 8 b [L xs, L xs] sg = .val ⟨.bl true, false⟩ sg := by
  have ii : iR1 (aCons (mB1 lenD (oVar 1)) (aNil)) ⟨[some ⟨L xs, false⟩, some ⟨L xs, false⟩, none], sg, b⟩ = .val ⟨(List.range' 0 xs.length).map fun i => .int (0 + (i : Nat)), okT⟩ ⟨[some ⟨L xs, false⟩, some ⟨L xs, false⟩, none], sg, b⟩ := by
    refine Ab.Q.iR1_eq ?_ h
    simp only [runF, startS, sRet, sSeq, sSet, sIf, sNil, sExpr, mBin, mIf, mVar, mMove, oE, oVar, mC, mIx, mLst, mTup, mNeg, aNil, aCons, Ab.tB, tE, Bool.and_self, Bool.true_and, Bool.and_true, mCallN, callF, pureF, refsLt, refsLts, mB1, AS.res, AS.view, bind_val, intF, mulD, addD, lenD, absD, modOk, rv, AS.put, List.map, List.append, List.replicate, List.length, List.cons_append, List.nil_append, List.getElem?_cons_zero, List.getElem?_cons_succ, Option.bind_some, if_true, if_false, List.set, decide_true, decide_false, reduceIte, Int.reduceLT, Bool.false_eq_true, Nat.reduceAdd, Nat.reduceSub, Nat.reduceLeDiff, eq_self, Int.reduceEq, Bool.not_true, Bool.not_false, List.length_map]
  have c := Ab.Q.mCompM 2 _ (mCallN 2 (F_L_same 7) (aCons (mIx (oVar 0) (oVar 2)) (aCons (mIx (oVar 1) (oVar 2)) (aNil)))) (fun _ => .bl true) _ _ _ ii rfl rfl (fun _ => rfl) (fun d hd => by
      obtain ⟨i, hi, rfl⟩ := List.mem_map.mp hd
      have hi9 : i < xs.length := by
        have := List.mem_range'_1.mp hi
        omega
      have e1 := Ab.Q.ixMap .int xs i hi9
      have e2 := same_int b sg xs[i]
      exact ⟨false, by simp only [e1, e2, runF, startS, sRet, sSeq, sSet, sIf, sNil, sExpr, mBin, mIf, mVar, mMove, oE, oVar, mC, mIx, mLst, mTup, mNeg, aNil, aCons, Ab.tB, tE, Bool.and_self, Bool.true_and, Bool.and_true, mCallN, callF, pureF, refsLt, refsLts, mB1, AS.res, AS.view, bind_val, intF, mulD, addD, lenD, absD, modOk, rv, AS.put, List.map, List.append, List.replicate, List.length, List.cons_append, List.nil_append, List.getElem?_cons_zero, List.getElem?_cons_succ, Option.bind_some, if_true, if_false, List.set, decide_true, decide_false, reduceIte, Int.reduceLT, Bool.false_eq_true, Nat.reduceAdd, Nat.reduceSub, Nat.reduceLeDiff, eq_self, Int.reduceEq, Bool.not_true, Bool.not_false]⟩) (by rw [List.length_map, List.length_range']; omega)
  have r := run_same (C_same (F_L_same 7)) b sg xs _ c
  exact r
def S2 (a c : List Int) : Int := (a.map fun s => sw s c).sum
theorem w_sym (a c : Int) : w a c + w c a = 2 := by
  unfold w
  split <;> split <;> split <;> split <;> omega
theorem S2_cons (y : Int) (c : List Int) : ∀ a : List Int, S2 a (y :: c) + sw y a = 2 * a.length + S2 a c
  | [] => by simp [S2, sw]
  | x :: a => by
    have ih := S2_cons y c a
    have s := w_sym x y
    have e1 : S2 (x :: a) (y :: c) = w x y + sw x c + S2 a (y :: c) := by simp [S2, Ab.Q.sw_cons]
    have e2 : S2 (x :: a) c = sw x c + S2 a c := by simp [S2]
    rw [e1, e2, Ab.Q.sw_cons, List.length_cons]
    omega
theorem S2_self : ∀ xs : List Int, S2 xs xs = (xs.length : Int) * xs.length
  | [] => rfl
  | y :: ys => by
    have ih := S2_self ys
    have c := S2_cons y ys ys
    have e1 : S2 (y :: ys) (y :: ys) = 1 + sw y ys + S2 ys (y :: ys) := by simp [S2, Ab.Q.sw_cons, Ab.Q.w_self]
    have e3 : (((y :: ys).length : Nat) : Int) = (ys.length : Int) + 1 := by rw [List.length_cons]; omega
    rw [e1, e3, Int.mul_add, Int.add_mul]
    omega
theorem sum_hw (xs : List Int) : (hw xs).sum = (xs.length : Int) * ((xs.length : Int) - 1) := by
  have g : ∀ (a c : List Int), (a.map fun s => sw s c - 1).sum = S2 a c - a.length := by
    intro a c
    induction a with
    | nil => rfl
    | cons x a ih =>
      have e2 : S2 (x :: a) c = sw x c + S2 a c := by simp [S2]
      rw [List.map_cons, List.sum_cons, ih, e2, List.length_cons]
      omega
  have := g xs xs
  rw [S2_self] at this
  rw [Int.mul_sub, Int.mul_one]
  exact this
def lims : List Int := [9, 20000, 8, 20000, 8, 20000, 8, 20000, 8, 20000, 8, 20000, 8, 20000, 8, 20000, 8, 20000, 8]
theorem A_eq (ns : List Int) (k : Nat) (hk : k < 1000) (s2 s3 s4 s5 s6 : Option Ab.R) : ∃ (r0 : Int) (rs : List Int), 0 ≤ r0 ∧ r0 < 9 ∧ rs.length = 18 ∧ S_A ⟨[some ⟨.scr ns, false⟩, some ⟨.int k, false⟩, s2, s3, s4, s5, s6, none], [], 0⟩ = .val .nx ⟨[some ⟨.scr ns, false⟩, some ⟨.int k, false⟩, some ⟨L (r0 :: rs), true⟩, s3, s4, s5, s6, none], [], 0⟩ := by
  obtain ⟨c, hc⟩ := Ab.Q.cell_eq 0 [] ns k hk
  obtain ⟨rs, hr, hd⟩ := Ab.Q.draw_eq 0 [] c lims (by decide) (by decide)
  have hlen : ∀ (a b : List Int), Ab.Q.InR a b → a.length = b.length := by
    intro a
    induction a with
    | nil => intro b h; cases b with
      | nil => rfl
      | cons _ _ => exact h.elim
    | cons x xs ih => intro b h; cases b with
      | nil => exact h.elim
      | cons y ys => rw [List.length_cons, List.length_cons, ih ys h.2]
  match rs, hr with
  | r0 :: rs, ⟨⟨a0, b0⟩, hr⟩ =>
    refine ⟨r0, rs, a0, b0, hlen _ _ hr, ?_⟩
    have ml : ∀ st : AS, mBin addD (oE (mLst (aCons (mC (.int 9)) (aNil)))) (oE (mBin mulD (oE (mLst (aCons (mC (.int 20000)) (aCons (mC (.int 8)) (aNil))))) (oE (mC (.int 9))))) st = .val ⟨L lims, true⟩ st := fun st => by kernel_rfl
    have hd : Ab.Q.F_L_draw 0 [.int c, L lims] [] = .val ⟨L (r0 :: rs), true⟩ [] := hd
    unfold S_A
    refine Ab.Q.set_val (st1 := ⟨[some ⟨.scr ns, false⟩, some ⟨.int k, false⟩, s2, s3, s4, s5, s6, none], [], 0⟩) (r := ⟨L (r0 :: rs), true⟩) ?_
    simp only [mCallN, aCons, ml]
    simp only [q_cell, q_draw, hc, hd, L, Ab.Q.refs_int, runF, startS, sRet, sSeq, sSet, sIf, sNil, sExpr, mBin, mIf, mVar, mMove, oE, oVar, mC, mIx, mLst, mTup, mNeg, aNil, aCons, Ab.tB, tE, Bool.and_self, Bool.true_and, Bool.and_true, mCallN, callF, pureF, refsLt, refsLts, mB1, AS.res, AS.view, bind_val, intF, mulD, addD, lenD, absD, modOk, rv, AS.put, List.map, List.append, List.replicate, List.length, List.cons_append, List.nil_append, List.getElem?_cons_zero, List.getElem?_cons_succ, Option.bind_some, if_true, if_false, List.set, decide_true, decide_false, reduceIte, Int.reduceLT, Bool.false_eq_true, Nat.reduceAdd, Nat.reduceSub, Nat.reduceLeDiff, eq_self, Int.reduceEq, Bool.not_true, Bool.not_false]
def scf (g : Nat → Int) : D → D
  | .int i => .int (g i.toNat)
  | _ => .non
theorem B_eq (ns : List Int) (k : Int) (s3 s4 s5 s6 : Option Ab.R) (r0 : Int) (rs : List Int) (h0 : 0 ≤ r0) (h1 : r0 < 9) (hl : rs.length = 18) : ∃ ss : List Int, ss.length = (r0 + 1).toNat ∧ S_B ⟨[some ⟨.scr ns, false⟩, some ⟨.int k, false⟩, some ⟨L (r0 :: rs), true⟩, s3, s4, s5, s6, none], [], 0⟩ =
    .val .nx ⟨[some ⟨.scr ns, false⟩, some ⟨.int k, false⟩, some ⟨L (r0 :: rs), true⟩, some ⟨L ss, true⟩, s4, s5, s6, none], [], 0⟩ := by
  have pick : ∀ i : Nat, ∃ v, i < 9 → F_L_score 0 [(ixD (L (r0 :: rs)) (.int (1 + 2 * (0 + (i : Int))))).elim .non (·.d), (ixD (L (r0 :: rs)) (.int (2 + 2 * (0 + (i : Int))))).elim .non (·.d)] [] = .val ⟨.int v, false⟩ [] := by
    intro i
    by_cases hi : i < 9
    · obtain ⟨x, hx⟩ := Ab.Q.ixAny (r0 :: rs) (1 + 2 * (0 + (i : Int))) (by omega) (by simp only [List.length_cons, hl]; omega)
      obtain ⟨y, hy⟩ := Ab.Q.ixAny (r0 :: rs) (2 + 2 * (0 + (i : Int))) (by omega) (by simp only [List.length_cons, hl]; omega)
      obtain ⟨v, hv⟩ := Ab.Q.score_eq 0 [] x y
      rw [hx, hy]
      exact ⟨v, fun _ => hv⟩
    · exact ⟨0, fun h => absurd h hi⟩
  obtain ⟨g, hg⟩ := Classical.axiomOfChoice pick
  refine ⟨(List.range' 0 (r0 + 1).toNat).map g, by rw [List.length_map, List.length_range'], ?_⟩
  have hst : ∀ st1 : AS, S_B = sSet 3 (mComp (iR1 (aCons (mBin addD (oE (mIx (oVar 2) (oE (mC (.int 0))))) (oE (mC (.int 1)))) (aNil))) [7] (gNm 7) Ab.tTrue (mCallN 2 (pureF F_L_score) (aCons (mIx (oVar 2) (oE (mBin addD (oE (mC (.int 1))) (oE (mBin mulD (oE (mC (.int 2))) (oVar 7)))))) (aCons (mIx (oVar 2) (oE (mBin addD (oE (mC (.int 2))) (oE (mBin mulD (oE (mC (.int 2))) (oVar 7)))))) (aNil))))) := fun _ => rfl
  rw [hst ⟨[], [], 0⟩]
  have i0 : ixD (L (r0 :: rs)) (.int 0) = rv (.int r0) := by
    have := Ab.Q.ixMap .int (r0 :: rs) 0 (by simp only [List.length_cons]; omega)
    exact this
  have ii : iR1 (aCons (mBin addD (oE (mIx (oVar 2) (oE (mC (.int 0))))) (oE (mC (.int 1)))) (aNil)) ⟨[some ⟨.scr ns, false⟩, some ⟨.int k, false⟩, some ⟨L (r0 :: rs), true⟩, s3, s4, s5, s6, none], [], 0⟩ = .val ⟨(List.range' 0 (r0 + 1).toNat).map fun i => .int (0 + (i : Nat)), okT⟩ ⟨[some ⟨.scr ns, false⟩, some ⟨.int k, false⟩, some ⟨L (r0 :: rs), true⟩, s3, s4, s5, s6, none], [], 0⟩ := by
    refine Ab.Q.iR1_eq ?_ (by omega)
    have e : (((r0 + 1).toNat : Nat) : Int) = r0 + 1 := by omega
    rw [e]
    simp only [i0, runF, startS, sRet, sSeq, sSet, sIf, sNil, sExpr, mBin, mIf, mVar, mMove, oE, oVar, mC, mIx, mLst, mTup, mNeg, aNil, aCons, Ab.tB, tE, Bool.and_self, Bool.true_and, Bool.and_true, mCallN, callF, pureF, refsLt, refsLts, mB1, AS.res, AS.view, bind_val, intF, mulD, addD, lenD, absD, modOk, rv, AS.put, List.map, List.append, List.replicate, List.length, List.cons_append, List.nil_append, List.getElem?_cons_zero, List.getElem?_cons_succ, Option.bind_some, if_true, if_false, List.set, decide_true, decide_false, reduceIte, Int.reduceLT, Bool.false_eq_true, Nat.reduceAdd, Nat.reduceSub, Nat.reduceLeDiff, eq_self, Int.reduceEq, Bool.not_true, Bool.not_false]
  have c := Ab.Q.mCompM 7 _ (mCallN 2 (pureF F_L_score) (aCons (mIx (oVar 2) (oE (mBin addD (oE (mC (.int 1))) (oE (mBin mulD (oE (mC (.int 2))) (oVar 7)))))) (aCons (mIx (oVar 2) (oE (mBin addD (oE (mC (.int 2))) (oE (mBin mulD (oE (mC (.int 2))) (oVar 7)))))) (aNil)))) (scf g) _ _ _ ii rfl rfl (fun _ => rfl) (fun d hd => by
      obtain ⟨i, hi, rfl⟩ := List.mem_map.mp hd
      have hi9 : i < 9 := by
        have := List.mem_range'_1.mp hi
        omega
      have hs := hg i hi9
      obtain ⟨x, hx⟩ := Ab.Q.ixAny (r0 :: rs) (1 + 2 * (0 + (i : Int))) (by omega) (by simp only [List.length_cons, hl]; omega)
      obtain ⟨y, hy⟩ := Ab.Q.ixAny (r0 :: rs) (2 + 2 * (0 + (i : Int))) (by omega) (by simp only [List.length_cons, hl]; omega)
      rw [hx, hy] at hs
      have hs : F_L_score 0 [.int x, .int y] [] = .val ⟨.int (g i), false⟩ [] := hs
      have m2 : mulOk 2 (0 + (i : Int)) = true := Ab.Q.mulL (by decide)
      have tn : (0 + (i : Int)).toNat = i := by omega
      exact ⟨false, by simp only [hx, hy, hs, m2, tn, scf, runF, startS, sRet, sSeq, sSet, sIf, sNil, sExpr, mBin, mIf, mVar, mMove, oE, oVar, mC, mIx, mLst, mTup, mNeg, aNil, aCons, Ab.tB, tE, Bool.and_self, Bool.true_and, Bool.and_true, mCallN, callF, pureF, refsLt, refsLts, mB1, AS.res, AS.view, bind_val, intF, mulD, addD, lenD, absD, modOk, rv, AS.put, List.map, List.append, List.replicate, List.length, List.cons_append, List.nil_append, List.getElem?_cons_zero, List.getElem?_cons_succ, Option.bind_some, if_true, if_false, List.set, decide_true, decide_false, reduceIte, Int.reduceLT, Bool.false_eq_true, Nat.reduceAdd, Nat.reduceSub, Nat.reduceLeDiff, eq_self, Int.reduceEq, Bool.not_true, Bool.not_false]⟩) (by rw [List.length_map, List.length_range']; omega)
  have fin : ((List.range' 0 (r0 + 1).toNat).map fun i => D.int (0 + (i : Nat))).map (scf g) = ((List.range' 0 (r0 + 1).toNat).map g).map .int := by
    rw [List.map_map, List.map_map]
    refine List.map_congr_left fun i _ => ?_
    show D.int (g (0 + (i : Int)).toNat) = D.int (g i)
    rw [show (0 + (i : Int)).toNat = i by omega]
  rw [fin] at c
  exact Ab.Q.set_val c
theorem tneq {m : EM} {j : Nat} {st st1 : AS} {ds es : List D} {o o2 : Bool} (h : m st = .val ⟨.lst ds, o⟩ st1) (hj : st1.sl[j]? = some (some ⟨.lst es, o2⟩)) (hF : neF (.lst ds) (.lst es) = rv (.bl false)) : Ab.tB (mBin neF (oE m) (oVar j)) st = .val false st1 := by
  unfold Ab.tB mBin oE oVar
  rw [h]
  simp only [bind_val, hj, AS.res, AS.view, Option.bind_some, hF]

theorem body_eq (ns : List Int) (k : Nat) (hk : k < 1000) (s2 s3 s4 s5 s6 : Option Ab.R) : ∃ t2 t3 t4 t5 t6, S_body ⟨[some ⟨.scr ns, false⟩, some ⟨.int k, false⟩, s2, s3, s4, s5, s6, none], [], 0⟩ = .val .nx ⟨[some ⟨.scr ns, false⟩, some ⟨.int k, false⟩, t2, t3, t4, t5, t6, none], [], 0⟩ := by
  obtain ⟨r0, rs, h0, h1, hl, eA⟩ := A_eq ns k hk s2 s3 s4 s5 s6
  obtain ⟨ss, hs, eB⟩ := B_eq ns k s3 s4 s5 s6 r0 rs h0 h1 hl
  have n9 : ss.length ≤ 9 := by omega
  have eC : S_C ⟨[some ⟨.scr ns, false⟩, some ⟨.int k, false⟩, some ⟨L (r0 :: rs), true⟩, some ⟨L ss, true⟩, s4, s5, s6, none], [], 0⟩ = .val .nx ⟨[some ⟨.scr ns, false⟩, some ⟨.int k, false⟩, some ⟨L (r0 :: rs), true⟩, some ⟨L ss, true⟩, some ⟨L ss, true⟩, s5, s6, none], [], 0⟩ := by
    simp only [S_C, listD, runF, startS, sRet, sSeq, sSet, sIf, sNil, sExpr, mBin, mIf, mVar, mMove, oE, oVar, mC, mIx, mLst, mTup, mNeg, aNil, aCons, Ab.tB, tE, Bool.and_self, Bool.true_and, Bool.and_true, mCallN, callF, pureF, refsLt, refsLts, mB1, AS.res, AS.view, bind_val, intF, mulD, addD, lenD, absD, modOk, rv, AS.put, List.map, List.append, List.replicate, List.length, List.cons_append, List.nil_append, List.getElem?_cons_zero, List.getElem?_cons_succ, Option.bind_some, if_true, if_false, List.set, decide_true, decide_false, reduceIte, Int.reduceLT, Bool.false_eq_true, Nat.reduceAdd, Nat.reduceSub, Nat.reduceLeDiff, eq_self, Int.reduceEq, Bool.not_true, Bool.not_false]
  have eD : S_D ⟨[some ⟨.scr ns, false⟩, some ⟨.int k, false⟩, some ⟨L (r0 :: rs), true⟩, some ⟨L ss, true⟩, some ⟨L ss, true⟩, s5, s6, none], [], 0⟩ = .val .nx ⟨[some ⟨.scr ns, false⟩, some ⟨.int k, false⟩, some ⟨L (r0 :: rs), true⟩, some ⟨L ss, false⟩, some ⟨L ss, true⟩, some ⟨L (hw ss), true⟩, s6, none], [], 0⟩ :=
    Ab.Q.set_val (Ab.Q.call1 (st1 := ⟨[some ⟨.scr ns, false⟩, some ⟨.int k, false⟩, some ⟨L (r0 :: rs), true⟩, some ⟨L ss, false⟩, some ⟨L ss, true⟩, s5, s6, none], [], 0⟩) rfl (Ab.Q.L_half_wins_eq _ _ ss (by omega)) (by simp only [refsLt]; exact Ab.Q.refs_int _ _))
  have eE : S_E ⟨[some ⟨.scr ns, false⟩, some ⟨.int k, false⟩, some ⟨L (r0 :: rs), true⟩, some ⟨L ss, false⟩, some ⟨L ss, true⟩, some ⟨L (hw ss), true⟩, s6, none], [], 0⟩ = .val .nx ⟨[some ⟨.scr ns, false⟩, some ⟨.int k, false⟩, some ⟨L (r0 :: rs), true⟩, some ⟨L ss, false⟩, some ⟨L ss, false⟩, some ⟨L (hw ss), true⟩, some ⟨L (hw ss), true⟩, none], [], 0⟩ :=
    Ab.Q.set_val (Ab.Q.call1 (st1 := ⟨[some ⟨.scr ns, false⟩, some ⟨.int k, false⟩, some ⟨L (r0 :: rs), true⟩, some ⟨L ss, false⟩, some ⟨L ss, false⟩, some ⟨L (hw ss), true⟩, s6, none], [], 0⟩) rfl (Ab.Q.half_wins_eq _ _ ss (by omega)) (by simp only [refsLt]; exact Ab.Q.refs_int _ _))
  have nl := Ab.Q.neL ss
  have hb : mBack (mCallN 2 (pureF (F_L_same 8)) (aCons (mVar 6) (aCons (mVar 5) (aNil)))) ⟨[some ⟨.scr ns, false⟩, some ⟨.int k, false⟩, some ⟨L (r0 :: rs), true⟩, some ⟨L ss, false⟩, some ⟨L ss, false⟩, some ⟨L (hw ss), true⟩, some ⟨L (hw ss), true⟩, none], [], 0⟩ = .val ⟨.bl true, false⟩ ⟨[some ⟨.scr ns, false⟩, some ⟨.int k, false⟩, some ⟨L (r0 :: rs), true⟩, some ⟨L ss, false⟩, some ⟨L ss, false⟩, some ⟨L (hw ss), true⟩, some ⟨L (hw ss), true⟩, none], [], 0⟩ :=
    backE (st1 := ⟨[some ⟨.scr ns, false⟩, some ⟨.int k, false⟩, some ⟨L (r0 :: rs), false⟩, some ⟨L ss, false⟩, some ⟨L ss, false⟩, some ⟨L (hw ss), false⟩, some ⟨L (hw ss), false⟩, none], [], 0⟩) rfl rfl rfl (Ab.Q.call2 (st1 := ⟨[some ⟨.scr ns, false⟩, some ⟨.int k, false⟩, some ⟨L (r0 :: rs), false⟩, some ⟨L ss, false⟩, some ⟨L ss, false⟩, some ⟨L (hw ss), false⟩, some ⟨L (hw ss), false⟩, none], [], 0⟩) (st2 := ⟨[some ⟨.scr ns, false⟩, some ⟨.int k, false⟩, some ⟨L (r0 :: rs), false⟩, some ⟨L ss, false⟩, some ⟨L ss, false⟩, some ⟨L (hw ss), false⟩, some ⟨L (hw ss), false⟩, none], [], 0⟩) rfl rfl (sameL _ _ (hw ss) (by rw [Ab.Q.hw_length]; omega)) rfl) rfl
  have sm : sumD (L (hw ss)) = rv (.int ((ss.length : Int) * ((ss.length : Int) - 1))) := by
    simp only [sumD, Ab.Q.intsD_map, Option.map_some, sum_hw]
  have mk : mulOk (ss.length : Int) ((ss.length : Int) - 1) = true := Ab.Q.mulL (by omega)
  have eF : S_F ⟨[some ⟨.scr ns, false⟩, some ⟨.int k, false⟩, some ⟨L (r0 :: rs), true⟩, some ⟨L ss, false⟩, some ⟨L ss, false⟩, some ⟨L (hw ss), true⟩, some ⟨L (hw ss), true⟩, none], [], 0⟩ = .val .nx ⟨[some ⟨.scr ns, false⟩, some ⟨.int k, false⟩, some ⟨L (r0 :: rs), true⟩, some ⟨L ss, false⟩, some ⟨L ss, false⟩, some ⟨L (hw ss), true⟩, some ⟨L (hw ss), true⟩, none], [], 0⟩ := by
    simp only [S_F, hb, Ab.tOrM, Ab.tNotM, truD, nl, sm, mk, Ab.Q.neInt, List.length_map, runF, startS, sRet, sSeq, sSet, sIf, sNil, sExpr, mBin, mIf, mVar, mMove, oE, oVar, mC, mIx, mLst, mTup, mNeg, aNil, aCons, Ab.tB, tE, Bool.and_self, Bool.true_and, Bool.and_true, mCallN, callF, pureF, refsLt, refsLts, mB1, AS.res, AS.view, bind_val, intF, mulD, addD, lenD, absD, modOk, rv, AS.put, List.map, List.append, List.replicate, List.length, List.cons_append, List.nil_append, List.getElem?_cons_zero, List.getElem?_cons_succ, Option.bind_some, if_true, if_false, List.set, decide_true, decide_false, reduceIte, Int.reduceLT, Bool.false_eq_true, Nat.reduceAdd, Nat.reduceSub, Nat.reduceLeDiff, eq_self, Int.reduceEq, Bool.not_true, Bool.not_false]
  have pl : ((hw ss).map D.int).length < LIM := by
    rw [List.length_map, Ab.Q.hw_length]
    unfold LIM
    omega
  have eG : S_G ⟨[some ⟨.scr ns, false⟩, some ⟨.int k, false⟩, some ⟨L (r0 :: rs), true⟩, some ⟨L ss, false⟩, some ⟨L ss, false⟩, some ⟨L (hw ss), true⟩, some ⟨L (hw ss), true⟩, none], [], 0⟩ = .val .nx ⟨[some ⟨.scr ns, false⟩, some ⟨.int k, false⟩, some ⟨L (r0 :: rs), true⟩, some ⟨L ss, false⟩, some ⟨L ss, false⟩, some ⟨L (hw ss), true⟩, some ⟨.lst ((hw ss).map D.int ++ [.int 0]), true⟩, none], [], 0⟩ := by
    simp only [S_G, pl, mMutL, apD, kindL, locOf, AS.at_, AS.setAt, toCell, ofCell, mutO, mutS, okAt, Option.isSome_some, runF, startS, sRet, sSeq, sSet, sIf, sNil, sExpr, mBin, mIf, mVar, mMove, oE, oVar, mC, mIx, mLst, mTup, mNeg, aNil, aCons, Ab.tB, tE, Bool.and_self, Bool.true_and, Bool.and_true, mCallN, callF, pureF, refsLt, refsLts, mB1, AS.res, AS.view, bind_val, intF, mulD, addD, lenD, absD, modOk, rv, AS.put, List.map, List.append, List.replicate, List.length, List.cons_append, List.nil_append, List.getElem?_cons_zero, List.getElem?_cons_succ, Option.bind_some, if_true, if_false, List.set, decide_true, decide_false, reduceIte, Int.reduceLT, Bool.false_eq_true, Nat.reduceAdd, Nat.reduceSub, Nat.reduceLeDiff, eq_self, Int.reduceEq, Bool.not_true, Bool.not_false]
  have nh := Ab.Q.neL (hw ss)
  have nr := Ab.Q.neL (hw ss).reverse
  have rr (xs : List Int) : revD (L xs) = some ⟨L xs.reverse, true⟩ := by
    simp only [revD, L, List.map_reverse]
  have c1 := Ab.Q.call1 (F := F_half_wins) (i := 4) (st := ⟨[some ⟨.scr ns, false⟩, some ⟨.int k, false⟩, some ⟨L (r0 :: rs), true⟩, some ⟨L ss, false⟩, some ⟨L ss, false⟩, some ⟨L (hw ss), true⟩, some ⟨.lst ((hw ss).map D.int ++ [.int 0]), true⟩, none], [], 0⟩) rfl (Ab.Q.half_wins_eq _ _ ss (by omega)) (by simp only [refsLt]; exact Ab.Q.refs_int _ _)
  have c2 : mCallN 1 (pureF F_half_wins) (aCons (mB1 revD (oVar 3)) aNil) ⟨[some ⟨.scr ns, false⟩, some ⟨.int k, false⟩, some ⟨L (r0 :: rs), true⟩, some ⟨L ss, false⟩, some ⟨L ss, false⟩, some ⟨L (hw ss), true⟩, some ⟨.lst ((hw ss).map D.int ++ [.int 0]), true⟩, none], [], 0⟩ = .val ⟨L (hw ss).reverse, true⟩ ⟨[some ⟨.scr ns, false⟩, some ⟨.int k, false⟩, some ⟨L (r0 :: rs), true⟩, some ⟨L ss, false⟩, some ⟨L ss, false⟩, some ⟨L (hw ss), true⟩, some ⟨.lst ((hw ss).map D.int ++ [.int 0]), true⟩, none], [], 0⟩ := by
    have e := Ab.Q.half_wins_eq 0 [] ss.reverse (by rw [List.length_reverse]; omega)
    rw [Ab.Q.hw_rev] at e
    simp only [rr, q_hw, e, Ab.Q.refs_int, runF, startS, sRet, sSeq, sSet, sIf, sNil, sExpr, mBin, mIf, mVar, mMove, oE, oVar, mC, mIx, mLst, mTup, mNeg, aNil, aCons, Ab.tB, tE, Bool.and_self, Bool.true_and, Bool.and_true, mCallN, callF, pureF, refsLt, refsLts, mB1, AS.res, AS.view, bind_val, intF, mulD, addD, lenD, absD, modOk, rv, AS.put, List.map, List.append, List.replicate, List.length, List.cons_append, List.nil_append, List.getElem?_cons_zero, List.getElem?_cons_succ, Option.bind_some, if_true, if_false, List.set, decide_true, decide_false, reduceIte, Int.reduceLT, Bool.false_eq_true, Nat.reduceAdd, Nat.reduceSub, Nat.reduceLeDiff, eq_self, Int.reduceEq, Bool.not_true, Bool.not_false]
  have eH : S_H ⟨[some ⟨.scr ns, false⟩, some ⟨.int k, false⟩, some ⟨L (r0 :: rs), true⟩, some ⟨L ss, false⟩, some ⟨L ss, false⟩, some ⟨L (hw ss), true⟩, some ⟨.lst ((hw ss).map D.int ++ [.int 0]), true⟩, none], [], 0⟩ = .val .nx ⟨[some ⟨.scr ns, false⟩, some ⟨.int k, false⟩, some ⟨L (r0 :: rs), true⟩, some ⟨L ss, false⟩, some ⟨L ss, false⟩, some ⟨L (hw ss), true⟩, some ⟨.lst ((hw ss).map D.int ++ [.int 0]), true⟩, none], [], 0⟩ := by
    refine Ab.Q.if_f (st1 := ⟨[some ⟨.scr ns, false⟩, some ⟨.int k, false⟩, some ⟨L (r0 :: rs), true⟩, some ⟨L ss, false⟩, some ⟨L ss, false⟩, some ⟨L (hw ss), true⟩, some ⟨.lst ((hw ss).map D.int ++ [.int 0]), true⟩, none], [], 0⟩) ?_
    unfold Ab.tOrM
    rw [tneq c1 rfl nh, bind_val]
    simp only [Bool.false_eq_true, if_false]
    unfold Ab.tB mBin oE
    rw [c2]
    simp only [bind_val, mB1, oVar, AS.res, AS.view, Option.bind_some, rr, nr, List.getElem?_cons_zero, List.getElem?_cons_succ]
  refine ⟨some ⟨L (r0 :: rs), true⟩, some ⟨L ss, false⟩, some ⟨L ss, false⟩, some ⟨L (hw ss), true⟩, some ⟨.lst ((hw ss).map D.int ++ [.int 0]), true⟩, ?_⟩
  unfold S_body
  rw [Ab.Q.seq_nx eA, Ab.Q.seq_nx eB, Ab.Q.seq_nx eC, Ab.Q.seq_nx eD, Ab.Q.seq_nx eE, Ab.Q.seq_nx eF, Ab.Q.seq_nx eG]
  exact eH
theorem turns_eq (ns : List Int) : ∀ (n j : Nat) (s1 s2 s3 s4 s5 s6 : Option Ab.R), j + n ≤ 9 → ∃ st, forG okT (gNm 1) S_body ((List.range' j n).map fun i => .int (0 + (i : Nat))) ⟨[some ⟨.scr ns, false⟩, s1, s2, s3, s4, s5, s6, none], [], 0⟩ = .val .nx st
  | 0, j, s1, s2, s3, s4, s5, s6, h => ⟨_, rfl⟩
  | n + 1, j, s1, s2, s3, s4, s5, s6, h => by
    obtain ⟨t2, t3, t4, t5, t6, e⟩ := body_eq ns j (by omega) s2 s3 s4 s5 s6
    obtain ⟨st, e2⟩ := turns_eq ns n (j + 1) (some ⟨.int j, false⟩) t2 t3 t4 t5 t6 (by omega)
    refine ⟨st, ?_⟩
    rw [List.range'_succ, List.map_cons]
    simp only [forG, okT, gNm, AS.put, List.set, if_true, Int.zero_add]
    rw [e, bind_val]
    simp only [Int.zero_add] at e2
    exact e2
theorem law_true (ns : List Int) (h : ns.length ≤ 63) : ∃ sg, F_law 0 [.scr ns] [] = .val ⟨.bl true, false⟩ sg := by
  obtain ⟨st, e⟩ := turns_eq ns 6 0 none none none none none none (by decide)
  have sm : smallI 6 = true := by decide +kernel
  have r9 : rngD 0 6 = (List.range' 0 6).map fun i => .int (0 + (i : Nat)) := by kernel_rfl
  refine ⟨st.sg, ?_⟩
  rw [F_law, B_law_eq]
  simp only [sFor, iR1, sm, r9, runF, startS, sRet, sSeq, sSet, sIf, sNil, sExpr, mBin, mIf, mVar, mMove, oE, oVar, mC, mIx, mLst, mTup, mNeg, aNil, aCons, Ab.tB, tE, Bool.and_self, Bool.true_and, Bool.and_true, mCallN, callF, pureF, refsLt, refsLts, mB1, AS.res, AS.view, bind_val, intF, mulD, addD, lenD, absD, modOk, rv, AS.put, List.map, List.append, List.replicate, List.length, List.cons_append, List.nil_append, List.getElem?_cons_zero, List.getElem?_cons_succ, Option.bind_some, if_true, if_false, List.set, decide_true, decide_false, reduceIte, Int.reduceLT, Bool.false_eq_true, Nat.reduceAdd, Nat.reduceSub, Nat.reduceLeDiff, eq_self, Int.reduceEq, Bool.not_true, Bool.not_false]
  rw [e]
  simp only [runF, startS, sRet, sSeq, sSet, sIf, sNil, sExpr, mBin, mIf, mVar, mMove, oE, oVar, mC, mIx, mLst, mTup, mNeg, aNil, aCons, Ab.tB, tE, Bool.and_self, Bool.true_and, Bool.and_true, mCallN, callF, pureF, refsLt, refsLts, mB1, AS.res, AS.view, bind_val, intF, mulD, addD, lenD, absD, modOk, rv, AS.put, List.map, List.append, List.replicate, List.length, List.cons_append, List.nil_append, List.getElem?_cons_zero, List.getElem?_cons_succ, Option.bind_some, if_true, if_false, List.set, decide_true, decide_false, reduceIte, Int.reduceLT, Bool.false_eq_true, Nat.reduceAdd, Nat.reduceSub, Nat.reduceLeDiff, eq_self, Int.reduceEq, Bool.not_true, Bool.not_false]
end K25
namespace K25
open PySem PySem.Spec PyProof.Rows L2 Ab
def topS (i : Nat) : Stmt := PySem.Challenge.pw_byestand_k25_half_wins.main.body.getD i (.Pass ⟨0, 0, 0, 0⟩)
abbrev s_wins_over : Stmt := topS 1
abbrev s_half_wins : Stmt := topS 2
abbrev s_L_mixed : Stmt := topS 4
abbrev s_L_draw : Stmt := topS 5
abbrev s_L_cell : Stmt := topS 6
abbrev s_L_num : Stmt := topS 7
abbrev s_L_same : Stmt := topS 8
abbrev s_L_half_wins : Stmt := topS 9
abbrev s_L_score : Stmt := topS 10
abbrev s_law : Stmt := topS 11
theorem sc_wins_over : FnScope ["score", "other"] ["score", "other"] (defScope s_wins_over) := ⟨rfl, rfl, rfl, by decide +kernel, rfl, by decide +kernel, by decide +kernel⟩
theorem sc_half_wins : FnScope ["scores", "found", "k", "score", "rest", "other"] ["scores"] (defScope s_half_wins) := ⟨rfl, rfl, rfl, by decide +kernel, rfl, by decide +kernel, by decide +kernel⟩
theorem sc_L_mixed : FnScope ["_law_seed", "_law_k", "_law_square"] ["_law_seed", "_law_k"] (defScope s_L_mixed) := ⟨rfl, rfl, rfl, by decide +kernel, rfl, by decide +kernel, by decide +kernel⟩
theorem sc_L_draw : FnScope ["_law_cell_here", "_law_limits", "_law_rest", "_law_seed", "_law_found", "_law_limit"] ["_law_cell_here", "_law_limits"] (defScope s_L_draw) := ⟨rfl, rfl, rfl, by decide +kernel, rfl, by decide +kernel, by decide +kernel⟩
theorem sc_L_cell : FnScope ["_law_script", "_law_k"] ["_law_script", "_law_k"] (defScope s_L_cell) := ⟨rfl, rfl, rfl, by decide +kernel, rfl, by decide +kernel, by decide +kernel⟩
theorem sc_L_num : FnScope ["_law_found"] ["_law_found"] (defScope s_L_num) := ⟨rfl, rfl, rfl, by decide +kernel, rfl, by decide +kernel, by decide +kernel⟩
theorem sc_L_same : FnScope ["_law_found", "_law_due", "_law_k"] ["_law_found", "_law_due"] (defScope s_L_same) := ⟨rfl, rfl, rfl, by decide +kernel, rfl, by decide +kernel, by decide +kernel⟩
theorem sc_L_half_wins : FnScope ["_law_scores", "_law_found", "_law_k", "_law_lesser", "_law_like", "_law_one"] ["_law_scores"] (defScope s_L_half_wins) := ⟨rfl, rfl, rfl, by decide +kernel, rfl, by decide +kernel, by decide +kernel⟩
theorem sc_L_score : FnScope ["_law_number", "_law_some"] ["_law_number", "_law_some"] (defScope s_L_score) := ⟨rfl, rfl, rfl, by decide +kernel, rfl, by decide +kernel, by decide +kernel⟩
theorem sc_law : FnScope ["_law_script", "_law_k", "_law_row", "_law_scores", "_law_handed", "_law_due", "_law_found", "_law_j"] ["_law_script"] (defScope s_law) := ⟨rfl, rfl, rfl, by decide +kernel, rfl, by decide +kernel, by decide +kernel⟩
section
variable {P : Program} {w : World} {K : PySem.W.Frag} {mg : Str → Option Value} {base : Heap} {T : List (Addr × Str)}
theorem ok_wins_over {f : Addr} {fd : FuncData} (Fd : FunD K "wins_over" "wins_over" (defArgs s_wins_over) (defBody s_wins_over) (defScope s_wins_over) [] [] f fd) (z_int : mg "int" = none) : FnOk P w K mg base (L2.CX P w) 1 f fd ["score", "other"] (spF K T 2 F_wins_over) :=
  fn_ok Fd sc_wins_over fun cdv A outer s H E hr C => dss_one (ds_ret (de_bin v_add (do_E (de_bin v_mul (do_E (de_int)) (do_E (de_ty1 call_int1 r_int rfl z_int (by decide +kernel) (do_E (de_cmp v_lt (do_var (pv 1)) (do_var (pv 0)) (nomark _))))))) (do_E (de_ty1 call_int1 r_int rfl z_int (by decide +kernel) (do_E (de_cmp (v_eq (C).hu) (do_var (pv 1)) (do_var (pv 0)) (nomark _)))))))

theorem ok_half_wins {f : Addr} {fd : FuncData} (Fd : FunD K "half_wins" "half_wins" (defArgs s_half_wins) (defBody s_half_wins) (defScope s_half_wins) [] [] f fd) (z_enumerate : mg "enumerate" = none) (z_sum : mg "sum" = none) (G_wins_over : GDef P w K mg base T 1 "wins_over" 2 F_wins_over) : FnOk P w K mg base (L2.CX P w) 2 f fd ["scores"] (spF K T 1 F_half_wins) :=
  fn_ok Fd sc_half_wins fun cdv A outer s H E hr C => dss_cons (ds_set (i := 1) (C).nd rfl (.inl rfl) (de_lst (da_nil)))
  (dss_cons (ds_for (C) (di_en rfl z_enumerate (de_var (pv 0))) (dg_tp (C).calm (dgs_cons (dg_nm (C).nd rfl (.inl rfl)) (dgs_cons (dg_nm (C).nd rfl (.inr rfl)) (dgs_nil))) (gl_cons (gl_cons (gl_nil)))) (dss_cons (ds_set (i := 4) (C).nd rfl (.inl rfl) (de_bin v_add (do_E (de_slice (do_var (pv 0)) (dp_none) (dp_some (de_var (pv 2))))) (do_E (de_slice (do_var (pv 0)) (dp_some (de_bin v_add (do_var (pv 2)) (do_E (de_int)))) (dp_none)))))
  (dss_one (ds_expr (de_mutL PySem.F.slot_list_append PySem.F.type_list_append mt_append v_append (do_var (pv 1)) (da_cons (de_b1 (cr_sum (C).calm) r_sum rfl z_sum (by decide +kernel) (do_E (de_comp (own := [("other", 5)]) (C) (blkOk_by (by kernel_rfl)) (di_L (de_var (pv 4))) (fun _ _ _ _ _ => dg_nm (ctx_blk (C)).nd rfl (.inl rfl)) (by decide) (fun _ _ _ _ _ => dts_nil) (fun _ _ _ _ _ => de_call (ctx_blk (C)) G_wins_over.pure (hr.mono (by decide)) rfl (da_cons (de_var (pv 3)) (da_cons (de_var (pv 5)) (da_nil))))))) (da_nil)))))))
  (dss_one (ds_ret (de_move (pv 1)))))

theorem ok_L_mixed {f : Addr} {fd : FuncData} (Fd : FunD K "_law_mixed" "_law_mixed" (defArgs s_L_mixed) (defBody s_L_mixed) (defScope s_L_mixed) [] [] f fd)  : FnOk P w K mg base (L2.CX P w) 1 f fd ["_law_seed", "_law_k"] (spF K T 2 F_L_mixed) :=
  fn_ok Fd sc_L_mixed fun cdv A outer s H E hr C => dss_cons (ds_set (i := 2) (C).nd rfl (.inl rfl) (de_bin v_mod (do_E (de_bin v_mul (do_var (pv 0)) (do_var (pv 0)))) (do_E (de_int))))
  (dss_one (ds_ret (de_bin v_mod (do_E (de_bin v_add (do_E (de_bin v_add (do_E (de_bin v_mul (do_var (pv 2)) (do_E (de_bin v_add (do_E (de_bin v_mod (do_var (pv 0)) (do_E (de_int)))) (do_E (de_int)))))) (do_E (de_bin v_mul (do_var (pv 1)) (do_E (de_int)))))) (do_E (de_int)))) (do_E (de_int)))))

theorem ok_L_draw {f : Addr} {fd : FuncData} (Fd : FunD K "_law_draw" "_law_draw" (defArgs s_L_draw) (defBody s_L_draw) (defScope s_L_draw) [] [] f fd) (z_abs : mg "abs" = none) (z_len : mg "len" = none) (G_L_mixed : GDef P w K mg base T 1 "_law_mixed" 2 F_L_mixed) : FnOk P w K mg base (L2.CX P w) 2 f fd ["_law_cell_here", "_law_limits"] (spF K T 2 F_L_draw) :=
  fn_ok Fd sc_L_draw fun cdv A outer s H E hr C => dss_cons (ds_set (i := 2) (C).nd rfl (.inl rfl) (de_if (dt_cmp v_ge (do_var (pv 0)) (do_E (de_bin v_pow (do_E (de_int)) (do_E (de_int)))) (nomark _)) (de_var (pv 0)) (de_int)))
  (dss_cons (ds_set (i := 3) (C).nd rfl (.inl rfl) (de_bin v_mod (do_E (de_bin v_add (do_E (de_bin v_mul (do_E (de_b1 call_abs r_abs rfl z_abs (by decide +kernel) (do_var (pv 0)))) (do_E (de_int)))) (do_E (de_int)))) (do_E (de_int))))
  (dss_cons (ds_set (i := 4) (C).nd rfl (.inl rfl) (de_lst (da_nil)))
  (dss_cons (ds_for (C) (di_L (de_var (pv 1))) (dg_nm (C).nd rfl (.inl rfl)) (dss_one (ds_if (dt_cmp v_gt (do_var (pv 2)) (do_E (de_int)) (nomark _)) (dss_cons (ds_expr (de_mutL PySem.F.slot_list_append PySem.F.type_list_append mt_append v_append (do_var (pv 4)) (da_cons (de_bin v_mod (do_var (pv 2)) (do_var (pv 5))) (da_nil))))
  (dss_one (ds_set (i := 2) (C).nd rfl (.inl rfl) (de_bin v_fdiv (do_var (pv 2)) (do_var (pv 5)))))) (dss_cons (ds_set (i := 3) (C).nd rfl (.inl rfl) (de_call (C) G_L_mixed.pure (hr.mono (by decide)) rfl (da_cons (de_var (pv 3)) (da_cons (de_b1 call_len r_len rfl z_len PySem.boot_len (do_var (pv 4))) (da_nil)))))
  (dss_one (ds_expr (de_mutL PySem.F.slot_list_append PySem.F.type_list_append mt_append v_append (do_var (pv 4)) (da_cons (de_bin v_mod (do_E (de_bin v_fdiv (do_var (pv 3)) (do_E (de_int)))) (do_var (pv 5))) (da_nil)))))))))
  (dss_one (ds_ret (de_move (pv 4)))))))

theorem ok_L_cell {f : Addr} {fd : FuncData} (Fd : FunD K "_law_cell" "_law_cell" (defArgs s_L_cell) (defBody s_L_cell) (defScope s_L_cell) [] [] f fd) (z_len : mg "len" = none) : FnOk P w K mg base (L2.CX P w) 1 f fd ["_law_script", "_law_k"] (spF K T 2 F_L_cell) :=
  fn_ok Fd sc_L_cell fun cdv A outer s H E hr C => dss_cons (ds_if (dt_cmp v_lt (do_var (pv 1)) (do_E (de_b1 call_len r_len rfl z_len PySem.boot_len (do_var (pv 0)))) (nomark _)) (dss_one (ds_ret (de_ix (do_var (pv 0)) (do_var (pv 1)) (fun _ _ => rfl)))) (dss_nil))
  (dss_cons (ds_if (dt_cmp (v_eq (C).hu) (do_E (de_b1 call_len r_len rfl z_len PySem.boot_len (do_var (pv 0)))) (do_E (de_int)) (nomark _)) (dss_one (ds_ret (de_bin v_mul (do_E (de_int)) (do_var (pv 1))))) (dss_nil))
  (dss_one (ds_ret (de_bin v_add (do_E (de_ix (do_var (pv 0)) (do_E (de_bin v_mod (do_var (pv 1)) (do_E (de_b1 call_len r_len rfl z_len PySem.boot_len (do_var (pv 0)))))) (fun _ _ => rfl))) (do_E (de_bin v_mul (do_E (de_int)) (do_var (pv 1))))))))

theorem ok_L_num {f : Addr} {fd : FuncData} (Fd : FunD K "_law_num" "_law_num" (defArgs s_L_num) (defBody s_L_num) (defScope s_L_num) [] [] f fd) (z_isinstance : mg "isinstance" = none) (z_int : mg "int" = none) (z_bool : mg "bool" = none) : FnOk P w K mg base (L2.CX P w) 1 f fd ["_law_found"] (spF K T 1 F_L_num) :=
  fn_ok Fd sc_L_num fun cdv A outer s H E hr C => dss_one (ds_ret (de_and (de_isi rfl z_isinstance (do_var (pv 0)) rfl z_int (by decide +kernel)) (de_one (de_not (de_isi rfl z_isinstance (do_var (pv 0)) rfl z_bool (by decide +kernel))))))

theorem ok_L_same {fd : FuncData} (Fd : FunD K "_law_same" "_law_same" (defArgs s_L_same) (defBody s_L_same) (defScope s_L_same) [] [] (He.ga K "_law_same") fd) (g_ : mg "_law_same" = some (.ref (He.ga K "_law_same"))) (b_ : Binds K fd ["_law_found", "_law_due"] []) (z_isinstance : mg "isinstance" = none) (z_bool : mg "bool" = none) (z_int : mg "int" = none) (z_str : mg "str" = none) (z_tuple : mg "tuple" = none) (z_list : mg "list" = none) (z_len : mg "len" = none) (z_range : mg "range" = none) (z_all : mg "all" = none) (G_L_num : GDef P w K mg base T 1 "_law_num" 1 F_L_num) (n : Nat) : FnOk P w K mg base (L2.CX P w) (2 + n) (He.ga K "_law_same") fd ["_law_found", "_law_due"] (spF K T 2 (F_L_same n)) := by
  induction n with
  | zero => exact fn_bad (ps := ["_law_found", "_law_due"])
  | succ n ih =>
    have G_rec : GDef P w K mg base T (2 + n) "_law_same" 2 (F_L_same n) := ⟨⟨fd, ["_law_found", "_law_due"], ih, b_⟩, g_, Fd.kp⟩
    exact fn_ok (k := 2 + n) Fd sc_L_same fun cdv A outer s H E hr C => dss_cons (ds_if (dt_cmp v_is (do_var (pv 1)) (do_E (de_non)) (nomark _)) (dss_one (ds_ret (de_cmp v_is (do_var (pv 0)) (do_E (de_non)) (nomark _)))) (dss_nil))   (dss_cons (ds_if (dt_E (de_isi rfl z_isinstance (do_var (pv 1)) rfl z_bool (by decide +kernel))) (dss_one (ds_ret (de_and (de_isi rfl z_isinstance (do_var (pv 0)) rfl z_bool (by decide +kernel)) (de_one (de_cmp (v_eq (C).hu) (do_var (pv 0)) (do_var (pv 1)) (nomark _)))))) (dss_nil))   (dss_cons (ds_if (dt_E (de_isi rfl z_isinstance (do_var (pv 1)) rfl z_int (by decide +kernel))) (dss_one (ds_ret (de_and (de_call (C) G_L_num.pure (hr.mono (by omega)) rfl (da_cons (de_var (pv 0)) (da_nil))) (de_one (de_cmp (v_eq (C).hu) (do_var (pv 0)) (do_var (pv 1)) (nomark _)))))) (dss_nil))   (dss_cons (ds_if (dt_E (de_isi rfl z_isinstance (do_var (pv 1)) rfl z_str (by decide +kernel))) (dss_one (ds_ret (de_and (de_isi rfl z_isinstance (do_var (pv 0)) rfl z_str (by decide +kernel)) (de_one (de_cmp (v_eq (C).hu) (do_var (pv 0)) (do_var (pv 1)) (nomark _)))))) (dss_nil))   (dss_cons (ds_if (dt_W (dw_or (dt_W (dw_and (dt_E (de_isi rfl z_isinstance (do_var (pv 1)) rfl z_tuple (by decide +kernel))) (dw_and1 (dt_not (dt_E (de_isi rfl z_isinstance (do_var (pv 0)) rfl z_tuple (by decide +kernel))))))) (dw_or1 (dt_W (dw_and (dt_E (de_isi rfl z_isinstance (do_var (pv 1)) rfl z_list (by decide +kernel))) (dw_and1 (dt_not (dt_E (de_isi rfl z_isinstance (do_var (pv 0)) rfl z_list (by decide +kernel)))))))))) (dss_one (ds_ret (de_bl))) (dss_nil))   (dss_one (ds_ret (de_and (de_cmp (v_eq (C).hu) (do_E (de_b1 call_len r_len rfl z_len PySem.boot_len (do_var (pv 0)))) (do_E (de_b1 call_len r_len rfl z_len PySem.boot_len (do_var (pv 1)))) (nomark _)) (de_one (de_b1 (cr_all (C).calm) r_all rfl z_all (by decide +kernel) (do_E (de_comp (own := [("_law_k", 2)]) (C) (blkOk_by (by kernel_rfl)) (di_r1 rfl z_range (da_cons (de_b1 call_len r_len rfl z_len PySem.boot_len (do_var (pv 1))) (da_nil))) (fun _ _ _ _ _ => dg_nm (ctx_blk (C)).nd rfl (.inl rfl)) (by decide) (fun _ _ _ _ _ => dts_nil) (fun _ _ _ _ _ => de_call (ctx_blk (C)) G_rec (hr.mono (by omega)) rfl (da_cons (de_ix (do_var (pv 0)) (do_var (pv 2)) (fun _ _ => rfl)) (da_cons (de_ix (do_var (pv 1)) (do_var (pv 2)) (fun _ _ => rfl)) (da_nil)))))))))))))))

theorem ok_L_half_wins {f : Addr} {fd : FuncData} (Fd : FunD K "_law_half_wins" "_law_half_wins" (defArgs s_L_half_wins) (defBody s_L_half_wins) (defScope s_L_half_wins) [] [] f fd) (z_len : mg "len" = none) (z_range : mg "range" = none) : FnOk P w K mg base (L2.CX P w) 1 f fd ["_law_scores"] (spF K T 1 F_L_half_wins) :=
  fn_ok Fd sc_L_half_wins fun cdv A outer s H E hr C => dss_cons (ds_set (i := 1) (C).nd rfl (.inl rfl) (de_lst (da_nil)))
  (dss_cons (ds_for (C) (di_r1 rfl z_range (da_cons (de_b1 call_len r_len rfl z_len PySem.boot_len (do_var (pv 0))) (da_nil))) (dg_nm (C).nd rfl (.inr rfl)) (dss_cons (ds_set (i := 3) (C).nd rfl (.inl rfl) (de_b1 call_len r_len rfl z_len PySem.boot_len (do_E (de_comp (own := [("_law_one", 5)]) (C) (blkOk_by (by kernel_rfl)) (di_L (de_var (pv 0))) (fun _ _ _ _ _ => dg_nm (ctx_blk (C)).nd rfl (.inl rfl)) (by decide) (fun _ _ _ _ _ => dts_one (dt_cmp v_lt (do_var (pv 5)) (do_E (de_ix (do_var (pv 0)) (do_var (pv 2)) (fun _ _ => rfl))) (nomark _))) (fun _ _ _ _ _ => de_var (pv 5))))))
  (dss_cons (ds_set (i := 4) (C).nd rfl (.inl rfl) (de_bin v_sub (do_E (de_b1 call_len r_len rfl z_len PySem.boot_len (do_E (de_comp (own := [("_law_one", 5)]) (C) (blkOk_by (by kernel_rfl)) (di_L (de_var (pv 0))) (fun _ _ _ _ _ => dg_nm (ctx_blk (C)).nd rfl (.inl rfl)) (by decide) (fun _ _ _ _ _ => dts_one (dt_cmp (v_eq (ctx_blk (C)).hu) (do_var (pv 5)) (do_E (de_ix (do_var (pv 0)) (do_var (pv 2)) (fun _ _ => rfl))) (nomark _))) (fun _ _ _ _ _ => de_var (pv 5)))))) (do_E (de_int))))
  (dss_one (ds_expr (de_mutL PySem.F.slot_list_append PySem.F.type_list_append mt_append v_append (do_var (pv 1)) (da_cons (de_bin v_add (do_E (de_bin v_mul (do_E (de_int)) (do_var (pv 3)))) (do_var (pv 4))) (da_nil))))))))
  (dss_one (ds_ret (de_move (pv 1)))))

theorem ok_L_score {f : Addr} {fd : FuncData} (Fd : FunD K "_law_score" "_law_score" (defArgs s_L_score) (defBody s_L_score) (defScope s_L_score) [] [] f fd)  : FnOk P w K mg base (L2.CX P w) 1 f fd ["_law_number", "_law_some"] (spF K T 2 F_L_score) :=
  fn_ok Fd sc_L_score fun cdv A outer s H E hr C => dss_one (ds_ret (de_ix (do_E (de_lst (da_cons (de_bin v_sub (do_E (de_bin v_mul (do_E (de_bin v_mod (do_var (pv 0)) (do_E (de_int)))) (do_E (de_int)))) (do_E (de_int))) (da_cons (de_bin v_mod (do_var (pv 0)) (do_E (de_int))) (da_cons (de_int) (da_cons (de_neg (de_int)) (da_cons (de_bin v_sub (do_E (de_bin v_mod (do_var (pv 0)) (do_E (de_int)))) (do_E (de_int))) (da_cons (de_int) (da_cons (de_neg (de_int)) (da_cons (de_int) (da_nil))))))))))) (do_E (de_bin v_mod (do_var (pv 1)) (do_E (de_int)))) (fun _ _ => rfl)))

theorem ok_law {f : Addr} {fd : FuncData} (Fd : FunD K "law" "law" (defArgs s_law) (defBody s_law) (defScope s_law) [] [] f fd) (z_range : mg "range" = none) (z_list : mg "list" = none) (z_sum : mg "sum" = none) (z_len : mg "len" = none) (G_L_draw : GDef P w K mg base T 2 "_law_draw" 2 F_L_draw) (G_L_cell : GDef P w K mg base T 1 "_law_cell" 2 F_L_cell) (G_L_score : GDef P w K mg base T 1 "_law_score" 2 F_L_score) (G_L_half_wins : GDef P w K mg base T 1 "_law_half_wins" 1 F_L_half_wins) (G_half_wins : GDef P w K mg base T 2 "half_wins" 1 F_half_wins) (G_L_same : GDef P w K mg base T 10 "_law_same" 2 (F_L_same 8)) : FnOk P w K mg base (L2.CX P w) 11 f fd ["_law_script"] (spF K T 1 F_law) :=
  fn_ok Fd sc_law fun cdv A outer s H E hr C => dss_cons (ds_for (C) (di_r1 rfl z_range (da_cons (de_int) (da_nil))) (dg_nm (C).nd rfl (.inl rfl)) (dss_cons (ds_set (i := 2) (C).nd rfl (.inr rfl) (de_call (C) G_L_draw.pure (hr.mono (by decide)) rfl (da_cons (de_call (C) G_L_cell.pure (hr.mono (by decide)) rfl (da_cons (de_var (pv 0)) (da_cons (de_var (pv 1)) (da_nil)))) (da_cons (de_bin v_add (do_E (de_lst (da_cons (de_int) (da_nil)))) (do_E (de_bin v_mul (do_E (de_lst (da_cons (de_int) (da_cons (de_int) (da_nil))))) (do_E (de_int))))) (da_nil)))))
  (dss_cons (ds_setLc (own := [("_law_j", 7)]) (i := 3) (C) rfl rfl (sw_true rfl rfl rfl (by decide +kernel)) (blkOk_by (by kernel_rfl)) (di_r1 rfl z_range (da_cons (de_bin v_add (do_E (de_ix (do_var (pv 2)) (do_E (de_int)) (fun _ _ => rfl))) (do_E (de_int))) (da_nil))) (fun _ _ _ _ _ => dg_nm (ctx_blk (C)).nd rfl (.inl rfl)) (by decide) (fun _ _ _ _ _ => dts_nil) (fun _ _ _ _ _ => de_call (ctx_blk (C)) G_L_score.pure (hr.mono (by decide)) rfl (da_cons (de_ix (do_var (pv 2)) (do_E (de_bin v_add (do_E (de_int)) (do_E (de_bin v_mul (do_E (de_int)) (do_var (pv 7)))))) (fun _ _ => rfl)) (da_cons (de_ix (do_var (pv 2)) (do_E (de_bin v_add (do_E (de_int)) (do_E (de_bin v_mul (do_E (de_int)) (do_var (pv 7)))))) (fun _ _ => rfl)) (da_nil)))))
  (dss_cons (ds_set (i := 4) (C).nd rfl (.inl rfl) (de_ty1 call_list_of r_list rfl z_list (by decide +kernel) (do_var (pv 3))))
  (dss_cons (ds_set (i := 5) (C).nd rfl (.inl rfl) (de_call (C) G_L_half_wins.pure (hr.mono (by decide)) rfl (da_cons (de_var (pv 3)) (da_nil))))
  (dss_cons (ds_set (i := 6) (C).nd rfl (.inl rfl) (de_call (C) G_half_wins.pure (hr.mono (by decide)) rfl (da_cons (de_var (pv 4)) (da_nil))))
  (dss_cons (ds_if (dt_W (dw_or (dt_not (dt_E (de_back (de_call (C) G_L_same.pure (hr.mono (by decide)) rfl (da_cons (de_var (pv 6)) (da_cons (de_var (pv 5)) (da_nil))))))) (dw_or (dt_cmp (v_ne (C).hu) (do_var (pv 4)) (do_var (pv 3)) (nomark _)) (dw_or1 (dt_cmp (v_ne (C).hu) (do_E (de_b1 (cr_sum (C).calm) r_sum rfl z_sum (by decide +kernel) (do_var (pv 6)))) (do_E (de_bin v_mul (do_E (de_b1 call_len r_len rfl z_len PySem.boot_len (do_var (pv 3)))) (do_E (de_bin v_sub (do_E (de_b1 call_len r_len rfl z_len PySem.boot_len (do_var (pv 3)))) (do_E (de_int)))))) (nomark _)))))) (dss_one (ds_ret (de_bl))) (dss_nil))
  (dss_cons (ds_expr (de_mutL PySem.F.slot_list_append PySem.F.type_list_append mt_append v_append (do_var (pv 6)) (da_cons (de_int) (da_nil))))
  (dss_one (ds_if (dt_W (dw_or (dt_cmp (v_ne (C).hu) (do_E (de_call (C) G_half_wins.pure (hr.mono (by decide)) rfl (da_cons (de_var (pv 4)) (da_nil)))) (do_var (pv 5)) (nomark _)) (dw_or1 (dt_cmp (v_ne (C).hu) (do_E (de_call (C) G_half_wins.pure (hr.mono (by decide)) rfl (da_cons (de_rev (do_var (pv 3))) (da_nil)))) (do_E (de_rev (do_var (pv 5)))) (nomark _))))) (dss_one (ds_ret (de_bl))) (dss_nil)))))))))))
  (dss_one (ds_ret (de_bl)))

end
def d_wins_over : He.DefD := ⟨("wins_over", none), "wins_over", "wins_over", defArgs s_wins_over, defBody s_wins_over, defScope s_wins_over, [], []⟩
def d_half_wins : He.DefD := ⟨("half_wins", none), "half_wins", "half_wins", defArgs s_half_wins, defBody s_half_wins, defScope s_half_wins, [], []⟩
def d_L_mixed : He.DefD := ⟨("_law_mixed", none), "_law_mixed", "_law_mixed", defArgs s_L_mixed, defBody s_L_mixed, defScope s_L_mixed, [], []⟩
def d_L_draw : He.DefD := ⟨("_law_draw", none), "_law_draw", "_law_draw", defArgs s_L_draw, defBody s_L_draw, defScope s_L_draw, [], []⟩
def d_L_cell : He.DefD := ⟨("_law_cell", none), "_law_cell", "_law_cell", defArgs s_L_cell, defBody s_L_cell, defScope s_L_cell, [], []⟩
def d_L_num : He.DefD := ⟨("_law_num", none), "_law_num", "_law_num", defArgs s_L_num, defBody s_L_num, defScope s_L_num, [], []⟩
def d_L_same : He.DefD := ⟨("_law_same", none), "_law_same", "_law_same", defArgs s_L_same, defBody s_L_same, defScope s_L_same, [], []⟩
def d_L_half_wins : He.DefD := ⟨("_law_half_wins", none), "_law_half_wins", "_law_half_wins", defArgs s_L_half_wins, defBody s_L_half_wins, defScope s_L_half_wins, [], []⟩
def d_L_score : He.DefD := ⟨("_law_score", none), "_law_score", "_law_score", defArgs s_L_score, defBody s_L_score, defScope s_L_score, [], []⟩
def d_law : He.DefD := ⟨("law", none), "law", "law", defArgs s_law, defBody s_law, defScope s_law, [], []⟩
def fn : List He.DefD := ([d_wins_over, d_half_wins, d_L_mixed, d_L_draw, d_L_cell, d_L_num, d_L_same, d_L_half_wins, d_L_score, d_law] : List He.DefD)
def fa : List He.Fa := ([.glo "wins_over", .glo "half_wins", .glo "_law_mixed", .glo "_law_draw", .glo "_law_cell", .glo "_law_num", .glo "_law_same", .glo "_law_half_wins", .glo "_law_score", .glo "law", .free "int", .free "enumerate", .free "sum", .free "abs", .free "len", .free "isinstance", .free "bool", .free "str", .free "tuple", .free "list", .free "range", .free "all"] : List He.Fa)
def loose : List PySem.Str := (["wins_over", "half_wins", "_law_mixed", "_law_draw", "_law_cell", "_law_num", "_law_same", "_law_half_wins", "_law_score"] : List PySem.Str)
abbrev R : PySem.W.OpenRow := PySem.W.OpenLaw.row PySem.Challenge.rw_byestand_k25_half_wins
abbrev hk : PySem.W.Hook := He.hookX 6 fa fn [] [] (fun _ => true)
def ob (s : PySem.W.SharedT) : He.AlX := He.obsX 6 fa fn [] [] (fun _ => true) (HandSHeadRun.getT s)
theorem ob_eq (s : PySem.W.SharedT) : ob s = hk.obs s.abs := He.obsX_eq (HandSHeadRun.getT_eq s)
theorem run (w : World) : HandSHeadRun.RunEq R (PySem.W.view R.prog [11]) hk ob 20000 loose w := by
  intro os
  kernel_rfl
theorem facts {w : World} {K : PySem.W.Frag} {h : Heap} {mg : Str → Option Value} {f : Addr} (KX : K.In h) (Gn : h.Ns mainGlobals mg) (hfa : mg ("law" : Str) = some (.ref f)) (c : He.SaysX fa fn [] [] (fun _ => true) w h K) :
    LamX.LawAtS PySem.Challenge.rw_byestand_k25_half_wins w K (L2.CX (PySem.Challenge.rw_byestand_k25_half_wins).prog w) 11 63 "_law_script" mg f h := by
  have z_int : mg "int" = none := (He.free_ok KX Gn (c.t.d.fact 10 (f := .free "int") rfl))
  have z_enumerate : mg "enumerate" = none := (He.free_ok KX Gn (c.t.d.fact 11 (f := .free "enumerate") rfl))
  have z_sum : mg "sum" = none := (He.free_ok KX Gn (c.t.d.fact 12 (f := .free "sum") rfl))
  have z_abs : mg "abs" = none := (He.free_ok KX Gn (c.t.d.fact 13 (f := .free "abs") rfl))
  have z_len : mg "len" = none := (He.free_ok KX Gn (c.t.d.fact 14 (f := .free "len") rfl))
  have z_isinstance : mg "isinstance" = none := (He.free_ok KX Gn (c.t.d.fact 15 (f := .free "isinstance") rfl))
  have z_bool : mg "bool" = none := (He.free_ok KX Gn (c.t.d.fact 16 (f := .free "bool") rfl))
  have z_str : mg "str" = none := (He.free_ok KX Gn (c.t.d.fact 17 (f := .free "str") rfl))
  have z_tuple : mg "tuple" = none := (He.free_ok KX Gn (c.t.d.fact 18 (f := .free "tuple") rfl))
  have z_list : mg "list" = none := (He.free_ok KX Gn (c.t.d.fact 19 (f := .free "list") rfl))
  have z_range : mg "range" = none := (He.free_ok KX Gn (c.t.d.fact 20 (f := .free "range") rfl))
  have z_all : mg "all" = none := (He.free_ok KX Gn (c.t.d.fact 21 (f := .free "all") rfl))
  have g_wins_over : mg "wins_over" = some (.ref (He.ga K "wins_over")) := (He.glo_ok KX Gn (c.t.d.fact 0 (f := .glo "wins_over") rfl))
  obtain ⟨fd_wins_over, D_wins_over⟩ := c.t.d.def_ 0 (d := d_wins_over) rfl
  have b_wins_over : Binds K fd_wins_over ["score", "other"] [] := FunD.bindsN D_wins_over fun _ _ _ _ _ _ us hl => match us, hl with | [_, _], _ => rfl
  have g_half_wins : mg "half_wins" = some (.ref (He.ga K "half_wins")) := (He.glo_ok KX Gn (c.t.d.fact 1 (f := .glo "half_wins") rfl))
  obtain ⟨fd_half_wins, D_half_wins⟩ := c.t.d.def_ 1 (d := d_half_wins) rfl
  have b_half_wins : Binds K fd_half_wins ["scores"] [] := FunD.bindsN D_half_wins fun _ _ _ _ _ _ us hl => match us, hl with | [_], _ => rfl
  have g_L_mixed : mg "_law_mixed" = some (.ref (He.ga K "_law_mixed")) := (He.glo_ok KX Gn (c.t.d.fact 2 (f := .glo "_law_mixed") rfl))
  obtain ⟨fd_L_mixed, D_L_mixed⟩ := c.t.d.def_ 2 (d := d_L_mixed) rfl
  have b_L_mixed : Binds K fd_L_mixed ["_law_seed", "_law_k"] [] := FunD.bindsN D_L_mixed fun _ _ _ _ _ _ us hl => match us, hl with | [_, _], _ => rfl
  have g_L_draw : mg "_law_draw" = some (.ref (He.ga K "_law_draw")) := (He.glo_ok KX Gn (c.t.d.fact 3 (f := .glo "_law_draw") rfl))
  obtain ⟨fd_L_draw, D_L_draw⟩ := c.t.d.def_ 3 (d := d_L_draw) rfl
  have b_L_draw : Binds K fd_L_draw ["_law_cell_here", "_law_limits"] [] := FunD.bindsN D_L_draw fun _ _ _ _ _ _ us hl => match us, hl with | [_, _], _ => rfl
  have g_L_cell : mg "_law_cell" = some (.ref (He.ga K "_law_cell")) := (He.glo_ok KX Gn (c.t.d.fact 4 (f := .glo "_law_cell") rfl))
  obtain ⟨fd_L_cell, D_L_cell⟩ := c.t.d.def_ 4 (d := d_L_cell) rfl
  have b_L_cell : Binds K fd_L_cell ["_law_script", "_law_k"] [] := FunD.bindsN D_L_cell fun _ _ _ _ _ _ us hl => match us, hl with | [_, _], _ => rfl
  have g_L_num : mg "_law_num" = some (.ref (He.ga K "_law_num")) := (He.glo_ok KX Gn (c.t.d.fact 5 (f := .glo "_law_num") rfl))
  obtain ⟨fd_L_num, D_L_num⟩ := c.t.d.def_ 5 (d := d_L_num) rfl
  have b_L_num : Binds K fd_L_num ["_law_found"] [] := FunD.bindsN D_L_num fun _ _ _ _ _ _ us hl => match us, hl with | [_], _ => rfl
  have g_L_same : mg "_law_same" = some (.ref (He.ga K "_law_same")) := (He.glo_ok KX Gn (c.t.d.fact 6 (f := .glo "_law_same") rfl))
  obtain ⟨fd_L_same, D_L_same⟩ := c.t.d.def_ 6 (d := d_L_same) rfl
  have b_L_same : Binds K fd_L_same ["_law_found", "_law_due"] [] := FunD.bindsN D_L_same fun _ _ _ _ _ _ us hl => match us, hl with | [_, _], _ => rfl
  have g_L_half_wins : mg "_law_half_wins" = some (.ref (He.ga K "_law_half_wins")) := (He.glo_ok KX Gn (c.t.d.fact 7 (f := .glo "_law_half_wins") rfl))
  obtain ⟨fd_L_half_wins, D_L_half_wins⟩ := c.t.d.def_ 7 (d := d_L_half_wins) rfl
  have b_L_half_wins : Binds K fd_L_half_wins ["_law_scores"] [] := FunD.bindsN D_L_half_wins fun _ _ _ _ _ _ us hl => match us, hl with | [_], _ => rfl
  have g_L_score : mg "_law_score" = some (.ref (He.ga K "_law_score")) := (He.glo_ok KX Gn (c.t.d.fact 8 (f := .glo "_law_score") rfl))
  obtain ⟨fd_L_score, D_L_score⟩ := c.t.d.def_ 8 (d := d_L_score) rfl
  have b_L_score : Binds K fd_L_score ["_law_number", "_law_some"] [] := FunD.bindsN D_L_score fun _ _ _ _ _ _ us hl => match us, hl with | [_, _], _ => rfl
  have g_law : mg "law" = some (.ref (He.ga K "law")) := (He.glo_ok KX Gn (c.t.d.fact 9 (f := .glo "law") rfl))
  obtain ⟨fd_law, D_law⟩ := c.t.d.def_ 9 (d := d_law) rfl
  have e := hfa.symm.trans g_law
  cases e
  refine law_end (F := F_law) [] (fun _ => "") law_true (fun p hp => nomatch hp) (fun p hp => nomatch hp) (fun p hp => nomatch hp) (fun s v => FunD.bindsA (ps := ["_law_script"]) D_law (fun _ _ _ _ _ _ us hl => match us, hl with | [_], _ => rfl) s [v] rfl) fun base Kb Gb _ => ?_
  have G_wins_over : GDef (PySem.Challenge.rw_byestand_k25_half_wins).prog w K mg base [] 1 "wins_over" 2 F_wins_over := ⟨⟨_, _, ok_wins_over D_wins_over z_int, b_wins_over⟩, g_wins_over, D_wins_over.kp⟩
  have G_half_wins : GDef (PySem.Challenge.rw_byestand_k25_half_wins).prog w K mg base [] 2 "half_wins" 1 F_half_wins := ⟨⟨_, _, ok_half_wins D_half_wins z_enumerate z_sum G_wins_over, b_half_wins⟩, g_half_wins, D_half_wins.kp⟩
  have G_L_mixed : GDef (PySem.Challenge.rw_byestand_k25_half_wins).prog w K mg base [] 1 "_law_mixed" 2 F_L_mixed := ⟨⟨_, _, ok_L_mixed D_L_mixed , b_L_mixed⟩, g_L_mixed, D_L_mixed.kp⟩
  have G_L_draw : GDef (PySem.Challenge.rw_byestand_k25_half_wins).prog w K mg base [] 2 "_law_draw" 2 F_L_draw := ⟨⟨_, _, ok_L_draw D_L_draw z_abs z_len G_L_mixed, b_L_draw⟩, g_L_draw, D_L_draw.kp⟩
  have G_L_cell : GDef (PySem.Challenge.rw_byestand_k25_half_wins).prog w K mg base [] 1 "_law_cell" 2 F_L_cell := ⟨⟨_, _, ok_L_cell D_L_cell z_len, b_L_cell⟩, g_L_cell, D_L_cell.kp⟩
  have G_L_num : GDef (PySem.Challenge.rw_byestand_k25_half_wins).prog w K mg base [] 1 "_law_num" 1 F_L_num := ⟨⟨_, _, ok_L_num D_L_num z_isinstance z_int z_bool, b_L_num⟩, g_L_num, D_L_num.kp⟩
  have G_L_same : GDef (PySem.Challenge.rw_byestand_k25_half_wins).prog w K mg base [] 10 "_law_same" 2 (F_L_same 8) := ⟨⟨_, _, ok_L_same D_L_same g_L_same b_L_same z_isinstance z_bool z_int z_str z_tuple z_list z_len z_range z_all G_L_num 8, b_L_same⟩, g_L_same, D_L_same.kp⟩
  have G_L_half_wins : GDef (PySem.Challenge.rw_byestand_k25_half_wins).prog w K mg base [] 1 "_law_half_wins" 1 F_L_half_wins := ⟨⟨_, _, ok_L_half_wins D_L_half_wins z_len z_range, b_L_half_wins⟩, g_L_half_wins, D_L_half_wins.kp⟩
  have G_L_score : GDef (PySem.Challenge.rw_byestand_k25_half_wins).prog w K mg base [] 1 "_law_score" 2 F_L_score := ⟨⟨_, _, ok_L_score D_L_score , b_L_score⟩, g_L_score, D_L_score.kp⟩
  exact ok_law D_law z_range z_list z_sum z_len G_L_draw G_L_cell G_L_score G_L_half_wins G_half_wins G_L_same
end K25
open PySem PySem.W PySem.Calls PyProof.Rows
theorem PySem.Challenge.cw_byestand_k25_half_wins_holds : PySem.Challenge.rw_byestand_k25_half_wins.Holds := by
  w_on; o_law
  refine HandSHeadRun.head_any (r := OpenLaw.row PySem.Challenge.rw_byestand_k25_half_wins) (q := view (OpenLaw.row PySem.Challenge.rw_byestand_k25_half_wins).prog [11]) (H := K25.hk) (ob := K25.ob) (M := 20000) (loose := K25.loose) (d := HandSHeadRun.topDef (OpenLaw.row PySem.Challenge.rw_byestand_k25_half_wins).prog 11) (kwd := []) K25.ob_eq
    (by kernel_rfl) (fun s => by kernel_rfl) K25.run (by kernel_rfl) (by kernel_rfl) (by kernel_rfl) (by rfl) (by first | assumption | decide +kernel) (by decide +kernel) ⟨rfl, rfl, rfl, rfl, rfl, by decide +kernel⟩ ?hw ?hc
  case hw => w_witness2
  case hc =>
    refine LamX.walk_ofTsE (l := PySem.Challenge.rw_byestand_k25_half_wins) (n := 63) (k := 11) (x := "_law_script") (CX := fun w => L2.CX (PySem.Challenge.rw_byestand_k25_half_wins).prog w) rfl (by decide) (by kernel_rfl) ⟨rfl, by decide, by decide⟩ ?F (fun _ _ _ _ _ z => Ab.no_exc z)
    intro w mg fa h Y G hmg0
    obtain ⟨K, KX, c⟩ := Y
    have hmg : mg ("law" : PySem.Str) = some (.ref fa) := by
      have e : (HandSHeadRun.topDef (OpenLaw.row PySem.Challenge.rw_byestand_k25_half_wins).prog 11).name = ("law" : PySem.Str) := by kernel_rfl
      rw [← e]
      exact hmg0
    exact ⟨K, KX, K25.facts KX G hmg c⟩

