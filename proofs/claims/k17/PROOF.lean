import PyProof.Rows.All
import Wide.All
import OpenK.AllK
import Wide.FinOn
import HandS.ForMost
import HandS.Deep
import HandS.Evl
import HandS.TupAny
import HandS.Flow
import HandS.Style
import HandS.IsInst
import HandS.Wide
import HandS.TupLe
import KE.DataIsa
import HandS.Text
import KE.SortData
import HandS.Set
import HandS.SetFor
import HandS.Strs
import KE.GoesEnum
import HandS.Conv
import HandS.Defaults
import PySem.Challenge.RW_treesheld_k17_whole_fewest_forces
import HandS.Head0
import HandS.Head1
import HandS.Head2
import HandS.HeadEnd
import HandS.HeadHook1
import HandS.HeadHook2
import KE.KStateDown
set_option Elab.async false
set_option linter.all false
set_option maxRecDepth 100000
set_option maxHeartbeats 1000000
/-! A layer over HandS: code is told by total functions on data (PyData), own lists by value, objects by number. -/
namespace Sm
open PySem L2 Evl

/-! ### data and how it lies -/
abbrev LP := Addr → List V → Prop
mutual
def Rep (T L : LP) : PyData → V → Prop
  | .none, v => v = .non
  | .bool b, v => v = .bl b
  | .int i, v => v = .int i
  | .str s, v => v = .str s
  | .tuple ds, v => ∃ a vs, v = .ref a ∧ T a vs ∧ RepAll T L ds vs
  | .list ds, v => ∃ a vs, v = .ref a ∧ L a vs ∧ RepAll T L ds vs
  | .dict _, _ => False
def RepAll (T L : LP) : List PyData → List V → Prop
  | [], vs => vs = []
  | d :: ds, vs => ∃ v r, vs = v :: r ∧ Rep T L d v ∧ RepAll T L ds r
end
mutual
theorem Rep.mono {T T' L L' : LP} (hT : ∀ a vs, T a vs → T' a vs) (hL : ∀ a vs, L a vs → L' a vs) : ∀ (d : PyData) (v : V), Rep T L d v → Rep T' L' d v
  | .none, v, h => by simpa [Rep] using h
  | .bool b, v, h => by simpa [Rep] using h
  | .int i, v, h => by simpa [Rep] using h
  | .str s, v, h => by simpa [Rep] using h
  | .tuple ds, v, h => by
    simp only [Rep] at h ⊢
    obtain ⟨a, vs, e, t, r⟩ := h
    exact ⟨a, vs, e, hT _ _ t, RepAll.mono hT hL ds vs r⟩
  | .list ds, v, h => by
    simp only [Rep] at h ⊢
    obtain ⟨a, vs, e, t, r⟩ := h
    exact ⟨a, vs, e, hL _ _ t, RepAll.mono hT hL ds vs r⟩
  | .dict _, v, h => by simp [Rep] at h
theorem RepAll.mono {T T' L L' : LP} (hT : ∀ a vs, T a vs → T' a vs) (hL : ∀ a vs, L a vs → L' a vs) : ∀ (ds : List PyData) (vs : List V), RepAll T L ds vs → RepAll T' L' ds vs
  | [], vs, h => by simpa [RepAll] using h
  | d :: ds, vs, h => by
    simp only [RepAll] at h ⊢
    obtain ⟨v, r, e, h1, h2⟩ := h
    exact ⟨v, r, e, Rep.mono hT hL d v h1, RepAll.mono hT hL ds r h2⟩
end
/- no list within -/
mutual
def nl : PyData → Bool
  | .list _ => false
  | .dict _ => false
  | .tuple ds => nlAll ds
  | _ => true
def nlAll : List PyData → Bool
  | [] => true
  | d :: ds => nl d && nlAll ds
end
mutual
theorem Rep.nl {T L L' : LP} : ∀ (d : PyData) (v : V), nl d = true → Rep T L d v → Rep T L' d v
  | .none, v, _, h => by simpa [Rep] using h
  | .bool b, v, _, h => by simpa [Rep] using h
  | .int i, v, _, h => by simpa [Rep] using h
  | .str s, v, _, h => by simpa [Rep] using h
  | .tuple ds, v, n, h => by
    simp only [Rep] at h ⊢
    obtain ⟨a, vs, e, t, r⟩ := h
    exact ⟨a, vs, e, t, RepAll.nl ds vs (by simpa [Sm.nl] using n) r⟩
  | .list ds, v, n, h => by simp [Sm.nl] at n
  | .dict _, v, n, h => by simp [Sm.nl] at n
theorem RepAll.nl {T L L' : LP} : ∀ (ds : List PyData) (vs : List V), nlAll ds = true → RepAll T L ds vs → RepAll T L' ds vs
  | [], vs, _, h => by simpa [RepAll] using h
  | d :: ds, vs, n, h => by
    simp only [RepAll] at h ⊢
    simp only [nlAll, Bool.and_eq_true] at n
    obtain ⟨v, r, e, h1, h2⟩ := h
    exact ⟨v, r, e, Rep.nl d v n.1 h1, RepAll.nl ds r n.2 h2⟩
end
theorem RepAll.len {T L : LP} : ∀ {ds : List PyData} {vs : List V}, RepAll T L ds vs → vs.length = ds.length
  | [], vs, h => by simp only [RepAll] at h; subst h; rfl
  | d :: ds, vs, h => by
    simp only [RepAll] at h
    obtain ⟨v, r, rfl, _, h2⟩ := h
    simp [RepAll.len h2]
theorem RepAll.get {T L : LP} : ∀ {ds : List PyData} {vs : List V} {i : Nat} {d : PyData}, RepAll T L ds vs → ds[i]? = some d → ∃ v, vs[i]? = some v ∧ Rep T L d v
  | [], vs, i, d, h, e => by simp at e
  | x :: ds, vs, 0, d, h, e => by
    simp only [RepAll] at h
    obtain ⟨v, r, rfl, h1, _⟩ := h
    simp at e; subst e
    exact ⟨v, rfl, h1⟩
  | x :: ds, vs, i + 1, d, h, e => by
    simp only [RepAll] at h
    obtain ⟨v, r, rfl, _, h2⟩ := h
    simp at e
    obtain ⟨w, h3, h4⟩ := RepAll.get h2 e
    exact ⟨w, by simpa using h3, h4⟩
theorem RepAll.get' {T L : LP} {ds : List PyData} {vs : List V} {i : Nat} {v : V} (h : RepAll T L ds vs) (e : vs[i]? = some v) : ∃ d, ds[i]? = some d ∧ Rep T L d v := by
  have hl := h.len
  have hi : i < ds.length := by
    have := (List.getElem?_eq_some_iff.mp e).1
    omega
  obtain ⟨w, h1, h2⟩ := h.get (List.getElem?_eq_getElem hi)
  rw [e] at h1; cases h1
  exact ⟨_, List.getElem?_eq_getElem hi, h2⟩
theorem RepAll.nil {T L : LP} : RepAll T L [] [] := by simp [RepAll]
theorem RepAll.cons {T L : LP} {d : PyData} {v : V} {ds : List PyData} {vs : List V} (h : Rep T L d v) (r : RepAll T L ds vs) : RepAll T L (d :: ds) (v :: vs) := by
  simp only [RepAll]
  exact ⟨v, vs, rfl, h, r⟩
theorem RepAll.append {T L : LP} : ∀ {ds es : List PyData} {vs us : List V}, RepAll T L ds vs → RepAll T L es us → RepAll T L (ds ++ es) (vs ++ us)
  | [], es, vs, us, h, r => by simp only [RepAll] at h; subst h; exact r
  | d :: ds, es, vs, us, h, r => by
    simp only [RepAll] at h
    obtain ⟨v, q, rfl, h1, h2⟩ := h
    exact .cons h1 (RepAll.append h2 r)
theorem RepAll.take {T L : LP} : ∀ {ds : List PyData} {vs : List V} (n : Nat), RepAll T L ds vs → RepAll T L (ds.take n) (vs.take n)
  | ds, vs, 0, h => by simpa using RepAll.nil
  | [], vs, n + 1, h => by simp only [RepAll] at h; subst h; simpa using RepAll.nil
  | d :: ds, vs, n + 1, h => by
    simp only [RepAll] at h
    obtain ⟨v, q, rfl, h1, h2⟩ := h
    exact .cons h1 (RepAll.take n h2)
theorem RepAll.drop {T L : LP} : ∀ {ds : List PyData} {vs : List V} (n : Nat), RepAll T L ds vs → RepAll T L (ds.drop n) (vs.drop n)
  | ds, vs, 0, h => by simpa using h
  | [], vs, n + 1, h => by simp only [RepAll] at h; subst h; simpa using RepAll.nil
  | d :: ds, vs, n + 1, h => by
    simp only [RepAll] at h
    obtain ⟨v, q, rfl, h1, h2⟩ := h
    simpa using RepAll.drop n h2
theorem RepAll.set {T L : LP} : ∀ {ds : List PyData} {vs : List V} (i : Nat) {d : PyData} {v : V}, RepAll T L ds vs → Rep T L d v → RepAll T L (ds.set i d) (vs.set i v)
  | [], vs, i, d, v, h, _ => by simp only [RepAll] at h; subst h; simpa using RepAll.nil
  | x :: ds, vs, 0, d, v, h, r => by
    simp only [RepAll] at h
    obtain ⟨y, q, rfl, h1, h2⟩ := h
    exact .cons r h2
  | x :: ds, vs, i + 1, d, v, h, r => by
    simp only [RepAll] at h
    obtain ⟨y, q, rfl, h1, h2⟩ := h
    exact .cons h1 (RepAll.set i h2 r)
theorem RepAll.eraseIdx {T L : LP} : ∀ {ds : List PyData} {vs : List V} (i : Nat), RepAll T L ds vs → RepAll T L (ds.eraseIdx i) (vs.eraseIdx i)
  | [], vs, i, h => by simp only [RepAll] at h; subst h; simpa using RepAll.nil
  | x :: ds, vs, 0, h => by
    simp only [RepAll] at h
    obtain ⟨y, q, rfl, h1, h2⟩ := h
    simpa using h2
  | x :: ds, vs, i + 1, h => by
    simp only [RepAll] at h
    obtain ⟨y, q, rfl, h1, h2⟩ := h
    exact .cons h1 (RepAll.eraseIdx i h2)
theorem RepAll.ints {T L : LP} : ∀ (ns : List Int), RepAll T L (ns.map PyData.int) (ns.map V.int)
  | [] => .nil
  | n :: ns => .cons (by simp [Rep]) (RepAll.ints ns)
/- the kit's own relation -/
mutual
theorem Rep.dp {K : PySem.W.Frag} {H : Hp} : ∀ (d : PyData) (v : V), Rep (SqT K H) (SqL K H) d v → Dp K H v d
  | .none, v, h => by simp only [Rep] at h; subst h; exact .non
  | .bool b, v, h => by simp only [Rep] at h; subst h; exact .bl b
  | .int i, v, h => by simp only [Rep] at h; subst h; exact .int i
  | .str s, v, h => by simp only [Rep] at h; subst h; exact .str s
  | .tuple ds, v, h => by
    simp only [Rep] at h
    obtain ⟨a, vs, rfl, t, r⟩ := h
    exact .tup t (RepAll.dp ds vs r)
  | .list ds, v, h => by
    simp only [Rep] at h
    obtain ⟨a, vs, rfl, t, r⟩ := h
    exact .lst t (RepAll.dp ds vs r)
  | .dict _, v, h => by simp [Rep] at h
theorem RepAll.dp {K : PySem.W.Frag} {H : Hp} : ∀ (ds : List PyData) (vs : List V), RepAll (SqT K H) (SqL K H) ds vs → DpAll K H vs ds
  | [], vs, h => by simp only [RepAll] at h; subst h; exact .nil
  | d :: ds, vs, h => by
    simp only [RepAll] at h
    obtain ⟨v, r, rfl, h1, h2⟩ := h
    exact .cons (Rep.dp d v h1) (RepAll.dp ds r h2)
end

/-! ### values, slots, objects, places -/
inductive Val where
  | d (x : PyData) | ref (n : Nat) | fn (k : Nat)
/-- what the text gives: the written part, the classes' addresses and attributes, the defs that are used as values -/
structure Glo where
  K : PySem.W.Frag
  cl : Nat → Addr
  nm : Nat → List Str
  fa : Nat → Addr
  nd : ∀ c, (nm c).Nodup
  sz : ∀ c, (nm c).length < 900
/-- a slot, an attribute: unknown; a value; a list of its own; a dict of its own -/
inductive Sl where
  | un | v (x : Val) | l (xs : List PyData) | k (kvs : List (Key × PyData))
inductive Ob where
  | lst (xs : List PyData) | ins (c : Nat) (fs : List Sl)
inductive Pl where
  | s (i : Nat) | o (n : Nat) | f (n : Nat) (j : Nat)
  deriving DecidableEq
abbrev En := List Sl
abbrev Hs := List Ob
abbrev As := Pl → Addr
abbrev Sl.d (x : PyData) : Sl := .v (.d x)

def FrzL (H : Hp) : LP := fun a vs => ∃ o, H a = some (.frz o (.lst vs))
def WrL (K : PySem.W.Frag) : LP := fun a xs => ∃ (o : Obj) (its : Array Value) (n : Nat), K.lookup a = some o ∧ o.cls = .type "list" ∧ o.dict = none ∧ o.data = .seq its n ∧ its.size ≤ sizeLine ∧ Vals xs its.toList
/-- lists for ever: locked, or written -/
def SL (K : PySem.W.Frag) (H : Hp) : LP := fun a vs => FrzL H a vs ∨ WrL K a vs
def isMut : Sl → Bool
  | .l _ => true
  | .k _ => true
  | _ => false
def hlive (h : Hs) : Pl → Prop
  | .s _ => False
  | .o n => n < h.length
  | .f n j => ∃ c fs s, h[n]? = some (.ins c fs) ∧ fs[j]? = some s ∧ isMut s = true
def live (env : En) (h : Hs) : Pl → Prop
  | .s i => ∃ s, env[i]? = some s ∧ isMut s = true
  | p => hlive h p
theorem hlive.live {env : En} {h : Hs} : ∀ {p : Pl}, hlive h p → live env h p
  | .s _, x => x.elim
  | .o _, x => x
  | .f _ _, x => x
/-- a def's frame: what may be written from its entry on -/
structure Fm where
  G : Glo
  rw : Bool
  h0 : Hs
  A0 : As
  H0 : Hp
def Fm.W (F : Fm) (a : Addr) : Prop := F.rw = true ∧ ∃ p, hlive F.h0 p ∧ F.A0 p = a
/-- lists that stay as they are while the def runs -/
def FL (F : Fm) (H : Hp) : LP := fun a vs => (Rd F.H0 a (.lst vs) ∧ ¬ F.W a) ∨ SL F.G.K H a vs
def RepV (G : Glo) (T L : LP) (n : Nat) (A : As) : Val → V → Prop
  | .d x, v => Rep T L x v
  | .ref m, v => m < n ∧ v = .ref (A (.o m))
  | .fn k, v => v = .ref (G.fa k)
def KvAll (T L : LP) : List (Key × PyData) → List (Key × V) → Prop
  | [], ks => ks = []
  | p :: ps, ks => ∃ v r, ks = (p.1, v) :: r ∧ Rep T L p.2 v ∧ KvAll T L ps r
/-- what a slot (an attribute) holds; its own list or dict stands at loc -/
def SlOf (G : Glo) (L : LP) (n : Nat) (A : As) (H : Hp) (loc : Addr) : Sl → Option V → Prop
  | .un, _ => True
  | .v x, o => ∃ v, o = some v ∧ RepV G (SqT G.K H) L n A x v
  | .l xs, o => o = some (.ref loc) ∧ ∃ vs, H loc = some (.lst vs) ∧ RepAll (SqT G.K H) (SL G.K H) xs vs
  | .k kvs, o => o = some (.ref loc) ∧ ∃ ks, H loc = some (.dK ks) ∧ KvAll (SqT G.K H) (SL G.K H) kvs ks
def ObOf (G : Glo) (n : Nat) (A : As) (H : Hp) (m : Nat) : Ob → Prop
  | .lst xs => ∃ vs, H (A (.o m)) = some (.lst vs) ∧ RepAll (SqT G.K H) (SL G.K H) xs vs
  | .ins c fs => ∃ dx fs', H (A (.o m)) = some (.ins (G.cl c) dx fs') ∧ (fs'.map (·.1)).Nodup ∧ (∀ g, g ∈ fs'.map (·.1) → g ∈ G.nm c) ∧ fs.length = (G.nm c).length ∧
      ∀ (j : Nat) s x, fs[j]? = some s → (G.nm c)[j]? = some x → SlOf G (SL G.K H) n A H (A (.f m j)) s (fs'.lookup x)
structure SR (F : Fm) (env : En) (h : Hs) (A : As) (σ : L2.St) (H : Hp) : Prop where
  fr : ∀ a o, F.H0 a = some o → ¬ F.W a → H a = some o
  tp : ∀ a vs, F.H0 a = some (.tup vs) → H a = some (.tup vs)
  fz : ∀ a o u, F.H0 a = some (.frz o u) → H a = some (.frz o u)
  dm : ∀ a o, F.H0 a = some o → ∃ o', H a = some o'
  le : F.rw = true → F.h0.length ≤ h.length
  oo : F.rw = true → ∀ m, m < F.h0.length → A (.o m) = F.A0 (.o m)
  nw : F.rw = true → ∀ p, hlive h p → F.W (A p) ∨ F.H0 (A p) = none
  ow : ∀ i, live env [] (.s i) → F.H0 (A (.s i)) = none
  ln : σ.length = env.length
  sl : ∀ i s, env[i]? = some s → SlOf F.G (FL F H) h.length A H (A (.s i)) s (σ[i]?.join)
  ob : ∀ n o, h[n]? = some o → ObOf F.G h.length A H n o
  ij : ∀ p q, live env h p → live env h q → A p = A q → p = q
/-- a step that may write objects -/
structure Step (h : Hs) (A : As) (H : Hp) (h' : Hs) (A' : As) (H' : Hp) : Prop where
  fr : ∀ a o, H a = some o → (∀ p, hlive h p → A p ≠ a) → H' a = some o
  tp : ∀ a vs, H a = some (.tup vs) → H' a = some (.tup vs)
  fz : ∀ a o u, H a = some (.frz o u) → H' a = some (.frz o u)
  dm : ∀ a o, H a = some o → ∃ o', H' a = some o'
  le : h.length ≤ h'.length
  oo : ∀ m, m < h.length → A' (.o m) = A (.o m)
  nw : ∀ p, hlive h' p → (∃ q, hlive h q ∧ A' p = A q) ∨ H (A' p) = none

/-! ### how these carry over -/
/-- tuples and locked things stay -/
def Pres (H H' : Hp) : Prop := (∀ a vs, H a = some (.tup vs) → H' a = some (.tup vs)) ∧ ∀ a o u, H a = some (.frz o u) → H' a = some (.frz o u)
theorem Ex.pres {H H' : Hp} (e : Ex H H') : Pres H H' := ⟨fun a _ h => e a _ h, fun a _ _ h => e a _ h⟩
theorem Pres.refl (H : Hp) : Pres H H := ⟨fun _ _ h => h, fun _ _ _ h => h⟩
theorem Pres.trans {H H1 H2 : Hp} (a : Pres H H1) (b : Pres H1 H2) : Pres H H2 := ⟨fun x vs h => b.1 _ _ (a.1 _ _ h), fun x o u h => b.2 _ _ _ (a.2 _ _ _ h)⟩
theorem Step.pres {h h' : Hs} {A A' : As} {H H' : Hp} (s : Step h A H h' A' H') : Pres H H' := ⟨s.tp, s.fz⟩
section
variable {G : Glo} {K : PySem.W.Frag} {H H' : Hp} {L L' : LP} {n n' : Nat} {A A' : As} {F : Fm}
theorem Pres.sqT (e : Pres H H') (a : Addr) (vs : List V) (h : SqT K H a vs) : SqT K H' a vs := by
  rcases h with (h | ⟨o, h⟩) | h
  · exact .inl (.inl (e.1 _ _ h))
  · exact .inl (.inr ⟨o, e.2 _ _ _ h⟩)
  · exact .inr h
theorem Pres.sL (e : Pres H H') (a : Addr) (vs : List V) (h : SL K H a vs) : SL K H' a vs := by
  rcases h with ⟨o, h⟩ | h
  · exact .inl ⟨o, e.2 _ _ _ h⟩
  · exact .inr h
theorem Pres.fL (e : Pres H H') (a : Addr) (vs : List V) (h : FL F H a vs) : FL F H' a vs := by
  rcases h with h | h
  · exact .inl h
  · exact .inr (e.sL a vs h)
theorem SL.sq {a : Addr} {vs : List V} (h : SL K H a vs) : SqL K H a vs := by
  rcases h with ⟨o, h⟩ | h
  · exact .inl (.inr ⟨o, h⟩)
  · exact .inr h
theorem SL.fl {a : Addr} {vs : List V} (h : SL F.G.K H a vs) : FL F H a vs := .inr h
theorem RepV.mono (hT : ∀ a vs, SqT K H a vs → SqT K H' a vs) (hL : ∀ a vs, L a vs → L' a vs) (hn : n ≤ n') (ho : ∀ m, m < n → A' (.o m) = A (.o m)) : ∀ {x : Val} {v : V}, RepV G (SqT K H) L n A x v → RepV G (SqT K H') L' n' A' x v
  | .d x, v, h => Rep.mono hT hL x v h
  | .ref m, v, ⟨h1, h2⟩ => ⟨Nat.lt_of_lt_of_le h1 hn, by rw [ho m h1]; exact h2⟩
  | .fn _, v, h => h
theorem KvAll.mono {T T' : LP} (hT : ∀ a vs, T a vs → T' a vs) (hL : ∀ a vs, L a vs → L' a vs) : ∀ {ps : List (Key × PyData)} {ks : List (Key × V)}, KvAll T L ps ks → KvAll T' L' ps ks
  | [], ks, h => h
  | p :: ps, ks, ⟨v, r, e, h1, h2⟩ => ⟨v, r, e, Rep.mono hT hL _ _ h1, KvAll.mono hT hL h2⟩
theorem SlOf.mono (e : Pres H H') (hL : ∀ a vs, L a vs → L' a vs) (hn : n ≤ n') (ho : ∀ m, m < n → A' (.o m) = A (.o m)) {loc loc' : Addr} : ∀ {s : Sl} {o : Option V}, (isMut s = true → loc' = loc ∧ ∀ u, H loc = some u → H' loc = some u) →
    SlOf G L n A H loc s o → SlOf G L' n' A' H' loc' s o
  | .un, _, _, h => h
  | .v x, _, _, ⟨v, e1, r⟩ => ⟨v, e1, r.mono (e.sqT) hL hn ho⟩
  | .l xs, _, hm, ⟨e1, vs, e2, r⟩ => by
    obtain ⟨rfl, k⟩ := hm rfl
    exact ⟨e1, vs, k _ e2, RepAll.mono e.sqT e.sL _ _ r⟩
  | .k kvs, _, hm, ⟨e1, vs, e2, r⟩ => by
    obtain ⟨rfl, k⟩ := hm rfl
    exact ⟨e1, vs, k _ e2, KvAll.mono e.sqT e.sL r⟩
end
end Sm

set_option Elab.async false
set_option linter.all false
set_option maxRecDepth 100000
set_option maxHeartbeats 1000000
namespace Sm
open PySem L2 Evl

section
variable {F : Fm} {env : En} {h h' : Hs} {A A' : As} {σ : L2.St} {H H' : Hp}
theorem Step.refl : Step h A H h A H := ⟨fun _ _ e _ => e, fun _ _ e => e, fun _ _ _ e => e, fun _ o e => ⟨o, e⟩, Nat.le_refl _, fun _ _ => rfl, fun p hp => .inl ⟨p, hp, rfl⟩⟩
theorem Step.ex (e : Ex H H') : Step h A H h A H' := ⟨fun a o q _ => e a o q, fun a _ q => e a _ q, fun a _ _ q => e a _ q, fun a o q => ⟨o, e a o q⟩, Nat.le_refl _, fun _ _ => rfl, fun p hp => .inl ⟨p, hp, rfl⟩⟩
theorem Step.trans {h1 h2 h3 : Hs} {A1 A2 A3 : As} {H1 H2 H3 : Hp} (s : Step h1 A1 H1 h2 A2 H2) (t : Step h2 A2 H2 h3 A3 H3) : Step h1 A1 H1 h3 A3 H3 where
  fr := fun a o e n => by
    have e2 := s.fr a o e n
    refine t.fr a o e2 fun p hp q => ?_
    rcases s.nw p hp with ⟨p', hp', eq⟩ | z
    · exact n p' hp' (eq.symm.trans q)
    · rw [q, e] at z; cases z
  tp := fun a vs e => t.tp a vs (s.tp a vs e)
  fz := fun a o u e => t.fz a o u (s.fz a o u e)
  dm := fun a o e => let ⟨o', e'⟩ := s.dm a o e; t.dm a o' e'
  le := Nat.le_trans s.le t.le
  oo := fun m hm => (t.oo m (Nat.lt_of_lt_of_le hm s.le)).trans (s.oo m hm)
  nw := fun p hp => by
    rcases t.nw p hp with ⟨q, hq, e⟩ | z
    · rcases s.nw q hq with ⟨q', hq', e'⟩ | z
      · exact .inl ⟨q', hq', e.trans e'⟩
      · exact .inr (by rw [e]; exact z)
    · by_cases hh : ∃ q, hlive h1 q ∧ A1 q = A3 p
      · obtain ⟨q, hq, e⟩ := hh
        exact .inl ⟨q, hq, e.symm⟩
      · refine .inr ?_
        cases e : H1 (A3 p) with
        | none => rfl
        | some o =>
          have := s.fr _ o e fun q hq eq => hh ⟨q, hq, eq⟩
          rw [z] at this; cases this

/-- the heap grows -/
theorem SR.ex (R : SR F env h A σ H) (e : Ex H H') : SR F env h A σ H' where
  fr := fun a o q w => e a o (R.fr a o q w)
  tp := fun a vs q => e a _ (R.tp a vs q)
  fz := fun a o u q => e a _ (R.fz a o u q)
  dm := fun a o q => let ⟨o', e'⟩ := R.dm a o q; ⟨o', e a o' e'⟩
  le := R.le
  oo := R.oo
  nw := R.nw
  ow := R.ow
  ln := R.ln
  sl := fun i s q => (R.sl i s q).mono (Ex.pres e) (Pres.fL (Ex.pres e)) (Nat.le_refl _) (fun _ _ => rfl) fun _ => ⟨rfl, fun u z => e _ u z⟩
  ob := fun n o q => by
    have z := R.ob n o q
    cases o with
    | lst xs =>
      obtain ⟨vs, e1, r⟩ := z
      exact ⟨vs, e _ _ e1, RepAll.mono (Ex.pres e).sqT (Ex.pres e).sL _ _ r⟩
    | ins C fs =>
      obtain ⟨dx, fs', e1, e2, e3, e4, r⟩ := z
      exact ⟨dx, fs', e _ _ e1, e2, e3, e4, fun j s x q' q2 => (r j s x q' q2).mono (Ex.pres e) (Pres.sL (Ex.pres e)) (Nat.le_refl _) (fun _ _ => rfl) fun _ => ⟨rfl, fun u z => e _ u z⟩⟩
  ij := R.ij

/-- an object's place is that of an object -/
theorem SR.at_live (R : SR F env h A σ H) : ∀ {p : Pl}, live env h p → ∃ o, H (A p) = some o ∧ (∀ vs, o ≠ .tup vs) ∧ ∀ b u, o ≠ .frz b u
  | .s i, ⟨s, e, m⟩ => by
    have z := R.sl i s e
    cases s with
    | l xs => obtain ⟨_, vs, e2, _⟩ := z; exact ⟨_, e2, fun _ q => (by cases q), fun _ _ q => (by cases q)⟩
    | k kvs => obtain ⟨_, vs, e2, _⟩ := z; exact ⟨_, e2, fun _ q => (by cases q), fun _ _ q => (by cases q)⟩
    | un => cases m
    | v x => cases m
  | .o n, hn => by
    have hn : n < h.length := hn
    have z := R.ob n _ (List.getElem?_eq_getElem hn)
    cases e : h[n] with
    | lst xs => rw [e] at z; obtain ⟨vs, e2, _⟩ := z; exact ⟨_, e2, fun _ q => (by cases q), fun _ _ q => (by cases q)⟩
    | ins C fs => rw [e] at z; obtain ⟨dx, fs', e2, _, _, _, _⟩ := z; exact ⟨_, e2, fun _ q => (by cases q), fun _ _ q => (by cases q)⟩
  | .f n j, ⟨c, fs, s, e1, e2, m⟩ => by
    obtain ⟨dx, fs', _, _, _, e4, r⟩ := R.ob n _ e1
    have hj : j < (F.G.nm c).length := by
      have := (List.getElem?_eq_some_iff.mp e2).1
      omega
    have z := r j s _ e2 (List.getElem?_eq_getElem hj)
    cases s with
    | l xs => obtain ⟨_, vs, e2, _⟩ := z; exact ⟨_, e2, fun _ q => (by cases q), fun _ _ q => (by cases q)⟩
    | k kvs => obtain ⟨_, vs, e2, _⟩ := z; exact ⟨_, e2, fun _ q => (by cases q), fun _ _ q => (by cases q)⟩
    | un => cases m
    | v x => cases m
theorem SR.fl_sq (R : SR F env h A σ H) (a : Addr) (vs : List V) (q : FL F H a vs) : SqL F.G.K H a vs := by
  rcases q with ⟨q | ⟨o, q⟩, w⟩ | q
  · exact .inl (.inl (R.fr a _ q w))
  · exact .inl (.inr ⟨o, R.fz a _ _ q⟩)
  · exact q.sq
/-- stable is momentary -/
theorem SR.mom (R : SR F env h A σ H) {n : Nat} {x : Val} {v : V} (q : RepV F.G (SqT F.G.K H) (FL F H) n A x v) : RepV F.G (SqT F.G.K H) (SqL F.G.K H) n A x v :=
  q.mono (fun _ _ z => z) R.fl_sq (Nat.le_refl _) fun _ _ => rfl

/-- what a callee's frame starts from -/
def Fm.cal (G : Glo) (rw : Bool) (h : Hs) (A : As) (H : Hp) : Fm := ⟨G, rw, h, A, H⟩
theorem SR.start (R : SR F env h A σ H) (rw : Bool) : SR (Fm.cal F.G rw h A H) [] h A [] H where
  fr := fun a o q _ => q
  tp := fun _ _ q => q
  fz := fun _ _ _ q => q
  dm := fun _ o q => ⟨o, q⟩
  le := fun _ => Nat.le_refl _
  oo := fun _ _ _ => rfl
  nw := fun hr p hp => .inl ⟨hr, p, hp, rfl⟩
  ow := fun i z => by obtain ⟨s, e, _⟩ := z; simp at e
  ln := rfl
  sl := fun i s e => by simp at e
  ob := R.ob
  ij := fun p q hp hq e => R.ij p q (by
    cases p with
    | s i => obtain ⟨s, e, _⟩ := hp; simp at e
    | o n => exact hp
    | f n x => exact hp) (by
    cases q with
    | s i => obtain ⟨s, e, _⟩ := hq; simp at e
    | o n => exact hq
    | f n x => exact hq) e
theorem SR.step_of {σ' : L2.St} (R : SR (Fm.cal F.G true h A H) env h' A' σ' H') : Step h A H h' A' H' where
  fr := fun a o e n => R.fr a o e fun ⟨_, p, hp, q⟩ => n p hp q
  tp := R.tp
  fz := R.fz
  dm := R.dm
  le := R.le rfl
  oo := R.oo rfl
  nw := fun p hp => by
    rcases R.nw rfl p hp with ⟨_, q, hq, e⟩ | z
    · exact .inl ⟨q, hq, e.symm⟩
    · exact .inr z
/-- the places behind a call: slots as they were -/
def As.back (A A' : As) : As := fun p => match p with
  | .s i => A (.s i)
  | p => A' p
theorem back_h {p : Pl} (hp : hlive h p) : As.back A A' p = A' p := by
  cases p with
  | s i => exact hp.elim
  | o n => rfl
  | f n x => rfl
/-- behind a call that may have written objects -/
theorem SR.call (R : SR F env h A σ H) (hw : F.rw = true) (s : Step h A H h' A' H')
    (ob : ∀ n o, h'[n]? = some o → ObOf F.G h'.length A' H' n o) (ij : ∀ p q, hlive h' p → hlive h' q → A' p = A' q → p = q) : SR F env h' (As.back A A') σ H' := by
  have nslot : ∀ i p, live env h (.s i) → hlive h' p → A (.s i) ≠ A' p := fun i p hi hp e => by
    obtain ⟨o, e1, _⟩ := R.at_live hi
    rcases s.nw p hp with ⟨q, hq, e2⟩ | z
    · have := R.ij _ _ hi hq.live (e.trans e2)
      subst this
      exact hq
    · rw [← e, e1] at z; cases z
  have kslot : ∀ i, live env h (.s i) → ∀ u, H (A (.s i)) = some u → H' (A (.s i)) = some u := fun i hi u e => s.fr _ u e fun p hp q => by
    have := R.ij _ _ hi hp.live q.symm
    subst this
    exact hp
  refine ⟨fun a o q w => ?_, fun a vs q => s.tp _ _ (R.tp a vs q), fun a o u q => s.fz _ _ _ (R.fz a o u q), fun a o q => (let ⟨o', e'⟩ := R.dm a o q; s.dm a o' e'), fun z => Nat.le_trans (R.le z) s.le, fun z m hm => ?_, fun z p hp => ?_, R.ow, R.ln, fun i sl q => ?_, fun n o q => ?_, fun p q hp hq e => ?_⟩
  · refine s.fr a o (R.fr a o q w) fun p hp e => ?_
    rcases R.nw hw p hp with z | z
    · exact w (e ▸ z)
    · rw [e, q] at z; cases z
  · exact (s.oo m (Nat.lt_of_lt_of_le hm (R.le z))).trans (R.oo z m hm)
  · rw [back_h hp]
    rcases s.nw p hp with ⟨q, hq, e⟩ | z'
    · rw [e]; exact R.nw z q hq
    · by_cases w : F.W (A' p)
      · exact .inl w
      · refine .inr ?_
        cases e : F.H0 (A' p) with
        | none => rfl
        | some o => have := R.fr _ o e w; rw [z'] at this; cases this
  · exact (R.sl i sl q).mono s.pres (Pres.fL s.pres) s.le s.oo fun m => ⟨rfl, kslot i ⟨sl, q, m⟩⟩
  · have z := ob n o q
    cases o with
    | lst xs => exact z
    | ins C fs =>
      obtain ⟨dx, fs', e1, e2, e3, e4, r⟩ := z
      exact ⟨dx, fs', e1, e2, e3, e4, fun j sl x q' q2 => (r j sl x q' q2).mono (Pres.refl _) (fun _ _ z => z) (Nat.le_refl _) (fun _ _ => rfl) fun _ => ⟨rfl, fun _ z => z⟩⟩
  · cases p with
    | s i =>
      cases q with
      | s j => exact R.ij _ _ hp hq e
      | o n => exact (nslot i (.o n) hp hq e).elim
      | f n x => exact (nslot i (.f n x) hp hq e).elim
    | o n =>
      cases q with
      | s j => exact (nslot j (.o n) hq hp e.symm).elim
      | o n => exact ij _ _ hp hq e
      | f n x => exact ij _ _ hp hq e
    | f n x =>
      cases q with
      | s j => exact (nslot j (.f n x) hq hp e.symm).elim
      | o n => exact ij _ _ hp hq e
      | f n x => exact ij _ _ hp hq e
end
end Sm

set_option Elab.async false
set_option linter.all false
set_option maxRecDepth 100000
set_option maxHeartbeats 1000000
namespace Sm
open PySem L2 Evl

section
variable {F : Fm} {env : En} {h h' : Hs} {A A' : As} {σ : L2.St} {H H' : Hp} {n' : Nat}
theorem Pres.upd {a : Addr} {o : HO} (q : ∀ u, H a = some u → (∀ vs, u ≠ .tup vs) ∧ ∀ b w, u ≠ .frz b w) : Pres H (upd H a o) := by
  refine ⟨fun b vs e => ?_, fun b ob u e => ?_⟩
  · by_cases hb : b = a
    · subst hb; exact absurd rfl ((q _ e).1 vs)
    · rw [upd_ne hb]; exact e
  · by_cases hb : b = a
    · subst hb; exact absurd rfl ((q _ e).2 ob u)
    · rw [upd_ne hb]; exact e
theorem SR.pres_at (R : SR F env h A σ H) {p : Pl} {o : HO} (hp : live env h p) : Pres H (upd H (A p) o) := Pres.upd fun u e => by
  obtain ⟨u', e', z⟩ := R.at_live hp
  rw [e] at e'; cases e'
  exact z
theorem dm_upd {a : Addr} {o : HO} : ∀ b u, H b = some u → ∃ u', (upd H a o) b = some u' := fun b u e => by
  by_cases hb : b = a
  · subst hb; exact ⟨o, upd_same⟩
  · exact ⟨u, by rw [upd_ne hb]; exact e⟩
theorem SR.sl_keep (R : SR F env h A σ H) (P : Pres H H') (hn : h.length ≤ n') (ho : ∀ m, m < h.length → A' (.o m) = A (.o m)) {i : Nat} {s : Sl} (e : env[i]? = some s)
    (k : isMut s = true → A' (.s i) = A (.s i) ∧ ∀ u, H (A (.s i)) = some u → H' (A (.s i)) = some u) : SlOf F.G (FL F H') n' A' H' (A' (.s i)) s (σ[i]?.join) :=
  (R.sl i s e).mono P (Pres.fL P) hn ho k
theorem SR.ob_keep (R : SR F env h A σ H) (P : Pres H H') (hn : h.length ≤ n') (ho : ∀ m, m < h.length → A' (.o m) = A (.o m)) {n : Nat} {o : Ob} (e : h[n]? = some o)
    (k0 : ∀ u, H (A (.o n)) = some u → H' (A (.o n)) = some u) (kf : ∀ j, hlive h (.f n j) → A' (.f n j) = A (.f n j) ∧ ∀ u, H (A (.f n j)) = some u → H' (A (.f n j)) = some u) : ObOf F.G n' A' H' n o := by
  have z := R.ob n o e
  have hl : n < h.length := (List.getElem?_eq_some_iff.mp e).1
  cases o with
  | lst xs =>
    obtain ⟨vs, e1, r⟩ := z
    exact ⟨vs, by rw [ho n hl]; exact k0 _ e1, RepAll.mono P.sqT P.sL _ _ r⟩
  | ins c fs =>
    obtain ⟨dx, fs', e1, e2, e3, e4, r⟩ := z
    exact ⟨dx, fs', by rw [ho n hl]; exact k0 _ e1, e2, e3, e4, fun j s x q q2 => (r j s x q q2).mono P (Pres.sL P) hn ho fun m => kf j ⟨c, fs, s, e, q, m⟩⟩
theorem get_set {α : Type} {l : List α} {i j : Nat} {x y : α} (e : (l.set i x)[j]? = some y) : (j = i ∧ y = x ∧ i < l.length) ∨ (j ≠ i ∧ l[j]? = some y) := by
  by_cases hj : j = i
  · subst hj
    by_cases hl : j < l.length
    · rw [List.getElem?_set_self hl] at e; cases e; exact .inl ⟨rfl, rfl, hl⟩
    · rw [List.getElem?_eq_none (by simpa using hl)] at e; cases e
  · rw [List.getElem?_set_ne (Ne.symm hj)] at e
    exact .inr ⟨hj, e⟩
theorem live_set {i : Nat} {s' : Sl} {p : Pl} (hp : live (env.set i s') h p) : (p = .s i ∧ isMut s' = true ∧ i < env.length) ∨ (p ≠ .s i ∧ live env h p) := by
  cases p with
  | s j =>
    obtain ⟨s, e, m⟩ := hp
    rcases get_set e with ⟨rfl, rfl, hl⟩ | ⟨hj, e⟩
    · exact .inl ⟨rfl, m, hl⟩
    · exact .inr ⟨fun q => hj (by cases q; rfl), s, e, m⟩
  | o n => exact .inr ⟨fun q => (by cases q), hp⟩
  | f n j => exact .inr ⟨fun q => (by cases q), hp⟩
theorem live_nil {i : Nat} : live env [] (.s i) ↔ live env h (.s i) := Iff.rfl

/-- a slot is given something that is not its own list -/
theorem SR.setG {i : Nat} {s' : Sl} {σ' : L2.St} (R : SR F env h A σ H) (hm : isMut s' = false) (hl : σ'.length = σ.length) (hσ : ∀ j, j ≠ i → σ'[j]? = σ[j]?)
    (hs : i < env.length → SlOf F.G (FL F H) h.length A H (A (.s i)) s' (σ'[i]?.join)) : SR F (env.set i s') h A σ' H where
  fr := R.fr
  tp := R.tp
  fz := R.fz
  dm := R.dm
  le := R.le
  oo := R.oo
  nw := R.nw
  ow := fun j q => by
    rcases live_set q with ⟨_, m, _⟩ | ⟨_, q⟩
    · rw [hm] at m; cases m
    · exact R.ow j q
  ln := by rw [hl, R.ln, List.length_set]
  sl := fun j s e => by
    rcases get_set e with ⟨rfl, rfl, z⟩ | ⟨hj, e⟩
    · exact hs z
    · rw [hσ j hj]; exact R.sl j s e
  ob := R.ob
  ij := fun p q hp hq e => by
    rcases live_set hp with ⟨_, m, _⟩ | ⟨_, hp⟩
    · rw [hm] at m; cases m
    · rcases live_set hq with ⟨_, m, _⟩ | ⟨_, hq⟩
      · rw [hm] at m; cases m
      · exact R.ij p q hp hq e
theorem SR.setV {i : Nat} {x : Val} {v : V} (R : SR F env h A σ H) (r : RepV F.G (SqT F.G.K H) (FL F H) h.length A x v) : SR F (env.set i (.v x)) h A (σ.set i (some v)) H :=
  R.setG rfl (by simp) (fun j hj => List.getElem?_set_ne (Ne.symm hj)) fun hi => ⟨v, by rw [List.getElem?_set_self (by rw [R.ln]; exact hi)]; rfl, r⟩
theorem SR.setUn {i : Nat} (R : SR F env h A σ H) : SR F (env.set i .un) h A σ H := R.setG rfl rfl (fun _ _ => rfl) fun _ => trivial
theorem SR.setUn' {i : Nat} {o : Option V} (R : SR F env h A σ H) : SR F (env.set i .un) h A (σ.set i o) H := R.setG rfl (by simp) (fun j hj => List.getElem?_set_ne (Ne.symm hj)) fun _ => trivial

/-- a fresh thing is nobody's -/
structure Fresh (F : Fm) (env : En) (h : Hs) (A : As) (p : Addr) : Prop where
  f0 : F.H0 p = none
  fp : ∀ q, live env h q → A q ≠ p
theorem SR.fresh (R : SR F env h A σ H) {p : Addr} (e : H p = none) : Fresh F env h A p where
  f0 := by
    cases q : F.H0 p with
    | none => rfl
    | some o => obtain ⟨o', e'⟩ := R.dm p o q; rw [e] at e'; cases e'
  fp := fun q hq z => by
    obtain ⟨o, e', _⟩ := R.at_live hq
    rw [z, e] at e'; cases e'
def As.put (A : As) (p : Pl) (a : Addr) : As := fun q => if q = p then a else A q
theorem As.put_same {p : Pl} {a : Addr} : As.put A p a p = a := if_pos rfl
theorem As.put_ne {p q : Pl} {a : Addr} (h : q ≠ p) : As.put A p a q = A q := if_neg h
/-- a slot is given a list (dict) of its own, fresh -/
theorem SR.setNew {i : Nat} {s' : Sl} {p : Addr} (R : SR F env h A σ H) (f : Fresh F env h A p) (hm : isMut s' = true)
    (hs : SlOf F.G (FL F H) h.length (As.put A (.s i) p) H p s' (some (.ref p))) : SR F (env.set i s') h (As.put A (.s i) p) (σ.set i (some (.ref p))) H where
  fr := R.fr
  tp := R.tp
  fz := R.fz
  dm := R.dm
  le := R.le
  oo := fun z m hh => by rw [As.put_ne (by intro q; cases q)]; exact R.oo z m hh
  nw := fun z q hq => by rw [As.put_ne (by intro e; subst e; exact hq)]; exact R.nw z q hq
  ow := fun j q => by
    rcases live_set q with ⟨e, m, _⟩ | ⟨e, q⟩
    · rw [e, As.put_same]; exact f.f0
    · rw [As.put_ne e]; exact R.ow j q
  ln := by simp [R.ln]
  sl := fun j s e => by
    rcases get_set e with ⟨rfl, rfl, z⟩ | ⟨hj, e⟩
    · rw [As.put_same, List.getElem?_set_self (by rw [R.ln]; exact z)]; exact hs
    · rw [List.getElem?_set_ne (Ne.symm hj)]
      exact R.sl_keep (Pres.refl _) (Nat.le_refl _) (fun m _ => As.put_ne (by intro q; cases q)) e fun _ => ⟨As.put_ne (by intro q; cases q; exact hj rfl), fun _ z => z⟩
  ob := fun n o e => R.ob_keep (Pres.refl _) (Nat.le_refl _) (fun m _ => As.put_ne (by intro q; cases q)) e (fun _ z => z) fun j _ => ⟨As.put_ne (by intro q; cases q), fun _ z => z⟩
  ij := fun q r hq hr e => by
    rcases live_set hq with ⟨e1, _, _⟩ | ⟨e1, hq⟩
    · rcases live_set hr with ⟨e2, _, _⟩ | ⟨e2, hr⟩
      · exact e1.trans e2.symm
      · rw [e1, As.put_same, As.put_ne e2] at e; exact absurd e.symm (f.fp r hr)
    · rcases live_set hr with ⟨e2, _, _⟩ | ⟨e2, hr⟩
      · rw [e2, As.put_same, As.put_ne e1] at e; exact absurd e (f.fp q hq)
      · rw [As.put_ne e1, As.put_ne e2] at e; exact R.ij q r hq hr e

/-- a slot's own list is changed in place -/
theorem SR.putS {i : Nat} {s s' : Sl} {o : HO} (R : SR F env h A σ H) (hi : env[i]? = some s) (hm : isMut s = true) (hm' : isMut s' = true)
    (hs : SlOf F.G (FL F (upd H (A (.s i)) o)) h.length A (upd H (A (.s i)) o) (A (.s i)) s' (σ[i]?.join)) : SR F (env.set i s') h A σ (upd H (A (.s i)) o) := by
  have hp : live env h (.s i) := ⟨s, hi, hm⟩
  have P : Pres H (upd H (A (.s i)) o) := R.pres_at hp
  have oth : ∀ q, live env h q → q ≠ .s i → ∀ u, H (A q) = some u → (upd H (A (.s i)) o) (A q) = some u := fun q hq hn u e => by
    rw [upd_ne (fun z => hn (R.ij _ _ hq hp z))]; exact e
  have lv : ∀ q, live (env.set i s') h q → live env h q := fun q hq => by
    rcases live_set hq with ⟨e, _, _⟩ | ⟨_, q⟩
    · rw [e]; exact hp
    · exact q
  refine ⟨fun a u q w => ?_, fun a vs q => P.1 _ _ (R.tp a vs q), fun a b u q => P.2 _ _ _ (R.fz a b u q), fun a u q => ?_, R.le, R.oo, R.nw, fun j q => R.ow j (lv (.s j) q), by rw [R.ln, List.length_set], fun j t e => ?_, fun n b e => ?_, fun p q hp hq e => R.ij p q (lv _ hp) (lv _ hq) e⟩
  · rw [upd_ne (fun z => by rw [z, R.ow i hp] at q; cases q)]; exact R.fr a u q w
  · obtain ⟨u', e⟩ := R.dm a u q; exact dm_upd a u' e
  · rcases get_set e with ⟨rfl, rfl, z⟩ | ⟨hj, e⟩
    · exact hs
    · exact R.sl_keep P (Nat.le_refl _) (fun _ _ => rfl) e fun m => ⟨rfl, fun u z => oth (.s j) ⟨t, e, m⟩ (by intro q; cases q; exact hj rfl) u z⟩
  · exact R.ob_keep P (Nat.le_refl _) (fun _ _ => rfl) e (fun u z => oth _ (hlive.live (show hlive h (.o n) from (List.getElem?_eq_some_iff.mp e).1)) (by intro q; cases q) u z) fun j hj => ⟨rfl, fun u z => oth _ hj.live (by intro q; cases q) u z⟩

/-- a slot's own list is locked for ever -/
theorem SR.lockS {i : Nat} {xs : List PyData} {vs : List V} {o : Obj} (R : SR F env h A σ H) (hi : env[i]? = some (.l xs)) (hv : H (A (.s i)) = some (.lst vs)) : SR F (env.set i (.d (.list xs))) h A σ (upd H (A (.s i)) (.frz o (.lst vs))) := by
  have hp : live env h (.s i) := ⟨_, hi, rfl⟩
  have P : Pres H (upd H (A (.s i)) (.frz o (.lst vs))) := R.pres_at hp
  have oth : ∀ q, live env h q → q ≠ .s i → ∀ u, H (A q) = some u → (upd H (A (.s i)) (.frz o (.lst vs))) (A q) = some u := fun q hq hn u e => by
    rw [upd_ne (fun z => hn (R.ij _ _ hq hp z))]; exact e
  have lv : ∀ q, live (env.set i (.d (.list xs))) h q → q ≠ .s i ∧ live env h q := fun q hq => by
    rcases live_set hq with ⟨e, m, _⟩ | q
    · cases m
    · exact q
  refine ⟨fun a u q w => ?_, fun a vs q => P.1 _ _ (R.tp a vs q), fun a b u q => P.2 _ _ _ (R.fz a b u q), fun a u q => ?_, R.le, R.oo, R.nw, fun j q => R.ow j (lv (.s j) q).2, by rw [R.ln, List.length_set], fun j t e => ?_, fun n b e => ?_, fun p q hp hq e => R.ij p q (lv _ hp).2 (lv _ hq).2 e⟩
  · rw [upd_ne (fun z => by rw [z, R.ow i hp] at q; cases q)]; exact R.fr a u q w
  · obtain ⟨u', e⟩ := R.dm a u q; exact dm_upd a u' e
  · rcases get_set e with ⟨rfl, rfl, z⟩ | ⟨hj, e⟩
    · obtain ⟨e1, vs', e2, r⟩ := R.sl j _ hi
      rw [hv] at e2; cases e2
      refine ⟨_, e1, ?_⟩
      show Rep _ _ (.list xs) _
      simp only [Rep]
      exact ⟨_, vs, rfl, .inr (.inl ⟨o, upd_same⟩), RepAll.mono P.sqT (fun a vs z => .inr (P.sL a vs z)) _ _ r⟩
    · exact R.sl_keep P (Nat.le_refl _) (fun _ _ => rfl) e fun m => ⟨rfl, fun u z => oth (.s j) ⟨t, e, m⟩ (by intro q; cases q; exact hj rfl) u z⟩
  · exact R.ob_keep P (Nat.le_refl _) (fun _ _ => rfl) e (fun u z => oth _ (hlive.live (show hlive h (.o n) from (List.getElem?_eq_some_iff.mp e).1)) (by intro q; cases q) u z) fun j hj => ⟨rfl, fun u z => oth _ hj.live (by intro q; cases q) u z⟩
end
end Sm

set_option Elab.async false
set_option linter.all false
set_option maxRecDepth 100000
set_option maxHeartbeats 1000000
namespace Sm
open PySem L2 Evl

section
variable {F : Fm} {env : En} {h h' : Hs} {A A' : As} {σ : L2.St} {H H' : Hp} {n' : Nat}
theorem SR.w_at (R : SR F env h A σ H) (hw : F.rw = true) {p : Pl} (hp : hlive h p) {o : HO} : ∀ a u, F.H0 a = some u → ¬ F.W a → upd H (A p) o a = some u := fun a u q w => by
  rw [upd_ne (fun z => ?_)]
  · exact R.fr a u q w
  · rcases R.nw hw p hp with z' | z'
    · rw [z] at w; exact w z'
    · rw [z, z'] at q; cases q
theorem SR.dm_at (R : SR F env h A σ H) {p : Addr} {o : HO} : ∀ a u, F.H0 a = some u → ∃ u', upd H p o a = some u' := fun a u q => by
  obtain ⟨u', e⟩ := R.dm a u q
  exact dm_upd a u' e
theorem lookup_none {fs : List (Str × V)} {g : Str} (hg : g ∉ fs.map (·.1)) : fs.lookup g = none := by
  induction fs with
  | nil => rfl
  | cons p r ih =>
    obtain ⟨k, x⟩ := p
    simp only [List.map_cons, List.mem_cons, not_or] at hg
    have hb : (g == k) = false := beq_eq_false_iff_ne.mpr hg.1
    simp only [List.lookup, hb]
    exact ih hg.2
theorem putF_keys {x : Str} {v : V} : ∀ {fs : List (Str × V)} {g : Str}, g ∈ (putF x v fs).map (·.1) → g = x ∨ g ∈ fs.map (·.1)
  | [], g, h => by simp [putF] at h; exact .inl h
  | (k, y) :: r, g, h => by
    rw [show putF x v ((k, y) :: r) = (if k = x then (k, v) :: r else (k, y) :: putF x v r) from rfl] at h
    by_cases hk : k = x
    · rw [if_pos hk] at h; exact .inr (by simpa using h)
    · rw [if_neg hk, List.map_cons] at h
      rcases List.mem_cons.mp h with e | e
      · exact .inr (by simp [e])
      · rcases putF_keys e with e | e
        · exact .inl e
        · exact .inr (by rw [List.map_cons]; exact List.mem_cons_of_mem _ e)
theorem putF_nodup {x : Str} {v : V} : ∀ {fs : List (Str × V)}, (fs.map (·.1)).Nodup → ((putF x v fs).map (·.1)).Nodup
  | [], _ => by simp [putF]
  | (k, y) :: r, hn => by
    rw [show putF x v ((k, y) :: r) = (if k = x then (k, v) :: r else (k, y) :: putF x v r) from rfl]
    rw [List.map_cons, List.nodup_cons] at hn
    by_cases hk : k = x
    · rw [if_pos hk, List.map_cons, List.nodup_cons]; exact hn
    · rw [if_neg hk, List.map_cons, List.nodup_cons]
      refine ⟨fun z => ?_, putF_nodup hn.2⟩
      rcases putF_keys z with e | e
      · exact hk e
      · exact hn.1 e
theorem keys_len {G : Glo} {c : Nat} {fs' : List (Str × V)} (e2 : (fs'.map (·.1)).Nodup) (e3 : ∀ g, g ∈ fs'.map (·.1) → g ∈ G.nm c) : fs'.length < 1000 := by
  have h1 : (fs'.map (·.1)).length ≤ (G.nm c).length := PySem.length_le_of_nodup_of_subset _ _ e2 e3
  have h2 := G.sz c
  rw [List.length_map] at h1
  omega
theorem nm_inj {G : Glo} {c j k : Nat} {x : Str} (e : (G.nm c)[j]? = some x) (e' : (G.nm c)[k]? = some x) : j = k := nodup_ix (G.nd c) e e'

/-- a list object is changed -/
theorem SR.putO {n : Nat} {xs xs' : List PyData} {vs' : List V} (R : SR F env h A σ H) (hw : F.rw = true) (hn : h[n]? = some (.lst xs)) (r : RepAll (SqT F.G.K H) (SL F.G.K H) xs' vs') :
    SR F env (h.set n (.lst xs')) A σ (upd H (A (.o n)) (.lst vs')) := by
  have hlt : n < h.length := (List.getElem?_eq_some_iff.mp hn).1
  have hp : hlive h (.o n) := hlt
  have P : Pres H (upd H (A (.o n)) (.lst vs')) := R.pres_at hp.live
  have oth : ∀ q, live env h q → q ≠ .o n → ∀ u, H (A q) = some u → (upd H (A (.o n)) (.lst vs')) (A q) = some u := fun q hq hne u e => by
    rw [upd_ne (fun z => hne (R.ij _ _ hq hp.live z))]; exact e
  have hlv : ∀ q, hlive (h.set n (.lst xs')) q → hlive h q := fun q hq => by
    cases q with
    | s i => exact hq
    | o m => simpa [hlive] using hq
    | f m j =>
      obtain ⟨c, fs, s, e1, e2, m'⟩ := hq
      rcases get_set e1 with ⟨_, e, _⟩ | ⟨_, e⟩
      · cases e
      · exact ⟨c, fs, s, e, e2, m'⟩
  have lv : ∀ q, live env (h.set n (.lst xs')) q → live env h q := fun q hq => by
    cases q with
    | s i => exact hq
    | o m => exact (hlv (.o m) hq).live
    | f m j => exact (hlv (.f m j) hq).live
  have hL : (h.set n (.lst xs')).length = h.length := List.length_set ..
  refine ⟨R.w_at hw hp, fun a vs q => P.1 _ _ (R.tp a vs q), fun a b u q => P.2 _ _ _ (R.fz a b u q), R.dm_at, fun z => by rw [hL]; exact R.le z, R.oo, fun z q hq => R.nw z q (hlv q hq), R.ow, R.ln, fun i s e => ?_, fun m b e => ?_, fun p q hp hq e => R.ij p q (lv _ hp) (lv _ hq) e⟩
  · rw [hL]
    exact R.sl_keep P (Nat.le_refl _) (fun _ _ => rfl) e fun m => ⟨rfl, fun u z => oth (.s i) ⟨s, e, m⟩ (by intro q; cases q) u z⟩
  · rw [hL]
    rcases get_set e with ⟨rfl, rfl, _⟩ | ⟨hm, e⟩
    · exact ⟨vs', upd_same, RepAll.mono P.sqT P.sL _ _ r⟩
    · exact R.ob_keep P (Nat.le_refl _) (fun _ _ => rfl) e (fun u z => oth (.o m) (List.getElem?_eq_some_iff.mp e).1 (by intro q; cases q; exact hm rfl) u z) fun j hj => ⟨rfl, fun u z => oth _ hj.live (by intro q; cases q) u z⟩

/-- which places live behind a change of an attribute -/
theorem hlive_setF {n j : Nat} {c : Nat} {fs : List Sl} {s' : Sl} (hn : h[n]? = some (.ins c fs)) {q : Pl} (hq : hlive (h.set n (.ins c (fs.set j s'))) q) : (q = .f n j ∧ isMut s' = true) ∨ (q ≠ .f n j ∧ hlive h q) := by
  cases q with
  | s i => exact hq.elim
  | o m => exact .inr ⟨fun z => (by cases z), by simpa [hlive] using hq⟩
  | f m k =>
    obtain ⟨c', fs1, s, e1, e2, m'⟩ := hq
    rcases get_set e1 with ⟨rfl, e, _⟩ | ⟨hm, e⟩
    · cases e
      rcases get_set e2 with ⟨rfl, rfl, _⟩ | ⟨hk, e2⟩
      · exact .inl ⟨rfl, m'⟩
      · exact .inr ⟨fun z => hk (by cases z; rfl), c, fs, s, hn, e2, m'⟩
    · exact .inr ⟨fun z => hm (by cases z; rfl), _, fs1, s, e, e2, m'⟩
theorem live_setF {n j : Nat} {c : Nat} {fs : List Sl} {s' : Sl} (hn : h[n]? = some (.ins c fs)) {q : Pl} (hq : live env (h.set n (.ins c (fs.set j s'))) q) : (q = .f n j ∧ isMut s' = true) ∨ (q ≠ .f n j ∧ live env h q) := by
  cases q with
  | s i => exact .inr ⟨fun z => (by cases z), hq⟩
  | o m => rcases hlive_setF hn (q := .o m) hq with z | ⟨z, y⟩; exact .inl z; exact .inr ⟨z, y.live⟩
  | f m k => rcases hlive_setF hn (q := .f m k) hq with z | ⟨z, y⟩; exact .inl z; exact .inr ⟨z, y.live⟩

/-- an attribute is given something: a value, or a list (dict) of its own that is nobody's, at p -/
theorem SR.setF {n j : Nat} {c : Nat} {fs : List Sl} {s' : Sl} {x : Str} {v : V} {dx : Addr} {fs' : List (Str × V)} {p : Addr} (R : SR F env h A σ H) (hw : F.rw = true) (hn : h[n]? = some (.ins c fs)) (hx : (F.G.nm c)[j]? = some x)
    (hH : H (A (.o n)) = some (.ins (F.G.cl c) dx fs')) (f : isMut s' = true → Fresh F env h A p)
    (hs : SlOf F.G (SL F.G.K H) h.length (As.put A (.f n j) p) H p s' (some v)) :
    SR F env (h.set n (.ins c (fs.set j s'))) (As.put A (.f n j) p) σ (upd H (A (.o n)) (.ins (F.G.cl c) dx (putF x v fs'))) := by
  have hlt : n < h.length := (List.getElem?_eq_some_iff.mp hn).1
  have hp : hlive h (.o n) := hlt
  have P : Pres H (upd H (A (.o n)) (.ins (F.G.cl c) dx (putF x v fs'))) := R.pres_at hp.live
  have oth : ∀ q, live env h q → q ≠ .o n → ∀ u, H (A q) = some u → (upd H (A (.o n)) (.ins (F.G.cl c) dx (putF x v fs'))) (A q) = some u := fun q hq hne u e => by
    rw [upd_ne (fun z => hne (R.ij _ _ hq hp.live z))]; exact e
  have hL : (h.set n (.ins c (fs.set j s'))).length = h.length := List.length_set ..
  have ho : ∀ m, m < h.length → As.put A (.f n j) p (.o m) = A (.o m) := fun m _ => As.put_ne (by intro q; cases q)
  refine ⟨R.w_at hw hp, fun a vs q => P.1 _ _ (R.tp a vs q), fun a b u q => P.2 _ _ _ (R.fz a b u q), R.dm_at, fun z => by rw [hL]; exact R.le z, fun z m hm => ?_, fun z q hq => ?_, fun i q => ?_, R.ln, fun i s e => ?_, fun m b e => ?_, fun q r hq hr e => ?_⟩
  · rw [As.put_ne (by intro q; cases q)]; exact R.oo z m hm
  · rcases hlive_setF hn hq with ⟨rfl, m⟩ | ⟨hne, hq⟩
    · rw [As.put_same]; exact .inr (f m).f0
    · rw [As.put_ne hne]; exact R.nw z q hq
  · rw [As.put_ne (by intro q; cases q)]; exact R.ow i q
  · rw [hL]
    exact R.sl_keep P (Nat.le_refl _) ho e fun m => ⟨As.put_ne (by intro q; cases q), fun u z => oth (.s i) ⟨s, e, m⟩ (by intro q; cases q) u z⟩
  · rw [hL]
    rcases get_set e with ⟨rfl, rfl, _⟩ | ⟨hm, e⟩
    · obtain ⟨dx0, fs0, e1, e2, e3, e4, r⟩ := R.ob m _ hn
      rw [hH] at e1; cases e1
      refine ⟨dx, _, by rw [ho m hlt]; exact upd_same, putF_nodup e2, fun g hg => ?_, by rw [List.length_set]; exact e4, fun k s y q q2 => ?_⟩
      · rcases putF_keys hg with e | e
        · rw [e]; exact List.mem_of_getElem? hx
        · exact e3 g e
      · rw [lookup_putF]
        rcases get_set q with ⟨rfl, rfl, _⟩ | ⟨hk, q⟩
        · rw [hx] at q2; cases q2
          rw [if_pos rfl, As.put_same]
          refine hs.mono P (Pres.sL P) (Nat.le_refl _) (fun _ _ => rfl) fun m => ⟨rfl, fun u z => ?_⟩
          rw [upd_ne (fun z' => (f m).fp _ hp.live z'.symm)]; exact z
        · rw [if_neg (fun z : y = x => hk (nm_inj (z ▸ q2) hx))]
          exact (r k s y q q2).mono P (Pres.sL P) (Nat.le_refl _) ho fun m' => ⟨As.put_ne (by intro z; cases z; exact hk rfl), fun u z => oth (.f m k) ⟨c, fs, s, hn, q, m'⟩ (by intro z; cases z) u z⟩
    · exact R.ob_keep P (Nat.le_refl _) ho e (fun u z => oth (.o m) (List.getElem?_eq_some_iff.mp e).1 (by intro q; cases q; exact hm rfl) u z) fun k hk => ⟨As.put_ne (by intro z; cases z; exact hm rfl), fun u z => oth _ hk.live (by intro q; cases q) u z⟩
  · rcases live_setF hn hq with ⟨e1, m⟩ | ⟨e1, hq⟩
    · rcases live_setF hn hr with ⟨e2, _⟩ | ⟨e2, hr⟩
      · exact e1.trans e2.symm
      · rw [e1, As.put_same, As.put_ne e2] at e; exact absurd e.symm ((f m).fp r hr)
    · rcases live_setF hn hr with ⟨e2, m⟩ | ⟨e2, hr⟩
      · rw [e2, As.put_same, As.put_ne e1] at e; exact absurd e ((f m).fp q hq)
      · rw [As.put_ne e1, As.put_ne e2] at e; exact R.ij q r hq hr e

/-- an attribute's own list (dict) is changed in place, or locked -/
theorem SR.putFl {n j : Nat} {c : Nat} {fs : List Sl} {s s' : Sl} {o : HO} (R : SR F env h A σ H) (hw : F.rw = true) (hn : h[n]? = some (.ins c fs)) (hj : fs[j]? = some s) (hm : isMut s = true)
    (hs : ∀ y, SlOf F.G (SL F.G.K H) h.length A H (A (.f n j)) s y → SlOf F.G (SL F.G.K (upd H (A (.f n j)) o)) h.length A (upd H (A (.f n j)) o) (A (.f n j)) s' y) :
    SR F env (h.set n (.ins c (fs.set j s'))) A σ (upd H (A (.f n j)) o) := by
  have hlt : n < h.length := (List.getElem?_eq_some_iff.mp hn).1
  have hp : hlive h (.f n j) := ⟨c, fs, s, hn, hj, hm⟩
  have P : Pres H (upd H (A (.f n j)) o) := R.pres_at hp.live
  have oth : ∀ q, live env h q → q ≠ .f n j → ∀ u, H (A q) = some u → (upd H (A (.f n j)) o) (A q) = some u := fun q hq hne u e => by
    rw [upd_ne (fun z => hne (R.ij _ _ hq hp.live z))]; exact e
  have hL : (h.set n (.ins c (fs.set j s'))).length = h.length := List.length_set ..
  have hlv : ∀ q, hlive (h.set n (.ins c (fs.set j s'))) q → hlive h q := fun q hq => by
    rcases hlive_setF hn hq with ⟨rfl, _⟩ | ⟨_, z⟩
    · exact hp
    · exact z
  have lv : ∀ q, live env (h.set n (.ins c (fs.set j s'))) q → live env h q := fun q hq => by
    rcases live_setF hn hq with ⟨rfl, _⟩ | ⟨_, z⟩
    · exact hp.live
    · exact z
  refine ⟨R.w_at hw hp, fun a vs q => P.1 _ _ (R.tp a vs q), fun a b u q => P.2 _ _ _ (R.fz a b u q), R.dm_at, fun z => by rw [hL]; exact R.le z, R.oo, fun z q hq => R.nw z q (hlv q hq), R.ow, R.ln, fun i s e => ?_, fun m b e => ?_, fun q r hq hr e => R.ij q r (lv _ hq) (lv _ hr) e⟩
  · rw [hL]
    exact R.sl_keep P (Nat.le_refl _) (fun _ _ => rfl) e fun m => ⟨rfl, fun u z => oth (.s i) ⟨s, e, m⟩ (by intro q; cases q) u z⟩
  · rw [hL]
    rcases get_set e with ⟨rfl, rfl, _⟩ | ⟨hne, e⟩
    · obtain ⟨dx, fs', e1, e2, e3, e4, r⟩ := R.ob m _ hn
      refine ⟨dx, fs', oth (.o m) hlt (by intro q; cases q) _ e1, e2, e3, by rw [List.length_set]; exact e4, fun k t y q q2 => ?_⟩
      rcases get_set q with ⟨rfl, rfl, _⟩ | ⟨hk, q⟩
      · exact hs _ (r k s y hj q2)
      · exact (r k t y q q2).mono P (Pres.sL P) (Nat.le_refl _) (fun _ _ => rfl) fun m' => ⟨rfl, fun u z => oth (.f m k) ⟨c, fs, t, hn, q, m'⟩ (by intro z; cases z; exact hk rfl) u z⟩
    · exact R.ob_keep P (Nat.le_refl _) (fun _ _ => rfl) e (fun u z => oth (.o m) (List.getElem?_eq_some_iff.mp e).1 (by intro q; cases q) u z) fun k hk => ⟨rfl, fun u z => oth _ hk.live (by intro q; cases q; exact hne rfl) u z⟩

/-- a new object, at p -/
theorem SR.alloc {o : Ob} {p : Addr} (R : SR F env h A σ H) (f : Fresh F env h A p) (hq : ∀ j, ¬ hlive [o] (.f 0 j)) (ho : ObOf F.G (h.length + 1) (As.put A (.o h.length) p) H h.length o) : SR F env (h ++ [o]) (As.put A (.o h.length) p) σ H := by
  have hL : (h ++ [o]).length = h.length + 1 := by simp
  have hA : ∀ m, m < h.length → As.put A (.o h.length) p (.o m) = A (.o m) := fun m hm => As.put_ne (by intro q; cases q; exact absurd hm (Nat.lt_irrefl _))
  have hlv : ∀ q, hlive (h ++ [o]) q → q = .o h.length ∨ (q ≠ .o h.length ∧ hlive h q) := fun q z => by
    cases q with
    | s i => exact z.elim
    | o m =>
      have z : m < (h ++ [o]).length := z
      rw [hL] at z
      by_cases e : m = h.length
      · exact .inl (by rw [e])
      · exact .inr ⟨fun q => e (by cases q; rfl), (by omega : m < h.length)⟩
    | f m j =>
      obtain ⟨c, fs, s, e1, e2, m'⟩ := z
      refine .inr ⟨fun q => (by cases q), ?_⟩
      by_cases e : m < h.length
      · rw [List.getElem?_append_left e] at e1; exact ⟨c, fs, s, e1, e2, m'⟩
      · rw [List.getElem?_append_right (by omega)] at e1
        have e0 : m - h.length = 0 := by
          have := (List.getElem?_eq_some_iff.mp e1).1
          simp at this; omega
        rw [e0] at e1
        exact absurd (show hlive [o] (.f 0 j) from ⟨c, fs, s, e1, e2, m'⟩) (hq j)
  have lv : ∀ q, live env (h ++ [o]) q → q = .o h.length ∨ (q ≠ .o h.length ∧ live env h q) := fun q z => by
    cases q with
    | s i => exact .inr ⟨fun q => (by cases q), z⟩
    | o m => rcases hlv (.o m) z with z | ⟨z, y⟩; exact .inl z; exact .inr ⟨z, y.live⟩
    | f m j => rcases hlv (.f m j) z with z | ⟨z, y⟩; exact .inl z; exact .inr ⟨z, y.live⟩
  refine ⟨R.fr, R.tp, R.fz, R.dm, fun z => Nat.le_trans (R.le z) (by rw [hL]; omega), fun z m hm => ?_, fun z q hq => ?_, fun i q => ?_, R.ln, fun i s e => ?_, fun m b e => ?_, fun q r hq hr e => ?_⟩
  · rw [hA m (Nat.lt_of_lt_of_le hm (R.le z))]; exact R.oo z m hm
  · rcases hlv q hq with rfl | ⟨hne, hq⟩
    · rw [As.put_same]; exact .inr f.f0
    · rw [As.put_ne hne]; exact R.nw z q hq
  · rw [As.put_ne (by intro q; cases q)]; exact R.ow i q
  · exact R.sl_keep (Pres.refl _) (by rw [hL]; omega) hA e fun m => ⟨As.put_ne (by intro q; cases q), fun _ z => z⟩
  · by_cases hm : m < h.length
    · rw [List.getElem?_append_left hm] at e
      exact R.ob_keep (Pres.refl _) (by rw [hL]; omega) hA e (fun _ z => z) fun j _ => ⟨As.put_ne (by intro q; cases q), fun _ z => z⟩
    · rw [List.getElem?_append_right (by omega)] at e
      have e0 : m - h.length = 0 := by
        have := (List.getElem?_eq_some_iff.mp e).1
        simp at this; omega
      rw [e0] at e
      simp at e
      subst e
      have : m = h.length := by omega
      subst this
      rw [hL]; exact ho
  · rcases lv q hq with e1 | ⟨e1, hq⟩
    · rcases lv r hr with e2 | ⟨e2, hr⟩
      · exact e1.trans e2.symm
      · rw [e1, As.put_same, As.put_ne e2] at e; exact absurd e.symm (f.fp r hr)
    · rcases lv r hr with e2 | ⟨e2, hr⟩
      · rw [e2, As.put_same, As.put_ne e1] at e; exact absurd e (f.fp q hq)
      · rw [As.put_ne e1, As.put_ne e2] at e; exact R.ij q r hq hr e
end
end Sm

set_option Elab.async false
set_option linter.all false
set_option maxRecDepth 100000
set_option maxHeartbeats 1000000
namespace Sm
open PySem L2 Evl

/-! ### readings by total functions -/
inductive Lv where
  | mo | fs | st
def LPof (F : Fm) (H : Hp) : Lv → LP
  | .mo => SqL F.G.K H
  | .fs => FL F H
  | .st => SL F.G.K H
abbrev RV (F : Fm) (ℓ : Lv) (h : Hs) (A : As) (H : Hp) (x : Val) (v : V) : Prop := RepV F.G (SqT F.G.K H) (LPof F H ℓ) h.length A x v
abbrev RD (F : Fm) (ℓ : Lv) (H : Hp) (d : PyData) (v : V) : Prop := Rep (SqT F.G.K H) (LPof F H ℓ) d v
abbrev RDs (F : Fm) (ℓ : Lv) (H : Hp) (ds : List PyData) (vs : List V) : Prop := RepAll (SqT F.G.K H) (LPof F H ℓ) ds vs
section
variable {F : Fm} {env : En} {h h' : Hs} {A A' : As} {σ : L2.St} {H H' : Hp} {ℓ : Lv}
theorem LPof.ex (e : Ex H H') : ∀ {ℓ : Lv} (a : Addr) (vs : List V), LPof F H ℓ a vs → LPof F H' ℓ a vs
  | .mo, a, vs, q => ex_l e q
  | .fs, a, vs, q => Pres.fL (Ex.pres e) a vs q
  | .st, a, vs, q => Pres.sL (Ex.pres e) a vs q
theorem RV.ex (e : Ex H H') {x : Val} {v : V} (q : RV F ℓ h A H x v) : RV F ℓ h A H' x v := q.mono (Ex.pres e).sqT (LPof.ex e) (Nat.le_refl _) fun _ _ => rfl
theorem RD.ex (e : Ex H H') {d : PyData} {v : V} (q : RD F ℓ H d v) : RD F ℓ H' d v := Rep.mono (Ex.pres e).sqT (LPof.ex e) _ _ q
theorem RDs.ex (e : Ex H H') {d : List PyData} {v : List V} (q : RDs F ℓ H d v) : RDs F ℓ H' d v := RepAll.mono (Ex.pres e).sqT (LPof.ex e) _ _ q
theorem LPof.mo (R : SR F env h A σ H) : ∀ {ℓ : Lv} (a : Addr) (vs : List V), LPof F H ℓ a vs → SqL F.G.K H a vs
  | .mo, a, vs, q => q
  | .fs, a, vs, q => R.fl_sq a vs q
  | .st, a, vs, q => SL.sq q
theorem RV.mo (R : SR F env h A σ H) {x : Val} {v : V} (q : RV F ℓ h A H x v) : RV F .mo h A H x v := q.mono (fun _ _ z => z) (LPof.mo R) (Nat.le_refl _) fun _ _ => rfl
theorem RD.mo (R : SR F env h A σ H) {d : PyData} {v : V} (q : RD F ℓ H d v) : RD F .mo H d v := Rep.mono (fun _ _ z => z) (LPof.mo R) _ _ q
theorem RDs.mo (R : SR F env h A σ H) {d : List PyData} {v : List V} (q : RDs F ℓ H d v) : RDs F .mo H d v := RepAll.mono (fun _ _ z => z) (LPof.mo R) _ _ q
theorem LPof.of_st : ∀ {ℓ : Lv} (a : Addr) (vs : List V), SL F.G.K H a vs → LPof F H ℓ a vs
  | .mo, a, vs, q => SL.sq q
  | .fs, a, vs, q => .inr q
  | .st, a, vs, q => q
theorem RV.of_st {x : Val} {v : V} (q : RV F .st h A H x v) : RV F ℓ h A H x v := q.mono (fun _ _ z => z) LPof.of_st (Nat.le_refl _) fun _ _ => rfl
theorem RD.of_st {d : PyData} {v : V} (q : RD F .st H d v) : RD F ℓ H d v := Rep.mono (fun _ _ z => z) LPof.of_st _ _ q
theorem RDs.of_st {d : List PyData} {v : List V} (q : RDs F .st H d v) : RDs F ℓ H d v := RepAll.mono (fun _ _ z => z) LPof.of_st _ _ q
end

abbrev Q1 := En → Hs → Option Val
def tQ (F : Fm) (ℓ : Lv) (q : Q1) : TE := fun σ H Q => ∃ env h A x, SR F env h A σ H ∧ q env h = some x ∧ ∀ v H', Ex H H' → RV F ℓ h A H' x v → Q v H'
def tT (F : Fm) (t : En → Hs → Option Bool) : TT := fun σ H Q => ∃ env h A b, SR F env h A σ H ∧ t env h = some b ∧ ∀ H', Ex H H' → Q b H'
/-- a new list -/
def tF (F : Fm) (q : En → Hs → Option (List PyData)) : TE := fun σ H Q => ∃ env h A xs, SR F env h A σ H ∧ q env h = some xs ∧ ∀ p vs H', H p = none → Ex H H' → H' p = some (.lst vs) → RDs F .st H' xs vs → Q (.ref p) H'
/-- arguments -/
def tA (F : Fm) (ℓ : Lv) (q : En → Hs → Option (List Val)) : TA := fun σ H Q => ∃ env h A xs, SR F env h A σ H ∧ q env h = some xs ∧ ∀ vs H', Ex H H' → Paired (fun x v => RV F ℓ h A H' x v) xs vs → Q vs H'
theorem PEimp {X : Cx} {e : Expr} {t t' : TE} (h : PE X e t) (i : ∀ σ H Q, t' σ H Q → t σ H Q) : PE X e t' := ⟨fun pins s σ H Q I q => h.run pins s σ H Q I (i σ H Q q)⟩
theorem PTimp {X : Cx} {e : Expr} {t t' : TT} (h : PT X e t) (i : ∀ σ H Q, t' σ H Q → t σ H Q) : PT X e t' := ⟨fun pins s σ H Q I q => h.run pins s σ H Q I (i σ H Q q)⟩
theorem PWimp {X : Cx} {e : Expr} {t t' : TT} (h : PW X e t) (i : ∀ σ H Q, t' σ H Q → t σ H Q) : PW X e t' := ⟨fun wh pins s σ H Q I q => h.run wh pins s σ H Q I (i σ H Q q)⟩
theorem PAimp {X : Cx} {e : List Expr} {t t' : TA} (h : PA X e t) (i : ∀ σ H Q, t' σ H Q → t σ H Q) : PA X e t' := ⟨fun pos pins s σ H Q I q => h.run pos pins s σ H Q I (i σ H Q q)⟩

/-! ### the functions -/
def qV (i : Nat) : Q1 := fun env _ => match env[i]? with
  | some (.v x) => some x
  | some (.l xs) => some (.d (.list xs))
  | _ => none
def qVs (i : Nat) : Q1 := fun env _ => match env[i]? with
  | some (.v x) => some x
  | _ => none
def qC (x : Val) : Q1 := fun _ _ => some x
def q1 (g : Hs → Val → Option Val) (a : Q1) : Q1 := fun env h => (a env h).bind fun x => g h x
def q2 (g : Hs → Val → Val → Option Val) (a b : Q1) : Q1 := fun env h => (a env h).bind fun x => (b env h).bind fun y => g h x y
def qNl (a : Q1) : Q1 := fun env h => (a env h).bind fun x => match x with
  | .d d => if nl d = true then some (.d d) else none
  | x => some x
def qIf (t : En → Hs → Option Bool) (a b : Q1) : Q1 := fun env h => (t env h).bind fun c => if c = true then a env h else b env h
def aNil : En → Hs → Option (List Val) := fun _ _ => some []
def aCons (a : Q1) (r : En → Hs → Option (List Val)) : En → Hs → Option (List Val) := fun env h => (a env h).bind fun x => (r env h).bind fun xs => some (x :: xs)
def dOf : Val → Option PyData
  | .d d => some d
  | _ => none
def dsOf : List Val → Option (List PyData)
  | [] => some []
  | x :: xs => (dOf x).bind fun d => (dsOf xs).bind fun ds => some (d :: ds)
def qTup (a : En → Hs → Option (List Val)) : Q1 := fun env h => (a env h).bind fun xs => (dsOf xs).bind fun ds => if ds.length ≤ sizeLine then some (.d (.tuple ds)) else none
def fLst (a : En → Hs → Option (List Val)) : En → Hs → Option (List PyData) := fun env h => (a env h).bind fun xs => (dsOf xs).bind fun ds => if ds.length ≤ sizeLine then some ds else none
def qF (f : En → Hs → Option (List PyData)) : Q1 := fun env h => (f env h).bind fun xs => some (.d (.list xs))

section
variable {F : Fm} {X : Cx} {a b c e : Expr} {es : List Expr} {pos : Pos} {ℓ : Lv} {qa qb qc : Q1}
abbrev SimQ (X : Cx) (F : Fm) (ℓ : Lv) (e : Expr) (q : Q1) : Prop := PE X e (tQ F ℓ q)
abbrev SimT (X : Cx) (F : Fm) (e : Expr) (t : En → Hs → Option Bool) : Prop := PT X e (tT F t)
abbrev SimF (X : Cx) (F : Fm) (e : Expr) (q : En → Hs → Option (List PyData)) : Prop := PE X e (tF F q)
abbrev SimA (X : Cx) (F : Fm) (ℓ : Lv) (es : List Expr) (q : En → Hs → Option (List Val)) : Prop := PA X es (tA F ℓ q)

theorem bind_some {α β : Type} {o : Option α} {f : α → Option β} {y : β} (h : o.bind f = some y) : ∃ x, o = some x ∧ f x = some y := Option.bind_eq_some_iff.mp h

/-- a name, for a moment -/
theorem sq_v (i : Nat) {x : Str} {pos : Pos} (hN : X.N[i]? = some x := by rfl) (hv : Vis X.env.scope x := by first | exact Or.inl rfl | exact Or.inr (Or.inl rfl) | exact Or.inr (Or.inr rfl)) (hd : (x == ("__debug__" : Str)) = false := by decide)
    (hcd : (x == ("__classdict__" : Str)) = false := by decide) : SimQ X F .mo (.Name x pos) (qV i) := by
  refine PEimp (pe_var hN hv hd hcd) fun σ H Q ⟨env, h, A, x, R, e, k⟩ => ?_
  unfold qV at e
  split at e
  · next y hy =>
    cases e
    obtain ⟨v, e1, r⟩ := R.sl i _ hy
    refine ⟨v, ?_, k v H (Ex.refl H) (RV.mo (ℓ := .fs) R r)⟩
    cases hs : σ[i]? with
    | none => rw [hs] at e1; cases e1
    | some o => rw [hs] at e1; exact congrArg some e1
  · next xs hy =>
    cases e
    obtain ⟨e1, vs, e2, r⟩ := R.sl i _ hy
    refine ⟨.ref (A (.s i)), ?_, k _ H (Ex.refl H) ?_⟩
    · cases hs : σ[i]? with
      | none => rw [hs] at e1; cases e1
      | some o => rw [hs] at e1; exact congrArg some e1
    · show Rep _ _ (.list xs) _
      simp only [Rep]
      exact ⟨_, vs, rfl, .inl (.inl e2), RepAll.mono (fun _ _ z => z) (fun _ _ z => SL.sq z) _ _ r⟩
  · cases e
/-- a name that holds a value -/
theorem sq_vs (i : Nat) {x : Str} {pos : Pos} (hN : X.N[i]? = some x := by rfl) (hv : Vis X.env.scope x := by first | exact Or.inl rfl | exact Or.inr (Or.inl rfl) | exact Or.inr (Or.inr rfl)) (hd : (x == ("__debug__" : Str)) = false := by decide)
    (hcd : (x == ("__classdict__" : Str)) = false := by decide) : SimQ X F .fs (.Name x pos) (qVs i) := by
  refine PEimp (pe_var hN hv hd hcd) fun σ H Q ⟨env, h, A, x, R, e, k⟩ => ?_
  unfold qVs at e
  split at e
  · next y hy =>
    cases e
    obtain ⟨v, e1, r⟩ := R.sl i _ hy
    refine ⟨v, ?_, k v H (Ex.refl H) r⟩
    cases hs : σ[i]? with
    | none => rw [hs] at e1; cases e1
    | some o => rw [hs] at e1; exact congrArg some e1
  · cases e
theorem sq_c {x : Val} {v : V} (h : PE X e (tC v)) (r : ∀ n A T L, RepV F.G T L n A x v) : SimQ X F ℓ e (qC x) := PEimp h fun σ H Q ⟨env, hs, A, y, R, e, k⟩ => by
  cases e
  exact k v H (Ex.refl H) (r _ _ _ _)
theorem sq_int {i : Int} {j : Nat} : SimQ X F ℓ (.Constant (.int i) j pos) (qC (.d (.int i))) := sq_c pe_int fun _ _ _ _ => by simp [RepV, Rep]
theorem sq_bl {i : Bool} {j : Nat} : SimQ X F ℓ (.Constant (.bool i) j pos) (qC (.d (.bool i))) := sq_c pe_bl fun _ _ _ _ => by simp [RepV, Rep]
theorem sq_non {j : Nat} : SimQ X F ℓ (.Constant .none j pos) (qC (.d .none)) := sq_c pe_non fun _ _ _ _ => by simp [RepV, Rep]
theorem sq_str {i : Str} {j : Nat} : SimQ X F ℓ (.Constant (.str i) j pos) (qC (.d (.str i))) := sq_c pe_str fun _ _ _ _ => by simp [RepV, Rep]

/-- operations on values -/
def Op1 (F : Fm) (ℓ₁ ℓ : Lv) (r : V → Hp → VK → Prop) (g : Hs → Val → Option Val) : Prop :=
  ∀ env h A σ H x v z, SR F env h A σ H → RV F ℓ₁ h A H x v → g h x = some z → ∀ Q : VK, (∀ v' H', Ex H H' → RV F ℓ h A H' z v' → Q v' H') → r v H Q
def Op2 (F : Fm) (ℓ₁ ℓ₂ ℓ : Lv) (r : R2) (g : Hs → Val → Val → Option Val) : Prop :=
  ∀ env h A σ H x y v u z, SR F env h A σ H → RV F ℓ₁ h A H x v → RV F ℓ₂ h A H y u → g h x y = some z → ∀ Q : VK, (∀ v' H', Ex H H' → RV F ℓ h A H' z v' → Q v' H') → r v u H Q
/-- an operation of the machine and its function -/
def BinS (X : Cx) (F : Fm) (ℓ₁ ℓ₂ ℓ : Lv) (f : Value → Value → Sem Value) (g : Hs → Val → Val → Option Val) : Prop := ∃ r, OpR X f r ∧ Op2 F ℓ₁ ℓ₂ ℓ r g
theorem tOp_q {ℓ₁ ℓ₂ : Lv} {r : R2} {g : Hs → Val → Val → Option Val} (o : Op2 F ℓ₁ ℓ₂ ℓ r g) {σ : L2.St} {H : Hp} {Q : VK} (hq : tQ F ℓ (q2 g qa qb) σ H Q) : tOp r (tQ F ℓ₁ qa) (tQ F ℓ₂ qb) σ H Q := by
  obtain ⟨env, h, A, z, R, e, k⟩ := hq
  obtain ⟨x, ex, e⟩ := bind_some e
  obtain ⟨y, ey, e⟩ := bind_some e
  refine ⟨env, h, A, x, R, ex, fun v H1 e1 rv => ?_⟩
  refine ⟨env, h, A, y, R.ex e1, ey, fun u H2 e2 ru => ?_⟩
  exact o env h A σ H2 x y v u z ((R.ex e1).ex e2) (rv.ex e2) ru e Q fun v' H' e3 rz => k v' H' ((e1.trans e2).trans e3) rz
theorem tUn_q {ℓ₁ : Lv} {r : V → Hp → VK → Prop} {g : Hs → Val → Option Val} (o : Op1 F ℓ₁ ℓ r g) {σ : L2.St} {H : Hp} {Q : VK} (hq : tQ F ℓ (q1 g qa) σ H Q) : tUn r (tQ F ℓ₁ qa) σ H Q := by
  obtain ⟨env, h, A, z, R, e, k⟩ := hq
  obtain ⟨x, ex, e⟩ := bind_some e
  refine ⟨env, h, A, x, R, ex, fun v H1 e1 rv => ?_⟩
  exact o env h A σ H1 x v z (R.ex e1) rv e Q fun v' H' e3 rz => k v' H' (e1.trans e3) rz
theorem sq_bin {ℓ₁ ℓ₂ : Lv} {op : Operator} {g : Hs → Val → Val → Option Val} (o : BinS X F ℓ₁ ℓ₂ ℓ (binaryOp op) g) (ha : SimQ X F ℓ₁ a qa) (hb : SimQ X F ℓ₂ b qb) : SimQ X F ℓ (.BinOp a op b pos) (q2 g qa qb) := by
  obtain ⟨r, h1, h2⟩ := o
  exact PEimp (pe_op h1 ha hb) fun _ _ _ => tOp_q h2
theorem sq_cmp {ℓ₁ ℓ₂ : Lv} {op : CmpOp} {g : Hs → Val → Val → Option Val} (o : BinS X F ℓ₁ ℓ₂ ℓ (compareOp op) g) (ha : SimQ X F ℓ₁ a qa) (hb : SimQ X F ℓ₂ b qb) (hm : behindInMarks op b = false) : SimQ X F ℓ (.Compare a [op] [b] pos) (q2 g qa qb) := by
  obtain ⟨r, h1, h2⟩ := o
  exact PEimp (pe_cmpR h1 ha hb hm) fun _ _ _ => tOp_q h2
theorem sq_un {ℓ₁ : Lv} {op : UnaryOp} {r : V → Hp → VK → Prop} {g : Hs → Val → Option Val} (h1 : UnR X (unaryOp op) r) (h2 : Op1 F ℓ₁ ℓ r g) (ha : SimQ X F ℓ₁ a qa) : SimQ X F ℓ (.UnaryOp op a pos) (q1 g qa) := PEimp (pe_un h1 ha) fun _ _ _ => tUn_q h2
theorem sq_ix {ℓ₁ ℓ₂ : Lv} {r : R2} {g : Hs → Val → Val → Option Val} (h1 : IxR X r) (h2 : Op2 F ℓ₁ ℓ₂ ℓ r g) (ha : SimQ X F ℓ₁ a qa) (hb : SimQ X F ℓ₂ b qb) (hs : PlainIx b) : SimQ X F ℓ (.Subscript a b pos) (q2 g qa qb) :=
  PEimp (pe_ix h1 ha hb hs) fun _ _ _ => tOp_q h2
/-- no list within: for ever -/
theorem sq_nl {ℓ₁ : Lv} (ha : SimQ X F ℓ₁ a qa) : SimQ X F ℓ a (qNl qa) := PEimp ha fun σ H Q ⟨env, h, A, z, R, e, k⟩ => by
  obtain ⟨x, ex, e⟩ := bind_some e
  refine ⟨env, h, A, x, R, ex, fun v H1 e1 rv => ?_⟩
  cases x with
  | d d =>
    simp only at e
    split at e
    · next hn => cases e; exact k v H1 e1 (Rep.nl d v hn rv)
    · cases e
  | ref n => cases e; exact k v H1 e1 rv
  | fn n => cases e; exact k v H1 e1 rv
theorem sq_mo {ℓ₁ : Lv} (ha : SimQ X F ℓ₁ a qa) : SimQ X F .mo a qa := PEimp ha fun σ H Q ⟨env, h, A, z, R, e, k⟩ =>
  ⟨env, h, A, z, R, e, fun v H1 e1 rv => k v H1 e1 (RV.mo (R.ex e1) rv)⟩
theorem sq_st (ha : SimQ X F .st a qa) : SimQ X F ℓ a qa := PEimp ha fun σ H Q ⟨env, h, A, z, R, e, k⟩ =>
  ⟨env, h, A, z, R, e, fun v H1 e1 rv => k v H1 e1 rv.of_st⟩
theorem sq_if {t : En → Hs → Option Bool} (hc : SimT X F c t) (ha : SimQ X F ℓ a qa) (hb : SimQ X F ℓ b qb) : SimQ X F ℓ (.IfExp c a b pos) (qIf t qa qb) := PEimp (pe_ifExp hc ha hb) fun σ H Q ⟨env, h, A, z, R, e, k⟩ => by
  obtain ⟨d, ed, e⟩ := bind_some e
  refine ⟨env, h, A, d, R, ed, fun H1 e1 => ?_⟩
  cases d with
  | true => exact ⟨env, h, A, z, R.ex e1, e, fun v H2 e2 rv => k v H2 (e1.trans e2) rv⟩
  | false => exact ⟨env, h, A, z, R.ex e1, e, fun v H2 e2 rv => k v H2 (e1.trans e2) rv⟩

/-! ### arguments, displays -/
theorem sa_nil : SimA X F ℓ [] aNil := PAimp pa_nil fun σ H Q ⟨env, h, A, xs, R, e, k⟩ => by
  cases e
  exact k [] H (Ex.refl H) .nil
theorem Paired.imp {α β : Type} {f g : α → β → Prop} (i : ∀ x y, f x y → g x y) : ∀ {l : List α} {m : List β}, Paired f l m → Paired g l m
  | _, _, .nil => .nil
  | _, _, .cons r t => .cons (i _ _ r) (Paired.imp i t)
theorem sa_cons {r : En → Hs → Option (List Val)} (ha : SimQ X F ℓ e qa) (hr : SimA X F ℓ es r) (hs : starEach (e :: es) X.env = (false, eval e X.env) :: starEach es X.env := by rfl) : SimA X F ℓ (e :: es) (aCons qa r) :=
  PAimp (pa_cons ha hr hs) fun σ H Q ⟨env, h, A, xs, R, e, k⟩ => by
    obtain ⟨x, ex, e⟩ := bind_some e
    obtain ⟨ys, ey, e⟩ := bind_some e
    cases e
    exact ⟨env, h, A, x, R, ex, fun v H1 e1 rv => ⟨env, h, A, ys, R.ex e1, ey, fun vs H2 e2 rs => k _ H2 (e1.trans e2) (.cons (rv.ex e2) rs)⟩⟩
theorem ds_rep {h : Hs} {A : As} {H : Hp} : ∀ {xs : List Val} {ds : List PyData} {vs : List V}, dsOf xs = some ds → Paired (fun x v => RV F ℓ h A H x v) xs vs → RDs F ℓ H ds vs
  | [], _, _, e, r => by
    cases e
    cases r
    exact .nil
  | x :: xs, _, _, e, r => by
    obtain ⟨d, ed, e⟩ := bind_some e
    obtain ⟨ds, es, e⟩ := bind_some e
    cases e
    cases r with
    | cons r1 r2 =>
      cases x with
      | d y => cases ed; exact .cons r1 (ds_rep es r2)
      | ref n => cases ed
      | fn n => cases ed
theorem sq_tup {k : Nat} {r : En → Hs → Option (List Val)} (hr : SimA X F ℓ es r) : SimQ X F ℓ (.Tuple es k pos) (qTup r) := PEimp (pe_tup hr) fun σ H Q ⟨env, h, A, z, R, e, k⟩ => by
  obtain ⟨xs, ex, e⟩ := bind_some e
  obtain ⟨ds, ed, e⟩ := bind_some e
  split at e
  · next hl =>
    cases e
    refine ⟨env, h, A, xs, R, ex, fun vs H1 e1 rs => ?_⟩
    have rd := ds_rep ed rs
    refine ⟨by rw [rd.len]; exact hl, fun p hp => k _ _ (e1.trans (Ex.new hp)) ?_⟩
    show Rep _ _ (.tuple ds) _
    simp only [Rep]
    exact ⟨p, vs, rfl, .inl (.inl upd_same), RDs.ex (Ex.new hp) rd⟩
  · cases e
theorem sf_lst {r : En → Hs → Option (List Val)} (hr : SimA X F .st es r) : SimF X F (.List es pos) (fLst r) := PEimp (pe_lst hr) fun σ H Q ⟨env, h, A, z, R, e, k⟩ => by
  obtain ⟨xs, ex, e⟩ := bind_some e
  obtain ⟨ds, ed, e⟩ := bind_some e
  split at e
  · next hl =>
    cases e
    refine ⟨env, h, A, xs, R, ex, fun vs H1 e1 rs => ?_⟩
    have rd := ds_rep ed rs
    refine ⟨by rw [rd.len]; exact hl, fun p hp => k p vs _ ?_ (e1.trans (Ex.new hp)) upd_same (RDs.ex (Ex.new hp) rd)⟩
    exact fresh_back e1 hp
  · cases e
/-- a new list, for a moment -/
theorem sq_f {f : En → Hs → Option (List PyData)} (hf : SimF X F e f) : SimQ X F .mo e (qF f) := PEimp hf fun σ H Q ⟨env, h, A, z, R, e, k⟩ => by
  obtain ⟨xs, ex, e⟩ := bind_some e
  cases e
  refine ⟨env, h, A, xs, R, ex, fun p vs H1 hp e1 hv rs => k _ H1 e1 ?_⟩
  show Rep _ _ (.list xs) _
  simp only [Rep]
  exact ⟨p, vs, rfl, .inl (.inl hv), RDs.of_st (ℓ := .mo) rs⟩
end
end Sm

set_option Elab.async false
set_option linter.all false
set_option maxRecDepth 100000
set_option maxHeartbeats 1000000
namespace Sm
open PySem L2 Evl

/-! ### tests -/
def gTru : PyData → Option Bool
  | .none => some false
  | .bool b => some b
  | .int i => some (i != 0)
  | .str s => if s.length ≤ sizeLine then some ((s.length : Int) != 0) else none
  | .list xs => some (!xs.isEmpty)
  | .tuple xs => some (!xs.isEmpty)
  | .dict _ => none
abbrev T1 := En → Hs → Option Bool
def tV (q : Q1) : T1 := fun env h => (q env h).bind fun x => match x with
  | .d d => gTru d
  | _ => none
def tAndF (a b : T1) : T1 := fun env h => (a env h).bind fun c => if c = true then b env h else some false
def tOrF (a b : T1) : T1 := fun env h => (a env h).bind fun c => if c = true then some true else b env h
def tNotF (a : T1) : T1 := fun env h => (a env h).bind fun c => some (!c)
def qT (t : T1) : Q1 := fun env h => (t env h).bind fun b => some (.d (.bool b))
def qAnd (a b : Q1) : Q1 := fun env h => (a env h).bind fun x => match x with
  | .d (.bool c) => if c = true then b env h else some (.d (.bool false))
  | _ => none
def qOr (a b : Q1) : Q1 := fun env h => (a env h).bind fun x => match x with
  | .d (.bool c) => if c = true then some (.d (.bool true)) else b env h
  | _ => none
def qNot (a : Q1) : Q1 := fun env h => (a env h).bind fun x => match x with
  | .d d => (gTru d).bind fun c => some (.d (.bool (!c)))
  | _ => none
section
variable {F : Fm} {X : Cx} {a b c e : Expr} {es rest : List Expr} {pos : Pos} {ℓ : Lv} {qa qb qc : Q1} {ta tb : T1} {env : En} {h : Hs} {A : As} {σ : L2.St} {H : Hp}
theorem rep_int {T L : LP} {i : Int} {v : V} (r : Rep T L (.int i) v) : v = .int i := by simpa [Rep] using r
theorem rep_str {T L : LP} {i : Str} {v : V} (r : Rep T L (.str i) v) : v = .str i := by simpa [Rep] using r
theorem rep_bool {T L : LP} {i : Bool} {v : V} (r : Rep T L (.bool i) v) : v = .bl i := by simpa [Rep] using r
theorem rep_tup {T L : LP} {ds : List PyData} {v : V} (r : Rep T L (.tuple ds) v) : ∃ a vs, v = .ref a ∧ T a vs ∧ RepAll T L ds vs := by simpa [Rep] using r
theorem rep_list {T L : LP} {ds : List PyData} {v : V} (r : Rep T L (.list ds) v) : ∃ a vs, v = .ref a ∧ L a vs ∧ RepAll T L ds vs := by simpa [Rep] using r
theorem rep_tup_mk {T L : LP} {ds : List PyData} {a : Addr} {vs : List V} (t : T a vs) (r : RepAll T L ds vs) : Rep T L (.tuple ds) (.ref a) := by
  simp only [Rep]; exact ⟨a, vs, rfl, t, r⟩
theorem rep_list_mk {T L : LP} {ds : List PyData} {a : Addr} {vs : List V} (t : L a vs) (r : RepAll T L ds vs) : Rep T L (.list ds) (.ref a) := by
  simp only [Rep]; exact ⟨a, vs, rfl, t, r⟩
theorem mk_int {T L : LP} {i : Int} : Rep T L (.int i) (.int i) := by simp [Rep]
theorem mk_bool {T L : LP} {i : Bool} : Rep T L (.bool i) (.bl i) := by simp [Rep]
theorem mk_str {T L : LP} {i : Str} : Rep T L (.str i) (.str i) := by simp [Rep]
theorem mk_none {T L : LP} : Rep T L .none .non := by simp [Rep]

theorem vi {i : Int} : RV F ℓ h A H (.d (.int i)) (.int i) := mk_int (T := SqT F.G.K H) (L := LPof F H ℓ)
theorem vb {i : Bool} : RV F ℓ h A H (.d (.bool i)) (.bl i) := mk_bool (T := SqT F.G.K H) (L := LPof F H ℓ)
theorem vs {i : Str} : RV F ℓ h A H (.d (.str i)) (.str i) := mk_str (T := SqT F.G.K H) (L := LPof F H ℓ)
theorem vn : RV F ℓ h A H (.d .none) .non := mk_none (T := SqT F.G.K H) (L := LPof F H ℓ)
theorem vt {ds : List PyData} {a : Addr} {us : List V} (t : SqT F.G.K H a us) (r : RDs F ℓ H ds us) : RV F ℓ h A H (.d (.tuple ds)) (.ref a) := rep_tup_mk (T := SqT F.G.K H) (L := LPof F H ℓ) t r
theorem vl {ds : List PyData} {a : Addr} {us : List V} (t : LPof F H ℓ a us) (r : RDs F ℓ H ds us) : RV F ℓ h A H (.d (.list ds)) (.ref a) := rep_list_mk (T := SqT F.G.K H) (L := LPof F H ℓ) t r
theorem ri {i : Int} {v : V} (r : RV F ℓ h A H (.d (.int i)) v) : v = .int i := rep_int (T := SqT F.G.K H) (L := LPof F H ℓ) r
theorem rn {v : V} (r : RV F ℓ h A H (.d .none) v) : v = .non := by
  have r' : Rep (SqT F.G.K H) (LPof F H ℓ) .none v := r
  simpa [Rep] using r'
theorem rs {i : Str} {v : V} (r : RV F ℓ h A H (.d (.str i)) v) : v = .str i := rep_str (T := SqT F.G.K H) (L := LPof F H ℓ) r
theorem rb {i : Bool} {v : V} (r : RV F ℓ h A H (.d (.bool i)) v) : v = .bl i := rep_bool (T := SqT F.G.K H) (L := LPof F H ℓ) r
theorem rt {ds : List PyData} {v : V} (r : RV F ℓ h A H (.d (.tuple ds)) v) : ∃ a us, v = .ref a ∧ SqT F.G.K H a us ∧ RDs F ℓ H ds us := rep_tup (T := SqT F.G.K H) (L := LPof F H ℓ) r
theorem rl {ds : List PyData} {v : V} (r : RV F ℓ h A H (.d (.list ds)) v) : ∃ a us, v = .ref a ∧ LPof F H ℓ a us ∧ RDs F ℓ H ds us := rep_list (T := SqT F.G.K H) (L := LPof F H ℓ) r
theorem isEmpty_len {α β : Type} {xs : List α} {ys : List β} (h : xs.length = ys.length) : xs.isEmpty = ys.isEmpty := by
  cases xs <;> cases ys <;> simp_all
theorem truV_of {d : PyData} {v : V} {k : Bool} (r : RD F .mo H d v) (e : gTru d = some k) : TruV F.G.K v H k := by
  cases d with
  | none => simp only [Rep] at r; subst r; cases e; rfl
  | bool b => simp only [Rep] at r; subst r; cases e; rfl
  | int i => simp only [Rep] at r; subst r; cases e; rfl
  | str s =>
    simp only [Rep] at r; subst r
    simp only [gTru] at e
    split at e
    · next hs => cases e; exact ⟨hs, rfl⟩
    · cases e
  | list xs =>
    simp only [Rep] at r
    obtain ⟨a, vs, rfl, q, rs⟩ := r
    cases e
    exact .inl ⟨vs, q, by rw [isEmpty_len rs.len]⟩
  | tuple xs =>
    simp only [Rep] at r
    obtain ⟨a, vs, rfl, q, rs⟩ := r
    cases e
    exact .inr (.inl ⟨vs, q, by rw [isEmpty_len rs.len]⟩)
  | dict _ => cases e
theorem RV.data {d : PyData} {v : V} (r : RV F ℓ h A H (.d d) v) : RD F ℓ H d v := r
theorem st_v (hK : X.K = F.G.K) (ha : SimQ X F .mo a qa) (he : ∀ whole, isTrue a X.env whole = (do let v ← whole; standAt a.pos; holding [v] (truthy v)) := by intro _; rfl) : SimT X F a (tV qa) := PTimp (pt_truth ha he) fun σ H Q ⟨env, h, A, k, R, e, q⟩ => by
  obtain ⟨x, ex, e⟩ := bind_some e
  refine ⟨env, h, A, x, R, ex, fun v H1 e1 rv => ⟨k, ?_, q H1 e1⟩⟩
  cases x with
  | d d => rw [hK]; exact truV_of rv e
  | ref n => cases e
  | fn n => cases e
theorem st_cmp {ℓ₁ ℓ₂ : Lv} {op : CmpOp} {g : Hs → Val → Val → Option Val} (o : BinS X F ℓ₁ ℓ₂ .st (compareOp op) g) (ha : SimQ X F ℓ₁ a qa) (hb : SimQ X F ℓ₂ b qb) (hm : behindInMarks op b = false) (hg : ∀ h x y z, g h x y = some z → ∃ k, z = .d (.bool k)) :
    SimT X F (.Compare a [op] [b] pos) (tV (q2 g qa qb)) := by
  obtain ⟨r, h1, h2⟩ := o
  refine PTimp (pt_cmpR h1 ha hb hm) fun σ H Q ⟨env, h, A, k, R, e, q⟩ => ?_
  obtain ⟨x, ex, e⟩ := bind_some e
  refine tOp_q h2 ⟨env, h, A, x, R, ex, fun v H1 e1 rv => ?_⟩
  obtain ⟨_, _, ex⟩ := bind_some ex
  obtain ⟨_, _, ex⟩ := bind_some ex
  obtain ⟨c, rfl⟩ := hg _ _ _ _ ex
  cases e
  have rv := rb rv
  exact ⟨k, rv, q H1 e1⟩
theorem sw_and1 (ha : SimT X F a ta) : PW X (.BoolOp .And [a] pos) (tT F ta) := pw_and1 ha
theorem sw_or1 (ha : SimT X F a ta) : PW X (.BoolOp .Or [a] pos) (tT F ta) := pw_or1 ha
theorem sw_and (ha : SimT X F a ta) (hb : PW X (.BoolOp .And (b :: rest) pos) (tT F tb)) : PW X (.BoolOp .And (a :: b :: rest) pos) (tT F (tAndF ta tb)) := PWimp (pw_and ha hb) fun σ H Q ⟨env, h, A, k, R, e, q⟩ => by
  obtain ⟨c, ec, e⟩ := bind_some e
  refine ⟨env, h, A, c, R, ec, fun H1 e1 => ?_⟩
  cases c with
  | true => exact ⟨env, h, A, k, R.ex e1, e, fun H2 e2 => q H2 (e1.trans e2)⟩
  | false => cases e; exact q H1 e1
theorem sw_or (ha : SimT X F a ta) (hb : PW X (.BoolOp .Or (b :: rest) pos) (tT F tb)) : PW X (.BoolOp .Or (a :: b :: rest) pos) (tT F (tOrF ta tb)) := PWimp (pw_or ha hb) fun σ H Q ⟨env, h, A, k, R, e, q⟩ => by
  obtain ⟨c, ec, e⟩ := bind_some e
  refine ⟨env, h, A, c, R, ec, fun H1 e1 => ?_⟩
  cases c with
  | false => exact ⟨env, h, A, k, R.ex e1, e, fun H2 e2 => q H2 (e1.trans e2)⟩
  | true => cases e; exact q H1 e1
theorem st_not (ha : SimT X F a ta) : SimT X F (.UnaryOp .Not a pos) (tNotF ta) := PTimp (pt_not ha) fun σ H Q ⟨env, h, A, k, R, e, q⟩ => by
  obtain ⟨c, ec, e⟩ := bind_some e
  cases e
  exact ⟨env, h, A, c, R, ec, fun H1 e1 => q H1 e1⟩
theorem sq_one {op : BoolOp} (ha : SimQ X F ℓ a qa) : SimQ X F ℓ (.BoolOp op [a] pos) qa := pe_one ha
theorem sq_and (ha : SimQ X F ℓ a qa) (hb : SimQ X F ℓ (.BoolOp .And (b :: rest) pos) qb) : SimQ X F ℓ (.BoolOp .And (a :: b :: rest) pos) (qAnd qa qb) := PEimp (pe_and ha hb) fun σ H Q ⟨env, h, A, z, R, e, k⟩ => by
  obtain ⟨x, ex, e⟩ := bind_some e
  refine ⟨env, h, A, x, R, ex, fun v H1 e1 rv => ?_⟩
  split at e
  · next c =>
    have rv := rb rv
    refine ⟨c, rv, ?_⟩
    cases c with
    | true => exact ⟨env, h, A, z, R.ex e1, e, fun v H2 e2 rv => k v H2 (e1.trans e2) rv⟩
    | false => cases e; exact k _ H1 e1 vb
  · cases e
theorem sq_or (ha : SimQ X F ℓ a qa) (hb : SimQ X F ℓ (.BoolOp .Or (b :: rest) pos) qb) : SimQ X F ℓ (.BoolOp .Or (a :: b :: rest) pos) (qOr qa qb) := PEimp (pe_or ha hb) fun σ H Q ⟨env, h, A, z, R, e, k⟩ => by
  obtain ⟨x, ex, e⟩ := bind_some e
  refine ⟨env, h, A, x, R, ex, fun v H1 e1 rv => ?_⟩
  split at e
  · next c =>
    have rv := rb rv
    refine ⟨c, rv, ?_⟩
    cases c with
    | false => exact ⟨env, h, A, z, R.ex e1, e, fun v H2 e2 rv => k v H2 (e1.trans e2) rv⟩
    | true => cases e; exact k _ H1 e1 vb
  · cases e
theorem sq_not (hK : X.K = F.G.K) (ha : SimQ X F .mo a qa) : SimQ X F ℓ (.UnaryOp .Not a pos) (qNot qa) := PEimp (pe_notT ha) fun σ H Q ⟨env, h, A, z, R, e, k⟩ => by
  obtain ⟨x, ex, e⟩ := bind_some e
  refine ⟨env, h, A, x, R, ex, fun v H1 e1 rv => ?_⟩
  split at e
  · next d =>
    obtain ⟨c, ec, e⟩ := bind_some e
    cases e
    exact ⟨c, by rw [hK]; exact truV_of rv ec, k _ H1 e1 vb⟩
  · cases e

/-- two ints in, an int out -/
def gI (C : Int → Int → Bool) (g : Int → Int → Int) : Hs → Val → Val → Option Val := fun _ x y => match x, y with
  | .d (.int i), .d (.int j) => if C i j = true then some (.d (.int (g i j))) else none
  | _, _ => none
theorem op2_I {ℓ₁ ℓ₂ : Lv} {C : Int → Int → Prop} {Cb : Int → Int → Bool} {g : Int → Int → Int} (hC : ∀ i j, Cb i j = true → C i j) : Op2 F ℓ₁ ℓ₂ ℓ (rI C fun i j => .int (g i j)) (gI Cb g) := by
  intro env h A σ H x y v u z R rx ry e Q k
  unfold gI at e
  split at e
  · next i j =>
    split at e
    · next hc =>
      cases e
      cases ri rx
      cases ri ry
      exact ⟨i, j, rfl, rfl, hC i j hc, k _ H (Ex.refl H) vi⟩
    · cases e
  · cases e
def gI0 (g : Int → Int → Int) : Hs → Val → Val → Option Val := fun _ x y => match x, y with
  | .d (.int i), .d (.int j) => some (.d (.int (g i j)))
  | _, _ => none
theorem op2_I0 {ℓ₁ ℓ₂ : Lv} {g : Int → Int → Int} : Op2 F ℓ₁ ℓ₂ ℓ (rI0 fun i j => .int (g i j)) (gI0 g) := by
  intro env h A σ H x y v u z R rx ry e Q k
  unfold gI0 at e
  split at e
  · next i j =>
    cases e
    cases ri rx
    cases ri ry
    exact ⟨i, j, rfl, rfl, k _ H (Ex.refl H) vi⟩
  · cases e
def gB0 (g : Int → Int → Bool) : Hs → Val → Val → Option Val := fun _ x y => match x, y with
  | .d (.int i), .d (.int j) => some (.d (.bool (g i j)))
  | _, _ => none
theorem op2_B0 {ℓ₁ ℓ₂ : Lv} {g : Int → Int → Bool} : Op2 F ℓ₁ ℓ₂ ℓ (rI0 fun i j => .bl (g i j)) (gB0 g) := by
  intro env h A σ H x y v u z R rx ry e Q k
  unfold gB0 at e
  split at e
  · next i j =>
    cases e
    cases ri rx
    cases ri ry
    exact ⟨i, j, rfl, rfl, k _ H (Ex.refl H) vb⟩
  · cases e
theorem gB0_b {g : Int → Int → Bool} : ∀ h x y z, gB0 g h x y = some z → ∃ k, z = .d (.bool k) := by
  intro h x y z e
  unfold gB0 at e
  split at e
  · cases e; exact ⟨_, rfl⟩
  · cases e
abbrev gSub := gI0 fun i j => i - j
/-- a product: one factor below 2 ^ 64, or both together short -/
def cMul (i j : Int) : Bool := (decide (i.natAbs < 2 ^ 64) || decide (j.natAbs < 2 ^ 64)) || decide (i.natAbs.log2 + j.natAbs.log2 < 1000000)
abbrev gMul := gI cMul fun i j => i * j
def cDiv (_ j : Int) : Bool := decide (0 < j) && decide (j.natAbs.log2 < 9000)
abbrev gDiv := gI cDiv fun i j => i / j
abbrev gMod := gI (fun _ j => decide (0 < j)) fun i j => i % j
def cPow (i j : Int) : Bool := decide (0 ≤ j) && decide (j ≤ 1000000) && decide (i.natAbs < 2 ^ 64)
abbrev gPow := gI cPow fun i j => i ^ j.toNat
abbrev gShl := gI cPow fun i j => i * 2 ^ j.toNat
abbrev gLt := gB0 fun i j => decide (i < j)
abbrev gLe := gB0 fun i j => decide (i ≤ j)
abbrev gGt := gB0 fun i j => decide (j < i)
abbrev gGe := gB0 fun i j => decide (j ≤ i)
theorem o_sub {ℓ₁ ℓ₂ : Lv} : BinS X F ℓ₁ ℓ₂ ℓ (binaryOp .Sub) gSub := ⟨_, op_sub, op2_I0⟩
theorem op_mulA : OpR X (binaryOp .Mult) (rI (fun i j => IntMulOk i j) fun i j => .int (i * j)) := opI fun _ _ _ _ _ _ _ hc q => PyProof.Rows.mul_int q hc
theorem o_mul {ℓ₁ ℓ₂ : Lv} : BinS X F ℓ₁ ℓ₂ ℓ (binaryOp .Mult) gMul := ⟨_, op_mulA, op2_I fun i j hc => by
  unfold cMul at hc
  simp only [Bool.or_eq_true, decide_eq_true_eq] at hc
  rcases hc with (hc | hc) | hc
  · exact CMul.ok (.inl ⟨by omega, by omega⟩)
  · exact CMul.ok (.inr ⟨by omega, by omega⟩)
  · exact CMulW.ok hc⟩
theorem o_div {ℓ₁ ℓ₂ : Lv} : BinS X F ℓ₁ ℓ₂ ℓ (binaryOp .FloorDiv) gDiv := ⟨_, op_fdivW, op2_I fun i j hc => by
  unfold cDiv at hc
  simp only [Bool.and_eq_true, decide_eq_true_eq] at hc
  exact hc⟩
theorem o_mod {ℓ₁ ℓ₂ : Lv} : BinS X F ℓ₁ ℓ₂ ℓ (binaryOp .Mod) gMod := ⟨_, op_mod, op2_I fun i j hc => by simpa using hc⟩
theorem o_pow {ℓ₁ ℓ₂ : Lv} : BinS X F ℓ₁ ℓ₂ ℓ (binaryOp .Pow) gPow := ⟨_, op_pow, op2_I fun i j hc => by
  unfold cPow at hc
  simp only [Bool.and_eq_true, decide_eq_true_eq] at hc
  exact ⟨hc.1.1, hc.1.2, hc.2⟩⟩
theorem o_shl {ℓ₁ ℓ₂ : Lv} : BinS X F ℓ₁ ℓ₂ ℓ (binaryOp .LShift) gShl := ⟨_, op_shl, op2_I fun i j hc => by
  unfold cPow at hc
  simp only [Bool.and_eq_true, decide_eq_true_eq] at hc
  exact ⟨hc.1.1, hc.1.2, hc.2⟩⟩
theorem o_lt {ℓ₁ ℓ₂ : Lv} : BinS X F ℓ₁ ℓ₂ ℓ (compareOp .Lt) gLt := ⟨_, op_lt, op2_B0⟩
theorem o_le {ℓ₁ ℓ₂ : Lv} : BinS X F ℓ₁ ℓ₂ ℓ (compareOp .LtE) gLe := ⟨_, op_le, op2_B0⟩
theorem o_gt {ℓ₁ ℓ₂ : Lv} : BinS X F ℓ₁ ℓ₂ ℓ (compareOp .Gt) gGt := ⟨_, op_gt, op2_B0⟩
theorem o_ge {ℓ₁ ℓ₂ : Lv} : BinS X F ℓ₁ ℓ₂ ℓ (compareOp .GtE) gGe := ⟨_, op_ge, op2_B0⟩
def gNeg : Hs → Val → Option Val := fun _ x => match x with
  | .d (.int i) => some (.d (.int (-i)))
  | _ => none
theorem sq_neg {ℓ₁ : Lv} (ha : SimQ X F ℓ₁ a qa) : SimQ X F ℓ (.UnaryOp .USub a pos) (q1 gNeg qa) := sq_un un_neg (fun env h A σ H x v z R rx e Q k => by
  unfold gNeg at e
  split at e
  · next i => cases e; cases ri rx; exact ⟨i, rfl, k _ H (Ex.refl H) vi⟩
  · cases e) ha

/-- + of ints, texts, tuples -/
def gAdd : Hs → Val → Val → Option Val := fun _ x y => match x, y with
  | .d (.int i), .d (.int j) => some (.d (.int (i + j)))
  | .d (.str s), .d (.str t) => if s.length + t.length ≤ sizeLine then some (.d (.str (s ++ t))) else none
  | .d (.tuple xs), .d (.tuple ys) => if xs.length + ys.length ≤ sizeLine then some (.d (.tuple (xs ++ ys))) else none
  | _, _ => none
def rAddA (K : PySem.W.Frag) : R2 := fun x y H Q => (∃ i j, x = .int i ∧ y = .int j ∧ Q (.int (i + j)) H) ∨ ((∃ i j, x = .str i ∧ y = .str j ∧ i.length + j.length ≤ sizeLine ∧ Q (.str (i ++ j)) H) ∨ rCatA K x y H Q)
theorem op_addA : OpR X (binaryOp .Add) (rAddA X.K) := OpR.or op_add (OpR.or op_add_str op_catA)
theorem op2_addA (hK : X.K = F.G.K) : Op2 F ℓ ℓ ℓ (rAddA X.K) gAdd := by
  intro env h A σ H x y v u z R rx ry e Q k
  unfold gAdd at e
  split at e
  · next i j =>
    cases e
    cases ri rx
    cases ri ry
    exact .inl ⟨i, j, rfl, rfl, k _ H (Ex.refl H) vi⟩
  · next i j =>
    split at e
    · next hc =>
      cases e
      cases rs rx
      cases rs ry
      exact .inr (.inl ⟨i, j, rfl, rfl, hc, k _ H (Ex.refl H) vs⟩)
    · cases e
  · next xs ys =>
    split at e
    · next hc =>
      cases e
      obtain ⟨a, vs, rfl, t1, r1⟩ := rt rx
      obtain ⟨b, us, rfl, t2, r2⟩ := rt ry
      rw [hK]
      refine .inr (.inr ⟨a, b, vs, us, rfl, rfl, t1, t2, by rw [r1.len, r2.len]; exact hc, fun z => ?_, fun z1 z2 => ?_, fun z1 z2 p hp => ?_⟩)
      · subst z
        have : xs = [] := by
          have := r1.len
          cases xs with
          | nil => rfl
          | cons _ _ => simp at this
        subst this
        exact k _ H (Ex.refl H) (vt t2 r2)
      · subst z2
        have : ys = [] := by
          have := r2.len
          cases ys with
          | nil => rfl
          | cons _ _ => simp at this
        subst this
        exact k _ H (Ex.refl H) (vt (by simpa using t1) (by simpa using r1))
      · exact k _ _ (Ex.new hp) (vt (.inl (.inl upd_same)) (RDs.ex (Ex.new hp) (r1.append r2)))
    · cases e
  · cases e
theorem o_add (hK : X.K = F.G.K) : BinS X F ℓ ℓ ℓ (binaryOp .Add) gAdd := ⟨_, op_addA, op2_addA hK⟩

/-- == and != of data -/
def gEq : Hs → Val → Val → Option Val := fun _ x y => match x, y with
  | .d a, .d b => if (SeqAt.shaped a && SeqAt.shaped b) = true then some (.d (.bool (PyData.eqv a b))) else none
  | _, _ => none
def gNe : Hs → Val → Val → Option Val := fun _ x y => match x, y with
  | .d a, .d b => if (SeqAt.shaped a && SeqAt.shaped b) = true then some (.d (.bool (!PyData.eqv a b))) else none
  | _, _ => none
theorem o_eq (hK : X.K = F.G.K) (hu : X.A.units + 64 < cLine) : BinS X F .mo .mo ℓ (compareOp .Eq) gEq := ⟨_, op_eqD hu, by
  intro env h A σ H x y v u z R rx ry e Q k
  unfold gEq at e
  split at e
  · next a b =>
    split at e
    · next hc =>
      cases e
      simp only [Bool.and_eq_true] at hc
      rw [hK]
      exact ⟨a, b, Rep.dp a v rx, Rep.dp b u ry, hc.1, hc.2, k _ H (Ex.refl H) vb⟩
    · cases e
  · cases e⟩
theorem o_ne (hK : X.K = F.G.K) (hu : X.A.units + 64 < cLine) : BinS X F .mo .mo ℓ (compareOp .NotEq) gNe := ⟨_, op_neD hu, by
  intro env h A σ H x y v u z R rx ry e Q k
  unfold gNe at e
  split at e
  · next a b =>
    split at e
    · next hc =>
      cases e
      simp only [Bool.and_eq_true] at hc
      rw [hK]
      exact ⟨a, b, Rep.dp a v rx, Rep.dp b u ry, hc.1, hc.2, k _ H (Ex.refl H) vb⟩
    · cases e
  · cases e⟩
theorem gEq_b : ∀ h x y z, gEq h x y = some z → ∃ k, z = .d (.bool k) := by
  intro h x y z e
  unfold gEq at e
  split at e
  · split at e
    · cases e; exact ⟨_, rfl⟩
    · cases e
  · cases e
theorem gNe_b : ∀ h x y z, gNe h x y = some z → ∃ k, z = .d (.bool k) := by
  intro h x y z e
  unfold gNe at e
  split at e
  · split at e
    · cases e; exact ⟨_, rfl⟩
    · cases e
  · cases e
end
end Sm

set_option Elab.async false
set_option linter.all false
set_option maxRecDepth 100000
set_option maxHeartbeats 1000000
namespace Sm
open PySem L2 Evl

/-! ### built-ins -/
section
variable {F : Fm} {X : Cx} {a b c e : Expr} {es rest : List Expr} {pos p : Pos} {ℓ : Lv} {qa qb qc : Q1} {ta tb : T1} {env : En} {h : Hs} {A : As} {σ : L2.St} {H : Hp} {x : Str} {id T : String}
theorem tCB1_q {ℓ₁ : Lv} {r : List V → Hp → VK → Prop} {g : Hs → Val → Option Val} (o : Op1 F ℓ₁ ℓ (fun v H Q => r [v] H Q) g) {σ : L2.St} {H : Hp} {Q : VK} (hq : tQ F ℓ (q1 g qa) σ H Q) : tCB r (tCons (tQ F ℓ₁ qa) tNil) σ H Q := by
  obtain ⟨env, h, A, z, R, e, k⟩ := hq
  obtain ⟨x, ex, e⟩ := bind_some e
  refine ⟨env, h, A, x, R, ex, fun v H1 e1 rv => ?_⟩
  exact o env h A σ H1 x v z (R.ex e1) rv e Q fun v' H' e3 rz => k v' H' (e1.trans e3) rz
theorem sq_b1 {ℓ₁ : Lv} {r : List V → Hp → VK → Prop} {g : Hs → Val → Option Val} (hc : CallR X (.builtin id) r) (o : Op1 F ℓ₁ ℓ (fun v H Q => r [v] H Q) g) (hm : X.mg x = none) (hv : bootBuiltins x = some (.builtin id)) (ha : SimQ X F ℓ₁ a qa)
    (hg : Gl X x := by rfl) (hn : x ≠ "__name__" := by decide) (hdb : (x == ("__debug__" : Str)) = false := by decide)
    (he : starEach [a] X.env = (false, eval a X.env) :: starEach [] X.env := by rfl) (hpl : (backTo pos (starEach [] X.env)).any (·.1) = false := by rfl) : SimQ X F ℓ (.Call (.Name x p) [a] [] pos) (q1 g qa) :=
  PEimp (pe_callB hc hg hm hv (pa_cons ha pa_nil he) hn hdb he hpl) fun _ _ _ => tCB1_q o
theorem sq_t1 {ℓ₁ : Lv} {r : List V → Hp → VK → Prop} {g : Hs → Val → Option Val} (hc : CallR X (.type T) r) (o : Op1 F ℓ₁ ℓ (fun v H Q => r [v] H Q) g) (hm : X.mg x = none) (hv : bootBuiltins x = some (.type T)) (ha : SimQ X F ℓ₁ a qa)
    (hg : Gl X x := by rfl) (hn : x ≠ "__name__" := by decide) (hdb : (x == ("__debug__" : Str)) = false := by decide)
    (he : starEach [a] X.env = (false, eval a X.env) :: starEach [] X.env := by rfl) (hpl : (backTo pos (starEach [] X.env)).any (·.1) = false := by rfl) : SimQ X F ℓ (.Call (.Name x p) [a] [] pos) (q1 g qa) :=
  PEimp (pe_callTy hc hg hm hv (pa_cons ha pa_nil he) hn hdb he hpl) fun _ _ _ => tCB1_q o

/-- the items of a list object -/
def lstAt (h : Hs) (n : Nat) : Option (List PyData) := match h[n]? with
  | some (.lst xs) => some xs
  | _ => none
theorem SR.lstAt (R : SR F env h A σ H) {n : Nat} {xs : List PyData} (e : lstAt h n = some xs) : h[n]? = some (.lst xs) ∧ ∃ us, H (A (.o n)) = some (.lst us) ∧ RDs F .st H xs us := by
  unfold Sm.lstAt at e
  split at e
  · next ys hy =>
    cases e
    exact ⟨hy, R.ob n _ hy⟩
  · cases e
def gLen : Hs → Val → Option Val := fun h x => match x with
  | .d (.str s) => if s.length ≤ sizeLine then some (.d (.int s.length)) else none
  | .d (.list xs) => some (.d (.int xs.length))
  | .d (.tuple xs) => some (.d (.int xs.length))
  | .ref n => (lstAt h n).map fun xs => .d (.int xs.length)
  | _ => none
theorem o_len (hK : X.K = F.G.K) : Op1 F .mo ℓ (fun v H Q => ∃ x n, [v] = [x] ∧ LenV X.K x H n ∧ Q (.int n) H) gLen := by
  intro env h A σ H x v z R rx e Q k
  unfold gLen at e
  rw [hK]
  split at e
  · next s =>
    split at e
    · next hs => cases e; cases rs rx; exact ⟨_, s.length, rfl, ⟨hs, rfl⟩, k _ H (Ex.refl H) vi⟩
    · cases e
  · next xs =>
    cases e
    obtain ⟨a, us, rfl, q, r⟩ := rl rx
    exact ⟨_, us.length, rfl, .inl ⟨us, q, rfl⟩, by rw [r.len]; exact k _ H (Ex.refl H) vi⟩
  · next xs =>
    cases e
    obtain ⟨a, us, rfl, q, r⟩ := rt rx
    exact ⟨_, us.length, rfl, .inr ⟨us, q, rfl⟩, by rw [r.len]; exact k _ H (Ex.refl H) vi⟩
  · next n =>
    obtain ⟨xs, ex, e⟩ := Option.map_eq_some_iff.mp e
    subst e
    obtain ⟨_, us, q, r⟩ := R.lstAt ex
    obtain ⟨_, rfl⟩ := rx
    exact ⟨_, us.length, rfl, .inl ⟨us, .inl (.inl q), rfl⟩, by rw [r.len]; exact k _ H (Ex.refl H) vi⟩
  · cases e
theorem sq_len (hK : X.K = F.G.K) (hm : X.mg "len" = none) (ha : SimQ X F .mo a qa) (hg : Gl X "len" := by rfl)
    (he : starEach [a] X.env = (false, eval a X.env) :: starEach [] X.env := by rfl) (hpl : (backTo pos (starEach [] X.env)).any (·.1) = false := by rfl) : SimQ X F ℓ (.Call (.Name "len" p) [a] [] pos) (q1 gLen qa) :=
  sq_b1 call_len (o_len hK) hm PySem.boot_len ha hg (by decide) (by decide) he hpl
def gInt : Hs → Val → Option Val := fun _ x => match x with
  | .d (.int i) => some (.d (.int i))
  | .d (.bool k) => some (.d (.int (if k then 1 else 0)))
  | _ => none
theorem o_int {ℓ₁ : Lv} : Op1 F ℓ₁ ℓ (fun v H Q => (∃ i, [v] = [.int i] ∧ Q (.int i) H) ∨ ∃ k, [v] = [.bl k] ∧ Q (.int (if k then 1 else 0)) H) gInt := by
  intro env h A σ H x v z R rx e Q k
  unfold gInt at e
  split at e
  · next i => cases e; cases ri rx; exact .inl ⟨i, rfl, k _ H (Ex.refl H) vi⟩
  · next i => cases e; cases rb rx; exact .inr ⟨i, rfl, k _ H (Ex.refl H) vi⟩
  · cases e
theorem sq_toint {ℓ₁ : Lv} (hm : X.mg "int" = none) (ha : SimQ X F ℓ₁ a qa) (hg : Gl X "int" := by rfl)
    (he : starEach [a] X.env = (false, eval a X.env) :: starEach [] X.env := by rfl) (hpl : (backTo pos (starEach [] X.env)).any (·.1) = false := by rfl) : SimQ X F ℓ (.Call (.Name "int" p) [a] [] pos) (q1 gInt qa) :=
  sq_t1 call_int1 o_int hm (by decide +kernel) ha hg (by decide) (by decide) he hpl
/-- tuple(x) -/
def gTuple : Hs → Val → Option Val := fun _ x => match x with
  | .d (.list xs) => some (.d (.tuple xs))
  | .d (.tuple xs) => some (.d (.tuple xs))
  | _ => none
theorem o_tuple (hK : X.K = F.G.K) : Op1 F ℓ ℓ (fun v H Q => ∃ p ys, [v] = [V.ref p] ∧ ((SqL X.K H p ys ∧ ∀ l, H l = none → Q (.ref l) (upd H l (.tup ys))) ∨ (SqT X.K H p ys ∧ Q (.ref p) H))) gTuple := by
  intro env h A σ H x v z R rx e Q k
  unfold gTuple at e
  rw [hK]
  split at e
  · next xs =>
    cases e
    obtain ⟨a, us, rfl, q, r⟩ := rl rx
    exact ⟨a, us, rfl, .inl ⟨LPof.mo R _ _ q, fun l hl => k _ _ (Ex.new hl) (vt (.inl (.inl upd_same)) (RDs.ex (Ex.new hl) r))⟩⟩
  · next xs =>
    cases e
    obtain ⟨a, us, rfl, q, r⟩ := rt rx
    exact ⟨a, us, rfl, .inr ⟨q, k _ H (Ex.refl H) (vt q r)⟩⟩
  · cases e
theorem sq_totup (hK : X.K = F.G.K) (hm : X.mg "tuple" = none) (ha : SimQ X F ℓ a qa) (hg : Gl X "tuple" := by rfl)
    (he : starEach [a] X.env = (false, eval a X.env) :: starEach [] X.env := by rfl) (hpl : (backTo pos (starEach [] X.env)).any (·.1) = false := by rfl) : SimQ X F ℓ (.Call (.Name "tuple" p) [a] [] pos) (q1 gTuple qa) :=
  sq_t1 call_tuple_of (o_tuple hK) hm (by decide +kernel) ha hg (by decide) (by decide) he hpl
/-- list(x): a new list -/
def f1 (g : Hs → Val → Option (List PyData)) (a : Q1) : En → Hs → Option (List PyData) := fun env h => (a env h).bind fun x => g h x
def f2 (g : Hs → Val → Val → Option (List PyData)) (a b : Q1) : En → Hs → Option (List PyData) := fun env h => (a env h).bind fun x => (b env h).bind fun y => g h x y
def gList : Hs → Val → Option (List PyData) := fun _ x => match x with
  | .d (.list xs) => if nlAll xs = true then some xs else none
  | .d (.tuple xs) => if nlAll xs = true then some xs else none
  | _ => none
theorem sf_tolist (hK : X.K = F.G.K) (hm : X.mg "list" = none) (ha : SimQ X F .mo a qa) (hg : Gl X "list" := by rfl)
    (he : starEach [a] X.env = (false, eval a X.env) :: starEach [] X.env := by rfl) (hpl : (backTo pos (starEach [] X.env)).any (·.1) = false := by rfl) : SimF X F (.Call (.Name "list" p) [a] [] pos) (f1 gList qa) := by
  refine PEimp (pe_callTy call_list_of hg hm (by decide +kernel) (pa_cons ha pa_nil he) (by decide) (by decide) he hpl) fun σ H Q ⟨env, h, A, z, R, e, k⟩ => ?_
  obtain ⟨x, ex, e⟩ := bind_some e
  refine ⟨env, h, A, x, R, ex, fun v H1 e1 rv => ?_⟩
  unfold gList at e
  rw [hK]
  split at e
  · next xs =>
    split at e
    · next hn =>
      cases e
      obtain ⟨a, us, rfl, q, r⟩ := rl rv
      exact ⟨a, us, rfl, .inl q, fun l hl => k l us _ (fresh_back e1 hl) (e1.trans (Ex.new hl)) upd_same (RDs.ex (Ex.new hl) (RepAll.nl _ _ hn r))⟩
    · cases e
  · next xs =>
    split at e
    · next hn =>
      cases e
      obtain ⟨a, us, rfl, q, r⟩ := rt rv
      exact ⟨a, us, rfl, .inr q, fun l hl => k l us _ (fresh_back e1 hl) (e1.trans (Ex.new hl)) upd_same (RDs.ex (Ex.new hl) (RepAll.nl _ _ hn r))⟩
    · cases e
  · cases e
/-- isinstance(x, T) -/
def gIsi (f : PyData → Bool) : Hs → Val → Option Val := fun _ x => match x with
  | .d d => some (.d (.bool (f d)))
  | _ => none
def IsiR (n : String) (f : PyData → Bool) : Prop := ∀ {prog : Program} {w : World} {A : Around} {E : Value → Shared → Prop} {s : Shared} {v : Value} {d : PyData} {as : List Addr} {Q : Value → Shared → Prop}, Reads s.heap v d as →
  (∀ tk, s.toks ≤ tk → Q (.bool (f d)) { s with toks := tk }) → wpAny (model prog w) A (call (.builtin "isinstance") [v, .type n]) Q E s
theorem cr_isi {n : String} {f : PyData → Bool} (R : IsiR n f) : CallR X (.builtin "isinstance") (fun xs H Q => ∃ x d, xs = [x, .ty n] ∧ Dp X.K H x d ∧ Q (.bl (f d)) H) := by
  intro pins s σ H xs us Q I r h
  obtain ⟨x, d, rfl, hd, q⟩ := h
  obtain ⟨u, w', rfl, rx, ry⟩ := vals2 r
  obtain rfl : w' = Value.type n := ry
  obtain ⟨as, hr⟩ := Dp.reads I d x u hd rx
  exact R hr fun tk _ => ⟨.bl (f d), H, I.tok _, rfl, q⟩
theorem isi_tuple : IsiR "tuple" PyData.isTuple := PySem.W.isinstance_tuple_data
theorem isi_list : IsiR "list" PyData.isList := PySem.W.isinstance_list_data
theorem isi_bool : IsiR "bool" PyData.isBool := PySem.W.isinstance_bool_data
theorem isi_int : IsiR "int" PyData.isInt := PySem.W.isinstance_int_data
theorem isi_str : IsiR "str" PyData.isStr := PySem.W.isinstance_str_data
theorem isi_dict : IsiR "dict" PyData.isDict := PySem.W.isinstance_dict_data
theorem sq_isi {n : String} {f : PyData → Bool} {p2 : Pos} {y : Str} (Ri : IsiR n f) (hK : X.K = F.G.K) (hm : X.mg "isinstance" = none) (hm2 : X.mg y = none) (hv : bootBuiltins y = some (.type n)) (ha : SimQ X F .mo a qa) (hg : Gl X "isinstance" := by rfl) (hg2 : Gl X y := by rfl) (hn2 : y ≠ "__name__" := by decide) (hd2 : (y == ("__debug__" : Str)) = false := by decide)
    (he : starEach [a, .Name y p2] X.env = (false, eval a X.env) :: starEach [.Name y p2] X.env := by rfl) (he2 : starEach [.Name y p2] X.env = (false, eval (.Name y p2) X.env) :: starEach [] X.env := by rfl) (hpl : (backTo pos (starEach [.Name y p2] X.env)).any (·.1) = false := by rfl) :
    SimQ X F ℓ (.Call (.Name "isinstance" p) [a, .Name y p2] [] pos) (q1 (gIsi f) qa) := by
  refine PEimp (pe_callB (cr_isi Ri) hg hm (by decide +kernel) (pa_cons ha (pa_cons (pe_bltn (v := .ty n) hg2 hm2 hv rfl hn2 hd2) pa_nil he2) he) (by decide) (by decide) he hpl) fun σ H Q ⟨env, h, A, z, R, e, k⟩ => ?_
  obtain ⟨x, ex, e⟩ := bind_some e
  refine ⟨env, h, A, x, R, ex, fun v H1 e1 rv => ?_⟩
  unfold gIsi at e
  split at e
  · next d =>
    cases e
    rw [hK]
    exact ⟨v, d, rfl, Rep.dp d v rv, k _ H1 e1 vb⟩
  · cases e

/-! ### subscripts -/
/-- x[i] of a list, a tuple, a text -/
def gIx : Hs → Val → Val → Option Val := fun h x y => match x, y with
  | .ref n, .d (.int i) => (lstAt h n).bind fun xs => (atI xs i).map .d
  | .d (.list xs), .d (.int i) => (atI xs i).map .d
  | .d (.tuple xs), .d (.int i) => (atI xs i).map .d
  | .d (.str s), .d (.int i) => if s.length ≤ sizeLine then (atI s.cps.toList i).map fun c => .d (.str ⟨#[c]⟩) else none
  | _, _ => none
theorem at_rep {T L : LP} {ds : List PyData} {vs : List V} {i : Int} {d : PyData} (r : RepAll T L ds vs) (e : atI ds i = some d) : ∃ v, atI vs i = some v ∧ Rep T L d v := by
  unfold atI at e ⊢
  rw [r.len]
  cases hj : ixN ds.length i with
  | none => rw [hj] at e; cases e
  | some j =>
    rw [hj] at e
    obtain ⟨v, h1, h2⟩ := r.get e
    exact ⟨v, h1, h2⟩
theorem LPof_sq (R : SR F env h A σ H) {a : Addr} {vs : List V} (q : LPof F H ℓ a vs) : SqL F.G.K H a vs := LPof.mo R a vs q
theorem o_ix (hK : X.K = F.G.K) {ℓ₂ : Lv} : Op2 F ℓ ℓ₂ ℓ (rIx X.K) gIx := by
  intro env h A σ H x y v u z R rx ry e Q k
  unfold gIx at e
  rw [hK]
  split at e
  · next n i =>
    cases ri ry
    obtain ⟨xs, ex, e⟩ := Option.bind_eq_some_iff.mp e
    obtain ⟨d, e1, e2⟩ := Option.map_eq_some_iff.mp e
    subst e2
    obtain ⟨_, us, q, r⟩ := R.lstAt ex
    obtain ⟨_, rfl⟩ := rx
    obtain ⟨w, h1, h2⟩ := at_rep r e1
    exact .inl ⟨_, us, i, w, rfl, rfl, .inl (.inl q), h1, k _ H (Ex.refl H) (RD.of_st (ℓ := ℓ) h2)⟩
  · next xs i =>
    cases ri ry
    obtain ⟨d, e1, e2⟩ := Option.map_eq_some_iff.mp e
    subst e2
    obtain ⟨a, us, rfl, q, r⟩ := rl rx
    obtain ⟨w, h1, h2⟩ := at_rep r e1
    exact .inl ⟨a, us, i, w, rfl, rfl, LPof_sq R q, h1, k _ H (Ex.refl H) h2⟩
  · next xs i =>
    cases ri ry
    obtain ⟨d, e1, e2⟩ := Option.map_eq_some_iff.mp e
    subst e2
    obtain ⟨a, us, rfl, q, r⟩ := rt rx
    obtain ⟨w, h1, h2⟩ := at_rep r e1
    exact .inr (.inl ⟨a, us, i, w, rfl, rfl, q, h1, k _ H (Ex.refl H) h2⟩)
  · next s i =>
    split at e
    · next hs =>
      cases ri ry
      cases rs rx
      obtain ⟨d, e1, e2⟩ := Option.map_eq_some_iff.mp e
      subst e2
      exact .inr (.inr ⟨s, i, d, rfl, rfl, hs, e1, k _ H (Ex.refl H) vs⟩)
    · cases e
  · cases e
theorem sq_sub (hK : X.K = F.G.K) {ℓ₂ : Lv} (ha : SimQ X F ℓ a qa) (hb : SimQ X F ℓ₂ b qb) (hs : PlainIx b := by intro _ _; rfl) : SimQ X F ℓ (.Subscript a b pos) (q2 gIx qa qb) := sq_ix ix_seq (o_ix hK) ha hb hs

/-! ### is -/
def gIsN : Hs → Val → Option Val := fun _ x => match x with
  | .d .none => some (.d (.bool true))
  | .d (.dict _) => none
  | _ => some (.d (.bool false))
def gNoN : Hs → Val → Option Val := fun _ x => match x with
  | .d .none => some (.d (.bool false))
  | .d (.dict _) => none
  | _ => some (.d (.bool true))
theorem isN_of {x : Val} {v : V} {z : Val} (r : RV F .mo h A H x v) (e : gIsN h x = some z) : z = .d (.bool (decide (v = .non))) ∧ gNoN h x = some (.d (.bool (!decide (v = .non)))) := by
  cases x with
  | d d =>
    cases d with
    | none => cases e; have : v = .non := rn r
              subst this; exact ⟨rfl, rfl⟩
    | dict _ => cases e
    | bool i => cases e; cases rb r; exact ⟨rfl, rfl⟩
    | int i => cases e; cases ri r; exact ⟨rfl, rfl⟩
    | str i => cases e; cases rs r; exact ⟨rfl, rfl⟩
    | tuple i => cases e; obtain ⟨a, us, rfl, _⟩ := rt r; exact ⟨rfl, rfl⟩
    | list i => cases e; obtain ⟨a, us, rfl, _⟩ := rl r; exact ⟨rfl, rfl⟩
  | ref n => cases e; obtain ⟨_, rfl⟩ := r; exact ⟨rfl, rfl⟩
  | fn n => cases e; (have r' : v = .ref (F.G.fa n) := r); subst r'; exact ⟨rfl, rfl⟩
theorem gNo_is {x : Val} {z : Val} (e : gNoN h x = some z) : ∃ y, gIsN h x = some y := by
  unfold gNoN at e
  unfold gIsN
  split at e <;> simp_all
theorem sq_isN {j : Nat} {p2 : Pos} (ha : SimQ X F .mo a qa) : SimQ X F ℓ (.Compare a [.Is] [.Constant .none j p2] pos) (q1 gIsN qa) := PEimp (pe_cmp (pc_isN ha) (nomark _)) fun σ H Q ⟨env, h, A, z, R, e, k⟩ => by
  obtain ⟨x, ex, e⟩ := bind_some e
  refine ⟨env, h, A, x, R, ex, fun v H1 e1 rv => ?_⟩
  obtain ⟨rfl, _⟩ := isN_of rv e
  exact k _ H1 e1 vb
theorem sq_noN {j : Nat} {p2 : Pos} (ha : SimQ X F .mo a qa) : SimQ X F ℓ (.Compare a [.IsNot] [.Constant .none j p2] pos) (q1 gNoN qa) := PEimp (pe_cmp (pc_notN ha) (nomark _)) fun σ H Q ⟨env, h, A, z, R, e, k⟩ => by
  obtain ⟨x, ex, e⟩ := bind_some e
  refine ⟨env, h, A, x, R, ex, fun v H1 e1 rv => ?_⟩
  obtain ⟨y, ey⟩ := gNo_is e
  obtain ⟨_, e2⟩ := isN_of rv ey
  rw [e] at e2
  cases e2
  exact k _ H1 e1 vb
theorem st_isN {j : Nat} {p2 : Pos} (ha : SimQ X F .mo a qa) : SimT X F (.Compare a [.Is] [.Constant .none j p2] pos) (tV (q1 gIsN qa)) := PTimp (pt_cmp (pc_isN ha) (nomark _)) fun σ H Q ⟨env, h, A, k, R, e, q⟩ => by
  obtain ⟨z, ez, e⟩ := bind_some e
  obtain ⟨x, ex, ez⟩ := bind_some ez
  refine ⟨env, h, A, x, R, ex, fun v H1 e1 rv => ?_⟩
  obtain ⟨rfl, _⟩ := isN_of rv ez
  cases e
  exact ⟨_, rfl, q H1 e1⟩
theorem st_noN {j : Nat} {p2 : Pos} (ha : SimQ X F .mo a qa) : SimT X F (.Compare a [.IsNot] [.Constant .none j p2] pos) (tV (q1 gNoN qa)) := PTimp (pt_cmp (pc_notN ha) (nomark _)) fun σ H Q ⟨env, h, A, k, R, e, q⟩ => by
  obtain ⟨z, ez, e⟩ := bind_some e
  obtain ⟨x, ex, ez⟩ := bind_some ez
  refine ⟨env, h, A, x, R, ex, fun v H1 e1 rv => ?_⟩
  obtain ⟨y, ey⟩ := gNo_is ez
  obtain ⟨_, e2⟩ := isN_of rv ey
  rw [ez] at e2
  cases e2
  cases e
  exact ⟨_, rfl, q H1 e1⟩
def gIsB (n : Bool) : Hs → Val → Val → Option Val := fun _ x y => match x, y with
  | .d (.bool a), .d (.bool b) => some (.d (.bool (if n then !decide (a = b) else decide (a = b))))
  | _, _ => none
theorem o_isB {ℓ₁ ℓ₂ : Lv} : BinS X F ℓ₁ ℓ₂ ℓ (compareOp .Is) (gIsB false) := ⟨_, op_isBl, by
  intro env h A σ H x y v u z R rx ry e Q k
  unfold gIsB at e
  split at e
  · next i j => cases e; cases rb rx; cases rb ry; exact ⟨i, j, rfl, rfl, k _ H (Ex.refl H) vb⟩
  · cases e⟩
theorem o_noB {ℓ₁ ℓ₂ : Lv} : BinS X F ℓ₁ ℓ₂ ℓ (compareOp .IsNot) (gIsB true) := ⟨_, op_notBl, by
  intro env h A σ H x y v u z R rx ry e Q k
  unfold gIsB at e
  split at e
  · next i j => cases e; cases rb rx; cases rb ry; exact ⟨i, j, rfl, rfl, k _ H (Ex.refl H) vb⟩
  · cases e⟩
theorem gIsB_b {n : Bool} : ∀ h x y z, gIsB n h x y = some z → ∃ k, z = .d (.bool k) := by
  intro h x y z e
  unfold gIsB at e
  split at e
  · cases e; exact ⟨_, rfl⟩
  · cases e
end
end Sm

set_option Elab.async false
set_option linter.all false
set_option maxRecDepth 100000
set_option maxHeartbeats 1000000
namespace Sm
open PySem L2 Evl

/-! ### what is walked -/
structure Ylds (F : Fm) (Ok : Hp → Prop) (ℓ : Lv) (J : It) (xs : List PyData) : Prop where
  go : ∀ Hc i, Ok Hc → i < xs.length → J.go i Hc
  yl : ∀ Hc i x Hn d, Ok Hc → xs[i]? = some d → J.yld i Hc x Hn → Ex Hc Hn ∧ RD F ℓ Hn d x
  st : ∀ Hc i, Ok Hc → xs.length ≤ i → J.stop i Hc
abbrev I1 := En → Hs → Option (List PyData)
def OkP (_ : Fm) (H1 Hc : Hp) : Prop := Ex H1 Hc
def OkS (F : Fm) (H1 Hc : Hp) : Prop := Pres H1 Hc ∧ ∃ env h A σ, SR F env h A σ Hc
def tI (F : Fm) (ok : Fm → Hp → Hp → Prop) (ℓ : Lv) (it : I1) : TI := fun σ H R => ∃ env h A xs, SR F env h A σ H ∧ it env h = some xs ∧ ∀ J H1, Ex H H1 → Ylds F (ok F H1) ℓ J xs → R J H1
theorem PIimp {X : Cx} {tg e : Expr} {t t' : TI} (h : PI X tg e t) (i : ∀ σ H Q, t' σ H Q → t σ H Q) : PI X tg e t' := ⟨fun pins s σ H Q I q => h.run pins s σ H Q I (i σ H Q q)⟩
theorem PIor {X : Cx} {tg e : Expr} {t t' : TI} (h : PI X tg e t) (h' : PI X tg e t') : PI X tg e (fun σ H R => t σ H R ∨ t' σ H R) := ⟨fun pins s σ H Q I q => q.elim (h.run pins s σ H Q I) (h'.run pins s σ H Q I)⟩
abbrev SimI (X : Cx) (F : Fm) (ok : Fm → Hp → Hp → Prop) (ℓ : Lv) (tg e : Expr) (it : I1) : Prop := PI X tg e (tI F ok ℓ it)
def iRng (a : Q1) : I1 := fun env h => (a env h).bind fun x => match x with
  | .d (.int n) => if (decide (-(2 ^ 62) ≤ n) && decide (n < 2 ^ 62)) = true then some ((List.range n.toNat).map fun k : Nat => PyData.int (k : Int)) else none
  | _ => none
def iRngB (a b : Q1) : I1 := fun env h => (a env h).bind fun x => (b env h).bind fun y => match x, y with
  | .d (.int m), .d (.int n) => if ((decide (-(2 ^ 62) ≤ m) && decide (m < 2 ^ 62)) && (decide (-(2 ^ 62) ≤ n) && decide (n < 2 ^ 62))) = true then some ((List.range (n - m).toNat).map fun k : Nat => PyData.int (m + (k : Int))) else none
  | _, _ => none
/-- a list or a tuple, its items without lists in them -/
def seqOf : Val → Option (List PyData)
  | .d (.list xs) => some xs
  | .d (.tuple xs) => some xs
  | _ => none
def iSeqN (a : Q1) : I1 := fun env h => (a env h).bind fun x => (seqOf x).bind fun xs => if nlAll xs = true then some xs else none
def iSeq (a : Q1) : I1 := fun env h => (a env h).bind fun x => seqOf x
section
variable {F : Fm} {X : Cx} {tg a b c e : Expr} {es rest : List Expr} {pos p : Pos} {ℓ : Lv} {qa qb qc : Q1} {env : En} {h : Hs} {A : As} {σ : L2.St} {H : Hp} {ok : Fm → Hp → Hp → Prop}
theorem ylds_rng {Ok : Hp → Prop} (lo : Int) (n : Nat) : Ylds F Ok ℓ (Itr lo n) ((List.range n).map fun k : Nat => PyData.int (lo + (k : Int))) where
  go := fun Hc i _ hi => by simpa [Itr] using hi
  yl := fun Hc i x Hn d _ hd hy => by
    obtain ⟨rfl, rfl⟩ := hy
    rw [List.getElem?_map] at hd
    obtain ⟨k, hk, rfl⟩ := Option.map_eq_some_iff.mp hd
    obtain ⟨hi, rfl⟩ := List.getElem?_eq_some_iff.mp hk
    refine ⟨Ex.refl _, ?_⟩
    rw [List.getElem_range]
    exact mk_int
  st := fun Hc i _ hi => by simpa [Itr] using hi
theorem si_rng (hm : X.mg "range" = none) {ℓ₁ : Lv} (ha : SimQ X F ℓ₁ a qa) (hg : Gl X "range" := by rfl) (hs : starEach [a] X.env = [(false, eval a X.env)] := by rfl) : SimI X F ok ℓ tg (.Call (.Name "range" p) [a] [] pos) (iRng qa) :=
  PIimp (pi_range1 hg hm (pa_cons ha pa_nil hs) hs) fun σ H Q ⟨env, h, A, z, R, e, k⟩ => by
    obtain ⟨x, ex, e⟩ := bind_some e
    refine ⟨env, h, A, x, R, ex, fun v H1 e1 rv => ?_⟩
    split at e
    · next n =>
      split at e
      · next hn =>
        cases e
        cases ri rv
        simp only [Bool.and_eq_true, decide_eq_true_eq] at hn
        refine ⟨n, rfl, hn.1, hn.2, k _ H1 e1 ?_⟩
        have := ylds_rng (F := F) (ℓ := ℓ) (Ok := ok F H1) 0 n.toNat
        simpa using this
      · cases e
    · cases e
theorem si_rngB (hm : X.mg "range" = none) {ℓ₁ ℓ₂ : Lv} (ha : SimQ X F ℓ₁ a qa) (hb : SimQ X F ℓ₂ b qb) (hg : Gl X "range" := by rfl) (hs : starEach [a, b] X.env = [(false, eval a X.env), (false, eval b X.env)] := by rfl) (hs2 : starEach [b] X.env = [(false, eval b X.env)] := by rfl) :
    SimI X F ok ℓ tg (.Call (.Name "range" p) [a, b] [] pos) (iRngB qa qb) :=
  PIimp (pi_range2 hg hm (pa_cons ha (pa_cons hb pa_nil hs2) (by rw [hs, hs2])) hs hs2) fun σ H Q ⟨env, h, A, z, R, e, k⟩ => by
    obtain ⟨x, ex, e⟩ := bind_some e
    obtain ⟨y, ey, e⟩ := bind_some e
    refine ⟨env, h, A, x, R, ex, fun v H1 e1 rv => ⟨env, h, A, y, R.ex e1, ey, fun u H2 e2 ru => ?_⟩⟩
    split at e
    · next m n _ =>
      split at e
      · next hn =>
        cases e
        cases ri rv
        cases ri ru
        simp only [Bool.and_eq_true, decide_eq_true_eq] at hn
        exact ⟨m, n, rfl, ⟨hn.1.1, hn.1.2, hn.2.1, hn.2.2⟩, k _ H2 (e1.trans e2) (ylds_rng m _)⟩
      · cases e
    · cases e
theorem ylds_list {Ok : Hp → Prop} {a : Addr} {us : List V} {xs : List PyData} (hl : us.length = xs.length) (hq : ∀ Hc, Ok Hc → SqL F.G.K Hc a us ∧ RDs F ℓ Hc xs us) : Ylds F Ok ℓ (Itl F.G.K a) xs where
  go := fun Hc i o hi => ⟨us, us[i]'(by omega), (hq Hc o).1, List.getElem?_eq_getElem (by omega)⟩
  yl := fun Hc i x Hn d o hd hy => by
    obtain ⟨rfl, hy⟩ := hy
    obtain ⟨q, r⟩ := hq Hn o
    obtain ⟨v, h1, h2⟩ := r.get hd
    rw [hy us q] at h1
    cases h1
    exact ⟨Ex.refl _, h2⟩
  st := fun Hc i o hi => ⟨us, (hq Hc o).1, by omega⟩
theorem ylds_tup {Ok : Hp → Prop} {a : Addr} {us : List V} {xs : List PyData} (hl : us.length = xs.length) (hq : ∀ Hc, Ok Hc → SqT F.G.K Hc a us ∧ RDs F ℓ Hc xs us) : Ylds F Ok ℓ (Itt F.G.K a) xs where
  go := fun Hc i o hi => ⟨us, us[i]'(by omega), (hq Hc o).1, List.getElem?_eq_getElem (by omega)⟩
  yl := fun Hc i x Hn d o hd hy => by
    obtain ⟨rfl, hy⟩ := hy
    obtain ⟨q, r⟩ := hq Hn o
    obtain ⟨v, h1, h2⟩ := r.get hd
    rw [hy us q] at h1
    cases h1
    exact ⟨Ex.refl _, h2⟩
  st := fun Hc i o hi => ⟨us, (hq Hc o).1, by omega⟩
/-- within an expression: a list or a tuple of the moment -/
theorem si_seqN (hK : X.K = F.G.K) (ha : SimQ X F .mo a qa) : SimI X F OkP ℓ tg a (iSeqN qa) := PIimp (PIor (pi_list ha) (pi_tup ha)) fun σ H Q ⟨env, h, A, z, R, e, k⟩ => by
  obtain ⟨x, ex, e⟩ := bind_some e
  obtain ⟨xs, ey, e⟩ := bind_some e
  split at e
  · next hn =>
    cases e
    rw [hK]
    unfold seqOf at ey
    split at ey
    · cases ey
      refine .inl ⟨env, h, A, _, R, ex, fun v H1 e1 rv => ?_⟩
      obtain ⟨a, us, rfl, q, r⟩ := rl rv
      exact ⟨a, rfl, ⟨us, q⟩, k _ H1 e1 (ylds_list r.len fun Hc o => ⟨ex_l o q, (RDs.ex o (RepAll.nl (L' := LPof F H1 ℓ) _ _ hn r))⟩)⟩
    · cases ey
      refine .inr ⟨env, h, A, _, R, ex, fun v H1 e1 rv => ?_⟩
      obtain ⟨a, us, rfl, q, r⟩ := rt rv
      exact ⟨a, rfl, ⟨us, q⟩, k _ H1 e1 (ylds_tup r.len fun Hc o => ⟨ex_t o q, (RDs.ex o (RepAll.nl (L' := LPof F H1 ℓ) _ _ hn r))⟩)⟩
    · cases ey
  · cases e
theorem si_seqF (hK : X.K = F.G.K) (ha : SimQ X F .fs a qa) : SimI X F OkP .fs tg a (iSeq qa) := PIimp (PIor (pi_list ha) (pi_tup ha)) fun σ H Q ⟨env, h, A, z, R, e, k⟩ => by
  obtain ⟨x, ex, ey⟩ := bind_some e
  rw [hK]
  unfold seqOf at ey
  split at ey
  · cases ey
    refine .inl ⟨env, h, A, _, R, ex, fun v H1 e1 rv => ?_⟩
    obtain ⟨a, us, rfl, q, r⟩ := rl rv
    exact ⟨a, rfl, ⟨us, LPof_sq (R.ex e1) q⟩, k _ H1 e1 (ylds_list r.len fun Hc o => ⟨ex_l o (LPof_sq (R.ex e1) q), RDs.ex o r⟩)⟩
  · cases ey
    refine .inr ⟨env, h, A, _, R, ex, fun v H1 e1 rv => ?_⟩
    obtain ⟨a, us, rfl, q, r⟩ := rt rv
    exact ⟨a, rfl, ⟨us, q⟩, k _ H1 e1 (ylds_tup r.len fun Hc o => ⟨ex_t o q, RDs.ex o r⟩)⟩
  · cases ey
/-- within statements: what stays -/
theorem si_seqS (hK : X.K = F.G.K) (ha : SimQ X F .fs a qa) : SimI X F OkS .fs tg a (iSeq qa) := PIimp (PIor (pi_list ha) (pi_tup ha)) fun σ H Q ⟨env, h, A, z, R, e, k⟩ => by
  obtain ⟨x, ex, ey⟩ := bind_some e
  rw [hK]
  unfold seqOf at ey
  split at ey
  · cases ey
    refine .inl ⟨env, h, A, _, R, ex, fun v H1 e1 rv => ?_⟩
    obtain ⟨a, us, rfl, q, r⟩ := rl rv
    exact ⟨a, rfl, ⟨us, LPof_sq (R.ex e1) q⟩, k _ H1 e1 (ylds_list r.len fun Hc ⟨P, _, _, _, _, S⟩ => ⟨LPof_sq (ℓ := .fs) S (Pres.fL P _ _ q), RepAll.mono P.sqT (Pres.fL P) _ _ r⟩)⟩
  · cases ey
    refine .inr ⟨env, h, A, _, R, ex, fun v H1 e1 rv => ?_⟩
    obtain ⟨a, us, rfl, q, r⟩ := rt rv
    exact ⟨a, rfl, ⟨us, q⟩, k _ H1 e1 (ylds_tup r.len fun Hc ⟨P, _⟩ => ⟨P.sqT _ _ q, RepAll.mono P.sqT (Pres.fL P) _ _ r⟩)⟩
  · cases ey
end

/-! ### targets -/
abbrev B1 := PyData → En → Option En
abbrev Bs := List PyData → En → Option En
def tGt (F : Fm) (ss : List Nat) (b : B1) : TG := fun v σ H Q => ∃ env h A d env', SR F env h A σ H ∧ RD F .fs H d v ∧ b d env = some env' ∧
  ∀ σ' H', Ex H H' → SR F env' h A σ' H' → σ'.length = σ.length → (∀ i, i ∉ ss → σ'[i]? = σ[i]?) → Q σ' H'
def tGts (F : Fm) (ss : List Nat) (b : Bs) : TGs := fun vs σ H Q => ∃ env h A ds env', SR F env h A σ H ∧ RDs F .fs H ds vs ∧ b ds env = some env' ∧
  ∀ σ' H', Ex H H' → SR F env' h A σ' H' → σ'.length = σ.length → (∀ i, i ∉ ss → σ'[i]? = σ[i]?) → Q σ' H'
theorem PGimp {X : Cx} {e : Expr} {t t' : TG} (h : PG X e t) (i : ∀ v σ H Q, t' v σ H Q → t v σ H Q) : PG X e t' := ⟨fun pins s σ H v u Q I r q => h.run pins s σ H v u Q I r (i v σ H Q q)⟩
theorem PGsimp {X : Cx} {e : List Expr} {t t' : TGs} (h : PGs X e t) (i : ∀ v σ H Q, t' v σ H Q → t v σ H Q) : PGs X e t' := ⟨fun pins s σ H v u Q I r q => h.run pins s σ H v u Q I r (i v σ H Q q)⟩
def bName (i : Nat) : B1 := fun d env => some (env.set i (.d d))
def bNil : Bs := fun ds env => match ds with
  | [] => some env
  | _ => none
def bCons (b : B1) (r : Bs) : Bs := fun ds env => match ds with
  | d :: ds => (b d env).bind fun env => r ds env
  | [] => none
def bTup (n : Nat) (r : Bs) : B1 := fun d env => match d with
  | .tuple ds => if ds.length = n then r ds env else none
  | _ => none
section
variable {F : Fm} {X : Cx} {tg a b c e : Expr} {es rest : List Expr} {pos p : Pos} {ss ss' : List Nat}
theorem sg_name {i : Nat} {x : Str} (hN : X.N.Nodup) (hi : X.N[i]? = some x) (hx : Loc X.env.scope x) (hf : X.fn x = true ∨ X.env.scope.names.lookup x = some .local := by first | exact .inl rfl | exact .inr rfl | assumption) : PG X (.Name x pos) (tGt F [i] (bName i)) :=
  PGimp (pg_name hN hi hx hf) fun v σ H Q ⟨env, h, A, d, env', R, r, e, k⟩ => by
    cases e
    exact k _ H (Ex.refl H) (R.setV r) (by simp) fun j hj => List.getElem?_set_ne (by simpa using fun e : i = j => hj (by simp [e]))
theorem sgs_nil : PGs X [] (tGts F [] bNil) := PGsimp pgs_nil fun v σ H Q ⟨env, h, A, ds, env', R, r, e, k⟩ => by
  cases ds with
  | nil =>
    cases e
    simp only [RepAll] at r
    exact ⟨r, k σ H (Ex.refl H) R rfl fun _ _ => rfl⟩
  | cons _ _ => cases e
theorem sgs_cons {bn : B1} {bs : Bs} (h1 : PG X e (tGt F ss bn)) (h2 : PGs X es (tGts F ss' bs)) (hs : (assignEach (e :: es) X.env).map (·.2) = assign e X.env :: (assignEach es X.env).map (·.2) := by rfl) : PGs X (e :: es) (tGts F (ss ++ ss') (bCons bn bs)) :=
  PGsimp (pgs_cons h1 h2 hs) fun v σ H Q ⟨env, h, A, ds, env', R, r, e, k⟩ => by
    cases ds with
    | nil => cases e
    | cons d ds =>
      obtain ⟨env1, e1, e2⟩ := bind_some e
      simp only [RepAll] at r
      obtain ⟨w, us, rfl, rw, rus⟩ := r
      refine ⟨w, us, rfl, env, h, A, d, env1, R, rw, e1, fun σ1 H1 x1 R1 l1 s1 => ?_⟩
      refine ⟨env1, h, A, ds, env', R1, RepAll.mono (Ex.pres x1).sqT (Pres.fL (Ex.pres x1)) _ _ rus, e2, fun σ2 H2 x2 R2 l2 s2 => ?_⟩
      exact k σ2 H2 (x1.trans x2) R2 (l2.trans l1) fun i hi => by
        simp only [List.mem_append, not_or] at hi
        exact (s2 i hi.2).trans (s1 i hi.1)
theorem sg_tup {bs : Bs} {n k : Nat} (hK : X.K = F.G.K) (hc : X.calm = true) (h : PGs X es (tGts F ss bs)) (hn : (assignEach es X.env).length = n := by rfl) (hst : (assignEach es X.env).findIdx? (·.1) = none := by rfl) : PG X (.Tuple es k pos) (tGt F ss (bTup n bs)) :=
  PGimp (pg_tup hc h hn hst) fun v σ H Q ⟨env, h, A, d, env', R, r, e, k⟩ => by
    unfold bTup at e
    split at e
    · next ds =>
      split at e
      · next hl =>
        obtain ⟨a, us, rfl, t, rs⟩ := rep_tup r
        exact ⟨a, us, rfl, by rw [hK]; exact t, by rw [rs.len]; exact hl, env, h, A, ds, env', R, rs, e, k⟩
      · cases e
    · cases e
end

/-! ### comprehensions -/
def wipeE (env : En) : List Nat → En
  | [] => env
  | v :: vs => (wipeE env vs).set v .un
theorem SR.wipe {F : Fm} {env : En} {h : Hs} {A : As} {σ : L2.St} {H : Hp} (R : SR F env h A σ H) : ∀ vs : List Nat, SR F (wipeE env vs) h A (L2.wipe σ vs) H
  | [] => R
  | v :: vs => (R.wipe vs).setUn'
theorem wipe_len (σ : L2.St) : ∀ vs : List Nat, (L2.wipe σ vs).length = σ.length := L2.wipe_length σ
theorem wipe_get {σ : L2.St} {i : Nat} : ∀ {vs : List Nat}, i ∈ vs → i < σ.length → (L2.wipe σ vs)[i]? = some none
  | v :: vs, hi, hl => by
    show ((L2.wipe σ vs).set v none)[i]? = some none
    by_cases e : v = i
    · subst e; rw [List.getElem?_set_self (by rw [wipe_len]; exact hl)]
    · rw [List.getElem?_set_ne e]
      refine wipe_get ?_ hl
      rcases List.mem_cons.mp hi with z | z
      · exact absurd z.symm e
      · exact z
theorem wipe_not {σ : L2.St} {i : Nat} : ∀ {vs : List Nat}, i ∉ vs → (L2.wipe σ vs)[i]? = σ[i]?
  | [], _ => rfl
  | v :: vs, hi => by
    simp only [List.mem_cons, not_or] at hi
    show ((L2.wipe σ vs).set v none)[i]? = _
    rw [List.getElem?_set_ne (Ne.symm hi.1)]
    exact wipe_not hi.2
theorem wipe_eq {σ σ' : L2.St} {vs ss : List Nat} (hl : σ'.length = σ.length) (hs : ∀ i, i ∉ ss → σ'[i]? = σ[i]?) (hv : ∀ i, i ∈ ss → i ∈ vs) : L2.wipe σ' vs = L2.wipe σ vs := by
  apply List.ext_getElem?
  intro i
  by_cases hi : i ∈ vs
  · by_cases hlt : i < σ.length
    · rw [wipe_get hi hlt, wipe_get hi (by omega)]
    · rw [List.getElem?_eq_none (by rw [wipe_len]; omega), List.getElem?_eq_none (by rw [wipe_len]; omega)]
  · rw [wipe_not hi, wipe_not hi]
    exact hs i fun z => hi (hv i z)
def lcGo (step : PyData → Option (Option PyData)) : List PyData → Option (List PyData)
  | [] => some []
  | x :: xs => (step x).bind fun o => (lcGo step xs).bind fun r => some (match o with
    | some y => y :: r
    | none => r)
theorem lcGo_app {step : PyData → Option (Option PyData)} : ∀ {xs ys : List PyData} {r : List PyData}, lcGo step (xs ++ ys) = some r → ∃ a b, lcGo step xs = some a ∧ lcGo step ys = some b ∧ r = a ++ b
  | [], ys, r, e => ⟨[], r, rfl, e, rfl⟩
  | x :: xs, ys, r, e => by
    obtain ⟨o, eo, e⟩ := bind_some e
    obtain ⟨q, eq, e⟩ := bind_some e
    obtain ⟨a, b, ea, eb, rfl⟩ := lcGo_app eq
    cases e
    refine ⟨_, b, by rw [lcGo, eo, Option.bind_some, ea, Option.bind_some], eb, ?_⟩
    cases o <;> rfl
def lcStep (vs : List Nat) (bn : B1) (tt : T1) (te : Q1) (env : En) (h : Hs) (d : PyData) : Option (Option PyData) :=
  (bn d (wipeE env vs)).bind fun env1 => (tt env1 h).bind fun b => if b = true then (te env1 h).bind fun y => (dOf y).bind fun y => some (some y) else some none
def fLc (it : I1) (vs : List Nat) (bn : B1) (tt : T1) (te : Q1) : En → Hs → Option (List PyData) := fun env h => (it env h).bind fun xs =>
  (lcGo (lcStep vs bn tt te env h) xs).bind fun ys => if ys.length ≤ sizeLine then some ys else none
def tTrue : T1 := fun _ _ => some true
section
variable {F : Fm} {X : Cx} {tg iter elt : Expr} {ifs : List Expr} {pos : Pos} {ss : List Nat} {scope : Scope} {own : List (Str × Nat)} {it : I1} {bn : B1} {tt : T1} {te : Q1}
theorem lc_read {σ : L2.St} {H : Hp} {Q : VK} {vs : List Nat} (hv : ∀ i, i ∈ ss → i ∈ vs) (hq : tF F (fLc it vs bn tt te) σ H Q) : tLc (tI F OkP .fs it) (tGt F ss bn) (tT F tt) (tQ F .st te) vs σ H Q := by
  obtain ⟨env, h, A, ys, R, e, k⟩ := hq
  obtain ⟨xs, ex, e⟩ := bind_some e
  obtain ⟨zs, ez, e⟩ := bind_some e
  split at e
  · next hl =>
    cases e
    refine ⟨env, h, A, xs, R, ex, fun J H1 e1 Y D hD => ?_⟩
    have nD : ∀ Hc, Ex H1 Hc → ∀ us, Hc D = some (.lst us) → Ex H Hc := fun Hc z _ _ => e1.trans z
    refine ⟨fun i m Hc => m = xs.length - i ∧ i ≤ xs.length ∧ Ex H1 Hc ∧ ∃ acc us, lcGo (lcStep vs bn tt te env h) (xs.take i) = some acc ∧ Hc D = some (.lst us) ∧ RDs F .st Hc acc us,
      ⟨xs.length, by simp, Nat.zero_le _, Ex.new hD, [], [], rfl, upd_same, .nil⟩, ?_⟩
    rintro i m Hc ⟨rfl, hi, z, acc, us, ea, hu, ru⟩
    by_cases hlt : i < xs.length
    · refine .inr ⟨Y.go Hc i z hlt, fun H' => i + 1 ≤ xs.length ∧ Ex H1 H' ∧ ∃ acc us, lcGo (lcStep vs bn tt te env h) (xs.take (i + 1)) = some acc ∧ H' D = some (.lst us) ∧ RDs F .st H' acc us,
        fun H' ⟨h1, h2, h3⟩ => ⟨xs.length - (i + 1), by omega, rfl, h1, h2, h3⟩, fun x Hn hy => ?_⟩
      obtain ⟨zn, rx⟩ := Y.yl Hc i x Hn _ z (List.getElem?_eq_getElem hlt) hy
      -- the turn's own step
      have esp : xs = xs.take i ++ xs[i] :: xs.drop (i + 1) := by rw [← List.drop_eq_getElem_cons hlt, List.take_append_drop]
      have es : lcGo (lcStep vs bn tt te env h) (xs.take i ++ xs[i] :: xs.drop (i + 1)) = some ys := by rw [← esp]; exact ez
      obtain ⟨a', b', ha', hb', hab⟩ := lcGo_app es
      rw [ea] at ha'; cases ha'
      obtain ⟨o, eo, hb'⟩ := bind_some hb'
      obtain ⟨env1, eb, eo'⟩ := bind_some eo
      obtain ⟨c, ec, eo'⟩ := bind_some eo'
      have et : lcGo (lcStep vs bn tt te env h) (xs.take (i + 1)) = some (acc ++ (match o with | some y => [y] | none => [])) := by
        rw [List.take_add_one, List.getElem?_eq_getElem hlt]
        have : ∀ l : List PyData, lcGo (lcStep vs bn tt te env h) l = some acc → lcGo (lcStep vs bn tt te env h) (l ++ [xs[i]]) = some (acc ++ (match o with | some y => [y] | none => [])) := by
          intro l
          generalize acc = ac
          induction l generalizing ac with
          | nil =>
            intro q
            cases q
            show lcGo _ [xs[i]] = _
            simp only [lcGo, eo, Option.bind_some]
            cases o <;> rfl
          | cons y l ih =>
            intro q
            obtain ⟨o1, q1, q⟩ := bind_some q
            obtain ⟨r1, q2, q⟩ := bind_some q
            cases q
            show lcGo _ (y :: (l ++ [xs[i]])) = _
            simp only [lcGo, q1, Option.bind_some, ih r1 q2]
            cases o1 <;> rfl
        exact this _ ea
      have S0 : SR F (wipeE env vs) h A (L2.wipe σ vs) Hn := ((R.ex e1).ex (z.trans zn)).wipe vs
      refine ⟨_, h, A, xs[i], env1, S0, rx, eb, fun σ2 H2 x2 R2 l2 s2 => ⟨?_, env1, h, A, c, R2, ec, fun H3 x3 => ?_⟩⟩
      · rw [wipe_eq (σ := L2.wipe σ vs) l2 s2 hv]
        exact wipe_eq (ss := vs) (wipe_len _ _) (fun i hi => wipe_not hi) fun _ z => z
      · have zt : Ex Hc H3 := (zn.trans x2).trans x3
        cases c with
        | false =>
          cases eo'
          refine ⟨hlt, z.trans zt, acc, us, by rw [et]; simp, zt D _ hu, RDs.ex zt ru⟩
        | true =>
          obtain ⟨y, ey, eo'⟩ := bind_some eo'
          obtain ⟨y', ey', eo'⟩ := bind_some eo'
          cases eo'
          refine ⟨env1, h, A, y, R2.ex x3, ey, fun v H4 x4 rv => ⟨us, (zt.trans x4) D _ hu, ?_, hlt, Ex.mut (z.trans (zt.trans x4)) hD, _, us ++ [v], et, upd_same, ?_⟩⟩
          · rw [ru.len]
            have : (acc ++ [y']).length ≤ ys.length := by
              rw [hab]
              obtain ⟨r2, q2, q3⟩ := bind_some hb'
              cases q3
              simp
            have hh : acc.length + 1 ≤ ys.length := by simpa using this
            omega
          · have P : Pres H4 (upd H4 D (.lst (us ++ [v]))) := Pres.upd fun u eu => by
              rw [(zt.trans x4) D _ hu] at eu; cases eu
              exact ⟨fun _ q => (by cases q), fun _ _ q => (by cases q)⟩
            refine RepAll.append (RepAll.mono P.sqT P.sL _ _ (RDs.ex (zt.trans x4) ru)) (.cons ?_ .nil)
            cases y with
            | d yy => cases ey'; exact Rep.mono P.sqT P.sL _ _ rv
            | ref n => cases ey'
            | fn n => cases ey'
    · have e0 : i = xs.length := by omega
      subst e0
      rw [List.take_length, ez] at ea
      cases ea
      exact .inl ⟨Y.st Hc _ z (Nat.le_refl _), k D us Hc (fresh_back e1 hD) (e1.trans z) hu ru⟩
  · cases e
theorem sf_lc (hc : X.calm = true) (hN : X.N.Nodup) (hi : SimI X F OkP .fs tg iter it) (ok : blkC X.N X.env.scope scope own = true) (hv : (ss.all fun i => (own.map (·.2)).contains i) = true)
    (hg : ∀ (s : Shared) (H : Hp) (C : Addr) (cl : List (Str × Addr)) (fp : List Addr), PG (X.blk s H scope (compEnvC scope cl C X.env) fp) tg (tGt F ss bn)) (ht : ∀ (s : Shared) (H : Hp) (C : Addr) (cl : List (Str × Addr)) (fp : List Addr), PTs (X.blk s H scope (compEnvC scope cl C X.env) fp) ifs (tT F tt))
    (he : ∀ (s : Shared) (H : Hp) (C : Addr) (cl : List (Str × Addr)) (fp : List Addr), SimQ (X.blk s H scope (compEnvC scope cl C X.env) fp) F .st elt te) (hs : ∀ x, foldedSetIterable iter X.env x = pure x := by intro _; rfl) :
    SimF X F (.ListComp elt [⟨tg, iter, ifs, 0⟩] scope pos) (fLc it (own.map (·.2)) bn tt te) :=
  PEimp (pe_lc hc hN hi (blkOk_by ok) hg ht he hs) fun _ _ _ => lc_read fun i hi => by
    have := List.all_eq_true.mp hv i hi
    simpa using this
theorem sts_nil : PTs X [] (tT F tTrue) := ⟨fun pins s σ H Q I ⟨env, h, A, b, R, e, k⟩ => by
  cases e
  exact pts_nil.run pins s σ H Q I (k H (Ex.refl H))⟩
theorem sts_one {c : Expr} (h : SimT X F c tt) : PTs X [c] (tT F tt) := pts_one h
end
end Sm

set_option Elab.async false
set_option linter.all false
set_option maxRecDepth 100000
set_option maxHeartbeats 1000000
namespace Sm
open PySem L2 Evl

/-! ### a new list locked -/
section
variable {X : Cx} {pins : List (Addr × Obj)} {σ : L2.St} {H : Hp} {s : Shared} {a : Addr} {us : List V}
theorem froze (I : Inv X pins σ H s) (ha : H a = some (.lst us)) : ∃ o, Inv X pins σ (upd H a (.frz o (.lst us))) s := by
  obtain ⟨z, its, n, r, e⟩ := I.hok a _ ha
  refine ⟨{ cls := .type "list", data := .seq its.toArray n }, ?_⟩
  have ne : ∀ b u, H b = some u → u ≠ .lst us → b ≠ a := fun b u q w z => by rw [z, ha] at q; cases q; exact w rfl
  have kp : ∀ b u, H b = some u → u ≠ .lst us → (upd H a (.frz { cls := .type "list", data := .seq its.toArray n } (.lst us))) b = some u := fun b u q w => by rw [upd_ne (ne b u q w)]; exact q
  refine I.step (g' := s.gens) (d' := s.drawn) (t' := s.toks) (h' := s.heap) (ch := []) (fun _ z => nomatch z) (fun b o _ _ _ e _ => e) (fun b o _ _ _ e _ => ⟨o.slots, e⟩) (fun b o _ _ q => ?_) (fun b o _ e => ⟨o, e⟩) (fun b xs q => kp b _ q (by simp)) (fun b o u q => kp b _ q (by simp)) (fun b ps q => ⟨#[], by rw [kp b _ q (by simp)]; simp⟩) (fun m z => z) ?_ I.bare
  · rw [upd_ne (fun z => by rw [z, ha] at q; cases q)]; exact q
  · intro b u q
    by_cases hb : b = a
    · subst hb
      rw [upd_same] at q; cases q
      exact ⟨e, z, its, n, r, e⟩
    · rw [upd_ne hb] at q
      exact (I.hok b u q).stay (fun c v _ q => q) (fun c q => kp c _ q (by simp)) (fun c xs q => kp c _ q (by simp))
end
theorem pe_lock {X : Cx} {e : Expr} {t : TE} (h : PE X e t) : PE X e (fun σ H Q => t σ H fun v H1 => ∃ a us, v = .ref a ∧ H1 a = some (.lst us) ∧ ∀ o, Q v (upd H1 a (.frz o (.lst us)))) := ⟨fun pins s σ H Q I q => by
  refine thn (h.run pins s σ H _ I q) fun v s1 ⟨x, H1, I1, r, a, us, e1, e2, k⟩ => ?_
  obtain ⟨o, I2⟩ := froze I1 e2
  exact ⟨x, _, I2, r, k o⟩⟩
/-- a new list, for ever -/
theorem sq_lock {F : Fm} {X : Cx} {e : Expr} {f : En → Hs → Option (List PyData)} (hf : SimF X F e f) : SimQ X F .st e (qF f) := PEimp (pe_lock hf) fun σ H Q ⟨env, h, A, z, R, e, k⟩ => by
  obtain ⟨xs, ex, e⟩ := bind_some e
  cases e
  refine ⟨env, h, A, xs, R, ex, fun p us H1 hp e1 hv rs => ⟨p, us, rfl, hv, fun o => k _ _ (fun b u q => ?_) ?_⟩⟩
  · rw [upd_ne (ne_of_none q hp)]; exact e1 b u q
  · have P : Pres H1 (upd H1 p (.frz o (.lst us))) := Pres.upd fun u eu => by
      rw [hv] at eu; cases eu
      exact ⟨fun _ q => (by cases q), fun _ _ q => (by cases q)⟩
    exact vl (ℓ := .st) (.inl ⟨o, upd_same⟩) (RepAll.mono P.sqT P.sL _ _ rs)

/-! ### statements -/
inductive Flo where
  | nx | rt (ℓ : Lv) (x : Val) | rf (xs : List PyData) | bk | ct
abbrev M1 := En → Hs → Option (Flo × En × Hs)
/-- what is wanted behind, by the way it ends -/
def Post (F : Fm) (H : Hp) (D : Ends) (r : Flo) (env' : En) (h' : Hs) : Prop := match r with
  | .nx => ∀ σ' H' A', SR F env' h' A' σ' H' → Pres H H' → D.nx σ' H'
  | .bk => ∀ σ' H' A', SR F env' h' A' σ' H' → Pres H H' → D.bk σ' H'
  | .ct => ∀ σ' H' A', SR F env' h' A' σ' H' → Pres H H' → D.ct σ' H'
  | .rt ℓ x => ∀ σ' H' A' v, SR F env' h' A' σ' H' → Pres H H' → RV F ℓ h' A' H' x v → D.rt v H'
  | .rf xs => ∀ σ' H' A' p us, SR F env' h' A' σ' H' → Pres H H' → F.H0 p = none → H' p = some (.lst us) → (∀ q, hlive h' q → A' q ≠ p) → RDs F .st H' xs us → D.rt (.ref p) H'
def tS (F : Fm) (m : M1) : TS := fun D σ H => ∃ env h A r env' h', SR F env h A σ H ∧ m env h = some (r, env', h') ∧ Post F H D r env' h'
theorem Post.pre {F : Fm} {H H1 : Hp} {D : Ends} {r : Flo} {env' : En} {h' : Hs} (P : Pres H H1) (q : Post F H D r env' h') : Post F H1 D r env' h' := by
  cases r with
  | nx => exact fun σ' H' A' R p => q σ' H' A' R (P.trans p)
  | bk => exact fun σ' H' A' R p => q σ' H' A' R (P.trans p)
  | ct => exact fun σ' H' A' R p => q σ' H' A' R (P.trans p)
  | rt ℓ x => exact fun σ' H' A' v R p => q σ' H' A' v R (P.trans p)
  | rf xs => exact fun σ' H' A' p us R pp => q σ' H' A' p us R (P.trans pp)
/-- only what follows differs -/
theorem Post.ends {F : Fm} {H : Hp} {D D' : Ends} {r : Flo} {env' : En} {h' : Hs} (q : Post F H D r env' h') (hn : r = .nx → ∀ σ' H' A', SR F env' h' A' σ' H' → Pres H H' → D'.nx σ' H') (hb : r = .bk → ∀ σ' H' A', SR F env' h' A' σ' H' → Pres H H' → D'.bk σ' H')
    (hc : r = .ct → ∀ σ' H' A', SR F env' h' A' σ' H' → Pres H H' → D'.ct σ' H') (hr : D'.rt = D.rt) : Post F H D' r env' h' := by
  cases r with
  | nx => exact hn rfl
  | bk => exact hb rfl
  | ct => exact hc rfl
  | rt ℓ x => exact fun σ' H' A' v R p z => by rw [hr]; exact q σ' H' A' v R p z
  | rf xs => exact fun σ' H' A' p us R pp z1 z2 z3 z4 => by rw [hr]; exact q σ' H' A' p us R pp z1 z2 z3 z4
theorem PSimp {X : Cx} {st : Stmt} {t t' : TS} (h : PS X st t) (i : ∀ D σ H, t' D σ H → t D σ H) : PS X st t' := ⟨fun pins s σ H D I q => h.run pins s σ H D I (i D σ H q)⟩
theorem PSsimp {X : Cx} {st : List Stmt} {t t' : TS} (h : PSs X st t) (i : ∀ D σ H, t' D σ H → t D σ H) : PSs X st t' := ⟨fun pins s σ H D I q => h.run pins s σ H D I (i D σ H q)⟩
abbrev SimS (X : Cx) (F : Fm) (st : Stmt) (m : M1) : Prop := PS X st (tS F m)
abbrev SimB (X : Cx) (F : Fm) (sts : List Stmt) (m : M1) : Prop := PSs X sts (tS F m)
def mNx : M1 := fun env h => some (.nx, env, h)
def mSeq (a b : M1) : M1 := fun env h => (a env h).bind fun r => match r.1 with
  | .nx => b r.2.1 r.2.2
  | _ => some r
def mRet (ℓ : Lv) (q : Q1) : M1 := fun env h => (q env h).bind fun x => some (.rt ℓ x, env, h)
def mRetF (f : I1) : M1 := fun env h => (f env h).bind fun x => some (.rf x, env, h)
def mRetN : M1 := fun env h => some (.rt .st (.d .none), env, h)
def mRetO (i : Nat) : M1 := fun env h => match env[i]? with
  | some (.l xs) => some (.rf xs, env, h)
  | _ => none
def mIf (t : T1) (a b : M1) : M1 := fun env h => (t env h).bind fun c => if c = true then a env h else b env h
def mSet (i : Nat) (q : Q1) : M1 := fun env h => (q env h).bind fun x => some (.nx, env.set i (.v x), h)
def mSetO (i : Nat) (f : I1) : M1 := fun env h => (f env h).bind fun xs => some (.nx, env.set i (.l xs), h)
def mBk : M1 := fun env h => some (.bk, env, h)
def mCt : M1 := fun env h => some (.ct, env, h)
/-- forget, then go on -/
def mPre (vs : List Nat) (m : M1) : M1 := fun env h => m (wipeE env vs) h
/-- a slot's own list locked, then go on -/
def mLock (i : Nat) (m : M1) : M1 := fun env h => match env[i]? with
  | some (.l xs) => m (env.set i (.d (.list xs))) h
  | _ => none
section
variable {F : Fm} {X : Cx} {st : Stmt} {sts rest : List Stmt} {e c : Expr} {pos : Pos} {m n : M1} {ℓ : Lv} {q : Q1} {f : I1} {t : T1}
theorem sb_nil : SimB X F [] mNx := PSsimp pss_nil fun D σ H ⟨env, h, A, r, env', h', R, e, k⟩ => by
  cases e
  exact k σ H A R (Pres.refl H)
theorem sb_cons (h1 : SimS X F st m) (h2 : SimB X F rest n) : SimB X F (st :: rest) (mSeq m n) := PSsimp (pss_cons h1 h2) fun D σ H ⟨env, h, A, r, env', h', R, e, k⟩ => by
  obtain ⟨⟨r1, env1, h1⟩, e1, e2⟩ := bind_some e
  refine ⟨env, h, A, r1, env1, h1, R, e1, ?_⟩
  cases r1 with
  | nx => exact fun σ' H' A' R' P => ⟨env1, h1, A', r, env', h', R', e2, k.pre P⟩
  | bk => cases e2; exact k
  | ct => cases e2; exact k
  | rt ℓ x => cases e2; exact k
  | rf xs => cases e2; exact k
theorem sb_one (h1 : SimS X F st m) : SimB X F [st] m := pss_one h1
theorem ss_ret (he : SimQ X F ℓ e q) : SimS X F (.Return (some e) pos) (mRet ℓ q) := PSimp (ps_ret he) fun D σ H ⟨env, h, A, r, env', h', R, e, k⟩ => by
  obtain ⟨x, ex, e⟩ := bind_some e
  cases e
  exact ⟨env, h, A, x, R, ex, fun v H1 e1 rv => k σ H1 A v (R.ex e1) (Ex.pres e1) rv⟩
theorem ss_retF (he : SimF X F e f) : SimS X F (.Return (some e) pos) (mRetF f) := PSimp (ps_ret he) fun D σ H ⟨env, h, A, r, env', h', R, e, k⟩ => by
  obtain ⟨x, ex, e⟩ := bind_some e
  cases e
  exact ⟨env, h, A, x, R, ex, fun p us H1 hp e1 hv rs => k σ H1 A p us (R.ex e1) (Ex.pres e1) (R.fresh hp).f0 hv (fun q hq => (R.fresh hp).fp q hq.live) rs⟩
theorem ss_retN : SimS X F (.Return none pos) mRetN := PSimp ps_retN fun D σ H ⟨env, h, A, r, env', h', R, e, k⟩ => by
  cases e
  exact k σ H A _ R (Pres.refl H) vn
theorem ss_retO (i : Nat) {x : Str} {p2 : Pos} (hN : X.N[i]? = some x := by rfl) (hv : Vis X.env.scope x := by first | exact Or.inl rfl | exact Or.inr (Or.inl rfl) | exact Or.inr (Or.inr rfl)) (hd : (x == ("__debug__" : Str)) = false := by decide)
    (hcd : (x == ("__classdict__" : Str)) = false := by decide) : SimS X F (.Return (some (.Name x p2)) pos) (mRetO i) := PSimp (ps_ret (pe_var hN hv hd hcd)) fun D σ H ⟨env, h, A, r, env', h', R, e, k⟩ => by
  unfold mRetO at e
  split at e
  · next xs hy =>
    cases e
    obtain ⟨e1, us, e2, rs⟩ := R.sl i _ hy
    have lv : live env h (.s i) := ⟨_, hy, rfl⟩
    refine ⟨.ref (A (.s i)), ?_, k σ H A _ us R (Pres.refl H) (R.ow i lv) e2 (fun q hq z => ?_) rs⟩
    · cases hs : σ[i]? with
      | none => rw [hs] at e1; cases e1
      | some o => rw [hs] at e1; exact congrArg some e1
    · have := R.ij _ _ hq.live lv z
      subst this
      exact hq
  · cases e
theorem ss_if {a b : List Stmt} {ma mb : M1} (hc : SimT X F c t) (ha : SimB X F a ma) (hb : SimB X F b mb) : SimS X F (.If c a b pos) (mIf t ma mb) := PSimp (ps_if hc ha hb) fun D σ H ⟨env, h, A, r, env', h', R, e, k⟩ => by
  obtain ⟨d, ed, e⟩ := bind_some e
  refine ⟨env, h, A, d, R, ed, fun H1 e1 => ?_⟩
  cases d with
  | true => exact ⟨env, h, A, r, env', h', R.ex e1, e, k.pre (Ex.pres e1)⟩
  | false => exact ⟨env, h, A, r, env', h', R.ex e1, e, k.pre (Ex.pres e1)⟩
theorem ss_set {i : Nat} {x : Str} {p2 : Pos} (hN : X.N.Nodup) (hi : X.N[i]? = some x) (hx : Loc X.env.scope x) (he : SimQ X F .fs e q) (hs : swapsWith e (some (.Name x p2)) pos.line X.env = pure false := by rfl) (hf : X.fn x = true ∨ X.env.scope.names.lookup x = some .local := by first | exact .inl rfl | exact .inr rfl | assumption) :
    SimS X F (.Assign [.Name x p2] e pos) (mSet i q) := PSimp (ps_set hN hi hx he hs hf) fun D σ H ⟨env, h, A, r, env', h', R, e, k⟩ => by
  obtain ⟨x, ex, e⟩ := bind_some e
  cases e
  exact ⟨env, h, A, x, R, ex, fun v H1 e1 rv => k _ H1 A ((R.ex e1).setV rv) (Ex.pres e1)⟩
theorem SR.own {env : En} {h : Hs} {A : As} {σ : L2.St} {H H1 : Hp} {i : Nat} {xs : List PyData} {p : Addr} {us : List V} (R : SR F env h A σ H) (hp : H p = none) (e1 : Ex H H1) (hv : H1 p = some (.lst us)) (rs : RDs F .st H1 xs us) :
    SR F (env.set i (.l xs)) h (As.put A (.s i) p) (σ.set i (some (.ref p))) H1 :=
  (R.ex e1).setNew ⟨(R.fresh hp).f0, (R.fresh hp).fp⟩ rfl ⟨rfl, us, hv, rs⟩
theorem ss_setO {i : Nat} {x : Str} {p2 : Pos} (hN : X.N.Nodup) (hi : X.N[i]? = some x) (hx : Loc X.env.scope x) (he : SimF X F e f) (hs : swapsWith e (some (.Name x p2)) pos.line X.env = pure false := by rfl) (hf : X.fn x = true ∨ X.env.scope.names.lookup x = some .local := by first | exact .inl rfl | exact .inr rfl | assumption) :
    SimS X F (.Assign [.Name x p2] e pos) (mSetO i f) := PSimp (ps_set hN hi hx he hs hf) fun D σ H ⟨env, h, A, r, env', h', R, e, k⟩ => by
  obtain ⟨x, ex, e⟩ := bind_some e
  cases e
  exact ⟨env, h, A, x, R, ex, fun p us H1 hp e1 hv rs => k _ H1 _ (R.own hp e1 hv rs) (Ex.pres e1)⟩
theorem ss_break : SimS X F (.Break pos) mBk := PSimp ps_break fun D σ H ⟨env, h, A, r, env', h', R, e, k⟩ => by
  cases e
  exact k σ H A R (Pres.refl H)
theorem ss_continue : SimS X F (.Continue pos) mCt := PSimp ps_continue fun D σ H ⟨env, h, A, r, env', h', R, e, k⟩ => by
  cases e
  exact k σ H A R (Pres.refl H)
theorem ss_pass : SimS X F (.Pass pos) mNx := PSimp ps_pass fun D σ H ⟨env, h, A, r, env', h', R, e, k⟩ => by
  cases e
  exact k σ H A R (Pres.refl H)
theorem SR.wipeS {env : En} {h : Hs} {A : As} {σ : L2.St} {H : Hp} (R : SR F env h A σ H) : ∀ vs : List Nat, SR F (wipeE env vs) h A σ H
  | [] => R
  | v :: vs => (R.wipeS vs).setUn
theorem sb_pre (vs : List Nat) (h1 : SimB X F sts m) : SimB X F sts (mPre vs m) := PSsimp h1 fun D σ H ⟨env, h, A, r, env', h', R, e, k⟩ => ⟨_, h, A, r, env', h', R.wipeS vs, e, k⟩
theorem sb_lock (i : Nat) (h1 : SimB X F sts m) : SimB X F sts (mLock i m) := ⟨fun pins s σ H D I ⟨env, h, A, r, env', h', R, e, k⟩ => by
  unfold mLock at e
  split at e
  · next xs hy =>
    obtain ⟨e1, us, e2, rs⟩ := R.sl i _ hy
    obtain ⟨o, I2⟩ := froze I e2
    have P : Pres H (upd H (A (.s i)) (.frz o (.lst us))) := R.pres_at ⟨_, hy, rfl⟩
    exact h1.run pins s σ _ D I2 ⟨_, h, A, r, env', h', R.lockS hy e2, e, k.pre P⟩
  · cases e⟩
/-- targets -/
def mAsg (q : Q1) (b : B1) : M1 := fun env h => (q env h).bind fun x => (dOf x).bind fun d => (b d env).bind fun env' => some (.nx, env', h)
theorem ss_asg {tg : Expr} {ss : List Nat} {b : B1} (he : SimQ X F .fs e q) (hg : PG X tg (tGt F ss b)) (hs : swapsWithSole [tg] e pos.line X.env = pure false := by rfl) (hw : swappedStores [tg] e X.env = pure none := by rfl)
    (h1 : (assignEach [tg] X.env).map (·.2) = [assign tg X.env] := by rfl) : SimS X F (.Assign [tg] e pos) (mAsg q b) := PSimp (ps_asg he hg hs hw h1) fun D σ H ⟨env, h, A, r, env', h', R, e, k⟩ => by
  obtain ⟨x, ex, e⟩ := bind_some e
  obtain ⟨d, ed, e⟩ := bind_some e
  obtain ⟨env1, eb, e⟩ := bind_some e
  cases e
  refine ⟨env, h, A, x, R, ex, fun v H1 e1 rv => ⟨env, h, A, d, _, R.ex e1, ?_, eb, fun σ' H' x1 R1 _ _ => k σ' H' A R1 ((Ex.pres e1).trans (Ex.pres x1))⟩⟩
  cases x with
  | d y => cases ed; exact rv
  | ref n => cases ed
  | fn n => cases ed

/-! ### for, while -/
def forGo (vs : List Nat) (body : PyData → M1) : List PyData → M1
  | [], env, h => some (.nx, env, h)
  | x :: xs, env, h => (body x env h).bind fun r => match r.1 with
    | .nx => forGo vs body xs (wipeE r.2.1 vs) r.2.2
    | .ct => forGo vs body xs (wipeE r.2.1 vs) r.2.2
    | .bk => some (.nx, wipeE r.2.1 vs, r.2.2)
    | _ => some r
def mFor (it : I1) (vs : List Nat) (bn : B1) (body : M1) : M1 := fun env h => (it env h).bind fun xs => forGo vs (fun d env h => (bn d env).bind fun env1 => body env1 h) xs (wipeE env vs) h
theorem ss_for {tg iter : Expr} {body : List Stmt} {it : I1} {bn : B1} {ss : List Nat} {mb : M1} (vs : List Nat) (hp : PassesOwn (model X.prog X.w) X.A X.env X.xe) (hc : X.calm = true) (hi : SimI X F OkS .fs tg iter it) (hg : PG X tg (tGt F ss bn)) (hb : SimB X F body mb)
    (hs : ∀ x, foldedSetIterable iter X.env x = pure x := by intro _; rfl) : SimS X F (.For tg iter body [] pos) (mFor it vs bn mb) := PSimp (ps_for hp hc hi hg hb hs) fun D σ H ⟨env, h, A, r, env', h', R, e, k⟩ => by
  obtain ⟨xs, ex, e⟩ := bind_some e
  refine ⟨env, h, A, xs, R, ex, fun J H1 e1 Y => ?_⟩
  have k1 : Post F H1 D r env' h' := k.pre (Ex.pres e1)
  refine ⟨fun i m σ Hc => m = xs.length - i ∧ i ≤ xs.length ∧ Pres H1 Hc ∧ ∃ env h A, SR F env h A σ Hc ∧ forGo vs (fun d env h => (bn d env).bind fun env1 => mb env1 h) (xs.drop i) env h = some (r, env', h'),
    ⟨xs.length, by simp, Nat.zero_le _, Pres.refl _, _, h, A, (R.ex e1).wipeS vs, by simpa using e⟩, ?_⟩
  rintro i m σ Hc ⟨rfl, hi, P, env2, h2, A2, R2, e2⟩
  have ok : OkS F H1 Hc := ⟨P, env2, h2, A2, σ, R2⟩
  by_cases hlt : i < xs.length
  · rw [List.drop_eq_getElem_cons hlt] at e2
    obtain ⟨⟨r3, env3, h3⟩, e3, e4⟩ := bind_some e2
    obtain ⟨env4, e5, e6⟩ := bind_some e3
    refine .inr ⟨Y.go Hc i ok hlt, fun σ' H' => i + 1 ≤ xs.length ∧ Pres H1 H' ∧ ∃ env h A, SR F env h A σ' H' ∧ forGo vs (fun d env h => (bn d env).bind fun env1 => mb env1 h) (xs.drop (i + 1)) env h = some (r, env', h'),
      fun σ' H' ⟨a, b, c⟩ => ⟨xs.length - (i + 1), by omega, rfl, a, b, c⟩, fun x Hn hy => ?_⟩
    obtain ⟨zn, rx⟩ := Y.yl Hc i x Hn _ ok (List.getElem?_eq_getElem hlt) hy
    refine ⟨env2, h2, A2, xs[i], env4, R2.ex zn, rx, e5, fun σ5 H5 x5 R5 _ _ => ⟨env4, h2, A2, r3, env3, h3, R5, e6, ?_⟩⟩
    have P5 : Pres H1 H5 := (P.trans (Ex.pres zn)).trans (Ex.pres x5)
    cases r3 with
    | nx => exact fun σ' H' A' R' P' => ⟨hlt, P5.trans P', _, h3, A', R'.wipeS vs, e4⟩
    | ct => exact fun σ' H' A' R' P' => ⟨hlt, P5.trans P', _, h3, A', R'.wipeS vs, e4⟩
    | bk => cases e4; exact fun σ' H' A' R' P' => k1 σ' H' A' (R'.wipeS vs) (P5.trans P')
    | rt ℓ x => cases e4; exact k1.pre P5
    | rf xs => cases e4; exact k1.pre P5
  · have e0 : i = xs.length := by omega
    subst e0
    rw [List.drop_length] at e2
    cases e2
    exact .inl ⟨Y.st Hc _ ok (Nat.le_refl _), k1 σ Hc A2 R2 P⟩
def whGo (vs : List Nat) (t : T1) (body : M1) : Nat → M1
  | 0, _, _ => none
  | n + 1, env, h => (t env h).bind fun b => if b = true then (body env h).bind fun r => match r.1 with
      | .nx => whGo vs t body n (wipeE r.2.1 vs) r.2.2
      | .ct => whGo vs t body n (wipeE r.2.1 vs) r.2.2
      | .bk => some (.nx, wipeE r.2.1 vs, r.2.2)
      | _ => some r
    else some (.nx, env, h)
def mWhile (fuel : Nat) (vs : List Nat) (t : T1) (body : M1) : M1 := fun env h => whGo vs t body fuel (wipeE env vs) h
theorem ss_while {body : List Stmt} {mb : M1} (fuel : Nat) (vs : List Nat) (hp : PassesOwn (model X.prog X.w) X.A X.env X.xe) (hc : SimT X F c t) (hb : SimB X F body mb) : SimS X F (.While c body [] pos) (mWhile fuel vs t mb) := PSimp (ps_while hp hc hb) fun D σ H ⟨env, h, A, r, env', h', R, e, k⟩ => by
  refine ⟨fun m σ Hc => Pres H Hc ∧ ∃ env h A, SR F env h A σ Hc ∧ whGo vs t mb m env h = some (r, env', h'), ⟨fuel, Pres.refl _, _, h, A, R.wipeS vs, e⟩, ?_⟩
  rintro m σ Hc ⟨P, env2, h2, A2, R2, e2⟩
  cases m with
  | zero => cases e2
  | succ m =>
    obtain ⟨b, eb, e2⟩ := bind_some e2
    refine ⟨env2, h2, A2, b, R2, eb, fun H1 e1 => ?_⟩
    cases b with
    | false => cases e2; exact k σ H1 A2 (R2.ex e1) (P.trans (Ex.pres e1))
    | true =>
      obtain ⟨⟨r3, env3, h3⟩, e3, e4⟩ := bind_some e2
      refine ⟨fun σ' H' => Pres H H' ∧ ∃ env h A, SR F env h A σ' H' ∧ whGo vs t mb m env h = some (r, env', h'), fun σ' H' z => ⟨m, Nat.lt_succ_self _, z⟩, env2, h2, A2, r3, env3, h3, R2.ex e1, e3, ?_⟩
      have P5 : Pres H H1 := P.trans (Ex.pres e1)
      cases r3 with
      | nx => exact fun σ' H' A' R' P' => ⟨P5.trans P', _, h3, A', R'.wipeS vs, e4⟩
      | ct => exact fun σ' H' A' R' P' => ⟨P5.trans P', _, h3, A', R'.wipeS vs, e4⟩
      | bk => cases e4; exact fun σ' H' A' R' P' => k σ' H' A' (R'.wipeS vs) (P5.trans P')
      | rt ℓ x => cases e4; exact k.pre P5
      | rf xs => cases e4; exact k.pre P5
end
end Sm

set_option Elab.async false
set_option linter.all false
set_option maxRecDepth 100000
set_option maxHeartbeats 1000000
namespace Sm
open PySem L2 Evl

/-! ### defs that write no object -/
def startE (k : Nat) (args : List Val) : En := args.map Sl.v ++ List.replicate k .un
def resD : Flo → Option Val
  | .rt _ (.d x) => some (.d x)
  | .rt _ (.fn j) => some (.fn j)
  | .rf xs => some (.d (.list xs))
  | .nx => some (.d .none)
  | _ => none
/-- the def as a function: k more slots than parameters -/
def runQ (k : Nat) (m : M1) : List Val → Hs → Option Val := fun args h => (m (startE k args) h).bind fun r => resD r.1
def runF (k : Nat) (m : M1) : List Val → Hs → Option (List PyData) := fun args h => (m (startE k args) h).bind fun r => match r.1 with
  | .rf xs => some xs
  | _ => none
def spQ (G : Glo) (n : Nat) (f : List Val → Hs → Option Val) : Sp := fun vs H Q _ => ∃ F env h A σ args x, F.G = G ∧ SR F env h A σ H ∧ Paired (fun x v => RV F .mo h A H x v) args vs ∧ args.length = n ∧ f args h = some x ∧ ∀ v H', Ex H H' → RV F .mo h A H' x v → Q v H'
def spF (G : Glo) (n : Nat) (f : List Val → Hs → Option (List PyData)) : Sp := fun vs H Q _ => ∃ F env h A σ args xs, F.G = G ∧ SR F env h A σ H ∧ Paired (fun x v => RV F .mo h A H x v) args vs ∧ args.length = n ∧ f args h = some xs ∧
  ∀ p us H', H p = none → Ex H H' → H' p = some (.lst us) → RDs F .st H' xs us → Q (.ref p) H'
theorem Paired.len {α β : Type} {f : α → β → Prop} : ∀ {l : List α} {m : List β}, Paired f l m → l.length = m.length
  | _, _, .nil => rfl
  | _, _, .cons _ t => congrArg (· + 1) (Paired.len t)
theorem Paired.get {α β : Type} {f : α → β → Prop} : ∀ {l : List α} {m : List β} {i : Nat} {x : α}, Paired f l m → l[i]? = some x → ∃ y, m[i]? = some y ∧ f x y
  | _, _, i, x, .nil, e => by simp at e
  | _, _, 0, x, .cons r _, e => by simp at e; subst e; exact ⟨_, rfl, r⟩
  | _, _, i + 1, x, .cons _ t, e => by
    obtain ⟨y, h1, h2⟩ := Paired.get (i := i) t (by simpa using e)
    exact ⟨y, by simpa using h1, h2⟩
section
variable {F : Fm} {env : En} {h h' : Hs} {A A' : As} {σ : L2.St} {H H' : Hp} {ℓ : Lv}
/-- a callee's slots at its start -/
theorem SR.args {N : List Str} {args : List Val} {vs : List V} (R : SR F [] h A [] H) (r : Paired (fun x v => RV F .fs h A H x v) args vs) (hl : args.length ≤ N.length) : SR F (startE (N.length - args.length) args) h A (L2.start N vs) H := by
  have hlen := Paired.len r
  have nl : ∀ p, live (startE (N.length - args.length) args) h p → live [] h p := fun p hp => by
    cases p with
    | s i =>
      obtain ⟨s, e, m⟩ := hp
      unfold startE at e
      by_cases hi : i < (args.map Sl.v).length
      · rw [List.getElem?_append_left hi, List.getElem?_map] at e
        obtain ⟨x, _, rfl⟩ := Option.map_eq_some_iff.mp e
        cases m
      · rw [List.getElem?_append_right (by omega)] at e
        have := List.eq_of_mem_replicate (List.mem_of_getElem? e)
        subst this
        cases m
    | o n => exact hp
    | f n j => exact hp
  refine ⟨R.fr, R.tp, R.fz, R.dm, R.le, R.oo, R.nw, fun i q => R.ow i (nl (.s i) q), ?_, fun i s e => ?_, R.ob, fun p q hp hq e => R.ij p q (nl p hp) (nl q hq) e⟩
  · simp [startE, L2.start, hlen]
  · unfold startE at e
    by_cases hi : i < (args.map Sl.v).length
    · rw [List.getElem?_append_left hi, List.getElem?_map] at e
      obtain ⟨x, ex, rfl⟩ := Option.map_eq_some_iff.mp e
      obtain ⟨v, ev, rv⟩ := Paired.get r ex
      refine ⟨v, ?_, rv⟩
      unfold L2.start
      rw [List.getElem?_append_left (by simpa [← hlen] using hi), List.getElem?_map, ev]
      rfl
    · rw [List.getElem?_append_right (by omega)] at e
      have := List.eq_of_mem_replicate (List.mem_of_getElem? e)
      subst this
      trivial
theorem cal_fs {G : Glo} (hG : F.G = G) {x : Val} {v : V} (r : RV F .mo h A H x v) : RV (Fm.cal G false h A H) .fs h A H x v := by
  subst hG
  refine r.mono (fun _ _ z => z) (fun a vs q => ?_) (Nat.le_refl _) fun _ _ => rfl
  rcases q with q | q
  · exact .inl ⟨q, fun w => by cases w.1⟩
  · exact .inr (.inr q)
theorem cal_ex {G : Glo} {env' : En} {σ' : L2.St} (R : SR (Fm.cal G false h A H) env' h' A' σ' H') : Ex H H' := fun a o e => R.fr a o e fun w => by cases w.1
end
section
variable {P : Program} {w : World} {K : PySem.W.Frag} {mg : Str → Option Value} {base : Heap} {x qual : Str} {st : Stmt} {f : Addr} {fd : FuncData} {N ps : List Str} {k : Nat} {G : Glo} {m : M1}
theorem fn_q (U : Fun K x qual st f fd) (S : FnScope N ps (defScope st)) (hl : ps.length ≤ N.length)
    (hb : ∀ (cdv : Value) (A : Around) (outer : List Env) (s : Shared) (H : Hp) (E : XK), Room k (A.deeper (PyProof.Rows.envOfC qual (defScope st) s.heap.objs.size f cdv)) → ∀ F : Fm, F.G = G → SimB (cxOf CX0 P w K mg base N qual (defScope st) f cdv A outer s H E).nox F (defBody st) m) :
    FnOk P w K mg base CX0 (k + 1) f fd ps (spQ G ps.length (runQ (N.length - ps.length) m)) := by
  refine U.ok S (fun vs H Q E h => ?_) (fun cdv A outer s H vs Q E hr h => ?_)
  · obtain ⟨F, env, h, A, σ, args, y, _, _, r, hn, _⟩ := h
    rw [← Paired.len r, hn]
  · obtain ⟨F, env, hh, As, σ, args, y, hG, R, r, hn, e, kk⟩ := h
    obtain ⟨⟨r1, env1, h1⟩, e1, e2⟩ := bind_some e
    have R0 : SR (Fm.cal G false hh As H) [] hh As [] H := by
      have := R.start false
      rw [hG] at this
      exact this
    have R1 := R0.args (N := N) (Paired.imp (fun _ _ z => cal_fs hG z) r) (by omega)
    rw [hn] at R1
    refine ⟨tS (Fm.cal G false hh As H) m, hb cdv A outer s H E hr _ rfl, _, hh, As, r1, env1, h1, R1, e1, ?_⟩
    cases r1 with
    | nx =>
      cases e2
      exact fun σ' H' A' R' _ => kk _ H' (cal_ex R') vn
    | bk => cases e2
    | ct => cases e2
    | rt ℓ y' =>
      intro σ' H' A' v R' _ rv
      have rv' := RV.mo R' rv
      cases y' with
      | d d => cases e2; refine kk v H' (cal_ex R') ?_; subst hG; exact rv'
      | ref n => cases e2
      | fn n => cases e2; refine kk v H' (cal_ex R') ?_; subst hG; exact rv'
    | rf xs =>
      intro σ' H' A' p us R' _ _ hv _ rs
      cases e2
      subst hG
      exact kk _ H' (cal_ex R') (vl (ℓ := .mo) (.inl (.inl hv)) (RDs.of_st (F := F) (ℓ := .mo) rs))
theorem fn_f (U : Fun K x qual st f fd) (S : FnScope N ps (defScope st)) (hl : ps.length ≤ N.length)
    (hb : ∀ (cdv : Value) (A : Around) (outer : List Env) (s : Shared) (H : Hp) (E : XK), Room k (A.deeper (PyProof.Rows.envOfC qual (defScope st) s.heap.objs.size f cdv)) → ∀ F : Fm, F.G = G → SimB (cxOf CX0 P w K mg base N qual (defScope st) f cdv A outer s H E).nox F (defBody st) m) :
    FnOk P w K mg base CX0 (k + 1) f fd ps (spF G ps.length (runF (N.length - ps.length) m)) := by
  refine U.ok S (fun vs H Q E h => ?_) (fun cdv A outer s H vs Q E hr h => ?_)
  · obtain ⟨F, env, h, A, σ, args, y, _, _, r, hn, _⟩ := h
    rw [← Paired.len r, hn]
  · obtain ⟨F, env, hh, As, σ, args, y, hG, R, r, hn, e, kk⟩ := h
    obtain ⟨⟨r1, env1, h1⟩, e1, e2⟩ := bind_some e
    have R0 : SR (Fm.cal G false hh As H) [] hh As [] H := by
      have := R.start false
      rw [hG] at this
      exact this
    have R1 := R0.args (N := N) (Paired.imp (fun _ _ z => cal_fs hG z) r) (by omega)
    rw [hn] at R1
    refine ⟨tS (Fm.cal G false hh As H) m, hb cdv A outer s H E hr _ rfl, _, hh, As, r1, env1, h1, R1, e1, ?_⟩
    cases r1 with
    | nx => cases e2
    | bk => cases e2
    | ct => cases e2
    | rt ℓ y' => cases e2
    | rf xs =>
      intro σ' H' A' p us R' _ f0 hv _ rs
      cases e2
      subst hG
      exact kk p us H' f0 (cal_ex R') hv rs
end
/-! ### their calls -/
def qCall (g : List Val → Hs → Option Val) (a : En → Hs → Option (List Val)) : Q1 := fun env h => (a env h).bind fun xs => g xs h
def fCall (g : List Val → Hs → Option (List PyData)) (a : En → Hs → Option (List Val)) : I1 := fun env h => (a env h).bind fun xs => g xs h
section
variable {F : Fm} {X : Cx} {k n : Nat} {f : Addr} {fd : FuncData} {ps : List Str} {x : Str} {p pos : Pos} {e : Expr} {es : List Expr} {g : List Val → Hs → Option Val} {gf : List Val → Hs → Option (List PyData)} {a : En → Hs → Option (List Val)}
theorem spQ_read {σ : L2.St} {H : Hp} {Q : VK} {E : XK} {G : Glo} (hG : F.G = G) (hn : ∀ xs h z, g xs h = some z → xs.length = n) (hq : tQ F .mo (qCall g a) σ H Q) : tCall (spQ G n g) [] E (tA F .mo a) σ H Q := by
  obtain ⟨env, h, A, z, R, e, k⟩ := hq
  obtain ⟨xs, ex, e⟩ := bind_some e
  refine ⟨env, h, A, xs, R, ex, fun vs H1 e1 rs => ?_⟩
  show spQ G n g (vs ++ []) H1 Q E
  rw [List.append_nil]
  exact ⟨F, env, h, A, σ, xs, z, hG, R.ex e1, rs, hn _ _ _ e, e, fun v H' e2 rv => k v H' (e1.trans e2) rv⟩
theorem spF_read {σ : L2.St} {H : Hp} {Q : VK} {E : XK} {G : Glo} (hG : F.G = G) (hn : ∀ xs h z, gf xs h = some z → xs.length = n) (hq : tF F (fCall gf a) σ H Q) : tCall (spF G n gf) [] E (tA F .mo a) σ H Q := by
  obtain ⟨env, h, A, z, R, e, k⟩ := hq
  obtain ⟨xs, ex, e⟩ := bind_some e
  refine ⟨env, h, A, xs, R, ex, fun vs H1 e1 rs => ?_⟩
  show spF G n gf (vs ++ []) H1 Q E
  rw [List.append_nil]
  exact ⟨F, env, h, A, σ, xs, z, hG, R.ex e1, rs, hn _ _ _ e, e, fun p us H' hp e2 hv rv => k p us H' (fresh_back e1 hp) (e1.trans e2) hv rv⟩
/-- only for so many arguments -/
def arity {α : Type} (n : Nat) (g : List Val → Hs → Option α) : List Val → Hs → Option α := fun xs h => if xs.length = n then g xs h else none
theorem arity_n {α : Type} {n : Nat} {g : List Val → Hs → Option α} : ∀ xs h z, arity n g xs h = some z → xs.length = n := fun xs h z e => by
  unfold arity at e
  split at e
  · assumption
  · cases e
theorem spQ_ar {G : Glo} {vs : List V} {H : Hp} {Q : VK} {E : XK} (h : spQ G n (arity n g) vs H Q E) : spQ G n g vs H Q E := by
  obtain ⟨F, env, h, A, σ, args, y, hG, R, r, hn, e, kk⟩ := h
  exact ⟨F, env, h, A, σ, args, y, hG, R, r, hn, by simpa [arity, hn] using e, kk⟩
theorem spF_ar {G : Glo} {vs : List V} {H : Hp} {Q : VK} {E : XK} (h : spF G n (arity n gf) vs H Q E) : spF G n gf vs H Q E := by
  obtain ⟨F, env, h, A, σ, args, y, hG, R, r, hn, e, kk⟩ := h
  exact ⟨F, env, h, A, σ, args, y, hG, R, r, hn, by simpa [arity, hn] using e, kk⟩
theorem sq_call {G : Glo} (U : FnOk X.prog X.w X.K X.mg X.base CX0 k f fd ps (spQ G n g)) (hG : F.G = G) (hr : Room k X.A) (hm : X.mg x = some (.ref f)) (hk : PySem.W.keepIn X.K (.ref f) = true) (hb : Binds X.K fd ps []) (ha : SimA X F .mo (e :: es) a)
    (hg : Gl X x := by rfl) (hdb : (x == ("__debug__" : Str)) = false := by decide) (he : starEach (e :: es) X.env = (false, eval e X.env) :: starEach es X.env := by rfl) (hpl : (backTo pos (starEach es X.env)).any (·.1) = false := by rfl) :
    SimQ X F .mo (.Call (.Name x p) (e :: es) [] pos) (qCall (arity n g) a) :=
  PEimp (pe_call (U.imp fun _ _ _ _ => spQ_ar) hr hg hm hk hb .nil pass0 ha hdb he hpl) fun σ H Q q => spQ_read hG arity_n q
theorem sf_call {G : Glo} (U : FnOk X.prog X.w X.K X.mg X.base CX0 k f fd ps (spF G n gf)) (hG : F.G = G) (hr : Room k X.A) (hm : X.mg x = some (.ref f)) (hk : PySem.W.keepIn X.K (.ref f) = true) (hb : Binds X.K fd ps []) (ha : SimA X F .mo (e :: es) a)
    (hg : Gl X x := by rfl) (hdb : (x == ("__debug__" : Str)) = false := by decide) (he : starEach (e :: es) X.env = (false, eval e X.env) :: starEach es X.env := by rfl) (hpl : (backTo pos (starEach es X.env)).any (·.1) = false := by rfl) :
    SimF X F (.Call (.Name x p) (e :: es) [] pos) (fCall (arity n gf) a) :=
  PEimp (pe_call (U.imp fun _ _ _ _ => spF_ar) hr hg hm hk hb .nil pass0 ha hdb he hpl) fun σ H Q q => spF_read hG arity_n q
end
end Sm

set_option Elab.async false
set_option linter.all false
set_option maxRecDepth 100000
set_option maxHeartbeats 1000000
namespace Sm
open PySem L2 Evl

/-! ### expressions that may write objects -/
abbrev E1 := En → Hs → Option (Val × Hs)
abbrev EF := En → Hs → Option (List PyData × Hs)
abbrev EA := En → Hs → Option (List Val × Hs)
abbrev ET := En → Hs → Option (Bool × Hs)
def tE (F : Fm) (ℓ : Lv) (m : E1) : TE := fun σ H Q => ∃ env h A x h', SR F env h A σ H ∧ m env h = some (x, h') ∧ ∀ v H' A', SR F env h' A' σ H' → Step h A H h' A' H' → RV F ℓ h' A' H' x v → Q v H'
def tEF (F : Fm) (m : EF) : TE := fun σ H Q => ∃ env h A xs h', SR F env h A σ H ∧ m env h = some (xs, h') ∧ ∀ p us H' A', SR F env h' A' σ H' → Step h A H h' A' H' → H p = none → H' p = some (.lst us) → Fresh F env h' A' p → RDs F .st H' xs us → Q (.ref p) H'
def tEA (F : Fm) (m : EA) : TA := fun σ H Q => ∃ env h A xs h', SR F env h A σ H ∧ m env h = some (xs, h') ∧ ∀ vs H' A', SR F env h' A' σ H' → Step h A H h' A' H' → Paired (fun x v => RV F .fs h' A' H' x v) xs vs → Q vs H'
def tTE (F : Fm) (m : ET) : TT := fun σ H Q => ∃ env h A b h', SR F env h A σ H ∧ m env h = some (b, h') ∧ ∀ H' A', SR F env h' A' σ H' → Step h A H h' A' H' → Q b H'
abbrev SimE (X : Cx) (F : Fm) (ℓ : Lv) (e : Expr) (m : E1) : Prop := PE X e (tE F ℓ m)
abbrev SimEF (X : Cx) (F : Fm) (e : Expr) (m : EF) : Prop := PE X e (tEF F m)
abbrev SimEA (X : Cx) (F : Fm) (es : List Expr) (m : EA) : Prop := PA X es (tEA F m)
abbrev SimTE (X : Cx) (F : Fm) (e : Expr) (m : ET) : Prop := PT X e (tTE F m)
def eQ (q : Q1) : E1 := fun env h => (q env h).bind fun x => some (x, h)
def eF (f : I1) : EF := fun env h => (f env h).bind fun x => some (x, h)
def eT (t : T1) : ET := fun env h => (t env h).bind fun x => some (x, h)
def eNil : EA := fun _ h => some ([], h)
def eCons (a : E1) (r : EA) : EA := fun env h => (a env h).bind fun x => (r env x.2).bind fun xs => some (x.1 :: xs.1, xs.2)
def e1 (g : Hs → Val → Option Val) (a : E1) : E1 := fun env h => (a env h).bind fun x => (g x.2 x.1).bind fun z => some (z, x.2)
def e2 (g : Hs → Val → Val → Option Val) (a b : E1) : E1 := fun env h => (a env h).bind fun x => (b env x.2).bind fun y => (g y.2 x.1 y.1).bind fun z => some (z, y.2)
def eTup (a : EA) : E1 := fun env h => (a env h).bind fun x => (dsOf x.1).bind fun ds => if ds.length ≤ sizeLine then some (.d (.tuple ds), x.2) else none
def efLst (a : EA) : EF := fun env h => (a env h).bind fun x => (dsOf x.1).bind fun ds => if ds.length ≤ sizeLine ∧ nlAll ds = true then some (ds, x.2) else none
def eLock (f : EF) : E1 := fun env h => (f env h).bind fun x => some (.d (.list x.1), x.2)
def eIf (t : ET) (a b : E1) : E1 := fun env h => (t env h).bind fun c => if c.1 = true then a env c.2 else b env c.2
def etV (m : E1) : ET := fun env h => (m env h).bind fun x => match x.1 with
  | .d d => (gTru d).bind fun b => some (b, x.2)
  | _ => none
def eCall (g : List Val → Hs → Option (Val × Hs)) (a : EA) : E1 := fun env h => (a env h).bind fun x => g x.1 x.2
def efCall (g : List Val → Hs → Option (List PyData × Hs)) (a : EA) : EF := fun env h => (a env h).bind fun x => g x.1 x.2

section
variable {F : Fm} {X : Cx} {a b c e : Expr} {es : List Expr} {pos p : Pos} {ℓ : Lv} {ma mb mc : E1} {env : En} {h h' : Hs} {A A' : As} {σ : L2.St} {H H' : Hp} {q : Q1}
/-- what stays through a step -/
theorem LPof.pres (P : Pres H H') : ∀ {ℓ : Lv}, ℓ ≠ .mo → ∀ (a : Addr) (vs : List V), LPof F H ℓ a vs → LPof F H' ℓ a vs
  | .mo, n, _, _, _ => absurd rfl n
  | .fs, _, a, vs, q => Pres.fL P a vs q
  | .st, _, a, vs, q => Pres.sL P a vs q
theorem RV.step (s : Step h A H h' A' H') (n : ℓ ≠ .mo) {x : Val} {v : V} (r : RV F ℓ h A H x v) : RV F ℓ h' A' H' x v := r.mono s.pres.sqT (LPof.pres s.pres n) s.le s.oo
theorem RD.pres (P : Pres H H') (n : ℓ ≠ .mo) {x : PyData} {v : V} (r : RD F ℓ H x v) : RD F ℓ H' x v := Rep.mono P.sqT (LPof.pres P n) _ _ r
theorem RDs.pres (P : Pres H H') (n : ℓ ≠ .mo) {x : List PyData} {v : List V} (r : RDs F ℓ H x v) : RDs F ℓ H' x v := RepAll.mono P.sqT (LPof.pres P n) _ _ r
theorem se_q (ha : SimQ X F ℓ a q) : SimE X F ℓ a (eQ q) := PEimp ha fun σ H Q ⟨env, h, A, z, h', R, e, k⟩ => by
  obtain ⟨x, ex, e⟩ := bind_some e
  cases e
  exact ⟨env, h, A, _, R, ex, fun v H1 e1 rv => k v H1 A (R.ex e1) (Step.ex e1) rv⟩
theorem sef_f {f : I1} (ha : SimF X F a f) : SimEF X F a (eF f) := PEimp ha fun σ H Q ⟨env, h, A, z, h', R, e, k⟩ => by
  obtain ⟨x, ex, e⟩ := bind_some e
  cases e
  exact ⟨env, h, A, _, R, ex, fun p us H1 hp e1 hv rs => k p us H1 A (R.ex e1) (Step.ex e1) hp hv ⟨(R.fresh hp).f0, (R.fresh hp).fp⟩ rs⟩
theorem ste_t {t : T1} (ha : SimT X F a t) : SimTE X F a (eT t) := PTimp ha fun σ H Q ⟨env, h, A, z, h', R, e, k⟩ => by
  obtain ⟨x, ex, e⟩ := bind_some e
  cases e
  exact ⟨env, h, A, _, R, ex, fun H1 e1 => k H1 A (R.ex e1) (Step.ex e1)⟩
theorem se_fs (ha : SimE X F .st a ma) : SimE X F .fs a ma := PEimp ha fun σ H Q ⟨env, h, A, z, h', R, e, k⟩ =>
  ⟨env, h, A, z, h', R, e, fun v H1 A1 R1 s rv => k v H1 A1 R1 s rv.of_st⟩
def enl (m : E1) : E1 := fun env h => (m env h).bind fun x => match x.1 with
  | .d d => if nl d = true then some x else none
  | _ => some x
theorem se_nl {ℓ₁ : Lv} (ha : SimE X F ℓ₁ a ma) : SimE X F ℓ a (enl ma) := PEimp ha fun σ H Q ⟨env, h, A, z, h', R, e, k⟩ => by
  obtain ⟨⟨x, h1⟩, ex, e⟩ := bind_some e
  refine ⟨env, h, A, x, h1, R, ex, fun v H1 A1 R1 s rv => ?_⟩
  cases x with
  | d d =>
    simp only at e
    split at e
    · next hn => cases e; exact k v H1 A1 R1 s (Rep.nl d v hn rv)
    · cases e
  | ref n => cases e; exact k v H1 A1 R1 s rv
  | fn n => cases e; exact k v H1 A1 R1 s rv
theorem BinS.fs {f : Value → Value → Sem Value} {g : Hs → Val → Val → Option Val} (o : BinS X F .mo .mo ℓ f g) : BinS X F .fs .fs ℓ f g := by
  obtain ⟨r, h1, h2⟩ := o
  exact ⟨r, h1, fun env h A σ H x y v u z R rx ry => h2 env h A σ H x y v u z R (RV.mo R rx) (RV.mo R ry)⟩
theorem tOp_e {r : R2} {g : Hs → Val → Val → Option Val} (o : Op2 F .fs .fs ℓ r g) {Q : VK} (hq : tE F ℓ (e2 g ma mb) σ H Q) : tOp r (tE F .fs ma) (tE F .fs mb) σ H Q := by
  obtain ⟨env, h, A, z, h', R, e, k⟩ := hq
  obtain ⟨⟨x, h1⟩, ex, e⟩ := bind_some e
  obtain ⟨⟨y, h2⟩, ey, e⟩ := bind_some e
  obtain ⟨w, ew, e⟩ := bind_some e
  cases e
  refine ⟨env, h, A, x, h1, R, ex, fun v H1 A1 R1 s1 rv => ⟨env, h1, A1, y, _, R1, ey, fun u H2 A2 R2 s2 ru => ?_⟩⟩
  exact o env _ A2 σ H2 x y v u z R2 (rv.step s2 (by simp)) ru ew Q fun v' H' e3 rz => k v' H' A2 (R2.ex e3) ((s1.trans s2).trans (Step.ex e3)) rz
theorem se_bin {op : Operator} {g : Hs → Val → Val → Option Val} (o : BinS X F .fs .fs ℓ (binaryOp op) g) (ha : SimE X F .fs a ma) (hb : SimE X F .fs b mb) : SimE X F ℓ (.BinOp a op b pos) (e2 g ma mb) := by
  obtain ⟨r, h1, h2⟩ := o
  exact PEimp (pe_op h1 ha hb) fun _ _ _ => tOp_e h2
theorem se_cmp {op : CmpOp} {g : Hs → Val → Val → Option Val} (o : BinS X F .fs .fs ℓ (compareOp op) g) (ha : SimE X F .fs a ma) (hb : SimE X F .fs b mb) (hm : behindInMarks op b = false) : SimE X F ℓ (.Compare a [op] [b] pos) (e2 g ma mb) := by
  obtain ⟨r, h1, h2⟩ := o
  exact PEimp (pe_cmpR h1 ha hb hm) fun _ _ _ => tOp_e h2
theorem se_sub (hK : X.K = F.G.K) (ha : SimE X F .fs a ma) (hb : SimE X F .fs b mb) (hs : PlainIx b := by intro _ _; rfl) : SimE X F .fs (.Subscript a b pos) (e2 gIx ma mb) :=
  PEimp (pe_ix ix_seq ha hb hs) fun _ _ _ => tOp_e (o_ix hK)
theorem ste_cmp {op : CmpOp} {g : Hs → Val → Val → Option Val} (o : BinS X F .fs .fs .st (compareOp op) g) (ha : SimE X F .fs a ma) (hb : SimE X F .fs b mb) (hm : behindInMarks op b = false) (hg : ∀ h x y z, g h x y = some z → ∃ k, z = .d (.bool k)) :
    SimTE X F (.Compare a [op] [b] pos) (etV (e2 g ma mb)) := by
  obtain ⟨r, h1, h2⟩ := o
  refine PTimp (pt_cmpR h1 ha hb hm) fun σ H Q ⟨env, h, A, k, h', R, e, q⟩ => ?_
  obtain ⟨⟨x, h1⟩, ex, e⟩ := bind_some e
  refine tOp_e h2 ⟨env, h, A, x, h1, R, ex, fun v H1 A1 R1 s rv => ?_⟩
  obtain ⟨_, _, ex⟩ := bind_some ex
  obtain ⟨_, _, ex⟩ := bind_some ex
  obtain ⟨w, ew, ex⟩ := bind_some ex
  cases ex
  obtain ⟨c, rfl⟩ := hg _ _ _ _ ew
  cases e
  have rv := rb rv
  exact ⟨k, rv, q H1 A1 R1 s⟩
theorem ste_v (hK : X.K = F.G.K) (ha : SimE X F .fs a ma) (he : ∀ whole, isTrue a X.env whole = (do let v ← whole; standAt a.pos; holding [v] (truthy v)) := by intro _; rfl) : SimTE X F a (etV ma) := PTimp (pt_truth ha he) fun σ H Q ⟨env, h, A, k, h', R, e, q⟩ => by
  obtain ⟨⟨x, h1⟩, ex, e⟩ := bind_some e
  refine ⟨env, h, A, x, h1, R, ex, fun v H1 A1 R1 s rv => ⟨k, ?_, ?_⟩⟩
  · cases x with
    | d d =>
      obtain ⟨b, eb, e⟩ := bind_some e
      cases e
      rw [hK]
      exact truV_of (RV.data (RV.mo R1 rv)) eb
    | ref n => cases e
    | fn n => cases e
  · cases x with
    | d d =>
      obtain ⟨b, eb, e⟩ := bind_some e
      cases e
      exact q H1 A1 R1 s
    | ref n => cases e
    | fn n => cases e
def eNot (m : ET) : ET := fun env h => (m env h).bind fun c => some (!c.1, c.2)
def eAnd (a b : ET) : ET := fun env h => (a env h).bind fun c => if c.1 = true then b env c.2 else some (false, c.2)
def eOr (a b : ET) : ET := fun env h => (a env h).bind fun c => if c.1 = true then some (true, c.2) else b env c.2
theorem ste_not {t : ET} (ha : SimTE X F a t) : SimTE X F (.UnaryOp .Not a pos) (eNot t) := PTimp (pt_not ha) fun σ H Q ⟨env, h, A, k, h', R, e, q⟩ => by
  obtain ⟨⟨c, h1⟩, ec, e⟩ := bind_some e
  cases e
  exact ⟨env, h, A, c, h1, R, ec, fun H1 A1 R1 s => q H1 A1 R1 s⟩
theorem swe_1 {op : BoolOp} {t : ET} (ha : SimTE X F a t) : PW X (.BoolOp .And [a] pos) (tTE F t) := pw_and1 ha
theorem swe_o1 {t : ET} (ha : SimTE X F a t) : PW X (.BoolOp .Or [a] pos) (tTE F t) := pw_or1 ha
theorem swe_and {rest : List Expr} {ta tb : ET} (ha : SimTE X F a ta) (hb : PW X (.BoolOp .And (b :: rest) pos) (tTE F tb)) : PW X (.BoolOp .And (a :: b :: rest) pos) (tTE F (eAnd ta tb)) := PWimp (pw_and ha hb) fun σ H Q ⟨env, h, A, k, h', R, e, q⟩ => by
  obtain ⟨⟨c, h1⟩, ec, e⟩ := bind_some e
  refine ⟨env, h, A, c, h1, R, ec, fun H1 A1 R1 s => ?_⟩
  cases c with
  | true => exact ⟨env, h1, A1, k, h', R1, e, fun H2 A2 R2 s2 => q H2 A2 R2 (s.trans s2)⟩
  | false => cases e; exact q H1 A1 R1 s
theorem swe_or {rest : List Expr} {ta tb : ET} (ha : SimTE X F a ta) (hb : PW X (.BoolOp .Or (b :: rest) pos) (tTE F tb)) : PW X (.BoolOp .Or (a :: b :: rest) pos) (tTE F (eOr ta tb)) := PWimp (pw_or ha hb) fun σ H Q ⟨env, h, A, k, h', R, e, q⟩ => by
  obtain ⟨⟨c, h1⟩, ec, e⟩ := bind_some e
  refine ⟨env, h, A, c, h1, R, ec, fun H1 A1 R1 s => ?_⟩
  cases c with
  | false => exact ⟨env, h1, A1, k, h', R1, e, fun H2 A2 R2 s2 => q H2 A2 R2 (s.trans s2)⟩
  | true => cases e; exact q H1 A1 R1 s
theorem se_if {t : ET} (hc : SimTE X F c t) (ha : SimE X F ℓ a ma) (hb : SimE X F ℓ b mb) : SimE X F ℓ (.IfExp c a b pos) (eIf t ma mb) := PEimp (pe_ifExp hc ha hb) fun σ H Q ⟨env, h, A, z, h', R, e, k⟩ => by
  obtain ⟨⟨d, h1⟩, ed, e⟩ := bind_some e
  refine ⟨env, h, A, d, h1, R, ed, fun H1 A1 R1 s1 => ?_⟩
  cases d with
  | true => exact ⟨env, h1, A1, z, h', R1, e, fun v H2 A2 R2 s2 rv => k v H2 A2 R2 (s1.trans s2) rv⟩
  | false => exact ⟨env, h1, A1, z, h', R1, e, fun v H2 A2 R2 s2 rv => k v H2 A2 R2 (s1.trans s2) rv⟩
theorem sea_nil : SimEA X F [] eNil := PAimp pa_nil fun σ H Q ⟨env, h, A, xs, h', R, e, k⟩ => by
  cases e
  exact k [] H A R Step.refl .nil
theorem sea_cons {r : EA} (ha : SimE X F .fs e ma) (hr : SimEA X F es r) (hs : starEach (e :: es) X.env = (false, eval e X.env) :: starEach es X.env := by rfl) : SimEA X F (e :: es) (eCons ma r) :=
  PAimp (pa_cons ha hr hs) fun σ H Q ⟨env, h, A, xs, h', R, e, k⟩ => by
    obtain ⟨⟨x, h1⟩, ex, e⟩ := bind_some e
    obtain ⟨⟨ys, h2⟩, ey, e⟩ := bind_some e
    cases e
    exact ⟨env, h, A, x, h1, R, ex, fun v H1 A1 R1 s1 rv => ⟨env, h1, A1, ys, _, R1, ey, fun vs H2 A2 R2 s2 rs => k _ H2 A2 R2 (s1.trans s2) (.cons (rv.step s2 (by simp)) rs)⟩⟩
theorem se_tup {k : Nat} {r : EA} (hr : SimEA X F es r) : SimE X F .fs (.Tuple es k pos) (eTup r) := PEimp (pe_tup hr) fun σ H Q ⟨env, h, A, z, h', R, e, k⟩ => by
  obtain ⟨⟨xs, h1⟩, ex, e⟩ := bind_some e
  obtain ⟨ds, ed, e⟩ := bind_some e
  split at e
  · next hl =>
    cases e
    refine ⟨env, h, A, xs, _, R, ex, fun vs H1 A1 R1 s1 rs => ?_⟩
    have rd := ds_rep ed rs
    exact ⟨by rw [rd.len]; exact hl, fun p hp => k _ _ A1 (R1.ex (Ex.new hp)) (s1.trans (Step.ex (Ex.new hp))) (vt (.inl (.inl upd_same)) (RDs.ex (Ex.new hp) rd))⟩
  · cases e
theorem none_back (s : Step h A H h' A' H') {p : Addr} (hp : H' p = none) : H p = none := by
  cases q : H p with
  | none => rfl
  | some o => obtain ⟨o', e⟩ := s.dm p o q; rw [hp] at e; cases e
theorem sef_lst {r : EA} (hr : SimEA X F es r) : SimEF X F (.List es pos) (efLst r) := PEimp (pe_lst hr) fun σ H Q ⟨env, h, A, z, h', R, e, k⟩ => by
  obtain ⟨⟨xs, h1⟩, ex, e⟩ := bind_some e
  obtain ⟨ds, ed, e⟩ := bind_some e
  split at e
  · next hl =>
    cases e
    refine ⟨env, h, A, xs, _, R, ex, fun vs H1 A1 R1 s1 rs => ?_⟩
    have rd := ds_rep ed rs
    exact ⟨by rw [rd.len]; exact hl.1, fun p hp => k p vs _ A1 (R1.ex (Ex.new hp)) (s1.trans (Step.ex (Ex.new hp))) (none_back s1 hp) upd_same ⟨(R1.fresh hp).f0, (R1.fresh hp).fp⟩ (RDs.ex (Ex.new hp) (RepAll.nl _ _ hl.2 rd))⟩
  · cases e
theorem se_lock {m : EF} (hf : SimEF X F e m) : SimE X F .st e (eLock m) := PEimp (pe_lock hf) fun σ H Q ⟨env, h, A, z, h', R, e, k⟩ => by
  obtain ⟨⟨xs, h1⟩, ex, e⟩ := bind_some e
  cases e
  refine ⟨env, h, A, xs, _, R, ex, fun p us H1 A1 R1 s hp hv f rs => ⟨p, us, rfl, hv, fun o => ?_⟩⟩
  have P : Pres H1 (upd H1 p (.frz o (.lst us))) := Pres.upd fun u eu => by
    rw [hv] at eu; cases eu
    exact ⟨fun _ q => (by cases q), fun _ _ q => (by cases q)⟩
  have oth : ∀ q, live env h1 q → ∀ u, H1 (A1 q) = some u → upd H1 p (.frz o (.lst us)) (A1 q) = some u := fun q hq u e => by rw [upd_ne (f.fp q hq)]; exact e
  have R2 : SR F env h1 A1 σ (upd H1 p (.frz o (.lst us))) := by
    refine ⟨fun a u q w => ?_, fun a vs q => P.1 _ _ (R1.tp a vs q), fun a b u q => P.2 _ _ _ (R1.fz a b u q), R1.dm_at, R1.le, R1.oo, R1.nw, R1.ow, R1.ln, fun i s e => R1.sl_keep P (Nat.le_refl _) (fun _ _ => rfl) e fun m => ⟨rfl, fun u z => oth (.s i) ⟨s, e, m⟩ u z⟩, fun n b e => ?_, R1.ij⟩
    · rw [upd_ne (fun z => by rw [z, f.f0] at q; cases q)]; exact R1.fr a u q w
    · exact R1.ob_keep P (Nat.le_refl _) (fun _ _ => rfl) e (fun u z => oth (.o n) (List.getElem?_eq_some_iff.mp e).1 u z) fun j hj => ⟨rfl, fun u z => oth _ hj.live u z⟩
  refine k _ _ A1 R2 ⟨fun a u q n => ?_, fun a vs q => P.1 _ _ (s.tp a vs q), fun a b u q => P.2 _ _ _ (s.fz a b u q), fun a u q => ?_, s.le, s.oo, s.nw⟩ (vl (ℓ := .st) (.inl ⟨o, upd_same⟩) (RepAll.mono P.sqT P.sL _ _ rs))
  · rw [upd_ne (fun z => by rw [z, hp] at q; cases q)]; exact s.fr a u q n
  · obtain ⟨u', e⟩ := s.dm a u q; exact dm_upd a u' e
end

/-! ### defs that write objects -/
def resE (r : Flo × En × Hs) : Option (Val × Hs) := match r.1 with
  | .rt .st x => some (x, r.2.2)
  | .rt _ (.d d) => if nl d = true then some (.d d, r.2.2) else none
  | .rt _ x => some (x, r.2.2)
  | .nx => some (.d .none, r.2.2)
  | _ => none
def runE (k : Nat) (m : M1) : List Val → Hs → Option (Val × Hs) := fun args h => (m (startE k args) h).bind resE
def runEF (k : Nat) (m : M1) : List Val → Hs → Option (List PyData × Hs) := fun args h => (m (startE k args) h).bind fun r => match r.1 with
  | .rf xs => some (xs, r.2.2)
  | _ => none
def spE (G : Glo) (n : Nat) (f : List Val → Hs → Option (Val × Hs)) : Sp := fun vs H Q _ => ∃ F env h A σ args x h', F.G = G ∧ F.rw = true ∧ SR F env h A σ H ∧ Paired (fun x v => RV F .fs h A H x v) args vs ∧ args.length = n ∧ f args h = some (x, h') ∧
  ∀ v H' A', SR F env h' A' σ H' → Step h A H h' A' H' → RV F .st h' A' H' x v → Q v H'
def spEF (G : Glo) (n : Nat) (f : List Val → Hs → Option (List PyData × Hs)) : Sp := fun vs H Q _ => ∃ F env h A σ args xs h', F.G = G ∧ F.rw = true ∧ SR F env h A σ H ∧ Paired (fun x v => RV F .fs h A H x v) args vs ∧ args.length = n ∧ f args h = some (xs, h') ∧
  ∀ p us H' A', SR F env h' A' σ H' → Step h A H h' A' H' → H p = none → H' p = some (.lst us) → Fresh F env h' A' p → RDs F .st H' xs us → Q (.ref p) H'
section
variable {F : Fm} {env : En} {h h' : Hs} {A A' : As} {σ : L2.St} {H H' : Hp} {ℓ : Lv}
theorem cal_fsE (R : SR F env h A σ H) (hw : F.rw = true) {x : Val} {v : V} (r : RV F .fs h A H x v) : RV (Fm.cal F.G true h A H) .fs h A H x v := by
  refine r.mono (fun _ _ z => z) (fun a vs q => ?_) (Nat.le_refl _) fun _ _ => rfl
  rcases q with ⟨q, w⟩ | q
  · refine .inl ⟨?_, fun ⟨_, p, hp, e⟩ => ?_⟩
    · rcases q with q | ⟨o, q⟩
      · exact .inl (R.fr a _ q w)
      · exact .inr ⟨o, R.fz a _ _ q⟩
    · have e : A p = a := e
      rcases R.nw hw p hp with z | z
      · rw [e] at z; exact w z
      · rw [e] at z
        rcases q with q | ⟨o, q⟩
        · rw [z] at q; cases q
        · rw [z] at q; cases q
  · exact .inr q
/-- the caller's state behind it -/
theorem SR.backE {env' : En} {σ' : L2.St} (R : SR F env h A σ H) (hw : F.rw = true) (R' : SR (Fm.cal F.G true h A H) env' h' A' σ' H') : SR F env h' (As.back A A') σ H' ∧ Step h A H h' (As.back A A') H' := by
  have s : Step h A H h' A' H' := SR.step_of (F := F) R'
  have s' : Step h A H h' (As.back A A') H' := ⟨s.fr, s.tp, s.fz, s.dm, s.le, s.oo, fun p hp => by rw [back_h hp]; exact s.nw p hp⟩
  exact ⟨R.call hw s R'.ob fun p q hp hq e => R'.ij p q hp.live hq.live e, s'⟩
end
section
variable {P : Program} {w : World} {K : PySem.W.Frag} {mg : Str → Option Value} {base : Heap} {x qual : Str} {st : Stmt} {f : Addr} {fd : FuncData} {N ps : List Str} {k : Nat} {G : Glo} {m : M1}
theorem fn_e (U : Fun K x qual st f fd) (S : FnScope N ps (defScope st)) (hl : ps.length ≤ N.length)
    (hb : ∀ (cdv : Value) (A : Around) (outer : List Env) (s : Shared) (H : Hp) (E : XK), Room k (A.deeper (PyProof.Rows.envOfC qual (defScope st) s.heap.objs.size f cdv)) → ∀ F : Fm, F.G = G → F.rw = true → SimB (cxOf CX0 P w K mg base N qual (defScope st) f cdv A outer s H E).nox F (defBody st) m) :
    FnOk P w K mg base CX0 (k + 1) f fd ps (spE G ps.length (runE (N.length - ps.length) m)) := by
  refine U.ok S (fun vs H Q E h => ?_) (fun cdv A outer s H vs Q E hr h => ?_)
  · obtain ⟨F, env, h, A, σ, args, y, h', _, _, _, r, hn, _⟩ := h
    rw [← Paired.len r, hn]
  · obtain ⟨F, env, hh, AA, σ, args, y, h', hG, hw, R, r, hn, e, kk⟩ := h
    obtain ⟨⟨r1, env1, h1⟩, e1, e2⟩ := bind_some e
    have R1 := (R.start true).args (N := N) (Paired.imp (fun _ _ z => cal_fsE R hw z) r) (by omega)
    rw [hn] at R1
    refine ⟨tS (Fm.cal F.G true hh AA H) m, hb cdv A outer s H E hr _ hG rfl, _, hh, AA, r1, env1, h1, R1, e1, ?_⟩
    have fin : ∀ {σ' : L2.St} {H' : Hp} {A' : Sm.As} {v : V} {z : Val}, SR (Fm.cal F.G true hh AA H) env1 h1 A' σ' H' → (z, h1) = (y, h') → RV (Fm.cal F.G true hh AA H) .st h1 A' H' z v → Q v H' := fun {σ' H' A' v z} R' e rv => by
      cases e
      obtain ⟨R2, s2⟩ := R.backE hw R'
      exact kk v H' _ R2 s2 (rv.mono (fun _ _ z => z) (fun _ _ z => z) (Nat.le_refl _) fun _ _ => rfl)
    cases r1 with
    | nx => exact fun σ' H' A' R' _ => fin R' (Option.some.inj e2) vn
    | bk => cases e2
    | ct => cases e2
    | rt ℓ y' =>
      intro σ' H' A' v R' _ rv
      cases y' with
      | d d =>
        cases ℓ with
        | st => exact fin R' (Option.some.inj e2) rv
        | mo =>
          simp only [resE] at e2
          split at e2
          · next hd => exact fin R' (Option.some.inj e2) (Rep.nl d v hd rv)
          · cases e2
        | fs =>
          simp only [resE] at e2
          split at e2
          · next hd => exact fin R' (Option.some.inj e2) (Rep.nl d v hd rv)
          · cases e2
      | ref n => cases ℓ <;> exact fin R' (Option.some.inj e2) rv
      | fn n => cases ℓ <;> exact fin R' (Option.some.inj e2) rv
    | rf xs => cases e2
theorem fn_ef (U : Fun K x qual st f fd) (S : FnScope N ps (defScope st)) (hl : ps.length ≤ N.length)
    (hb : ∀ (cdv : Value) (A : Around) (outer : List Env) (s : Shared) (H : Hp) (E : XK), Room k (A.deeper (PyProof.Rows.envOfC qual (defScope st) s.heap.objs.size f cdv)) → ∀ F : Fm, F.G = G → F.rw = true → SimB (cxOf CX0 P w K mg base N qual (defScope st) f cdv A outer s H E).nox F (defBody st) m) :
    FnOk P w K mg base CX0 (k + 1) f fd ps (spEF G ps.length (runEF (N.length - ps.length) m)) := by
  refine U.ok S (fun vs H Q E h => ?_) (fun cdv A outer s H vs Q E hr h => ?_)
  · obtain ⟨F, env, h, A, σ, args, y, h', _, _, _, r, hn, _⟩ := h
    rw [← Paired.len r, hn]
  · obtain ⟨F, env, hh, AA, σ, args, y, h', hG, hw, R, r, hn, e, kk⟩ := h
    obtain ⟨⟨r1, env1, h1⟩, e1, e2⟩ := bind_some e
    have R1 := (R.start true).args (N := N) (Paired.imp (fun _ _ z => cal_fsE R hw z) r) (by omega)
    rw [hn] at R1
    refine ⟨tS (Fm.cal F.G true hh AA H) m, hb cdv A outer s H E hr _ hG rfl, _, hh, AA, r1, env1, h1, R1, e1, ?_⟩
    cases r1 with
    | nx => cases e2
    | bk => cases e2
    | ct => cases e2
    | rt ℓ y' => cases e2
    | rf xs =>
      intro σ' H' A' p us R' _ f0 hv fp rs
      cases e2
      obtain ⟨R2, s2⟩ := R.backE hw R'
      refine kk p us H' _ R2 s2 f0 hv ⟨?_, fun q hq z => ?_⟩ rs
      · cases q : F.H0 p with
        | none => rfl
        | some o => obtain ⟨o', e⟩ := R.dm p o q; rw [show H p = none from f0] at e; cases e
      · cases q with
        | s i =>
          obtain ⟨o, e, _⟩ := R.at_live (show live env hh (.s i) from hq)
          have z : AA (.s i) = p := z
          rw [z, show H p = none from f0] at e
          cases e
        | o n => exact fp (.o n) hq z
        | f n j => exact fp (.f n j) hq z
end
section
variable {F : Fm} {X : Cx} {k n : Nat} {f : Addr} {fd : FuncData} {ps : List Str} {x : Str} {p pos : Pos} {e : Expr} {es : List Expr} {g : List Val → Hs → Option (Val × Hs)} {gf : List Val → Hs → Option (List PyData × Hs)} {a : EA}
theorem spE_ar {G : Glo} {vs : List V} {H : Hp} {Q : VK} {E : XK} (h : spE G n (arity n g) vs H Q E) : spE G n g vs H Q E := by
  obtain ⟨F, env, h, A, σ, args, y, h', hG, hw, R, r, hn, e, kk⟩ := h
  exact ⟨F, env, h, A, σ, args, y, h', hG, hw, R, r, hn, by simpa [arity, hn] using e, kk⟩
theorem spEF_ar {G : Glo} {vs : List V} {H : Hp} {Q : VK} {E : XK} (h : spEF G n (arity n gf) vs H Q E) : spEF G n gf vs H Q E := by
  obtain ⟨F, env, h, A, σ, args, y, h', hG, hw, R, r, hn, e, kk⟩ := h
  exact ⟨F, env, h, A, σ, args, y, h', hG, hw, R, r, hn, by simpa [arity, hn] using e, kk⟩
theorem spE_read {σ : L2.St} {H : Hp} {Q : VK} {E : XK} {G : Glo} (hG : F.G = G) (hw : F.rw = true) (hn : ∀ xs h z, g xs h = some z → xs.length = n) (hq : tE F .st (eCall g a) σ H Q) : tCall (spE G n g) [] E (tEA F a) σ H Q := by
  obtain ⟨env, h, A, z, h', R, e, k⟩ := hq
  obtain ⟨⟨xs, h1⟩, ex, e⟩ := bind_some e
  refine ⟨env, h, A, xs, h1, R, ex, fun vs H1 A1 R1 s1 rs => ?_⟩
  show spE G n g (vs ++ []) H1 Q E
  rw [List.append_nil]
  exact ⟨F, env, h1, A1, σ, xs, z, h', hG, hw, R1, rs, hn _ _ _ e, e, fun v H' A' R' s rv => k v H' A' R' (s1.trans s) rv⟩
theorem spEF_read {σ : L2.St} {H : Hp} {Q : VK} {E : XK} {G : Glo} (hG : F.G = G) (hw : F.rw = true) (hn : ∀ xs h z, gf xs h = some z → xs.length = n) (hq : tEF F (efCall gf a) σ H Q) : tCall (spEF G n gf) [] E (tEA F a) σ H Q := by
  obtain ⟨env, h, A, z, h', R, e, k⟩ := hq
  obtain ⟨⟨xs, h1⟩, ex, e⟩ := bind_some e
  refine ⟨env, h, A, xs, h1, R, ex, fun vs H1 A1 R1 s1 rs => ?_⟩
  show spEF G n gf (vs ++ []) H1 Q E
  rw [List.append_nil]
  exact ⟨F, env, h1, A1, σ, xs, z, h', hG, hw, R1, rs, hn _ _ _ e, e, fun p us H' A' R' s hp hv f rv => k p us H' A' R' (s1.trans s) (none_back s1 hp) hv f rv⟩
theorem se_call {G : Glo} (U : FnOk X.prog X.w X.K X.mg X.base CX0 k f fd ps (spE G n g)) (hG : F.G = G) (hw : F.rw = true) (hr : Room k X.A) (hm : X.mg x = some (.ref f)) (hk : PySem.W.keepIn X.K (.ref f) = true) (hb : Binds X.K fd ps []) (ha : SimEA X F (e :: es) a)
    (hg : Gl X x := by rfl) (hdb : (x == ("__debug__" : Str)) = false := by decide) (he : starEach (e :: es) X.env = (false, eval e X.env) :: starEach es X.env := by rfl) (hpl : (backTo pos (starEach es X.env)).any (·.1) = false := by rfl) :
    SimE X F .st (.Call (.Name x p) (e :: es) [] pos) (eCall (arity n g) a) :=
  PEimp (pe_call (U.imp fun _ _ _ _ => spE_ar) hr hg hm hk hb .nil pass0 ha hdb he hpl) fun σ H Q q => spE_read hG hw arity_n q
theorem sef_call {G : Glo} (U : FnOk X.prog X.w X.K X.mg X.base CX0 k f fd ps (spEF G n gf)) (hG : F.G = G) (hw : F.rw = true) (hr : Room k X.A) (hm : X.mg x = some (.ref f)) (hk : PySem.W.keepIn X.K (.ref f) = true) (hb : Binds X.K fd ps []) (ha : SimEA X F (e :: es) a)
    (hg : Gl X x := by rfl) (hdb : (x == ("__debug__" : Str)) = false := by decide) (he : starEach (e :: es) X.env = (false, eval e X.env) :: starEach es X.env := by rfl) (hpl : (backTo pos (starEach es X.env)).any (·.1) = false := by rfl) :
    SimEF X F (.Call (.Name x p) (e :: es) [] pos) (efCall (arity n gf) a) :=
  PEimp (pe_call (U.imp fun _ _ _ _ => spEF_ar) hr hg hm hk hb .nil pass0 ha hdb he hpl) fun σ H Q q => spEF_read hG hw arity_n q
end

/-! ### statements with such -/
def mE (m : E1) : M1 := fun env h => (m env h).bind fun x => some (.nx, env, x.2)
def mSetE (i : Nat) (m : E1) : M1 := fun env h => (m env h).bind fun x => some (.nx, env.set i (.v x.1), x.2)
def mSetOE (i : Nat) (m : EF) : M1 := fun env h => (m env h).bind fun x => some (.nx, env.set i (.l x.1), x.2)
def mRetE (ℓ : Lv) (m : E1) : M1 := fun env h => (m env h).bind fun x => some (.rt ℓ x.1, env, x.2)
def mRetFE (m : EF) : M1 := fun env h => (m env h).bind fun x => some (.rf x.1, env, x.2)
def mIfE (t : ET) (a b : M1) : M1 := fun env h => (t env h).bind fun c => if c.1 = true then a env c.2 else b env c.2
def mAsgE (m : E1) (b : B1) : M1 := fun env h => (m env h).bind fun x => (dOf x.1).bind fun d => (b d env).bind fun env' => some (.nx, env', x.2)
section
variable {F : Fm} {X : Cx} {st : Stmt} {sts rest : List Stmt} {e c : Expr} {pos : Pos} {ℓ : Lv} {m : E1} {f : EF} {t : ET}
theorem ss_exprE (he : SimE X F ℓ e m) (hs : swapsWith e none pos.line X.env = pure false := by rfl) : SimS X F (.Expr e pos) (mE m) := PSimp (ps_expr he hs) fun D σ H ⟨env, h, A, r, env', h', R, e, k⟩ => by
  obtain ⟨⟨x, h1⟩, ex, e⟩ := bind_some e
  cases e
  exact ⟨env, h, A, x, _, R, ex, fun v H1 A1 R1 s rv => k σ H1 A1 R1 s.pres⟩
theorem ss_setE {i : Nat} {x : Str} {p2 : Pos} (hN : X.N.Nodup) (hi : X.N[i]? = some x) (hx : Loc X.env.scope x) (he : SimE X F .fs e m) (hs : swapsWith e (some (.Name x p2)) pos.line X.env = pure false := by rfl) (hf : X.fn x = true ∨ X.env.scope.names.lookup x = some .local := by first | exact .inl rfl | exact .inr rfl | assumption) :
    SimS X F (.Assign [.Name x p2] e pos) (mSetE i m) := PSimp (ps_set hN hi hx he hs hf) fun D σ H ⟨env, h, A, r, env', h', R, e, k⟩ => by
  obtain ⟨⟨x, h1⟩, ex, e⟩ := bind_some e
  cases e
  exact ⟨env, h, A, x, _, R, ex, fun v H1 A1 R1 s rv => k _ H1 A1 (R1.setV rv) s.pres⟩
theorem ss_setOE {i : Nat} {x : Str} {p2 : Pos} (hN : X.N.Nodup) (hi : X.N[i]? = some x) (hx : Loc X.env.scope x) (he : SimEF X F e f) (hs : swapsWith e (some (.Name x p2)) pos.line X.env = pure false := by rfl) (hf : X.fn x = true ∨ X.env.scope.names.lookup x = some .local := by first | exact .inl rfl | exact .inr rfl | assumption) :
    SimS X F (.Assign [.Name x p2] e pos) (mSetOE i f) := PSimp (ps_set hN hi hx he hs hf) fun D σ H ⟨env, h, A, r, env', h', R, e, k⟩ => by
  obtain ⟨⟨x, h1⟩, ex, e⟩ := bind_some e
  cases e
  exact ⟨env, h, A, x, _, R, ex, fun p us H1 A1 R1 s hp hv fr rs => k _ H1 _ (R1.setNew fr rfl ⟨rfl, us, hv, rs⟩) s.pres⟩
theorem ss_retE (he : SimE X F ℓ e m) : SimS X F (.Return (some e) pos) (mRetE ℓ m) := PSimp (ps_ret he) fun D σ H ⟨env, h, A, r, env', h', R, e, k⟩ => by
  obtain ⟨⟨x, h1⟩, ex, e⟩ := bind_some e
  cases e
  exact ⟨env, h, A, x, _, R, ex, fun v H1 A1 R1 s rv => k σ H1 A1 v R1 s.pres rv⟩
theorem ss_retFE (he : SimEF X F e f) : SimS X F (.Return (some e) pos) (mRetFE f) := PSimp (ps_ret he) fun D σ H ⟨env, h, A, r, env', h', R, e, k⟩ => by
  obtain ⟨⟨x, h1⟩, ex, e⟩ := bind_some e
  cases e
  exact ⟨env, h, A, x, _, R, ex, fun p us H1 A1 R1 s hp hv fr rs => k σ H1 A1 p us R1 s.pres fr.f0 hv (fun q hq => fr.fp q hq.live) rs⟩
theorem ss_ifE {a b : List Stmt} {ma mb : M1} (hc : SimTE X F c t) (ha : SimB X F a ma) (hb : SimB X F b mb) : SimS X F (.If c a b pos) (mIfE t ma mb) := PSimp (ps_if hc ha hb) fun D σ H ⟨env, h, A, r, env', h', R, e, k⟩ => by
  obtain ⟨⟨d, h1⟩, ed, e⟩ := bind_some e
  refine ⟨env, h, A, d, h1, R, ed, fun H1 A1 R1 s => ?_⟩
  cases d with
  | true => exact ⟨env, h1, A1, r, env', h', R1, e, k.pre s.pres⟩
  | false => exact ⟨env, h1, A1, r, env', h', R1, e, k.pre s.pres⟩
theorem ss_asgE {tg : Expr} {ss : List Nat} {b : B1} (he : SimE X F .fs e m) (hg : PG X tg (tGt F ss b)) (hs : swapsWithSole [tg] e pos.line X.env = pure false := by rfl) (hw : swappedStores [tg] e X.env = pure none := by rfl)
    (h1 : (assignEach [tg] X.env).map (·.2) = [assign tg X.env] := by rfl) : SimS X F (.Assign [tg] e pos) (mAsgE m b) := PSimp (ps_asg he hg hs hw h1) fun D σ H ⟨env, h, A, r, env', h', R, e, k⟩ => by
  obtain ⟨⟨x, h1⟩, ex, e⟩ := bind_some e
  obtain ⟨d, ed, e⟩ := bind_some e
  obtain ⟨env1, eb, e⟩ := bind_some e
  cases e
  refine ⟨env, h, A, x, _, R, ex, fun v H1 A1 R1 s rv => ⟨env, _, A1, d, _, R1, ?_, eb, fun σ' H' x1 R2 _ _ => k σ' H' A1 R2 (s.pres.trans (Ex.pres x1))⟩⟩
  cases x with
  | d y => cases ed; exact rv
  | ref n => cases ed
  | fn n => cases ed
end
end Sm

set_option Elab.async false
set_option linter.all false
set_option maxRecDepth 100000
set_option maxHeartbeats 1000000
namespace Sm
open PySem L2 Evl

/-! ### slices -/
abbrev O1 := En → Hs → Option (Option Int)
def tOi (F : Fm) (o : O1) : TO := fun σ H Q => ∃ env h A x, SR F env h A σ H ∧ o env h = some x ∧ ∀ H', Ex H H' → Q x H'
def oNone : O1 := fun _ _ => some none
def oSome (q : Q1) : O1 := fun env h => (q env h).bind fun x => match x with
  | .d (.int i) => some (some i)
  | _ => none
theorem POimp {X : Cx} {e : Option Expr} {t t' : TO} (h : PO X e t) (i : ∀ σ H Q, t' σ H Q → t σ H Q) : PO X e t' := ⟨fun pins s σ H Q I q => h.run pins s σ H Q I (i σ H Q q)⟩
def cutD {α : Type} (xs : List α) (lo hi : Option Int) : List α := (xs.drop (HT.sIx xs.length 0 lo)).take (HT.sIx xs.length xs.length hi - HT.sIx xs.length 0 lo)
/-- of tuples and texts -/
def gSl (x : Val) (lo hi : Option Int) : Option Val := match x with
  | .d (.tuple xs) => some (.d (.tuple (cutD xs lo hi)))
  | .d (.str s) => if s.length ≤ sizeLine then some (.d (.str (cutS s lo hi))) else none
  | _ => none
def qSl (a : Q1) (lo hi : O1) : Q1 := fun env h => (a env h).bind fun x => (lo env h).bind fun l => (hi env h).bind fun u => gSl x l u
/-- of lists: a new one -/
def fSl (a : Q1) (lo hi : O1) : I1 := fun env h => (a env h).bind fun x => (lo env h).bind fun l => (hi env h).bind fun u => match x with
  | .d (.list xs) => if nlAll xs = true then some (cutD xs l u) else none
  | _ => none
section
variable {F : Fm} {X : Cx} {a b c e : Expr} {es rest : List Expr} {pos p p2 : Pos} {ℓ : Lv} {qa qb qc : Q1} {lo hi : Option Expr} {ol oh : O1} {env : En} {h : Hs} {A : As} {σ : L2.St} {H : Hp}
theorem so_none : PO X none (tOi F oNone) := POimp po_none fun σ H Q ⟨env, h, A, x, R, e, k⟩ => by
  cases e
  exact k H (Ex.refl H)
theorem so_some {ℓ₁ : Lv} (ha : SimQ X F ℓ₁ a qa) : PO X (some a) (tOi F (oSome qa)) := POimp (po_some ha) fun σ H Q ⟨env, h, A, x, R, e, k⟩ => by
  obtain ⟨y, ey, e⟩ := bind_some e
  refine ⟨env, h, A, y, R, ey, fun v H1 e1 rv => ?_⟩
  split at e
  · next i => cases e; cases ri rv; exact ⟨i, rfl, k H1 e1⟩
  · cases e
theorem cut_rep {T L : LP} {ds : List PyData} {vs : List V} {l u : Option Int} (r : RepAll T L ds vs) : RepAll T L (cutD ds l u) (cutV vs l u) := by
  unfold cutD cutV
  rw [r.len]
  exact (r.drop _).take _
theorem sIx_bd (n d : Nat) (hd : d ≤ n) (o : Option Int) : HT.sIx n d o ≤ n := HT.sIx_le n d hd o
theorem cut_all {α : Type} {xs : List α} {l u : Option Int} (h : HT.sIx xs.length 0 l = 0 ∧ HT.sIx xs.length xs.length u = xs.length) : cutD xs l u = xs := by
  unfold cutD
  rw [h.1, h.2]
  simp
theorem sq_slice (hK : X.K = F.G.K) (ha : SimQ X F ℓ a qa) (hl : PO X lo (tOi F ol)) (hh : PO X hi (tOi F oh)) : SimQ X F ℓ (.Subscript a (.Slice lo hi none p2) pos) (qSl qa ol oh) :=
  PEimp (pe_slice (SlR.or sl_tupA sl_str) ha hl hh) fun σ H Q ⟨env, h, A, z, R, e, k⟩ => by
    obtain ⟨x, ex, e⟩ := bind_some e
    obtain ⟨l, el, e⟩ := bind_some e
    obtain ⟨u, eu, e⟩ := bind_some e
    refine ⟨env, h, A, x, R, ex, fun v H1 e1 rv => ⟨env, h, A, l, R.ex e1, el, fun H2 e2 => ⟨env, h, A, u, (R.ex e1).ex e2, eu, fun H3 e3 => ?_⟩⟩⟩
    have rv : RV F ℓ h A H3 x v := (rv.ex e2).ex e3
    have ee := (e1.trans e2).trans e3
    unfold gSl at e
    split at e
    · next xs =>
      cases e
      obtain ⟨a, us, rfl, t, r⟩ := rt rv
      refine .inl ⟨a, us, rfl, by rw [hK]; exact t, fun w => k _ H3 ee ?_, fun w p hp => k _ _ (ee.trans (Ex.new hp)) ?_⟩
      · rw [r.len] at w
        rw [cut_all w]
        exact vt t r
      · exact vt (.inl (.inl upd_same)) (RDs.ex (Ex.new hp) (cut_rep r))
    · next s =>
      split at e
      · next hs => cases e; cases rs rv; exact .inr ⟨_, rfl, hs, k _ H3 ee vs⟩
      · cases e
    · cases e
theorem nl_mem : ∀ {xs : List PyData}, nlAll xs = true ↔ ∀ x ∈ xs, nl x = true
  | [] => by simp [nlAll]
  | x :: xs => by simp [nlAll, nl_mem]
theorem nl_cut {xs : List PyData} {l u : Option Int} (h : nlAll xs = true) : nlAll (cutD xs l u) = true := nl_mem.mpr fun x hx => nl_mem.mp h x (List.mem_of_mem_drop (List.mem_of_mem_take hx))
theorem sf_slice (hK : X.K = F.G.K) (ha : SimQ X F .mo a qa) (hl : PO X lo (tOi F ol)) (hh : PO X hi (tOi F oh)) : SimF X F (.Subscript a (.Slice lo hi none p2) pos) (fSl qa ol oh) :=
  PEimp (pe_slice sl_list ha hl hh) fun σ H Q ⟨env, h, A, z, R, e, k⟩ => by
    obtain ⟨x, ex, e⟩ := bind_some e
    obtain ⟨l, el, e⟩ := bind_some e
    obtain ⟨u, eu, e⟩ := bind_some e
    refine ⟨env, h, A, x, R, ex, fun v H1 e1 rv => ⟨env, h, A, l, R.ex e1, el, fun H2 e2 => ⟨env, h, A, u, (R.ex e1).ex e2, eu, fun H3 e3 => ?_⟩⟩⟩
    have rv : RV F .mo h A H3 x v := (rv.ex e2).ex e3
    have ee := (e1.trans e2).trans e3
    split at e
    · next xs =>
      split at e
      · next hn =>
        cases e
        obtain ⟨a, us, rfl, t, r⟩ := rl rv
        exact ⟨a, us, rfl, by rw [hK]; exact t, fun p hp => k p _ _ (fresh_back ee hp) (ee.trans (Ex.new hp)) upd_same (RDs.ex (Ex.new hp) (RepAll.nl _ _ (nl_cut hn) (cut_rep r)))⟩
      · cases e
    · cases e

/-! ### any, all; chains -/
def boolsOf : List PyData → Option (List Bool)
  | [] => some []
  | .bool b :: ds => (boolsOf ds).bind fun bs => some (b :: bs)
  | _ :: _ => none
theorem bools_rep {T L : LP} : ∀ {ds : List PyData} {bs : List Bool} {vs : List V}, boolsOf ds = some bs → RepAll T L ds vs → vs = bs.map V.bl
  | [], bs, vs, e, r => by
    cases e
    simpa [RepAll] using r
  | d :: ds, bs, vs, e, r => by
    cases d with
    | bool b =>
      obtain ⟨cs, ec, e⟩ := bind_some e
      cases e
      simp only [RepAll] at r
      obtain ⟨v, q, rfl, r1, r2⟩ := r
      rw [rep_bool r1, bools_rep ec r2]
      rfl
    | _ => cases e
def gAll : Hs → Val → Option Val := fun _ x => match x with
  | .d (.list ds) => (boolsOf ds).map fun bs => .d (.bool (bs.all id))
  | _ => none
def gAny : Hs → Val → Option Val := fun _ x => match x with
  | .d (.list ds) => (boolsOf ds).map fun bs => .d (.bool (bs.any id))
  | _ => none
theorem o_all (hK : X.K = F.G.K) : Op1 F .mo ℓ (fun v H Q => rAll X.K [v] H Q) gAll := by
  intro env h A σ H x v z R rx e Q k
  unfold gAll at e
  split at e
  · next ds =>
    obtain ⟨bs, eb, e⟩ := Option.map_eq_some_iff.mp e
    subst e
    obtain ⟨a, us, rfl, q, r⟩ := rl rx
    rw [hK]
    exact ⟨a, bs, rfl, by rw [← bools_rep eb r]; exact q, k _ H (Ex.refl H) vb⟩
  · cases e
theorem o_any (hK : X.K = F.G.K) : Op1 F .mo ℓ (fun v H Q => rAny X.K [v] H Q) gAny := by
  intro env h A σ H x v z R rx e Q k
  unfold gAny at e
  split at e
  · next ds =>
    obtain ⟨bs, eb, e⟩ := Option.map_eq_some_iff.mp e
    subst e
    obtain ⟨a, us, rfl, q, r⟩ := rl rx
    rw [hK]
    exact ⟨a, bs, rfl, by rw [← bools_rep eb r]; exact q, k _ H (Ex.refl H) vb⟩
  · cases e
theorem sq_all (hK : X.K = F.G.K) (hc : X.calm = true) (hm : X.mg "all" = none) (ha : SimQ X F .mo a qa) (hg : Gl X "all" := by rfl)
    (he : starEach [a] X.env = (false, eval a X.env) :: starEach [] X.env := by rfl) (hpl : (backTo pos (starEach [] X.env)).any (·.1) = false := by rfl) : SimQ X F ℓ (.Call (.Name "all" p) [a] [] pos) (q1 gAll qa) :=
  sq_b1 (cr_all hc) (o_all hK) hm (by decide +kernel) ha hg (by decide) (by decide) he hpl
theorem sq_any (hK : X.K = F.G.K) (hc : X.calm = true) (hm : X.mg "any" = none) (ha : SimQ X F .mo a qa) (hg : Gl X "any" := by rfl)
    (he : starEach [a] X.env = (false, eval a X.env) :: starEach [] X.env := by rfl) (hpl : (backTo pos (starEach [] X.env)).any (·.1) = false := by rfl) : SimQ X F ℓ (.Call (.Name "any" p) [a] [] pos) (q1 gAny qa) :=
  sq_b1 (cr_any hc) (o_any hK) hm (by decide +kernel) ha hg (by decide) (by decide) he hpl
/-- a op b op' c of ints -/
def qChain (g g' : Int → Int → Bool) (a b c : Q1) : Q1 := fun env h => (a env h).bind fun x => (b env h).bind fun y => match x, y with
  | .d (.int i), .d (.int j) => if g i j = true then (c env h).bind fun z => (match z with
      | .d (.int k) => some (.d (.bool (g' j k)))
      | _ => none) else some (.d (.bool false))
  | _, _ => none
theorem chain_read {g g' : Int → Int → Bool} {Q : VK} (hq : tQ F ℓ (qChain g g' qa qb qc) σ H Q) : tChain (rI0 fun i j => .bl (g i j)) (rI0 fun i j => .bl (g' i j)) (tQ F .mo qa) (tQ F .mo qb) (tQ F .mo qc) σ H Q := by
  obtain ⟨env, h, A, z, R, e, k⟩ := hq
  obtain ⟨x, ex, e⟩ := bind_some e
  obtain ⟨y, ey, e⟩ := bind_some e
  refine ⟨env, h, A, x, R, ex, fun v H1 e1 rv => ⟨env, h, A, y, R.ex e1, ey, fun u H2 e2 ru => ?_⟩⟩
  split at e
  · next i j _ =>
    cases ri rv
    cases ri ru
    refine ⟨i, j, rfl, rfl, g i j, rfl, ?_⟩
    cases hg : g i j with
    | false =>
      rw [hg] at e
      cases e
      rw [if_neg (by decide)]
      exact k _ H2 (e1.trans e2) vb
    | true =>
      rw [hg, if_pos rfl] at e
      rw [if_pos rfl]
      obtain ⟨w, ew, e⟩ := bind_some e
      refine ⟨env, h, A, w, (R.ex e1).ex e2, ew, fun t H3 e3 rt => ?_⟩
      split at e
      · next m => cases e; cases ri rt; exact ⟨j, m, rfl, rfl, k _ H3 ((e1.trans e2).trans e3) vb⟩
      · cases e
  · cases e
theorem sq_le2 (ha : SimQ X F .mo a qa) (hb : SimQ X F .mo b qb) (hc : SimQ X F .mo c qc) (hm : lastMarks [.LtE, .LtE] [b, c] = false := by with_unfolding_all rfl) : SimQ X F ℓ (.Compare a [.LtE, .LtE] [b, c] pos) (qChain (fun i j => decide (i ≤ j)) (fun i j => decide (i ≤ j)) qa qb qc) :=
  PEimp (pe_chain op_le op_le ha hb hc hm) fun _ _ _ => chain_read
theorem st_le2 (ha : SimQ X F .mo a qa) (hb : SimQ X F .mo b qb) (hc : SimQ X F .mo c qc) (hm : lastMarks [.LtE, .LtE] [b, c] = false := by with_unfolding_all rfl) : SimT X F (.Compare a [.LtE, .LtE] [b, c] pos) (tV (qChain (fun i j => decide (i ≤ j)) (fun i j => decide (i ≤ j)) qa qb qc)) :=
  PTimp (pt_chain op_le op_le ha hb hc hm) fun σ H Q ⟨env, h, A, k, R, e, q⟩ => by
    obtain ⟨x, ex, e⟩ := bind_some e
    refine chain_read (ℓ := .mo) ⟨env, h, A, x, R, ex, fun v H1 e1 rv => ?_⟩
    have hb : ∃ b, x = .d (.bool b) := by
      obtain ⟨_, _, ex⟩ := bind_some ex
      obtain ⟨_, _, ex⟩ := bind_some ex
      split at ex
      · split at ex
        · obtain ⟨_, _, ex⟩ := bind_some ex
          split at ex
          · cases ex; exact ⟨_, rfl⟩
          · cases ex
        · cases ex; exact ⟨_, rfl⟩
      · cases ex
    obtain ⟨b, rfl⟩ := hb
    cases e
    exact ⟨k, rb rv, q H1 e1⟩

/-! ### in, not in -/
def gIn (n : Bool) : Hs → Val → Val → Option Val := fun _ x y => match x, y with
  | .d d, .d (.list ds) => if (SeqAt.shaped d && SeqAt.shaped (.list ds)) = true then some (.d (.bool (if n then !(ds.any fun z => PyData.eqv z d) else ds.any fun z => PyData.eqv z d))) else none
  | .d (.str s), .d (.str t) => some (.d (.bool (if n then (Builtin.Str.occurrences t s 0 t.length 1).isEmpty else !(Builtin.Str.occurrences t s 0 t.length 1).isEmpty)))
  | _, _ => none
theorem o_in (hK : X.K = F.G.K) (hu : X.A.units + 65 < cLine) : BinS X F .mo .mo ℓ (compareOp .In) (gIn false) := ⟨_, OpR.or (op_inD hu) op_in_str, by
  intro env h A σ H x y v u z R rx ry e Q k
  unfold gIn at e
  split at e
  · next d ds =>
    split at e
    · next hc =>
      cases e
      simp only [Bool.and_eq_true] at hc
      rw [hK]
      exact .inl ⟨d, ds, Rep.dp _ _ rx, Rep.dp (.list ds) _ ry, hc.1, hc.2, k _ H (Ex.refl H) vb⟩
    · cases e
  · next s t => cases e; cases rs rx; cases rs ry; exact .inr ⟨s, t, rfl, rfl, k _ H (Ex.refl H) vb⟩
  · cases e⟩
theorem o_notin (hK : X.K = F.G.K) (hu : X.A.units + 65 < cLine) : BinS X F .mo .mo ℓ (compareOp .NotIn) (gIn true) := ⟨_, OpR.or (op_notInD hu) op_notin_str, by
  intro env h A σ H x y v u z R rx ry e Q k
  unfold gIn at e
  split at e
  · next d ds =>
    split at e
    · next hc =>
      cases e
      simp only [Bool.and_eq_true] at hc
      rw [hK]
      exact .inl ⟨d, ds, Rep.dp _ _ rx, Rep.dp (.list ds) _ ry, hc.1, hc.2, k _ H (Ex.refl H) vb⟩
    · cases e
  · next s t =>
    cases e; cases rs rx; cases rs ry
    refine .inr ⟨s, t, rfl, rfl, ?_⟩
    have := k _ H (Ex.refl H) vb
    simpa using this
  · cases e⟩
theorem gIn_b {n : Bool} : ∀ h x y z, gIn n h x y = some z → ∃ k, z = .d (.bool k) := by
  intro h x y z e
  unfold gIn at e
  split at e
  · split at e
    · cases e; exact ⟨_, rfl⟩
    · cases e
  · cases e; exact ⟨_, rfl⟩
  · cases e

/-! ### sorted -/
def alikeB (ds : List PyData) : Bool := ds.all fun d => ds.all fun d' => PySem.W.alike d d'
def isTup1 : PyData → Bool
  | .tuple (_ :: _) => true
  | _ => false
def isOther : PyData → Bool
  | .none => false
  | .tuple _ => false
  | _ => true
def sortB (ds : List PyData) : Bool := ds.all isTup1 || ds.all isOther
def gSorted : Hs → Val → Option (List PyData) := fun _ x => match x with
  | .d (.list ds) => if (nlAll ds && alikeB ds && sortB ds && decide (PyData.depthAll ds ≤ 60)) = true then some (ds.mergeSort (PySem.W.dataLe false id)) else none
  | _ => none
theorem depth_mem : ∀ {ds : List PyData} {d : PyData}, d ∈ ds → d.depth ≤ PyData.depthAll ds
  | x :: ds, d, h => by
    rw [PyData.depthAll]
    rcases List.mem_cons.mp h with rfl | h
    · exact Nat.le_max_left _ _
    · exact Nat.le_trans (depth_mem h) (Nat.le_max_right _ _)
theorem each_of {T L : LP} : ∀ {ds : List PyData} {vs : List V} {us : List Value}, RepAll T L ds vs → Vals vs us → PySem.W.EachIs (fun u d => ∃ v, RelV v u ∧ Rep T L d v) us ds
  | [], vs, us, r, q => by
    simp only [RepAll] at r
    subst r
    cases q
    exact .nil
  | d :: ds, vs, us, r, q => by
    simp only [RepAll] at r
    obtain ⟨v, w, rfl, r1, r2⟩ := r
    cases q with
    | cons q1 q2 => exact .cons ⟨v, q1, r1⟩ (each_of r2 q2)
theorem of_each {T L : LP} : ∀ {ds : List PyData} {us : List Value}, PySem.W.EachIs (fun u d => ∃ v, RelV v u ∧ Rep T L d v) us ds → ∃ vs, RepAll T L ds vs ∧ Vals vs us
  | _, _, .nil => ⟨[], .nil, .nil⟩
  | _, _, .cons ⟨v, q1, r1⟩ t => by
    obtain ⟨vs, r2, q2⟩ := of_each t
    exact ⟨v :: vs, .cons r1 r2, .cons q1 q2⟩
theorem each_mem {R S : Value → PyData → Prop} : ∀ {us : List Value} {ds : List PyData}, PySem.W.EachIs R us ds → (∀ u d, d ∈ ds → R u d → S u d) → PySem.W.EachIs S us ds
  | _, _, .nil, _ => .nil
  | _, _, .cons r t, f => .cons (f _ _ (by simp) r) (each_mem t fun u d hd => f u d (by simp [hd]))
end
end Sm
namespace Sm
open PySem L2 Evl
section
variable {F : Fm} {X : Cx} {a b c e : Expr} {es rest : List Expr} {pos p p2 : Pos} {ℓ : Lv} {qa qb qc : Q1} {env : En} {h : Hs} {A : As} {σ : L2.St} {H : Hp}
/-- sorted of a list of data -/
theorem cr_sortD (hu : X.A.units + 64 < cLine) : CallR X (.builtin "sorted") (fun vs H Q => ∃ a us ds, vs = [V.ref a] ∧ SqL X.K H a us ∧ RepAll (SqT X.K H) (SqL X.K H) ds us ∧ (nlAll ds && alikeB ds && sortB ds && decide (PyData.depthAll ds ≤ 60)) = true ∧
    ∀ p us', H p = none → RepAll (SqT X.K H) (SqL X.K H) (ds.mergeSort (PySem.W.dataLe false id)) us' → Q (.ref p) (upd H p (.lst us'))) := by
  intro pins s σ H xs us0 Q I r0 hyp
  obtain ⟨a, us, ds, rfl, hs, hd, hc, q⟩ := hyp
  simp only [Bool.and_eq_true, decide_eq_true_eq] at hc
  obtain ⟨⟨⟨_, hal⟩, hk⟩, hdep⟩ := hc
  obtain ⟨its, rv, pl, hz⟩ := I.list hs
  rw [Vals.ref1 r0]
  have hlen : ds.length ≤ sizeLine := by rw [← hd.len]; exact hz
  have e0 := each_of hd rv
  have hAl : PySem.W.AllAlike (ds.map id) := by
    rw [List.map_id]
    intro d h1 d' h2
    exact List.all_eq_true.mp (List.all_eq_true.mp hal d h1) d' h2
  have hSo : PySem.W.Sortable (ds.map id) := by
    rw [List.map_id]
    unfold sortB at hk
    rw [Bool.or_eq_true] at hk
    rcases hk with hk | hk
    · refine .inl fun d hm => ?_
      have z := List.all_eq_true.mp hk d hm
      unfold isTup1 at z
      split at z
      · exact ⟨_, _, rfl⟩
      · cases z
    · refine .inr fun d hm => ?_
      have z := List.all_eq_true.mp hk d hm
      constructor
      · rintro rfl; cases z
      · rintro xs rfl; cases z
  refine PySem.W.sorted_data (enc := id) (R := fun u d => ∃ v, RelV v u ∧ Rep (SqT X.K H) (SqL X.K H) d v) pl.isList e0 (each_mem e0 fun u d _ ⟨v, q1, r1⟩ => Dp.reads I d v u (Rep.dp d v r1) q1) hAl hSo hlen (fun d hm => ?_) fun out ho eo => ?_
  · have := depth_mem hm
    show X.A.units + 2 + d.depth < cLine
    omega
  · obtain ⟨us', r', q'⟩ := of_each eo
    have hl' : us'.length ≤ sizeLine := by rw [r'.len, List.length_mergeSort]; exact hlen
    obtain ⟨c, hc⟩ := PyProof.Rows.sortedAll_at s.heap its out.toArray
    refine ⟨.ref (s.heap.objs.size + 1), _, I.laid (t' := s.toks) (o := .lst us') (fun b u e => PyProof.Rows.sortedAll_old e) (Nat.le_succ _) ⟨hl', out, c, q', hc⟩, rfl, q _ us' (I.hok.fresh (Nat.le_succ _)) r'⟩
theorem nl_perm {xs ys : List PyData} (p : xs.Perm ys) (h : nlAll ys = true) : nlAll xs = true := nl_mem.mpr fun x hx => nl_mem.mp h x (p.mem_iff.mp hx)
theorem sf_sorted (hK : X.K = F.G.K) (hu : X.A.units + 64 < cLine) (hm : X.mg "sorted" = none) (ha : SimQ X F .mo a qa) (hg : Gl X "sorted" := by rfl)
    (he : starEach [a] X.env = (false, eval a X.env) :: starEach [] X.env := by rfl) (hpl : (backTo pos (starEach [] X.env)).any (·.1) = false := by rfl) : SimF X F (.Call (.Name "sorted" p) [a] [] pos) (f1 gSorted qa) := by
  refine PEimp (pe_callB (cr_sortD hu) hg hm (by decide +kernel) (pa_cons ha pa_nil he) (by decide) (by decide) he hpl) fun σ H Q ⟨env, h, A, z, R, e, k⟩ => ?_
  obtain ⟨x, ex, e⟩ := bind_some e
  refine ⟨env, h, A, x, R, ex, fun v H1 e1 rv => ?_⟩
  unfold gSorted at e
  split at e
  · next ds =>
    split at e
    · next hc =>
      cases e
      obtain ⟨a, us, rfl, t, r⟩ := rl rv
      rw [hK]
      refine ⟨a, us, ds, rfl, t, r, hc, fun p us' hp r' => k p us' _ (fresh_back e1 hp) (e1.trans (Ex.new hp)) upd_same (RDs.ex (Ex.new hp) (RepAll.nl _ _ (nl_perm (List.mergeSort_perm _ _) ?_) r'))⟩
      simp only [Bool.and_eq_true] at hc
      exact hc.1.1.1
    · cases e
  · cases e
end
end Sm

set_option Elab.async false
set_option linter.all false
set_option maxRecDepth 100000
set_option maxHeartbeats 1000000
namespace Sm
open PySem L2 Evl

/-! ### several values at once, new lists among them -/
abbrev PA1 := En → Hs → Option (List Sl × Hs)
structure Srep (F : Fm) (env : En) (h : Hs) (A : As) (H : Hp) (ss : List Sl) (vs : List V) (as : List Addr) : Prop where
  len : vs.length = ss.length
  val : ∀ (i : Nat) x, ss[i]? = some (.v x) → ∃ v, vs[i]? = some v ∧ RV F .fs h A H x v
  lst : ∀ (i : Nat) xs, ss[i]? = some (.l xs) → ∃ p us, vs[i]? = some (.ref p) ∧ p ∈ as ∧ H p = some (.lst us) ∧ RDs F .st H xs us
  no : ∀ (i : Nat) s, ss[i]? = some s → (∃ x, s = .v x) ∨ ∃ xs, s = .l xs
  fr : ∀ p ∈ as, Fresh F env h A p ∧ ∃ o, H p = some o
  nd : ∀ (i j : Nat) xs ys p, ss[i]? = some (.l xs) → ss[j]? = some (.l ys) → vs[i]? = some (.ref p) → vs[j]? = some (.ref p) → i = j
def tP (F : Fm) (m : PA1) : TA := fun σ H Q => ∃ env h A ss h', SR F env h A σ H ∧ m env h = some (ss, h') ∧ ∀ vs as H' A', SR F env h' A' σ H' → Step h A H h' A' H' → (∀ p ∈ as, H p = none) → Srep F env h' A' H' ss vs as → Q vs H'
def pNil : PA1 := fun _ h => some ([], h)
def pV (a : E1) (r : PA1) : PA1 := fun env h => (a env h).bind fun x => (r env x.2).bind fun ss => some (.v x.1 :: ss.1, ss.2)
def pL (a : EF) (r : PA1) : PA1 := fun env h => (a env h).bind fun x => (r env x.2).bind fun ss => some (.l x.1 :: ss.1, ss.2)
section
variable {F : Fm} {X : Cx} {a b c e : Expr} {es rest : List Expr} {pos p p2 : Pos} {ℓ : Lv} {env : En} {h h' : Hs} {A A' : As} {σ : L2.St} {H H' : Hp} {ma : E1} {mf : EF} {r : PA1}
theorem Fresh.step {p : Addr} (f : Fresh F env h A p) (s : Step h A H h' A' H') (sl : ∀ i, A' (.s i) = A (.s i) ∨ ¬ live env h (.s i)) {o : HO} (e : H p = some o) : Fresh F env h' A' p := ⟨f.f0, fun q hq z => by
  cases q with
  | s i =>
    rcases sl i with y | y
    · rw [y] at z; exact f.fp (.s i) hq z
    · exact y hq
  | o n =>
    rcases s.nw (.o n) hq with ⟨q', hq', z'⟩ | z'
    · exact f.fp q' hq'.live (z'.symm.trans z)
    · rw [z, e] at z'; cases z'
  | f n j =>
    rcases s.nw (.f n j) hq with ⟨q', hq', z'⟩ | z'
    · exact f.fp q' hq'.live (z'.symm.trans z)
    · rw [z, e] at z'; cases z'⟩
/-- a slot's own place stands where it stood -/
theorem slot_same (R : SR F env h A σ H) (R' : SR F env h' A' σ H') (i : Nat) : A' (.s i) = A (.s i) ∨ ¬ live env h (.s i) := by
  by_cases hl : live env h (.s i)
  · left
    obtain ⟨s, e, m⟩ := hl
    have z1 := R.sl i s e
    have z2 := R'.sl i s e
    cases s with
    | l xs =>
      obtain ⟨e1, _⟩ := z1
      obtain ⟨e2, _⟩ := z2
      rw [e1] at e2
      injection e2 with e2
      injection e2 with e2
      exact e2.symm
    | k xs =>
      obtain ⟨e1, _⟩ := z1
      obtain ⟨e2, _⟩ := z2
      rw [e1] at e2
      injection e2 with e2
      injection e2 with e2
      exact e2.symm
    | un => cases m
    | v x => cases m
  · exact .inr hl
theorem sp_nil : PA X [] (tP F pNil) := PAimp pa_nil fun σ H Q ⟨env, h, A, ss, h', R, e, k⟩ => by
  cases e
  exact k [] [] H A R Step.refl (by simp) ⟨rfl, by simp, by simp, by simp, by simp, by simp⟩
theorem sp_v (ha : SimE X F .fs e ma) (hr : PA X es (tP F r)) (hs : starEach (e :: es) X.env = (false, eval e X.env) :: starEach es X.env := by rfl) : PA X (e :: es) (tP F (pV ma r)) :=
  PAimp (pa_cons ha hr hs) fun σ H Q ⟨env, h, A, ss, h', R, e, k⟩ => by
    obtain ⟨⟨x, h1⟩, ex, e⟩ := bind_some e
    obtain ⟨⟨ys, h2⟩, ey, e⟩ := bind_some e
    cases e
    refine ⟨env, h, A, x, h1, R, ex, fun v H1 A1 R1 s1 rv => ⟨env, h1, A1, ys, _, R1, ey, fun vs as H2 A2 R2 s2 nn S => k (v :: vs) as H2 A2 R2 (s1.trans s2) (fun p hp => none_back s1 (nn p hp)) ?_⟩⟩
    refine ⟨by simp [S.len], fun i y q => ?_, fun i xs q => ?_, fun i s q => ?_, S.fr, fun i j xs ys p q1 q2 q3 q4 => ?_⟩
    · cases i with
      | zero => simp at q; subst q; exact ⟨v, rfl, rv.step s2 (by simp)⟩
      | succ i => simpa using S.val i y (by simpa using q)
    · cases i with
      | zero => simp at q
      | succ i => simpa using S.lst i xs (by simpa using q)
    · cases i with
      | zero => simp at q; exact .inl ⟨x, q.symm⟩
      | succ i => exact S.no i s (by simpa using q)
    · cases i with
      | zero => simp at q1
      | succ i =>
        cases j with
        | zero => simp at q2
        | succ j => rw [S.nd i j xs ys p (by simpa using q1) (by simpa using q2) (by simpa using q3) (by simpa using q4)]
theorem sp_l (ha : SimEF X F e mf) (hr : PA X es (tP F r)) (hs : starEach (e :: es) X.env = (false, eval e X.env) :: starEach es X.env := by rfl) : PA X (e :: es) (tP F (pL mf r)) :=
  PAimp (pa_cons ha hr hs) fun σ H Q ⟨env, h, A, ss, h', R, e, k⟩ => by
    obtain ⟨⟨x, h1⟩, ex, e⟩ := bind_some e
    obtain ⟨⟨ys, h2⟩, ey, e⟩ := bind_some e
    cases e
    refine ⟨env, h, A, x, h1, R, ex, fun p us H1 A1 R1 s1 hp hv fr rs => ⟨env, h1, A1, ys, _, R1, ey, fun vs as H2 A2 R2 s2 nn S => ?_⟩⟩
    have kp : H2 p = some (.lst us) := s2.fr p _ hv fun q hq => fr.fp q hq.live
    have np : p ∉ as := fun hm => by have := nn p hm; rw [hv] at this; cases this
    refine k (.ref p :: vs) (p :: as) H2 A2 R2 (s1.trans s2) (fun q hq => ?_) ?_
    · rcases List.mem_cons.mp hq with rfl | hq
      · exact hp
      · exact none_back s1 (nn q hq)
    refine ⟨by simp [S.len], fun i y q => ?_, fun i xs q => ?_, fun i s q => ?_, fun q hq => ?_, fun i j xs ys q q1 q2 q3 q4 => ?_⟩
    · cases i with
      | zero => simp at q
      | succ i => simpa using S.val i y (by simpa using q)
    · cases i with
      | zero => simp at q; subst q; exact ⟨p, us, rfl, by simp, kp, RDs.pres s2.pres (by simp) rs⟩
      | succ i =>
        obtain ⟨q1, u1, a1, a2, a3, a4⟩ := S.lst i xs (by simpa using q)
        exact ⟨q1, u1, by simpa using a1, by simp [a2], a3, a4⟩
    · cases i with
      | zero => simp at q; exact .inr ⟨x, q.symm⟩
      | succ i => exact S.no i s (by simpa using q)
    · rcases List.mem_cons.mp hq with rfl | hq
      · exact ⟨Fresh.step fr s2 (slot_same R1 R2) hv, _, kp⟩
      · exact S.fr q hq
    · cases i with
      | zero =>
        cases j with
        | zero => rfl
        | succ j =>
          obtain ⟨w, _, a1, a2, _⟩ := S.lst j ys (by simpa using q2)
          simp at q3 q4
          rw [q4] at a1
          cases a1
          subst q3
          exact absurd a2 np
      | succ i =>
        cases j with
        | zero =>
          obtain ⟨w, _, a1, a2, _⟩ := S.lst i xs (by simpa using q1)
          simp at q3 q4
          rw [q3] at a1
          cases a1
          subst q4
          exact absurd a2 np
        | succ j => rw [S.nd i j xs ys q (by simpa using q1) (by simpa using q2) (by simpa using q3) (by simpa using q4)]
/-- one of them stored -/
theorem store1 {ss : List Sl} {vs : List V} {as done : List Addr} {k i : Nat} {s : Sl} {v : V} (R : SR F env h A σ H) (hs : ss[k]? = some s) (hv : vs[k]? = some v)
    (hval : ∀ x, s = .v x → RV F .fs h A H x v) (hlst : ∀ xs, s = .l xs → ∃ p us, v = .ref p ∧ H p = some (.lst us) ∧ RDs F .st H xs us ∧ Fresh F env h A p) (hno : (∃ x, s = .v x) ∨ ∃ xs, s = .l xs) :
    ∃ A', SR F (env.set i s) h A' (σ.set i (some v)) H ∧ (∀ q, hlive h q → A' q = A q) ∧ (∀ q, live (env.set i s) h q → A' q = A q ∧ live env h q ∨ ∃ xs, s = .l xs ∧ v = .ref (A' q) ∧ q = .s i) ∧ ∀ m, A' (.o m) = A (.o m) := by
  rcases hno with ⟨x, rfl⟩ | ⟨xs, rfl⟩
  · refine ⟨A, R.setV (hval x rfl), fun _ _ => rfl, fun q hq => ?_, fun _ => rfl⟩
    rcases live_set hq with ⟨_, m, _⟩ | ⟨_, hq⟩
    · cases m
    · exact .inl ⟨rfl, hq⟩
  · obtain ⟨p, us, rfl, e1, r, f⟩ := hlst xs rfl
    refine ⟨As.put A (.s i) p, R.setNew f rfl ⟨rfl, us, e1, r⟩, fun q hq => As.put_ne (by intro z; subst z; exact hq), fun q hq => ?_, fun m => As.put_ne (by intro z; cases z)⟩
    rcases live_set hq with ⟨z, _, _⟩ | ⟨z, hq⟩
    · exact .inr ⟨xs, rfl, by rw [z, As.put_same], z⟩
    · exact .inl ⟨As.put_ne z, hq⟩
def mPar2 (i j : Nat) (m : PA1) : M1 := fun env h => (m env h).bind fun r => match r.1 with
  | [s, t] => some (.nx, (env.set i s).set j t, r.2)
  | _ => none
theorem ss_par2 {i j : Nat} {x y : Str} {m : PA1} {px py pt : Pos} {kt k2 pt2} (hc : X.calm = true) (hN : X.N.Nodup) (hi : X.N[i]? = some x) (hj : X.N[j]? = some y) (hij : i ≠ j)
    (hx : X.env.scope.names.lookup x = some .local) (hy : X.env.scope.names.lookup y = some .local) (ha : PA X [a, b] (tP F m))
    (hw : swappedStores [.Tuple [.Name x px, .Name y py] kt pt] (.Tuple [a, b] k2 pt2) X.env = pure (some [x, y]))
    (hs : swapsWithSole [.Tuple [.Name x px, .Name y py] kt pt] (.Tuple [a, b] k2 pt2) pos.line X.env = pure false := by rfl) :
    SimS X F (.Assign [.Tuple [.Name x px, .Name y py] kt pt] (.Tuple [a, b] k2 pt2) pos) (mPar2 i j m) := PSimp (ps_par hc hN hi hj hij hx hy ha hw hs) fun D σ H ⟨env, h, A, r, env', h', R, e, k⟩ => by
  obtain ⟨⟨ss, h1⟩, ex, e⟩ := bind_some e
  simp only at e
  split at e
  · next s t =>
    cases e
    refine ⟨env, h, A, _, _, R, ex, fun vs as H1 A1 R1 s1 nn S => ?_⟩
    obtain ⟨v, w, rfl⟩ : ∃ v w, vs = [v, w] := by
      have := S.len
      match vs, this with
      | [v, w], _ => exact ⟨v, w, rfl⟩
    refine ⟨v, w, rfl, ?_⟩
    obtain ⟨A2, R2, p1, p2, p3⟩ := store1 (ss := [s, t]) (vs := [v, w]) (as := as) (done := []) (k := 0) (i := i) R1 rfl rfl (fun x z => by subst z; obtain ⟨v', h1, h2⟩ := S.val 0 x rfl; cases h1; exact h2)
      (fun xs z => by subst z; obtain ⟨p, us, h1, h2, h3, h4⟩ := S.lst 0 xs rfl; cases h1; exact ⟨p, us, rfl, h3, h4, (S.fr p h2).1⟩) (S.no 0 s rfl)
    obtain ⟨A3, R3, _, _, _⟩ := store1 (ss := [s, t]) (vs := [v, w]) (as := as) (done := []) (k := 1) (i := j) R2 rfl rfl (fun x z => by subst z; obtain ⟨v', h1, h2⟩ := S.val 1 x rfl; cases h1; exact h2.mono (fun _ _ z => z) (fun _ _ z => z) (Nat.le_refl _) fun m _ => p3 m)
      (fun xs z => by
        subst z
        obtain ⟨p, us, h1, h2, h3, h4⟩ := S.lst 1 xs rfl
        cases h1
        refine ⟨p, us, rfl, h3, h4, ⟨(S.fr p h2).1.f0, fun q hq z => ?_⟩⟩
        rcases p2 q hq with ⟨z1, z2⟩ | ⟨ys, rfl, z1, _⟩
        · exact (S.fr p h2).1.fp q z2 (z1.symm.trans z)
        · rw [z] at z1
          have := S.nd 0 1 ys xs p rfl rfl (by rw [z1]; rfl) rfl
          cases this) (S.no 1 t rfl)
    exact k _ H1 A3 R3 s1.pres
  · cases e

/-! ### own lists in place -/
def mApp (i : Nat) (q : Q1) : M1 := fun env h => (q env h).bind fun x => (dOf x).bind fun d => match env[i]? with
  | some (.l xs) => if xs.length < sizeLine then some (.nx, env.set i (.l (xs ++ [d])), h) else none
  | _ => none
theorem mt_of {id : String} {r : V → List V → Hp → VK → Prop} (h : MtM X id r) : MtR X id r := h
theorem ty_list {K : PySem.W.Frag} {p : Addr} {us : List V} (e : H p = some (.lst us)) : tyV K "list" (.ref p) H := .inl ⟨rfl, us, .inl (.inl e)⟩
theorem slot_own (R : SR F env h A σ H) {i : Nat} {xs : List PyData} (e : env[i]? = some (.l xs)) : σ[i]? = some (some (.ref (A (.s i)))) ∧ ∃ us, H (A (.s i)) = some (.lst us) ∧ RDs F .st H xs us := by
  obtain ⟨e1, us, e2, r⟩ := R.sl i _ e
  refine ⟨?_, us, e2, r⟩
  cases hs : σ[i]? with
  | none => rw [hs] at e1; cases e1
  | some o => rw [hs] at e1; exact congrArg some e1
/-- the list's new items, told where it stands -/
theorem SR.putL (R : SR F env h A σ H) {i : Nat} {xs ys : List PyData} {vs : List V} (e : env[i]? = some (.l xs)) (r : RDs F .st H ys vs) : SR F (env.set i (.l ys)) h A σ (upd H (A (.s i)) (.lst vs)) := by
  obtain ⟨e1, _⟩ := R.sl i _ e
  have P : Pres H (upd H (A (.s i)) (.lst vs)) := R.pres_at ⟨_, e, rfl⟩
  exact R.putS e rfl rfl ⟨e1, vs, upd_same, RepAll.mono P.sqT P.sL _ _ r⟩
end
end Sm

set_option Elab.async false
set_option linter.all false
set_option maxRecDepth 100000
set_option maxHeartbeats 1000000
namespace Sm
open PySem L2 Evl

/-! ### list + list -/
def rCatQ (K : PySem.W.Frag) : R2 := fun x y H Q => ∃ l b xs zs, x = .ref l ∧ y = .ref b ∧ SqL K H l xs ∧ SqL K H b zs ∧ xs.length + zs.length ≤ sizeLine ∧ ∀ p, H p = none → Q (.ref p) (upd H p (.lst (xs ++ zs)))
theorem op_catQ {X : Cx} : OpR X (binaryOp .Add) (rCatQ X.K) := by
  intro pins s σ H x y v u Q I rx ry hyp
  obtain ⟨l, b, xs, zs, rfl, rfl, hx, hz, hsz, k⟩ := hyp
  cases rx
  cases ry
  obtain ⟨its, r1, ⟨⟨c1, d1, t1, s1⟩, n1, g1, gc, gd, gt⟩, _⟩ := I.list hx
  obtain ⟨jts, r2, ⟨⟨c2, d2, t2, s2⟩, n2, f1, fc, fd, ft⟩, _⟩ := I.list hz
  simp only at gc gd gt fc fd ft
  subst gc gd gt fc fd ft
  have el : its.toArray.size + jts.toArray.size ≤ sizeLine := by
    rw [List.size_toArray, List.size_toArray, ← r1.length, ← r2.length]
    exact hsz
  have run := PyProof.Rows.list_addW l b its.toArray jts.toArray n1 n2 none none s1 s2 el
  refine concat_meets
    ⟨_, g1, rfl⟩ ⟨_, f1, rfl⟩
    noFill_list_add seq_list_add
    PySem.F.slot_list_add
    PySem.F.entry_list_add
    (PySem.F.args_list_add_2 _ _)
    run ?_
  refine ⟨g1, f1, ?_⟩
  have ea : its.toArray ++ jts.toArray = (its ++ jts).toArray := by simp
  rw [ea]
  have hl : (xs ++ zs).length ≤ sizeLine := by rw [List.length_append]; exact hsz
  exact ⟨.ref s.heap.objs.size, _, I.laid (t' := s.toks) (o := .lst (xs ++ zs)) (fun b' o' e' => Heap.get?_push_of_some _ e') (Nat.le_refl _) ⟨hl, _, 0, r1.append r2, Heap.get?_push_size _ rfl⟩, rfl, k _ (I.hok.fresh (Nat.le_refl _))⟩
def gCat : Hs → Val → Val → Option (List PyData) := fun _ x y => match x, y with
  | .d (.list xs), .d (.list ys) => if nlAll xs = true ∧ nlAll ys = true ∧ xs.length + ys.length ≤ sizeLine then some (xs ++ ys) else none
  | _, _ => none
section
variable {F : Fm} {X : Cx} {a b c e : Expr} {es rest : List Expr} {pos p p2 apos : Pos} {ℓ : Lv} {qa qb qc : Q1} {env : En} {h h' : Hs} {A A' : As} {σ : L2.St} {H H' : Hp} {ma mb : E1} {mf : EF}
theorem sf_cat (hK : X.K = F.G.K) (ha : SimQ X F .mo a qa) (hb : SimQ X F .mo b qb) : SimF X F (.BinOp a .Add b pos) (f2 gCat qa qb) := PEimp (pe_op op_catQ ha hb) fun σ H Q ⟨env, h, A, z, R, e, k⟩ => by
  obtain ⟨x, ex, e⟩ := bind_some e
  obtain ⟨y, ey, e⟩ := bind_some e
  refine ⟨env, h, A, x, R, ex, fun v H1 e1 rv => ⟨env, h, A, y, R.ex e1, ey, fun u H2 e2 ru => ?_⟩⟩
  have rv := rv.ex e2
  unfold gCat at e
  split at e
  · next xs ys =>
    split at e
    · next hc =>
      cases e
      obtain ⟨a, us, rfl, q1, r1⟩ := rl rv
      obtain ⟨b, ws, rfl, q2, r2⟩ := rl ru
      rw [hK]
      refine ⟨a, b, us, ws, rfl, rfl, q1, q2, by rw [r1.len, r2.len]; exact hc.2.2, fun p hp => k p _ _ (fresh_back (e1.trans e2) hp) ((e1.trans e2).trans (Ex.new hp)) upd_same (RDs.ex (Ex.new hp) (RepAll.append (RepAll.nl _ _ hc.1 r1) (RepAll.nl _ _ hc.2.1 r2)))⟩
    · cases e
  · cases e
/-- both may write; the operands locked -/
def ef2 (g : Hs → Val → Val → Option (List PyData)) (a b : E1) : EF := fun env h => (a env h).bind fun x => (b env x.2).bind fun y => (g y.2 x.1 y.1).bind fun z => some (z, y.2)
theorem sef_cat (hK : X.K = F.G.K) (ha : SimE X F .fs a ma) (hb : SimE X F .fs b mb) : SimEF X F (.BinOp a .Add b pos) (ef2 gCat ma mb) := PEimp (pe_op op_catQ ha hb) fun σ H Q ⟨env, h, A, z, h', R, e, k⟩ => by
  obtain ⟨⟨x, h1⟩, ex, e⟩ := bind_some e
  obtain ⟨⟨y, h2⟩, ey, e⟩ := bind_some e
  obtain ⟨w, ew, e⟩ := bind_some e
  cases e
  refine ⟨env, h, A, x, h1, R, ex, fun v H1 A1 R1 s1 rv => ⟨env, h1, A1, y, _, R1, ey, fun u H2 A2 R2 s2 ru => ?_⟩⟩
  have rv := RV.mo R2 (rv.step s2 (by simp))
  have ru := RV.mo R2 ru
  have ew : gCat h2 x y = some _ := ew
  unfold gCat at ew
  split at ew
  · next xs ys =>
    split at ew
    · next hc =>
      cases ew
      obtain ⟨a, us, rfl, q1, r1⟩ := rl rv
      obtain ⟨b, ws, rfl, q2, r2⟩ := rl ru
      rw [hK]
      refine ⟨a, b, us, ws, rfl, rfl, q1, q2, by rw [r1.len, r2.len]; exact hc.2.2, fun p hp => k p _ _ A2 (R2.ex (Ex.new hp)) ((s1.trans s2).trans (Step.ex (Ex.new hp))) (none_back (s1.trans s2) hp) upd_same ⟨(R2.fresh hp).f0, (R2.fresh hp).fp⟩ (RDs.ex (Ex.new hp) (RepAll.append (RepAll.nl _ _ hc.1 r1) (RepAll.nl _ _ hc.2.1 r2)))⟩
    · cases ew
  · cases ew

/-! ### own lists in place -/
def mAppE (i : Nat) (m : E1) : M1 := fun env h => match env[i]? with
  | some (.l xs) => (m env h).bind fun x => (dOf x.1).bind fun d => if xs.length < sizeLine then some (.nx, env.set i (.l (xs ++ [d])), x.2) else none
  | _ => none
theorem RD.of_val {x : Val} {d : PyData} {v : V} (e : dOf x = some d) (r : RV F ℓ h A H x v) : RD F ℓ H d v := by
  cases x with
  | d y => cases e; exact r
  | ref n => cases e
  | fn n => cases e
theorem ss_app {i : Nat} {x : Str} (hK : X.K = F.G.K) (ha : SimE X F .st e ma) (hN : X.N[i]? = some x := by rfl) (hv : Vis X.env.scope x := by first | exact Or.inl rfl | exact Or.inr (Or.inl rfl) | exact Or.inr (Or.inr rfl)) (hd : (x == ("__debug__" : Str)) = false := by decide)
    (hcd : (x == ("__classdict__" : Str)) = false := by decide)
    (hbase : attributeBase (.Name x p) "append" X.env (eval (.Name x p) X.env) = eval (.Name x p) X.env := by rfl)
    (hfew : ((backTo pos (starEach [e] X.env)).all (fun x => !x.1) && (backToKw pos (keywordEach [] X.env)).all (fun x => x.1.isSome) && decide ([e].length + ([] : List Keyword).length + (if ([] : List Keyword).isEmpty then 0 else 1) < 30)) = true := by rfl)
    (hline : (apos.endLine == pos.line) = true := by rfl) (hs : starEach [e] X.env = (false, eval e X.env) :: starEach [] X.env := by rfl) (hplain : (backTo pos (starEach [] X.env)).any (·.1) = false := by rfl)
    (hsw : swapsWith (.Call (.Attribute (.Name x p) "append" apos) [e] [] pos) none p2.line X.env = pure false := by rfl) :
    SimS X F (.Expr (.Call (.Attribute (.Name x p) "append" apos) [e] [] pos) p2) (mAppE i ma) :=
  PSimp (ps_expr (pe_bm PySem.F.plainAttrs_list PySem.F.slot_list_append PySem.F.type_list_append mt_append (pe_var hN hv hd hcd) (pa_cons ha pa_nil hs) hbase hfew hline hs hplain) hsw) fun D σ H ⟨env, h, A, r, env', h', R, e, k⟩ => by
    unfold mAppE at e
    split at e
    · next xs hy =>
      obtain ⟨⟨y, h1⟩, ey, e⟩ := bind_some e
      obtain ⟨d, ed, e⟩ := bind_some e
      split at e
      · next hl =>
        cases e
        obtain ⟨s1, us, hu, _⟩ := slot_own R hy
        refine ⟨_, s1, by rw [hK]; exact ty_list hu, env, h, A, y, _, R, ey, fun v H1 A1 R1 st rv => ?_⟩
        obtain ⟨s2, ws, hw, rs⟩ := slot_own R1 hy
        rw [s1] at s2
        have ea : A (.s i) = A1 (.s i) := by injection s2 with z; injection z with z; injection z
        refine ⟨A (.s i), ws, v, rfl, rfl, by rw [ea]; exact hw, by rw [rs.len]; exact hl, ?_⟩
        have R2 := R1.putL hy (rs.append (.cons (RD.of_val ed rv) .nil))
        rw [ea]
        exact k σ _ A1 R2 (st.pres.trans (R1.pres_at ⟨_, hy, rfl⟩))
      · cases e
    · cases e
def mExtE (i : Nat) (m : EF) : M1 := fun env h => match env[i]? with
  | some (.l xs) => (m env h).bind fun x => if xs.length + x.1.length ≤ sizeLine then some (.nx, env.set i (.l (xs ++ x.1)), x.2) else none
  | _ => none
theorem ss_ext {i : Nat} {x : Str} (hK : X.K = F.G.K) (ha : SimEF X F e mf) (hN : X.N[i]? = some x := by rfl) (hv : Vis X.env.scope x := by first | exact Or.inl rfl | exact Or.inr (Or.inl rfl) | exact Or.inr (Or.inr rfl)) (hd : (x == ("__debug__" : Str)) = false := by decide)
    (hcd : (x == ("__classdict__" : Str)) = false := by decide)
    (hbase : attributeBase (.Name x p) "extend" X.env (eval (.Name x p) X.env) = eval (.Name x p) X.env := by rfl)
    (hfew : ((backTo pos (starEach [e] X.env)).all (fun x => !x.1) && (backToKw pos (keywordEach [] X.env)).all (fun x => x.1.isSome) && decide ([e].length + ([] : List Keyword).length + (if ([] : List Keyword).isEmpty then 0 else 1) < 30)) = true := by rfl)
    (hline : (apos.endLine == pos.line) = true := by rfl) (hs : starEach [e] X.env = (false, eval e X.env) :: starEach [] X.env := by rfl) (hplain : (backTo pos (starEach [] X.env)).any (·.1) = false := by rfl)
    (hsw : swapsWith (.Call (.Attribute (.Name x p) "extend" apos) [e] [] pos) none p2.line X.env = pure false := by rfl) :
    SimS X F (.Expr (.Call (.Attribute (.Name x p) "extend" apos) [e] [] pos) p2) (mExtE i mf) :=
  PSimp (ps_expr (pe_bm PySem.F.plainAttrs_list PySem.F.slot_list_extend PySem.F.type_list_extend mt_extend (pe_var hN hv hd hcd) (pa_cons ha pa_nil hs) hbase hfew hline hs hplain) hsw) fun D σ H ⟨env, h, A, r, env', h', R, e, k⟩ => by
    unfold mExtE at e
    split at e
    · next xs hy =>
      obtain ⟨⟨y, h1⟩, ey, e⟩ := bind_some e
      split at e
      · next hl =>
        cases e
        obtain ⟨s1, us, hu, _⟩ := slot_own R hy
        refine ⟨_, s1, by rw [hK]; exact ty_list hu, env, h, A, y, _, R, ey, fun q zs H1 A1 R1 st hq hz f rz => ?_⟩
        obtain ⟨s2, ws, hw, rs⟩ := slot_own R1 hy
        rw [s1] at s2
        have ea : A (.s i) = A1 (.s i) := by injection s2 with z; injection z with z; injection z
        refine ⟨A (.s i), q, ws, zs, rfl, rfl, by rw [ea]; exact hw, hz, by rw [rs.len, rz.len]; exact hl, ?_⟩
        have R2 := R1.putL hy (rs.append rz)
        rw [ea]
        exact k σ _ A1 R2 (st.pres.trans (R1.pres_at ⟨_, hy, rfl⟩))
      · cases e
    · cases e

/-! ### list objects -/
/-- o[i] = v -/
def mPut (qo qi : Q1) (m : E1) : M1 := fun env h => (m env h).bind fun x => (dOf x.1).bind fun d => (qo env x.2).bind fun o => (qi env x.2).bind fun i => match o, i with
  | .ref n, .d (.int k) => (lstAt x.2 n).bind fun xs => (ixN xs.length k).bind fun j => some (.nx, env, x.2.set n (.lst (xs.set j d)))
  | _, _ => none
theorem ss_put {o i : Expr} {qo qi : Q1} {tpos : Pos} (hw : F.rw = true) (ha : SimE X F .st e ma) (ho : SimQ X F .mo o qo) (hi : SimQ X F .mo i qi) (hs : swapsWithSole [.Subscript o i tpos] e pos.line X.env = pure false := by rfl) (hsw : swappedStores [.Subscript o i tpos] e X.env = pure none := by rfl)
    (h1 : (assignEach [.Subscript o i tpos] X.env).map (·.2) = [assign (.Subscript o i tpos) X.env] := by rfl)
    (hst : ∀ v, assign (.Subscript o i tpos) X.env v = (do
      let ov ← holding [v] (eval o X.env)
      let iv ← holding [v, ov] (eval i X.env)
      standAt tpos
      holding [v, ov, iv] (setItem ov iv v)
      release [v, ov, iv] []) := by intro _; rfl) : SimS X F (.Assign [.Subscript o i tpos] e pos) (mPut qo qi ma) :=
  PSimp (ps_asg ha (pg_sub ho hi set_list hst) hs hsw h1) fun D σ H ⟨env, h, A, r, env', h', R, e, k⟩ => by
    obtain ⟨⟨x, h1⟩, ex, e⟩ := bind_some e
    obtain ⟨d, ed, e⟩ := bind_some e
    obtain ⟨y, ey, e⟩ := bind_some e
    obtain ⟨z, ez, e⟩ := bind_some e
    refine ⟨env, h, A, x, h1, R, ex, fun v H1 A1 R1 s1 rv => ⟨env, h1, A1, y, R1, ey, fun w H2 e2 rw' => ⟨env, h1, A1, z, R1.ex e2, ez, fun u H3 e3 ru => ?_⟩⟩⟩
    split at e
    · next n kk _ =>
      obtain ⟨xs, exs, e⟩ := bind_some e
      obtain ⟨j, ej, e⟩ := bind_some e
      cases e
      obtain ⟨_, rfl⟩ := rw'
      cases ri ru
      have R3 := (R1.ex e2).ex e3
      obtain ⟨hn, us, hu, rs⟩ := R3.lstAt exs
      have rd : RD F .st H3 d v := RD.ex (e2.trans e3) (RD.of_val ed rv)
      have hj : ixN us.length kk = some j := by rw [rs.len]; exact ej
      refine ⟨_, us, kk, j, rfl, rfl, hu, hj, ?_⟩
      have R4 := R3.putO hw hn (rs.set j rd)
      exact k σ _ A1 R4 ((s1.pres.trans (Ex.pres (e2.trans e3))).trans (R3.pres_at (show live env h1 (.o n) from (List.getElem?_eq_some_iff.mp hn).1)))
    · cases e
/-- a list written out as an object of its own -/
def eNew (a : EA) : E1 := fun env h => (a env h).bind fun x => (dsOf x.1).bind fun ds => if ds.length ≤ sizeLine then some (.ref x.2.length, x.2 ++ [.lst ds]) else none
theorem ds_st {h : Hs} {A : As} {H : Hp} : ∀ {xs : List Val} {ds : List PyData} {vs : List V}, dsOf xs = some ds → Paired (fun x v => RV F ℓ h A H x v) xs vs → RDs F ℓ H ds vs := fun e r => ds_rep e r
def tEAs (F : Fm) (m : EA) : TA := fun σ H Q => ∃ env h A xs h', SR F env h A σ H ∧ m env h = some (xs, h') ∧ ∀ vs H' A', SR F env h' A' σ H' → Step h A H h' A' H' → Paired (fun x v => RV F .st h' A' H' x v) xs vs → Q vs H'
theorem sas_nil : PA X [] (tEAs F eNil) := PAimp pa_nil fun σ H Q ⟨env, h, A, xs, h', R, e, k⟩ => by
  cases e
  exact k [] H A R Step.refl .nil
theorem sas_cons {r : EA} (ha : SimE X F .st e ma) (hr : PA X es (tEAs F r)) (hs : starEach (e :: es) X.env = (false, eval e X.env) :: starEach es X.env := by rfl) : PA X (e :: es) (tEAs F (eCons ma r)) :=
  PAimp (pa_cons ha hr hs) fun σ H Q ⟨env, h, A, xs, h', R, e, k⟩ => by
    obtain ⟨⟨x, h1⟩, ex, e⟩ := bind_some e
    obtain ⟨⟨ys, h2⟩, ey, e⟩ := bind_some e
    cases e
    exact ⟨env, h, A, x, h1, R, ex, fun v H1 A1 R1 s1 rv => ⟨env, h1, A1, ys, _, R1, ey, fun vs H2 A2 R2 s2 rs => k _ H2 A2 R2 (s1.trans s2) (.cons (rv.step s2 (by simp)) rs)⟩⟩
theorem se_new {r : EA} (hw : F.rw = true) (hr : PA X es (tEAs F r)) : SimE X F ℓ (.List es pos) (eNew r) := PEimp (pe_lst hr) fun σ H Q ⟨env, h, A, z, h', R, e, k⟩ => by
  obtain ⟨⟨xs, h1⟩, ex, e⟩ := bind_some e
  obtain ⟨ds, ed, e⟩ := bind_some e
  split at e
  · next hl =>
    cases e
    refine ⟨env, h, A, xs, h1, R, ex, fun vs H1 A1 R1 s1 rs => ?_⟩
    have rd := ds_rep ed rs
    refine ⟨by rw [rd.len]; exact hl, fun p hp => ?_⟩
    have R2 := R1.ex (Ex.new (p := p) (o := .lst vs) hp)
    have f : Fresh F env h1 A1 p := ⟨(R1.fresh hp).f0, (R1.fresh hp).fp⟩
    have R3 := R2.alloc (o := .lst ds) f (fun j ⟨c, fs, s, e, _⟩ => by simp at e) ⟨vs, by rw [As.put_same]; exact upd_same, RDs.ex (Ex.new hp) rd⟩
    have s3 : Step h1 A1 H1 (h1 ++ [.lst ds]) (As.put A1 (.o h1.length) p) (upd H1 p (.lst vs)) := by
      have x1 : Ex H1 (upd H1 p (.lst vs)) := Ex.new hp
      refine ⟨fun a o q _ => x1 a o q, fun a us q => x1 a _ q, fun a o u q => x1 a _ q, fun a o q => ⟨o, x1 a o q⟩, by simp, fun m hm => As.put_ne (by intro z; cases z; exact absurd hm (Nat.lt_irrefl _)), fun q hq => ?_⟩
      by_cases e : q = .o h1.length
      · exact .inr (by rw [e, As.put_same]; exact hp)
      · rw [As.put_ne e]
        refine .inl ⟨q, ?_, rfl⟩
        cases q with
        | s i => exact hq
        | o n =>
          have hq : n < (h1 ++ [Ob.lst ds]).length := hq
          simp at hq
          have ne : n ≠ h1.length := fun z => e (by rw [z])
          show n < h1.length
          omega
        | f n j =>
          obtain ⟨c, fs, s, e1, e2, m⟩ := hq
          by_cases hn : n < h1.length
          · rw [List.getElem?_append_left hn] at e1; exact ⟨c, fs, s, e1, e2, m⟩
          · rw [List.getElem?_append_right (by omega)] at e1
            have e0 : n - h1.length = 0 := by
              have := (List.getElem?_eq_some_iff.mp e1).1
              simp at this; omega
            rw [e0] at e1; simp at e1
    exact k _ _ _ R3 (s1.trans s3) ⟨by simp, by rw [As.put_same]⟩
  · cases e
end
end Sm

set_option Elab.async false
set_option linter.all false
set_option maxRecDepth 100000
set_option maxHeartbeats 1000000
namespace Sm
open PySem L2 Evl

/-! ### walks of what may write -/
abbrev IE := En → Hs → Option (List PyData × Hs)
def tIE (F : Fm) (ok : Fm → Hp → Hp → Prop) (ℓ : Lv) (it : IE) : TI := fun σ H R => ∃ env h A xs h', SR F env h A σ H ∧ it env h = some (xs, h') ∧ ∀ J H1 A1, SR F env h' A1 σ H1 → Step h A H h' A1 H1 → Ylds F (ok F H1) ℓ J xs → R J H1
abbrev SimIE (X : Cx) (F : Fm) (ok : Fm → Hp → Hp → Prop) (ℓ : Lv) (tg e : Expr) (it : IE) : Prop := PI X tg e (tIE F ok ℓ it)
def iE (it : I1) : IE := fun env h => (it env h).bind fun xs => some (xs, h)
def iRngE (a : E1) : IE := fun env h => (a env h).bind fun x => match x.1 with
  | .d (.int n) => if (decide (-(2 ^ 62) ≤ n) && decide (n < 2 ^ 62)) = true then some ((List.range n.toNat).map fun k : Nat => PyData.int (k : Int), x.2) else none
  | _ => none
def iSeqE (a : E1) : IE := fun env h => (a env h).bind fun x => (seqOf x.1).bind fun xs => some (xs, x.2)
section
variable {F : Fm} {X : Cx} {tg a b c e : Expr} {es rest : List Expr} {pos p : Pos} {ℓ : Lv} {ma mb : E1} {env : En} {h h' : Hs} {A A' : As} {σ : L2.St} {H H' : Hp} {ok : Fm → Hp → Hp → Prop}
theorem sie_i {it : I1} (hi : SimI X F ok ℓ tg e it) : SimIE X F ok ℓ tg e (iE it) := PIimp hi fun σ H Q ⟨env, h, A, xs, h', R, e, k⟩ => by
  obtain ⟨ys, ey, e⟩ := bind_some e
  cases e
  exact ⟨env, h, A, _, R, ey, fun J H1 e1 Y => k J H1 A (R.ex e1) (Step.ex e1) Y⟩
theorem sie_rng (hm : X.mg "range" = none) (ha : SimE X F .fs a ma) (hg : Gl X "range" := by rfl) (hs : starEach [a] X.env = [(false, eval a X.env)] := by rfl) : SimIE X F ok ℓ tg (.Call (.Name "range" p) [a] [] pos) (iRngE ma) :=
  PIimp (pi_range1 hg hm (pa_cons ha pa_nil hs) hs) fun σ H Q ⟨env, h, A, z, h', R, e, k⟩ => by
    obtain ⟨⟨x, h1⟩, ex, e⟩ := bind_some e
    refine ⟨env, h, A, x, h1, R, ex, fun v H1 A1 R1 s1 rv => ?_⟩
    simp only at e
    split at e
    · next n =>
      split at e
      · next hn =>
        cases e
        cases ri rv
        simp only [Bool.and_eq_true, decide_eq_true_eq] at hn
        refine ⟨n, rfl, hn.1, hn.2, k _ H1 A1 R1 s1 ?_⟩
        have := ylds_rng (F := F) (ℓ := ℓ) (Ok := ok F H1) 0 n.toNat
        simpa using this
      · cases e
    · cases e
theorem sie_seq (hK : X.K = F.G.K) (ha : SimE X F .fs a ma) : SimIE X F OkS .fs tg a (iSeqE ma) := PIimp (PIor (pi_list ha) (pi_tup ha)) fun σ H Q ⟨env, h, A, z, h', R, e, k⟩ => by
  obtain ⟨⟨x, h1⟩, ex, e⟩ := bind_some e
  obtain ⟨xs, ey, e⟩ := bind_some e
  cases e
  rw [hK]
  have ey : seqOf x = some _ := ey
  unfold seqOf at ey
  split at ey
  · cases ey
    refine .inl ⟨env, h, A, _, _, R, ex, fun v H1 A1 R1 s1 rv => ?_⟩
    obtain ⟨a, us, rfl, q, r⟩ := rl rv
    exact ⟨a, rfl, ⟨us, LPof_sq R1 q⟩, k _ H1 A1 R1 s1 (ylds_list r.len fun Hc ⟨P, _, _, _, _, S⟩ => ⟨LPof_sq (ℓ := .fs) S (Pres.fL P _ _ q), RepAll.mono P.sqT (Pres.fL P) _ _ r⟩)⟩
  · cases ey
    refine .inr ⟨env, h, A, _, _, R, ex, fun v H1 A1 R1 s1 rv => ?_⟩
    obtain ⟨a, us, rfl, q, r⟩ := rt rv
    exact ⟨a, rfl, ⟨us, q⟩, k _ H1 A1 R1 s1 (ylds_tup r.len fun Hc ⟨P, _⟩ => ⟨P.sqT _ _ q, RepAll.mono P.sqT (Pres.fL P) _ _ r⟩)⟩
  · cases ey
def mForE (it : IE) (vs : List Nat) (bn : B1) (body : M1) : M1 := fun env h => (it env h).bind fun xs => forGo vs (fun d env h => (bn d env).bind fun env1 => body env1 h) xs.1 (wipeE env vs) xs.2
theorem ss_forE {iter : Expr} {body : List Stmt} {it : IE} {bn : B1} {ss : List Nat} {mb : M1} (vs : List Nat) (hp : PassesOwn (model X.prog X.w) X.A X.env X.xe) (hc : X.calm = true) (hi : SimIE X F OkS .fs tg iter it) (hg : PG X tg (tGt F ss bn)) (hb : SimB X F body mb)
    (hs : ∀ x, foldedSetIterable iter X.env x = pure x := by intro _; rfl) : SimS X F (.For tg iter body [] pos) (mForE it vs bn mb) := PSimp (ps_for hp hc hi hg hb hs) fun D σ H ⟨env, h, A, r, env', h', R, e, k⟩ => by
  obtain ⟨⟨xs, h0⟩, ex, e⟩ := bind_some e
  refine ⟨env, h, A, xs, h0, R, ex, fun J H1 A0 R0 s0 Y => ?_⟩
  have k1 : Post F H1 D r env' h' := k.pre s0.pres
  refine ⟨fun i m σ Hc => m = xs.length - i ∧ i ≤ xs.length ∧ Pres H1 Hc ∧ ∃ env h A, SR F env h A σ Hc ∧ forGo vs (fun d env h => (bn d env).bind fun env1 => mb env1 h) (xs.drop i) env h = some (r, env', h'),
    ⟨xs.length, by simp, Nat.zero_le _, Pres.refl _, _, h0, A0, R0.wipeS vs, by simpa using e⟩, ?_⟩
  rintro i m σ Hc ⟨rfl, hi, P, env2, h2, A2, R2, e2⟩
  have ok : OkS F H1 Hc := ⟨P, env2, h2, A2, σ, R2⟩
  by_cases hlt : i < xs.length
  · rw [List.drop_eq_getElem_cons hlt] at e2
    obtain ⟨⟨r3, env3, h3⟩, e3, e4⟩ := bind_some e2
    obtain ⟨env4, e5, e6⟩ := bind_some e3
    refine .inr ⟨Y.go Hc i ok hlt, fun σ' H' => i + 1 ≤ xs.length ∧ Pres H1 H' ∧ ∃ env h A, SR F env h A σ' H' ∧ forGo vs (fun d env h => (bn d env).bind fun env1 => mb env1 h) (xs.drop (i + 1)) env h = some (r, env', h'),
      fun σ' H' ⟨a, b, c⟩ => ⟨xs.length - (i + 1), by omega, rfl, a, b, c⟩, fun x Hn hy => ?_⟩
    obtain ⟨zn, rx⟩ := Y.yl Hc i x Hn _ ok (List.getElem?_eq_getElem hlt) hy
    refine ⟨env2, h2, A2, xs[i], env4, R2.ex zn, rx, e5, fun σ5 H5 x5 R5 _ _ => ⟨env4, h2, A2, r3, env3, h3, R5, e6, ?_⟩⟩
    have P5 : Pres H1 H5 := (P.trans (Ex.pres zn)).trans (Ex.pres x5)
    cases r3 with
    | nx => exact fun σ' H' A' R' P' => ⟨hlt, P5.trans P', _, h3, A', R'.wipeS vs, e4⟩
    | ct => exact fun σ' H' A' R' P' => ⟨hlt, P5.trans P', _, h3, A', R'.wipeS vs, e4⟩
    | bk => cases e4; exact fun σ' H' A' R' P' => k1 σ' H' A' (R'.wipeS vs) (P5.trans P')
    | rt ℓ x => cases e4; exact k1.pre P5
    | rf xs => cases e4; exact k1.pre P5
  · have e0 : i = xs.length := by omega
    subst e0
    rw [List.drop_length] at e2
    cases e2
    exact .inl ⟨Y.st Hc _ ok (Nat.le_refl _), k1 σ Hc A2 R2 P⟩

/-! ### comprehensions whose elements write -/
theorem SR.updF {p : Addr} {o : HO} (R : SR F env h A σ H) (f : Fresh F env h A p) (P : Pres H (upd H p o)) : SR F env h A σ (upd H p o) := by
  have oth : ∀ q, live env h q → ∀ u, H (A q) = some u → upd H p o (A q) = some u := fun q hq u e => by rw [upd_ne (f.fp q hq)]; exact e
  refine ⟨fun a u q w => ?_, fun a vs q => P.1 _ _ (R.tp a vs q), fun a b u q => P.2 _ _ _ (R.fz a b u q), R.dm_at, R.le, R.oo, R.nw, R.ow, R.ln, fun i s e => R.sl_keep P (Nat.le_refl _) (fun _ _ => rfl) e fun m => ⟨rfl, fun u z => oth (.s i) ⟨s, e, m⟩ u z⟩, fun n b e => ?_, R.ij⟩
  · rw [upd_ne (fun z => by rw [z, f.f0] at q; cases q)]; exact R.fr a u q w
  · exact R.ob_keep P (Nat.le_refl _) (fun _ _ => rfl) e (fun u z => oth (.o n) (List.getElem?_eq_some_iff.mp e).1 u z) fun j hj => ⟨rfl, fun u z => oth _ hj.live u z⟩
theorem Step.updF {p : Addr} {o : HO} (s : Step h A H h' A' H') (hp : H p = none) (P : Pres H' (upd H' p o)) : Step h A H h' A' (upd H' p o) := by
  refine ⟨fun a u q n => ?_, fun a vs q => P.1 _ _ (s.tp a vs q), fun a b u q => P.2 _ _ _ (s.fz a b u q), fun a u q => ?_, s.le, s.oo, s.nw⟩
  · rw [upd_ne (fun z => by rw [z, hp] at q; cases q)]; exact s.fr a u q n
  · obtain ⟨u', e⟩ := s.dm a u q; exact dm_upd a u' e
theorem pres_lst {p : Addr} {us : List V} {o : HO} (e : H p = some (.lst us)) : Pres H (upd H p o) := Pres.upd fun u eu => by
  rw [e] at eu; cases eu
  exact ⟨fun _ q => (by cases q), fun _ _ q => (by cases q)⟩
def lcGoE (step : PyData → Hs → Option (Option PyData × Hs)) : List PyData → Hs → Option (List PyData × Hs)
  | [], h => some ([], h)
  | x :: xs, h => (step x h).bind fun o => (lcGoE step xs o.2).bind fun r => some ((match o.1 with
    | some y => y :: r.1
    | none => r.1), r.2)
def lcStepE (vs : List Nat) (bn : B1) (tt : T1) (te : E1) (env : En) (d : PyData) (h : Hs) : Option (Option PyData × Hs) :=
  (bn d (wipeE env vs)).bind fun env1 => (tt env1 h).bind fun b => if b = true then (te env1 h).bind fun y => (dOf y.1).bind fun z => some (some z, y.2) else some (none, h)
def efLc (it : IE) (vs : List Nat) (bn : B1) (tt : T1) (te : E1) : EF := fun env h => (it env h).bind fun xs =>
  (lcGoE (lcStepE vs bn tt te env) xs.1 xs.2).bind fun ys => if ys.1.length ≤ sizeLine then some ys else none
theorem Step.back (s : Step h A H h' A' H') : Step h A H h' (As.back A A') H' := ⟨s.fr, s.tp, s.fz, s.dm, s.le, s.oo, fun p hp => by rw [back_h hp]; exact s.nw p hp⟩
theorem lcE_read {ss vs : List Nat} {it : IE} {bn : B1} {tt : T1} {te : E1} {Q : VK} (hw : F.rw = true) (hv : ∀ i, i ∈ ss → i ∈ vs) (hq : tEF F (efLc it vs bn tt te) σ H Q) : tLc (tIE F OkS .fs it) (tGt F ss bn) (tT F tt) (tE F .st te) vs σ H Q := by
  obtain ⟨env, h, A, ys, hE, R, e, k⟩ := hq
  obtain ⟨⟨xs, h0⟩, ex, e⟩ := bind_some e
  obtain ⟨⟨zs, hz⟩, ez, e⟩ := bind_some e
  split at e
  · next hl =>
    cases e
    refine ⟨env, h, A, xs, h0, R, ex, fun J H1 A0 R0 s0 Y D hD => ?_⟩
    have hD0 : H D = none := none_back s0 hD
    refine ⟨fun i m Hc => m = xs.length - i ∧ i ≤ xs.length ∧ Pres H1 Hc ∧ ∃ h2 A2 acc ws us, SR F env h2 A2 σ Hc ∧ Step h A H h2 A2 Hc ∧ Fresh F env h2 A2 D ∧ lcGoE (lcStepE vs bn tt te env) (xs.drop i) h2 = some (ws, hE) ∧ acc ++ ws = ys ∧ Hc D = some (.lst us) ∧ RDs F .st Hc acc us,
      ⟨xs.length, by simp, Nat.zero_le _, Ex.pres (Ex.new hD), h0, A0, [], ys, [], R0.ex (Ex.new hD), s0.trans (Step.ex (Ex.new hD)), ⟨(R0.fresh hD).f0, (R0.fresh hD).fp⟩, by simpa using ez, rfl, upd_same, .nil⟩, ?_⟩
    rintro i m Hc ⟨rfl, hi, P, h2, A2, acc, ws, us, R2, s2, f2, e2, ea, hu, ru⟩
    have ok : OkS F H1 Hc := ⟨P, env, h2, A2, σ, R2⟩
    by_cases hlt : i < xs.length
    · rw [List.drop_eq_getElem_cons hlt] at e2
      obtain ⟨⟨o, h3⟩, eo, e2⟩ := bind_some e2
      obtain ⟨⟨w2, h4⟩, er, e2⟩ := bind_some e2
      obtain ⟨env1, eb, eo⟩ := bind_some eo
      obtain ⟨c, ec, eo⟩ := bind_some eo
      refine .inr ⟨Y.go Hc i ok hlt, fun H' => i + 1 ≤ xs.length ∧ Pres H1 H' ∧ ∃ h2 A2 acc ws us, SR F env h2 A2 σ H' ∧ Step h A H h2 A2 H' ∧ Fresh F env h2 A2 D ∧ lcGoE (lcStepE vs bn tt te env) (xs.drop (i + 1)) h2 = some (ws, hE) ∧ acc ++ ws = ys ∧ H' D = some (.lst us) ∧ RDs F .st H' acc us,
        fun H' ⟨a, b⟩ => ⟨xs.length - (i + 1), by omega, rfl, a, b⟩, fun x Hn hy => ?_⟩
      obtain ⟨zn, rx⟩ := Y.yl Hc i x Hn _ ok (List.getElem?_eq_getElem hlt) hy
      refine ⟨_, h2, A2, xs[i], env1, (R2.ex zn).wipe vs, rx, eb, fun σ2 H2 x2 R3 l2 n2 => ⟨?_, env1, h2, A2, c, R3, ec, fun H3 x3 => ?_⟩⟩
      · rw [wipe_eq (σ := L2.wipe σ vs) l2 n2 hv]
        exact wipe_eq (ss := vs) (wipe_len _ _) (fun i hi => wipe_not hi) fun _ z => z
      · have zt : Ex Hc H3 := (zn.trans x2).trans x3
        have Rt : SR F env h2 A2 σ H3 := R2.ex zt
        have ft : Fresh F env h2 A2 D := f2
        cases c with
        | false =>
          cases eo
          cases e2
          exact ⟨hlt, P.trans (Ex.pres zt), h2, A2, acc, w2, us, Rt, s2.trans (Step.ex zt), ft, er, ea, zt D _ hu, RDs.ex zt ru⟩
        | true =>
          obtain ⟨⟨y, h5⟩, ey, eo⟩ := bind_some eo
          obtain ⟨y', ey', eo⟩ := bind_some eo
          cases eo
          cases e2
          refine ⟨env1, h2, A2, y, h5, R3.ex x3, ey, fun v H4 A4 R4 s4 rv => ?_⟩
          have hu4 : H4 D = some (.lst us) := s4.fr D _ (zt D _ hu) fun q hq => ft.fp q hq.live
          have R5 : SR F env h5 (As.back A2 A4) σ H4 := Rt.call hw s4 R4.ob fun p q hp hq e => R4.ij p q hp.live hq.live e
          have f5 : Fresh F env h5 (As.back A2 A4) D := Fresh.step ft s4.back (fun i => .inl rfl) (zt D _ hu)
          have P4 : Pres H4 (upd H4 D (.lst (us ++ [v]))) := pres_lst hu4
          refine ⟨us, hu4, ?_, hlt, ((P.trans (Ex.pres zt)).trans s4.pres).trans P4, h5, _, acc ++ [y'], w2, us ++ [v], R5.updF f5 P4, ((s2.trans (Step.ex zt)).trans s4.back).updF hD0 P4, f5, er, by rw [← ea]; simp, upd_same, ?_⟩
          · rw [ru.len]
            have : (acc ++ [y']).length ≤ ys.length := by rw [← ea]; simp
            have hh : acc.length + 1 ≤ ys.length := by simpa using this
            have hl : ys.length ≤ sizeLine := hl
            omega
          · exact RepAll.append (RDs.pres P4 (by simp) (RDs.pres s4.pres (by simp) (RDs.ex zt ru))) (.cons (RD.pres P4 (by simp) (RD.of_val ey' rv)) .nil)
    · have e0 : i = xs.length := by omega
      subst e0
      rw [List.drop_length] at e2
      cases e2
      rw [List.append_nil] at ea
      subst ea
      exact .inl ⟨Y.st Hc _ ok (Nat.le_refl _), k D us Hc A2 R2 s2 hD0 hu f2 ru⟩
  · cases e
theorem sef_lc {iter elt : Expr} {ifs : List Expr} {ss : List Nat} {scope : Scope} {own : List (Str × Nat)} {it : IE} {bn : B1} {tt : T1} {te : E1} (hw : F.rw = true) (hc : X.calm = true) (hN : X.N.Nodup) (hi : SimIE X F OkS .fs tg iter it) (ok : blkC X.N X.env.scope scope own = true) (hv : (ss.all fun i => (own.map (·.2)).contains i) = true)
    (hg : ∀ (s : Shared) (H : Hp) (C : Addr) (cl : List (Str × Addr)) (fp : List Addr), PG (X.blk s H scope (compEnvC scope cl C X.env) fp) tg (tGt F ss bn)) (ht : ∀ (s : Shared) (H : Hp) (C : Addr) (cl : List (Str × Addr)) (fp : List Addr), PTs (X.blk s H scope (compEnvC scope cl C X.env) fp) ifs (tT F tt))
    (he : ∀ (s : Shared) (H : Hp) (C : Addr) (cl : List (Str × Addr)) (fp : List Addr), SimE (X.blk s H scope (compEnvC scope cl C X.env) fp) F .st elt te) (hs : ∀ x, foldedSetIterable iter X.env x = pure x := by intro _; rfl) :
    SimEF X F (.ListComp elt [⟨tg, iter, ifs, 0⟩] scope pos) (efLc it (own.map (·.2)) bn tt te) :=
  PEimp (pe_lc hc hN hi (blkOk_by ok) hg ht he hs) fun _ _ _ => lcE_read hw fun i hi => by
    have := List.all_eq_true.mp hv i hi
    simpa using this
end
end Sm

set_option Elab.async false
set_option linter.all false
set_option maxRecDepth 100000
set_option maxHeartbeats 4000000
namespace Sm
open PySem L2 Evl PyProof.Rows

/-! ### t[::-1] of a tuple -/
section
variable {prog : Program} {w : World} {A : Around} {E : Value → Shared → Prop} {s : Shared}
theorem rev_places (n : Nat) : Builtin.Slice.slicePlaces ((n : Int) - 1) (-1) (-1) = n := by
  unfold Builtin.Slice.slicePlaces
  rw [if_neg (by decide)]
  by_cases h : n = 0
  · subst h; rfl
  · rw [if_pos (by omega)]
    show (((n : Int) - 1 - -1 - 1) / 1 + 1).toNat = n
    rw [Int.ediv_one]
    omega
theorem sliceApplied_rev {sl : Addr} {vk : Value} {n : Nat} {Q : Int × Int × Nat → Shared → Prop} (hs : s.heap.IsSliceOf sl .none .none vk) (pk : IsPart vk (some (-1))) (h : Q ((n : Int) - 1, -1, n) s) :
    wpAny (model prog w) A (Builtin.Slice.sliceApplied (.ref sl) (pure (n : Int))) Q E s := by
  obtain ⟨os, hos, hcs, hds⟩ := id hs
  unfold Builtin.Slice.sliceApplied
  unfold Builtin.Slice.sliceFields
  apply wpAny_bind
  refine wpAny_bind (wpAny_field hos hds (x := .none) rfl ?_)
  refine wpAny_bind (wpAny_field hos hds (x := .none) rfl ?_)
  refine wpAny_bind (wpAny_field hos hds (x := vk) rfl ?_)
  refine wpAny_pure ?_
  refine wpAny_bind (HT.slicePart_ pk ?_)
  show wpAny _ _ (if ((-1 : Int) == 0) = true then _ else _) _ _ s
  rw [if_neg (by decide)]
  refine wpAny_bind (slicePart_none ?_)
  refine wpAny_bind (slicePart_none ?_)
  refine wpAny_bind (wpAny_pure ?_)
  have ha : Builtin.Slice.sliceAdjust none none (((some (-1 : Int))).getD 1) (n : Int) = ((n : Int) - 1, -1) := rfl
  rw [ha]
  show wpAny _ _ (pure ((n : Int) - 1, (-1 : Int), Builtin.Slice.slicePlaces ((n : Int) - 1) (-1) (-1))) _ _ s
  rw [rev_places]
  exact wpAny_pure h
theorem pick_rev (xs : Array Value) : ((List.range xs.size).filterMap fun (k : Nat) => xs[(((xs.size : Int) - 1) + (k : Int) * (-1)).toNat]?).toArray = xs.toList.reverse.toArray := by
  congr 1
  apply List.ext_getElem?
  intro i
  have e : ∀ l : List Nat, (∀ k ∈ l, k < xs.size) → (l.filterMap fun (k : Nat) => xs[(((xs.size : Int) - 1) + (k : Int) * (-1)).toNat]?) = l.map fun k => xs.toList.getD (xs.size - 1 - k) .none := by
    intro l hl
    induction l with
    | nil => rfl
    | cons k l ih =>
      have hk := hl k (by simp)
      have e1 : (((xs.size : Int) - 1) + (k : Int) * (-1)).toNat = xs.size - 1 - k := by omega
      have e2 : xs[xs.size - 1 - k]? = some (xs.toList.getD (xs.size - 1 - k) .none) := by
        have h3 : xs.size - 1 - k < xs.size := by omega
        rw [Array.getElem?_eq_getElem h3, List.getD_eq_getElem?_getD, Array.getElem?_toList, Array.getElem?_eq_getElem h3]
        rfl
      rw [List.filterMap_cons, e1, e2, List.map_cons]
      rw [ih fun k hk => hl k (by simp [hk])]
  rw [e _ (fun k hk => List.mem_range.mp hk)]
  by_cases hi : i < xs.size
  · rw [List.getElem?_map, List.getElem?_range hi, List.getElem?_reverse (by simpa using hi)]
    simp only [Option.map_some, Array.length_toList]
    have h3 : xs.size - 1 - i < xs.toList.length := by rw [Array.length_toList]; omega
    rw [List.getElem?_eq_getElem h3, List.getD_eq_getElem?_getD, List.getElem?_eq_getElem h3]
    rfl
  · rw [List.getElem?_eq_none (by simpa using hi), List.getElem?_eq_none (by simpa using hi)]
theorem getItem_tuple_rev {t sl : Addr} {items : Array Value} {vk : Value} {Q : Value → Shared → Prop} (ht : IsTup s.heap t items) (hs : s.heap.IsSliceOf sl .none .none vk) (pk : IsPart vk (some (-1))) (hz : items.size ≤ sizeLine)
    (h : Q (.ref s.heap.objs.size) { s with heap := s.heap.push { cls := .type "tuple", data := .seq items.toList.reverse.toArray } }) : wpAny (model prog w) A (getItem (.ref t) (.ref sl)) Q E s := by
  have hsz : sizeOk (.seq items.toList.reverse.toArray) := by
    show items.toList.reverse.toArray.size ≤ sizeLine
    simpa using hz
  have hTs : s.TypeIs (.ref sl) "slice" := by
    obtain ⟨z, z1, z2, _⟩ := id hs
    exact ⟨z, z1, z2⟩
  unfold getItem
  try with_reducible refine wpAny_holding ?_
  first
    | refine wpAny_bind (wpAny_pure ?_)
    | skip
  refine wpAny_bind (wpAny_sequenceKey ht.typeIs (by decide) ?_)
  refine wpAny_bind (wpAny_callSpecial?_slot (name := Str.ofString "__getitem__") ht.typeIs slot_tuple_getitem
    (wpAny_call_entry slot_tuple_getitem ht.typeIs entry_tuple_getitem ?_ (args_tuple_getitem _ _)))
  show wpAny _ _ (Builtin.Tuple.tupleItemsOf (.ref t) >>= _) _ _ s
  refine wpAny_bind (tupleItemsOf_ ht (wpAny_bind (wpAny_typeOf hTs ?_)))
  rw [if_pos (by decide)]
  refine wpAny_bind (sliceApplied_rev hs pk ?_)
  show wpAny _ _ (if ((((items.size : Int) - 1) == 0 && (-1 : Int) == 1 && items.size == items.size) = true) then _ else _) _ _ s
  rw [show (((items.size : Int) - 1) == 0 && (-1 : Int) == 1 && items.size == items.size) = false by rw [show ((-1 : Int) == 1) = false from rfl, Bool.and_false, Bool.false_and], if_neg Bool.false_ne_true, pick_rev]
  first
    | exact wpAny_bind (m := Builtin.Tuple.tupleExact _) (wpAny_newObj_type (wpAny_pure ⟨_, rfl, wpAny_pure h⟩) hsz)
    | exact wpAny_bind (wpAny_bind (m := Builtin.Tuple.tupleExact _) (wpAny_newObj_type (wpAny_pure (wpAny_pure ⟨_, rfl, wpAny_pure h⟩)) hsz))
    | exact wpAny_bind (wpAny_bind (m := Builtin.Tuple.tupleExact _) (wpAny_newObj_type (wpAny_pure ⟨_, rfl, wpAny_pure h⟩) hsz))
end
end Sm
namespace Sm
open PySem L2 Evl PyProof.Rows
section
variable {F : Fm} {X : Cx} {a b c e : Expr} {es rest : List Expr} {pos p p1 p2 p3 : Pos} {k : Nat} {ℓ : Lv} {qa qb qc : Q1} {env : En} {h : Hs} {A : As} {σ : L2.St} {H : Hp}
theorem pe_revT {te : TE} (he : PE X e te) : PE X (.Subscript e (.Slice none none (some (.UnaryOp .USub (.Constant (.int 1) k p1) p2)) p3) pos)
    (fun σ H Q => te σ H fun x H1 => ∃ a xs, x = .ref a ∧ SqT X.K H1 a xs ∧ ∀ p, H1 p = none → Q (.ref p) (upd H1 p (.tup xs.reverse))) := by
  refine ⟨fun pins s σ H Q I h => ?_⟩
  refine Subscript_ (thn (he.run pins s σ H _ I h) fun v s1 ⟨x, H1, I1, r1, a, xs, ex, hx, q⟩ => ?_)
  subst ex
  cases r1
  have hst : PO X (some (.UnaryOp .USub (.Constant (.int 1) k p1) p2)) (tPart (tUn (rU fun i => .int (-i)) (tC (.int 1)))) := po_some (pe_un un_neg pe_int)
  refine wpAny_Slice (thn (po_none.run pins s1 σ H1 (fun o K => o = none ∧ K = H1) I1 ⟨rfl, rfl⟩) fun vl s2 ⟨l, H2, I2, pl, el, e2⟩ => ?_)
  subst el e2
  refine thn (po_none.run pins s2 σ H2 (fun o K => o = none ∧ K = H2) I2 ⟨rfl, rfl⟩) fun vu s3 ⟨u, H3, I3, pu, eu, e3⟩ => ?_
  subst eu e3
  refine thn (hst.run pins s3 σ H3 (fun o K => o = some (-1) ∧ K = H3) I3 ⟨1, rfl, -1, rfl, rfl, rfl⟩) fun vs s4 ⟨o, H4, I4, ps, eo, e4⟩ => ?_
  subst eo e4
  have J : Inv X pins σ H4 { s4 with heap := s4.heap.push { cls := .type "slice", data := .fields #[vl, vu, vs] } } := I4.kept (t' := s4.toks) fun b ob q => Heap.get?_push_of_some _ q
  obtain ⟨its, r, ht, hz⟩ := J.tuple hx
  have hlen := r.length
  cases pl
  cases pu
  show wpAny (model X.prog X.w) X.A (subscriptTail e (.Slice none none (some (.UnaryOp .USub (.Constant (.int 1) k p1) p2)) p3) (.ref a) (.ref s4.heap.objs.size)) (EP X pins σ Q) X.xe { s4 with heap := s4.heap.push { cls := .type "slice", data := .fields #[.none, .none, vs] } }
  refine tail_any (ops := [.ref a, .ref s4.heap.objs.size]) (T := "tuple") ht.typeIs (PyProof.Rows.slot_tuple_getitem.lookup) ?_ (by with_unfolding_all rfl)
  refine getItem_tuple_rev ht (Heap.IsSliceOf.new _ .none .none vs) ps (by rw [List.size_toArray, ← hlen]; exact hz) ?_
  refine ⟨.ref _, _, J.laid (t' := s4.toks) (o := .tup xs.reverse) (fun b ob q => Heap.get?_push_of_some _ q) (Nat.le_refl _) ?_, rfl, q _ (J.hok.fresh (Nat.le_refl _))⟩
  exact ⟨by rw [List.length_reverse]; exact hz, _, r.reverse, IsTup.new _ _⟩
theorem RepAll.reverse {T L : LP} : ∀ {ds : List PyData} {vs : List V}, RepAll T L ds vs → RepAll T L ds.reverse vs.reverse
  | [], vs, r => by simp only [RepAll] at r; subst r; exact RepAll.nil
  | d :: ds, vs, r => by
    simp only [RepAll] at r
    obtain ⟨v, w, rfl, r1, r2⟩ := r
    rw [List.reverse_cons, List.reverse_cons]
    exact RepAll.append (RepAll.reverse r2) (RepAll.cons r1 RepAll.nil)
/-- x[::-1] -/
def gRev : Hs → Val → Option Val := fun _ x => match x with
  | .d (.tuple xs) => some (.d (.tuple xs.reverse))
  | _ => none
def gRevL : Hs → Val → Option (List PyData) := fun _ x => match x with
  | .d (.list xs) => if nlAll xs = true then some xs.reverse else none
  | _ => none
theorem sq_rev (hK : X.K = F.G.K) (ha : SimQ X F ℓ a qa) : SimQ X F ℓ (.Subscript a (.Slice none none (some (.UnaryOp .USub (.Constant (.int 1) k p1) p2)) p3) pos) (q1 gRev qa) :=
  PEimp (pe_revT ha) fun σ H Q ⟨env, h, A, z, R, e, k⟩ => by
    obtain ⟨x, ex, e⟩ := bind_some e
    refine ⟨env, h, A, x, R, ex, fun v H1 e1 rv => ?_⟩
    unfold gRev at e
    split at e
    · next xs =>
      cases e
      obtain ⟨a, us, rfl, t, r⟩ := rt rv
      refine ⟨a, us, rfl, by rw [hK]; exact t, fun p hp => k _ _ (e1.trans (Ex.new hp)) ?_⟩
      exact vt (.inl (.inl upd_same)) (RDs.ex (Ex.new hp) r.reverse)
    · cases e
theorem sf_rev (hK : X.K = F.G.K) (ha : SimQ X F .mo a qa) : SimF X F (.Subscript a (.Slice none none (some (.UnaryOp .USub (.Constant (.int 1) k p1) p2)) p3) pos) (f1 gRevL qa) :=
  PEimp (pe_revL ha) fun σ H Q ⟨env, h, A, z, R, e, k⟩ => by
    obtain ⟨x, ex, e⟩ := bind_some e
    refine ⟨env, h, A, x, R, ex, fun v H1 e1 rv => ?_⟩
    unfold gRevL at e
    split at e
    · next xs =>
      split at e
      · next hn =>
        cases e
        obtain ⟨a, us, rfl, t, r⟩ := rl rv
        refine ⟨a, us, rfl, by rw [hK]; exact t, fun p hp => k p _ _ (fresh_back e1 hp) (e1.trans (Ex.new hp)) upd_same (RDs.ex (Ex.new hp) (RepAll.nl _ _ ?_ r.reverse))⟩
        exact nl_mem.mpr fun x hx => nl_mem.mp hn x (List.mem_reverse.mp hx)
      · cases e
    · cases e
end
end Sm

set_option Elab.async false
set_option linter.all false
set_option maxRecDepth 100000
set_option maxHeartbeats 4000000
namespace Sm
open PySem L2 Evl PyProof.Rows

/-! ### set(xs) of a list of ints, laid so that it can be sorted -/
abbrev so0 (w : World) : Obj := { cls := .type "set", dict := none, data := .set #[] 0 (.fresh 0 0 (!w.params.followText "set-order")) }
section
variable {P : Program} {w : World} {A : Around} {E : Value → Shared → Prop} {s : Shared}
theorem setL_call {l : Addr} {items : Array Value} (ns : List Int) {Q : Value → Shared → Prop} (hh : A.handled = none) (hl : s.heap.IsList l items) (hit : IntsAre items.toList ns) (hb : ns.length + 1 < scanBound)
    (h : ∀ (h' : Heap) (tk c : Nat), SetR w h' s.heap.objs.size (fun j => decide (j ∈ ns)) c → c ≤ ns.length → (∀ b o, s.heap.get? b = some o → h'.get? b = some o) →
      Q (.ref s.heap.objs.size) { s with heap := h', toks := tk }) : wpAny (model P w) A (call (.type "set") [.ref l]) Q E s := by
  have isz : items.size = ns.length := (Array.length_toList (xs := items)).symm.trans (IntsAre.length hit)
  obtain ⟨c, tl, hmro⟩ := F.called_set.mro
  have m1 := F.called_set.made
  have m2 := F.called_set.sub
  refine wpAny_call (codeAny_of_tree ?_)
  show wpAny _ _ (callAny (.type "set") _) _ _ _
  refine wpAny_pure ⟨Code.quiet_builtin _ (by decide +kernel), codeAny_builtin F.entry_type_call ?_⟩
  rw [Around.under_plain (weight_type_call_type "set" [.ref l] []) rfl]
  have m3 := F.called_set.notType
  have m4 := F.called_set.canCreate
  have m5 := F.typeCall_set_1 (.ref l)
  repeat (any_goals (first | assumption | wp_step))

  refine codeAny_mono (code_set_led1 (.ref l) (E := E) (Q₁ := fun obj s₁ => obj = .ref s.heap.objs.size ∧ s₁ = { s with heap := s.heap.push (so0 w) }) ⟨rfl, rfl⟩) fun r s₁ hr => ?_
  rcases r with _ | fl
  · exact hr
  cases fl with
  | ret obj =>
    obtain ⟨rfl, rfl⟩ := hr
    have gS : (s.heap.push (so0 w)).get? s.heap.objs.size = some (so0 w) := Heap.get?_push_size _ rfl
    have gT : Shared.TypeIs { s with heap := s.heap.push (so0 w) } (.ref s.heap.objs.size) "set" := ⟨_, gS, rfl⟩
    have m6 := F.called_set.init.lookup
    have m7 := F.called_set.init.bind (.ref s.heap.objs.size)
    repeat (any_goals (first | assumption | wp_step))

    refine codeAny_mono (codeAny_call_builtin (R := wants (fun r s₂ => r = .none ∧ ∃ h' tk c, s₂ = { s with heap := h', toks := tk } ∧ SetR w h' s.heap.objs.size (fun j => decide (j ∈ ns)) c ∧ c ≤ ns.length ∧
        (∀ b o, s.heap.get? b = some o → h'.get? b = some o)) E) F.called_set.init.plain F.entry_set_init (check_set_init_1 gT ?_)) fun r₂ s₂ hr₂ => ?_
    · obtain ⟨⟨oc, od, oda, osl⟩, gl, hcl, nl, hdl⟩ := hl
      simp only at hcl hdl
      subst hcl; subst hdl
      have gl' : (s.heap.push (so0 w)).get? l = some { cls := .type "list", dict := od, data := .seq items nl, slots := osl } := Heap.get?_push_of_some _ gl
      have n1 := F.sub_list_set
      have n2 := F.sub_list_frozenset
      have n3 : (Value.type "list" == Value.type "dict") = false := by decide
      have isl : (s.heap.push (so0 w)).IsList l items := ⟨_, gl', rfl, nl, rfl⟩
      unfold Builtin.«set.__init__» noKeywords Builtin.Frozenset.updateFrom
      generalize eP : pyIter = PI
      wp_walk
      subst eP

      refine wpAny_pyIter_list isl (wpAny_bind (wpAny_runValue ?_))
      have lts : l < s.heap.objs.size := Heap.lt_size gl
      have hd3 : A.in1.in1.in1.handled = none := by simp [hh]
      have szp : (s.heap.push (so0 w)).objs.size = s.heap.objs.size + 1 := Heap.size_push ..
      have ne1 : l ≠ (s.heap.push (so0 w)).objs.size := by rw [Heap.size_push]; exact Nat.ne_of_lt (Nat.lt_succ_of_lt lts)
      have ne2 : s.heap.objs.size ∉ [(s.heap.push (so0 w)).objs.size, l] := by
        intro z
        rcases List.mem_cons.mp z with z | z
        · rw [Heap.size_push] at z
          exact absurd z (Nat.ne_of_lt (Nat.lt_succ_self _))
        · exact absurd (List.mem_singleton.mp z) (Nat.ne_of_gt lts)
      have vals : ∀ (i : Nat) (v : Value), items[i]? = some v → ∃ k t, ns[i]? = some k ∧ v = .int k t := fun i v hv => by
        have hi : i < ns.length := by rw [← isz]; exact (Array.getElem?_eq_some_iff.mp hv).1
        obtain ⟨t, e⟩ := PyProof.Rows.IntsAre.int_at hit i v (by rw [Array.getElem?_toList]; exact hv)
        refine ⟨ns[i], t, List.getElem?_eq_getElem hi, e.trans ?_⟩
        rw [List.getD_eq_getElem?_getD, List.getElem?_eq_getElem hi] <;> rfl
      refine set_update_ints ((Walks.list hd3 _ l ne1 items).toS) s.heap.objs.size ne2 ns isz hb vals (items.size - 0) 0 _ (by omega) (Nat.zero_le _)
        ⟨⟨_, Heap.get?_push_size _ rfl, rfl, rfl⟩, (isl.push _)⟩ ?g0 ?g1
      case g0 => exact ⟨0, Nat.le_refl 0, setR_new_at (Heap.get?_push_of_some _ gS)⟩
      case g1 =>
        intro s' c' hm hc' hS'
        obtain ⟨h', g2, d', tk', os'⟩ := s'
        obtain rfl : g2 = s.gens := hm.gens
        obtain rfl : d' = s.drawn := hm.drawn
        obtain rfl : os' = s.os := hm.os
        show wpAny _ _ _ _ _ _
        refine wpAny_pure ?_
        show wpAny _ _ (ret Value.none) _ _ _
        rw [isz] at hc'
        refine wpAny_pure ⟨rfl, h', tk', c', rfl, hS', hc', fun b o e => ?_⟩
        have lt0 : b < s.heap.objs.size := Heap.lt_size e
        refine hm.heap b o (fun z => ?_) (Heap.get?_push_of_some _ (Heap.get?_push_of_some _ e))
        rcases List.mem_cons.mp z with z | z
        · exact absurd z (Nat.ne_of_lt lt0)
        · have z2 := List.mem_singleton.mp z
          rw [Heap.size_push] at z2
          exact absurd z2 (Nat.ne_of_lt (Nat.lt_succ_of_lt lt0))

    · rcases r₂ with _ | fl₂
      · exact hr₂
      cases fl₂ with
      | ret r =>
        obtain ⟨rfl, h', tk, c', rfl, hS', hc', hk'⟩ := hr₂
        repeat (any_goals (first | assumption | wp_step))
        exact h _ _ _ hS' hc' hk'
      | _ => exact hr₂.elim
  | _ => exact hr.elim
end

/-! ### sorted(set(x)) -/
/-- the members, in order, each once -/
def insU (x : Int) : List Int → List Int
  | [] => [x]
  | y :: ys => if x < y then x :: y :: ys else if x = y then y :: ys else y :: insU x ys
def sortU : List Int → List Int
  | [] => []
  | x :: xs => insU x (sortU xs)
theorem mem_insU {x y : Int} : ∀ {xs : List Int}, y ∈ insU x xs ↔ y = x ∨ y ∈ xs
  | [] => by simp [insU]
  | z :: zs => by
    unfold insU
    split
    · simp
    · split
      · next h => subst h; simp
      · simp only [List.mem_cons, mem_insU (xs := zs)]
        constructor
        · rintro (a | a | a) <;> simp [a]
        · rintro (a | a | a) <;> simp [a]
theorem mem_sortU {y : Int} : ∀ {xs : List Int}, y ∈ sortU xs ↔ y ∈ xs
  | [] => by simp [sortU]
  | x :: xs => by rw [sortU, mem_insU, mem_sortU, List.mem_cons]
theorem asc_insU {x : Int} : ∀ {xs : List Int}, xs.Pairwise (· < ·) → (insU x xs).Pairwise (· < ·)
  | [], _ => by simp [insU]
  | z :: zs, h => by
    have h2 := List.pairwise_cons.mp h
    unfold insU
    split
    · next q =>
      refine List.pairwise_cons.mpr ⟨fun y hy => ?_, h⟩
      rcases List.mem_cons.mp hy with rfl | hy
      · exact q
      · exact Int.lt_trans q (h2.1 y hy)
    · split
      · exact h
      · next q1 q2 =>
        refine List.pairwise_cons.mpr ⟨fun y hy => ?_, asc_insU h2.2⟩
        rcases mem_insU.mp hy with rfl | hy
        · omega
        · exact h2.1 y hy
theorem asc_sortU : ∀ (xs : List Int), (sortU xs).Pairwise (· < ·)
  | [] => by simp [sortU]
  | x :: xs => asc_insU (asc_sortU xs)
theorem asc_uniq : ∀ {xs ys : List Int}, xs.Pairwise (· < ·) → ys.Pairwise (· < ·) → (∀ k, k ∈ xs ↔ k ∈ ys) → xs = ys
  | [], [], _, _, _ => rfl
  | [], y :: ys, _, _, h => absurd ((h y).mpr (by simp)) (by simp)
  | x :: xs, [], _, _, h => absurd ((h x).mp (by simp)) (by simp)
  | x :: xs, y :: ys, h1, h2, h => by
    have a1 := List.pairwise_cons.mp h1
    have a2 := List.pairwise_cons.mp h2
    have exy : x = y := by
      rcases List.mem_cons.mp ((h x).mp (by simp)) with e | e
      · exact e
      · rcases List.mem_cons.mp ((h y).mpr (by simp)) with e' | e'
        · exact e'.symm
        · have := a1.1 y e'
          have := a2.1 x e
          omega
    subst exy
    congr 1
    refine asc_uniq a1.2 a2.2 fun k => ⟨fun q => ?_, fun q => ?_⟩
    · rcases List.mem_cons.mp ((h k).mp (List.mem_cons_of_mem _ q)) with e | e
      · have := a1.1 k q
        omega
      · exact e
    · rcases List.mem_cons.mp ((h k).mpr (List.mem_cons_of_mem _ q)) with e | e
      · have := a2.1 k q
        omega
      · exact e
def intOf : PyData → Option Int
  | .int n => some n
  | _ => none
def intsOf : List PyData → Option (List Int)
  | [] => some []
  | d :: ds => (intOf d).bind fun n => (intsOf ds).bind fun ns => some (n :: ns)
theorem intsOf_map : ∀ {ds : List PyData} {ns : List Int}, intsOf ds = some ns → ds = ns.map PyData.int
  | [], ns, e => by cases e; rfl
  | d :: ds, ns, e => by
    unfold intsOf at e
    cases d <;> simp only [intOf, Option.bind_some, Option.bind_none, reduceCtorEq] at e
    rename_i n
    cases q : intsOf ds with
    | none => rw [q] at e; cases e
    | some ms => rw [q] at e; cases e; rw [List.map_cons, intsOf_map q]
theorem intsOf_of (ns : List Int) : intsOf (ns.map PyData.int) = some ns := by
  induction ns with
  | nil => rfl
  | cons n ns ih => rw [List.map_cons, intsOf, intOf, ih]; rfl
theorem rep_ints {T L : LP} : ∀ {ns : List Int} {vs : List V}, RepAll T L (ns.map PyData.int) vs → vs = ns.map V.int
  | [], vs, r => by simpa [RepAll] using r
  | n :: ns, vs, r => by
    rw [List.map_cons] at r
    simp only [RepAll, Rep] at r
    obtain ⟨v, u, rfl, r1, r2⟩ := r
    rw [rep_ints r2, r1]; rfl
def gSetS : Hs → Val → Option (List PyData) := fun _ x => match x with
  | .d (.list ds) => (intsOf ds).bind fun ns => if ns.length < 64 then some ((sortU ns).map .int) else none
  | .d (.tuple ds) => (intsOf ds).bind fun ns => if ns.length < 64 then some ((sortU ns).map .int) else none
  | _ => none
def gSetN : Hs → Val → Option Val := fun _ x => match x with
  | .d (.list ds) => (intsOf ds).bind fun ns => if ns.length < 64 then some (.d (.int (sortU ns).length)) else none
  | .d (.tuple ds) => (intsOf ds).bind fun ns => if ns.length < 64 then some (.d (.int (sortU ns).length)) else none
  | _ => none
section
variable {F : Fm} {X : Cx} {a b c e : Expr} {es rest : List Expr} {pos pos2 p p1 p2 p3 : Pos} {k : Nat} {ℓ : Lv} {qa qb qc : Q1} {fa : En → Hs → Option (List PyData)} {env : En} {h : Hs} {A : As} {σ : L2.St} {H : Hp}
def rSetI (X : Cx) : List V → Hp → VK → Prop := fun vs H Q => ∃ (a : Addr) (ns : List Int), vs = [V.ref a] ∧ (SqT X.K H a (ns.map V.int) ∨ SqL X.K H a (ns.map V.int)) ∧ ns.length < 64 ∧
  ∀ p c, H p = none → c ≤ ns.length → Q (.ref p) (upd H p (SetO X.w p (fun j => decide (j ∈ ns)) c))
theorem cr_setI (hc : X.calm = true) : CallR X (.type "set") (rSetI X) := by
  intro pins s σ H vs us Q I r ⟨a, ns, e, hq, hn, q⟩
  subst e
  rw [Vals.ref1 r]
  have fin : ∀ (h' : Heap) (tk c : Nat), SetR X.w h' s.heap.objs.size (fun j => decide (j ∈ ns)) c → c ≤ ns.length → (∀ b o, s.heap.get? b = some o → h'.get? b = some o) →
      EP X pins σ Q (.ref s.heap.objs.size) { s with heap := h', toks := tk } := by
    intro h' tk c R1 hcn k
    have hp : H s.heap.objs.size = none := I.hok.fresh (Nat.le_refl _)
    exact ⟨.ref _, upd H s.heap.objs.size (SetO X.w s.heap.objs.size (fun j => decide (j ∈ ns)) c), I.laid (t' := tk) k (Nat.le_refl _) (setO_new R1), rfl, q _ _ hp hcn⟩
  rcases hq with hq | hq
  · obtain ⟨its, rv, pt, hz⟩ := I.tuple hq
    exact call_set_tupI ns (I.ok.hd hc) pt (ints_of_vals rv) (by unfold scanBound; omega) fin
  · obtain ⟨its, rv, pt, hz⟩ := I.list hq
    exact setL_call ns (I.ok.hd hc) pt.isList (ints_of_vals rv) (by unfold scanBound; omega) fin
theorem pe_setI {t : TE} (hc : X.calm = true) (hg : Gl X "set") (hm : X.mg "set" = none) (ha : PE X a t)
    (he : starEach [a] X.env = (false, eval a X.env) :: starEach [] X.env := by rfl) (hpl : (backTo pos (starEach [] X.env)).any (·.1) = false := by rfl) :
    PE X (.Call (.Name "set" p) [a] [] pos) (tCB (rSetI X) (tCons t tNil)) := pe_callTy (cr_setI hc) hg hm (by decide +kernel) (pa_cons ha pa_nil he) (by decide) (by decide) he hpl
/-- what both begin with -/
theorem set_in {α : Type} (hK : X.K = F.G.K) {H1 : Hp} {v : V} {x : Val} {Z : List Int → Option α} {z : α} (e : (match x with
    | .d (.list ds) => (intsOf ds).bind fun ns => if ns.length < 64 then Z ns else none
    | .d (.tuple ds) => (intsOf ds).bind fun ns => if ns.length < 64 then Z ns else none
    | _ => none) = some z) (rv : RV F .mo h A H1 x v) : ∃ a ns, v = V.ref a ∧ (SqT X.K H1 a (ns.map V.int) ∨ SqL X.K H1 a (ns.map V.int)) ∧ ns.length < 64 ∧ Z ns = some z := by
  rw [hK]
  split at e
  · next ds =>
    cases q : intsOf ds with
    | none => rw [q] at e; cases e
    | some ns =>
      rw [q, Option.bind_some] at e
      split at e
      · next hn =>
        obtain ⟨a, us, rfl, t, r⟩ := rl rv
        rw [intsOf_map q] at r
        rw [rep_ints r] at t
        exact ⟨a, ns, rfl, .inr t, hn, e⟩
      · cases e
  · next ds =>
    cases q : intsOf ds with
    | none => rw [q] at e; cases e
    | some ns =>
      rw [q, Option.bind_some] at e
      split at e
      · next hn =>
        obtain ⟨a, us, rfl, t, r⟩ := rt rv
        rw [intsOf_map q] at r
        rw [rep_ints r] at t
        exact ⟨a, ns, rfl, .inl t, hn, e⟩
      · cases e
  · cases e
theorem sf_sset (hK : X.K = F.G.K) (hc : X.calm = true) (hm : X.mg "sorted" = none) (hm2 : X.mg "set" = none) (ha : SimQ X F .mo a qa) (hg : Gl X "sorted" := by rfl) (hg2 : Gl X "set" := by rfl)
    (he : starEach [a] X.env = (false, eval a X.env) :: starEach [] X.env := by rfl) (hpl : (backTo pos2 (starEach [] X.env)).any (·.1) = false := by rfl)
    (he2 : starEach [.Call (.Name "set" p2) [a] [] pos2] X.env = (false, eval (.Call (.Name "set" p2) [a] [] pos2) X.env) :: starEach [] X.env := by rfl) (hpl2 : (backTo pos (starEach [] X.env)).any (·.1) = false := by rfl) :
    SimF X F (.Call (.Name "sorted" p) [.Call (.Name "set" p2) [a] [] pos2] [] pos) (f1 gSetS qa) := by
  refine PEimp (pe_callB (cr_sortedSet hc) hg hm (by decide +kernel) (pa_cons (pe_setI hc hg2 hm2 ha he hpl) pa_nil he2) (by decide) (by decide) he2 hpl2) fun σ H Q ⟨env, h, A, z, R, e, k⟩ => ?_
  obtain ⟨x, ex, e⟩ := bind_some e
  refine ⟨env, h, A, x, R, ex, fun v H1 e1 rv => ?_⟩
  obtain ⟨a, ns, rfl, hq, hn, ez⟩ := set_in hK e rv
  cases ez
  refine ⟨a, ns, rfl, hq, hn, fun p c hp hcn => ⟨p, _, c, rfl, upd_same, by omega, fun ms p' asc hmem _ hp' => ?_⟩⟩
  have em : ms = sortU ns := asc_uniq asc (asc_sortU ns) fun k => by rw [hmem, decide_eq_true_iff, mem_sortU]
  subst em
  have hpp : p' ≠ p := fun z => by rw [z, upd_same] at hp'; cases hp'
  have hp1 : H1 p' = none := by
    rw [upd_ne hpp] at hp'
    exact hp'
  exact k _ _ _ (fresh_back e1 hp1) (e1.trans ((Ex.new hp).trans (Ex.new hp'))) upd_same (RepAll.ints _)
end
end Sm

set_option Elab.async false
set_option linter.all false
set_option maxRecDepth 100000
set_option maxHeartbeats 4000000
namespace Sm
open PySem L2 Evl PyProof.Rows

/-! ### enumerate(t) of a tuple -/
theorem enum1_new {v : Value} {o : Obj} {Z : Heap → Prop} (B : Begins v o Z) :
    Meets (Builtin.«enumerate.__new__» ⟨[.type "enumerate", v], []⟩) (fun _ R s => Z s.heap ∧ R (.ok (.ret (.ref (s.heap.push o).objs.size)))
      { s with heap := (s.heap.push o).push { cls := .type "enumerate", data := .fields #[.none, .bool false, .ref s.heap.objs.size, rawInt 0, .none, .none] } }) :=
  .of_wp fun prog w A R s ⟨z, r⟩ => by
    obtain ⟨hp, g, d, tk, os⟩ := s
    have hsub := sub_enumerate
    have go : ∀ {A' : Around} {E : Value → Shared → Prop} {Q : Value → Shared → Prop}, Q (.ref hp.objs.size) ⟨hp.push o, g, d, tk, os⟩ → wpAny (model prog w) A' (pyIter v) Q E ⟨hp, g, d, tk, os⟩ :=
      fun q => B.iter prog w _ _ ⟨hp, g, d, tk, os⟩ _ z q
    wp_walk using go
    refine wpAny_stack_any fun st => wpAny_pure ?_
    split
    · rename_i c _ _ _ _ _
      cases (c == Value.type "enumerate")
      · wp_walk using go
        exact ⟨_, rfl, r⟩
      · wp_walk using go
        exact ⟨_, rfl, r⟩
    · wp_walk using go
      exact ⟨_, rfl, r⟩
section
variable {prog : Program} {w : World} {A : Around} {E : Value → Shared → Prop} {s : Shared}
theorem enum1_call {v : Value} {o : Obj} {Z : Heap → Prop} {Q : Value → Shared → Prop} (B : Begins v o Z) (z : Z s.heap)
    (h : ∀ h', IsEnum h' (s.heap.objs.size + 1) s.heap.objs.size 0 .none → h'.get? s.heap.objs.size = some o → (∀ b u, s.heap.get? b = some u → h'.get? b = some u) → Q (.ref (s.heap.objs.size + 1)) { s with heap := h' }) :
    wpAny (model prog w) A (call (.type "enumerate") [v]) Q E s := by
  refine callType_new F.called_enumerate (by decide) (F.typeCall_enumerate_1 _) (F.newCall_enumerate_1 _) (fun obj => F.args_object_init_2 obj _) F.entry_enumerate_new (enum1_new B) ⟨z, ?_⟩
  have n1 : (s.heap.push o).objs.size = s.heap.objs.size + 1 := Heap.size_push ..
  show _ ∧ _
  rw [n1]
  have new : IsEnum ((s.heap.push o).push { cls := .type "enumerate", data := .fields #[.none, .bool false, .ref s.heap.objs.size, rawInt 0, .none, .none] }) (s.heap.objs.size + 1) s.heap.objs.size 0 .none := by
    have q := Heap.get?_push_size (s.heap.push o) (o := { cls := .type "enumerate", data := .fields #[.none, .bool false, .ref s.heap.objs.size, rawInt 0, .none, .none] }) rfl
    rwa [n1] at q
  exact ⟨⟨_, new, rfl⟩, h _ new (Heap.get?_push_of_some _ (Heap.get?_push_size _ B.free)) fun b u x => Heap.get?_push_of_some _ (Heap.get?_push_of_some _ x)⟩
end
/-- the tuple at a, each item in a new pair -/
def Iet (K : PySem.W.Frag) (a : Addr) : It :=
  ⟨fun i H => ∃ xs x, SqT K H a xs ∧ xs[i]? = some x, fun i H v H' => ∃ T x, v = .ref T ∧ H T = none ∧ H' = upd H T (.tup [.int (i : Nat), x]) ∧ ∀ xs, SqT K H a xs → xs[i]? = some x, fun i H => ∃ xs, SqT K H a xs ∧ xs.length ≤ i⟩
theorem turn_enumT {P : Program} {w : World} {K : PySem.W.Frag} {elts : List Expr} {kk : Nat} {tpos : Pos} (a e it : Addr) :
    Turn P w K (.Tuple elts kk tpos) (Iet K a) [e, it] e (fun i h => (∃ old, IsEnum h e it ((i : Nat) : Int) old) ∧ h.IsTupleIter it a i ∧ e ≠ it ∧ a ≠ it ∧ e ≠ a) where
  mem := by simp
  obj := fun i h st b hb => by
    obtain ⟨⟨old, he⟩, ⟨o, ho, hc, hd⟩, _⟩ := st
    rcases List.mem_cons.mp hb with z | z
    · rw [z]; exact ⟨_, he, fun v q => by cases q⟩
    · exact ⟨o, List.mem_singleton.mp z ▸ ho, fun v q => by rw [hd] at q; cases q⟩
  keep := fun i h h' st k => let ⟨⟨old, he⟩, hi, r⟩ := st; ⟨⟨old, k e (by simp) _ he⟩, hi.at fun o q => k it (by simp) o q, r⟩
  item := by
    intro X hP hw hK hc i pins s σ H E I hf ⟨⟨old, he⟩, hit, hne, hai, hea⟩ ⟨xs, x, hq, hx⟩
    subst hP hw hK
    obtain ⟨its, rv, p, hz⟩ := I.tuple hq
    obtain ⟨u, hu, ru⟩ := rv.get hx
    have hel : e < s.heap.objs.size := Heap.lt_size he
    have hil : it < s.heap.objs.size := by obtain ⟨_, q, _⟩ := hit; exact Heap.lt_size q
    have hlt : i < its.toArray.size := by
      rw [List.size_toArray]
      exact (List.getElem?_eq_some_iff.mp hu).1
    have hh : X.A.in1.handled = none := by
      have := I.ok.hd hc
      simpa using this
    refine wpAny_pyNext_enum_itemD (Draws.tuple hh it a hai its.toArray) he ⟨hit, p⟩ hlt hne (by simp [hne, hea]) fun y h' tk hy ho st' hT hsz k => ?_
    have hyu : y = u := by
      have q : its.toArray[i]? = some u := by simpa using hu
      rw [q] at hy
      exact (Option.some.inj hy).symm
    subst hyu
    refine ⟨_, rfl, wpAny_letOwnedTupleGo_enum (s := { s with heap := h', toks := tk + 1 }) ho fun h2 he2 sb => ?_⟩
    have hT2 : h2.get? s.heap.objs.size = some { cls := .type "tuple", data := .seq #[.int i tk, y] } := (sb.2 _ (Nat.ne_of_gt hel)).trans hT
    have new : ObjOk X.prog X.w (upd H s.heap.objs.size (.tup [.int (i : Nat), x])) h2 s.heap.objs.size (.tup [.int (i : Nat), x]) :=
      ⟨by show 2 ≤ sizeLine; decide, [.int i tk, y], .cons ⟨_, rfl⟩ (.cons ru .nil), ⟨_, hT2, rfl, _, rfl⟩⟩
    have J : Inv X pins σ (upd H s.heap.objs.size (.tup [.int (i : Nat), x])) { s with heap := h2, toks := tk + 1 } :=
      I.turnedNew (ch := [e, it]) (fun b ob hb q => (sb.2 b (fun z => hb (by simp [z]))).trans (k b ob (fun z => hb (by simp [z])) (fun z => hb (by simp [z])) q)) hf (Nat.le_refl _) new
    refine ⟨.ref s.heap.objs.size, _, J, rfl, ⟨_, x, rfl, I.hok.fresh (Nat.le_refl _), rfl, fun ys hy => ?_⟩, ⟨⟨y, ?_⟩, st'.1.at fun o q => (sb.2 it (Ne.symm hne)).trans q, hne, hai, hea⟩, fun b hb => ?_⟩
    · rw [I.tuple_inj hy hq]; exact hx
    · have e1 : ((i + 1 : Nat) : Int) = (i : Int) + 1 := by omega
      rw [e1]; exact he2
    · have hb' : b < s.heap.objs.size := by
        rcases List.mem_cons.mp hb with z | z
        · rw [z]; exact hel
        · rw [List.mem_singleton.mp z]; exact hil
      rw [upd_ne (Nat.ne_of_lt hb')]
      exact (hf b hb).1
  done := by
    intro X hP hw hK hc i pins s σ H E I hf ⟨⟨old, he⟩, hit, hne, hai, hea⟩ ⟨xs, hq, hx⟩
    subst hP hw hK
    obtain ⟨its, rv, p, hz⟩ := I.tuple hq
    obtain ⟨f0, f1, f2, f3, f4, f5⟩ := hf it (by simp)
    have hl := rv.length
    have hh : X.A.in1.handled = none := by
      have := I.ok.hd hc
      simpa using this
    have D : Draws X.prog X.w X.A.in1 it [it, a] i (fun _ _ => True) (fun j h => j = i ∧ h.IsTupleIter it a j ∧ h.IsTuple a its.toArray) :=
      ⟨fun _ _ st => let ⟨_, ⟨o, ho, _⟩, _⟩ := st; ⟨o, ho⟩, fun _ _ _ st k => ⟨st.1, st.2.1.at fun o e => k it (by simp) o e, st.2.2.at fun o e => k a (by simp) o e⟩,
        fun j s Q E hj st hQ => absurd st.1 (Nat.ne_of_lt hj), fun s Q E st hE => wpAny_nextOf_tuple_end hh st.2.1 st.2.2 (by simp; omega) hE⟩
    exact wpAny_pyNext_enum_endD D he ⟨rfl, hit, p⟩ fun h' eb => ⟨rfl, I.turned (t' := s.toks) (fun b o hb q => eb b o hb q) f0 f1 f3 f4 f5⟩
  self := fun A i s Q E st h => let ⟨⟨_, he⟩, _⟩ := st; wpAny_pyIter_enum he h
theorem pi_enumT {X : Cx} {e : Expr} {ta : TA} {p pos tpos : Pos} {elts : List Expr} {kk : Nat} (hg : Gl X "enumerate") (hm : X.mg "enumerate" = none) (ha : PA X [e] ta) (hs : starEach [e] X.env = [(false, eval e X.env)] := by rfl) :
    PI X (.Tuple elts kk tpos) (.Call (.Name "enumerate" p) [e] [] pos) (fun σ H R => ta σ H fun vs H1 => ∃ a xs, vs = [.ref a] ∧ SqT X.K H1 a xs ∧ R (Iet X.K a) H1) := by
  refine ⟨fun pins s σ H R I h => ?_⟩
  refine Call_ (ld_blt I hg hm boot_enumerate (PyProof.Rows.callWith_type1 (thn (ha.run pos pins s σ H _ I h) fun us s1 ⟨vs, H1, I1, r1, a, xs, ex, hq, q⟩ => ?_) hs rfl))
  subst ex
  rw [Vals.ref1 r1]
  obtain ⟨its, rv, pt, hz⟩ := I1.tuple hq
  refine enum1_call (begins_tuple a its.toArray) pt fun h' he hi hk => wpAny_pyIter_enum he ?_
  have J : Inv X pins σ H1 { s1 with heap := h' } := I1.kept (t' := s1.toks) hk
  have hal : a < s1.heap.objs.size := by obtain ⟨o, ho, _⟩ := pt; exact Heap.lt_size ho
  refine ⟨s1.heap.objs.size + 1, [s1.heap.objs.size + 1, s1.heap.objs.size], _, _, H1, rfl, J, turn_enumT a (s1.heap.objs.size + 1) s1.heap.objs.size, ⟨⟨.none, he⟩, ⟨_, hi, rfl, rfl⟩, Nat.succ_ne_self _, Nat.ne_of_lt hal, Nat.ne_of_gt (Nat.lt_succ_of_lt hal)⟩, fun b hb => ?_, q⟩
  have hle : s1.heap.objs.size ≤ b := by
    rcases List.mem_cons.mp hb with z | z
    · rw [z]; exact Nat.le_succ _
    · rw [List.mem_singleton.mp z]; exact Nat.le_refl _
  exact I1.fpOk hle (I1.hok.fresh hle)
/-- numbered -/
def numD (xs : List PyData) : List PyData := xs.zipIdx.map fun p => .tuple [.int (p.2 : Nat), p.1]
theorem numD_get {xs : List PyData} {i : Nat} {d : PyData} (h : (numD xs)[i]? = some d) : ∃ x, xs[i]? = some x ∧ d = .tuple [.int (i : Nat), x] := by
  unfold numD at h
  rw [List.getElem?_map] at h
  obtain ⟨p, hp, rfl⟩ := Option.map_eq_some_iff.mp h
  rw [List.getElem?_zipIdx] at hp
  obtain ⟨x, hx, rfl⟩ := Option.map_eq_some_iff.mp hp
  exact ⟨x, hx, by simp⟩
theorem numD_len (xs : List PyData) : (numD xs).length = xs.length := by simp [numD]
def iEnu (a : Q1) : I1 := fun env h => (a env h).bind fun x => (seqOf x).bind fun xs => if nlAll xs = true then some (numD xs) else none
section
variable {F : Fm} {X : Cx} {tg a b c e : Expr} {elts : List Expr} {kk : Nat} {pos p tpos : Pos} {ℓ : Lv} {qa qb qc : Q1} {env : En} {h : Hs} {A : As} {σ : L2.St} {H : Hp}
theorem ylds_enumL {Ok : Hp → Prop} {a : Addr} {us : List V} {xs : List PyData} (hl : us.length = xs.length) (hq : ∀ Hc, Ok Hc → SqL F.G.K Hc a us ∧ RDs F ℓ Hc xs us) : Ylds F Ok ℓ (Ite F.G.K a) (numD xs) where
  go := fun Hc i o hi => ⟨us, us[i]'(by rw [numD_len] at hi; omega), (hq Hc o).1, List.getElem?_eq_getElem _⟩
  yl := fun Hc i x Hn d o hd hy => by
    obtain ⟨T, y, rfl, hT, rfl, hy⟩ := hy
    obtain ⟨z, hz, rfl⟩ := numD_get hd
    obtain ⟨q, r⟩ := hq Hc o
    obtain ⟨v, h1, h2⟩ := r.get hz
    rw [hy us q] at h1
    cases h1
    exact ⟨Ex.new hT, ⟨T, [.int (i : Nat), y], rfl, .inl (.inl upd_same), .cons mk_int (.cons (RD.ex (Ex.new hT) h2) .nil)⟩⟩
  st := fun Hc i o hi => ⟨us, (hq Hc o).1, by rw [numD_len] at hi; omega⟩
theorem ylds_enumT {Ok : Hp → Prop} {a : Addr} {us : List V} {xs : List PyData} (hl : us.length = xs.length) (hq : ∀ Hc, Ok Hc → SqT F.G.K Hc a us ∧ RDs F ℓ Hc xs us) : Ylds F Ok ℓ (Iet F.G.K a) (numD xs) where
  go := fun Hc i o hi => ⟨us, us[i]'(by rw [numD_len] at hi; omega), (hq Hc o).1, List.getElem?_eq_getElem _⟩
  yl := fun Hc i x Hn d o hd hy => by
    obtain ⟨T, y, rfl, hT, rfl, hy⟩ := hy
    obtain ⟨z, hz, rfl⟩ := numD_get hd
    obtain ⟨q, r⟩ := hq Hc o
    obtain ⟨v, h1, h2⟩ := r.get hz
    rw [hy us q] at h1
    cases h1
    exact ⟨Ex.new hT, ⟨T, [.int (i : Nat), y], rfl, .inl (.inl upd_same), .cons mk_int (.cons (RD.ex (Ex.new hT) h2) .nil)⟩⟩
  st := fun Hc i o hi => ⟨us, (hq Hc o).1, by rw [numD_len] at hi; omega⟩
theorem si_enum (hK : X.K = F.G.K) (hm : X.mg "enumerate" = none) (ha : SimQ X F .mo a qa) (hg : Gl X "enumerate" := by rfl) (hs : starEach [a] X.env = [(false, eval a X.env)] := by rfl) :
    SimI X F OkP ℓ (.Tuple elts kk tpos) (.Call (.Name "enumerate" p) [a] [] pos) (iEnu qa) :=
  PIimp (PIor (pi_enum hg hm (pa_cons ha pa_nil hs) hs) (pi_enumT hg hm (pa_cons ha pa_nil hs) hs)) fun σ H Q ⟨env, h, A, z, R, e, k⟩ => by
    obtain ⟨x, ex, e⟩ := bind_some e
    obtain ⟨xs, ey, e⟩ := bind_some e
    rw [hK]
    split at e
    · next hn =>
      cases e
      unfold seqOf at ey
      split at ey
      · cases ey
        refine .inl ⟨env, h, A, _, R, ex, fun v H1 e1 rv => ?_⟩
        obtain ⟨a, us, rfl, q, r⟩ := rl rv
        exact ⟨a, us, rfl, q, k _ H1 e1 (ylds_enumL r.len fun Hc o => ⟨ex_l o q, RDs.ex o (RepAll.nl (L' := LPof F H1 ℓ) _ _ hn r)⟩)⟩
      · cases ey
        refine .inr ⟨env, h, A, _, R, ex, fun v H1 e1 rv => ?_⟩
        obtain ⟨a, us, rfl, q, r⟩ := rt rv
        exact ⟨a, us, rfl, q, k _ H1 e1 (ylds_enumT r.len fun Hc o => ⟨ex_t o q, RDs.ex o (RepAll.nl (L' := LPof F H1 ℓ) _ _ hn r)⟩)⟩
      · cases ey
    · cases e
end
end Sm

set_option Elab.async false
set_option linter.all false
set_option maxRecDepth 100000
set_option maxHeartbeats 4000000
namespace Sm
open PySem L2 Evl
section
variable {F : Fm} {X : Cx} {st : Stmt} {sts rest : List Stmt} {a b c e : Expr} {pos p p2 : Pos} {m n : M1} {ℓ : Lv} {q qa qb : Q1} {f : I1} {t : T1}
/-- an own list (where the slot holds one) is a value from here on -/
def mHold (i : Nat) (m : M1) : M1 := fun env h => match env[i]? with
  | some (.l xs) => m (env.set i (.v (.d (.list xs)))) h
  | _ => m env h
theorem sb_hold (i : Nat) (h1 : SimB X F sts m) : SimB X F sts (mHold i m) := ⟨fun pins s σ H D I ⟨env, h, A, r, env', h', R, e, k⟩ => by
  by_cases c : ∃ xs, env[i]? = some (.l xs)
  · obtain ⟨xs, hx⟩ := c
    refine (sb_lock i h1).run pins s σ H D I ⟨env, h, A, r, env', h', R, ?_, k⟩
    unfold mHold at e
    unfold mLock
    rw [hx] at e ⊢
    exact e
  · refine h1.run pins s σ H D I ⟨env, h, A, r, env', h', R, ?_, k⟩
    unfold mHold at e
    split at e
    · next xs hx => exact absurd ⟨xs, hx⟩ c
    · exact e⟩
/-- tuple(range(n)) -/
def gTupR : Hs → Val → Option Val := fun _ x => match x with
  | .d (.int n) => if (decide (-(2 ^ 62) ≤ n) && decide (n ≤ 2 ^ 24)) = true then some (.d (.tuple ((List.range n.toNat).map fun k : Nat => PyData.int (k : Int)))) else none
  | _ => none
theorem rep_rng {T L : LP} (lo : Int) (n : Nat) : RepAll T L ((List.range n).map fun k : Nat => PyData.int (lo + (k : Int))) ((List.range n).map fun k : Nat => V.int (lo + (k : Int))) := by
  have := RepAll.ints (T := T) (L := L) ((List.range n).map fun k : Nat => lo + (k : Int))
  simpa [List.map_map, Function.comp_def] using this
theorem sq_tuprng (hc : X.calm = true) (hm : X.mg "tuple" = none) (hm2 : X.mg "range" = none) {ℓ₁ : Lv} (ha : SimQ X F ℓ₁ a qa) (hg : Gl X "tuple" := by rfl) (hg2 : Gl X "range" := by rfl)
    (hs : starEach [a] X.env = (false, eval a X.env) :: starEach [] X.env := by rfl) (na : starEach [.Call (.Name "range" p2) [a] [] pos] X.env = (false, eval (.Call (.Name "range" p2) [a] [] pos) X.env) :: starEach [] X.env := by rfl) {pos2 : Pos} :
    SimQ X F ℓ (.Call (.Name "tuple" p) [.Call (.Name "range" p2) [a] [] pos] [] pos2) (q1 gTupR qa) := by
  refine PEimp (pe_tupRg hc hg hm (prg_1 hg2 hm2 ha hs) na) fun σ H Q ⟨env, h, A, z, R, e, k⟩ => ?_
  obtain ⟨x, ex, e⟩ := bind_some e
  refine ⟨env, h, A, x, R, ex, fun v H1 e1 rv => ?_⟩
  unfold gTupR at e
  split at e
  · next n =>
    split at e
    · next hn =>
      cases e
      cases ri rv
      simp only [Bool.and_eq_true, decide_eq_true_eq] at hn
      refine ⟨n, rfl, ⟨by decide, by decide, by omega, by omega, by omega⟩, fun q hq => k _ _ (e1.trans (Ex.new hq)) ?_⟩
      refine vt (.inl (.inl upd_same)) ?_
      have := rep_rng (T := SqT F.G.K (upd H1 q (.tup (rgV 0 n)))) (L := LPof F (upd H1 q (.tup (rgV 0 n))) ℓ) 0 n.toNat
      simpa [rgV] using this
    · cases e
  · cases e
end
theorem Fun.ofD {K : PySem.W.Frag} {x qual : Str} {st : Stmt} {f : Addr} {fd : FuncData} (h : FunD K x qual (defArgs st) (defBody st) (defScope st) [] [] f fd) : Fun K x qual st f fd := by
  obtain ⟨⟨oc, od, dV, kV, doc, pm, an, cdv, ct, osl, e, l, c, D, _⟩, kp⟩ := h
  rcases D with ⟨_, rfl⟩ | ⟨q, _⟩
  · exact ⟨⟨oc, od, kV, doc, pm, an, cdv, ct, osl, e, l, c⟩, kp⟩
  · exact absurd rfl q
theorem hu4 {k : Nat} {A : Around} (hr : Room k A) : A.units + 64 < cLine := by
  have := hr.un
  omega
theorem hu65 {k : Nat} {A : Around} (hr : Room k A) : A.units + 65 < cLine := by
  have := hr.un
  omega
end Sm

set_option Elab.async false
set_option linter.all false
set_option maxRecDepth 100000
set_option maxHeartbeats 4000000
namespace Sm
open PySem L2 Evl
/-- the law's own call, at the beginning -/
theorem enter {G : Glo} {r : List Val → Hs → Option (Val × Hs)} {ns : List Int} {h' : Hs} (e : r [.d (.list (ns.map PyData.int))] [] = some (.d (.bool true), h')) {H : Hp} {a : Addr} (hS : SqL G.K H a (ns.map V.int)) (E : XK) :
    spE G 1 r [V.ref a] H (fun v _ => v = .bl true) E := by
  have R : SR ⟨G, true, [], fun _ => 0, H⟩ [] [] (fun _ => 0) [] H := by
    have no : ∀ p, ¬ hlive [] p := fun p => by
      cases p with
      | s i => exact fun z => z
      | o n => exact fun z => Nat.not_lt_zero _ z
      | f n j => exact fun ⟨_, _, _, z, _⟩ => by simp at z
    have no2 : ∀ p, ¬ live [] [] p := fun p => by
      cases p with
      | s i => exact fun ⟨_, z, _⟩ => by simp at z
      | o n => exact no (.o n)
      | f n j => exact no (.f n j)
    exact ⟨fun _ _ e _ => e, fun _ _ e => e, fun _ _ _ e => e, fun _ o e => ⟨o, e⟩, fun _ => Nat.le_refl _, fun _ m z => absurd z (Nat.not_lt_zero _), fun _ p z => absurd z (no p), fun i z => absurd z (no2 _), rfl,
      fun i s e => by simp at e, fun n o e => by simp at e, fun p q z => absurd z (no2 p)⟩
  refine ⟨⟨G, true, [], fun _ => 0, H⟩, [], [], fun _ => 0, [], [.d (.list (ns.map PyData.int))], .d (.bool true), h', rfl, rfl, R, .cons ?_ .nil, rfl, e, fun v H' A' _ _ rv => rb rv⟩
  show Rep _ _ (.list (ns.map PyData.int)) _
  simp only [Rep]
  refine ⟨a, ns.map V.int, rfl, ?_, RepAll.ints ns⟩
  rcases hS with z | z
  · exact .inl ⟨z, fun ⟨_, p, q, _⟩ => by
      cases p with
      | s i => exact q
      | o n => exact Nat.not_lt_zero _ q
      | f n j => obtain ⟨_, _, _, z, _⟩ := q; simp at z⟩
  · exact .inr (.inr z)
end Sm

set_option Elab.async false
set_option linter.all false
set_option maxRecDepth 100000
set_option maxHeartbeats 4000000
/-! what is unfolded when a semantics is read -/
namespace Sm
open PySem L2 Evl
theorem nlAll_ints (ns : List Int) : nlAll (ns.map PyData.int) = true := by
  induction ns with
  | nil => rfl
  | cons n ns ih => simp [nlAll, nl, ih]
theorem nlAll_app {xs ys : List PyData} : nlAll (xs ++ ys) = (nlAll xs && nlAll ys) := by
  induction xs with
  | nil => simp [nlAll]
  | cons x xs ih => simp [nlAll, ih, Bool.and_assoc]
@[simp] theorem atI0 {α : Type} (x : α) (xs : List α) : atI (x :: xs) 0 = some x := by simp [atI, ixN]
@[simp] theorem atI1 {α : Type} (x y : α) (xs : List α) : atI (x :: y :: xs) 1 = some y := by
  have : (1 : Int) < (xs.length : Int) + 1 + 1 := by omega
  simp [atI, ixN, this]
@[simp] theorem atI2 {α : Type} (x y z : α) (xs : List α) : atI (x :: y :: z :: xs) 2 = some z := by
  have : (2 : Int) < (xs.length : Int) + 1 + 1 + 1 := by omega
  simp [atI, ixN, this]
@[simp] theorem atI3 {α : Type} (x y z u : α) (xs : List α) : atI (x :: y :: z :: u :: xs) 3 = some u := by
  have : (3 : Int) < (xs.length : Int) + 1 + 1 + 1 + 1 := by omega
  simp [atI, ixN, this]
theorem atI_map {α β : Type} {f : α → β} {xs : List α} {i : Int} {x : α} (e : atI xs i = some x) : atI (xs.map f) i = some (f x) := by
  unfold atI at e ⊢
  rw [List.length_map]
  cases hj : ixN xs.length i with
  | none => rw [hj] at e; cases e
  | some j =>
    rw [hj] at e
    have e : xs[j]? = some x := e
    show (xs.map f)[j]? = _
    rw [List.getElem?_map, e]
    rfl
theorem atN {α : Type} {xs : List α} {k : Nat} {x : α} (e : xs[k]? = some x) : atI xs (k : Int) = some x := by
  have hk := (List.getElem?_eq_some_iff.mp e).1
  have : (xs[k]'hk) = x := by
    rw [List.getElem?_eq_getElem hk] at e
    exact Option.some.inj e
  unfold atI ixN
  simp [hk, this]
theorem atI_last {α : Type} {xs : List α} {x : α} : atI (xs ++ [x]) (-1) = some x := by
  have h1 : (1 : Int) ≤ (xs.length : Int) + 1 := by omega
  have h2 : (-1 + ((xs.length : Int) + 1)).toNat = xs.length := by omega
  unfold atI ixN
  simp [h1, h2]
theorem take_min {α : Type} (n : Nat) (xs : List α) : xs.take (min n xs.length) = xs.take n := by
  by_cases h : n ≤ xs.length
  · rw [Nat.min_eq_left h]
  · rw [Nat.min_eq_right (by omega), List.take_of_length_le (Nat.le_refl _), List.take_of_length_le (by omega)]
/-- a comprehension that takes each item -/
theorem lcGo_map {α : Type} {step : PyData → Option (Option PyData)} {f : α → PyData} {g : α → PyData} : ∀ {xs : List α}, (∀ x ∈ xs, step (f x) = some (some (g x))) → lcGo step (xs.map f) = some (xs.map g)
  | [], _ => rfl
  | x :: xs, h => by
    rw [List.map_cons, lcGo, h x (by simp), lcGo_map fun y hy => h y (by simp [hy])]
    rfl
/-- and one that takes some -/
theorem lcGo_filter {α : Type} {step : PyData → Option (Option PyData)} {f : α → PyData} {p : α → Bool} {g : α → PyData} : ∀ {xs : List α}, (∀ x ∈ xs, step (f x) = some (if p x = true then some (g x) else none)) → lcGo step (xs.map f) = some ((xs.filter p).map g)
  | [], _ => rfl
  | x :: xs, h => by
    rw [List.map_cons, lcGo, h x (by simp), lcGo_filter fun y hy => h y (by simp [hy])]
    cases hp : p x <;> simp [hp]
theorem bools_map {α : Type} (p : α → Bool) : ∀ xs : List α, boolsOf (xs.map fun x => PyData.bool (p x)) = some (xs.map p)
  | [] => rfl
  | x :: xs => by rw [List.map_cons, boolsOf, bools_map p xs]; rfl
theorem intsOf_ints (ns : List Int) : intsOf (ns.map PyData.int) = some ns := intsOf_of ns
section
variable {it : I1} {vs : List Nat} {bn : B1} {tt : T1} {te : Q1} {env env1 env2 : En} {h h1 h2 : Hs} {a b m : M1} {q : Q1} {t : T1} {ℓ : Lv} {x : Val} {d : PyData}
theorem fLc_map {α : Type} {f g : α → PyData} {xs : List α} (hi : it env h = some (xs.map f)) (hs : ∀ x ∈ xs, lcStep vs bn tt te env h (f x) = some (some (g x))) (hl : xs.length ≤ sizeLine) : fLc it vs bn tt te env h = some (xs.map g) := by
  unfold fLc
  rw [hi, Option.bind_some, lcGo_map hs, Option.bind_some, if_pos (by rw [List.length_map]; exact hl)]
theorem fLc_filter {α : Type} {f g : α → PyData} {p : α → Bool} {xs : List α} (hi : it env h = some (xs.map f)) (hs : ∀ x ∈ xs, lcStep vs bn tt te env h (f x) = some (if p x = true then some (g x) else none)) (hl : xs.length ≤ sizeLine) :
    fLc it vs bn tt te env h = some ((xs.filter p).map g) := by
  unfold fLc
  rw [hi, Option.bind_some, lcGo_filter hs, Option.bind_some, if_pos (by rw [List.length_map]; exact Nat.le_trans (List.length_filter_le _ _) hl)]
theorem all_lc {α : Type} {f : α → PyData} {p : α → Bool} {xs : List α} (hi : it env h = some (xs.map f)) (hs : ∀ x ∈ xs, lcStep vs bn tt te env h (f x) = some (some (.bool (p x)))) (hl : xs.length ≤ sizeLine) : q1 gAll (qF (fLc it vs bn tt te)) env h = some (.d (.bool (xs.all p))) := by
  unfold q1 qF
  rw [fLc_map (g := fun x => .bool (p x)) hi hs hl, Option.bind_some, Option.bind_some]
  show (boolsOf _).map _ = _
  rw [bools_map, Option.map_some, List.all_map]
  rfl
theorem any_lc {α : Type} {f : α → PyData} {p : α → Bool} {xs : List α} (hi : it env h = some (xs.map f)) (hs : ∀ x ∈ xs, lcStep vs bn tt te env h (f x) = some (some (.bool (p x)))) (hl : xs.length ≤ sizeLine) : q1 gAny (qF (fLc it vs bn tt te)) env h = some (.d (.bool (xs.any p))) := by
  unfold q1 qF
  rw [fLc_map (g := fun x => .bool (p x)) hi hs hl, Option.bind_some, Option.bind_some]
  show (boolsOf _).map _ = _
  rw [bools_map, Option.map_some, List.any_map]
  rfl
theorem run_q {k : Nat} {args : List Val} (e : m (startE k args) h = some (.rt ℓ (.d d), env1, h1)) : runQ k m args h = some (.d d) := by
  unfold runQ
  rw [e]
  rfl
theorem run_ret {k : Nat} {args : List Val} (e : q (startE k args) h = some (.d d)) : runQ k (mRet ℓ q) args h = some (.d d) := run_q (ℓ := ℓ) (env1 := startE k args) (h1 := h) (by unfold mRet; rw [e]; rfl)
theorem run_e {k : Nat} {args : List Val} (e : m (startE k args) h = some (.rt ℓ (.d d), env1, h1)) (hn : nl d = true) : runE k m args h = some (.d d, h1) := by
  unfold runE
  rw [e, Option.bind_some]
  cases ℓ
  · show (if nl d = true then _ else _) = _
    rw [if_pos hn]
  · show (if nl d = true then _ else _) = _
    rw [if_pos hn]
  · rfl
theorem seq_nx (e : a env h = some (.nx, env1, h1)) : mSeq a b env h = b env1 h1 := by
  unfold mSeq
  rw [e]
  rfl
theorem seq_to {r : Option (Flo × En × Hs)} (e : a env h = some (.nx, env1, h1)) (e2 : b env1 h1 = r) : mSeq a b env h = r := (seq_nx e).trans e2
theorem seq_rt (e : a env h = some (.rt ℓ x, env1, h1)) : mSeq a b env h = some (.rt ℓ x, env1, h1) := by
  unfold mSeq
  rw [e]
  rfl
theorem if_t {r : Option (Flo × En × Hs)} (e : t env h = some true) (e2 : a env h = r) : mIf t a b env h = r := by
  unfold mIf
  rw [e]
  exact e2
theorem if_f {r : Option (Flo × En × Hs)} (e : t env h = some false) (e2 : b env h = r) : mIf t a b env h = r := by
  unfold mIf
  rw [e]
  exact e2
theorem ife_t {t : ET} {r : Option (Flo × En × Hs)} (e : t env h = some (true, h1)) (e2 : a env h1 = r) : mIfE t a b env h = r := by
  unfold mIfE
  rw [e]
  exact e2
theorem ife_f {t : ET} {r : Option (Flo × En × Hs)} (e : t env h = some (false, h1)) (e2 : b env h1 = r) : mIfE t a b env h = r := by
  unfold mIfE
  rw [e]
  exact e2
theorem ret_q (e : q env h = some x) : mRet ℓ q env h = some (.rt ℓ x, env, h) := by
  unfold mRet
  rw [e]
  rfl
/-- a loop by what stands at each turn (I) and what is wanted behind (Po) -/
theorem for_post {body : PyData → M1} (I : Nat → En → Hs → Prop) (Po : Flo → En → Hs → Prop) : ∀ (xs : List PyData) (i : Nat) (env : En) (h : Hs), I i env h →
    (∀ j x env h, xs[j]? = some x → I (i + j) env h → ∃ r env1 h1, body x env h = some (r, env1, h1) ∧ ((r = .nx ∨ r = .ct) ∧ I (i + j + 1) (wipeE env1 vs) h1 ∨ (r ≠ .nx ∧ r ≠ .ct ∧ r ≠ .bk) ∧ Po r env1 h1)) →
    (∀ env h, I (i + xs.length) env h → Po .nx env h) → ∃ r env' h', forGo vs body xs env h = some (r, env', h') ∧ Po r env' h'
  | [], i, env, h, hI, _, hE => ⟨.nx, env, h, rfl, hE env h hI⟩
  | x :: xs, i, env, h, hI, hS, hE => by
    obtain ⟨r, env1, h1, e, c⟩ := hS 0 x env h rfl hI
    rcases c with ⟨c, hI1⟩ | ⟨⟨n1, n2, n3⟩, p⟩
    · obtain ⟨r', env', h', e', p'⟩ := for_post (body := body) I Po xs (i + 1) _ h1 hI1 (fun j x env h hj hI => by
        have := hS (j + 1) x env h (by simpa using hj) (by rw [show i + (j + 1) = i + 1 + j by omega]; exact hI)
        rw [show i + (j + 1) = i + 1 + j by omega] at this
        exact this) (fun env h z => hE env h (by rw [List.length_cons, show i + (xs.length + 1) = i + 1 + xs.length by omega]; exact z))
      refine ⟨r', env', h', ?_, p'⟩
      unfold forGo
      rw [e, Option.bind_some]
      rcases c with rfl | rfl <;> exact e'
    · refine ⟨r, env1, h1, ?_, p⟩
      unfold forGo
      rw [e, Option.bind_some]
      cases r with
      | nx => exact absurd rfl n1
      | ct => exact absurd rfl n2
      | bk => exact absurd rfl n3
      | _ => rfl
/-- a loop that goes through -/
theorem for_all {body : PyData → M1} (I : Nat → En → Hs → Prop) {xs : List PyData} {env : En} {h : Hs} (h0 : I 0 env h)
    (hS : ∀ j x env h, xs[j]? = some x → I j env h → ∃ r env1 h1, body x env h = some (r, env1, h1) ∧ (r = .nx ∨ r = .ct) ∧ I (j + 1) (wipeE env1 vs) h1) : ∃ env' h', forGo vs body xs env h = some (.nx, env', h') ∧ I xs.length env' h' := by
  obtain ⟨r, env', h', e, p, q⟩ := for_post (vs := vs) (body := body) I (fun r env h => r = .nx ∧ I xs.length env h) xs 0 env h h0 (fun j x env h hj hI => by
    obtain ⟨r, env1, h1, e, c, z⟩ := hS j x env h hj (by simpa using hI)
    exact ⟨r, env1, h1, e, .inl ⟨c, by simpa using z⟩⟩) (fun env h z => ⟨rfl, by simpa using z⟩)
  subst p
  exact ⟨env', h', e, q⟩
end
/-! lists of ints -/
theorem depth_ints (ns : List Int) : PyData.depthAll (ns.map PyData.int) = 0 ∨ PyData.depthAll (ns.map PyData.int) = 1 := by
  induction ns with
  | nil => exact .inl rfl
  | cons n ns ih =>
    rw [List.map_cons, PyData.depthAll]
    have e : PyData.depth (.int n) = 0 ∨ PyData.depth (.int n) = 1 := by first | exact .inl rfl | exact .inr rfl
    omega
theorem canLay_ints (ns : List Int) : PyData.canLayAll0 (ns.map PyData.int) = true := by
  induction ns with
  | nil => rfl
  | cons n ns ih =>
    rw [List.map_cons, PyData.canLayAll0, ih]
    rfl
theorem shaped_ints (ns : List Int) : SeqAt.shaped (.list (ns.map PyData.int)) = true := by
  unfold SeqAt.shaped
  rw [Bool.and_eq_true, decide_eq_true_eq]
  refine ⟨canLay_ints ns, ?_⟩
  rw [PyData.depth]
  have := depth_ints ns
  omega
theorem shaped_intsT (ns : List Int) : SeqAt.shaped (.tuple (ns.map PyData.int)) = true := by
  unfold SeqAt.shaped
  rw [Bool.and_eq_true, decide_eq_true_eq]
  refine ⟨canLay_ints ns, ?_⟩
  rw [PyData.depth]
  have := depth_ints ns
  omega
theorem eqv_ints : ∀ (xs ys : List Int), PyData.eqvAll (xs.map PyData.int) (ys.map PyData.int) = decide (xs = ys)
  | [], [] => rfl
  | [], y :: ys => rfl
  | x :: xs, [] => rfl
  | x :: xs, y :: ys => by
    rw [List.map_cons, List.map_cons, PyData.eqvAll, eqv_ints xs ys]
    show ((x == y) && _) = _
    by_cases h : x = y <;> by_cases h2 : xs = ys <;> simp [h, h2]
theorem eq_ints (xs ys : List Int) (h : Hs) : gEq h (.d (.list (xs.map PyData.int))) (.d (.list (ys.map PyData.int))) = some (.d (.bool (decide (xs = ys)))) := by
  show (if (SeqAt.shaped (.list (xs.map PyData.int)) && SeqAt.shaped (.list (ys.map PyData.int))) = true then _ else _) = _
  rw [shaped_ints, shaped_ints]
  show some (Val.d (.bool (PyData.eqvAll _ _))) = _
  rw [eqv_ints]
theorem ne_ints (xs ys : List Int) (h : Hs) : gNe h (.d (.list (xs.map PyData.int))) (.d (.list (ys.map PyData.int))) = some (.d (.bool (!decide (xs = ys)))) := by
  show (if (SeqAt.shaped (.list (xs.map PyData.int)) && SeqAt.shaped (.list (ys.map PyData.int))) = true then _ else _) = _
  rw [shaped_ints, shaped_ints]
  show some (Val.d (.bool (!PyData.eqvAll _ _))) = _
  rw [eqv_ints]
theorem ne_intsT (xs ys : List Int) (h : Hs) : gNe h (.d (.tuple (xs.map PyData.int))) (.d (.tuple (ys.map PyData.int))) = some (.d (.bool (!decide (xs = ys)))) := by
  show (if (SeqAt.shaped (.tuple (xs.map PyData.int)) && SeqAt.shaped (.tuple (ys.map PyData.int))) = true then _ else _) = _
  rw [shaped_intsT, shaped_intsT]
  show some (Val.d (.bool (!PyData.eqvAll _ _))) = _
  rw [eqv_ints]
theorem sortU_id {xs : List Int} (h : xs.Pairwise (· < ·)) : sortU xs = xs := asc_uniq (asc_sortU xs) h fun _ => mem_sortU
theorem sortU_iff {xs : List Int} : xs = sortU xs ↔ xs.Pairwise (· < ·) := ⟨fun e => by rw [e]; exact asc_sortU xs, fun h => (sortU_id h).symm⟩
theorem step_of {vs : List Nat} {bn : B1} {tt : T1} {te : Q1} {env env1 : En} {h : Hs} {d y : PyData} (hb : bn d (wipeE env vs) = some env1) (ht : tt env1 h = some true) (he : te env1 h = some (.d y)) : lcStep vs bn tt te env h d = some (some y) := by
  unfold lcStep
  rw [hb, Option.bind_some, ht, Option.bind_some, if_pos rfl, he]
  rfl
/-- neighbours ascend -/
def ascB (ns : List Int) : Bool := (List.range (ns.length - 1)).all fun k => decide (ns.getD k 0 < ns.getD (k + 1) 0)
theorem ascB_iff {ns : List Int} : ascB ns = true ↔ ns.Pairwise (· < ·) := by
  unfold ascB
  rw [List.all_eq_true]
  induction ns with
  | nil => simp
  | cons x xs ih =>
    cases xs with
    | nil => simp
    | cons y ys =>
      rw [List.pairwise_cons]
      constructor
      · intro h
        have h0 : x < y := by simpa using h 0 (by simp)
        have h1 : (y :: ys).Pairwise (· < ·) := ih.mp fun k hk => by
          have := h (k + 1) (by simp at hk ⊢; omega)
          simpa using this
        refine ⟨fun z hz => ?_, h1⟩
        rcases List.mem_cons.mp hz with rfl | hz
        · exact h0
        · exact Int.lt_trans h0 ((List.pairwise_cons.mp h1).1 z hz)
      · intro ⟨h0, h1⟩ k hk
        cases k with
        | zero => simpa using h0 y (by simp)
        | succ k =>
          have := ih.mpr h1 k (by simp at hk ⊢; omega)
          simpa using this
/-! sorted -/
theorem alike_ints : ∀ xs ys : List Int, PySem.W.alikeAll (xs.map PyData.int) (ys.map PyData.int) = true
  | [], ys => by simp [PySem.W.alikeAll]
  | x :: xs, [] => by simp [PySem.W.alikeAll]
  | x :: xs, y :: ys => by simp [PySem.W.alikeAll, PySem.W.alike, alike_ints xs ys]
theorem le_tup (xs ys : List Int) : PySem.W.dataLe false id (.tuple (xs.map PyData.int)) (.tuple (ys.map PyData.int)) = decide (xs ≤ ys) := by
  show (!PySem.W.dataLt (.tuple (ys.map .int)) (.tuple (xs.map .int))) = _
  rw [PySem.W.dataLt_tuple]
  show (!PySem.W.rowLt (ys.map .int) (xs.map .int)) = _
  rw [PySem.W.dataLt_ints]
  by_cases h : ys < xs
  · have h' : ¬ xs ≤ ys := fun r => List.not_lt.mpr r h
    simp [h, h']
  · have h' : xs ≤ ys := List.not_lt.mp h
    simp [h, h']
theorem le_int (x y : Int) : PySem.W.dataLe false id (PyData.int x) (PyData.int y) = decide (x ≤ y) := by
  show (!PySem.W.dataLt (.int y) (.int x)) = _
  rw [PySem.W.dataLt_int]
  by_cases h : y < x
  · have h' : ¬ x ≤ y := by omega
    simp [h, h']
  · have h' : x ≤ y := by omega
    simp [h, h']
theorem depth_row (xs : List Int) : PyData.depth (.tuple (xs.map PyData.int)) ≤ 2 := by
  rw [PyData.depth]
  have := depth_ints xs
  omega
theorem depth_le {ds : List PyData} {n : Nat} (h : ∀ d ∈ ds, d.depth ≤ n) : PyData.depthAll ds ≤ n := by
  induction ds with
  | nil => exact Nat.zero_le _
  | cons d ds ih =>
    rw [PyData.depthAll]
    exact Nat.max_le.mpr ⟨h d (by simp), ih fun e he => h e (by simp [he])⟩
theorem sorted_rows {α : Type} (f : α → List Int) (rs : List α) (hne : ∀ r ∈ rs, f r ≠ []) (h : Hs) : gSorted h (.d (.list (rs.map fun r => PyData.tuple ((f r).map .int)))) = some ((rs.mergeSort fun a b => decide (f a ≤ f b)).map fun r => PyData.tuple ((f r).map .int)) := by
  have c1 : nlAll (rs.map fun r => PyData.tuple ((f r).map .int)) = true := nl_mem.mpr fun d hd => by
    obtain ⟨r, _, rfl⟩ := List.mem_map.mp hd
    exact nlAll_ints _
  have c2 : alikeB (rs.map fun r => PyData.tuple ((f r).map .int)) = true := by
    unfold alikeB
    rw [List.all_eq_true]
    intro d hd
    rw [List.all_eq_true]
    intro e he
    obtain ⟨r, _, rfl⟩ := List.mem_map.mp hd
    obtain ⟨s, _, rfl⟩ := List.mem_map.mp he
    exact alike_ints _ _
  have c3 : sortB (rs.map fun r => PyData.tuple ((f r).map .int)) = true := by
    unfold sortB
    rw [Bool.or_eq_true]
    refine .inl (List.all_eq_true.mpr fun d hd => ?_)
    obtain ⟨r, hr, rfl⟩ := List.mem_map.mp hd
    have := hne r hr
    cases hf : f r with
    | nil => exact absurd hf this
    | cons _ _ => rfl
  have c4 : PyData.depthAll (rs.map fun r => PyData.tuple ((f r).map .int)) ≤ 60 := depth_le fun d hd => by
    obtain ⟨r, _, rfl⟩ := List.mem_map.mp hd
    exact Nat.le_trans (depth_row _) (by decide)
  show (if (nlAll _ && alikeB _ && sortB _ && decide (PyData.depthAll _ ≤ 60)) = true then _ else _) = _
  rw [c1, c2, c3, decide_eq_true c4, if_pos (by decide), List.map_mergeSort fun a _ b _ => (le_tup (f a) (f b)).symm]
theorem sorted_ints (ns : List Int) (h : Hs) : gSorted h (.d (.list (ns.map PyData.int))) = some ((ns.mergeSort fun a b => decide (a ≤ b)).map PyData.int) := by
  have c2 : alikeB (ns.map PyData.int) = true := by
    unfold alikeB
    rw [List.all_eq_true]
    intro d hd
    rw [List.all_eq_true]
    intro e he
    obtain ⟨r, _, rfl⟩ := List.mem_map.mp hd
    obtain ⟨s, _, rfl⟩ := List.mem_map.mp he
    rfl
  have c3 : sortB (ns.map PyData.int) = true := by
    unfold sortB
    rw [Bool.or_eq_true]
    refine .inr (List.all_eq_true.mpr fun d hd => ?_)
    obtain ⟨r, hr, rfl⟩ := List.mem_map.mp hd
    rfl
  have c4 : PyData.depthAll (ns.map PyData.int) ≤ 60 := by
    have := depth_ints ns
    omega
  show (if (nlAll _ && alikeB _ && sortB _ && decide (PyData.depthAll _ ≤ 60)) = true then _ else _) = _
  rw [nlAll_ints, c2, c3, decide_eq_true c4, if_pos (by decide), List.map_mergeSort fun a _ b _ => (le_int a b).symm]
theorem msort_asc {ns : List Int} (h : ns.Nodup) : ns.mergeSort (fun a b => decide (a ≤ b)) = sortU ns := by
  have p := List.mergeSort_perm ns (fun a b => decide (a ≤ b))
  have s : (ns.mergeSort fun a b => decide (a ≤ b)).Pairwise (fun a b => decide (a ≤ b) = true) :=
    List.pairwise_mergeSort (fun a b c h1 h2 => by simp only [decide_eq_true_eq] at h1 h2 ⊢; omega) (fun a b => by simp only [Bool.or_eq_true, decide_eq_true_eq]; omega) ns
  have nd : (ns.mergeSort fun a b => decide (a ≤ b)).Nodup := p.nodup_iff.mpr h
  refine asc_uniq ?_ (asc_sortU ns) fun k => by rw [p.mem_iff, mem_sortU]
  refine (List.Pairwise.and s nd).imp fun {a b} z => ?_
  have z1 := z.1
  simp only [decide_eq_true_eq] at z1
  have z2 : a ≠ b := z.2
  omega
theorem nodup_asc {ns : List Int} (h : ns.Pairwise (· < ·)) : ns.Nodup := h.imp fun {a b} z => Int.ne_of_lt z
theorem eqI (i j : Int) (h : Hs) : gEq h (.d (.int i)) (.d (.int j)) = some (.d (.bool (decide (i = j)))) := rfl
theorem neI (i j : Int) (h : Hs) : gNe h (.d (.int i)) (.d (.int j)) = some (.d (.bool (!decide (i = j)))) := rfl
theorem eq_intsT (xs ys : List Int) (h : Hs) : gEq h (.d (.tuple (xs.map PyData.int))) (.d (.tuple (ys.map PyData.int))) = some (.d (.bool (decide (xs = ys)))) := by
  show (if (SeqAt.shaped (.tuple (xs.map PyData.int)) && SeqAt.shaped (.tuple (ys.map PyData.int))) = true then _ else _) = _
  rw [shaped_intsT, shaped_intsT]
  show some (Val.d (.bool (PyData.eqvAll _ _))) = _
  rw [eqv_ints]
theorem setS_t {ns : List Int} (hl : ns.length < 64) (h : Hs) : gSetS h (.d (.tuple (ns.map PyData.int))) = some ((sortU ns).map .int) := by
  show (intsOf _).bind _ = _
  rw [intsOf_of, Option.bind_some, if_pos hl]
theorem setS_l {ns : List Int} (hl : ns.length < 64) (h : Hs) : gSetS h (.d (.list (ns.map PyData.int))) = some ((sortU ns).map .int) := by
  show (intsOf _).bind _ = _
  rw [intsOf_of, Option.bind_some, if_pos hl]
theorem iRng_of {a : Q1} {env : En} {h : Hs} {n : Int} (e : a env h = some (.d (.int n))) (h0 : -1000000 ≤ n) (h1 : n ≤ 1000000) : iRng a env h = some ((List.range n.toNat).map fun k : Nat => PyData.int (k : Int)) := by
  unfold iRng
  rw [e, Option.bind_some]
  show (if (decide (-(2 ^ 62) ≤ n) && decide (n < 2 ^ 62)) = true then _ else _) = _
  rw [if_pos]
  rw [Bool.and_eq_true, decide_eq_true_eq, decide_eq_true_eq]
  constructor <;> omega
theorem iRngE_of {a : E1} {env : En} {h h1 : Hs} {n : Int} (e : a env h = some (.d (.int n), h1)) (h0 : -1000000 ≤ n) (h2 : n ≤ 1000000) : iRngE a env h = some ((List.range n.toNat).map (fun k : Nat => PyData.int (k : Int)), h1) := by
  unfold iRngE
  rw [e, Option.bind_some]
  show (if (decide (-(2 ^ 62) ≤ n) && decide (n < 2 ^ 62)) = true then _ else _) = _
  rw [if_pos]
  rw [Bool.and_eq_true, decide_eq_true_eq, decide_eq_true_eq]
  constructor <;> omega
end Sm

set_option Elab.async false
set_option linter.all false
set_option maxRecDepth 100000
set_option maxHeartbeats 4000000
namespace K17
open PySem L2 Evl Sm
/-! what the defs compute -/
/-! is_whole -/
def m_is_whole : M1 := (mRet .mo (qAnd (q1 (gIsi PyData.isInt) (qV 0)) (qNot (q1 (gIsi PyData.isBool) (qV 0)))))
def r_is_whole : List Val → Hs → Option Val := runQ 0 m_is_whole
/-! is_number -/
def m_is_number : M1 := (mRet .mo (qAnd (q1 (gIsi PyData.isInt) (qV 0)) (qAnd (qNot (q1 (gIsi PyData.isBool) (qV 0))) (qChain (fun i j => decide (i ≤ j)) (fun i j => decide (i ≤ j)) (qV 1) (qV 0) (qV 2)))))
def r_is_number : List Val → Hs → Option Val := runQ 0 m_is_number
/-! is_ascending -/
def m_is_ascending : M1 := (mRet .mo (q1 gAll (qF (fLc (iRng (q2 gSub (q1 gLen (qV 0)) (qC (.d (.int 1))))) [1] (bName 1) tTrue (q2 gLt (q2 gIx (qV 0) (qV 1)) (q2 gIx (qV 0) (q2 gAdd (qV 1) (qC (.d (.int 1))))))))))
def r_is_ascending : List Val → Hs → Option Val := runQ 1 m_is_ascending
/-! chosen_spans -/
def b_chosen_spans_1 : M1 := (mIf (tOrF (tV (q1 gIsN (qV 2))) (tV (q2 gGt (qV 4) (qV 2)))) (mSeq (mAppE 1 (eQ (qNl (qV 5))))
    (mSet 2 (qVs 3))) mNx)
def m_chosen_spans : M1 := (mSeq (mPar2 1 2 (pL (eF (fLst aNil)) (pV (eQ (qC (.d .none))) pNil)))
    (mSeq (mFor (iSeq (qF (f1 gSorted (qF (fLc (iEnu (qV 0)) [5, 6] (bTup 2 (bCons (bName 5) (bCons (bName 6) bNil))) tTrue (qTup (aCons (qNl (q2 gIx (qV 6) (qC (.d (.int 1))))) (aCons (qNl (q2 gIx (qV 6) (qC (.d (.int 0))))) (aCons (qNl (qV 5)) aNil))))))))) [3, 4] (bTup 3 (bCons (bName 3) (bCons (bName 4) (bCons (bName 5) bNil)))) b_chosen_spans_1)
    (mRetO 1)))
def r_chosen_spans : List Val → Hs → Option (List PyData) := runF 6 m_chosen_spans
/-! fewest_forces -/
def m_fewest_forces : M1 := (mRet .mo (q1 gTuple (qF (f1 gSorted (qF (fLc (iSeqN (qF (fCall (arity 1 r_chosen_spans) (aCons (qV 0) aNil)))) [1] (bName 1) tTrue (qNl (q2 gIx (q2 gIx (qV 0) (qV 1)) (qC (.d (.int 1)))))))))))
def r_fewest_forces : List Val → Hs → Option Val := runQ 1 m_fewest_forces
/-! are_enough -/
def m_are_enough : M1 := (mSeq (mIf (tOrF (tNotF (tV (q1 (gIsi PyData.isTuple) (qV 1)))) (tOrF (tNotF (tV (q1 gAll (qF (fLc (iSeqN (qV 1)) [2] (bName 2) tTrue (qNl (qCall (arity 1 r_is_whole) (aCons (qV 2) aNil)))))))) (tNotF (tV (qCall (arity 1 r_is_ascending) (aCons (qV 1) aNil)))))) (mRet .mo (qC (.d (.bool false)))) mNx)
    (mRet .mo (q1 gAll (qF (fLc (iSeqN (qV 0)) [3, 4] (bTup 2 (bCons (bName 3) (bCons (bName 4) bNil))) tTrue (q1 gAny (qF (fLc (iSeqN (qV 1)) [2] (bName 2) tTrue (qAnd (q2 gLe (qV 3) (qV 2)) (q2 gLe (qV 2) (qV 4)))))))))))
def r_are_enough : List Val → Hs → Option Val := runQ 3 m_are_enough
/-! force_paper -/
def m_force_paper : M1 := (mRet .mo (q1 gTuple (qF (f1 gSorted (qF (fCall (arity 1 r_chosen_spans) (aCons (qV 0) aNil)))))))
def r_force_paper : List Val → Hs → Option Val := runQ 0 m_force_paper
/-! is_force_paper -/
def m_is_force_paper : M1 := (mSeq (mIf (tOrF (tNotF (tV (q1 (gIsi PyData.isTuple) (qV 2)))) (tNotF (tV (q1 gAll (qF (fLc (iSeqN (qV 2)) [4] (bName 4) tTrue (qNl (qCall (arity 3 r_is_number) (aCons (qV 4) (aCons (qC (.d (.int 0))) (aCons (q2 gSub (q1 gLen (qV 0)) (qC (.d (.int 1)))) aNil))))))))))) (mRet .mo (qC (.d (.bool false)))) mNx)
    (mSeq (mIf (tOrF (tNotF (tV (qCall (arity 1 r_is_ascending) (aCons (qV 2) aNil)))) (tV (q2 gLt (q1 gLen (qV 2)) (qV 1)))) (mRet .mo (qC (.d (.bool false)))) mNx)
    (mSeq (mSetO 3 (f1 gSorted (qF (fLc (iSeqN (qV 2)) [4] (bName 4) tTrue (qNl (q2 gIx (qV 0) (qV 4)))))))
    (mRet .mo (q1 gAll (qF (fLc (iRng (q2 gSub (q1 gLen (qV 3)) (qC (.d (.int 1))))) [4] (bName 4) tTrue (q2 gLt (q2 gIx (q2 gIx (qV 3) (qV 4)) (qC (.d (.int 1)))) (q2 gIx (q2 gIx (qV 3) (q2 gAdd (qV 4) (qC (.d (.int 1))))) (qC (.d (.int 0))))))))))))
def r_is_force_paper : List Val → Hs → Option Val := runQ 2 m_is_force_paper
/-! _law_mix -/
def m__law_mix : M1 := (mSeq (mSet 0 (q2 gMod (q1 gInt (q2 gAdd (q2 gMul (qV 0) (qC (.d (.int 6364136223846793005)))) (qC (.d (.int 1442695040888963407))))) (qC (.d (.int 18446744073709551616)))))
    (mRet .mo (q2 gMod (q1 gInt (q2 gAdd (q2 gDiv (q2 gMul (qV 0) (qV 0)) (qC (.d (.int 4294967296)))) (q2 gMul (qV 0) (qC (.d (.int 69621)))))) (qC (.d (.int 18446744073709551557))))))
def r__law_mix : List Val → Hs → Option Val := runQ 0 m__law_mix
/-! _law_tape -/
def m__law_tape : M1 := (mRetE .st (eNew (eCons (eQ (qF (f1 gList (qF (fSl (qV 0) oNone (oSome (qC (.d (.int 80))))))))) (eCons (eQ (qC (.d (.int 0)))) (eCons (eQ (qC (.d (.int 0)))) (eCons (eQ (q2 gAdd (qC (.d (.int 1))) (q1 gLen (qV 0)))) eNil))))))
def r__law_tape : List Val → Hs → Option (Val × Hs) := runE 0 m__law_tape
/-! _law_take -/
def m__law_take : M1 := (mSeq (mIf (tV (q2 gLt (q2 gIx (qV 0) (qC (.d (.int 2)))) (qV 1))) (mIf (tV (q2 gLt (q2 gIx (qV 0) (qC (.d (.int 1)))) (q1 gLen (q2 gIx (qV 0) (qC (.d (.int 0))))))) (mSeq (mSet 2 (qNl (q2 gIx (q2 gIx (qV 0) (qC (.d (.int 0)))) (q2 gIx (qV 0) (qC (.d (.int 1)))))))
    (mSeq (mSet 2 (qIf (tV (q2 gGe (qV 2) (qC (.d (.int 0))))) (q2 gMul (qC (.d (.int 2))) (qV 2)) (q2 gSub (q2 gMul (q1 gNeg (qC (.d (.int 2)))) (qV 2)) (qC (.d (.int 1))))))
    (mSeq (mPut (qV 0) (qC (.d (.int 1))) (eQ (q2 gAdd (qNl (q2 gIx (qV 0) (qC (.d (.int 1))))) (qC (.d (.int 1))))))
    (mSeq (mPut (qV 0) (qC (.d (.int 3))) (eQ (qNl (qCall (arity 1 r__law_mix) (aCons (q2 gAdd (q2 gIx (qV 0) (qC (.d (.int 3)))) (qV 2)) aNil)))))
    (mPut (qV 0) (qC (.d (.int 2))) (eQ (qIf (tV (q2 gGe (qV 2) (q2 gPow (qC (.d (.int 10))) (qC (.d (.int 18)))))) (qNl (qV 2)) (qNl (qCall (arity 1 r__law_mix) (aCons (q2 gAdd (qCall (arity 1 r__law_mix) (aCons (qV 2) aNil)) (q2 gIx (qV 0) (qC (.d (.int 1))))) aNil)))))))))) (mSeq (mPut (qV 0) (qC (.d (.int 3))) (eQ (qNl (qCall (arity 1 r__law_mix) (aCons (q2 gAdd (q2 gIx (qV 0) (qC (.d (.int 3)))) (qC (.d (.int 1)))) aNil)))))
    (mPut (qV 0) (qC (.d (.int 2))) (eQ (qNl (q2 gIx (qV 0) (qC (.d (.int 3))))))))) mNx)
    (mSeq (mSet 3 (q2 gMod (q1 gInt (q2 gIx (qV 0) (qC (.d (.int 2))))) (qV 1)))
    (mSeq (mPut (qV 0) (qC (.d (.int 2))) (eQ (q2 gDiv (q2 gIx (qV 0) (qC (.d (.int 2)))) (qV 1))))
    (mRet .mo (qV 3)))))
def r__law_take : List Val → Hs → Option (Val × Hs) := runE 2 m__law_take
/-! _law_same -/
def m__law_same (rec__law_same : List Val → Hs → Option Val) : M1 := (mSeq (mIf (tOrF (tAndF (tV (q1 (gIsi PyData.isTuple) (qV 0))) (tV (q1 (gIsi PyData.isTuple) (qV 1)))) (tAndF (tV (q1 (gIsi PyData.isList) (qV 0))) (tV (q1 (gIsi PyData.isList) (qV 1))))) (mRet .mo (qAnd (q2 gEq (q1 gLen (qV 0)) (q1 gLen (qV 1))) (q1 gAll (qF (fLc (iRng (q1 gLen (qV 0))) [2] (bName 2) tTrue (qNl (qCall (arity 2 rec__law_same) (aCons (q2 gIx (qV 0) (qV 2)) (aCons (q2 gIx (qV 1) (qV 2)) aNil))))))))) mNx)
    (mSeq (mIf (tOrF (tV (q1 (gIsi PyData.isBool) (qV 0))) (tV (q1 (gIsi PyData.isBool) (qV 1)))) (mRet .mo (qAnd (q1 (gIsi PyData.isBool) (qV 0)) (qAnd (q1 (gIsi PyData.isBool) (qV 1)) (q2 gEq (qV 0) (qV 1))))) mNx)
    (mSeq (mIf (tOrF (tAndF (tV (q1 (gIsi PyData.isInt) (qV 0))) (tV (q1 (gIsi PyData.isInt) (qV 1)))) (tAndF (tV (q1 (gIsi PyData.isStr) (qV 0))) (tV (q1 (gIsi PyData.isStr) (qV 1))))) (mRet .mo (q2 gEq (qV 0) (qV 1))) mNx)
    (mRet .mo (qAnd (q1 gIsN (qV 0)) (q1 gIsN (qV 1)))))))
def g__law_same : Nat → List Val → Hs → Option Val
  | 0 => fun _ _ => none
  | n + 1 => runQ 1 (m__law_same (g__law_same n))
/-! _law_whole -/
def m__law_whole : M1 := (mRet .mo (qAnd (q1 (gIsi PyData.isInt) (qV 0)) (qAnd (qNot (q1 (gIsi PyData.isBool) (qV 0))) (qChain (fun i j => decide (i ≤ j)) (fun i j => decide (i ≤ j)) (qV 1) (qV 0) (qV 2)))))
def r__law_whole : List Val → Hs → Option Val := runQ 0 m__law_whole
/-! _law_spoilt -/
def m__law_spoilt (rec__law_spoilt : List Val → Hs → Option (Val × Hs)) : M1 := (mSeq (mIfE (eAnd (eT (tV (q1 (gIsi PyData.isTuple) (qV 1)))) (eAnd (eT (tV (q2 gGt (q1 gLen (qV 1)) (qC (.d (.int 0)))))) (etV (e2 gGt (eCall (arity 2 r__law_take) (eCons (eQ (qVs 0)) (eCons (eQ (qC (.d (.int 4)))) eNil))) (eQ (qC (.d (.int 0)))))))) (mSeq (mSetE 2 (eCall (arity 2 r__law_take) (eCons (eQ (qVs 0)) (eCons (eQ (q1 gLen (qV 1))) eNil))))
    (mSeq (mIfE (etV (e2 gEq (eCall (arity 2 r__law_take) (eCons (eQ (qVs 0)) (eCons (eQ (qC (.d (.int 8)))) eNil))) (eQ (qC (.d (.int 0)))))) (mRet .mo (q2 gAdd (qSl (qV 1) oNone (oSome (qV 2))) (qSl (qV 1) (oSome (q2 gAdd (qV 2) (qC (.d (.int 1))))) oNone))) mNx)
    (mRetE .st (enl (e2 gAdd (e2 gAdd (eQ (qSl (qVs 1) oNone (oSome (qV 2)))) (eTup (eCons (eCall (arity 2 rec__law_spoilt) (eCons (eQ (qVs 0)) (eCons (eQ (qNl (q2 gIx (qV 1) (qV 2)))) eNil))) eNil))) (eQ (qSl (qVs 1) (oSome (q2 gAdd (qV 2) (qC (.d (.int 1))))) oNone))))))) mNx)
    (mSeq (mSetO 3 (fLst (aCons (qC (.d .none)) (aCons (qTup aNil) (aCons (qC (.d (.int 0))) (aCons (qC (.d (.int 1))) (aCons (qC (.d (.bool true))) (aCons (qC (.d (.bool false))) (aCons (qC (.d (.str "a"))) (aCons (q1 gNeg (qC (.d (.int 1)))) (aCons (qTup (aCons (qC (.d (.int 0))) aNil)) (aCons (qTup (aCons (qTup (aCons (qC (.d (.int 0))) (aCons (qC (.d (.int 0))) aNil))) aNil)) aNil))))))))))))
    (mSeq (mIf (tV (q1 (gIsi PyData.isInt) (qV 1))) (mSetO 3 (f2 gCat (qV 3) (qF (fLst (aCons (q2 gAdd (qNl (qV 1)) (qC (.d (.int 1)))) (aCons (q2 gSub (qV 1) (qC (.d (.int 1)))) (aCons (q2 gEq (qV 1) (qC (.d (.int 1)))) (aCons (q2 gAdd (qNl (qV 1)) (qC (.d (.int 1)))) aNil)))))))) mNx)
    (mSeq (mIf (tV (q1 (gIsi PyData.isTuple) (qV 1))) (mSetO 3 (f2 gCat (qV 3) (qF (fLst (aCons (qSl (qNl (qV 1)) oNone (oSome (q1 gNeg (qC (.d (.int 1)))))) (aCons (q2 gAdd (qNl (qV 1)) (qSl (qNl (qV 1)) (oSome (q1 gNeg (qC (.d (.int 1))))) oNone)) (aCons (q1 gRev (qNl (qV 1))) (aCons (q2 gAdd (qNl (qV 1)) (qTup (aCons (qTup (aCons (qC (.d (.int 0))) (aCons (qC (.d (.int 0))) aNil))) aNil))) (aCons (qTup (aCons (qNl (qV 1)) aNil)) (aCons (qSl (qNl (qV 1)) (oSome (qC (.d (.int 1)))) oNone) aNil)))))))))) mNx)
    (mHold 3 (mRetE .st (enl (e2 gIx (eQ (qVs 3)) (eCall (arity 2 r__law_take) (eCons (eQ (qVs 0)) (eCons (eQ (q1 gLen (qV 3))) eNil)))))))))))
def g__law_spoilt : Nat → List Val → Hs → Option (Val × Hs)
  | 0 => fun _ _ => none
  | n + 1 => runE 2 (m__law_spoilt (g__law_spoilt n))
/-! _law_covers -/
def m__law_covers : M1 := (mRet .mo (q1 gAll (qF (fLc (iSeqN (qV 0)) [2, 3] (bTup 2 (bCons (bName 2) (bCons (bName 3) bNil))) tTrue (q1 gAny (qF (fLc (iSeqN (qV 1)) [4] (bName 4) tTrue (qChain (fun i j => decide (i ≤ j)) (fun i j => decide (i ≤ j)) (qV 2) (qV 4) (qV 3)))))))))
def r__law_covers : List Val → Hs → Option Val := runQ 3 m__law_covers
/-! _law_fewest -/
def b__law_fewest_1 : M1 := (mExtE 4 (eF (fLc (iSeqN (qV 1)) [7] (bName 7) (tOrF (tV (q2 gEq (qV 5) (qTup aNil))) (tV (q2 gGt (qV 7) (q2 gIx (qV 5) (q1 gNeg (qC (.d (.int 1)))))))) (q2 gAdd (qNl (qV 5)) (qTup (aCons (qNl (qV 7)) aNil))))))
def b__law_fewest_2 : M1 := (mSeq (mIf (tV (q1 gAny (qF (fLc (iSeqN (qV 2)) [5] (bName 5) tTrue (qNl (qCall (arity 2 r__law_covers) (aCons (qV 0) (aCons (qV 5) aNil)))))))) (mRet .mo (qV 3)) mNx)
    (mSeq (mSetO 4 (fLst aNil))
    (mHold 2 (mSeq (mFor (iSeq (qVs 2)) [] (bName 5) b__law_fewest_1)
    (mHold 4 (mSet 2 (qVs 4)))))))
def m__law_fewest : M1 := (mSeq (mSetO 1 (f1 gSetS (qF (fLc (iSeqN (qV 0)) [6, 7] (bTup 2 (bCons (bName 6) (bCons (bName 7) bNil))) tTrue (qNl (qV 7))))))
    (mSeq (mSetO 2 (fLst (aCons (qTup aNil) aNil)))
    (mSeq (mFor (iRng (q2 gAdd (q1 gLen (qV 1)) (qC (.d (.int 1))))) [3, 4] (bName 3) b__law_fewest_2)
    (mRet .mo (qC (.d .none))))))
def r__law_fewest : List Val → Hs → Option Val := runQ 7 m__law_fewest
/-! _law_is_paper -/
def m__law_is_paper : M1 := (mSeq (mIf (tOrF (tNotF (tV (q1 (gIsi PyData.isTuple) (qV 2)))) (tOrF (tNotF (tV (q1 gAll (qF (fLc (iSeqN (qV 2)) [3] (bName 3) tTrue (qNl (qCall (arity 3 r__law_whole) (aCons (qV 3) (aCons (qC (.d (.int 0))) (aCons (q2 gSub (q1 gLen (qV 0)) (qC (.d (.int 1)))) aNil)))))))))) (tOrF (tV (q2 gNe (qF (f1 gList (qV 2))) (qF (f1 gSetS (qV 2))))) (tV (q2 gLt (q1 gLen (qV 2)) (qV 1)))))) (mRet .mo (qC (.d (.bool false)))) mNx)
    (mRet .mo (qNot (q1 gAny (qF (fLc (iSeqN (qV 2)) [3] (bName 3) tTrue (q1 gAny (qF (fLc (iSeqN (qV 2)) [4] (bName 4) tTrue (qAnd (q2 gNe (qV 4) (qV 3)) (qAnd (q2 gLe (q2 gIx (q2 gIx (qV 0) (qV 4)) (qC (.d (.int 0)))) (q2 gIx (q2 gIx (qV 0) (qV 3)) (qC (.d (.int 1))))) (q2 gLe (q2 gIx (q2 gIx (qV 0) (qV 3)) (qC (.d (.int 0)))) (q2 gIx (q2 gIx (qV 0) (qV 4)) (qC (.d (.int 1))))))))))))))))
def r__law_is_paper : List Val → Hs → Option Val := runQ 2 m__law_is_paper
/-! law -/
def b_law_1 : M1 := (mSeq (mSetE 5 (e2 gSub (eCall (arity 2 r__law_take) (eCons (eQ (qVs 1)) (eCons (eQ (qC (.d (.int 12)))) eNil))) (eQ (qC (.d (.int 3))))))
    (mAppE 2 (enl (eTup (eCons (eQ (qVs 5)) (eCons (e2 gAdd (eQ (qVs 5)) (eCall (arity 2 r__law_take) (eCons (eQ (qVs 1)) (eCons (eQ (qC (.d (.int 5)))) eNil)))) eNil))))))
def b_law_2 : M1 := (mSeq (mSet 10 (qAnd (q1 (gIsi PyData.isTuple) (qV 9)) (qAnd (q1 gAll (qF (fLc (iSeqN (qV 9)) [12] (bName 12) tTrue (qNl (qCall (arity 3 r__law_whole) (aCons (qV 12) (aCons (q1 gNeg (qC (.d (.int 100)))) (aCons (qC (.d (.int 10000))) aNil)))))))) (qAnd (q2 gEq (qF (f1 gList (qV 9))) (qF (f1 gSetS (qV 9)))) (qNl (qCall (arity 2 r__law_covers) (aCons (qV 2) (aCons (qV 9) aNil))))))))
    (mIf (tNotF (tV (qCall (arity 2 (g__law_same 3)) (aCons (qCall (arity 2 r_are_enough) (aCons (qV 2) (aCons (qV 9) aNil))) (aCons (qV 10) aNil))))) (mRet .mo (qC (.d (.bool false)))) mNx))
def b_law_3 : M1 := (mSeq (mSetE 11 (e2 gSub (e2 gAdd (eQ (qVs 6)) (eCall (arity 2 r__law_take) (eCons (eQ (qVs 1)) (eCons (eQ (qC (.d (.int 3)))) eNil)))) (eQ (qC (.d (.int 1))))))
    (mIf (tOrF (tNotF (tV (qCall (arity 2 (g__law_same 3)) (aCons (qCall (arity 3 r_is_force_paper) (aCons (qV 2) (aCons (qV 11) (aCons (qV 9) aNil)))) (aCons (qCall (arity 3 r__law_is_paper) (aCons (qV 2) (aCons (qV 11) (aCons (qV 9) aNil)))) aNil))))) (tV (qCall (arity 3 r__law_is_paper) (aCons (qV 2) (aCons (q2 gAdd (qV 6) (qC (.d (.int 1)))) (aCons (qV 9) aNil)))))) (mRet .mo (qC (.d (.bool false)))) mNx))
def b_law_4 : M1 := (mSeq (mSetO 2 (fLst aNil))
    (mSeq (mForE (iRngE (eCall (arity 2 r__law_take) (eCons (eQ (qVs 1)) (eCons (eQ (qC (.d (.int 8)))) eNil)))) [5] (bName 4) b_law_1)
    (mSeq (mSet 2 (qNl (q1 gTuple (qV 2))))
    (mSeq (mAsg (qTup (aCons (qNl (qCall (arity 1 r__law_fewest) (aCons (qV 2) aNil))) (aCons (qNl (qCall (arity 1 r_fewest_forces) (aCons (qV 2) aNil))) (aCons (qNl (qCall (arity 1 r_force_paper) (aCons (qV 2) aNil))) aNil)))) (bTup 3 (bCons (bName 6) (bCons (bName 7) (bCons (bName 8) bNil)))))
    (mSeq (mIf (tOrF (tNotF (tV (q1 (gIsi PyData.isTuple) (qV 7)))) (tOrF (tV (q2 gNe (q1 gLen (qV 7)) (qV 6))) (tOrF (tV (q2 gNe (qF (f1 gList (qV 7))) (qF (f1 gSetS (qV 7))))) (tOrF (tNotF (tV (qCall (arity 2 r__law_covers) (aCons (qV 2) (aCons (qV 7) aNil))))) (tV (q2 (gIsB true) (qCall (arity 2 r_are_enough) (aCons (qV 2) (aCons (qV 7) aNil))) (qC (.d (.bool true))))))))) (mRet .mo (qC (.d (.bool false)))) mNx)
    (mSeq (mIf (tOrF (tV (q2 gNe (q1 gLen (qV 8)) (qV 6))) (tOrF (tNotF (tV (qCall (arity 3 r__law_is_paper) (aCons (qV 2) (aCons (qV 6) (aCons (qV 8) aNil)))))) (tV (q2 (gIsB true) (qCall (arity 3 r_is_force_paper) (aCons (qV 2) (aCons (qV 6) (aCons (qV 8) aNil)))) (qC (.d (.bool true))))))) (mRet .mo (qC (.d (.bool false)))) mNx)
    (mSeq (mForE (iSeqE (eLock (ef2 gCat (eQ (qF (fLst (aCons (qNl (qV 7)) (aCons (qSl (qNl (qV 7)) (oSome (qC (.d (.int 1)))) oNone) (aCons (q1 gRev (qNl (qV 7))) (aCons (q2 gAdd (qNl (qV 7)) (qTup (aCons (qC (.d (.int 50))) aNil))) (aCons (qC (.d .none)) (aCons (qTup aNil) (aCons (qTup (aCons (qC (.d (.bool true))) aNil)) (aCons (qTup (aCons (qC (.d .none)) aNil)) aNil))))))))))) (eLock (efLc (iE (iRng (qC (.d (.int 3))))) [4] (bName 4) tTrue (eCall (arity 2 (g__law_spoilt 4)) (eCons (eQ (qVs 1)) (eCons (eQ (qVs 7)) eNil)))))))) [10] (bName 9) b_law_2)
    (mForE (iSeqE (eLock (ef2 gCat (eQ (qF (fLst (aCons (qNl (qV 8)) (aCons (qSl (qNl (qV 8)) (oSome (qC (.d (.int 1)))) oNone) (aCons (q1 gRev (qNl (qV 8))) (aCons (q1 gTupR (q1 gLen (qV 2))) (aCons (q2 gAdd (qNl (qV 8)) (qTup (aCons (q1 gLen (qV 2)) aNil))) (aCons (qC (.d .none)) (aCons (qTup aNil) (aCons (qTup (aCons (qC (.d (.bool true))) aNil)) aNil))))))))))) (eLock (efLc (iE (iRng (qC (.d (.int 3))))) [4] (bName 4) tTrue (eCall (arity 2 (g__law_spoilt 4)) (eCons (eQ (qVs 1)) (eCons (eQ (qVs 8)) eNil)))))))) [11] (bName 9) b_law_3))))))))
def m_law : M1 := (mSeq (mSetE 1 (eCall (arity 1 r__law_tape) (eCons (eQ (qVs 0)) eNil)))
    (mSeq (mSet 2 (qTup (aCons (qTup (aCons (qC (.d (.int 3))) (aCons (qC (.d (.int 5))) aNil))) (aCons (qTup (aCons (qC (.d (.int 1))) (aCons (qC (.d (.int 2))) aNil))) (aCons (qTup (aCons (qC (.d (.int 4))) (aCons (qC (.d (.int 9))) aNil))) (aCons (qTup (aCons (qC (.d (.int 2))) (aCons (qC (.d (.int 4))) aNil))) aNil))))))
    (mSeq (mIf (tOrF (tV (q2 gNe (qCall (arity 1 r_fewest_forces) (aCons (qV 2) aNil)) (qTup (aCons (qC (.d (.int 2))) (aCons (qC (.d (.int 5))) aNil))))) (tOrF (tNotF (tV (qCall (arity 3 r__law_is_paper) (aCons (qV 2) (aCons (qC (.d (.int 2))) (aCons (qCall (arity 1 r_force_paper) (aCons (qV 2) aNil)) aNil)))))) (tV (q2 gNe (qCall (arity 1 r_fewest_forces) (aCons (qTup aNil) aNil)) (qTup aNil))))) (mRet .mo (qC (.d (.bool false)))) mNx)
    (mSeq (mIf (tOrF (tV (q2 gNe (qCall (arity 1 r_force_paper) (aCons (qTup aNil) aNil)) (qTup aNil))) (tOrF (tV (q2 (gIsB true) (qCall (arity 2 r_are_enough) (aCons (qV 2) (aCons (qTup (aCons (qC (.d (.int 2))) (aCons (qC (.d (.int 4))) aNil))) aNil))) (qC (.d (.bool true))))) (tV (q2 (gIsB true) (qCall (arity 2 r_are_enough) (aCons (qV 2) (aCons (qTup (aCons (qC (.d (.int 4))) (aCons (qC (.d (.int 2))) aNil))) aNil))) (qC (.d (.bool false))))))) (mRet .mo (qC (.d (.bool false)))) mNx)
    (mSeq (mFor (iRng (qC (.d (.int 5)))) [3, 4, 6, 7, 8, 9] (bName 3) b_law_4)
    (mRet .mo (qC (.d (.bool true)))))))))
def r_law : List Val → Hs → Option (Val × Hs) := runE 12 m_law
end K17

set_option Elab.async false
set_option linter.all false
set_option maxRecDepth 100000
set_option maxHeartbeats 4000000
namespace K17
open PySem L2 Evl Sm
def top (i : Nat) : Stmt := PySem.Challenge.pw_treesheld_k17_whole_fewest_forces.main.body.getD i (.Pass ⟨0, 0, 0, 0⟩)
abbrev s_is_whole : Stmt := top 1
abbrev s_is_number : Stmt := top 2
abbrev s_is_ascending : Stmt := top 3
abbrev s_chosen_spans : Stmt := top 5
abbrev s_fewest_forces : Stmt := top 6
abbrev s_are_enough : Stmt := top 7
abbrev s_force_paper : Stmt := top 8
abbrev s_is_force_paper : Stmt := top 9
abbrev s__law_mix : Stmt := top 11
abbrev s__law_tape : Stmt := top 12
abbrev s__law_take : Stmt := top 13
abbrev s__law_same : Stmt := top 14
abbrev s__law_whole : Stmt := top 15
abbrev s__law_spoilt : Stmt := top 16
abbrev s__law_covers : Stmt := top 17
abbrev s__law_fewest : Stmt := top 18
abbrev s__law_is_paper : Stmt := top 19
abbrev s_law : Stmt := top 20
structure Dn (K : PySem.W.Frag) (mg : Str → Option Value) (x : Str) (st : Stmt) (ps : List Str) (f : Addr) (fd : FuncData) : Prop where
  fn : Fun K x x st f fd
  mg : mg x = some (.ref f)
  bd : Binds K fd ps []
structure Txt (K : PySem.W.Frag) (mg : Str → Option Value) (G : Glo) (f : Nat → Addr) (fd : Nat → FuncData) : Prop where
  gK : K = G.K
  d0 : Dn K mg "is_whole" s_is_whole ["value"] (f 0) (fd 0)
  d1 : Dn K mg "is_number" s_is_number ["value", "least", "most"] (f 1) (fd 1)
  d2 : Dn K mg "is_ascending" s_is_ascending ["rows"] (f 2) (fd 2)
  d3 : Dn K mg "chosen_spans" s_chosen_spans ["spans"] (f 3) (fd 3)
  d4 : Dn K mg "fewest_forces" s_fewest_forces ["spans"] (f 4) (fd 4)
  d5 : Dn K mg "are_enough" s_are_enough ["spans", "value"] (f 5) (fd 5)
  d6 : Dn K mg "force_paper" s_force_paper ["spans"] (f 6) (fd 6)
  d7 : Dn K mg "is_force_paper" s_is_force_paper ["spans", "many", "value"] (f 7) (fd 7)
  d8 : Dn K mg "_law_mix" s__law_mix ["number"] (f 8) (fd 8)
  d9 : Dn K mg "_law_tape" s__law_tape ["script"] (f 9) (fd 9)
  d10 : Dn K mg "_law_take" s__law_take ["tape", "many"] (f 10) (fd 10)
  d11 : Dn K mg "_law_same" s__law_same ["a", "b"] (f 11) (fd 11)
  d12 : Dn K mg "_law_whole" s__law_whole ["value", "low", "high"] (f 12) (fd 12)
  d13 : Dn K mg "_law_spoilt" s__law_spoilt ["tape", "value"] (f 13) (fd 13)
  d14 : Dn K mg "_law_covers" s__law_covers ["spans", "times"] (f 14) (fd 14)
  d15 : Dn K mg "_law_fewest" s__law_fewest ["spans"] (f 15) (fd 15)
  d16 : Dn K mg "_law_is_paper" s__law_is_paper ["spans", "many", "value"] (f 16) (fd 16)
  d17 : Dn K mg "law" s_law ["script"] (f 17) (fd 17)
  z_all : mg "all" = none
  z_any : mg "any" = none
  z_bool : mg "bool" = none
  z_enumerate : mg "enumerate" = none
  z_int : mg "int" = none
  z_isinstance : mg "isinstance" = none
  z_len : mg "len" = none
  z_list : mg "list" = none
  z_range : mg "range" = none
  z_set : mg "set" = none
  z_sorted : mg "sorted" = none
  z_str : mg "str" = none
  z_tuple : mg "tuple" = none
section
variable {P : Program} {w : World} {K : PySem.W.Frag} {mg : Str → Option Value} {base : Heap} {G : Glo} {f : Nat → Addr} {fd : Nat → FuncData}
theorem sc_is_whole : FnScope ["value"] ["value"] (defScope s_is_whole) := ⟨rfl, rfl, rfl, by decide +kernel, rfl, by decide +kernel, by decide +kernel⟩
theorem ok_is_whole (T : Txt K mg G f fd) : FnOk P w K mg base CX0 1 (f 0) (fd 0) ["value"] (spQ G 1 r_is_whole) :=
  fn_q T.d0.fn sc_is_whole (by decide) fun cdv A outer s H E hr F hF => by
    have hK : K = F.G.K := by rw [hF]; exact T.gK
    have hu := hu4 hr
    have hu5 := hu65 hr
    have SC := sc_is_whole
    exact (sb_one (ss_ret (ℓ := .mo) (sq_and (sq_isi (ℓ := .mo) isi_int hK T.z_isinstance T.z_int (by decide +kernel) (sq_v 0)) (sq_one (sq_not (ℓ := .mo) hK (sq_isi (ℓ := .mo) isi_bool hK T.z_isinstance T.z_bool (by decide +kernel) (sq_v 0)))))))
theorem sc_is_number : FnScope ["value", "least", "most"] ["value", "least", "most"] (defScope s_is_number) := ⟨rfl, rfl, rfl, by decide +kernel, rfl, by decide +kernel, by decide +kernel⟩
theorem ok_is_number (T : Txt K mg G f fd) : FnOk P w K mg base CX0 1 (f 1) (fd 1) ["value", "least", "most"] (spQ G 3 r_is_number) :=
  fn_q T.d1.fn sc_is_number (by decide) fun cdv A outer s H E hr F hF => by
    have hK : K = F.G.K := by rw [hF]; exact T.gK
    have hu := hu4 hr
    have hu5 := hu65 hr
    have SC := sc_is_number
    exact (sb_one (ss_ret (ℓ := .mo) (sq_and (sq_isi (ℓ := .mo) isi_int hK T.z_isinstance T.z_int (by decide +kernel) (sq_v 0)) (sq_and (sq_not (ℓ := .mo) hK (sq_isi (ℓ := .mo) isi_bool hK T.z_isinstance T.z_bool (by decide +kernel) (sq_v 0))) (sq_one (sq_le2 (ℓ := .mo) (sq_v 1) (sq_v 0) (sq_v 2)))))))
theorem sc_is_ascending : FnScope ["rows", "k"] ["rows"] (defScope s_is_ascending) := ⟨rfl, rfl, rfl, by decide +kernel, rfl, by decide +kernel, by decide +kernel⟩
theorem ok_is_ascending (T : Txt K mg G f fd) : FnOk P w K mg base CX0 1 (f 2) (fd 2) ["rows"] (spQ G 1 r_is_ascending) :=
  fn_q T.d2.fn sc_is_ascending (by decide) fun cdv A outer s H E hr F hF => by
    have hK : K = F.G.K := by rw [hF]; exact T.gK
    have hu := hu4 hr
    have hu5 := hu65 hr
    have SC := sc_is_ascending
    exact (sb_one (ss_ret (ℓ := .mo) (sq_all (ℓ := .mo) hK rfl T.z_all (sq_f (sf_lc (own := [("k", 1)]) rfl SC.nd (si_rng T.z_range (sq_bin (ℓ := .mo) (ℓ₁ := .mo) (ℓ₂ := .mo) o_sub (sq_len (ℓ := .mo) hK T.z_len (sq_v 0)) (sq_int (ℓ := .mo)))) (by kernel_rfl) (by decide) (fun _ _ _ _ _ => (sg_name (i := 1) SC.nd rfl (by first | exact Or.inl rfl | exact Or.inr rfl))) (fun _ _ _ _ _ => sts_nil) (fun _ _ _ _ _ => (sq_cmp (ℓ := .st) (ℓ₁ := .mo) (ℓ₂ := .mo) o_lt (sq_sub hK (sq_v 0) (sq_v 1)) (sq_sub hK (sq_v 0) (sq_bin (ℓ := .mo) (ℓ₁ := .mo) (ℓ₂ := .mo) (o_add hK) (sq_v 1) (sq_int (ℓ := .mo)))) (nomark _))))))))
theorem sc_chosen_spans : FnScope ["spans", "found", "behind", "last", "first", "k", "span"] ["spans"] (defScope s_chosen_spans) := ⟨rfl, rfl, rfl, by decide +kernel, rfl, by decide +kernel, by decide +kernel⟩
theorem ok_chosen_spans (T : Txt K mg G f fd) : FnOk P w K mg base CX0 1 (f 3) (fd 3) ["spans"] (spF G 1 r_chosen_spans) :=
  fn_f T.d3.fn sc_chosen_spans (by decide) fun cdv A outer s H E hr F hF => by
    have hK : K = F.G.K := by rw [hF]; exact T.gK
    have hu := hu4 hr
    have hu5 := hu65 hr
    have SC := sc_chosen_spans
    exact (sb_cons (ss_par2 (i := 1) (j := 2) rfl SC.nd rfl rfl (by decide) rfl rfl (sp_l (sef_f (sf_lst sa_nil)) (sp_v (se_q (sq_non (ℓ := .fs))) sp_nil)) (by rfl))
    (sb_cons (ss_for [3, 4] PassesOwn.never rfl (si_seqS hK (sq_st (ℓ := .fs) (sq_lock (sf_sorted hK hu T.z_sorted (sq_f (sf_lc (own := [("k", 5), ("span", 6)]) rfl SC.nd (si_enum hK T.z_enumerate (sq_v 0)) (by kernel_rfl) (by decide) (fun _ _ _ _ _ => (sg_tup hK rfl (sgs_cons (sg_name (i := 5) SC.nd rfl (by first | exact Or.inl rfl | exact Or.inr rfl)) (sgs_cons (sg_name (i := 6) SC.nd rfl (by first | exact Or.inl rfl | exact Or.inr rfl)) sgs_nil)))) (fun _ _ _ _ _ => sts_nil) (fun _ _ _ _ _ => (sq_tup (sa_cons (sq_nl (ℓ := .st) (sq_sub hK (sq_v 6) (sq_int (ℓ := .mo)))) (sa_cons (sq_nl (ℓ := .st) (sq_sub hK (sq_v 6) (sq_int (ℓ := .mo)))) (sa_cons (sq_nl (ℓ := .st) (sq_v 5)) sa_nil))))))))))) (sg_tup hK rfl (sgs_cons (sg_name (i := 3) SC.nd rfl (by first | exact Or.inl rfl | exact Or.inr rfl)) (sgs_cons (sg_name (i := 4) SC.nd rfl (by first | exact Or.inl rfl | exact Or.inr rfl)) (sgs_cons (sg_name (i := 5) SC.nd rfl (by first | exact Or.inl rfl | exact Or.inr rfl)) sgs_nil)))) (sb_one (ss_if (PW.pt (sw_or (st_isN (sq_v 2)) (sw_or1 (st_cmp (ℓ₁ := .mo) (ℓ₂ := .mo) o_gt (sq_v 4) (sq_v 2) (nomark _) gB0_b)))) (sb_cons (ss_app (i := 1) hK (se_q (sq_nl (ℓ := .st) (sq_v 5))))
    (sb_one (ss_set (i := 2) SC.nd rfl (by first | exact Or.inl rfl | exact Or.inr rfl) (sq_vs 3)))) sb_nil)))
    (sb_one (ss_retO 1))))
theorem sc_fewest_forces : FnScope ["spans", "k"] ["spans"] (defScope s_fewest_forces) := ⟨rfl, rfl, rfl, by decide +kernel, rfl, by decide +kernel, by decide +kernel⟩
theorem ok_fewest_forces (T : Txt K mg G f fd) : FnOk P w K mg base CX0 2 (f 4) (fd 4) ["spans"] (spQ G 1 r_fewest_forces) :=
  fn_q T.d4.fn sc_fewest_forces (by decide) fun cdv A outer s H E hr F hF => by
    have hK : K = F.G.K := by rw [hF]; exact T.gK
    have hu := hu4 hr
    have hu5 := hu65 hr
    have SC := sc_fewest_forces
    exact (sb_one (ss_ret (ℓ := .mo) (sq_totup hK T.z_tuple (sq_f (sf_sorted hK hu T.z_sorted (sq_f (sf_lc (own := [("k", 1)]) rfl SC.nd (si_seqN hK (sq_f (sf_call (ok_chosen_spans T) hF (hr.mono (by decide)) T.d3.mg T.d3.fn.kp T.d3.bd (sa_cons (sq_v 0) sa_nil)))) (by kernel_rfl) (by decide) (fun _ _ _ _ _ => (sg_name (i := 1) SC.nd rfl (by first | exact Or.inl rfl | exact Or.inr rfl))) (fun _ _ _ _ _ => sts_nil) (fun _ _ _ _ _ => (sq_nl (ℓ := .st) (sq_sub hK (sq_sub hK (sq_v 0) (sq_v 1)) (sq_int (ℓ := .mo))))))))))))
theorem sc_are_enough : FnScope ["spans", "value", "time", "first", "last"] ["spans", "value"] (defScope s_are_enough) := ⟨rfl, rfl, rfl, by decide +kernel, rfl, by decide +kernel, by decide +kernel⟩
theorem ok_are_enough (T : Txt K mg G f fd) : FnOk P w K mg base CX0 2 (f 5) (fd 5) ["spans", "value"] (spQ G 2 r_are_enough) :=
  fn_q T.d5.fn sc_are_enough (by decide) fun cdv A outer s H E hr F hF => by
    have hK : K = F.G.K := by rw [hF]; exact T.gK
    have hu := hu4 hr
    have hu5 := hu65 hr
    have SC := sc_are_enough
    exact (sb_cons (ss_if (PW.pt (sw_or (st_not (st_v hK (sq_isi (ℓ := .mo) isi_tuple hK T.z_isinstance T.z_tuple (by decide +kernel) (sq_v 1)))) (sw_or (st_not (st_v hK (sq_all (ℓ := .mo) hK rfl T.z_all (sq_f (sf_lc (own := [("time", 2)]) rfl SC.nd (si_seqN hK (sq_v 1)) (by kernel_rfl) (by decide) (fun _ _ _ _ _ => (sg_name (i := 2) SC.nd rfl (by first | exact Or.inl rfl | exact Or.inr rfl))) (fun _ _ _ _ _ => sts_nil) (fun _ _ _ _ _ => (sq_nl (ℓ := .st) (sq_call (ok_is_whole T) hF (hr.mono (by decide)) T.d0.mg T.d0.fn.kp T.d0.bd (sa_cons (sq_v 2) sa_nil))))))))) (sw_or1 (st_not (st_v hK (sq_call (ok_is_ascending T) hF (hr.mono (by decide)) T.d2.mg T.d2.fn.kp T.d2.bd (sa_cons (sq_v 1) sa_nil)))))))) (sb_one (ss_ret (ℓ := .mo) (sq_bl (ℓ := .mo)))) sb_nil)
    (sb_one (ss_ret (ℓ := .mo) (sq_all (ℓ := .mo) hK rfl T.z_all (sq_f (sf_lc (own := [("first", 3), ("last", 4)]) rfl SC.nd (si_seqN hK (sq_v 0)) (by kernel_rfl) (by decide) (fun _ _ _ _ _ => (sg_tup hK rfl (sgs_cons (sg_name (i := 3) SC.nd rfl (by first | exact Or.inl rfl | exact Or.inr rfl)) (sgs_cons (sg_name (i := 4) SC.nd rfl (by first | exact Or.inl rfl | exact Or.inr rfl)) sgs_nil)))) (fun _ _ _ _ _ => sts_nil) (fun _ _ _ _ _ => (sq_any (ℓ := .st) hK rfl T.z_any (sq_f (sf_lc (own := [("time", 2)]) rfl SC.nd (si_seqN hK (sq_v 1)) (by kernel_rfl) (by decide) (fun _ _ _ _ _ => (sg_name (i := 2) SC.nd rfl (by first | exact Or.inl rfl | exact Or.inr rfl))) (fun _ _ _ _ _ => sts_nil) (fun _ _ _ _ _ => (sq_and (sq_cmp (ℓ := .st) (ℓ₁ := .mo) (ℓ₂ := .mo) o_le (sq_v 3) (sq_v 2) (nomark _)) (sq_one (sq_cmp (ℓ := .st) (ℓ₁ := .mo) (ℓ₂ := .mo) o_le (sq_v 2) (sq_v 4) (nomark _)))))))))))))))
theorem sc_force_paper : FnScope ["spans"] ["spans"] (defScope s_force_paper) := ⟨rfl, rfl, rfl, by decide +kernel, rfl, by decide +kernel, by decide +kernel⟩
theorem ok_force_paper (T : Txt K mg G f fd) : FnOk P w K mg base CX0 2 (f 6) (fd 6) ["spans"] (spQ G 1 r_force_paper) :=
  fn_q T.d6.fn sc_force_paper (by decide) fun cdv A outer s H E hr F hF => by
    have hK : K = F.G.K := by rw [hF]; exact T.gK
    have hu := hu4 hr
    have hu5 := hu65 hr
    have SC := sc_force_paper
    exact (sb_one (ss_ret (ℓ := .mo) (sq_totup hK T.z_tuple (sq_f (sf_sorted hK hu T.z_sorted (sq_f (sf_call (ok_chosen_spans T) hF (hr.mono (by decide)) T.d3.mg T.d3.fn.kp T.d3.bd (sa_cons (sq_v 0) sa_nil))))))))
theorem sc_is_force_paper : FnScope ["spans", "many", "value", "rows", "k"] ["spans", "many", "value"] (defScope s_is_force_paper) := ⟨rfl, rfl, rfl, by decide +kernel, rfl, by decide +kernel, by decide +kernel⟩
theorem ok_is_force_paper (T : Txt K mg G f fd) : FnOk P w K mg base CX0 2 (f 7) (fd 7) ["spans", "many", "value"] (spQ G 3 r_is_force_paper) :=
  fn_q T.d7.fn sc_is_force_paper (by decide) fun cdv A outer s H E hr F hF => by
    have hK : K = F.G.K := by rw [hF]; exact T.gK
    have hu := hu4 hr
    have hu5 := hu65 hr
    have SC := sc_is_force_paper
    exact (sb_cons (ss_if (PW.pt (sw_or (st_not (st_v hK (sq_isi (ℓ := .mo) isi_tuple hK T.z_isinstance T.z_tuple (by decide +kernel) (sq_v 2)))) (sw_or1 (st_not (st_v hK (sq_all (ℓ := .mo) hK rfl T.z_all (sq_f (sf_lc (own := [("k", 4)]) rfl SC.nd (si_seqN hK (sq_v 2)) (by kernel_rfl) (by decide) (fun _ _ _ _ _ => (sg_name (i := 4) SC.nd rfl (by first | exact Or.inl rfl | exact Or.inr rfl))) (fun _ _ _ _ _ => sts_nil) (fun _ _ _ _ _ => (sq_nl (ℓ := .st) (sq_call (ok_is_number T) hF (hr.mono (by decide)) T.d1.mg T.d1.fn.kp T.d1.bd (sa_cons (sq_v 4) (sa_cons (sq_int (ℓ := .mo)) (sa_cons (sq_bin (ℓ := .mo) (ℓ₁ := .mo) (ℓ₂ := .mo) o_sub (sq_len (ℓ := .mo) hK T.z_len (sq_v 0)) (sq_int (ℓ := .mo))) sa_nil)))))))))))))) (sb_one (ss_ret (ℓ := .mo) (sq_bl (ℓ := .mo)))) sb_nil)
    (sb_cons (ss_if (PW.pt (sw_or (st_not (st_v hK (sq_call (ok_is_ascending T) hF (hr.mono (by decide)) T.d2.mg T.d2.fn.kp T.d2.bd (sa_cons (sq_v 2) sa_nil)))) (sw_or1 (st_cmp (ℓ₁ := .mo) (ℓ₂ := .mo) o_lt (sq_len (ℓ := .mo) hK T.z_len (sq_v 2)) (sq_v 1) (nomark _) gB0_b)))) (sb_one (ss_ret (ℓ := .mo) (sq_bl (ℓ := .mo)))) sb_nil)
    (sb_cons (ss_setO (i := 3) SC.nd rfl (by first | exact Or.inl rfl | exact Or.inr rfl) (sf_sorted hK hu T.z_sorted (sq_f (sf_lc (own := [("k", 4)]) rfl SC.nd (si_seqN hK (sq_v 2)) (by kernel_rfl) (by decide) (fun _ _ _ _ _ => (sg_name (i := 4) SC.nd rfl (by first | exact Or.inl rfl | exact Or.inr rfl))) (fun _ _ _ _ _ => sts_nil) (fun _ _ _ _ _ => (sq_nl (ℓ := .st) (sq_sub hK (sq_v 0) (sq_v 4))))))))
    (sb_one (ss_ret (ℓ := .mo) (sq_all (ℓ := .mo) hK rfl T.z_all (sq_f (sf_lc (own := [("k", 4)]) rfl SC.nd (si_rng T.z_range (sq_bin (ℓ := .mo) (ℓ₁ := .mo) (ℓ₂ := .mo) o_sub (sq_len (ℓ := .mo) hK T.z_len (sq_v 3)) (sq_int (ℓ := .mo)))) (by kernel_rfl) (by decide) (fun _ _ _ _ _ => (sg_name (i := 4) SC.nd rfl (by first | exact Or.inl rfl | exact Or.inr rfl))) (fun _ _ _ _ _ => sts_nil) (fun _ _ _ _ _ => (sq_cmp (ℓ := .st) (ℓ₁ := .mo) (ℓ₂ := .mo) o_lt (sq_sub hK (sq_sub hK (sq_v 3) (sq_v 4)) (sq_int (ℓ := .mo))) (sq_sub hK (sq_sub hK (sq_v 3) (sq_bin (ℓ := .mo) (ℓ₁ := .mo) (ℓ₂ := .mo) (o_add hK) (sq_v 4) (sq_int (ℓ := .mo)))) (sq_int (ℓ := .mo))) (nomark _)))))))))))
theorem sc__law_mix : FnScope ["number"] ["number"] (defScope s__law_mix) := ⟨rfl, rfl, rfl, by decide +kernel, rfl, by decide +kernel, by decide +kernel⟩
theorem ok__law_mix (T : Txt K mg G f fd) : FnOk P w K mg base CX0 1 (f 8) (fd 8) ["number"] (spQ G 1 r__law_mix) :=
  fn_q T.d8.fn sc__law_mix (by decide) fun cdv A outer s H E hr F hF => by
    have hK : K = F.G.K := by rw [hF]; exact T.gK
    have hu := hu4 hr
    have hu5 := hu65 hr
    have SC := sc__law_mix
    exact (sb_cons (ss_set (i := 0) SC.nd rfl (by first | exact Or.inl rfl | exact Or.inr rfl) (sq_bin (ℓ := .fs) (ℓ₁ := .mo) (ℓ₂ := .mo) o_mod (sq_toint (ℓ := .mo) T.z_int (sq_bin (ℓ := .mo) (ℓ₁ := .mo) (ℓ₂ := .mo) (o_add hK) (sq_bin (ℓ := .mo) (ℓ₁ := .mo) (ℓ₂ := .mo) o_mul (sq_v 0) (sq_int (ℓ := .mo))) (sq_int (ℓ := .mo)))) (sq_int (ℓ := .mo))))
    (sb_one (ss_ret (ℓ := .mo) (sq_bin (ℓ := .mo) (ℓ₁ := .mo) (ℓ₂ := .mo) o_mod (sq_toint (ℓ := .mo) T.z_int (sq_bin (ℓ := .mo) (ℓ₁ := .mo) (ℓ₂ := .mo) (o_add hK) (sq_bin (ℓ := .mo) (ℓ₁ := .mo) (ℓ₂ := .mo) o_div (sq_bin (ℓ := .mo) (ℓ₁ := .mo) (ℓ₂ := .mo) o_mul (sq_v 0) (sq_v 0)) (sq_int (ℓ := .mo))) (sq_bin (ℓ := .mo) (ℓ₁ := .mo) (ℓ₂ := .mo) o_mul (sq_v 0) (sq_int (ℓ := .mo))))) (sq_int (ℓ := .mo))))))
theorem sc__law_tape : FnScope ["script"] ["script"] (defScope s__law_tape) := ⟨rfl, rfl, rfl, by decide +kernel, rfl, by decide +kernel, by decide +kernel⟩
theorem ok__law_tape (T : Txt K mg G f fd) : FnOk P w K mg base CX0 1 (f 9) (fd 9) ["script"] (spE G 1 r__law_tape) :=
  fn_e T.d9.fn sc__law_tape (by decide) fun cdv A outer s H E hr F hF hw => by
    have hK : K = F.G.K := by rw [hF]; exact T.gK
    have hu := hu4 hr
    have hu5 := hu65 hr
    have SC := sc__law_tape
    exact (sb_one (ss_retE (ℓ := .st) (se_new hw (sas_cons (se_q (sq_lock (sf_tolist hK T.z_list (sq_f (sf_slice hK (sq_v 0) so_none (so_some (sq_int (ℓ := .mo)))))))) (sas_cons (se_q (sq_int (ℓ := .st))) (sas_cons (se_q (sq_int (ℓ := .st))) (sas_cons (se_q (sq_bin (ℓ := .st) (ℓ₁ := .st) (ℓ₂ := .st) (o_add hK) (sq_int (ℓ := .st)) (sq_len (ℓ := .st) hK T.z_len (sq_v 0)))) sas_nil)))))))
theorem sc__law_take : FnScope ["tape", "many", "cell", "digit"] ["tape", "many"] (defScope s__law_take) := ⟨rfl, rfl, rfl, by decide +kernel, rfl, by decide +kernel, by decide +kernel⟩
theorem ok__law_take (T : Txt K mg G f fd) : FnOk P w K mg base CX0 2 (f 10) (fd 10) ["tape", "many"] (spE G 2 r__law_take) :=
  fn_e T.d10.fn sc__law_take (by decide) fun cdv A outer s H E hr F hF hw => by
    have hK : K = F.G.K := by rw [hF]; exact T.gK
    have hu := hu4 hr
    have hu5 := hu65 hr
    have SC := sc__law_take
    exact (sb_cons (ss_if (st_cmp (ℓ₁ := .mo) (ℓ₂ := .mo) o_lt (sq_sub hK (sq_v 0) (sq_int (ℓ := .mo))) (sq_v 1) (nomark _) gB0_b) (sb_one (ss_if (st_cmp (ℓ₁ := .mo) (ℓ₂ := .mo) o_lt (sq_sub hK (sq_v 0) (sq_int (ℓ := .mo))) (sq_len (ℓ := .mo) hK T.z_len (sq_sub hK (sq_v 0) (sq_int (ℓ := .mo)))) (nomark _) gB0_b) (sb_cons (ss_set (i := 2) SC.nd rfl (by first | exact Or.inl rfl | exact Or.inr rfl) (sq_nl (ℓ := .fs) (sq_sub hK (sq_sub hK (sq_v 0) (sq_int (ℓ := .mo))) (sq_sub hK (sq_v 0) (sq_int (ℓ := .mo))))))
    (sb_cons (ss_set (i := 2) SC.nd rfl (by first | exact Or.inl rfl | exact Or.inr rfl) (sq_if (st_cmp (ℓ₁ := .mo) (ℓ₂ := .mo) o_ge (sq_v 2) (sq_int (ℓ := .mo)) (nomark _) gB0_b) (sq_bin (ℓ := .fs) (ℓ₁ := .mo) (ℓ₂ := .mo) o_mul (sq_int (ℓ := .mo)) (sq_v 2)) (sq_bin (ℓ := .fs) (ℓ₁ := .mo) (ℓ₂ := .mo) o_sub (sq_bin (ℓ := .mo) (ℓ₁ := .mo) (ℓ₂ := .mo) o_mul (sq_neg (ℓ := .mo) (sq_int (ℓ := .mo))) (sq_v 2)) (sq_int (ℓ := .mo)))))
    (sb_cons (ss_put hw (se_q (sq_bin (ℓ := .st) (ℓ₁ := .st) (ℓ₂ := .st) (o_add hK) (sq_nl (ℓ := .st) (sq_sub hK (sq_v 0) (sq_int (ℓ := .mo)))) (sq_int (ℓ := .st)))) (sq_v 0) (sq_int (ℓ := .mo)))
    (sb_cons (ss_put hw (se_q (sq_nl (ℓ := .st) (sq_call (ok__law_mix T) hF (hr.mono (by decide)) T.d8.mg T.d8.fn.kp T.d8.bd (sa_cons (sq_bin (ℓ := .mo) (ℓ₁ := .mo) (ℓ₂ := .mo) (o_add hK) (sq_sub hK (sq_v 0) (sq_int (ℓ := .mo))) (sq_v 2)) sa_nil)))) (sq_v 0) (sq_int (ℓ := .mo)))
    (sb_one (ss_put hw (se_q (sq_if (st_cmp (ℓ₁ := .mo) (ℓ₂ := .mo) o_ge (sq_v 2) (sq_bin (ℓ := .mo) (ℓ₁ := .mo) (ℓ₂ := .mo) o_pow (sq_int (ℓ := .mo)) (sq_int (ℓ := .mo))) (nomark _) gB0_b) (sq_nl (ℓ := .st) (sq_v 2)) (sq_nl (ℓ := .st) (sq_call (ok__law_mix T) hF (hr.mono (by decide)) T.d8.mg T.d8.fn.kp T.d8.bd (sa_cons (sq_bin (ℓ := .mo) (ℓ₁ := .mo) (ℓ₂ := .mo) (o_add hK) (sq_call (ok__law_mix T) hF (hr.mono (by decide)) T.d8.mg T.d8.fn.kp T.d8.bd (sa_cons (sq_v 2) sa_nil)) (sq_sub hK (sq_v 0) (sq_int (ℓ := .mo)))) sa_nil))))) (sq_v 0) (sq_int (ℓ := .mo)))))))) (sb_cons (ss_put hw (se_q (sq_nl (ℓ := .st) (sq_call (ok__law_mix T) hF (hr.mono (by decide)) T.d8.mg T.d8.fn.kp T.d8.bd (sa_cons (sq_bin (ℓ := .mo) (ℓ₁ := .mo) (ℓ₂ := .mo) (o_add hK) (sq_sub hK (sq_v 0) (sq_int (ℓ := .mo))) (sq_int (ℓ := .mo))) sa_nil)))) (sq_v 0) (sq_int (ℓ := .mo)))
    (sb_one (ss_put hw (se_q (sq_nl (ℓ := .st) (sq_sub hK (sq_v 0) (sq_int (ℓ := .mo))))) (sq_v 0) (sq_int (ℓ := .mo))))))) sb_nil)
    (sb_cons (ss_set (i := 3) SC.nd rfl (by first | exact Or.inl rfl | exact Or.inr rfl) (sq_bin (ℓ := .fs) (ℓ₁ := .mo) (ℓ₂ := .mo) o_mod (sq_toint (ℓ := .mo) T.z_int (sq_sub hK (sq_v 0) (sq_int (ℓ := .mo)))) (sq_v 1)))
    (sb_cons (ss_put hw (se_q (sq_bin (ℓ := .st) (ℓ₁ := .mo) (ℓ₂ := .mo) o_div (sq_sub hK (sq_v 0) (sq_int (ℓ := .mo))) (sq_v 1))) (sq_v 0) (sq_int (ℓ := .mo)))
    (sb_one (ss_ret (ℓ := .mo) (sq_v 3))))))
theorem sc__law_same : FnScope ["a", "b", "k"] ["a", "b"] (defScope s__law_same) := ⟨rfl, rfl, rfl, by decide +kernel, rfl, by decide +kernel, by decide +kernel⟩
theorem okg__law_same (T : Txt K mg G f fd) : ∀ n, FnOk P w K mg base CX0 (1 + n) (f 11) (fd 11) ["a", "b"] (spQ G 2 (g__law_same n))
  | 0 => fn_q (m := fun _ _ => none) T.d11.fn sc__law_same (by decide) fun cdv A outer s H E hr F hF => ⟨fun pins s σ H D I ⟨_, _, _, _, _, _, _, e, _⟩ => by cases e⟩
  | n + 1 => fn_q T.d11.fn sc__law_same (by decide) fun cdv A outer s H E hr F hF => by
    have ih := okg__law_same T n
    have hr : Room (1 + n) _ := hr
    have hK : K = F.G.K := by rw [hF]; exact T.gK
    have hu := hu4 hr
    have hu5 := hu65 hr
    have SC := sc__law_same
    exact (sb_cons (ss_if (PW.pt (sw_or (PW.pt (sw_and (st_v hK (sq_isi (ℓ := .mo) isi_tuple hK T.z_isinstance T.z_tuple (by decide +kernel) (sq_v 0))) (sw_and1 (st_v hK (sq_isi (ℓ := .mo) isi_tuple hK T.z_isinstance T.z_tuple (by decide +kernel) (sq_v 1)))))) (sw_or1 (PW.pt (sw_and (st_v hK (sq_isi (ℓ := .mo) isi_list hK T.z_isinstance T.z_list (by decide +kernel) (sq_v 0))) (sw_and1 (st_v hK (sq_isi (ℓ := .mo) isi_list hK T.z_isinstance T.z_list (by decide +kernel) (sq_v 1))))))))) (sb_one (ss_ret (ℓ := .mo) (sq_and (sq_cmp (ℓ := .mo) (ℓ₁ := .mo) (ℓ₂ := .mo) (o_eq hK hu) (sq_len (ℓ := .mo) hK T.z_len (sq_v 0)) (sq_len (ℓ := .mo) hK T.z_len (sq_v 1)) (nomark _)) (sq_one (sq_all (ℓ := .mo) hK rfl T.z_all (sq_f (sf_lc (own := [("k", 2)]) rfl SC.nd (si_rng T.z_range (sq_len (ℓ := .mo) hK T.z_len (sq_v 0))) (by kernel_rfl) (by decide) (fun _ _ _ _ _ => (sg_name (i := 2) SC.nd rfl (by first | exact Or.inl rfl | exact Or.inr rfl))) (fun _ _ _ _ _ => sts_nil) (fun _ _ _ _ _ => (sq_nl (ℓ := .st) (sq_call ih hF (hr.mono (by omega)) T.d11.mg T.d11.fn.kp T.d11.bd (sa_cons (sq_sub hK (sq_v 0) (sq_v 2)) (sa_cons (sq_sub hK (sq_v 1) (sq_v 2)) sa_nil)))))))))))) sb_nil)
    (sb_cons (ss_if (PW.pt (sw_or (st_v hK (sq_isi (ℓ := .mo) isi_bool hK T.z_isinstance T.z_bool (by decide +kernel) (sq_v 0))) (sw_or1 (st_v hK (sq_isi (ℓ := .mo) isi_bool hK T.z_isinstance T.z_bool (by decide +kernel) (sq_v 1)))))) (sb_one (ss_ret (ℓ := .mo) (sq_and (sq_isi (ℓ := .mo) isi_bool hK T.z_isinstance T.z_bool (by decide +kernel) (sq_v 0)) (sq_and (sq_isi (ℓ := .mo) isi_bool hK T.z_isinstance T.z_bool (by decide +kernel) (sq_v 1)) (sq_one (sq_cmp (ℓ := .mo) (ℓ₁ := .mo) (ℓ₂ := .mo) (o_eq hK hu) (sq_v 0) (sq_v 1) (nomark _))))))) sb_nil)
    (sb_cons (ss_if (PW.pt (sw_or (PW.pt (sw_and (st_v hK (sq_isi (ℓ := .mo) isi_int hK T.z_isinstance T.z_int (by decide +kernel) (sq_v 0))) (sw_and1 (st_v hK (sq_isi (ℓ := .mo) isi_int hK T.z_isinstance T.z_int (by decide +kernel) (sq_v 1)))))) (sw_or1 (PW.pt (sw_and (st_v hK (sq_isi (ℓ := .mo) isi_str hK T.z_isinstance T.z_str (by decide +kernel) (sq_v 0))) (sw_and1 (st_v hK (sq_isi (ℓ := .mo) isi_str hK T.z_isinstance T.z_str (by decide +kernel) (sq_v 1))))))))) (sb_one (ss_ret (ℓ := .mo) (sq_cmp (ℓ := .mo) (ℓ₁ := .mo) (ℓ₂ := .mo) (o_eq hK hu) (sq_v 0) (sq_v 1) (nomark _)))) sb_nil)
    (sb_one (ss_ret (ℓ := .mo) (sq_and (sq_isN (ℓ := .mo) (sq_v 0)) (sq_one (sq_isN (ℓ := .mo) (sq_v 1)))))))))
theorem ok__law_same (T : Txt K mg G f fd) : FnOk P w K mg base CX0 4 (f 11) (fd 11) ["a", "b"] (spQ G 2 (g__law_same 3)) := okg__law_same T 3
theorem sc__law_whole : FnScope ["value", "low", "high"] ["value", "low", "high"] (defScope s__law_whole) := ⟨rfl, rfl, rfl, by decide +kernel, rfl, by decide +kernel, by decide +kernel⟩
theorem ok__law_whole (T : Txt K mg G f fd) : FnOk P w K mg base CX0 1 (f 12) (fd 12) ["value", "low", "high"] (spQ G 3 r__law_whole) :=
  fn_q T.d12.fn sc__law_whole (by decide) fun cdv A outer s H E hr F hF => by
    have hK : K = F.G.K := by rw [hF]; exact T.gK
    have hu := hu4 hr
    have hu5 := hu65 hr
    have SC := sc__law_whole
    exact (sb_one (ss_ret (ℓ := .mo) (sq_and (sq_isi (ℓ := .mo) isi_int hK T.z_isinstance T.z_int (by decide +kernel) (sq_v 0)) (sq_and (sq_not (ℓ := .mo) hK (sq_isi (ℓ := .mo) isi_bool hK T.z_isinstance T.z_bool (by decide +kernel) (sq_v 0))) (sq_one (sq_le2 (ℓ := .mo) (sq_v 1) (sq_v 0) (sq_v 2)))))))
theorem sc__law_spoilt : FnScope ["tape", "value", "spot", "rows"] ["tape", "value"] (defScope s__law_spoilt) := ⟨rfl, rfl, rfl, by decide +kernel, rfl, by decide +kernel, by decide +kernel⟩
theorem okg__law_spoilt (T : Txt K mg G f fd) : ∀ n, FnOk P w K mg base CX0 (3 + n) (f 13) (fd 13) ["tape", "value"] (spE G 2 (g__law_spoilt n))
  | 0 => fn_e (m := fun _ _ => none) T.d13.fn sc__law_spoilt (by decide) fun cdv A outer s H E hr F hF hw => ⟨fun pins s σ H D I ⟨_, _, _, _, _, _, _, e, _⟩ => by cases e⟩
  | n + 1 => fn_e T.d13.fn sc__law_spoilt (by decide) fun cdv A outer s H E hr F hF hw => by
    have ih := okg__law_spoilt T n
    have hr : Room (3 + n) _ := hr
    have hK : K = F.G.K := by rw [hF]; exact T.gK
    have hu := hu4 hr
    have hu5 := hu65 hr
    have SC := sc__law_spoilt
    exact (sb_cons (ss_ifE (PW.pt (swe_and (ste_t (st_v hK (sq_isi (ℓ := .mo) isi_tuple hK T.z_isinstance T.z_tuple (by decide +kernel) (sq_v 1)))) (swe_and (ste_t (st_cmp (ℓ₁ := .mo) (ℓ₂ := .mo) o_gt (sq_len (ℓ := .mo) hK T.z_len (sq_v 1)) (sq_int (ℓ := .mo)) (nomark _) gB0_b)) (swe_1 (op := .And) (ste_cmp o_gt (se_fs (se_call (ok__law_take T) hF hw (hr.mono (by omega)) T.d10.mg T.d10.fn.kp T.d10.bd (sea_cons (se_q (sq_vs 0)) (sea_cons (se_q (sq_int (ℓ := .fs))) sea_nil)))) (se_q (sq_int (ℓ := .fs))) (nomark _) gB0_b))))) (sb_cons (ss_setE (i := 2) SC.nd rfl (by first | exact Or.inl rfl | exact Or.inr rfl) (se_fs (se_call (ok__law_take T) hF hw (hr.mono (by omega)) T.d10.mg T.d10.fn.kp T.d10.bd (sea_cons (se_q (sq_vs 0)) (sea_cons (se_q (sq_len (ℓ := .fs) hK T.z_len (sq_v 1))) sea_nil)))))
    (sb_cons (ss_ifE (ste_cmp (BinS.fs (o_eq hK hu)) (se_fs (se_call (ok__law_take T) hF hw (hr.mono (by omega)) T.d10.mg T.d10.fn.kp T.d10.bd (sea_cons (se_q (sq_vs 0)) (sea_cons (se_q (sq_int (ℓ := .fs))) sea_nil)))) (se_q (sq_int (ℓ := .fs))) (nomark _) gEq_b) (sb_one (ss_ret (ℓ := .mo) (sq_bin (ℓ := .mo) (ℓ₁ := .mo) (ℓ₂ := .mo) (o_add hK) (sq_slice hK (sq_v 1) so_none (so_some (sq_v 2))) (sq_slice hK (sq_v 1) (so_some (sq_bin (ℓ := .mo) (ℓ₁ := .mo) (ℓ₂ := .mo) (o_add hK) (sq_v 2) (sq_int (ℓ := .mo)))) so_none)))) sb_nil)
    (sb_one (ss_retE (ℓ := .st) (se_nl (ℓ := .st) (se_bin (ℓ := .fs) (o_add hK) (se_bin (ℓ := .fs) (o_add hK) (se_q (sq_slice hK (sq_vs 1) so_none (so_some (sq_v 2)))) (se_tup (sea_cons (se_fs (se_call ih hF hw (hr.mono (by omega)) T.d13.mg T.d13.fn.kp T.d13.bd (sea_cons (se_q (sq_vs 0)) (sea_cons (se_q (sq_nl (ℓ := .fs) (sq_sub hK (sq_v 1) (sq_v 2)))) sea_nil)))) sea_nil))) (se_q (sq_slice hK (sq_vs 1) (so_some (sq_bin (ℓ := .mo) (ℓ₁ := .mo) (ℓ₂ := .mo) (o_add hK) (sq_v 2) (sq_int (ℓ := .mo)))) so_none)))))))) sb_nil)
    (sb_cons (ss_setO (i := 3) SC.nd rfl (by first | exact Or.inl rfl | exact Or.inr rfl) (sf_lst (sa_cons (sq_non (ℓ := .st)) (sa_cons (sq_tup sa_nil) (sa_cons (sq_int (ℓ := .st)) (sa_cons (sq_int (ℓ := .st)) (sa_cons (sq_bl (ℓ := .st)) (sa_cons (sq_bl (ℓ := .st)) (sa_cons (sq_str (ℓ := .st)) (sa_cons (sq_neg (ℓ := .st) (sq_int (ℓ := .mo))) (sa_cons (sq_tup (sa_cons (sq_int (ℓ := .st)) sa_nil)) (sa_cons (sq_tup (sa_cons (sq_tup (sa_cons (sq_int (ℓ := .st)) (sa_cons (sq_int (ℓ := .st)) sa_nil))) sa_nil)) sa_nil))))))))))))
    (sb_cons (ss_if (st_v hK (sq_isi (ℓ := .mo) isi_int hK T.z_isinstance T.z_int (by decide +kernel) (sq_v 1))) (sb_one (ss_setO (i := 3) SC.nd rfl (by first | exact Or.inl rfl | exact Or.inr rfl) (sf_cat hK (sq_v 3) (sq_f (sf_lst (sa_cons (sq_bin (ℓ := .st) (ℓ₁ := .st) (ℓ₂ := .st) (o_add hK) (sq_nl (ℓ := .st) (sq_v 1)) (sq_int (ℓ := .st))) (sa_cons (sq_bin (ℓ := .st) (ℓ₁ := .mo) (ℓ₂ := .mo) o_sub (sq_v 1) (sq_int (ℓ := .mo))) (sa_cons (sq_cmp (ℓ := .st) (ℓ₁ := .mo) (ℓ₂ := .mo) (o_eq hK hu) (sq_v 1) (sq_int (ℓ := .mo)) (nomark _)) (sa_cons (sq_bin (ℓ := .st) (ℓ₁ := .st) (ℓ₂ := .st) (o_add hK) (sq_nl (ℓ := .st) (sq_v 1)) (sq_int (ℓ := .st))) sa_nil))))))))) sb_nil)
    (sb_cons (ss_if (st_v hK (sq_isi (ℓ := .mo) isi_tuple hK T.z_isinstance T.z_tuple (by decide +kernel) (sq_v 1))) (sb_one (ss_setO (i := 3) SC.nd rfl (by first | exact Or.inl rfl | exact Or.inr rfl) (sf_cat hK (sq_v 3) (sq_f (sf_lst (sa_cons (sq_slice hK (sq_nl (ℓ := .st) (sq_v 1)) so_none (so_some (sq_neg (ℓ := .mo) (sq_int (ℓ := .mo))))) (sa_cons (sq_bin (ℓ := .st) (ℓ₁ := .st) (ℓ₂ := .st) (o_add hK) (sq_nl (ℓ := .st) (sq_v 1)) (sq_slice hK (sq_nl (ℓ := .st) (sq_v 1)) (so_some (sq_neg (ℓ := .mo) (sq_int (ℓ := .mo)))) so_none)) (sa_cons (sq_rev hK (sq_nl (ℓ := .st) (sq_v 1))) (sa_cons (sq_bin (ℓ := .st) (ℓ₁ := .st) (ℓ₂ := .st) (o_add hK) (sq_nl (ℓ := .st) (sq_v 1)) (sq_tup (sa_cons (sq_tup (sa_cons (sq_int (ℓ := .st)) (sa_cons (sq_int (ℓ := .st)) sa_nil))) sa_nil))) (sa_cons (sq_tup (sa_cons (sq_nl (ℓ := .st) (sq_v 1)) sa_nil)) (sa_cons (sq_slice hK (sq_nl (ℓ := .st) (sq_v 1)) (so_some (sq_int (ℓ := .mo))) so_none) sa_nil))))))))))) sb_nil)
    (sb_hold 3 (sb_one (ss_retE (ℓ := .st) (se_nl (ℓ := .st) (se_sub hK (se_q (sq_vs 3)) (se_fs (se_call (ok__law_take T) hF hw (hr.mono (by omega)) T.d10.mg T.d10.fn.kp T.d10.bd (sea_cons (se_q (sq_vs 0)) (sea_cons (se_q (sq_len (ℓ := .fs) hK T.z_len (sq_v 3))) sea_nil)))))))))))))
theorem ok__law_spoilt (T : Txt K mg G f fd) : FnOk P w K mg base CX0 7 (f 13) (fd 13) ["tape", "value"] (spE G 2 (g__law_spoilt 4)) := okg__law_spoilt T 4
theorem sc__law_covers : FnScope ["spans", "times", "first", "last", "time"] ["spans", "times"] (defScope s__law_covers) := ⟨rfl, rfl, rfl, by decide +kernel, rfl, by decide +kernel, by decide +kernel⟩
theorem ok__law_covers (T : Txt K mg G f fd) : FnOk P w K mg base CX0 1 (f 14) (fd 14) ["spans", "times"] (spQ G 2 r__law_covers) :=
  fn_q T.d14.fn sc__law_covers (by decide) fun cdv A outer s H E hr F hF => by
    have hK : K = F.G.K := by rw [hF]; exact T.gK
    have hu := hu4 hr
    have hu5 := hu65 hr
    have SC := sc__law_covers
    exact (sb_one (ss_ret (ℓ := .mo) (sq_all (ℓ := .mo) hK rfl T.z_all (sq_f (sf_lc (own := [("first", 2), ("last", 3)]) rfl SC.nd (si_seqN hK (sq_v 0)) (by kernel_rfl) (by decide) (fun _ _ _ _ _ => (sg_tup hK rfl (sgs_cons (sg_name (i := 2) SC.nd rfl (by first | exact Or.inl rfl | exact Or.inr rfl)) (sgs_cons (sg_name (i := 3) SC.nd rfl (by first | exact Or.inl rfl | exact Or.inr rfl)) sgs_nil)))) (fun _ _ _ _ _ => sts_nil) (fun _ _ _ _ _ => (sq_any (ℓ := .st) hK rfl T.z_any (sq_f (sf_lc (own := [("time", 4)]) rfl SC.nd (si_seqN hK (sq_v 1)) (by kernel_rfl) (by decide) (fun _ _ _ _ _ => (sg_name (i := 4) SC.nd rfl (by first | exact Or.inl rfl | exact Or.inr rfl))) (fun _ _ _ _ _ => sts_nil) (fun _ _ _ _ _ => (sq_le2 (ℓ := .st) (sq_v 2) (sq_v 4) (sq_v 3))))))))))))
theorem sc__law_fewest : FnScope ["spans", "lasts", "rows", "size", "more_rows", "times", "first", "last"] ["spans"] (defScope s__law_fewest) := ⟨rfl, rfl, rfl, by decide +kernel, rfl, by decide +kernel, by decide +kernel⟩
theorem ok__law_fewest (T : Txt K mg G f fd) : FnOk P w K mg base CX0 2 (f 15) (fd 15) ["spans"] (spQ G 1 r__law_fewest) :=
  fn_q T.d15.fn sc__law_fewest (by decide) fun cdv A outer s H E hr F hF => by
    have hK : K = F.G.K := by rw [hF]; exact T.gK
    have hu := hu4 hr
    have hu5 := hu65 hr
    have SC := sc__law_fewest
    exact (sb_cons (ss_setO (i := 1) SC.nd rfl (by first | exact Or.inl rfl | exact Or.inr rfl) (sf_sset hK rfl T.z_sorted T.z_set (sq_f (sf_lc (own := [("first", 6), ("last", 7)]) rfl SC.nd (si_seqN hK (sq_v 0)) (by kernel_rfl) (by decide) (fun _ _ _ _ _ => (sg_tup hK rfl (sgs_cons (sg_name (i := 6) SC.nd rfl (by first | exact Or.inl rfl | exact Or.inr rfl)) (sgs_cons (sg_name (i := 7) SC.nd rfl (by first | exact Or.inl rfl | exact Or.inr rfl)) sgs_nil)))) (fun _ _ _ _ _ => sts_nil) (fun _ _ _ _ _ => (sq_nl (ℓ := .st) (sq_v 7)))))))
    (sb_cons (ss_setO (i := 2) SC.nd rfl (by first | exact Or.inl rfl | exact Or.inr rfl) (sf_lst (sa_cons (sq_tup sa_nil) sa_nil)))
    (sb_cons (ss_for [3, 4] PassesOwn.never rfl (si_rng T.z_range (sq_bin (ℓ := .mo) (ℓ₁ := .mo) (ℓ₂ := .mo) (o_add hK) (sq_len (ℓ := .mo) hK T.z_len (sq_v 1)) (sq_int (ℓ := .mo)))) (sg_name (i := 3) SC.nd rfl (by first | exact Or.inl rfl | exact Or.inr rfl)) (sb_cons (ss_if (st_v hK (sq_any (ℓ := .mo) hK rfl T.z_any (sq_f (sf_lc (own := [("times", 5)]) rfl SC.nd (si_seqN hK (sq_v 2)) (by kernel_rfl) (by decide) (fun _ _ _ _ _ => (sg_name (i := 5) SC.nd rfl (by first | exact Or.inl rfl | exact Or.inr rfl))) (fun _ _ _ _ _ => sts_nil) (fun _ _ _ _ _ => (sq_nl (ℓ := .st) (sq_call (ok__law_covers T) hF (hr.mono (by decide)) T.d14.mg T.d14.fn.kp T.d14.bd (sa_cons (sq_v 0) (sa_cons (sq_v 5) sa_nil))))))))) (sb_one (ss_ret (ℓ := .mo) (sq_v 3))) sb_nil)
    (sb_cons (ss_setO (i := 4) SC.nd rfl (by first | exact Or.inl rfl | exact Or.inr rfl) (sf_lst sa_nil))
    (sb_hold 2 (sb_cons (ss_for [] PassesOwn.never rfl (si_seqS hK (sq_vs 2)) (sg_name (i := 5) SC.nd rfl (by first | exact Or.inl rfl | exact Or.inr rfl)) (sb_one (ss_ext (i := 4) hK (sef_f (sf_lc (own := [("last", 7)]) rfl SC.nd (si_seqN hK (sq_v 1)) (by kernel_rfl) (by decide) (fun _ _ _ _ _ => (sg_name (i := 7) SC.nd rfl (by first | exact Or.inl rfl | exact Or.inr rfl))) (fun _ _ _ _ _ => (sts_one (PW.pt (sw_or (st_cmp (ℓ₁ := .mo) (ℓ₂ := .mo) (o_eq hK hu) (sq_v 5) (sq_tup sa_nil) (nomark _) gEq_b) (sw_or1 (st_cmp (ℓ₁ := .mo) (ℓ₂ := .mo) o_gt (sq_v 7) (sq_sub hK (sq_v 5) (sq_neg (ℓ := .mo) (sq_int (ℓ := .mo)))) (nomark _) gB0_b)))))) (fun _ _ _ _ _ => (sq_bin (ℓ := .st) (ℓ₁ := .st) (ℓ₂ := .st) (o_add hK) (sq_nl (ℓ := .st) (sq_v 5)) (sq_tup (sa_cons (sq_nl (ℓ := .st) (sq_v 7)) sa_nil)))))))))
    (sb_hold 4 (sb_one (ss_set (i := 2) SC.nd rfl (by first | exact Or.inl rfl | exact Or.inr rfl) (sq_vs 4)))))))))
    (sb_one (ss_ret (ℓ := .mo) (sq_non (ℓ := .mo)))))))
theorem sc__law_is_paper : FnScope ["spans", "many", "value", "k", "j"] ["spans", "many", "value"] (defScope s__law_is_paper) := ⟨rfl, rfl, rfl, by decide +kernel, rfl, by decide +kernel, by decide +kernel⟩
theorem ok__law_is_paper (T : Txt K mg G f fd) : FnOk P w K mg base CX0 2 (f 16) (fd 16) ["spans", "many", "value"] (spQ G 3 r__law_is_paper) :=
  fn_q T.d16.fn sc__law_is_paper (by decide) fun cdv A outer s H E hr F hF => by
    have hK : K = F.G.K := by rw [hF]; exact T.gK
    have hu := hu4 hr
    have hu5 := hu65 hr
    have SC := sc__law_is_paper
    exact (sb_cons (ss_if (PW.pt (sw_or (st_not (st_v hK (sq_isi (ℓ := .mo) isi_tuple hK T.z_isinstance T.z_tuple (by decide +kernel) (sq_v 2)))) (sw_or (st_not (st_v hK (sq_all (ℓ := .mo) hK rfl T.z_all (sq_f (sf_lc (own := [("k", 3)]) rfl SC.nd (si_seqN hK (sq_v 2)) (by kernel_rfl) (by decide) (fun _ _ _ _ _ => (sg_name (i := 3) SC.nd rfl (by first | exact Or.inl rfl | exact Or.inr rfl))) (fun _ _ _ _ _ => sts_nil) (fun _ _ _ _ _ => (sq_nl (ℓ := .st) (sq_call (ok__law_whole T) hF (hr.mono (by decide)) T.d12.mg T.d12.fn.kp T.d12.bd (sa_cons (sq_v 3) (sa_cons (sq_int (ℓ := .mo)) (sa_cons (sq_bin (ℓ := .mo) (ℓ₁ := .mo) (ℓ₂ := .mo) o_sub (sq_len (ℓ := .mo) hK T.z_len (sq_v 0)) (sq_int (ℓ := .mo))) sa_nil))))))))))) (sw_or (st_cmp (ℓ₁ := .mo) (ℓ₂ := .mo) (o_ne hK hu) (sq_f (sf_tolist hK T.z_list (sq_v 2))) (sq_f (sf_sset hK rfl T.z_sorted T.z_set (sq_v 2))) (nomark _) gNe_b) (sw_or1 (st_cmp (ℓ₁ := .mo) (ℓ₂ := .mo) o_lt (sq_len (ℓ := .mo) hK T.z_len (sq_v 2)) (sq_v 1) (nomark _) gB0_b)))))) (sb_one (ss_ret (ℓ := .mo) (sq_bl (ℓ := .mo)))) sb_nil)
    (sb_one (ss_ret (ℓ := .mo) (sq_not (ℓ := .mo) hK (sq_any (ℓ := .mo) hK rfl T.z_any (sq_f (sf_lc (own := [("k", 3)]) rfl SC.nd (si_seqN hK (sq_v 2)) (by kernel_rfl) (by decide) (fun _ _ _ _ _ => (sg_name (i := 3) SC.nd rfl (by first | exact Or.inl rfl | exact Or.inr rfl))) (fun _ _ _ _ _ => sts_nil) (fun _ _ _ _ _ => (sq_any (ℓ := .st) hK rfl T.z_any (sq_f (sf_lc (own := [("j", 4)]) rfl SC.nd (si_seqN hK (sq_v 2)) (by kernel_rfl) (by decide) (fun _ _ _ _ _ => (sg_name (i := 4) SC.nd rfl (by first | exact Or.inl rfl | exact Or.inr rfl))) (fun _ _ _ _ _ => sts_nil) (fun _ _ _ _ _ => (sq_and (sq_cmp (ℓ := .st) (ℓ₁ := .mo) (ℓ₂ := .mo) (o_ne hK hu) (sq_v 4) (sq_v 3) (nomark _)) (sq_and (sq_cmp (ℓ := .st) (ℓ₁ := .mo) (ℓ₂ := .mo) o_le (sq_sub hK (sq_sub hK (sq_v 0) (sq_v 4)) (sq_int (ℓ := .mo))) (sq_sub hK (sq_sub hK (sq_v 0) (sq_v 3)) (sq_int (ℓ := .mo))) (nomark _)) (sq_one (sq_cmp (ℓ := .st) (ℓ₁ := .mo) (ℓ₂ := .mo) o_le (sq_sub hK (sq_sub hK (sq_v 0) (sq_v 3)) (sq_int (ℓ := .mo))) (sq_sub hK (sq_sub hK (sq_v 0) (sq_v 4)) (sq_int (ℓ := .mo))) (nomark _)))))))))))))))))
theorem sc_law : FnScope ["script", "tape", "spans", "turn", "k", "first", "many", "told", "paper", "value", "fine", "size", "time"] ["script"] (defScope s_law) := ⟨rfl, rfl, rfl, by decide +kernel, rfl, by decide +kernel, by decide +kernel⟩
theorem ok_law (T : Txt K mg G f fd) : FnOk P w K mg base CX0 8 (f 17) (fd 17) ["script"] (spE G 1 r_law) :=
  fn_e T.d17.fn sc_law (by decide) fun cdv A outer s H E hr F hF hw => by
    have hK : K = F.G.K := by rw [hF]; exact T.gK
    have hu := hu4 hr
    have hu5 := hu65 hr
    have SC := sc_law
    exact (sb_cons (ss_setE (i := 1) SC.nd rfl (by first | exact Or.inl rfl | exact Or.inr rfl) (se_fs (se_call (ok__law_tape T) hF hw (hr.mono (by decide)) T.d9.mg T.d9.fn.kp T.d9.bd (sea_cons (se_q (sq_vs 0)) sea_nil))))
    (sb_cons (ss_set (i := 2) SC.nd rfl (by first | exact Or.inl rfl | exact Or.inr rfl) (sq_tup (sa_cons (sq_tup (sa_cons (sq_int (ℓ := .fs)) (sa_cons (sq_int (ℓ := .fs)) sa_nil))) (sa_cons (sq_tup (sa_cons (sq_int (ℓ := .fs)) (sa_cons (sq_int (ℓ := .fs)) sa_nil))) (sa_cons (sq_tup (sa_cons (sq_int (ℓ := .fs)) (sa_cons (sq_int (ℓ := .fs)) sa_nil))) (sa_cons (sq_tup (sa_cons (sq_int (ℓ := .fs)) (sa_cons (sq_int (ℓ := .fs)) sa_nil))) sa_nil))))))
    (sb_cons (ss_if (PW.pt (sw_or (st_cmp (ℓ₁ := .mo) (ℓ₂ := .mo) (o_ne hK hu) (sq_call (ok_fewest_forces T) hF (hr.mono (by decide)) T.d4.mg T.d4.fn.kp T.d4.bd (sa_cons (sq_v 2) sa_nil)) (sq_tup (sa_cons (sq_int (ℓ := .mo)) (sa_cons (sq_int (ℓ := .mo)) sa_nil))) (nomark _) gNe_b) (sw_or (st_not (st_v hK (sq_call (ok__law_is_paper T) hF (hr.mono (by decide)) T.d16.mg T.d16.fn.kp T.d16.bd (sa_cons (sq_v 2) (sa_cons (sq_int (ℓ := .mo)) (sa_cons (sq_call (ok_force_paper T) hF (hr.mono (by decide)) T.d6.mg T.d6.fn.kp T.d6.bd (sa_cons (sq_v 2) sa_nil)) sa_nil)))))) (sw_or1 (st_cmp (ℓ₁ := .mo) (ℓ₂ := .mo) (o_ne hK hu) (sq_call (ok_fewest_forces T) hF (hr.mono (by decide)) T.d4.mg T.d4.fn.kp T.d4.bd (sa_cons (sq_tup sa_nil) sa_nil)) (sq_tup sa_nil) (nomark _) gNe_b))))) (sb_one (ss_ret (ℓ := .mo) (sq_bl (ℓ := .mo)))) sb_nil)
    (sb_cons (ss_if (PW.pt (sw_or (st_cmp (ℓ₁ := .mo) (ℓ₂ := .mo) (o_ne hK hu) (sq_call (ok_force_paper T) hF (hr.mono (by decide)) T.d6.mg T.d6.fn.kp T.d6.bd (sa_cons (sq_tup sa_nil) sa_nil)) (sq_tup sa_nil) (nomark _) gNe_b) (sw_or (st_cmp (ℓ₁ := .mo) (ℓ₂ := .mo) o_noB (sq_call (ok_are_enough T) hF (hr.mono (by decide)) T.d5.mg T.d5.fn.kp T.d5.bd (sa_cons (sq_v 2) (sa_cons (sq_tup (sa_cons (sq_int (ℓ := .mo)) (sa_cons (sq_int (ℓ := .mo)) sa_nil))) sa_nil))) (sq_bl (ℓ := .mo)) (nomark _) gIsB_b) (sw_or1 (st_cmp (ℓ₁ := .mo) (ℓ₂ := .mo) o_noB (sq_call (ok_are_enough T) hF (hr.mono (by decide)) T.d5.mg T.d5.fn.kp T.d5.bd (sa_cons (sq_v 2) (sa_cons (sq_tup (sa_cons (sq_int (ℓ := .mo)) (sa_cons (sq_int (ℓ := .mo)) sa_nil))) sa_nil))) (sq_bl (ℓ := .mo)) (nomark _) gIsB_b))))) (sb_one (ss_ret (ℓ := .mo) (sq_bl (ℓ := .mo)))) sb_nil)
    (sb_cons (ss_for [3, 4, 6, 7, 8, 9] PassesOwn.never rfl (si_rng T.z_range (sq_int (ℓ := .mo))) (sg_name (i := 3) SC.nd rfl (by first | exact Or.inl rfl | exact Or.inr rfl)) (sb_cons (ss_setO (i := 2) SC.nd rfl (by first | exact Or.inl rfl | exact Or.inr rfl) (sf_lst sa_nil))
    (sb_cons (ss_forE [5] PassesOwn.never rfl (sie_rng T.z_range (se_fs (se_call (ok__law_take T) hF hw (hr.mono (by decide)) T.d10.mg T.d10.fn.kp T.d10.bd (sea_cons (se_q (sq_vs 1)) (sea_cons (se_q (sq_int (ℓ := .fs))) sea_nil))))) (sg_name (i := 4) SC.nd rfl (by first | exact Or.inl rfl | exact Or.inr rfl)) (sb_cons (ss_setE (i := 5) SC.nd rfl (by first | exact Or.inl rfl | exact Or.inr rfl) (se_bin (ℓ := .fs) o_sub (se_fs (se_call (ok__law_take T) hF hw (hr.mono (by decide)) T.d10.mg T.d10.fn.kp T.d10.bd (sea_cons (se_q (sq_vs 1)) (sea_cons (se_q (sq_int (ℓ := .fs))) sea_nil)))) (se_q (sq_int (ℓ := .fs)))))
    (sb_one (ss_app (i := 2) hK (se_nl (ℓ := .st) (se_tup (sea_cons (se_q (sq_vs 5)) (sea_cons (se_bin (ℓ := .fs) (o_add hK) (se_q (sq_vs 5)) (se_fs (se_call (ok__law_take T) hF hw (hr.mono (by decide)) T.d10.mg T.d10.fn.kp T.d10.bd (sea_cons (se_q (sq_vs 1)) (sea_cons (se_q (sq_int (ℓ := .fs))) sea_nil))))) sea_nil))))))))
    (sb_cons (ss_set (i := 2) SC.nd rfl (by first | exact Or.inl rfl | exact Or.inr rfl) (sq_nl (ℓ := .fs) (sq_totup hK T.z_tuple (sq_v 2))))
    (sb_cons (ss_asg (sq_tup (sa_cons (sq_nl (ℓ := .fs) (sq_call (ok__law_fewest T) hF (hr.mono (by decide)) T.d15.mg T.d15.fn.kp T.d15.bd (sa_cons (sq_v 2) sa_nil))) (sa_cons (sq_nl (ℓ := .fs) (sq_call (ok_fewest_forces T) hF (hr.mono (by decide)) T.d4.mg T.d4.fn.kp T.d4.bd (sa_cons (sq_v 2) sa_nil))) (sa_cons (sq_nl (ℓ := .fs) (sq_call (ok_force_paper T) hF (hr.mono (by decide)) T.d6.mg T.d6.fn.kp T.d6.bd (sa_cons (sq_v 2) sa_nil))) sa_nil)))) (sg_tup hK rfl (sgs_cons (sg_name (i := 6) SC.nd rfl (by first | exact Or.inl rfl | exact Or.inr rfl)) (sgs_cons (sg_name (i := 7) SC.nd rfl (by first | exact Or.inl rfl | exact Or.inr rfl)) (sgs_cons (sg_name (i := 8) SC.nd rfl (by first | exact Or.inl rfl | exact Or.inr rfl)) sgs_nil)))))
    (sb_cons (ss_if (PW.pt (sw_or (st_not (st_v hK (sq_isi (ℓ := .mo) isi_tuple hK T.z_isinstance T.z_tuple (by decide +kernel) (sq_v 7)))) (sw_or (st_cmp (ℓ₁ := .mo) (ℓ₂ := .mo) (o_ne hK hu) (sq_len (ℓ := .mo) hK T.z_len (sq_v 7)) (sq_v 6) (nomark _) gNe_b) (sw_or (st_cmp (ℓ₁ := .mo) (ℓ₂ := .mo) (o_ne hK hu) (sq_f (sf_tolist hK T.z_list (sq_v 7))) (sq_f (sf_sset hK rfl T.z_sorted T.z_set (sq_v 7))) (nomark _) gNe_b) (sw_or (st_not (st_v hK (sq_call (ok__law_covers T) hF (hr.mono (by decide)) T.d14.mg T.d14.fn.kp T.d14.bd (sa_cons (sq_v 2) (sa_cons (sq_v 7) sa_nil))))) (sw_or1 (st_cmp (ℓ₁ := .mo) (ℓ₂ := .mo) o_noB (sq_call (ok_are_enough T) hF (hr.mono (by decide)) T.d5.mg T.d5.fn.kp T.d5.bd (sa_cons (sq_v 2) (sa_cons (sq_v 7) sa_nil))) (sq_bl (ℓ := .mo)) (nomark _) gIsB_b))))))) (sb_one (ss_ret (ℓ := .mo) (sq_bl (ℓ := .mo)))) sb_nil)
    (sb_cons (ss_if (PW.pt (sw_or (st_cmp (ℓ₁ := .mo) (ℓ₂ := .mo) (o_ne hK hu) (sq_len (ℓ := .mo) hK T.z_len (sq_v 8)) (sq_v 6) (nomark _) gNe_b) (sw_or (st_not (st_v hK (sq_call (ok__law_is_paper T) hF (hr.mono (by decide)) T.d16.mg T.d16.fn.kp T.d16.bd (sa_cons (sq_v 2) (sa_cons (sq_v 6) (sa_cons (sq_v 8) sa_nil)))))) (sw_or1 (st_cmp (ℓ₁ := .mo) (ℓ₂ := .mo) o_noB (sq_call (ok_is_force_paper T) hF (hr.mono (by decide)) T.d7.mg T.d7.fn.kp T.d7.bd (sa_cons (sq_v 2) (sa_cons (sq_v 6) (sa_cons (sq_v 8) sa_nil)))) (sq_bl (ℓ := .mo)) (nomark _) gIsB_b))))) (sb_one (ss_ret (ℓ := .mo) (sq_bl (ℓ := .mo)))) sb_nil)
    (sb_cons (ss_forE [10] PassesOwn.never rfl (sie_seq hK (se_fs (se_lock (sef_cat hK (se_q (sq_st (ℓ := .fs) (sq_lock (sf_lst (sa_cons (sq_nl (ℓ := .st) (sq_v 7)) (sa_cons (sq_slice hK (sq_nl (ℓ := .st) (sq_v 7)) (so_some (sq_int (ℓ := .mo))) so_none) (sa_cons (sq_rev hK (sq_nl (ℓ := .st) (sq_v 7))) (sa_cons (sq_bin (ℓ := .st) (ℓ₁ := .st) (ℓ₂ := .st) (o_add hK) (sq_nl (ℓ := .st) (sq_v 7)) (sq_tup (sa_cons (sq_int (ℓ := .st)) sa_nil))) (sa_cons (sq_non (ℓ := .st)) (sa_cons (sq_tup sa_nil) (sa_cons (sq_tup (sa_cons (sq_bl (ℓ := .st)) sa_nil)) (sa_cons (sq_tup (sa_cons (sq_non (ℓ := .st)) sa_nil)) sa_nil)))))))))))) (se_fs (se_lock (sef_lc (own := [("k", 4)]) hw rfl SC.nd (sie_i (si_rng T.z_range (sq_int (ℓ := .mo)))) (by kernel_rfl) (by decide) (fun _ _ _ _ _ => (sg_name (i := 4) SC.nd rfl (by first | exact Or.inl rfl | exact Or.inr rfl))) (fun _ _ _ _ _ => sts_nil) (fun _ _ _ _ _ => (se_call (ok__law_spoilt T) hF hw (hr.mono (by decide)) T.d13.mg T.d13.fn.kp T.d13.bd (sea_cons (se_q (sq_vs 1)) (sea_cons (se_q (sq_vs 7)) sea_nil))))))))))) (sg_name (i := 9) SC.nd rfl (by first | exact Or.inl rfl | exact Or.inr rfl)) (sb_cons (ss_set (i := 10) SC.nd rfl (by first | exact Or.inl rfl | exact Or.inr rfl) (sq_and (sq_isi (ℓ := .fs) isi_tuple hK T.z_isinstance T.z_tuple (by decide +kernel) (sq_v 9)) (sq_and (sq_all (ℓ := .fs) hK rfl T.z_all (sq_f (sf_lc (own := [("time", 12)]) rfl SC.nd (si_seqN hK (sq_v 9)) (by kernel_rfl) (by decide) (fun _ _ _ _ _ => (sg_name (i := 12) SC.nd rfl (by first | exact Or.inl rfl | exact Or.inr rfl))) (fun _ _ _ _ _ => sts_nil) (fun _ _ _ _ _ => (sq_nl (ℓ := .st) (sq_call (ok__law_whole T) hF (hr.mono (by decide)) T.d12.mg T.d12.fn.kp T.d12.bd (sa_cons (sq_v 12) (sa_cons (sq_neg (ℓ := .mo) (sq_int (ℓ := .mo))) (sa_cons (sq_int (ℓ := .mo)) sa_nil))))))))) (sq_and (sq_cmp (ℓ := .fs) (ℓ₁ := .mo) (ℓ₂ := .mo) (o_eq hK hu) (sq_f (sf_tolist hK T.z_list (sq_v 9))) (sq_f (sf_sset hK rfl T.z_sorted T.z_set (sq_v 9))) (nomark _)) (sq_one (sq_nl (ℓ := .fs) (sq_call (ok__law_covers T) hF (hr.mono (by decide)) T.d14.mg T.d14.fn.kp T.d14.bd (sa_cons (sq_v 2) (sa_cons (sq_v 9) sa_nil)))))))))
    (sb_one (ss_if (st_not (st_v hK (sq_call (ok__law_same T) hF (hr.mono (by decide)) T.d11.mg T.d11.fn.kp T.d11.bd (sa_cons (sq_call (ok_are_enough T) hF (hr.mono (by decide)) T.d5.mg T.d5.fn.kp T.d5.bd (sa_cons (sq_v 2) (sa_cons (sq_v 9) sa_nil))) (sa_cons (sq_v 10) sa_nil))))) (sb_one (ss_ret (ℓ := .mo) (sq_bl (ℓ := .mo)))) sb_nil))))
    (sb_one (ss_forE [11] PassesOwn.never rfl (sie_seq hK (se_fs (se_lock (sef_cat hK (se_q (sq_st (ℓ := .fs) (sq_lock (sf_lst (sa_cons (sq_nl (ℓ := .st) (sq_v 8)) (sa_cons (sq_slice hK (sq_nl (ℓ := .st) (sq_v 8)) (so_some (sq_int (ℓ := .mo))) so_none) (sa_cons (sq_rev hK (sq_nl (ℓ := .st) (sq_v 8))) (sa_cons (sq_tuprng (ℓ := .st) rfl T.z_tuple T.z_range (sq_len (ℓ := .mo) hK T.z_len (sq_v 2))) (sa_cons (sq_bin (ℓ := .st) (ℓ₁ := .st) (ℓ₂ := .st) (o_add hK) (sq_nl (ℓ := .st) (sq_v 8)) (sq_tup (sa_cons (sq_len (ℓ := .st) hK T.z_len (sq_v 2)) sa_nil))) (sa_cons (sq_non (ℓ := .st)) (sa_cons (sq_tup sa_nil) (sa_cons (sq_tup (sa_cons (sq_bl (ℓ := .st)) sa_nil)) sa_nil)))))))))))) (se_fs (se_lock (sef_lc (own := [("k", 4)]) hw rfl SC.nd (sie_i (si_rng T.z_range (sq_int (ℓ := .mo)))) (by kernel_rfl) (by decide) (fun _ _ _ _ _ => (sg_name (i := 4) SC.nd rfl (by first | exact Or.inl rfl | exact Or.inr rfl))) (fun _ _ _ _ _ => sts_nil) (fun _ _ _ _ _ => (se_call (ok__law_spoilt T) hF hw (hr.mono (by decide)) T.d13.mg T.d13.fn.kp T.d13.bd (sea_cons (se_q (sq_vs 1)) (sea_cons (se_q (sq_vs 8)) sea_nil))))))))))) (sg_name (i := 9) SC.nd rfl (by first | exact Or.inl rfl | exact Or.inr rfl)) (sb_cons (ss_setE (i := 11) SC.nd rfl (by first | exact Or.inl rfl | exact Or.inr rfl) (se_bin (ℓ := .fs) o_sub (se_bin (ℓ := .fs) (o_add hK) (se_q (sq_vs 6)) (se_fs (se_call (ok__law_take T) hF hw (hr.mono (by decide)) T.d10.mg T.d10.fn.kp T.d10.bd (sea_cons (se_q (sq_vs 1)) (sea_cons (se_q (sq_int (ℓ := .fs))) sea_nil))))) (se_q (sq_int (ℓ := .fs)))))
    (sb_one (ss_if (PW.pt (sw_or (st_not (st_v hK (sq_call (ok__law_same T) hF (hr.mono (by decide)) T.d11.mg T.d11.fn.kp T.d11.bd (sa_cons (sq_call (ok_is_force_paper T) hF (hr.mono (by decide)) T.d7.mg T.d7.fn.kp T.d7.bd (sa_cons (sq_v 2) (sa_cons (sq_v 11) (sa_cons (sq_v 9) sa_nil)))) (sa_cons (sq_call (ok__law_is_paper T) hF (hr.mono (by decide)) T.d16.mg T.d16.fn.kp T.d16.bd (sa_cons (sq_v 2) (sa_cons (sq_v 11) (sa_cons (sq_v 9) sa_nil)))) sa_nil))))) (sw_or1 (st_v hK (sq_call (ok__law_is_paper T) hF (hr.mono (by decide)) T.d16.mg T.d16.fn.kp T.d16.bd (sa_cons (sq_v 2) (sa_cons (sq_bin (ℓ := .mo) (ℓ₁ := .mo) (ℓ₂ := .mo) (o_add hK) (sq_v 6) (sq_int (ℓ := .mo))) (sa_cons (sq_v 9) sa_nil)))))))) (sb_one (ss_ret (ℓ := .mo) (sq_bl (ℓ := .mo)))) sb_nil)))))))))))))
    (sb_one (ss_ret (ℓ := .mo) (sq_bl (ℓ := .mo)))))))))
end
end K17

set_option Elab.async false
set_option linter.all false
set_option maxRecDepth 100000
set_option maxHeartbeats 0
namespace K17
open PySem PySem.Spec PyProof.Rows L2 Evl Sm
def dn : List He.DefD := [⟨("is_whole", none), "is_whole", "is_whole", defArgs s_is_whole, defBody s_is_whole, defScope s_is_whole, [], []⟩, ⟨("is_number", none), "is_number", "is_number", defArgs s_is_number, defBody s_is_number, defScope s_is_number, [], []⟩, ⟨("is_ascending", none), "is_ascending", "is_ascending", defArgs s_is_ascending, defBody s_is_ascending, defScope s_is_ascending, [], []⟩, ⟨("chosen_spans", none), "chosen_spans", "chosen_spans", defArgs s_chosen_spans, defBody s_chosen_spans, defScope s_chosen_spans, [], []⟩, ⟨("fewest_forces", none), "fewest_forces", "fewest_forces", defArgs s_fewest_forces, defBody s_fewest_forces, defScope s_fewest_forces, [], []⟩, ⟨("are_enough", none), "are_enough", "are_enough", defArgs s_are_enough, defBody s_are_enough, defScope s_are_enough, [], []⟩, ⟨("force_paper", none), "force_paper", "force_paper", defArgs s_force_paper, defBody s_force_paper, defScope s_force_paper, [], []⟩, ⟨("is_force_paper", none), "is_force_paper", "is_force_paper", defArgs s_is_force_paper, defBody s_is_force_paper, defScope s_is_force_paper, [], []⟩, ⟨("_law_mix", none), "_law_mix", "_law_mix", defArgs s__law_mix, defBody s__law_mix, defScope s__law_mix, [], []⟩, ⟨("_law_tape", none), "_law_tape", "_law_tape", defArgs s__law_tape, defBody s__law_tape, defScope s__law_tape, [], []⟩, ⟨("_law_take", none), "_law_take", "_law_take", defArgs s__law_take, defBody s__law_take, defScope s__law_take, [], []⟩, ⟨("_law_same", none), "_law_same", "_law_same", defArgs s__law_same, defBody s__law_same, defScope s__law_same, [], []⟩, ⟨("_law_whole", none), "_law_whole", "_law_whole", defArgs s__law_whole, defBody s__law_whole, defScope s__law_whole, [], []⟩, ⟨("_law_spoilt", none), "_law_spoilt", "_law_spoilt", defArgs s__law_spoilt, defBody s__law_spoilt, defScope s__law_spoilt, [], []⟩, ⟨("_law_covers", none), "_law_covers", "_law_covers", defArgs s__law_covers, defBody s__law_covers, defScope s__law_covers, [], []⟩, ⟨("_law_fewest", none), "_law_fewest", "_law_fewest", defArgs s__law_fewest, defBody s__law_fewest, defScope s__law_fewest, [], []⟩, ⟨("_law_is_paper", none), "_law_is_paper", "_law_is_paper", defArgs s__law_is_paper, defBody s__law_is_paper, defScope s__law_is_paper, [], []⟩, ⟨("law", none), "law", "law", defArgs s_law, defBody s_law, defScope s_law, [], []⟩]
def fa : List He.Fa := [.glo "is_whole", .glo "is_number", .glo "is_ascending", .glo "chosen_spans", .glo "fewest_forces", .glo "are_enough", .glo "force_paper", .glo "is_force_paper", .glo "_law_mix", .glo "_law_tape", .glo "_law_take", .glo "_law_same", .glo "_law_whole", .glo "_law_spoilt", .glo "_law_covers", .glo "_law_fewest", .glo "_law_is_paper", .glo "law", .free "all", .free "any", .free "bool", .free "enumerate", .free "int", .free "isinstance", .free "len", .free "list", .free "range", .free "set", .free "sorted", .free "str", .free "tuple"]
abbrev R : PySem.W.OpenRow := PySem.W.OpenLaw.row PySem.Challenge.rw_treesheld_k17_whole_fewest_forces
abbrev hk : PySem.W.Hook := He.hookD 49 fa dn
def ob (s : PySem.W.SharedT) : He.AlD := He.obsDG 49 fa dn (HandSHeadRun.getT s)
theorem ob_eq (s : PySem.W.SharedT) : ob s = hk.obs s.abs := He.obsDG_eq (HandSHeadRun.getT_eq s)
def ls0 : List Str := ["is_whole", "is_number", "is_ascending", "chosen_spans", "fewest_forces", "are_enough", "force_paper", "is_force_paper", "_law_mix", "_law_tape", "_law_take", "_law_same", "_law_whole", "_law_spoilt", "_law_covers", "_law_fewest", "_law_is_paper"]
abbrev ls : List Str := ls0
theorem run (w : World) : HandSHeadRun.RunEq R (PySem.W.view R.prog [20]) hk ob 2000 ls w := by
  intro os
  kernel_rfl
theorem txt {K : PySem.W.Frag} {h : Heap} {mg : Str → Option Value} {G : Glo} (gK : K = G.K) (X : K.In h) (N : h.Ns mainGlobals mg) (c : He.SaysD fa dn K) : ∃ f fd, Txt K mg G f fd ∧ f 17 = He.ga K "law" := by
  obtain ⟨fd0, F0⟩ := c.def_ 0
  obtain ⟨fd1, F1⟩ := c.def_ 1
  obtain ⟨fd2, F2⟩ := c.def_ 2
  obtain ⟨fd3, F3⟩ := c.def_ 3
  obtain ⟨fd4, F4⟩ := c.def_ 4
  obtain ⟨fd5, F5⟩ := c.def_ 5
  obtain ⟨fd6, F6⟩ := c.def_ 6
  obtain ⟨fd7, F7⟩ := c.def_ 7
  obtain ⟨fd8, F8⟩ := c.def_ 8
  obtain ⟨fd9, F9⟩ := c.def_ 9
  obtain ⟨fd10, F10⟩ := c.def_ 10
  obtain ⟨fd11, F11⟩ := c.def_ 11
  obtain ⟨fd12, F12⟩ := c.def_ 12
  obtain ⟨fd13, F13⟩ := c.def_ 13
  obtain ⟨fd14, F14⟩ := c.def_ 14
  obtain ⟨fd15, F15⟩ := c.def_ 15
  obtain ⟨fd16, F16⟩ := c.def_ 16
  obtain ⟨fd17, F17⟩ := c.def_ 17
  refine ⟨fun i => ([He.ga K "is_whole", He.ga K "is_number", He.ga K "is_ascending", He.ga K "chosen_spans", He.ga K "fewest_forces", He.ga K "are_enough", He.ga K "force_paper", He.ga K "is_force_paper", He.ga K "_law_mix", He.ga K "_law_tape", He.ga K "_law_take", He.ga K "_law_same", He.ga K "_law_whole", He.ga K "_law_spoilt", He.ga K "_law_covers", He.ga K "_law_fewest", He.ga K "_law_is_paper", He.ga K "law"] : List Addr).getD i 0, fun i => ([fd0, fd1, fd2, fd3, fd4, fd5, fd6, fd7, fd8, fd9, fd10, fd11, fd12, fd13, fd14, fd15, fd16, fd17] : List FuncData).getD i fd0, ⟨gK, ⟨Fun.ofD F0, He.glo_ok X N (c.fact 0), FunD.bindsN F0 fun _ _ _ _ _ _ us hl => match us, hl with | [_], _ => rfl⟩, ⟨Fun.ofD F1, He.glo_ok X N (c.fact 1), FunD.bindsN F1 fun _ _ _ _ _ _ us hl => match us, hl with | [_, _, _], _ => rfl⟩, ⟨Fun.ofD F2, He.glo_ok X N (c.fact 2), FunD.bindsN F2 fun _ _ _ _ _ _ us hl => match us, hl with | [_], _ => rfl⟩, ⟨Fun.ofD F3, He.glo_ok X N (c.fact 3), FunD.bindsN F3 fun _ _ _ _ _ _ us hl => match us, hl with | [_], _ => rfl⟩, ⟨Fun.ofD F4, He.glo_ok X N (c.fact 4), FunD.bindsN F4 fun _ _ _ _ _ _ us hl => match us, hl with | [_], _ => rfl⟩, ⟨Fun.ofD F5, He.glo_ok X N (c.fact 5), FunD.bindsN F5 fun _ _ _ _ _ _ us hl => match us, hl with | [_, _], _ => rfl⟩, ⟨Fun.ofD F6, He.glo_ok X N (c.fact 6), FunD.bindsN F6 fun _ _ _ _ _ _ us hl => match us, hl with | [_], _ => rfl⟩, ⟨Fun.ofD F7, He.glo_ok X N (c.fact 7), FunD.bindsN F7 fun _ _ _ _ _ _ us hl => match us, hl with | [_, _, _], _ => rfl⟩, ⟨Fun.ofD F8, He.glo_ok X N (c.fact 8), FunD.bindsN F8 fun _ _ _ _ _ _ us hl => match us, hl with | [_], _ => rfl⟩, ⟨Fun.ofD F9, He.glo_ok X N (c.fact 9), FunD.bindsN F9 fun _ _ _ _ _ _ us hl => match us, hl with | [_], _ => rfl⟩, ⟨Fun.ofD F10, He.glo_ok X N (c.fact 10), FunD.bindsN F10 fun _ _ _ _ _ _ us hl => match us, hl with | [_, _], _ => rfl⟩, ⟨Fun.ofD F11, He.glo_ok X N (c.fact 11), FunD.bindsN F11 fun _ _ _ _ _ _ us hl => match us, hl with | [_, _], _ => rfl⟩, ⟨Fun.ofD F12, He.glo_ok X N (c.fact 12), FunD.bindsN F12 fun _ _ _ _ _ _ us hl => match us, hl with | [_, _, _], _ => rfl⟩, ⟨Fun.ofD F13, He.glo_ok X N (c.fact 13), FunD.bindsN F13 fun _ _ _ _ _ _ us hl => match us, hl with | [_, _], _ => rfl⟩, ⟨Fun.ofD F14, He.glo_ok X N (c.fact 14), FunD.bindsN F14 fun _ _ _ _ _ _ us hl => match us, hl with | [_, _], _ => rfl⟩, ⟨Fun.ofD F15, He.glo_ok X N (c.fact 15), FunD.bindsN F15 fun _ _ _ _ _ _ us hl => match us, hl with | [_], _ => rfl⟩, ⟨Fun.ofD F16, He.glo_ok X N (c.fact 16), FunD.bindsN F16 fun _ _ _ _ _ _ us hl => match us, hl with | [_, _, _], _ => rfl⟩, ⟨Fun.ofD F17, He.glo_ok X N (c.fact 17), FunD.bindsN F17 fun _ _ _ _ _ _ us hl => match us, hl with | [_], _ => rfl⟩, He.free_ok X N (c.fact 18), He.free_ok X N (c.fact 19), He.free_ok X N (c.fact 20), He.free_ok X N (c.fact 21), He.free_ok X N (c.fact 22), He.free_ok X N (c.fact 23), He.free_ok X N (c.fact 24), He.free_ok X N (c.fact 25), He.free_ok X N (c.fact 26), He.free_ok X N (c.fact 27), He.free_ok X N (c.fact 28), He.free_ok X N (c.fact 29), He.free_ok X N (c.fact 30)⟩, rfl⟩
end K17

set_option Elab.async false
set_option linter.all false
set_option maxRecDepth 100000
set_option maxHeartbeats 4000000
namespace K17
open PySem L2 Evl Sm
def isW : PyData → Bool
  | .int _ => true
  | _ => false
def wh (a b : Int) : PyData → Bool
  | .int n => decide (a ≤ n) && decide (n ≤ b)
  | _ => false
theorem is_whole_ (x : PyData) (h : Hs) : r_is_whole [.d x] h = some (.d (.bool (isW x))) := by
  cases x <;> simp [qV, qVs, qC, q1, q2, qNl, qIf, aNil, aCons, dOf, dsOf, qTup, fLst, qF, gTru, tV, tAndF, tOrF, tNotF, qT, qAnd, qOr, qNot, gI, gI0, gB0, cMul, cDiv, cPow, gNeg, gAdd, eqI, neI, lstAt, gLen, gInt, gTuple, f1, f2, gList, gIsi, gIx, gIsN, gNoN, gIsB, iRng, iRngB, seqOf, iSeqN, iSeq, bName, bNil, bCons, bTup, wipeE, tTrue, mNx, mSeq, mRet, mRetF, mRetN, mRetO, mIf, mSet, mSetO, mBk, mCt, mPre, mLock, mAsg, mFor, startE, resD, runQ, runF, qCall, fCall, arity, eQ, eF, eT, eNil, eCons, e1, e2, eTup, efLst, eLock, eIf, etV, eCall, efCall, enl, eNot, eAnd, eOr, resE, runE, runEF, mE, mSetE, mSetOE, mRetE, mRetFE, mIfE, mAsgE, oNone, oSome, gSl, qSl, fSl, gAll, gAny, qChain, gIn, pNil, pV, pL, mPar2, gCat, ef2, mAppE, mExtE, mPut, eNew, iE, iRngE, iSeqE, mForE, gRev, gRevL, iEnu, mHold, gTupR, nl, nlAll, ixN, PyData.isInt, PyData.isBool, PyData.isStr, PyData.isTuple, PyData.isList, PyData.isDict, r_is_whole, m_is_whole, isW]
theorem law_whole_ (x : PyData) (a b : Int) (h : Hs) : r__law_whole [.d x, .d (.int a), .d (.int b)] h = some (.d (.bool (wh a b x))) := by
  cases x with
  | int n => by_cases h1 : a ≤ n <;> simp [qV, qVs, qC, q1, q2, qNl, qIf, aNil, aCons, dOf, dsOf, qTup, fLst, qF, gTru, tV, tAndF, tOrF, tNotF, qT, qAnd, qOr, qNot, gI, gI0, gB0, cMul, cDiv, cPow, gNeg, gAdd, eqI, neI, lstAt, gLen, gInt, gTuple, f1, f2, gList, gIsi, gIx, gIsN, gNoN, gIsB, iRng, iRngB, seqOf, iSeqN, iSeq, bName, bNil, bCons, bTup, wipeE, tTrue, mNx, mSeq, mRet, mRetF, mRetN, mRetO, mIf, mSet, mSetO, mBk, mCt, mPre, mLock, mAsg, mFor, startE, resD, runQ, runF, qCall, fCall, arity, eQ, eF, eT, eNil, eCons, e1, e2, eTup, efLst, eLock, eIf, etV, eCall, efCall, enl, eNot, eAnd, eOr, resE, runE, runEF, mE, mSetE, mSetOE, mRetE, mRetFE, mIfE, mAsgE, oNone, oSome, gSl, qSl, fSl, gAll, gAny, qChain, gIn, pNil, pV, pL, mPar2, gCat, ef2, mAppE, mExtE, mPut, eNew, iE, iRngE, iSeqE, mForE, gRev, gRevL, iEnu, mHold, gTupR, nl, nlAll, ixN, PyData.isInt, PyData.isBool, PyData.isStr, PyData.isTuple, PyData.isList, PyData.isDict, r__law_whole, m__law_whole, wh, h1]
  | _ => simp [qV, qVs, qC, q1, q2, qNl, qIf, aNil, aCons, dOf, dsOf, qTup, fLst, qF, gTru, tV, tAndF, tOrF, tNotF, qT, qAnd, qOr, qNot, gI, gI0, gB0, cMul, cDiv, cPow, gNeg, gAdd, eqI, neI, lstAt, gLen, gInt, gTuple, f1, f2, gList, gIsi, gIx, gIsN, gNoN, gIsB, iRng, iRngB, seqOf, iSeqN, iSeq, bName, bNil, bCons, bTup, wipeE, tTrue, mNx, mSeq, mRet, mRetF, mRetN, mRetO, mIf, mSet, mSetO, mBk, mCt, mPre, mLock, mAsg, mFor, startE, resD, runQ, runF, qCall, fCall, arity, eQ, eF, eT, eNil, eCons, e1, e2, eTup, efLst, eLock, eIf, etV, eCall, efCall, enl, eNot, eAnd, eOr, resE, runE, runEF, mE, mSetE, mSetOE, mRetE, mRetFE, mIfE, mAsgE, oNone, oSome, gSl, qSl, fSl, gAll, gAny, qChain, gIn, pNil, pV, pL, mPar2, gCat, ef2, mAppE, mExtE, mPut, eNew, iE, iRngE, iSeqE, mForE, gRev, gRevL, iEnu, mHold, gTupR, nl, nlAll, ixN, PyData.isInt, PyData.isBool, PyData.isStr, PyData.isTuple, PyData.isList, PyData.isDict, r__law_whole, m__law_whole, wh]
theorem is_number_ (x : PyData) (a b : Int) (h : Hs) : r_is_number [.d x, .d (.int a), .d (.int b)] h = some (.d (.bool (wh a b x))) := by
  cases x with
  | int n => by_cases h1 : a ≤ n <;> simp [qV, qVs, qC, q1, q2, qNl, qIf, aNil, aCons, dOf, dsOf, qTup, fLst, qF, gTru, tV, tAndF, tOrF, tNotF, qT, qAnd, qOr, qNot, gI, gI0, gB0, cMul, cDiv, cPow, gNeg, gAdd, eqI, neI, lstAt, gLen, gInt, gTuple, f1, f2, gList, gIsi, gIx, gIsN, gNoN, gIsB, iRng, iRngB, seqOf, iSeqN, iSeq, bName, bNil, bCons, bTup, wipeE, tTrue, mNx, mSeq, mRet, mRetF, mRetN, mRetO, mIf, mSet, mSetO, mBk, mCt, mPre, mLock, mAsg, mFor, startE, resD, runQ, runF, qCall, fCall, arity, eQ, eF, eT, eNil, eCons, e1, e2, eTup, efLst, eLock, eIf, etV, eCall, efCall, enl, eNot, eAnd, eOr, resE, runE, runEF, mE, mSetE, mSetOE, mRetE, mRetFE, mIfE, mAsgE, oNone, oSome, gSl, qSl, fSl, gAll, gAny, qChain, gIn, pNil, pV, pL, mPar2, gCat, ef2, mAppE, mExtE, mPut, eNew, iE, iRngE, iSeqE, mForE, gRev, gRevL, iEnu, mHold, gTupR, nl, nlAll, ixN, PyData.isInt, PyData.isBool, PyData.isStr, PyData.isTuple, PyData.isList, PyData.isDict, r_is_number, m_is_number, wh, h1]
  | _ => simp [qV, qVs, qC, q1, q2, qNl, qIf, aNil, aCons, dOf, dsOf, qTup, fLst, qF, gTru, tV, tAndF, tOrF, tNotF, qT, qAnd, qOr, qNot, gI, gI0, gB0, cMul, cDiv, cPow, gNeg, gAdd, eqI, neI, lstAt, gLen, gInt, gTuple, f1, f2, gList, gIsi, gIx, gIsN, gNoN, gIsB, iRng, iRngB, seqOf, iSeqN, iSeq, bName, bNil, bCons, bTup, wipeE, tTrue, mNx, mSeq, mRet, mRetF, mRetN, mRetO, mIf, mSet, mSetO, mBk, mCt, mPre, mLock, mAsg, mFor, startE, resD, runQ, runF, qCall, fCall, arity, eQ, eF, eT, eNil, eCons, e1, e2, eTup, efLst, eLock, eIf, etV, eCall, efCall, enl, eNot, eAnd, eOr, resE, runE, runEF, mE, mSetE, mSetOE, mRetE, mRetFE, mIfE, mAsgE, oNone, oSome, gSl, qSl, fSl, gAll, gAny, qChain, gIn, pNil, pV, pL, mPar2, gCat, ef2, mAppE, mExtE, mPut, eNew, iE, iRngE, iSeqE, mForE, gRev, gRevL, iEnu, mHold, gTupR, nl, nlAll, ixN, PyData.isInt, PyData.isBool, PyData.isStr, PyData.isTuple, PyData.isList, PyData.isDict, r_is_number, m_is_number, wh]
def mix (n : Int) : Int :=
  let n1 := (n * 6364136223846793005 + 1442695040888963407) % 18446744073709551616
  (n1 * n1 / 4294967296 + n1 * 69621) % 18446744073709551557
theorem mix_ (n : Int) (h : Hs) : r__law_mix [.d (.int n)] h = some (.d (.int (mix n))) := by
  have hb : ((n * 6364136223846793005 + 1442695040888963407) % 18446744073709551616).natAbs < 18446744073709551616 := by omega
  have hl : (4294967296 : Nat).log2 < 9000 := by decide
  simp [qV, qVs, qC, q1, q2, qNl, qIf, aNil, aCons, dOf, dsOf, qTup, fLst, qF, gTru, tV, tAndF, tOrF, tNotF, qT, qAnd, qOr, qNot, gI, gI0, gB0, cMul, cDiv, cPow, gNeg, gAdd, eqI, neI, lstAt, gLen, gInt, gTuple, f1, f2, gList, gIsi, gIx, gIsN, gNoN, gIsB, iRng, iRngB, seqOf, iSeqN, iSeq, bName, bNil, bCons, bTup, wipeE, tTrue, mNx, mSeq, mRet, mRetF, mRetN, mRetO, mIf, mSet, mSetO, mBk, mCt, mPre, mLock, mAsg, mFor, startE, resD, runQ, runF, qCall, fCall, arity, eQ, eF, eT, eNil, eCons, e1, e2, eTup, efLst, eLock, eIf, etV, eCall, efCall, enl, eNot, eAnd, eOr, resE, runE, runEF, mE, mSetE, mSetOE, mRetE, mRetFE, mIfE, mAsgE, oNone, oSome, gSl, qSl, fSl, gAll, gAny, qChain, gIn, pNil, pV, pL, mPar2, gCat, ef2, mAppE, mExtE, mPut, eNew, iE, iRngE, iSeqE, mForE, gRev, gRevL, iEnu, mHold, gTupR, nl, nlAll, ixN, PyData.isInt, PyData.isBool, PyData.isStr, PyData.isTuple, PyData.isList, PyData.isDict, r__law_mix, m__law_mix, mix, hb, hl]
/-- the tape as it stands -/
def tp (ds : List Int) (p : Int × Int × Int) : Hs := [.lst [.list (ds.map .int), .int p.1, .int p.2.1, .int p.2.2]]
def Tp (h : Hs) : Prop := ∃ (ds : List Int) (p : Int × Int × Int), h = tp ds p ∧ 0 ≤ p.1
theorem tape_ (ns : List Int) : ∃ h', r__law_tape [.d (.list (ns.map PyData.int))] [] = some (.ref 0, h') ∧ Tp h' := by
  refine ⟨tp (ns.take 80) (0, 0, 1 + ns.length), ?_, ns.take 80, _, rfl, Int.le_refl _⟩
  have e : List.take (min 80 ns.length) (List.map PyData.int ns) = List.take 80 (List.map PyData.int ns) := by
    have := take_min 80 (ns.map PyData.int)
    rw [List.length_map] at this
    rw [this]
  have e2 : nlAll (List.take 80 (List.map PyData.int ns)) = true := by
    rw [← List.map_take]
    exact nlAll_ints _
  simp [qV, qVs, qC, q1, q2, qNl, qIf, aNil, aCons, dOf, dsOf, qTup, fLst, qF, gTru, tV, tAndF, tOrF, tNotF, qT, qAnd, qOr, qNot, gI, gI0, gB0, cMul, cDiv, cPow, gNeg, gAdd, eqI, neI, lstAt, gLen, gInt, gTuple, f1, f2, gList, gIsi, gIx, gIsN, gNoN, gIsB, iRng, iRngB, seqOf, iSeqN, iSeq, bName, bNil, bCons, bTup, wipeE, tTrue, mNx, mSeq, mRet, mRetF, mRetN, mRetO, mIf, mSet, mSetO, mBk, mCt, mPre, mLock, mAsg, mFor, startE, resD, runQ, runF, qCall, fCall, arity, eQ, eF, eT, eNil, eCons, e1, e2, eTup, efLst, eLock, eIf, etV, eCall, efCall, enl, eNot, eAnd, eOr, resE, runE, runEF, mE, mSetE, mSetOE, mRetE, mRetFE, mIfE, mAsgE, oNone, oSome, gSl, qSl, fSl, gAll, gAny, qChain, gIn, pNil, pV, pL, mPar2, gCat, ef2, mAppE, mExtE, mPut, eNew, iE, iRngE, iSeqE, mForE, gRev, gRevL, iEnu, mHold, gTupR, nl, nlAll, ixN, PyData.isInt, PyData.isBool, PyData.isStr, PyData.isTuple, PyData.isList, PyData.isDict, r__law_tape, m__law_tape, cutD, HT.sIx, e, e2, nlAll_ints, sizeLine_eq, tp]
def cellOf (n : Int) : Int := if 0 ≤ n then 2 * n else -2 * n - 1
def refill (ds : List Int) (p : Int × Int × Int) (many : Int) : Int × Int × Int :=
  if p.2.1 < many then
    if p.1 < ds.length then
      let cell := cellOf (ds.getD p.1.toNat 0)
      (p.1 + 1, (if 1000000000000000000 ≤ cell then cell else mix (mix cell + (p.1 + 1))), mix (p.2.2 + cell))
    else (p.1, mix (p.2.2 + 1), mix (p.2.2 + 1))
  else p
theorem refill_0 {ds : List Int} {p : Int × Int × Int} {many : Int} (h : 0 ≤ p.1) : 0 ≤ (refill ds p many).1 := by
  unfold refill
  split
  · split
    · show 0 ≤ p.1 + 1
      omega
    · exact h
  · exact h
theorem take1_ (ds : List Int) (p : Int × Int × Int) (many : Int) (hm : 0 < many) (hm2 : many.natAbs.log2 < 9000) (hp : 0 ≤ p.1) :
    r__law_take [.ref 0, .d (.int many)] (tp ds p) = some (.d (.int ((refill ds p many).2.1 % many)), tp ds ((refill ds p many).1, (refill ds p many).2.1 / many, (refill ds p many).2.2)) := by
  obtain ⟨i, c, m⟩ := p
  unfold refill
  by_cases h1 : c < many
  · by_cases h2 : i < ds.length
    · obtain ⟨k, rfl⟩ := Int.eq_ofNat_of_zero_le hp
      have hk : k < ds.length := by omega
      have ez : atI (ds.map PyData.int) (k : Int) = some (.int ds[k]) := atN (by rw [List.getElem?_map, List.getElem?_eq_getElem hk]; rfl)
      have eg : ds.getD k 0 = ds[k] := by rw [List.getD_eq_getElem?_getD, List.getElem?_eq_getElem hk]; rfl
      by_cases h3 : 0 ≤ ds[k]
      · by_cases h4 : 1000000000000000000 ≤ 2 * ds[k]
        all_goals simp [qV, qVs, qC, q1, q2, qNl, qIf, aNil, aCons, dOf, dsOf, qTup, fLst, qF, gTru, tV, tAndF, tOrF, tNotF, qT, qAnd, qOr, qNot, gI, gI0, gB0, cMul, cDiv, cPow, gNeg, gAdd, eqI, neI, lstAt, gLen, gInt, gTuple, f1, f2, gList, gIsi, gIx, gIsN, gNoN, gIsB, iRng, iRngB, seqOf, iSeqN, iSeq, bName, bNil, bCons, bTup, wipeE, tTrue, mNx, mSeq, mRet, mRetF, mRetN, mRetO, mIf, mSet, mSetO, mBk, mCt, mPre, mLock, mAsg, mFor, startE, resD, runQ, runF, qCall, fCall, arity, eQ, eF, eT, eNil, eCons, e1, e2, eTup, efLst, eLock, eIf, etV, eCall, efCall, enl, eNot, eAnd, eOr, resE, runE, runEF, mE, mSetE, mSetOE, mRetE, mRetFE, mIfE, mAsgE, oNone, oSome, gSl, qSl, fSl, gAll, gAny, qChain, gIn, pNil, pV, pL, mPar2, gCat, ef2, mAppE, mExtE, mPut, eNew, iE, iRngE, iSeqE, mForE, gRev, gRevL, iEnu, mHold, gTupR, nl, nlAll, ixN, PyData.isInt, PyData.isBool, PyData.isStr, PyData.isTuple, PyData.isList, PyData.isDict, r__law_take, m__law_take, tp, h1, hk, ez, eg, h3, h4, hm, hm2, mix_, cellOf]
      · by_cases h4 : 1000000000000000000 ≤ -2 * ds[k] - 1
        all_goals simp [qV, qVs, qC, q1, q2, qNl, qIf, aNil, aCons, dOf, dsOf, qTup, fLst, qF, gTru, tV, tAndF, tOrF, tNotF, qT, qAnd, qOr, qNot, gI, gI0, gB0, cMul, cDiv, cPow, gNeg, gAdd, eqI, neI, lstAt, gLen, gInt, gTuple, f1, f2, gList, gIsi, gIx, gIsN, gNoN, gIsB, iRng, iRngB, seqOf, iSeqN, iSeq, bName, bNil, bCons, bTup, wipeE, tTrue, mNx, mSeq, mRet, mRetF, mRetN, mRetO, mIf, mSet, mSetO, mBk, mCt, mPre, mLock, mAsg, mFor, startE, resD, runQ, runF, qCall, fCall, arity, eQ, eF, eT, eNil, eCons, e1, e2, eTup, efLst, eLock, eIf, etV, eCall, efCall, enl, eNot, eAnd, eOr, resE, runE, runEF, mE, mSetE, mSetOE, mRetE, mRetFE, mIfE, mAsgE, oNone, oSome, gSl, qSl, fSl, gAll, gAny, qChain, gIn, pNil, pV, pL, mPar2, gCat, ef2, mAppE, mExtE, mPut, eNew, iE, iRngE, iSeqE, mForE, gRev, gRevL, iEnu, mHold, gTupR, nl, nlAll, ixN, PyData.isInt, PyData.isBool, PyData.isStr, PyData.isTuple, PyData.isList, PyData.isDict, r__law_take, m__law_take, tp, h1, hk, ez, eg, h3, h4, hm, hm2, mix_, cellOf]
    · simp [qV, qVs, qC, q1, q2, qNl, qIf, aNil, aCons, dOf, dsOf, qTup, fLst, qF, gTru, tV, tAndF, tOrF, tNotF, qT, qAnd, qOr, qNot, gI, gI0, gB0, cMul, cDiv, cPow, gNeg, gAdd, eqI, neI, lstAt, gLen, gInt, gTuple, f1, f2, gList, gIsi, gIx, gIsN, gNoN, gIsB, iRng, iRngB, seqOf, iSeqN, iSeq, bName, bNil, bCons, bTup, wipeE, tTrue, mNx, mSeq, mRet, mRetF, mRetN, mRetO, mIf, mSet, mSetO, mBk, mCt, mPre, mLock, mAsg, mFor, startE, resD, runQ, runF, qCall, fCall, arity, eQ, eF, eT, eNil, eCons, e1, e2, eTup, efLst, eLock, eIf, etV, eCall, efCall, enl, eNot, eAnd, eOr, resE, runE, runEF, mE, mSetE, mSetOE, mRetE, mRetFE, mIfE, mAsgE, oNone, oSome, gSl, qSl, fSl, gAll, gAny, qChain, gIn, pNil, pV, pL, mPar2, gCat, ef2, mAppE, mExtE, mPut, eNew, iE, iRngE, iSeqE, mForE, gRev, gRevL, iEnu, mHold, gTupR, nl, nlAll, ixN, PyData.isInt, PyData.isBool, PyData.isStr, PyData.isTuple, PyData.isList, PyData.isDict, r__law_take, m__law_take, tp, h1, h2, hm, hm2, mix_]
  · simp [qV, qVs, qC, q1, q2, qNl, qIf, aNil, aCons, dOf, dsOf, qTup, fLst, qF, gTru, tV, tAndF, tOrF, tNotF, qT, qAnd, qOr, qNot, gI, gI0, gB0, cMul, cDiv, cPow, gNeg, gAdd, eqI, neI, lstAt, gLen, gInt, gTuple, f1, f2, gList, gIsi, gIx, gIsN, gNoN, gIsB, iRng, iRngB, seqOf, iSeqN, iSeq, bName, bNil, bCons, bTup, wipeE, tTrue, mNx, mSeq, mRet, mRetF, mRetN, mRetO, mIf, mSet, mSetO, mBk, mCt, mPre, mLock, mAsg, mFor, startE, resD, runQ, runF, qCall, fCall, arity, eQ, eF, eT, eNil, eCons, e1, e2, eTup, efLst, eLock, eIf, etV, eCall, efCall, enl, eNot, eAnd, eOr, resE, runE, runEF, mE, mSetE, mSetOE, mRetE, mRetFE, mIfE, mAsgE, oNone, oSome, gSl, qSl, fSl, gAll, gAny, qChain, gIn, pNil, pV, pL, mPar2, gCat, ef2, mAppE, mExtE, mPut, eNew, iE, iRngE, iSeqE, mForE, gRev, gRevL, iEnu, mHold, gTupR, nl, nlAll, ixN, PyData.isInt, PyData.isBool, PyData.isStr, PyData.isTuple, PyData.isList, PyData.isDict, r__law_take, m__law_take, tp, h1, hm, hm2, mix_]
theorem take_ (many : Int) (hm : 0 < many) (hm2 : many.natAbs.log2 < 9000) {h : Hs} (ht : Tp h) : ∃ d h', r__law_take [.ref 0, .d (.int many)] h = some (.d (.int d), h') ∧ 0 ≤ d ∧ d < many ∧ Tp h' := by
  obtain ⟨ds, p, rfl, hp⟩ := ht
  exact ⟨_, _, take1_ ds p many hm hm2 hp, Int.emod_nonneg _ (by omega), Int.emod_lt_of_pos _ hm, _, _, rfl, refill_0 hp⟩
end K17

set_option Elab.async false
set_option linter.all false
set_option maxRecDepth 100000
set_option maxHeartbeats 4000000
namespace K17
open PySem L2 Evl Sm
/-! spans -/
def pD (p : Int × Int) : PyData := .tuple [.int p.1, .int p.2]
abbrev spD (sp : List (Int × Int)) : PyData := .tuple (sp.map pD)
abbrev tI (ns : List Int) : PyData := .tuple (ns.map .int)
theorem nl_sp (sp : List (Int × Int)) : nlAll (sp.map pD) = true := by
  induction sp with
  | nil => rfl
  | cons p sp ih => rw [List.map_cons, nlAll, ih]; rfl
theorem ascending_ (ns : List Int) (h : Hs) (hl : ns.length ≤ 1000) : r_is_ascending [.d (tI ns)] h = some (.d (.bool (ascB ns))) := by
  have hz : ns.length - 1 ≤ sizeLine := by rw [sizeLine_eq]; omega
  refine run_ret (all_lc (f := fun k : Nat => .int (k : Int)) (xs := List.range (ns.length - 1)) ?_ (fun k hk => step_of (env1 := [.v (.d (tI ns)), .v (.d (.int (k : Int)))]) rfl rfl ?_) (by rw [List.length_range]; exact hz))
  · have e : ((ns.length : Int) - 1).toNat = ns.length - 1 := by omega
    have b1 : (-4611686018427387904 : Int) ≤ (ns.length : Int) - 1 := by omega
    have b2 : (ns.length : Int) - 1 < 4611686018427387904 := by omega
    simp [qV, qVs, qC, q1, q2, qNl, qIf, aNil, aCons, dOf, dsOf, qTup, fLst, qF, gTru, tV, tAndF, tOrF, tNotF, qT, qAnd, qOr, qNot, gI, gI0, gB0, cMul, cDiv, cPow, gNeg, gAdd, eqI, neI, lstAt, gLen, gInt, gTuple, f1, f2, gList, gIsi, gIx, gIsN, gNoN, gIsB, iRng, iRngB, seqOf, iSeqN, iSeq, bName, bNil, bCons, bTup, wipeE, tTrue, mNx, mSeq, mRet, mRetF, mRetN, mRetO, mIf, mSet, mSetO, mBk, mCt, mPre, mLock, mAsg, mFor, startE, resD, runQ, runF, qCall, fCall, arity, eQ, eF, eT, eNil, eCons, e1, e2, eTup, efLst, eLock, eIf, etV, eCall, efCall, enl, eNot, eAnd, eOr, resE, runE, runEF, mE, mSetE, mSetOE, mRetE, mRetFE, mIfE, mAsgE, oNone, oSome, gSl, qSl, fSl, gAll, gAny, qChain, gIn, pNil, pV, pL, mPar2, gCat, ef2, mAppE, mExtE, mPut, eNew, iE, iRngE, iSeqE, mForE, gRev, gRevL, iEnu, mHold, gTupR, nl, nlAll, ixN, PyData.isInt, PyData.isBool, PyData.isStr, PyData.isTuple, PyData.isList, PyData.isDict, e, b1, b2]
  · have hk := List.mem_range.mp hk
    have g : ∀ j, j < ns.length → atI (ns.map PyData.int) (j : Int) = some (.int (ns.getD j 0)) := fun j hj => atI_map (atN (by rw [List.getD_eq_getElem?_getD, List.getElem?_eq_getElem hj]; rfl))
    have g1 := g k (by omega)
    have g2 := g (k + 1) (by omega)
    have e : ((k + 1 : Nat) : Int) = (k : Int) + 1 := by omega
    rw [e] at g2
    simp [qV, qVs, qC, q1, q2, qNl, qIf, aNil, aCons, dOf, dsOf, qTup, fLst, qF, gTru, tV, tAndF, tOrF, tNotF, qT, qAnd, qOr, qNot, gI, gI0, gB0, cMul, cDiv, cPow, gNeg, gAdd, eqI, neI, lstAt, gLen, gInt, gTuple, f1, f2, gList, gIsi, gIx, gIsN, gNoN, gIsB, iRng, iRngB, seqOf, iSeqN, iSeq, bName, bNil, bCons, bTup, wipeE, tTrue, mNx, mSeq, mRet, mRetF, mRetN, mRetO, mIf, mSet, mSetO, mBk, mCt, mPre, mLock, mAsg, mFor, startE, resD, runQ, runF, qCall, fCall, arity, eQ, eF, eT, eNil, eCons, e1, e2, eTup, efLst, eLock, eIf, etV, eCall, efCall, enl, eNot, eAnd, eOr, resE, runE, runEF, mE, mSetE, mSetOE, mRetE, mRetFE, mIfE, mAsgE, oNone, oSome, gSl, qSl, fSl, gAll, gAny, qChain, gIn, pNil, pV, pL, mPar2, gCat, ef2, mAppE, mExtE, mPut, eNew, iE, iRngE, iSeqE, mForE, gRev, gRevL, iEnu, mHold, gTupR, nl, nlAll, ixN, PyData.isInt, PyData.isBool, PyData.isStr, PyData.isTuple, PyData.isList, PyData.isDict, g1, g2]
def covB (sp : List (Int × Int)) (ts : List Int) : Bool := sp.all fun p => ts.any fun t => decide (p.1 ≤ t) && decide (t ≤ p.2)
theorem covers_ (sp : List (Int × Int)) (ts : List Int) (h : Hs) (hl : sp.length ≤ 1000) (ht : ts.length ≤ 1000) : r__law_covers [.d (spD sp), .d (tI ts)] h = some (.d (.bool (covB sp ts))) := by
  have z1 : sp.length ≤ sizeLine := by rw [sizeLine_eq]; omega
  have z2 : ts.length ≤ sizeLine := by rw [sizeLine_eq]; omega
  refine run_ret (all_lc (f := pD) (xs := sp) (by simp [qV, qVs, qC, q1, q2, qNl, qIf, aNil, aCons, dOf, dsOf, qTup, fLst, qF, gTru, tV, tAndF, tOrF, tNotF, qT, qAnd, qOr, qNot, gI, gI0, gB0, cMul, cDiv, cPow, gNeg, gAdd, eqI, neI, lstAt, gLen, gInt, gTuple, f1, f2, gList, gIsi, gIx, gIsN, gNoN, gIsB, iRng, iRngB, seqOf, iSeqN, iSeq, bName, bNil, bCons, bTup, wipeE, tTrue, mNx, mSeq, mRet, mRetF, mRetN, mRetO, mIf, mSet, mSetO, mBk, mCt, mPre, mLock, mAsg, mFor, startE, resD, runQ, runF, qCall, fCall, arity, eQ, eF, eT, eNil, eCons, e1, e2, eTup, efLst, eLock, eIf, etV, eCall, efCall, enl, eNot, eAnd, eOr, resE, runE, runEF, mE, mSetE, mSetOE, mRetE, mRetFE, mIfE, mAsgE, oNone, oSome, gSl, qSl, fSl, gAll, gAny, qChain, gIn, pNil, pV, pL, mPar2, gCat, ef2, mAppE, mExtE, mPut, eNew, iE, iRngE, iSeqE, mForE, gRev, gRevL, iEnu, mHold, gTupR, nl, nlAll, ixN, PyData.isInt, PyData.isBool, PyData.isStr, PyData.isTuple, PyData.isList, PyData.isDict, nl_sp]) (fun p hp => step_of (env1 := [.v (.d (spD sp)), .v (.d (tI ts)), .v (.d (.int p.1)), .v (.d (.int p.2)), .un]) rfl rfl
    (any_lc (f := PyData.int) (xs := ts) (by simp [qV, qVs, qC, q1, q2, qNl, qIf, aNil, aCons, dOf, dsOf, qTup, fLst, qF, gTru, tV, tAndF, tOrF, tNotF, qT, qAnd, qOr, qNot, gI, gI0, gB0, cMul, cDiv, cPow, gNeg, gAdd, eqI, neI, lstAt, gLen, gInt, gTuple, f1, f2, gList, gIsi, gIx, gIsN, gNoN, gIsB, iRng, iRngB, seqOf, iSeqN, iSeq, bName, bNil, bCons, bTup, wipeE, tTrue, mNx, mSeq, mRet, mRetF, mRetN, mRetO, mIf, mSet, mSetO, mBk, mCt, mPre, mLock, mAsg, mFor, startE, resD, runQ, runF, qCall, fCall, arity, eQ, eF, eT, eNil, eCons, e1, e2, eTup, efLst, eLock, eIf, etV, eCall, efCall, enl, eNot, eAnd, eOr, resE, runE, runEF, mE, mSetE, mSetOE, mRetE, mRetFE, mIfE, mAsgE, oNone, oSome, gSl, qSl, fSl, gAll, gAny, qChain, gIn, pNil, pV, pL, mPar2, gCat, ef2, mAppE, mExtE, mPut, eNew, iE, iRngE, iSeqE, mForE, gRev, gRevL, iEnu, mHold, gTupR, nl, nlAll, ixN, PyData.isInt, PyData.isBool, PyData.isStr, PyData.isTuple, PyData.isList, PyData.isDict, nlAll_ints]) (fun t ht => step_of (env1 := [.v (.d (spD sp)), .v (.d (tI ts)), .v (.d (.int p.1)), .v (.d (.int p.2)), .v (.d (.int t))]) rfl rfl ?_) z2)) z1)
  by_cases h1 : p.1 ≤ t <;> simp [qV, qVs, qC, q1, q2, qNl, qIf, aNil, aCons, dOf, dsOf, qTup, fLst, qF, gTru, tV, tAndF, tOrF, tNotF, qT, qAnd, qOr, qNot, gI, gI0, gB0, cMul, cDiv, cPow, gNeg, gAdd, eqI, neI, lstAt, gLen, gInt, gTuple, f1, f2, gList, gIsi, gIx, gIsN, gNoN, gIsB, iRng, iRngB, seqOf, iSeqN, iSeq, bName, bNil, bCons, bTup, wipeE, tTrue, mNx, mSeq, mRet, mRetF, mRetN, mRetO, mIf, mSet, mSetO, mBk, mCt, mPre, mLock, mAsg, mFor, startE, resD, runQ, runF, qCall, fCall, arity, eQ, eF, eT, eNil, eCons, e1, e2, eTup, efLst, eLock, eIf, etV, eCall, efCall, enl, eNot, eAnd, eOr, resE, runE, runEF, mE, mSetE, mSetOE, mRetE, mRetFE, mIfE, mAsgE, oNone, oSome, gSl, qSl, fSl, gAll, gAny, qChain, gIn, pNil, pV, pL, mPar2, gCat, ef2, mAppE, mExtE, mPut, eNew, iE, iRngE, iSeqE, mForE, gRev, gRevL, iEnu, mHold, gTupR, nl, nlAll, ixN, PyData.isInt, PyData.isBool, PyData.isStr, PyData.isTuple, PyData.isList, PyData.isDict, h1]
/-- the ints of a tuple of ints alone -/
def tupI : PyData → Option (List Int)
  | .tuple ds => intsOf ds
  | _ => none
theorem isW_all : ∀ {ds : List PyData}, ds.all isW = true → ∃ ns, intsOf ds = some ns
  | [], _ => ⟨[], rfl⟩
  | d :: ds, h => by
    rw [List.all_cons, Bool.and_eq_true] at h
    obtain ⟨ns, e⟩ := isW_all h.2
    cases d with
    | int n => exact ⟨n :: ns, by simp [intsOf, intOf, e]⟩
    | _ => cases h.1
theorem isW_ints (ns : List Int) : (ns.map PyData.int).all isW = true := by
  rw [List.all_eq_true]
  intro d hd
  obtain ⟨n, _, rfl⟩ := List.mem_map.mp hd
  rfl
theorem isW_no {ds : List PyData} (h : ds.all isW = false) : intsOf ds = none := by
  cases e : intsOf ds with
  | none => rfl
  | some ns =>
    have := intsOf_map e
    subst this
    rw [isW_ints] at h
    cases h
/-- what are_enough tells of any value -/
def enoughB (sp : List (Int × Int)) (v : PyData) : Bool := match tupI v with
  | some ns => ascB ns && covB sp ns
  | none => false
/-- the items of a tuple are few -/
def short : PyData → Prop
  | .tuple ds => ds.length ≤ 50
  | _ => True
theorem enough_ (sp : List (Int × Int)) (v : PyData) (h : Hs) (hl : sp.length ≤ 1000) (hn : nl v = true) (hs : short v) : r_are_enough [.d (spD sp), .d v] h = some (.d (.bool (enoughB sp v))) := by
  have z1 : sp.length ≤ sizeLine := by rw [sizeLine_eq]; omega
  cases v with
  | tuple ds =>
    have hs : ds.length ≤ 50 := hs
    have z2 : ds.length ≤ sizeLine := by rw [sizeLine_eq]; omega
    have hn : nlAll ds = true := hn
    have e1 := all_lc (it := iSeqN (qV 1)) (vs := [2]) (bn := bName 2) (tt := tTrue) (te := qNl (qCall (arity 1 r_is_whole) (aCons (qV 2) aNil))) (env := [.v (.d (spD sp)), .v (.d (.tuple ds)), .un, .un, .un]) (h := h) (f := fun d : PyData => d) (p := isW) (xs := ds) (by simp [qV, qVs, qC, q1, q2, qNl, qIf, aNil, aCons, dOf, dsOf, qTup, fLst, qF, gTru, tV, tAndF, tOrF, tNotF, qT, qAnd, qOr, qNot, gI, gI0, gB0, cMul, cDiv, cPow, gNeg, gAdd, eqI, neI, lstAt, gLen, gInt, gTuple, f1, f2, gList, gIsi, gIx, gIsN, gNoN, gIsB, iRng, iRngB, seqOf, iSeqN, iSeq, bName, bNil, bCons, bTup, wipeE, tTrue, mNx, mSeq, mRet, mRetF, mRetN, mRetO, mIf, mSet, mSetO, mBk, mCt, mPre, mLock, mAsg, mFor, startE, resD, runQ, runF, qCall, fCall, arity, eQ, eF, eT, eNil, eCons, e1, e2, eTup, efLst, eLock, eIf, etV, eCall, efCall, enl, eNot, eAnd, eOr, resE, runE, runEF, mE, mSetE, mSetOE, mRetE, mRetFE, mIfE, mAsgE, oNone, oSome, gSl, qSl, fSl, gAll, gAny, qChain, gIn, pNil, pV, pL, mPar2, gCat, ef2, mAppE, mExtE, mPut, eNew, iE, iRngE, iSeqE, mForE, gRev, gRevL, iEnu, mHold, gTupR, nl, nlAll, ixN, PyData.isInt, PyData.isBool, PyData.isStr, PyData.isTuple, PyData.isList, PyData.isDict, hn])
      (fun d _ => step_of (env1 := [.v (.d (spD sp)), .v (.d (.tuple ds)), .v (.d d), .un, .un]) rfl rfl (by simp [qV, qVs, qC, q1, q2, qNl, qIf, aNil, aCons, dOf, dsOf, qTup, fLst, qF, gTru, tV, tAndF, tOrF, tNotF, qT, qAnd, qOr, qNot, gI, gI0, gB0, cMul, cDiv, cPow, gNeg, gAdd, eqI, neI, lstAt, gLen, gInt, gTuple, f1, f2, gList, gIsi, gIx, gIsN, gNoN, gIsB, iRng, iRngB, seqOf, iSeqN, iSeq, bName, bNil, bCons, bTup, wipeE, tTrue, mNx, mSeq, mRet, mRetF, mRetN, mRetO, mIf, mSet, mSetO, mBk, mCt, mPre, mLock, mAsg, mFor, startE, resD, runQ, runF, qCall, fCall, arity, eQ, eF, eT, eNil, eCons, e1, e2, eTup, efLst, eLock, eIf, etV, eCall, efCall, enl, eNot, eAnd, eOr, resE, runE, runEF, mE, mSetE, mSetOE, mRetE, mRetFE, mIfE, mAsgE, oNone, oSome, gSl, qSl, fSl, gAll, gAny, qChain, gIn, pNil, pV, pL, mPar2, gCat, ef2, mAppE, mExtE, mPut, eNew, iE, iRngE, iSeqE, mForE, gRev, gRevL, iEnu, mHold, gTupR, nl, nlAll, ixN, PyData.isInt, PyData.isBool, PyData.isStr, PyData.isTuple, PyData.isList, PyData.isDict, is_whole_])) z2
    cases ha : ds.all isW with
    | false =>
      have e2 : enoughB sp (.tuple ds) = false := by simp [enoughB, tupI, isW_no ha]
      rw [ha] at e1
      rw [e2]
      refine run_q (ℓ := .mo) (seq_rt (if_t ?_ (ret_q rfl)))
      simp [qV, qVs, qC, q1, q2, qNl, qIf, aNil, aCons, dOf, dsOf, qTup, fLst, qF, gTru, tV, tAndF, tOrF, tNotF, qT, qAnd, qOr, qNot, gI, gI0, gB0, cMul, cDiv, cPow, gNeg, gAdd, eqI, neI, lstAt, gLen, gInt, gTuple, f1, f2, gList, gIsi, gIx, gIsN, gNoN, gIsB, iRng, iRngB, seqOf, iSeqN, iSeq, bName, bNil, bCons, bTup, wipeE, tTrue, mNx, mSeq, mRet, mRetF, mRetN, mRetO, mIf, mSet, mSetO, mBk, mCt, mPre, mLock, mAsg, mFor, startE, resD, runQ, runF, qCall, fCall, arity, eQ, eF, eT, eNil, eCons, e1, e2, eTup, efLst, eLock, eIf, etV, eCall, efCall, enl, eNot, eAnd, eOr, resE, runE, runEF, mE, mSetE, mSetOE, mRetE, mRetFE, mIfE, mAsgE, oNone, oSome, gSl, qSl, fSl, gAll, gAny, qChain, gIn, pNil, pV, pL, mPar2, gCat, ef2, mAppE, mExtE, mPut, eNew, iE, iRngE, iSeqE, mForE, gRev, gRevL, iEnu, mHold, gTupR, nl, nlAll, ixN, PyData.isInt, PyData.isBool, PyData.isStr, PyData.isTuple, PyData.isList, PyData.isDict] at e1 ⊢
      simp [e1]
    | true =>
      obtain ⟨ns, en⟩ := isW_all ha
      have := intsOf_map en
      subst this
      rw [List.length_map] at hs z2
      have ea := ascending_ ns h (by omega)
      rw [ha] at e1
      have e2 : enoughB sp (.tuple (ns.map .int)) = (ascB ns && covB sp ns) := by simp [enoughB, tupI, intsOf_ints]
      rw [e2]
      cases hb : ascB ns with
      | false =>
        rw [hb] at ea
        refine run_q (ℓ := .mo) (seq_rt (if_t ?_ (ret_q rfl)))
        simp [qV, qVs, qC, q1, q2, qNl, qIf, aNil, aCons, dOf, dsOf, qTup, fLst, qF, gTru, tV, tAndF, tOrF, tNotF, qT, qAnd, qOr, qNot, gI, gI0, gB0, cMul, cDiv, cPow, gNeg, gAdd, eqI, neI, lstAt, gLen, gInt, gTuple, f1, f2, gList, gIsi, gIx, gIsN, gNoN, gIsB, iRng, iRngB, seqOf, iSeqN, iSeq, bName, bNil, bCons, bTup, wipeE, tTrue, mNx, mSeq, mRet, mRetF, mRetN, mRetO, mIf, mSet, mSetO, mBk, mCt, mPre, mLock, mAsg, mFor, startE, resD, runQ, runF, qCall, fCall, arity, eQ, eF, eT, eNil, eCons, e1, e2, eTup, efLst, eLock, eIf, etV, eCall, efCall, enl, eNot, eAnd, eOr, resE, runE, runEF, mE, mSetE, mSetOE, mRetE, mRetFE, mIfE, mAsgE, oNone, oSome, gSl, qSl, fSl, gAll, gAny, qChain, gIn, pNil, pV, pL, mPar2, gCat, ef2, mAppE, mExtE, mPut, eNew, iE, iRngE, iSeqE, mForE, gRev, gRevL, iEnu, mHold, gTupR, nl, nlAll, ixN, PyData.isInt, PyData.isBool, PyData.isStr, PyData.isTuple, PyData.isList, PyData.isDict] at e1 ea ⊢
        simp [e1, ea]
      | true =>
        rw [hb] at ea
        refine run_q (ℓ := .mo) (seq_to (if_f ?_ rfl) (ret_q (all_lc (f := pD) (xs := sp) (by simp [qV, qVs, qC, q1, q2, qNl, qIf, aNil, aCons, dOf, dsOf, qTup, fLst, qF, gTru, tV, tAndF, tOrF, tNotF, qT, qAnd, qOr, qNot, gI, gI0, gB0, cMul, cDiv, cPow, gNeg, gAdd, eqI, neI, lstAt, gLen, gInt, gTuple, f1, f2, gList, gIsi, gIx, gIsN, gNoN, gIsB, iRng, iRngB, seqOf, iSeqN, iSeq, bName, bNil, bCons, bTup, wipeE, tTrue, mNx, mSeq, mRet, mRetF, mRetN, mRetO, mIf, mSet, mSetO, mBk, mCt, mPre, mLock, mAsg, mFor, startE, resD, runQ, runF, qCall, fCall, arity, eQ, eF, eT, eNil, eCons, e1, e2, eTup, efLst, eLock, eIf, etV, eCall, efCall, enl, eNot, eAnd, eOr, resE, runE, runEF, mE, mSetE, mSetOE, mRetE, mRetFE, mIfE, mAsgE, oNone, oSome, gSl, qSl, fSl, gAll, gAny, qChain, gIn, pNil, pV, pL, mPar2, gCat, ef2, mAppE, mExtE, mPut, eNew, iE, iRngE, iSeqE, mForE, gRev, gRevL, iEnu, mHold, gTupR, nl, nlAll, ixN, PyData.isInt, PyData.isBool, PyData.isStr, PyData.isTuple, PyData.isList, PyData.isDict, nl_sp]) (fun p hp => step_of (env1 := [.v (.d (spD sp)), .v (.d (tI ns)), .un, .v (.d (.int p.1)), .v (.d (.int p.2))]) rfl rfl
          (any_lc (f := PyData.int) (xs := ns) (by simp [qV, qVs, qC, q1, q2, qNl, qIf, aNil, aCons, dOf, dsOf, qTup, fLst, qF, gTru, tV, tAndF, tOrF, tNotF, qT, qAnd, qOr, qNot, gI, gI0, gB0, cMul, cDiv, cPow, gNeg, gAdd, eqI, neI, lstAt, gLen, gInt, gTuple, f1, f2, gList, gIsi, gIx, gIsN, gNoN, gIsB, iRng, iRngB, seqOf, iSeqN, iSeq, bName, bNil, bCons, bTup, wipeE, tTrue, mNx, mSeq, mRet, mRetF, mRetN, mRetO, mIf, mSet, mSetO, mBk, mCt, mPre, mLock, mAsg, mFor, startE, resD, runQ, runF, qCall, fCall, arity, eQ, eF, eT, eNil, eCons, e1, e2, eTup, efLst, eLock, eIf, etV, eCall, efCall, enl, eNot, eAnd, eOr, resE, runE, runEF, mE, mSetE, mSetOE, mRetE, mRetFE, mIfE, mAsgE, oNone, oSome, gSl, qSl, fSl, gAll, gAny, qChain, gIn, pNil, pV, pL, mPar2, gCat, ef2, mAppE, mExtE, mPut, eNew, iE, iRngE, iSeqE, mForE, gRev, gRevL, iEnu, mHold, gTupR, nl, nlAll, ixN, PyData.isInt, PyData.isBool, PyData.isStr, PyData.isTuple, PyData.isList, PyData.isDict, nlAll_ints]) (fun t ht => step_of (env1 := [.v (.d (spD sp)), .v (.d (tI ns)), .v (.d (.int t)), .v (.d (.int p.1)), .v (.d (.int p.2))]) rfl rfl ?_) z2)) z1)))
        · simp [qV, qVs, qC, q1, q2, qNl, qIf, aNil, aCons, dOf, dsOf, qTup, fLst, qF, gTru, tV, tAndF, tOrF, tNotF, qT, qAnd, qOr, qNot, gI, gI0, gB0, cMul, cDiv, cPow, gNeg, gAdd, eqI, neI, lstAt, gLen, gInt, gTuple, f1, f2, gList, gIsi, gIx, gIsN, gNoN, gIsB, iRng, iRngB, seqOf, iSeqN, iSeq, bName, bNil, bCons, bTup, wipeE, tTrue, mNx, mSeq, mRet, mRetF, mRetN, mRetO, mIf, mSet, mSetO, mBk, mCt, mPre, mLock, mAsg, mFor, startE, resD, runQ, runF, qCall, fCall, arity, eQ, eF, eT, eNil, eCons, e1, e2, eTup, efLst, eLock, eIf, etV, eCall, efCall, enl, eNot, eAnd, eOr, resE, runE, runEF, mE, mSetE, mSetOE, mRetE, mRetFE, mIfE, mAsgE, oNone, oSome, gSl, qSl, fSl, gAll, gAny, qChain, gIn, pNil, pV, pL, mPar2, gCat, ef2, mAppE, mExtE, mPut, eNew, iE, iRngE, iSeqE, mForE, gRev, gRevL, iEnu, mHold, gTupR, nl, nlAll, ixN, PyData.isInt, PyData.isBool, PyData.isStr, PyData.isTuple, PyData.isList, PyData.isDict] at e1 ea ⊢
          simp [e1, ea]
        · by_cases h1 : p.1 ≤ t <;> simp [qV, qVs, qC, q1, q2, qNl, qIf, aNil, aCons, dOf, dsOf, qTup, fLst, qF, gTru, tV, tAndF, tOrF, tNotF, qT, qAnd, qOr, qNot, gI, gI0, gB0, cMul, cDiv, cPow, gNeg, gAdd, eqI, neI, lstAt, gLen, gInt, gTuple, f1, f2, gList, gIsi, gIx, gIsN, gNoN, gIsB, iRng, iRngB, seqOf, iSeqN, iSeq, bName, bNil, bCons, bTup, wipeE, tTrue, mNx, mSeq, mRet, mRetF, mRetN, mRetO, mIf, mSet, mSetO, mBk, mCt, mPre, mLock, mAsg, mFor, startE, resD, runQ, runF, qCall, fCall, arity, eQ, eF, eT, eNil, eCons, e1, e2, eTup, efLst, eLock, eIf, etV, eCall, efCall, enl, eNot, eAnd, eOr, resE, runE, runEF, mE, mSetE, mSetOE, mRetE, mRetFE, mIfE, mAsgE, oNone, oSome, gSl, qSl, fSl, gAll, gAny, qChain, gIn, pNil, pV, pL, mPar2, gCat, ef2, mAppE, mExtE, mPut, eNew, iE, iRngE, iSeqE, mForE, gRev, gRevL, iEnu, mHold, gTupR, nl, nlAll, ixN, PyData.isInt, PyData.isBool, PyData.isStr, PyData.isTuple, PyData.isList, PyData.isDict, h1]
  | _ =>
    refine run_q (ℓ := .mo) (seq_rt (if_t ?_ (ret_q rfl)))
    simp [qV, qVs, qC, q1, q2, qNl, qIf, aNil, aCons, dOf, dsOf, qTup, fLst, qF, gTru, tV, tAndF, tOrF, tNotF, qT, qAnd, qOr, qNot, gI, gI0, gB0, cMul, cDiv, cPow, gNeg, gAdd, eqI, neI, lstAt, gLen, gInt, gTuple, f1, f2, gList, gIsi, gIx, gIsN, gNoN, gIsB, iRng, iRngB, seqOf, iSeqN, iSeq, bName, bNil, bCons, bTup, wipeE, tTrue, mNx, mSeq, mRet, mRetF, mRetN, mRetO, mIf, mSet, mSetO, mBk, mCt, mPre, mLock, mAsg, mFor, startE, resD, runQ, runF, qCall, fCall, arity, eQ, eF, eT, eNil, eCons, e1, e2, eTup, efLst, eLock, eIf, etV, eCall, efCall, enl, eNot, eAnd, eOr, resE, runE, runEF, mE, mSetE, mSetOE, mRetE, mRetFE, mIfE, mAsgE, oNone, oSome, gSl, qSl, fSl, gAll, gAny, qChain, gIn, pNil, pV, pL, mPar2, gCat, ef2, mAppE, mExtE, mPut, eNew, iE, iRngE, iSeqE, mForE, gRev, gRevL, iEnu, mHold, gTupR, nl, nlAll, ixN, PyData.isInt, PyData.isBool, PyData.isStr, PyData.isTuple, PyData.isList, PyData.isDict]
end K17

set_option Elab.async false
set_option linter.all false
set_option maxRecDepth 100000
set_option maxHeartbeats 4000000
namespace K17
open PySem L2 Evl Sm
/-! the greedy choice, plainly -/
abbrev Tri := Int × Int × Nat
def freeB : Option Int → Tri → Bool
  | none, _ => true
  | some x, r => decide (x < r.2.1)
def gre : Option Int → List Tri → List Tri
  | _, [] => []
  | b, r :: rs => if freeB b r = true then r :: gre (some r.1) rs else gre b rs
theorem gre_sub {r : Tri} : ∀ {b : Option Int} {rs : List Tri}, r ∈ gre b rs → r ∈ rs
  | b, [], h => by simp [gre] at h
  | b, q :: rs, h => by
    unfold gre at h
    split at h
    · rcases List.mem_cons.mp h with e | h
      · simp [e]
      · exact List.mem_cons_of_mem _ (gre_sub h)
    · exact List.mem_cons_of_mem _ (gre_sub h)
/-- each begins behind the end of those ahead -/
theorem gre_apart : ∀ {b : Option Int} {rs : List Tri}, (∀ r ∈ rs, r.2.1 ≤ r.1) → (gre b rs).Pairwise (fun a c => a.1 < c.2.1) ∧ ∀ x, b = some x → ∀ c ∈ gre b rs, x < c.2.1
  | b, [], _ => by simp [gre]
  | b, q :: rs, h => by
    have hq := h q (by simp)
    have hr : ∀ r ∈ rs, r.2.1 ≤ r.1 := fun r hr => h r (List.mem_cons_of_mem _ hr)
    unfold gre
    split
    · next c =>
      obtain ⟨p1, p2⟩ := gre_apart (b := some q.1) hr
      refine ⟨List.pairwise_cons.mpr ⟨fun c hc => p2 q.1 rfl c hc, p1⟩, fun x hx c hc => ?_⟩
      subst hx
      have c : x < q.2.1 := by simpa [freeB] using c
      rcases List.mem_cons.mp hc with rfl | hc
      · exact c
      · have := p2 q.1 rfl _ hc
        omega
    · exact gre_apart hr
/-- each one is met by an end that was chosen -/
theorem gre_meets : ∀ {b : Option Int} {rs : List Tri}, (∀ r ∈ rs, r.2.1 ≤ r.1) → rs.Pairwise (fun a c => a.1 ≤ c.1) → (∀ x, b = some x → ∀ r ∈ rs, x ≤ r.1) → ∀ r ∈ rs,
    (∃ c ∈ gre b rs, r.2.1 ≤ c.1 ∧ c.1 ≤ r.1) ∨ ∃ x, b = some x ∧ r.2.1 ≤ x ∧ x ≤ r.1
  | b, [], _, _, _ => by simp
  | b, q :: rs, h, hp, hb => by
    have hq := h q (by simp)
    have hr : ∀ r ∈ rs, r.2.1 ≤ r.1 := fun r hr => h r (List.mem_cons_of_mem _ hr)
    have hp2 := List.pairwise_cons.mp hp
    intro r hrm
    unfold gre
    split
    · next c =>
      rcases List.mem_cons.mp hrm with rfl | hrm
      · exact .inl ⟨r, by simp, hq, Int.le_refl _⟩
      · rcases gre_meets (b := some q.1) hr hp2.2 (fun x hx s hs => by cases hx; exact hp2.1 s hs) r hrm with ⟨c, hc, z⟩ | ⟨x, hx, z⟩
        · exact .inl ⟨c, List.mem_cons_of_mem _ hc, z⟩
        · cases hx
          exact .inl ⟨q, by simp, z⟩
    · next c =>
      rcases List.mem_cons.mp hrm with rfl | hrm
      · cases b with
        | none => exact absurd rfl c
        | some x =>
          have c : ¬ x < r.2.1 := by simpa [freeB] using c
          exact .inr ⟨x, rfl, by omega, hb x rfl r (by simp)⟩
      · exact gre_meets hr hp2.2 (fun x hx s hs => hb x hx s (List.mem_cons_of_mem _ hs)) r hrm
/-! spans that lie apart -/
def Dj (a b : Int × Int) : Prop := a.2 < b.1 ∨ b.2 < a.1
theorem Dj.symm {a b : Int × Int} (h : Dj a b) : Dj b a := Or.symm h
/-- as many times as there are spans apart -/
theorem many_times : ∀ {ds : List (Int × Int)} {ts : List Int}, ds.Pairwise Dj → (∀ d ∈ ds, ∃ t ∈ ts, d.1 ≤ t ∧ t ≤ d.2) → ds.length ≤ ts.length
  | [], ts, _, _ => Nat.zero_le _
  | d :: ds, ts, hp, h => by
    have hp2 := List.pairwise_cons.mp hp
    obtain ⟨t, ht, h1, h2⟩ := h d (by simp)
    have hl := List.length_erase_of_mem ht
    have := many_times (ds := ds) (ts := ts.erase t) hp2.2 fun e he => by
      obtain ⟨u, hu, h3, h4⟩ := h e (List.mem_cons_of_mem _ he)
      refine ⟨u, ?_, h3, h4⟩
      have : u ≠ t := fun z => by
        subst z
        rcases hp2.1 e he with q | q <;> omega
      exact (List.mem_erase_of_ne this).mpr hu
    have : 0 < ts.length := List.length_pos_of_mem ht
    rw [List.length_cons]
    omega
theorem covB_iff {sp : List (Int × Int)} {ts : List Int} : covB sp ts = true ↔ ∀ p ∈ sp, ∃ t ∈ ts, p.1 ≤ t ∧ t ≤ p.2 := by
  simp [covB, List.all_eq_true, List.any_eq_true]
/-! the triples -/
def trs (sp : List (Int × Int)) : List Tri := sp.zipIdx.map fun p => (p.1.2, p.1.1, p.2)
def le3 (a b : Tri) : Bool := decide (([a.1, a.2.1, (a.2.2 : Int)] : List Int) ≤ [b.1, b.2.1, (b.2.2 : Int)])
def chosen (sp : List (Int × Int)) : List Tri := gre none ((trs sp).mergeSort le3)
theorem le3_fst {a b : Tri} (h : le3 a b = true) : a.1 ≤ b.1 := by
  unfold le3 at h
  rw [decide_eq_true_eq, List.cons_le_cons_iff] at h
  rcases h with h | h <;> omega
theorem le3_trans (a b c : Tri) (h1 : le3 a b = true) (h2 : le3 b c = true) : le3 a c = true := by
  unfold le3 at h1 h2 ⊢
  rw [decide_eq_true_eq] at h1 h2 ⊢
  exact List.le_trans h1 h2
theorem le3_total (a b : Tri) : (le3 a b || le3 b a) = true := by
  unfold le3
  rw [Bool.or_eq_true, decide_eq_true_eq, decide_eq_true_eq]
  exact List.le_total _ _
theorem srt_mem {sp : List (Int × Int)} {r : Tri} : r ∈ (trs sp).mergeSort le3 ↔ ∃ p, sp[r.2.2]? = some p ∧ r.1 = p.2 ∧ r.2.1 = p.1 := by
  rw [(List.mergeSort_perm _ _).mem_iff]
  unfold trs
  rw [List.mem_map]
  constructor
  · rintro ⟨⟨p, k⟩, hp, rfl⟩
    exact ⟨p, List.mk_mem_zipIdx_iff_getElem?.mp hp, rfl, rfl⟩
  · rintro ⟨p, hp, h1, h2⟩
    exact ⟨(p, r.2.2), List.mk_mem_zipIdx_iff_getElem?.mpr hp, by rw [← h1, ← h2]⟩
theorem srt_asc (sp : List (Int × Int)) : ((trs sp).mergeSort le3).Pairwise (fun a c => a.1 ≤ c.1) :=
  (List.pairwise_mergeSort le3_trans le3_total (trs sp)).imp le3_fst
section
variable {sp : List (Int × Int)} (hv : ∀ p ∈ sp, p.1 ≤ p.2)
include hv
theorem srt_ok : ∀ r ∈ (trs sp).mergeSort le3, r.2.1 ≤ r.1 := fun r hr => by
  obtain ⟨p, hp, h1, h2⟩ := srt_mem.mp hr
  rw [h1, h2]
  exact hv p (List.mem_of_getElem? hp)
theorem cho_apart : (chosen sp).Pairwise (fun a c => a.1 < c.2.1) := (gre_apart (srt_ok hv)).1
theorem cho_at {c : Tri} (h : c ∈ chosen sp) : sp[c.2.2]? = some (c.2.1, c.1) := by
  obtain ⟨p, hp, h1, h2⟩ := srt_mem.mp (gre_sub h)
  rw [hp, h1, h2]
/-- the times -/
def tms (sp : List (Int × Int)) : List Int := (chosen sp).map (·.1)
omit hv in
theorem tms_len : (tms sp).length = (chosen sp).length := List.length_map _
theorem tms_asc : (tms sp).Pairwise (· < ·) := by
  refine List.pairwise_map.mpr ((List.Pairwise.and_mem.mp (cho_apart hv)).imp fun {a c} h => ?_)
  obtain ⟨p, hp, h1, h2⟩ := srt_mem.mp (gre_sub h.2.1)
  have := hv p (List.mem_of_getElem? hp)
  have := h.2.2
  omega
theorem tms_cov : covB sp (tms sp) = true := covB_iff.mpr fun p hp => by
  obtain ⟨k, hk⟩ := List.getElem?_of_mem hp
  have hm : ((p.2, p.1, k) : Tri) ∈ (trs sp).mergeSort le3 := srt_mem.mpr ⟨p, hk, rfl, rfl⟩
  rcases gre_meets (b := none) (srt_ok hv) (srt_asc sp) (fun x hx => by cases hx) _ hm with ⟨c, hc, z⟩ | ⟨x, hx, _⟩
  · exact ⟨c.1, List.mem_map.mpr ⟨c, hc, rfl⟩, z⟩
  · cases hx
/-- whatever meets all is no shorter -/
theorem cov_many {ts : List Int} (h : covB sp ts = true) : (chosen sp).length ≤ ts.length := by
  have := many_times (ds := (chosen sp).map fun c => (c.2.1, c.1)) (ts := ts) (List.pairwise_map.mpr ((cho_apart hv).imp fun {a c} z => .inl z)) fun d hd => by
    obtain ⟨c, hc, rfl⟩ := List.mem_map.mp hd
    exact covB_iff.mp h _ (List.mem_of_getElem? (cho_at hv hc))
  rw [List.length_map] at this
  exact this
theorem apart_many {ds : List (Int × Int)} (hd : ∀ d ∈ ds, d ∈ sp) (hp : ds.Pairwise Dj) : ds.length ≤ (chosen sp).length := by
  have := many_times hp fun d h => covB_iff.mp (tms_cov hv) d (hd d h)
  rw [tms_len] at this
  exact this
end
end K17

set_option Elab.async false
set_option linter.all false
set_option maxRecDepth 100000
set_option maxHeartbeats 4000000
namespace K17
open PySem L2 Evl Sm
/-! chosen_spans -/
abbrev triR (r : Tri) : List Int := [r.1, r.2.1, (r.2.2 : Int)]
abbrev triD (r : Tri) : PyData := .tuple ((triR r).map .int)
def optD : Option Int → PyData
  | none => .none
  | some x => .int x
theorem loop_ : ∀ (rs : List Tri) (b : Option Int) (found : List Int) (e0 e5 e6 : Sl) (h : Hs), found.length + rs.length ≤ 1000 →
    ∃ e5', forGo [3, 4] (fun d env h => (bTup 3 (bCons (bName 3) (bCons (bName 4) (bCons (bName 5) bNil))) d env).bind fun env1 => b_chosen_spans_1 env1 h) (rs.map triD) [e0, .l (found.map .int), .v (.d (optD b)), .un, .un, e5, e6] h =
      some (.nx, [e0, .l ((found ++ (gre b rs).map fun r => (r.2.2 : Int)).map .int), .v (.d (optD ((((gre b rs).map (·.1)).getLast?).or b))), .un, .un, e5', e6], h)
  | [], b, found, e0, e5, e6, h, _ => ⟨e5, by simp [forGo, gre]⟩
  | r :: rs, b, found, e0, e5, e6, h, hl => by
    rw [List.length_cons] at hl
    cases hf : freeB b r with
    | true =>
      obtain ⟨e', ih⟩ := loop_ rs (some r.1) (found ++ [(r.2.2 : Int)]) e0 (.v (.d (.int (r.2.2 : Int)))) e6 h (by rw [List.length_append]; simp; omega)
      refine ⟨e', ?_⟩
      rw [List.map_cons, forGo]
      have hb : b_chosen_spans_1 [e0, .l (found.map .int), .v (.d (optD b)), .v (.d (.int r.1)), .v (.d (.int r.2.1)), .v (.d (.int (r.2.2 : Int))), e6] h = some (.nx, [e0, .l ((found ++ [(r.2.2 : Int)]).map .int), .v (.d (optD (some r.1))), .v (.d (.int r.1)), .v (.d (.int r.2.1)), .v (.d (.int (r.2.2 : Int))), e6], h) := by
        have hz : found.length < 16777216 := by omega
        cases b with
        | none => simp [qV, qVs, qC, q1, q2, qNl, qIf, aNil, aCons, dOf, dsOf, qTup, fLst, qF, gTru, tV, tAndF, tOrF, tNotF, qT, qAnd, qOr, qNot, gI, gI0, gB0, cMul, cDiv, cPow, gNeg, gAdd, eqI, neI, lstAt, gLen, gInt, gTuple, f1, f2, gList, gIsi, gIx, gIsN, gNoN, gIsB, iRng, iRngB, seqOf, iSeqN, iSeq, bName, bNil, bCons, bTup, wipeE, tTrue, mNx, mSeq, mRet, mRetF, mRetN, mRetO, mIf, mSet, mSetO, mBk, mCt, mPre, mLock, mAsg, mFor, startE, resD, runQ, runF, qCall, fCall, arity, eQ, eF, eT, eNil, eCons, e1, e2, eTup, efLst, eLock, eIf, etV, eCall, efCall, enl, eNot, eAnd, eOr, resE, runE, runEF, mE, mSetE, mSetOE, mRetE, mRetFE, mIfE, mAsgE, oNone, oSome, gSl, qSl, fSl, gAll, gAny, qChain, gIn, pNil, pV, pL, mPar2, gCat, ef2, mAppE, mExtE, mPut, eNew, iE, iRngE, iSeqE, mForE, gRev, gRevL, iEnu, mHold, gTupR, nl, nlAll, ixN, PyData.isInt, PyData.isBool, PyData.isStr, PyData.isTuple, PyData.isList, PyData.isDict, b_chosen_spans_1, optD, sizeLine_eq, hz]
        | some x =>
          have hx : x < r.2.1 := by simpa [freeB] using hf
          simp [qV, qVs, qC, q1, q2, qNl, qIf, aNil, aCons, dOf, dsOf, qTup, fLst, qF, gTru, tV, tAndF, tOrF, tNotF, qT, qAnd, qOr, qNot, gI, gI0, gB0, cMul, cDiv, cPow, gNeg, gAdd, eqI, neI, lstAt, gLen, gInt, gTuple, f1, f2, gList, gIsi, gIx, gIsN, gNoN, gIsB, iRng, iRngB, seqOf, iSeqN, iSeq, bName, bNil, bCons, bTup, wipeE, tTrue, mNx, mSeq, mRet, mRetF, mRetN, mRetO, mIf, mSet, mSetO, mBk, mCt, mPre, mLock, mAsg, mFor, startE, resD, runQ, runF, qCall, fCall, arity, eQ, eF, eT, eNil, eCons, e1, e2, eTup, efLst, eLock, eIf, etV, eCall, efCall, enl, eNot, eAnd, eOr, resE, runE, runEF, mE, mSetE, mSetOE, mRetE, mRetFE, mIfE, mAsgE, oNone, oSome, gSl, qSl, fSl, gAll, gAny, qChain, gIn, pNil, pV, pL, mPar2, gCat, ef2, mAppE, mExtE, mPut, eNew, iE, iRngE, iSeqE, mForE, gRev, gRevL, iEnu, mHold, gTupR, nl, nlAll, ixN, PyData.isInt, PyData.isBool, PyData.isStr, PyData.isTuple, PyData.isList, PyData.isDict, b_chosen_spans_1, optD, sizeLine_eq, hz, hx]
      have hg : gre b (r :: rs) = r :: gre (some r.1) rs := by rw [gre, if_pos hf]
      have e1 : (bTup 3 (bCons (bName 3) (bCons (bName 4) (bCons (bName 5) bNil))) (triD r) [e0, .l (found.map .int), .v (.d (optD b)), .un, .un, e5, e6]).bind (fun env1 => b_chosen_spans_1 env1 h) = some (.nx, [e0, .l ((found ++ [(r.2.2 : Int)]).map .int), .v (.d (optD (some r.1))), .v (.d (.int r.1)), .v (.d (.int r.2.1)), .v (.d (.int (r.2.2 : Int))), e6], h) := hb
      rw [e1, Option.bind_some]
      show forGo _ _ (rs.map triD) [e0, .l ((found ++ [(r.2.2 : Int)]).map .int), .v (.d (optD (some r.1))), .un, .un, .v (.d (.int (r.2.2 : Int))), e6] h = _
      rw [ih, hg]
      have ho : ((List.map (·.1) (r :: gre (some r.1) rs)).getLast?).or b = ((List.map (·.1) (gre (some r.1) rs)).getLast?).or (some r.1) := by
        rw [List.map_cons, List.getLast?_cons]
        cases (List.map (·.1) (gre (some r.1) rs)).getLast? <;> rfl
      rw [ho, List.map_cons, List.append_assoc]
      rfl
    | false =>
      obtain ⟨e', ih⟩ := loop_ rs b found e0 (.v (.d (.int (r.2.2 : Int)))) e6 h (by omega)
      refine ⟨e', ?_⟩
      rw [List.map_cons, forGo]
      have hb : b_chosen_spans_1 [e0, .l (found.map .int), .v (.d (optD b)), .v (.d (.int r.1)), .v (.d (.int r.2.1)), .v (.d (.int (r.2.2 : Int))), e6] h = some (.nx, [e0, .l (found.map .int), .v (.d (optD b)), .v (.d (.int r.1)), .v (.d (.int r.2.1)), .v (.d (.int (r.2.2 : Int))), e6], h) := by
        cases b with
        | none => simp [freeB] at hf
        | some x =>
          have hx : ¬ x < r.2.1 := by simpa [freeB] using hf
          simp [qV, qVs, qC, q1, q2, qNl, qIf, aNil, aCons, dOf, dsOf, qTup, fLst, qF, gTru, tV, tAndF, tOrF, tNotF, qT, qAnd, qOr, qNot, gI, gI0, gB0, cMul, cDiv, cPow, gNeg, gAdd, eqI, neI, lstAt, gLen, gInt, gTuple, f1, f2, gList, gIsi, gIx, gIsN, gNoN, gIsB, iRng, iRngB, seqOf, iSeqN, iSeq, bName, bNil, bCons, bTup, wipeE, tTrue, mNx, mSeq, mRet, mRetF, mRetN, mRetO, mIf, mSet, mSetO, mBk, mCt, mPre, mLock, mAsg, mFor, startE, resD, runQ, runF, qCall, fCall, arity, eQ, eF, eT, eNil, eCons, e1, e2, eTup, efLst, eLock, eIf, etV, eCall, efCall, enl, eNot, eAnd, eOr, resE, runE, runEF, mE, mSetE, mSetOE, mRetE, mRetFE, mIfE, mAsgE, oNone, oSome, gSl, qSl, fSl, gAll, gAny, qChain, gIn, pNil, pV, pL, mPar2, gCat, ef2, mAppE, mExtE, mPut, eNew, iE, iRngE, iSeqE, mForE, gRev, gRevL, iEnu, mHold, gTupR, nl, nlAll, ixN, PyData.isInt, PyData.isBool, PyData.isStr, PyData.isTuple, PyData.isList, PyData.isDict, b_chosen_spans_1, optD, hx]
      have hg : gre b (r :: rs) = gre b rs := by rw [gre, if_neg (by rw [hf]; decide)]
      have e1 : (bTup 3 (bCons (bName 3) (bCons (bName 4) (bCons (bName 5) bNil))) (triD r) [e0, .l (found.map .int), .v (.d (optD b)), .un, .un, e5, e6]).bind (fun env1 => b_chosen_spans_1 env1 h) = some (.nx, [e0, .l (found.map .int), .v (.d (optD b)), .v (.d (.int r.1)), .v (.d (.int r.2.1)), .v (.d (.int (r.2.2 : Int))), e6], h) := hb
      rw [e1, Option.bind_some]
      show forGo _ _ (rs.map triD) [e0, .l (found.map .int), .v (.d (optD b)), .un, .un, .v (.d (.int (r.2.2 : Int))), e6] h = _
      rw [ih, hg]
/-- the indexes -/
def idx (sp : List (Int × Int)) : List Int := (chosen sp).map fun r => (r.2.2 : Int)
theorem trs_len (sp : List (Int × Int)) : ((trs sp).mergeSort le3).length = sp.length := by
  rw [List.length_mergeSort, trs, List.length_map, List.length_zipIdx]
theorem chosen_ (sp : List (Int × Int)) (h : Hs) (hl : sp.length ≤ 900) : r_chosen_spans [.d (spD sp)] h = some ((idx sp).map .int) := by
  have z1 : (sp.zipIdx).length ≤ sizeLine := by rw [sizeLine_eq, List.length_zipIdx]; omega
  have en : numD (sp.map pD) = sp.zipIdx.map fun p => PyData.tuple [.int (p.2 : Nat), pD p.1] := by
    unfold numD
    rw [List.zipIdx_map, List.map_map]
    rfl
  have e1 : fLc (iEnu (qV 0)) [5, 6] (bTup 2 (bCons (bName 5) (bCons (bName 6) bNil))) tTrue (qTup (aCons (qNl (q2 gIx (qV 6) (qC (.d (.int 1))))) (aCons (qNl (q2 gIx (qV 6) (qC (.d (.int 0))))) (aCons (qNl (qV 5)) aNil)))) [.v (.d (spD sp)), .l [], .v (.d .none), .un, .un, .un, .un] h = some ((trs sp).map triD) := by
    have := fLc_map (it := iEnu (qV 0)) (vs := [5, 6]) (bn := bTup 2 (bCons (bName 5) (bCons (bName 6) bNil))) (tt := tTrue) (te := qTup (aCons (qNl (q2 gIx (qV 6) (qC (.d (.int 1))))) (aCons (qNl (q2 gIx (qV 6) (qC (.d (.int 0))))) (aCons (qNl (qV 5)) aNil))))
      (env := [.v (.d (spD sp)), .l [], .v (.d .none), .un, .un, .un, .un]) (h := h) (f := fun p : (Int × Int) × Nat => PyData.tuple [.int (p.2 : Nat), pD p.1]) (g := fun p => triD (p.1.2, p.1.1, p.2)) (xs := sp.zipIdx) (by rw [← en]; simp [qV, qVs, qC, q1, q2, qNl, qIf, aNil, aCons, dOf, dsOf, qTup, fLst, qF, gTru, tV, tAndF, tOrF, tNotF, qT, qAnd, qOr, qNot, gI, gI0, gB0, cMul, cDiv, cPow, gNeg, gAdd, eqI, neI, lstAt, gLen, gInt, gTuple, f1, f2, gList, gIsi, gIx, gIsN, gNoN, gIsB, iRng, iRngB, seqOf, iSeqN, iSeq, bName, bNil, bCons, bTup, wipeE, tTrue, mNx, mSeq, mRet, mRetF, mRetN, mRetO, mIf, mSet, mSetO, mBk, mCt, mPre, mLock, mAsg, mFor, startE, resD, runQ, runF, qCall, fCall, arity, eQ, eF, eT, eNil, eCons, e1, e2, eTup, efLst, eLock, eIf, etV, eCall, efCall, enl, eNot, eAnd, eOr, resE, runE, runEF, mE, mSetE, mSetOE, mRetE, mRetFE, mIfE, mAsgE, oNone, oSome, gSl, qSl, fSl, gAll, gAny, qChain, gIn, pNil, pV, pL, mPar2, gCat, ef2, mAppE, mExtE, mPut, eNew, iE, iRngE, iSeqE, mForE, gRev, gRevL, iEnu, mHold, gTupR, nl, nlAll, ixN, PyData.isInt, PyData.isBool, PyData.isStr, PyData.isTuple, PyData.isList, PyData.isDict, nl_sp])
      (fun p _ => step_of (env1 := [.v (.d (spD sp)), .l [], .v (.d .none), .un, .un, .v (.d (.int (p.2 : Nat))), .v (.d (pD p.1))]) rfl rfl (by simp [qV, qVs, qC, q1, q2, qNl, qIf, aNil, aCons, dOf, dsOf, qTup, fLst, qF, gTru, tV, tAndF, tOrF, tNotF, qT, qAnd, qOr, qNot, gI, gI0, gB0, cMul, cDiv, cPow, gNeg, gAdd, eqI, neI, lstAt, gLen, gInt, gTuple, f1, f2, gList, gIsi, gIx, gIsN, gNoN, gIsB, iRng, iRngB, seqOf, iSeqN, iSeq, bName, bNil, bCons, bTup, wipeE, tTrue, mNx, mSeq, mRet, mRetF, mRetN, mRetO, mIf, mSet, mSetO, mBk, mCt, mPre, mLock, mAsg, mFor, startE, resD, runQ, runF, qCall, fCall, arity, eQ, eF, eT, eNil, eCons, e1, e2, eTup, efLst, eLock, eIf, etV, eCall, efCall, enl, eNot, eAnd, eOr, resE, runE, runEF, mE, mSetE, mSetOE, mRetE, mRetFE, mIfE, mAsgE, oNone, oSome, gSl, qSl, fSl, gAll, gAny, qChain, gIn, pNil, pV, pL, mPar2, gCat, ef2, mAppE, mExtE, mPut, eNew, iE, iRngE, iSeqE, mForE, gRev, gRevL, iEnu, mHold, gTupR, nl, nlAll, ixN, PyData.isInt, PyData.isBool, PyData.isStr, PyData.isTuple, PyData.isList, PyData.isDict, pD, sizeLine_eq])) z1
    rw [this, trs, List.map_map]
    rfl
  have e2 := sorted_rows triR (trs sp) (fun r _ => by simp) h
  obtain ⟨e', e3⟩ := loop_ ((trs sp).mergeSort le3) none [] (.v (.d (spD sp))) .un .un h (by rw [trs_len]; simp; omega)
  unfold r_chosen_spans runF
  show (m_chosen_spans [.v (.d (spD sp)), .un, .un, .un, .un, .un, .un] h).bind _ = _
  unfold m_chosen_spans
  rw [seq_nx (env1 := [.v (.d (spD sp)), .l [], .v (.d .none), .un, .un, .un, .un]) (h1 := h) rfl]
  rw [seq_nx (env1 := [.v (.d (spD sp)), .l ((([] : List Int) ++ (gre none ((trs sp).mergeSort le3)).map fun r => (r.2.2 : Int)).map .int), .v (.d (optD ((((gre none ((trs sp).mergeSort le3)).map (·.1)).getLast?).or none))), .un, .un, e', .un]) (h1 := h)]
  · rfl
  · unfold mFor
    have e4 : iSeq (qF (f1 gSorted (qF (fLc (iEnu (qV 0)) [5, 6] (bTup 2 (bCons (bName 5) (bCons (bName 6) bNil))) tTrue (qTup (aCons (qNl (q2 gIx (qV 6) (qC (.d (.int 1))))) (aCons (qNl (q2 gIx (qV 6) (qC (.d (.int 0))))) (aCons (qNl (qV 5)) aNil)))))))) [.v (.d (spD sp)), .l [], .v (.d .none), .un, .un, .un, .un] h = some (((trs sp).mergeSort le3).map triD) := by
      simp only [iSeq, qF, f1]
      rw [e1, Option.bind_some, Option.bind_some]
      show Option.bind (Option.bind (gSorted h (.d (.list ((trs sp).map triD)))) _) _ = _
      rw [e2]
      rfl
    rw [e4, Option.bind_some]
    exact e3
theorem idx_nodup {sp : List (Int × Int)} (hv : ∀ p ∈ sp, p.1 ≤ p.2) : (idx sp).Nodup := by
  refine List.pairwise_map.mpr ((List.Pairwise.and_mem.mp (cho_apart hv)).imp fun {a c} h => ?_)
  intro e
  have e : a.2.2 = c.2.2 := by omega
  have h1 := cho_at hv h.1
  have h2 := cho_at hv h.2.1
  rw [e] at h1
  rw [h1] at h2
  have := Option.some.inj h2
  have q1 : a.2.1 = c.2.1 := congrArg (fun z : Int × Int => z.1) this
  obtain ⟨p, hp, g1, g2⟩ := srt_mem.mp (gre_sub h.1)
  have := hv p (List.mem_of_getElem? hp)
  have := h.2.2
  omega
theorem cho_len (sp : List (Int × Int)) : (chosen sp).length ≤ sp.length := by
  have : ∀ (b : Option Int) (rs : List Tri), (gre b rs).length ≤ rs.length := fun b rs => by
    induction rs generalizing b with
    | nil => exact Nat.le_refl _
    | cons r rs ih =>
      unfold gre
      split
      · rw [List.length_cons, List.length_cons]
        exact Nat.succ_le_succ (ih _)
      · exact Nat.le_trans (ih _) (Nat.le_succ _)
  exact Nat.le_trans (this _ _) (Nat.le_of_eq (trs_len sp))
theorem paper_ {sp : List (Int × Int)} (hv : ∀ p ∈ sp, p.1 ≤ p.2) (h : Hs) (hl : sp.length ≤ 900) : r_force_paper [.d (spD sp)] h = some (.d (tI (sortU (idx sp)))) := by
  refine run_ret ?_
  have e1 := chosen_ sp h hl
  have e2 := sorted_ints (idx sp) h
  rw [msort_asc (idx_nodup hv)] at e2
  simp [qV, qVs, qC, q1, q2, qNl, qIf, aNil, aCons, dOf, dsOf, qTup, fLst, qF, gTru, tV, tAndF, tOrF, tNotF, qT, qAnd, qOr, qNot, gI, gI0, gB0, cMul, cDiv, cPow, gNeg, gAdd, eqI, neI, lstAt, gLen, gInt, gTuple, f1, f2, gList, gIsi, gIx, gIsN, gNoN, gIsB, iRng, iRngB, seqOf, iSeqN, iSeq, bName, bNil, bCons, bTup, wipeE, tTrue, mNx, mSeq, mRet, mRetF, mRetN, mRetO, mIf, mSet, mSetO, mBk, mCt, mPre, mLock, mAsg, mFor, startE, resD, runQ, runF, qCall, fCall, arity, eQ, eF, eT, eNil, eCons, e1, e2, eTup, efLst, eLock, eIf, etV, eCall, efCall, enl, eNot, eAnd, eOr, resE, runE, runEF, mE, mSetE, mSetOE, mRetE, mRetFE, mIfE, mAsgE, oNone, oSome, gSl, qSl, fSl, gAll, gAny, qChain, gIn, pNil, pV, pL, mPar2, gCat, ef2, mAppE, mExtE, mPut, eNew, iE, iRngE, iSeqE, mForE, gRev, gRevL, iEnu, mHold, gTupR, nl, nlAll, ixN, PyData.isInt, PyData.isBool, PyData.isStr, PyData.isTuple, PyData.isList, PyData.isDict, e1, e2]
theorem forces_ {sp : List (Int × Int)} (hv : ∀ p ∈ sp, p.1 ≤ p.2) (h : Hs) (hl : sp.length ≤ 900) : r_fewest_forces [.d (spD sp)] h = some (.d (tI (tms sp))) := by
  refine run_ret ?_
  have e1 := chosen_ sp h hl
  have z1 : (chosen sp).length ≤ sizeLine := by
    have := cho_len sp
    rw [sizeLine_eq]; omega
  have e2 := sorted_ints (tms sp) h
  rw [msort_asc (nodup_asc (tms_asc hv)), sortU_id (tms_asc hv)] at e2
  have e3 : fLc (iSeqN (qF (fCall (arity 1 r_chosen_spans) (aCons (qV 0) aNil)))) [1] (bName 1) tTrue (qNl (q2 gIx (q2 gIx (qV 0) (qV 1)) (qC (.d (.int 1))))) (startE 1 [.d (spD sp)]) h = some ((tms sp).map .int) := by
    have := fLc_map (it := iSeqN (qF (fCall (arity 1 r_chosen_spans) (aCons (qV 0) aNil)))) (vs := [1]) (bn := bName 1) (tt := tTrue) (te := qNl (q2 gIx (q2 gIx (qV 0) (qV 1)) (qC (.d (.int 1))))) (env := startE 1 [.d (spD sp)]) (h := h)
      (f := fun r : Tri => PyData.int (r.2.2 : Int)) (g := fun r => PyData.int r.1) (xs := chosen sp) (by
        have : (idx sp).map PyData.int = (chosen sp).map fun r => PyData.int (r.2.2 : Int) := by rw [idx, List.map_map]; rfl
        rw [← this]
        simp [qV, qVs, qC, q1, q2, qNl, qIf, aNil, aCons, dOf, dsOf, qTup, fLst, qF, gTru, tV, tAndF, tOrF, tNotF, qT, qAnd, qOr, qNot, gI, gI0, gB0, cMul, cDiv, cPow, gNeg, gAdd, eqI, neI, lstAt, gLen, gInt, gTuple, f1, f2, gList, gIsi, gIx, gIsN, gNoN, gIsB, iRng, iRngB, seqOf, iSeqN, iSeq, bName, bNil, bCons, bTup, wipeE, tTrue, mNx, mSeq, mRet, mRetF, mRetN, mRetO, mIf, mSet, mSetO, mBk, mCt, mPre, mLock, mAsg, mFor, startE, resD, runQ, runF, qCall, fCall, arity, eQ, eF, eT, eNil, eCons, e1, e2, eTup, efLst, eLock, eIf, etV, eCall, efCall, enl, eNot, eAnd, eOr, resE, runE, runEF, mE, mSetE, mSetOE, mRetE, mRetFE, mIfE, mAsgE, oNone, oSome, gSl, qSl, fSl, gAll, gAny, qChain, gIn, pNil, pV, pL, mPar2, gCat, ef2, mAppE, mExtE, mPut, eNew, iE, iRngE, iSeqE, mForE, gRev, gRevL, iEnu, mHold, gTupR, nl, nlAll, ixN, PyData.isInt, PyData.isBool, PyData.isStr, PyData.isTuple, PyData.isList, PyData.isDict, e1, nlAll_ints]) (fun r hr => step_of (env1 := [.v (.d (spD sp)), .v (.d (.int (r.2.2 : Int)))]) rfl rfl (by
          have : atI (sp.map pD) (r.2.2 : Int) = some (pD (r.2.1, r.1)) := atI_map (atN (cho_at hv hr))
          simp [qV, qVs, qC, q1, q2, qNl, qIf, aNil, aCons, dOf, dsOf, qTup, fLst, qF, gTru, tV, tAndF, tOrF, tNotF, qT, qAnd, qOr, qNot, gI, gI0, gB0, cMul, cDiv, cPow, gNeg, gAdd, eqI, neI, lstAt, gLen, gInt, gTuple, f1, f2, gList, gIsi, gIx, gIsN, gNoN, gIsB, iRng, iRngB, seqOf, iSeqN, iSeq, bName, bNil, bCons, bTup, wipeE, tTrue, mNx, mSeq, mRet, mRetF, mRetN, mRetO, mIf, mSet, mSetO, mBk, mCt, mPre, mLock, mAsg, mFor, startE, resD, runQ, runF, qCall, fCall, arity, eQ, eF, eT, eNil, eCons, e1, e2, eTup, efLst, eLock, eIf, etV, eCall, efCall, enl, eNot, eAnd, eOr, resE, runE, runEF, mE, mSetE, mSetOE, mRetE, mRetFE, mIfE, mAsgE, oNone, oSome, gSl, qSl, fSl, gAll, gAny, qChain, gIn, pNil, pV, pL, mPar2, gCat, ef2, mAppE, mExtE, mPut, eNew, iE, iRngE, iSeqE, mForE, gRev, gRevL, iEnu, mHold, gTupR, nl, nlAll, ixN, PyData.isInt, PyData.isBool, PyData.isStr, PyData.isTuple, PyData.isList, PyData.isDict, this, pD])) z1
    rw [this, tms, List.map_map]
    rfl
  simp only [q1, qF, f1] at e3 ⊢
  rw [e3]
  simp [qV, qVs, qC, q1, q2, qNl, qIf, aNil, aCons, dOf, dsOf, qTup, fLst, qF, gTru, tV, tAndF, tOrF, tNotF, qT, qAnd, qOr, qNot, gI, gI0, gB0, cMul, cDiv, cPow, gNeg, gAdd, eqI, neI, lstAt, gLen, gInt, gTuple, f1, f2, gList, gIsi, gIx, gIsN, gNoN, gIsB, iRng, iRngB, seqOf, iSeqN, iSeq, bName, bNil, bCons, bTup, wipeE, tTrue, mNx, mSeq, mRet, mRetF, mRetN, mRetO, mIf, mSet, mSetO, mBk, mCt, mPre, mLock, mAsg, mFor, startE, resD, runQ, runF, qCall, fCall, arity, eQ, eF, eT, eNil, eCons, e1, e2, eTup, efLst, eLock, eIf, etV, eCall, efCall, enl, eNot, eAnd, eOr, resE, runE, runEF, mE, mSetE, mSetOE, mRetE, mRetFE, mIfE, mAsgE, oNone, oSome, gSl, qSl, fSl, gAll, gAny, qChain, gIn, pNil, pV, pL, mPar2, gCat, ef2, mAppE, mExtE, mPut, eNew, iE, iRngE, iSeqE, mForE, gRev, gRevL, iEnu, mHold, gTupR, nl, nlAll, ixN, PyData.isInt, PyData.isBool, PyData.isStr, PyData.isTuple, PyData.isList, PyData.isDict, e2]
end K17

set_option Elab.async false
set_option linter.all false
set_option maxRecDepth 100000
set_option maxHeartbeats 4000000
namespace K17
open PySem L2 Evl Sm
/-! the fewest, by all sets -/
def lastI (ts : List Int) : Int := ts.getLastD 0
theorem lastI_app (us : List Int) (u : Int) : lastI (us ++ [u]) = u := by simp [lastI]
def ext (lasts ts : List Int) : List (List Int) := (lasts.filter fun l => decide (ts = []) || decide (lastI ts < l)).map fun l => ts ++ [l]
theorem last_at {ts : List Int} (h : ts ≠ []) : atI (ts.map PyData.int) (-1) = some (.int (lastI ts)) := by
  obtain ⟨us, u, rfl⟩ : ∃ us u, ts = us ++ [u] := ⟨ts.dropLast, ts.getLast h, (List.dropLast_concat_getLast h).symm⟩
  rw [List.map_append]
  rw [lastI_app]
  exact atI_last
theorem ext_len (lasts ts : List Int) : (ext lasts ts).length ≤ lasts.length := by
  unfold ext
  rw [List.length_map]
  exact List.length_filter_le _ _
theorem nl_rows (rows : List (List Int)) : nlAll (rows.map tI) = true := nl_mem.mpr fun d hd => by
  obtain ⟨r, _, rfl⟩ := List.mem_map.mp hd
  exact nlAll_ints _
theorem inner_ (lasts : List Int) (s0 s2 s3 s6 s7 : Sl) (h : Hs) (hl : lasts.length ≤ 7) : ∀ (rows : List (List Int)) (more : List (List Int)) (s5 : Sl), more.length + 7 * rows.length ≤ 16000000 → (∀ ts ∈ rows, ts.length ≤ 100) →
    ∃ s5', forGo [] (fun d env h => (bName 5 d env).bind fun env1 => b__law_fewest_1 env1 h) (rows.map tI) [s0, .l (lasts.map .int), s2, s3, .l (more.map tI), s5, s6, s7] h =
      some (.nx, [s0, .l (lasts.map .int), s2, s3, .l ((more ++ rows.flatMap (ext lasts)).map tI), s5', s6, s7], h)
  | [], more, s5, _, _ => ⟨s5, by simp [forGo]⟩
  | ts :: rows, more, s5, hb, hs => by
    rw [List.length_cons] at hb
    have hx := ext_len lasts ts
    obtain ⟨e', ih⟩ := inner_ lasts s0 s2 s3 s6 s7 h hl rows (more ++ ext lasts ts) (.v (.d (tI ts))) (by rw [List.length_append]; omega) fun t ht => hs t (List.mem_cons_of_mem _ ht)
    refine ⟨e', ?_⟩
    rw [List.map_cons, forGo]
    have z1 : lasts.length ≤ sizeLine := by rw [sizeLine_eq]; omega
    have ht := hs ts (by simp)
    have e1 : fLc (iSeqN (qV 1)) [7] (bName 7) (tOrF (tV (q2 gEq (qV 5) (qTup aNil))) (tV (q2 gGt (qV 7) (q2 gIx (qV 5) (q1 gNeg (qC (.d (.int 1)))))))) (q2 gAdd (qNl (qV 5)) (qTup (aCons (qNl (qV 7)) aNil))) [s0, .l (lasts.map .int), s2, s3, .l (more.map tI), .v (.d (tI ts)), s6, s7] h = some ((ext lasts ts).map tI) := by
      have := fLc_filter (it := iSeqN (qV 1)) (vs := [7]) (bn := bName 7) (tt := tOrF (tV (q2 gEq (qV 5) (qTup aNil))) (tV (q2 gGt (qV 7) (q2 gIx (qV 5) (q1 gNeg (qC (.d (.int 1)))))))) (te := q2 gAdd (qNl (qV 5)) (qTup (aCons (qNl (qV 7)) aNil)))
        (env := [s0, .l (lasts.map .int), s2, s3, .l (more.map tI), .v (.d (tI ts)), s6, s7]) (h := h) (f := PyData.int) (g := fun l => tI (ts ++ [l])) (p := fun l => decide (ts = []) || decide (lastI ts < l)) (xs := lasts) (by simp [qV, qVs, qC, q1, q2, qNl, qIf, aNil, aCons, dOf, dsOf, qTup, fLst, qF, gTru, tV, tAndF, tOrF, tNotF, qT, qAnd, qOr, qNot, gI, gI0, gB0, cMul, cDiv, cPow, gNeg, gAdd, eqI, neI, lstAt, gLen, gInt, gTuple, f1, f2, gList, gIsi, gIx, gIsN, gNoN, gIsB, iRng, iRngB, seqOf, iSeqN, iSeq, bName, bNil, bCons, bTup, wipeE, tTrue, mNx, mSeq, mRet, mRetF, mRetN, mRetO, mIf, mSet, mSetO, mBk, mCt, mPre, mLock, mAsg, mFor, startE, resD, runQ, runF, qCall, fCall, arity, eQ, eF, eT, eNil, eCons, e1, e2, eTup, efLst, eLock, eIf, etV, eCall, efCall, enl, eNot, eAnd, eOr, resE, runE, runEF, mE, mSetE, mSetOE, mRetE, mRetFE, mIfE, mAsgE, oNone, oSome, gSl, qSl, fSl, gAll, gAny, qChain, gIn, pNil, pV, pL, mPar2, gCat, ef2, mAppE, mExtE, mPut, eNew, iE, iRngE, iSeqE, mForE, gRev, gRevL, iEnu, mHold, gTupR, nl, nlAll, ixN, PyData.isInt, PyData.isBool, PyData.isStr, PyData.isTuple, PyData.isList, PyData.isDict, nlAll_ints]) (fun l _ => by
          have ee := eq_intsT ts [] h
          have z2 : ts.length + 1 ≤ 16777216 := by omega
          by_cases hne : ts = []
          · subst hne
            simp at ee
            simp [qV, qVs, qC, q1, q2, qNl, qIf, aNil, aCons, dOf, dsOf, qTup, fLst, qF, gTru, tV, tAndF, tOrF, tNotF, qT, qAnd, qOr, qNot, gI, gI0, gB0, cMul, cDiv, cPow, gNeg, gAdd, eqI, neI, lstAt, gLen, gInt, gTuple, f1, f2, gList, gIsi, gIx, gIsN, gNoN, gIsB, iRng, iRngB, seqOf, iSeqN, iSeq, bName, bNil, bCons, bTup, wipeE, tTrue, mNx, mSeq, mRet, mRetF, mRetN, mRetO, mIf, mSet, mSetO, mBk, mCt, mPre, mLock, mAsg, mFor, startE, resD, runQ, runF, qCall, fCall, arity, eQ, eF, eT, eNil, eCons, e1, e2, eTup, efLst, eLock, eIf, etV, eCall, efCall, enl, eNot, eAnd, eOr, resE, runE, runEF, mE, mSetE, mSetOE, mRetE, mRetFE, mIfE, mAsgE, oNone, oSome, gSl, qSl, fSl, gAll, gAny, qChain, gIn, pNil, pV, pL, mPar2, gCat, ef2, mAppE, mExtE, mPut, eNew, iE, iRngE, iSeqE, mForE, gRev, gRevL, iEnu, mHold, gTupR, nl, nlAll, ixN, PyData.isInt, PyData.isBool, PyData.isStr, PyData.isTuple, PyData.isList, PyData.isDict, tI, lcStep, ee, sizeLine_eq]
          · have la := last_at hne
            simp [hne] at ee
            by_cases hc : lastI ts < l
            · simp [qV, qVs, qC, q1, q2, qNl, qIf, aNil, aCons, dOf, dsOf, qTup, fLst, qF, gTru, tV, tAndF, tOrF, tNotF, qT, qAnd, qOr, qNot, gI, gI0, gB0, cMul, cDiv, cPow, gNeg, gAdd, eqI, neI, lstAt, gLen, gInt, gTuple, f1, f2, gList, gIsi, gIx, gIsN, gNoN, gIsB, iRng, iRngB, seqOf, iSeqN, iSeq, bName, bNil, bCons, bTup, wipeE, tTrue, mNx, mSeq, mRet, mRetF, mRetN, mRetO, mIf, mSet, mSetO, mBk, mCt, mPre, mLock, mAsg, mFor, startE, resD, runQ, runF, qCall, fCall, arity, eQ, eF, eT, eNil, eCons, e1, e2, eTup, efLst, eLock, eIf, etV, eCall, efCall, enl, eNot, eAnd, eOr, resE, runE, runEF, mE, mSetE, mSetOE, mRetE, mRetFE, mIfE, mAsgE, oNone, oSome, gSl, qSl, fSl, gAll, gAny, qChain, gIn, pNil, pV, pL, mPar2, gCat, ef2, mAppE, mExtE, mPut, eNew, iE, iRngE, iSeqE, mForE, gRev, gRevL, iEnu, mHold, gTupR, nl, nlAll, ixN, PyData.isInt, PyData.isBool, PyData.isStr, PyData.isTuple, PyData.isList, PyData.isDict, tI, lcStep, hne, ee, la, hc, nlAll_ints, sizeLine_eq, z2]
            · simp [qV, qVs, qC, q1, q2, qNl, qIf, aNil, aCons, dOf, dsOf, qTup, fLst, qF, gTru, tV, tAndF, tOrF, tNotF, qT, qAnd, qOr, qNot, gI, gI0, gB0, cMul, cDiv, cPow, gNeg, gAdd, eqI, neI, lstAt, gLen, gInt, gTuple, f1, f2, gList, gIsi, gIx, gIsN, gNoN, gIsB, iRng, iRngB, seqOf, iSeqN, iSeq, bName, bNil, bCons, bTup, wipeE, tTrue, mNx, mSeq, mRet, mRetF, mRetN, mRetO, mIf, mSet, mSetO, mBk, mCt, mPre, mLock, mAsg, mFor, startE, resD, runQ, runF, qCall, fCall, arity, eQ, eF, eT, eNil, eCons, e1, e2, eTup, efLst, eLock, eIf, etV, eCall, efCall, enl, eNot, eAnd, eOr, resE, runE, runEF, mE, mSetE, mSetOE, mRetE, mRetFE, mIfE, mAsgE, oNone, oSome, gSl, qSl, fSl, gAll, gAny, qChain, gIn, pNil, pV, pL, mPar2, gCat, ef2, mAppE, mExtE, mPut, eNew, iE, iRngE, iSeqE, mForE, gRev, gRevL, iEnu, mHold, gTupR, nl, nlAll, ixN, PyData.isInt, PyData.isBool, PyData.isStr, PyData.isTuple, PyData.isList, PyData.isDict, tI, lcStep, hne, ee, la, hc]) z1
      rw [this, ext, List.map_map]
      rfl
    have z3 : more.length + (ext lasts ts).length ≤ 16777216 := by omega
    have hb1 : b__law_fewest_1 [s0, .l (lasts.map .int), s2, s3, .l (more.map tI), .v (.d (tI ts)), s6, s7] h = some (.nx, [s0, .l (lasts.map .int), s2, s3, .l ((more ++ ext lasts ts).map tI), .v (.d (tI ts)), s6, s7], h) := by
      unfold b__law_fewest_1 mExtE eF
      show ((fLc _ _ _ _ _ _ _).bind _).bind _ = _
      rw [e1, Option.bind_some, Option.bind_some, List.length_map, List.length_map, sizeLine_eq, if_pos z3, List.map_append]
      rfl
    have hb2 : (bName 5 (tI ts) [s0, .l (lasts.map .int), s2, s3, .l (more.map tI), s5, s6, s7]).bind (fun env1 => b__law_fewest_1 env1 h) = some (.nx, [s0, .l (lasts.map .int), s2, s3, .l ((more ++ ext lasts ts).map tI), .v (.d (tI ts)), s6, s7], h) := hb1
    rw [hb2, Option.bind_some]
    show forGo _ _ (rows.map tI) [s0, .l (lasts.map .int), s2, s3, .l ((more ++ ext lasts ts).map tI), .v (.d (tI ts)), s6, s7] h = _
    rw [ih, List.flatMap_cons, List.append_assoc]
def lastsOf (sp : List (Int × Int)) : List Int := sortU (sp.map (·.2))
theorem insU_len (x : Int) : ∀ xs : List Int, (insU x xs).length ≤ xs.length + 1
  | [] => Nat.le_refl _
  | y :: ys => by
    unfold insU
    split
    · exact Nat.le_refl _
    · split
      · exact Nat.le_succ _
      · rw [List.length_cons, List.length_cons]
        exact Nat.succ_le_succ (insU_len x ys)
theorem sortU_len : ∀ xs : List Int, (sortU xs).length ≤ xs.length
  | [] => Nat.le_refl _
  | x :: xs => Nat.le_trans (insU_len x _) (Nat.succ_le_succ (sortU_len xs))
def cnt : Nat → Nat
  | 0 => 1
  | s + 1 => cnt s * 7
theorem cnt_le : ∀ {s : Nat}, s ≤ 7 → cnt s ≤ 823543 := by
  intro s hs
  have : s = 0 ∨ s = 1 ∨ s = 2 ∨ s = 3 ∨ s = 4 ∨ s = 5 ∨ s = 6 ∨ s = 7 := by omega
  rcases this with rfl | rfl | rfl | rfl | rfl | rfl | rfl | rfl <;> decide
theorem flat_len (lasts : List Int) (h : lasts.length ≤ 7) (rs : List (List Int)) : (rs.flatMap (ext lasts)).length ≤ rs.length * 7 := by
  induction rs with
  | nil => simp
  | cons r rs ih =>
    rw [List.flatMap_cons, List.length_append, List.length_cons]
    have := ext_len lasts r
    omega
/-- what stands at the turn s -/
def FI (sp : List (Int × Int)) (s : Nat) (env : En) (_ : Hs) : Prop := ∃ (rows : List (List Int)) (X e5 : Sl), env = [.v (.d (spD sp)), .l ((lastsOf sp).map .int), X, .un, .un, e5, .un, .un] ∧ (X = .l (rows.map tI) ∨ X = .v (.d (.list (rows.map tI)))) ∧
  (∀ ts ∈ rows, ts.length = s) ∧ (tms sp).take s ∈ rows ∧ rows.length ≤ cnt s ∧ s ≤ (tms sp).length
theorem take_ext {sp : List (Int × Int)} (hv : ∀ p ∈ sp, p.1 ≤ p.2) {s : Nat} (hs : s < (tms sp).length) : (tms sp).take (s + 1) ∈ ext (lastsOf sp) ((tms sp).take s) := by
  unfold ext
  rw [List.mem_map]
  refine ⟨(tms sp)[s], List.mem_filter.mpr ⟨?_, ?_⟩, by rw [List.take_succ_eq_append_getElem hs]⟩
  · refine mem_sortU.mpr ?_
    obtain ⟨c, hc, e⟩ := List.mem_map.mp (List.getElem_mem hs)
    rw [← e]
    exact List.mem_map.mpr ⟨_, List.mem_of_getElem? (cho_at hv hc), rfl⟩
  · rw [Bool.or_eq_true, decide_eq_true_eq, decide_eq_true_eq]
    cases s with
    | zero => exact .inl rfl
    | succ s =>
      right
      have hs' : s < (tms sp).length := by omega
      rw [List.take_succ_eq_append_getElem hs']
      rw [lastI_app]
      exact List.pairwise_iff_getElem.mp (tms_asc hv) s (s + 1) hs' hs (Nat.lt_succ_self s)
end K17

set_option Elab.async false
set_option linter.all false
set_option maxRecDepth 100000
set_option maxHeartbeats 4000000
namespace K17
open PySem L2 Evl Sm
theorem fewest_ {sp : List (Int × Int)} (hv : ∀ p ∈ sp, p.1 ≤ p.2) (h : Hs) (hl : sp.length ≤ 7) : r__law_fewest [.d (spD sp)] h = some (.d (.int (chosen sp).length)) := by
  have z1 : sp.length ≤ sizeLine := by rw [sizeLine_eq]; omega
  have l7 : (lastsOf sp).length ≤ 7 := Nat.le_trans (sortU_len _) (by rw [List.length_map]; exact hl)
  have t7 : (tms sp).length ≤ 7 := by rw [tms_len]; exact Nat.le_trans (cho_len sp) hl
  have tl : (tms sp).length ≤ (lastsOf sp).length := by
    rw [tms_len]
    refine cov_many hv (covB_iff.mpr fun p hp => ⟨p.2, mem_sortU.mpr (List.mem_map.mpr ⟨p, hp, rfl⟩), hv p hp, Int.le_refl _⟩)
  have e1 : fLc (iSeqN (qV 0)) [6, 7] (bTup 2 (bCons (bName 6) (bCons (bName 7) bNil))) tTrue (qNl (qV 7)) (startE 7 [.d (spD sp)]) h = some ((sp.map (·.2)).map .int) := by
    have := fLc_map (it := iSeqN (qV 0)) (vs := [6, 7]) (bn := bTup 2 (bCons (bName 6) (bCons (bName 7) bNil))) (tt := tTrue) (te := qNl (qV 7)) (env := startE 7 [.d (spD sp)]) (h := h) (f := pD) (g := fun p => PyData.int p.2) (xs := sp) (by simp [qV, qVs, qC, q1, q2, qNl, qIf, aNil, aCons, dOf, dsOf, qTup, fLst, qF, gTru, tV, tAndF, tOrF, tNotF, qT, qAnd, qOr, qNot, gI, gI0, gB0, cMul, cDiv, cPow, gNeg, gAdd, eqI, neI, lstAt, gLen, gInt, gTuple, f1, f2, gList, gIsi, gIx, gIsN, gNoN, gIsB, iRng, iRngB, seqOf, iSeqN, iSeq, bName, bNil, bCons, bTup, wipeE, tTrue, mNx, mSeq, mRet, mRetF, mRetN, mRetO, mIf, mSet, mSetO, mBk, mCt, mPre, mLock, mAsg, mFor, startE, resD, runQ, runF, qCall, fCall, arity, eQ, eF, eT, eNil, eCons, e1, e2, eTup, efLst, eLock, eIf, etV, eCall, efCall, enl, eNot, eAnd, eOr, resE, runE, runEF, mE, mSetE, mSetOE, mRetE, mRetFE, mIfE, mAsgE, oNone, oSome, gSl, qSl, fSl, gAll, gAny, qChain, gIn, pNil, pV, pL, mPar2, gCat, ef2, mAppE, mExtE, mPut, eNew, iE, iRngE, iSeqE, mForE, gRev, gRevL, iEnu, mHold, gTupR, nl, nlAll, ixN, PyData.isInt, PyData.isBool, PyData.isStr, PyData.isTuple, PyData.isList, PyData.isDict, nl_sp])
      (fun p _ => step_of (env1 := [.v (.d (spD sp)), .un, .un, .un, .un, .un, .v (.d (.int p.1)), .v (.d (.int p.2))]) rfl rfl rfl) z1
    rw [this, List.map_map]
    rfl
  obtain ⟨r, env', h', ef, pf⟩ := for_post (vs := [3, 4]) (body := fun d env h => (bName 3 d env).bind fun env1 => b__law_fewest_2 env1 h) (FI sp) (fun r _ _ => r = .rt .mo (.d (.int (chosen sp).length)))
    ((List.range ((lastsOf sp).length + 1)).map fun k : Nat => PyData.int (k : Int)) 0 [.v (.d (spD sp)), .l ((lastsOf sp).map .int), .l [tI []], .un, .un, .un, .un, .un] h
    ⟨[[]], _, _, rfl, .inl rfl, by simp, by simp, Nat.le_refl _, Nat.zero_le _⟩ (fun s x env h hx hI => by
      rw [Nat.zero_add] at hI ⊢
      obtain ⟨rows, X, e5, rfl, hX, hlen, hin, hcnt, hs⟩ := hI
      have hx : x = .int (s : Int) := by
        rw [List.getElem?_map] at hx
        obtain ⟨k, hk, rfl⟩ := Option.map_eq_some_iff.mp hx
        obtain ⟨_, rfl⟩ := List.getElem?_eq_some_iff.mp hk
        rw [List.getElem_range]
      subst hx
      have s7 : s ≤ 7 := by omega
      have r7 : rows.length ≤ 823543 := Nat.le_trans hcnt (cnt_le s7)
      have z2 : rows.length ≤ sizeLine := by rw [sizeLine_eq]; omega
      have any1 := any_lc (it := iSeqN (qV 2)) (vs := [5]) (bn := bName 5) (tt := tTrue) (te := qNl (qCall (arity 2 r__law_covers) (aCons (qV 0) (aCons (qV 5) aNil)))) (env := [.v (.d (spD sp)), .l ((lastsOf sp).map .int), X, .v (.d (.int (s : Int))), .un, e5, .un, .un]) (h := h)
        (f := tI) (p := covB sp) (xs := rows) (by rcases hX with rfl | rfl <;> simp [qV, qVs, qC, q1, q2, qNl, qIf, aNil, aCons, dOf, dsOf, qTup, fLst, qF, gTru, tV, tAndF, tOrF, tNotF, qT, qAnd, qOr, qNot, gI, gI0, gB0, cMul, cDiv, cPow, gNeg, gAdd, eqI, neI, lstAt, gLen, gInt, gTuple, f1, f2, gList, gIsi, gIx, gIsN, gNoN, gIsB, iRng, iRngB, seqOf, iSeqN, iSeq, bName, bNil, bCons, bTup, wipeE, tTrue, mNx, mSeq, mRet, mRetF, mRetN, mRetO, mIf, mSet, mSetO, mBk, mCt, mPre, mLock, mAsg, mFor, startE, resD, runQ, runF, qCall, fCall, arity, eQ, eF, eT, eNil, eCons, e1, e2, eTup, efLst, eLock, eIf, etV, eCall, efCall, enl, eNot, eAnd, eOr, resE, runE, runEF, mE, mSetE, mSetOE, mRetE, mRetFE, mIfE, mAsgE, oNone, oSome, gSl, qSl, fSl, gAll, gAny, qChain, gIn, pNil, pV, pL, mPar2, gCat, ef2, mAppE, mExtE, mPut, eNew, iE, iRngE, iSeqE, mForE, gRev, gRevL, iEnu, mHold, gTupR, nl, nlAll, ixN, PyData.isInt, PyData.isBool, PyData.isStr, PyData.isTuple, PyData.isList, PyData.isDict, nl_rows]) (fun ts hts => step_of (env1 := [.v (.d (spD sp)), .l ((lastsOf sp).map .int), X, .v (.d (.int (s : Int))), .un, .v (.d (tI ts)), .un, .un]) rfl rfl (by
          have := covers_ sp ts h (by omega) (by rw [hlen ts hts]; omega)
          simp [qV, qVs, qC, q1, q2, qNl, qIf, aNil, aCons, dOf, dsOf, qTup, fLst, qF, gTru, tV, tAndF, tOrF, tNotF, qT, qAnd, qOr, qNot, gI, gI0, gB0, cMul, cDiv, cPow, gNeg, gAdd, eqI, neI, lstAt, gLen, gInt, gTuple, f1, f2, gList, gIsi, gIx, gIsN, gNoN, gIsB, iRng, iRngB, seqOf, iSeqN, iSeq, bName, bNil, bCons, bTup, wipeE, tTrue, mNx, mSeq, mRet, mRetF, mRetN, mRetO, mIf, mSet, mSetO, mBk, mCt, mPre, mLock, mAsg, mFor, startE, resD, runQ, runF, qCall, fCall, arity, eQ, eF, eT, eNil, eCons, e1, e2, eTup, efLst, eLock, eIf, etV, eCall, efCall, enl, eNot, eAnd, eOr, resE, runE, runEF, mE, mSetE, mSetOE, mRetE, mRetFE, mIfE, mAsgE, oNone, oSome, gSl, qSl, fSl, gAll, gAny, qChain, gIn, pNil, pV, pL, mPar2, gCat, ef2, mAppE, mExtE, mPut, eNew, iE, iRngE, iSeqE, mForE, gRev, gRevL, iEnu, mHold, gTupR, nl, nlAll, ixN, PyData.isInt, PyData.isBool, PyData.isStr, PyData.isTuple, PyData.isList, PyData.isDict, this])) z2
      by_cases hc : s = (tms sp).length
      · have ha : rows.any (covB sp) = true := List.any_eq_true.mpr ⟨_, hin, by rw [hc, List.take_length]; exact tms_cov hv⟩
        rw [ha] at any1
        refine ⟨.rt .mo (.d (.int (s : Int))), [.v (.d (spD sp)), .l ((lastsOf sp).map .int), X, .v (.d (.int (s : Int))), .un, e5, .un, .un], h, ?_, .inr ⟨⟨by simp, by simp, by simp⟩, by rw [hc, tms_len]⟩⟩
        show b__law_fewest_2 [.v (.d (spD sp)), .l ((lastsOf sp).map .int), X, .v (.d (.int (s : Int))), .un, e5, .un, .un] h = _
        exact seq_rt (if_t (by unfold tV; rw [any1]; rfl) (ret_q rfl))
      · have ha : rows.any (covB sp) = false := by
          rw [List.any_eq_false]
          intro ts hts hcv
          have := cov_many hv hcv
          rw [hlen ts hts, ← tms_len] at this
          omega
        rw [ha] at any1
        have hlt : s < (tms sp).length := by omega
        obtain ⟨e5', ein⟩ := inner_ (lastsOf sp) (.v (.d (spD sp))) (.v (.d (.list (rows.map tI)))) (.v (.d (.int (s : Int)))) .un .un h l7 rows [] e5 (by simp; omega) fun ts hts => by rw [hlen ts hts]; omega
        refine ⟨.nx, [.v (.d (spD sp)), .l ((lastsOf sp).map .int), .v (.d (.list ((rows.flatMap (ext (lastsOf sp))).map tI))), .v (.d (.int (s : Int))), .v (.d (.list ((rows.flatMap (ext (lastsOf sp))).map tI))), e5', .un, .un], h, ?_, .inl ⟨.inl rfl, rows.flatMap (ext (lastsOf sp)), _, e5', rfl, .inr rfl, ?_, ?_, ?_, hlt⟩⟩
        · show b__law_fewest_2 [.v (.d (spD sp)), .l ((lastsOf sp).map .int), X, .v (.d (.int (s : Int))), .un, e5, .un, .un] h = _
          refine seq_to (if_f (by unfold tV; rw [any1]; rfl) rfl) (seq_to (env1 := [.v (.d (spD sp)), .l ((lastsOf sp).map .int), X, .v (.d (.int (s : Int))), .l [], e5, .un, .un]) (h1 := h) rfl ?_)
          have hh : mHold 2 (mSeq (mFor (iSeq (qVs 2)) [] (bName 5) b__law_fewest_1) (mHold 4 (mSet 2 (qVs 4)))) [.v (.d (spD sp)), .l ((lastsOf sp).map .int), X, .v (.d (.int (s : Int))), .l [], e5, .un, .un] h =
              mSeq (mFor (iSeq (qVs 2)) [] (bName 5) b__law_fewest_1) (mHold 4 (mSet 2 (qVs 4))) [.v (.d (spD sp)), .l ((lastsOf sp).map .int), .v (.d (.list (rows.map tI))), .v (.d (.int (s : Int))), .l [], e5, .un, .un] h := by
            rcases hX with rfl | rfl <;> rfl
          rw [hh]
          refine seq_to (env1 := [.v (.d (spD sp)), .l ((lastsOf sp).map .int), .v (.d (.list (rows.map tI))), .v (.d (.int (s : Int))), .l ((rows.flatMap (ext (lastsOf sp))).map tI), e5', .un, .un]) (h1 := h) ?_ rfl
          unfold mFor
          show forGo [] _ (rows.map tI) [.v (.d (spD sp)), .l ((lastsOf sp).map .int), .v (.d (.list (rows.map tI))), .v (.d (.int (s : Int))), .l ([].map tI), e5, .un, .un] h = _
          rw [ein, List.nil_append]
        · intro ts hts
          obtain ⟨us, hus, hts⟩ := List.mem_flatMap.mp hts
          obtain ⟨l, _, rfl⟩ := List.mem_map.mp hts
          rw [List.length_append, hlen us hus]
          rfl
        · exact List.mem_flatMap.mpr ⟨_, hin, take_ext hv hlt⟩
        · exact Nat.le_trans (flat_len _ l7 rows) (Nat.mul_le_mul_right 7 hcnt))
    (fun env h hI => by
      obtain ⟨rows, X, e5, _, _, _, _, _, hs⟩ := hI
      rw [Nat.zero_add, List.length_map, List.length_range] at hs
      omega)
  subst pf
  refine run_q (ℓ := .mo) (env1 := env') (h1 := h') (seq_to (env1 := [.v (.d (spD sp)), .l ((lastsOf sp).map .int), .un, .un, .un, .un, .un, .un]) (h1 := h) ?_ (seq_to (env1 := [.v (.d (spD sp)), .l ((lastsOf sp).map .int), .l [tI []], .un, .un, .un, .un, .un]) (h1 := h) ?_ (seq_rt ?_)))
  · unfold mSetO f1 qF
    rw [e1, Option.bind_some, Option.bind_some, setS_l (by rw [List.length_map]; omega)]
    rfl
  · simp [qV, qVs, qC, q1, q2, qNl, qIf, aNil, aCons, dOf, dsOf, qTup, fLst, qF, gTru, tV, tAndF, tOrF, tNotF, qT, qAnd, qOr, qNot, gI, gI0, gB0, cMul, cDiv, cPow, gNeg, gAdd, eqI, neI, lstAt, gLen, gInt, gTuple, f1, f2, gList, gIsi, gIx, gIsN, gNoN, gIsB, iRng, iRngB, seqOf, iSeqN, iSeq, bName, bNil, bCons, bTup, wipeE, tTrue, mNx, mSeq, mRet, mRetF, mRetN, mRetO, mIf, mSet, mSetO, mBk, mCt, mPre, mLock, mAsg, mFor, startE, resD, runQ, runF, qCall, fCall, arity, eQ, eF, eT, eNil, eCons, e1, e2, eTup, efLst, eLock, eIf, etV, eCall, efCall, enl, eNot, eAnd, eOr, resE, runE, runEF, mE, mSetE, mSetOE, mRetE, mRetFE, mIfE, mAsgE, oNone, oSome, gSl, qSl, fSl, gAll, gAny, qChain, gIn, pNil, pV, pL, mPar2, gCat, ef2, mAppE, mExtE, mPut, eNew, iE, iRngE, iSeqE, mForE, gRev, gRevL, iEnu, mHold, gTupR, nl, nlAll, ixN, PyData.isInt, PyData.isBool, PyData.isStr, PyData.isTuple, PyData.isList, PyData.isDict, tI, sizeLine_eq]
  · unfold mFor
    have e2 : iRng (q2 gAdd (q1 gLen (qV 1)) (qC (.d (.int 1)))) [.v (.d (spD sp)), .l ((lastsOf sp).map .int), .l [tI []], .un, .un, .un, .un, .un] h = some ((List.range ((lastsOf sp).length + 1)).map fun k : Nat => PyData.int (k : Int)) := by
      have b3 : (((lastsOf sp).length : Int) + 1).toNat = (lastsOf sp).length + 1 := by omega
      rw [iRng_of (n := ((lastsOf sp).length : Int) + 1) (by simp [qV, qVs, qC, q1, q2, qNl, qIf, aNil, aCons, dOf, dsOf, qTup, fLst, qF, gTru, tV, tAndF, tOrF, tNotF, qT, qAnd, qOr, qNot, gI, gI0, gB0, cMul, cDiv, cPow, gNeg, gAdd, eqI, neI, lstAt, gLen, gInt, gTuple, f1, f2, gList, gIsi, gIx, gIsN, gNoN, gIsB, iRng, iRngB, seqOf, iSeqN, iSeq, bName, bNil, bCons, bTup, wipeE, tTrue, mNx, mSeq, mRet, mRetF, mRetN, mRetO, mIf, mSet, mSetO, mBk, mCt, mPre, mLock, mAsg, mFor, startE, resD, runQ, runF, qCall, fCall, arity, eQ, eF, eT, eNil, eCons, e1, e2, eTup, efLst, eLock, eIf, etV, eCall, efCall, enl, eNot, eAnd, eOr, resE, runE, runEF, mE, mSetE, mSetOE, mRetE, mRetFE, mIfE, mAsgE, oNone, oSome, gSl, qSl, fSl, gAll, gAny, qChain, gIn, pNil, pV, pL, mPar2, gCat, ef2, mAppE, mExtE, mPut, eNew, iE, iRngE, iSeqE, mForE, gRev, gRevL, iEnu, mHold, gTupR, nl, nlAll, ixN, PyData.isInt, PyData.isBool, PyData.isStr, PyData.isTuple, PyData.isList, PyData.isDict]) (by omega) (by omega), b3]
    rw [e2, Option.bind_some]
    exact ef
end K17

set_option Elab.async false
set_option linter.all false
set_option maxRecDepth 100000
set_option maxHeartbeats 4000000
namespace K17
open PySem L2 Evl Sm
/-! papers -/
theorem wh_all {a b : Int} : ∀ {ds : List PyData}, ds.all (wh a b) = true → ∃ ns, intsOf ds = some ns ∧ ∀ n ∈ ns, a ≤ n ∧ n ≤ b
  | [], _ => ⟨[], rfl, by simp⟩
  | d :: ds, h => by
    rw [List.all_cons, Bool.and_eq_true] at h
    obtain ⟨ns, e, r⟩ := wh_all h.2
    cases d with
    | int n =>
      refine ⟨n :: ns, by simp [intsOf, intOf, e], fun m hm => ?_⟩
      rcases List.mem_cons.mp hm with rfl | hm
      · simpa [wh] using h.1
      · exact r m hm
    | _ => cases h.1
theorem wh_ints {a b : Int} {ns : List Int} : (ns.map PyData.int).all (wh a b) = ns.all fun n => decide (a ≤ n) && decide (n ≤ b) := by
  rw [List.all_map]
  rfl
def at0 (sp : List (Int × Int)) (n : Int) : Int × Int := sp.getD n.toNat (0, 0)
theorem at0_ix {sp : List (Int × Int)} {n : Int} (h0 : 0 ≤ n) (h1 : n ≤ (sp.length : Int) - 1) : atI (sp.map pD) n = some (pD (at0 sp n)) := by
  obtain ⟨k, rfl⟩ := Int.eq_ofNat_of_zero_le h0
  have hk : k < sp.length := by omega
  refine atI_map (atN ?_)
  unfold at0
  rw [Int.toNat_natCast, List.getD_eq_getElem?_getD, List.getElem?_eq_getElem hk]
  rfl
theorem at0_mem {sp : List (Int × Int)} {n : Int} (h0 : 0 ≤ n) (h1 : n ≤ (sp.length : Int) - 1) : at0 sp n ∈ sp := by
  have hk : n.toNat < sp.length := by omega
  unfold at0
  rw [List.getD_eq_getElem?_getD, List.getElem?_eq_getElem hk]
  exact List.getElem_mem hk
def ovB (a b : Int × Int) : Bool := decide (a.1 ≤ b.2) && decide (b.1 ≤ a.2)
/-- by the law -/
def lpB (sp : List (Int × Int)) (many : Int) : PyData → Bool
  | .tuple ds => if ds.all (wh 0 ((sp.length : Int) - 1)) = true then match intsOf ds with
      | some ns => decide (ns = sortU ns) && !decide ((ns.length : Int) < many) && !(ns.any fun k => ns.any fun j => !decide (j = k) && ovB (at0 sp j) (at0 sp k))
      | none => false
    else false
  | _ => false
theorem bl1 : ∀ p q : Bool, (!p || q) = true → (p && !q) = false := by decide
theorem bl2 : ∀ p q : Bool, (!p || q) = false → (p && !q) = true := by decide
theorem lpB_f {sp : List (Int × Int)} {many : Int} {ds : List PyData} (ha : ds.all (wh 0 ((sp.length : Int) - 1)) = false) : lpB sp many (.tuple ds) = false := by simp [lpB, ha]
theorem lpB_t {sp : List (Int × Int)} {many : Int} {ds : List PyData} {ns : List Int} (ha : ds.all (wh 0 ((sp.length : Int) - 1)) = true) (en : intsOf ds = some ns) :
    lpB sp many (.tuple ds) = (decide (ns = sortU ns) && !decide ((ns.length : Int) < many) && !(ns.any fun k => ns.any fun j => !decide (j = k) && ovB (at0 sp j) (at0 sp k))) := by simp only [lpB, ha, if_true, en]
theorem law_paper_ (sp : List (Int × Int)) (many : Int) (v : PyData) (h : Hs) (hl : sp.length ≤ 1000) (hn : nl v = true) (hs : short v) : r__law_is_paper [.d (spD sp), .d (.int many), .d v] h = some (.d (.bool (lpB sp many v))) := by
  cases v with
  | tuple ds =>
    have hs : ds.length ≤ 50 := hs
    have z2 : ds.length ≤ sizeLine := by rw [sizeLine_eq]; omega
    have hn : nlAll ds = true := hn
    have e1 := all_lc (it := iSeqN (qV 2)) (vs := [3]) (bn := bName 3) (tt := tTrue) (te := qNl (qCall (arity 3 r__law_whole) (aCons (qV 3) (aCons (qC (.d (.int 0))) (aCons (q2 gSub (q1 gLen (qV 0)) (qC (.d (.int 1)))) aNil))))) (env := [.v (.d (spD sp)), .v (.d (.int many)), .v (.d (.tuple ds)), .un, .un]) (h := h) (f := fun d : PyData => d) (p := wh 0 ((sp.length : Int) - 1)) (xs := ds) (by simp [qV, qVs, qC, q1, q2, qNl, qIf, aNil, aCons, dOf, dsOf, qTup, fLst, qF, gTru, tV, tAndF, tOrF, tNotF, qT, qAnd, qOr, qNot, gI, gI0, gB0, cMul, cDiv, cPow, gNeg, gAdd, eqI, neI, lstAt, gLen, gInt, gTuple, f1, f2, gList, gIsi, gIx, gIsN, gNoN, gIsB, iRng, iRngB, seqOf, iSeqN, iSeq, bName, bNil, bCons, bTup, wipeE, tTrue, mNx, mSeq, mRet, mRetF, mRetN, mRetO, mIf, mSet, mSetO, mBk, mCt, mPre, mLock, mAsg, mFor, startE, resD, runQ, runF, qCall, fCall, arity, eQ, eF, eT, eNil, eCons, e1, e2, eTup, efLst, eLock, eIf, etV, eCall, efCall, enl, eNot, eAnd, eOr, resE, runE, runEF, mE, mSetE, mSetOE, mRetE, mRetFE, mIfE, mAsgE, oNone, oSome, gSl, qSl, fSl, gAll, gAny, qChain, gIn, pNil, pV, pL, mPar2, gCat, ef2, mAppE, mExtE, mPut, eNew, iE, iRngE, iSeqE, mForE, gRev, gRevL, iEnu, mHold, gTupR, nl, nlAll, ixN, PyData.isInt, PyData.isBool, PyData.isStr, PyData.isTuple, PyData.isList, PyData.isDict, hn])
      (fun d _ => step_of (env1 := [.v (.d (spD sp)), .v (.d (.int many)), .v (.d (.tuple ds)), .v (.d d), .un]) rfl rfl (by simp [qV, qVs, qC, q1, q2, qNl, qIf, aNil, aCons, dOf, dsOf, qTup, fLst, qF, gTru, tV, tAndF, tOrF, tNotF, qT, qAnd, qOr, qNot, gI, gI0, gB0, cMul, cDiv, cPow, gNeg, gAdd, eqI, neI, lstAt, gLen, gInt, gTuple, f1, f2, gList, gIsi, gIx, gIsN, gNoN, gIsB, iRng, iRngB, seqOf, iSeqN, iSeq, bName, bNil, bCons, bTup, wipeE, tTrue, mNx, mSeq, mRet, mRetF, mRetN, mRetO, mIf, mSet, mSetO, mBk, mCt, mPre, mLock, mAsg, mFor, startE, resD, runQ, runF, qCall, fCall, arity, eQ, eF, eT, eNil, eCons, e1, e2, eTup, efLst, eLock, eIf, etV, eCall, efCall, enl, eNot, eAnd, eOr, resE, runE, runEF, mE, mSetE, mSetOE, mRetE, mRetFE, mIfE, mAsgE, oNone, oSome, gSl, qSl, fSl, gAll, gAny, qChain, gIn, pNil, pV, pL, mPar2, gCat, ef2, mAppE, mExtE, mPut, eNew, iE, iRngE, iSeqE, mForE, gRev, gRevL, iEnu, mHold, gTupR, nl, nlAll, ixN, PyData.isInt, PyData.isBool, PyData.isStr, PyData.isTuple, PyData.isList, PyData.isDict, law_whole_])) z2
    cases ha : ds.all (wh 0 ((sp.length : Int) - 1)) with
    | false =>
      have e2 : lpB sp many (.tuple ds) = false := by simp [lpB, ha]
      rw [ha] at e1
      rw [e2]
      refine run_q (ℓ := .mo) (seq_rt (if_t ?_ (ret_q rfl)))
      simp [qV, qVs, qC, q1, q2, qNl, qIf, aNil, aCons, dOf, dsOf, qTup, fLst, qF, gTru, tV, tAndF, tOrF, tNotF, qT, qAnd, qOr, qNot, gI, gI0, gB0, cMul, cDiv, cPow, gNeg, gAdd, eqI, neI, lstAt, gLen, gInt, gTuple, f1, f2, gList, gIsi, gIx, gIsN, gNoN, gIsB, iRng, iRngB, seqOf, iSeqN, iSeq, bName, bNil, bCons, bTup, wipeE, tTrue, mNx, mSeq, mRet, mRetF, mRetN, mRetO, mIf, mSet, mSetO, mBk, mCt, mPre, mLock, mAsg, mFor, startE, resD, runQ, runF, qCall, fCall, arity, eQ, eF, eT, eNil, eCons, e1, e2, eTup, efLst, eLock, eIf, etV, eCall, efCall, enl, eNot, eAnd, eOr, resE, runE, runEF, mE, mSetE, mSetOE, mRetE, mRetFE, mIfE, mAsgE, oNone, oSome, gSl, qSl, fSl, gAll, gAny, qChain, gIn, pNil, pV, pL, mPar2, gCat, ef2, mAppE, mExtE, mPut, eNew, iE, iRngE, iSeqE, mForE, gRev, gRevL, iEnu, mHold, gTupR, nl, nlAll, ixN, PyData.isInt, PyData.isBool, PyData.isStr, PyData.isTuple, PyData.isList, PyData.isDict] at e1 ⊢
      simp [e1]
    | true =>
      obtain ⟨ns, en, hr⟩ := wh_all ha
      have := intsOf_map en
      subst this
      rw [ha] at e1
      rw [List.length_map] at hs z2
      have e2 : lpB sp many (.tuple (ns.map .int)) = (decide (ns = sortU ns) && !decide ((ns.length : Int) < many) && !(ns.any fun k => ns.any fun j => !decide (j = k) && ovB (at0 sp j) (at0 sp k))) := by
        exact lpB_t ha (intsOf_ints ns)
      rw [e2]
      have e3 := setS_t (ns := ns) (by omega) h
      have e4 := ne_ints ns (sortU ns) h
      have t1 : tV (q2 gNe (qF (f1 gList (qV 2))) (qF (f1 gSetS (qV 2)))) [.v (.d (spD sp)), .v (.d (.int many)), .v (.d (tI ns)), .un, .un] h = some (!decide (ns = sortU ns)) := by
        simp [qV, qVs, qC, q1, q2, qNl, qIf, aNil, aCons, dOf, dsOf, qTup, fLst, qF, gTru, tV, tAndF, tOrF, tNotF, qT, qAnd, qOr, qNot, gI, gI0, gB0, cMul, cDiv, cPow, gNeg, gAdd, eqI, neI, lstAt, gLen, gInt, gTuple, f1, f2, gList, gIsi, gIx, gIsN, gNoN, gIsB, iRng, iRngB, seqOf, iSeqN, iSeq, bName, bNil, bCons, bTup, wipeE, tTrue, mNx, mSeq, mRet, mRetF, mRetN, mRetO, mIf, mSet, mSetO, mBk, mCt, mPre, mLock, mAsg, mFor, startE, resD, runQ, runF, qCall, fCall, arity, eQ, eF, eT, eNil, eCons, e1, e2, eTup, efLst, eLock, eIf, etV, eCall, efCall, enl, eNot, eAnd, eOr, resE, runE, runEF, mE, mSetE, mSetOE, mRetE, mRetFE, mIfE, mAsgE, oNone, oSome, gSl, qSl, fSl, gAll, gAny, qChain, gIn, pNil, pV, pL, mPar2, gCat, ef2, mAppE, mExtE, mPut, eNew, iE, iRngE, iSeqE, mForE, gRev, gRevL, iEnu, mHold, gTupR, nl, nlAll, ixN, PyData.isInt, PyData.isBool, PyData.isStr, PyData.isTuple, PyData.isList, PyData.isDict, nlAll_ints, e3, e4]
      have t0 : tV (q1 gAll (qF (fLc (iSeqN (qV 2)) [3] (bName 3) tTrue (qNl (qCall (arity 3 r__law_whole) (aCons (qV 3) (aCons (qC (.d (.int 0))) (aCons (q2 gSub (q1 gLen (qV 0)) (qC (.d (.int 1)))) aNil)))))))) [.v (.d (spD sp)), .v (.d (.int many)), .v (.d (tI ns)), .un, .un] h = some true := by
        unfold tV
        rw [e1]
        rfl
      have t2 : tV (q2 gLt (q1 gLen (qV 2)) (qV 1)) [.v (.d (spD sp)), .v (.d (.int many)), .v (.d (tI ns)), .un, .un] h = some (decide ((ns.length : Int) < many)) := by
        simp [qV, qVs, qC, q1, q2, qNl, qIf, aNil, aCons, dOf, dsOf, qTup, fLst, qF, gTru, tV, tAndF, tOrF, tNotF, qT, qAnd, qOr, qNot, gI, gI0, gB0, cMul, cDiv, cPow, gNeg, gAdd, eqI, neI, lstAt, gLen, gInt, gTuple, f1, f2, gList, gIsi, gIx, gIsN, gNoN, gIsB, iRng, iRngB, seqOf, iSeqN, iSeq, bName, bNil, bCons, bTup, wipeE, tTrue, mNx, mSeq, mRet, mRetF, mRetN, mRetO, mIf, mSet, mSetO, mBk, mCt, mPre, mLock, mAsg, mFor, startE, resD, runQ, runF, qCall, fCall, arity, eQ, eF, eT, eNil, eCons, e1, e2, eTup, efLst, eLock, eIf, etV, eCall, efCall, enl, eNot, eAnd, eOr, resE, runE, runEF, mE, mSetE, mSetOE, mRetE, mRetFE, mIfE, mAsgE, oNone, oSome, gSl, qSl, fSl, gAll, gAny, qChain, gIn, pNil, pV, pL, mPar2, gCat, ef2, mAppE, mExtE, mPut, eNew, iE, iRngE, iSeqE, mForE, gRev, gRevL, iEnu, mHold, gTupR, nl, nlAll, ixN, PyData.isInt, PyData.isBool, PyData.isStr, PyData.isTuple, PyData.isList, PyData.isDict]
      have tt : tOrF (tNotF (tV (q1 (gIsi PyData.isTuple) (qV 2)))) (tOrF (tNotF (tV (q1 gAll (qF (fLc (iSeqN (qV 2)) [3] (bName 3) tTrue (qNl (qCall (arity 3 r__law_whole) (aCons (qV 3) (aCons (qC (.d (.int 0))) (aCons (q2 gSub (q1 gLen (qV 0)) (qC (.d (.int 1)))) aNil)))))))))) (tOrF (tV (q2 gNe (qF (f1 gList (qV 2))) (qF (f1 gSetS (qV 2))))) (tV (q2 gLt (q1 gLen (qV 2)) (qV 1))))) [.v (.d (spD sp)), .v (.d (.int many)), .v (.d (tI ns)), .un, .un] h = some (!decide (ns = sortU ns) || decide ((ns.length : Int) < many)) := by
        have t3 : tV (q1 (gIsi PyData.isTuple) (qV 2)) [.v (.d (spD sp)), .v (.d (.int many)), .v (.d (tI ns)), .un, .un] h = some true := rfl
        simp only [tOrF, tNotF, t3, t0, t1, t2, Option.bind_some]
        cases decide (ns = sortU ns) <;> simp
      cases hc : (!decide (ns = sortU ns) || decide ((ns.length : Int) < many)) with
      | true =>
        rw [hc] at tt
        have : (decide (ns = sortU ns) && !decide ((ns.length : Int) < many)) = false := bl1 _ _ hc
        rw [this]
        exact run_q (ℓ := .mo) (seq_rt (if_t tt (ret_q rfl)))
      | false =>
        rw [hc] at tt
        have : (decide (ns = sortU ns) && !decide ((ns.length : Int) < many)) = true := bl2 _ _ hc
        rw [this, Bool.true_and]
        refine run_q (ℓ := .mo) (seq_to (if_f tt rfl) (ret_q ?_))
        have ea := any_lc (it := iSeqN (qV 2)) (vs := [3]) (bn := bName 3) (tt := tTrue) (te := q1 gAny (qF (fLc (iSeqN (qV 2)) [4] (bName 4) tTrue (qAnd (q2 gNe (qV 4) (qV 3)) (qAnd (q2 gLe (q2 gIx (q2 gIx (qV 0) (qV 4)) (qC (.d (.int 0)))) (q2 gIx (q2 gIx (qV 0) (qV 3)) (qC (.d (.int 1))))) (q2 gLe (q2 gIx (q2 gIx (qV 0) (qV 3)) (qC (.d (.int 0)))) (q2 gIx (q2 gIx (qV 0) (qV 4)) (qC (.d (.int 1)))))))))) (env := [.v (.d (spD sp)), .v (.d (.int many)), .v (.d (tI ns)), .un, .un]) (h := h)
          (f := PyData.int) (p := fun k => ns.any fun j => !decide (j = k) && ovB (at0 sp j) (at0 sp k)) (xs := ns) (by simp [qV, qVs, qC, q1, q2, qNl, qIf, aNil, aCons, dOf, dsOf, qTup, fLst, qF, gTru, tV, tAndF, tOrF, tNotF, qT, qAnd, qOr, qNot, gI, gI0, gB0, cMul, cDiv, cPow, gNeg, gAdd, eqI, neI, lstAt, gLen, gInt, gTuple, f1, f2, gList, gIsi, gIx, gIsN, gNoN, gIsB, iRng, iRngB, seqOf, iSeqN, iSeq, bName, bNil, bCons, bTup, wipeE, tTrue, mNx, mSeq, mRet, mRetF, mRetN, mRetO, mIf, mSet, mSetO, mBk, mCt, mPre, mLock, mAsg, mFor, startE, resD, runQ, runF, qCall, fCall, arity, eQ, eF, eT, eNil, eCons, e1, e2, eTup, efLst, eLock, eIf, etV, eCall, efCall, enl, eNot, eAnd, eOr, resE, runE, runEF, mE, mSetE, mSetOE, mRetE, mRetFE, mIfE, mAsgE, oNone, oSome, gSl, qSl, fSl, gAll, gAny, qChain, gIn, pNil, pV, pL, mPar2, gCat, ef2, mAppE, mExtE, mPut, eNew, iE, iRngE, iSeqE, mForE, gRev, gRevL, iEnu, mHold, gTupR, nl, nlAll, ixN, PyData.isInt, PyData.isBool, PyData.isStr, PyData.isTuple, PyData.isList, PyData.isDict, nlAll_ints]) (fun k hk => step_of (env1 := [.v (.d (spD sp)), .v (.d (.int many)), .v (.d (tI ns)), .v (.d (.int k)), .un]) rfl rfl
            (any_lc (f := PyData.int) (xs := ns) (by simp [qV, qVs, qC, q1, q2, qNl, qIf, aNil, aCons, dOf, dsOf, qTup, fLst, qF, gTru, tV, tAndF, tOrF, tNotF, qT, qAnd, qOr, qNot, gI, gI0, gB0, cMul, cDiv, cPow, gNeg, gAdd, eqI, neI, lstAt, gLen, gInt, gTuple, f1, f2, gList, gIsi, gIx, gIsN, gNoN, gIsB, iRng, iRngB, seqOf, iSeqN, iSeq, bName, bNil, bCons, bTup, wipeE, tTrue, mNx, mSeq, mRet, mRetF, mRetN, mRetO, mIf, mSet, mSetO, mBk, mCt, mPre, mLock, mAsg, mFor, startE, resD, runQ, runF, qCall, fCall, arity, eQ, eF, eT, eNil, eCons, e1, e2, eTup, efLst, eLock, eIf, etV, eCall, efCall, enl, eNot, eAnd, eOr, resE, runE, runEF, mE, mSetE, mSetOE, mRetE, mRetFE, mIfE, mAsgE, oNone, oSome, gSl, qSl, fSl, gAll, gAny, qChain, gIn, pNil, pV, pL, mPar2, gCat, ef2, mAppE, mExtE, mPut, eNew, iE, iRngE, iSeqE, mForE, gRev, gRevL, iEnu, mHold, gTupR, nl, nlAll, ixN, PyData.isInt, PyData.isBool, PyData.isStr, PyData.isTuple, PyData.isList, PyData.isDict, nlAll_ints]) (fun j hj => step_of (env1 := [.v (.d (spD sp)), .v (.d (.int many)), .v (.d (tI ns)), .v (.d (.int k)), .v (.d (.int j))]) rfl rfl (by
              have a1 := at0_ix (sp := sp) (hr k hk).1 (hr k hk).2
              have a2 := at0_ix (sp := sp) (hr j hj).1 (hr j hj).2
              by_cases hjk : j = k
              · subst hjk
                simp [qV, qVs, qC, q1, q2, qNl, qIf, aNil, aCons, dOf, dsOf, qTup, fLst, qF, gTru, tV, tAndF, tOrF, tNotF, qT, qAnd, qOr, qNot, gI, gI0, gB0, cMul, cDiv, cPow, gNeg, gAdd, eqI, neI, lstAt, gLen, gInt, gTuple, f1, f2, gList, gIsi, gIx, gIsN, gNoN, gIsB, iRng, iRngB, seqOf, iSeqN, iSeq, bName, bNil, bCons, bTup, wipeE, tTrue, mNx, mSeq, mRet, mRetF, mRetN, mRetO, mIf, mSet, mSetO, mBk, mCt, mPre, mLock, mAsg, mFor, startE, resD, runQ, runF, qCall, fCall, arity, eQ, eF, eT, eNil, eCons, e1, e2, eTup, efLst, eLock, eIf, etV, eCall, efCall, enl, eNot, eAnd, eOr, resE, runE, runEF, mE, mSetE, mSetOE, mRetE, mRetFE, mIfE, mAsgE, oNone, oSome, gSl, qSl, fSl, gAll, gAny, qChain, gIn, pNil, pV, pL, mPar2, gCat, ef2, mAppE, mExtE, mPut, eNew, iE, iRngE, iSeqE, mForE, gRev, gRevL, iEnu, mHold, gTupR, nl, nlAll, ixN, PyData.isInt, PyData.isBool, PyData.isStr, PyData.isTuple, PyData.isList, PyData.isDict]
              · by_cases h1 : (at0 sp j).1 ≤ (at0 sp k).2
                all_goals simp [qV, qVs, qC, q1, q2, qNl, qIf, aNil, aCons, dOf, dsOf, qTup, fLst, qF, gTru, tV, tAndF, tOrF, tNotF, qT, qAnd, qOr, qNot, gI, gI0, gB0, cMul, cDiv, cPow, gNeg, gAdd, eqI, neI, lstAt, gLen, gInt, gTuple, f1, f2, gList, gIsi, gIx, gIsN, gNoN, gIsB, iRng, iRngB, seqOf, iSeqN, iSeq, bName, bNil, bCons, bTup, wipeE, tTrue, mNx, mSeq, mRet, mRetF, mRetN, mRetO, mIf, mSet, mSetO, mBk, mCt, mPre, mLock, mAsg, mFor, startE, resD, runQ, runF, qCall, fCall, arity, eQ, eF, eT, eNil, eCons, e1, e2, eTup, efLst, eLock, eIf, etV, eCall, efCall, enl, eNot, eAnd, eOr, resE, runE, runEF, mE, mSetE, mSetOE, mRetE, mRetFE, mIfE, mAsgE, oNone, oSome, gSl, qSl, fSl, gAll, gAny, qChain, gIn, pNil, pV, pL, mPar2, gCat, ef2, mAppE, mExtE, mPut, eNew, iE, iRngE, iSeqE, mForE, gRev, gRevL, iEnu, mHold, gTupR, nl, nlAll, ixN, PyData.isInt, PyData.isBool, PyData.isStr, PyData.isTuple, PyData.isList, PyData.isDict, hjk, a1, a2, pD, h1, ovB])) z2)) z2
        show qNot _ [.v (.d (spD sp)), .v (.d (.int many)), .v (.d (tI ns)), .un, .un] h = _
        unfold qNot
        rw [ea]
        rfl
  | _ =>
    refine run_q (ℓ := .mo) (seq_rt (if_t ?_ (ret_q rfl)))
    simp [qV, qVs, qC, q1, q2, qNl, qIf, aNil, aCons, dOf, dsOf, qTup, fLst, qF, gTru, tV, tAndF, tOrF, tNotF, qT, qAnd, qOr, qNot, gI, gI0, gB0, cMul, cDiv, cPow, gNeg, gAdd, eqI, neI, lstAt, gLen, gInt, gTuple, f1, f2, gList, gIsi, gIx, gIsN, gNoN, gIsB, iRng, iRngB, seqOf, iSeqN, iSeq, bName, bNil, bCons, bTup, wipeE, tTrue, mNx, mSeq, mRet, mRetF, mRetN, mRetO, mIf, mSet, mSetO, mBk, mCt, mPre, mLock, mAsg, mFor, startE, resD, runQ, runF, qCall, fCall, arity, eQ, eF, eT, eNil, eCons, e1, e2, eTup, efLst, eLock, eIf, etV, eCall, efCall, enl, eNot, eAnd, eOr, resE, runE, runEF, mE, mSetE, mSetOE, mRetE, mRetFE, mIfE, mAsgE, oNone, oSome, gSl, qSl, fSl, gAll, gAny, qChain, gIn, pNil, pV, pL, mPar2, gCat, ef2, mAppE, mExtE, mPut, eNew, iE, iRngE, iSeqE, mForE, gRev, gRevL, iEnu, mHold, gTupR, nl, nlAll, ixN, PyData.isInt, PyData.isBool, PyData.isStr, PyData.isTuple, PyData.isList, PyData.isDict]
/-- neighbours lie apart -/
def rowsB (rs : List (Int × Int)) : Bool := (List.range (rs.length - 1)).all fun k => decide ((rs.getD k (0, 0)).2 < (rs.getD (k + 1) (0, 0)).1)
theorem rowsB_iff {rs : List (Int × Int)} (hv : ∀ r ∈ rs, r.1 ≤ r.2) : rowsB rs = true ↔ rs.Pairwise (fun a b => a.2 < b.1) := by
  unfold rowsB
  rw [List.all_eq_true]
  induction rs with
  | nil => simp
  | cons x xs ih =>
    have ih := ih fun r hr => hv r (List.mem_cons_of_mem _ hr)
    cases xs with
    | nil => simp
    | cons y ys =>
      rw [List.pairwise_cons]
      constructor
      · intro h
        have h0 : x.2 < y.1 := by simpa using h 0 (by simp)
        have h1 : (y :: ys).Pairwise (fun a b => a.2 < b.1) := ih.mp fun k hk => by
          have := h (k + 1) (by simp at hk ⊢; omega)
          simpa using this
        refine ⟨fun z hz => ?_, h1⟩
        rcases List.mem_cons.mp hz with rfl | hz
        · exact h0
        · have := (List.pairwise_cons.mp h1).1 z hz
          have := hv y (by simp)
          omega
      · intro ⟨h0, h1⟩ k hk
        cases k with
        | zero => simpa using h0 y (by simp)
        | succ k =>
          have := ih.mpr h1 k (by simp at hk ⊢; omega)
          simpa using this
abbrev pR (p : Int × Int) : List Int := [p.1, p.2]
def le2 (a b : Int × Int) : Bool := decide (pR a ≤ pR b)
theorem le2_fst {a b : Int × Int} (h : le2 a b = true) : a.1 ≤ b.1 := by
  unfold le2 at h
  rw [decide_eq_true_eq, List.cons_le_cons_iff] at h
  rcases h with h | h <;> omega
/-- by the program -/
def fpB (sp : List (Int × Int)) (many : Int) : PyData → Bool
  | .tuple ds => if ds.all (wh 0 ((sp.length : Int) - 1)) = true then match intsOf ds with
      | some ns => (ascB ns && !decide ((ns.length : Int) < many)) && rowsB ((ns.map (at0 sp)).mergeSort le2)
      | none => false
    else false
  | _ => false
theorem fpB_f {sp : List (Int × Int)} {many : Int} {ds : List PyData} (ha : ds.all (wh 0 ((sp.length : Int) - 1)) = false) : fpB sp many (.tuple ds) = false := by simp [fpB, ha]
theorem fpB_t {sp : List (Int × Int)} {many : Int} {ds : List PyData} {ns : List Int} (ha : ds.all (wh 0 ((sp.length : Int) - 1)) = true) (en : intsOf ds = some ns) :
    fpB sp many (.tuple ds) = ((ascB ns && !decide ((ns.length : Int) < many)) && rowsB ((ns.map (at0 sp)).mergeSort le2)) := by simp only [fpB, ha, if_true, en]
/-- the two agree -/
theorem papers_same {sp : List (Int × Int)} (hv : ∀ p ∈ sp, p.1 ≤ p.2) (many : Int) (v : PyData) : fpB sp many v = lpB sp many v := by
  cases v with
  | tuple ds =>
    cases ha : ds.all (wh 0 ((sp.length : Int) - 1)) with
    | false => rw [fpB_f ha, lpB_f ha]
    | true =>
      obtain ⟨ns, en, hr⟩ := wh_all ha
      rw [fpB_t ha en, lpB_t ha en]
      show ((ascB ns && !decide ((ns.length : Int) < many)) && rowsB ((ns.map (at0 sp)).mergeSort le2)) = (decide (ns = sortU ns) && !decide ((ns.length : Int) < many) && !(ns.any fun k => ns.any fun j => !decide (j = k) && ovB (at0 sp j) (at0 sp k)))
      have e1 : ascB ns = decide (ns = sortU ns) := by
        rw [Bool.eq_iff_iff, ascB_iff, decide_eq_true_eq, sortU_iff]
      rw [e1]
      by_cases hs : ns = sortU ns
      · have asc := sortU_iff.mp hs
        have nd := nodup_asc asc
        congr 1
        have hvm : ∀ r ∈ ns.map (at0 sp), r.1 ≤ r.2 := fun r hr2 => by
          obtain ⟨n, hn, rfl⟩ := List.mem_map.mp hr2
          exact hv _ (at0_mem (hr n hn).1 (hr n hn).2)
        have pm := List.mergeSort_perm (ns.map (at0 sp)) le2
        have hvs : ∀ r ∈ (ns.map (at0 sp)).mergeSort le2, r.1 ≤ r.2 := fun r hr2 => hvm r (pm.mem_iff.mp hr2)
        have srt : ((ns.map (at0 sp)).mergeSort le2).Pairwise (fun a b => a.1 ≤ b.1) :=
          (List.pairwise_mergeSort (fun a b c h1 h2 => by
            unfold le2 at *
            rw [decide_eq_true_eq] at *
            exact List.le_trans h1 h2) (fun a b => by
            unfold le2
            rw [Bool.or_eq_true, decide_eq_true_eq, decide_eq_true_eq]
            exact List.le_total _ _) _).imp le2_fst
        rw [Bool.eq_iff_iff, rowsB_iff hvs]
        have s1 : ((ns.map (at0 sp)).mergeSort le2).Pairwise (fun a b => a.2 < b.1) ↔ ((ns.map (at0 sp)).mergeSort le2).Pairwise Dj := by
          constructor
          · exact fun h => h.imp fun {a b} z => .inl z
          · intro h
            refine (List.Pairwise.and_mem.mp (List.Pairwise.and h srt)).imp fun {a b} z => ?_
            obtain ⟨ha, hb, zd, zl⟩ := z
            rcases zd with q | q
            · exact q
            · have := hvs b hb
              omega
        rw [s1, pm.pairwise_iff fun {a b} h => Dj.symm h, List.pairwise_map]
        constructor
        · intro h
          rw [Bool.not_eq_true', List.any_eq_false]
          intro k hk hc
          obtain ⟨j, hj, hc⟩ := List.any_eq_true.mp hc
          rw [Bool.and_eq_true, Bool.not_eq_true', decide_eq_false_iff_not] at hc
          obtain ⟨hne, hov⟩ := hc
          have : Dj (at0 sp j) (at0 sp k) := by
            have all : ∀ xs : List Int, xs.Pairwise (fun a b => Dj (at0 sp a) (at0 sp b)) → ∀ a ∈ xs, ∀ b ∈ xs, a ≠ b → Dj (at0 sp a) (at0 sp b) := by
              intro xs hx
              induction xs with
              | nil => simp
              | cons x xs ih =>
                have hx2 := List.pairwise_cons.mp hx
                intro a ha b hb hab
                rcases List.mem_cons.mp ha with e1 | ha2 <;> rcases List.mem_cons.mp hb with e2 | hb2
                · exact absurd (e1.trans e2.symm) hab
                · rw [e1]; exact hx2.1 b hb2
                · rw [e2]; exact (hx2.1 a ha2).symm
                · exact ih hx2.2 a ha2 b hb2 hab
            exact all ns h j hj k hk hne
          unfold ovB at hov
          rw [Bool.and_eq_true, decide_eq_true_eq, decide_eq_true_eq] at hov
          rcases this with q | q <;> omega
        · intro h
          rw [Bool.not_eq_true', List.any_eq_false] at h
          refine (List.Pairwise.and_mem.mp nd).imp fun {j k} z => ?_
          obtain ⟨hj, hk, hne⟩ := z
          have hk2 := h k hk
          rw [List.any_eq_true] at hk2
          have hc : ¬ (at0 sp j).1 ≤ (at0 sp k).2 ∨ ¬ (at0 sp k).1 ≤ (at0 sp j).2 := by
            rcases Classical.em ((at0 sp j).1 ≤ (at0 sp k).2) with q1 | q1
            · rcases Classical.em ((at0 sp k).1 ≤ (at0 sp j).2) with q2 | q2
              · refine absurd ⟨j, hj, ?_⟩ hk2
                simp [ovB, q1, q2]
                exact hne
              · exact .inr q2
            · exact .inl q1
          rcases hc with q | q
          · exact .inr (by omega)
          · exact .inl (by omega)
      · simp [hs]
  | _ => rfl
/-- none with more -/
theorem lpB_more {sp : List (Int × Int)} (hv : ∀ p ∈ sp, p.1 ≤ p.2) {many : Int} (hm : ((chosen sp).length : Int) < many) (v : PyData) : lpB sp many v = false := by
  rw [← papers_same hv]
  cases v with
  | tuple ds =>
    cases ha : ds.all (wh 0 ((sp.length : Int) - 1)) with
    | false => exact fpB_f ha
    | true =>
      obtain ⟨ns, en, hr⟩ := wh_all ha
      rw [fpB_t ha en]
      show ((ascB ns && !decide ((ns.length : Int) < many)) && rowsB ((ns.map (at0 sp)).mergeSort le2)) = false
      have pm := List.mergeSort_perm (ns.map (at0 sp)) le2
      have hms : ∀ r ∈ (ns.map (at0 sp)).mergeSort le2, r ∈ sp := fun r hr2 => by
        obtain ⟨n, hn, rfl⟩ := List.mem_map.mp (pm.mem_iff.mp hr2)
        exact at0_mem (hr n hn).1 (hr n hn).2
      cases hb : rowsB ((ns.map (at0 sp)).mergeSort le2) with
      | false => simp
      | true =>
        have h1 := (rowsB_iff fun r hr2 => hv r (hms r hr2)).mp hb
        have h2 := apart_many hv hms (h1.imp fun {a b} z => .inl z)
        rw [pm.length_eq, List.length_map] at h2
        have : (ns.length : Int) < many := by omega
        simp [this]
  | _ => rfl
/-- the program's own paper is one -/
theorem lpB_own {sp : List (Int × Int)} (hv : ∀ p ∈ sp, p.1 ≤ p.2) : lpB sp (chosen sp).length (tI (sortU (idx sp))) = true := by
  have hm : ∀ n ∈ sortU (idx sp), ∃ c ∈ chosen sp, n = (c.2.2 : Int) := fun n hn => by
    obtain ⟨c, hc, e⟩ := List.mem_map.mp (mem_sortU.mp hn)
    exact ⟨c, hc, e.symm⟩
  have ha : ((sortU (idx sp)).map PyData.int).all (wh 0 ((sp.length : Int) - 1)) = true := by
    rw [wh_ints, List.all_eq_true]
    intro n hn
    obtain ⟨c, hc, rfl⟩ := hm n hn
    have := (List.getElem?_eq_some_iff.mp (cho_at hv hc)).1
    rw [Bool.and_eq_true, decide_eq_true_eq, decide_eq_true_eq]
    omega
  have el : (sortU (idx sp)).length = (chosen sp).length := by
    rw [← msort_asc (idx_nodup hv), List.length_mergeSort]
    exact List.length_map _
  rw [lpB_t ha (intsOf_ints _)]
  show (decide (sortU (idx sp) = sortU (sortU (idx sp))) && !decide (((sortU (idx sp)).length : Int) < ((chosen sp).length : Int)) && !((sortU (idx sp)).any fun k => (sortU (idx sp)).any fun j => !decide (j = k) && ovB (at0 sp j) (at0 sp k))) = true
  rw [sortU_id (asc_sortU _), el]
  have z : ((sortU (idx sp)).any fun k => (sortU (idx sp)).any fun j => !decide (j = k) && ovB (at0 sp j) (at0 sp k)) = false := by
    rw [List.any_eq_false]
    intro k hk hc
    obtain ⟨j, hj, hc⟩ := List.any_eq_true.mp hc
    rw [Bool.and_eq_true, Bool.not_eq_true', decide_eq_false_iff_not] at hc
    obtain ⟨hne, hov⟩ := hc
    obtain ⟨c, hcm, rfl⟩ := hm k hk
    obtain ⟨d, hd, rfl⟩ := hm j hj
    have a1 : at0 sp (c.2.2 : Int) = (c.2.1, c.1) := by
      unfold at0
      rw [Int.toNat_natCast, List.getD_eq_getElem?_getD, cho_at hv hcm]
      rfl
    have a2 : at0 sp (d.2.2 : Int) = (d.2.1, d.1) := by
      unfold at0
      rw [Int.toNat_natCast, List.getD_eq_getElem?_getD, cho_at hv hd]
      rfl
    rw [a1, a2] at hov
    unfold ovB at hov
    rw [Bool.and_eq_true, decide_eq_true_eq, decide_eq_true_eq] at hov
    have all : ∀ xs : List Tri, xs.Pairwise (fun a b => a.1 < b.2.1) → ∀ a ∈ xs, ∀ b ∈ xs, a ≠ b → a.1 < b.2.1 ∨ b.1 < a.2.1 := by
      intro xs hx
      induction xs with
      | nil => simp
      | cons x xs ih =>
        have hx2 := List.pairwise_cons.mp hx
        intro a ha b hb hab
        rcases List.mem_cons.mp ha with e1 | ha2 <;> rcases List.mem_cons.mp hb with e2 | hb2
        · exact absurd (e1.trans e2.symm) hab
        · rw [e1]; exact .inl (hx2.1 b hb2)
        · rw [e2]; exact .inr (hx2.1 a ha2)
        · exact ih hx2.2 a ha2 b hb2 hab
    have : c ≠ d := fun z => hne (by rw [z])
    have h1 : c.2.1 ≤ d.1 ∧ d.2.1 ≤ c.1 := ⟨hov.2, hov.1⟩
    rcases all _ (cho_apart hv) c hcm d hd this with q | q <;> omega
  rw [z]
  simp
end K17

set_option Elab.async false
set_option linter.all false
set_option maxRecDepth 100000
set_option maxHeartbeats 4000000
namespace K17
open PySem L2 Evl Sm
theorem force_is_ {sp : List (Int × Int)} (many : Int) (v : PyData) (h : Hs) (hl : sp.length ≤ 1000) (hn : nl v = true) (hs : short v) : r_is_force_paper [.d (spD sp), .d (.int many), .d v] h = some (.d (.bool (fpB sp many v))) := by
  cases v with
  | tuple ds =>
    have hs : ds.length ≤ 50 := hs
    have z2 : ds.length ≤ sizeLine := by rw [sizeLine_eq]; omega
    have hn : nlAll ds = true := hn
    have e1 := all_lc (it := iSeqN (qV 2)) (vs := [4]) (bn := bName 4) (tt := tTrue) (te := qNl (qCall (arity 3 r_is_number) (aCons (qV 4) (aCons (qC (.d (.int 0))) (aCons (q2 gSub (q1 gLen (qV 0)) (qC (.d (.int 1)))) aNil))))) (env := [.v (.d (spD sp)), .v (.d (.int many)), .v (.d (.tuple ds)), .un, .un]) (h := h) (f := fun d : PyData => d) (p := wh 0 ((sp.length : Int) - 1)) (xs := ds) (by simp [qV, qVs, qC, q1, q2, qNl, qIf, aNil, aCons, dOf, dsOf, qTup, fLst, qF, gTru, tV, tAndF, tOrF, tNotF, qT, qAnd, qOr, qNot, gI, gI0, gB0, cMul, cDiv, cPow, gNeg, gAdd, eqI, neI, lstAt, gLen, gInt, gTuple, f1, f2, gList, gIsi, gIx, gIsN, gNoN, gIsB, iRng, iRngB, seqOf, iSeqN, iSeq, bName, bNil, bCons, bTup, wipeE, tTrue, mNx, mSeq, mRet, mRetF, mRetN, mRetO, mIf, mSet, mSetO, mBk, mCt, mPre, mLock, mAsg, mFor, startE, resD, runQ, runF, qCall, fCall, arity, eQ, eF, eT, eNil, eCons, e1, e2, eTup, efLst, eLock, eIf, etV, eCall, efCall, enl, eNot, eAnd, eOr, resE, runE, runEF, mE, mSetE, mSetOE, mRetE, mRetFE, mIfE, mAsgE, oNone, oSome, gSl, qSl, fSl, gAll, gAny, qChain, gIn, pNil, pV, pL, mPar2, gCat, ef2, mAppE, mExtE, mPut, eNew, iE, iRngE, iSeqE, mForE, gRev, gRevL, iEnu, mHold, gTupR, nl, nlAll, ixN, PyData.isInt, PyData.isBool, PyData.isStr, PyData.isTuple, PyData.isList, PyData.isDict, hn])
      (fun d _ => step_of (env1 := [.v (.d (spD sp)), .v (.d (.int many)), .v (.d (.tuple ds)), .un, .v (.d d)]) rfl rfl (by simp [qV, qVs, qC, q1, q2, qNl, qIf, aNil, aCons, dOf, dsOf, qTup, fLst, qF, gTru, tV, tAndF, tOrF, tNotF, qT, qAnd, qOr, qNot, gI, gI0, gB0, cMul, cDiv, cPow, gNeg, gAdd, eqI, neI, lstAt, gLen, gInt, gTuple, f1, f2, gList, gIsi, gIx, gIsN, gNoN, gIsB, iRng, iRngB, seqOf, iSeqN, iSeq, bName, bNil, bCons, bTup, wipeE, tTrue, mNx, mSeq, mRet, mRetF, mRetN, mRetO, mIf, mSet, mSetO, mBk, mCt, mPre, mLock, mAsg, mFor, startE, resD, runQ, runF, qCall, fCall, arity, eQ, eF, eT, eNil, eCons, e1, e2, eTup, efLst, eLock, eIf, etV, eCall, efCall, enl, eNot, eAnd, eOr, resE, runE, runEF, mE, mSetE, mSetOE, mRetE, mRetFE, mIfE, mAsgE, oNone, oSome, gSl, qSl, fSl, gAll, gAny, qChain, gIn, pNil, pV, pL, mPar2, gCat, ef2, mAppE, mExtE, mPut, eNew, iE, iRngE, iSeqE, mForE, gRev, gRevL, iEnu, mHold, gTupR, nl, nlAll, ixN, PyData.isInt, PyData.isBool, PyData.isStr, PyData.isTuple, PyData.isList, PyData.isDict, is_number_])) z2
    have tt : tOrF (tNotF (tV (q1 (gIsi PyData.isTuple) (qV 2)))) (tNotF (tV (q1 gAll (qF (fLc (iSeqN (qV 2)) [4] (bName 4) tTrue (qNl (qCall (arity 3 r_is_number) (aCons (qV 4) (aCons (qC (.d (.int 0))) (aCons (q2 gSub (q1 gLen (qV 0)) (qC (.d (.int 1)))) aNil)))))))))) [.v (.d (spD sp)), .v (.d (.int many)), .v (.d (.tuple ds)), .un, .un] h = some (!ds.all (wh 0 ((sp.length : Int) - 1))) := by
      have t3 : tV (q1 (gIsi PyData.isTuple) (qV 2)) [.v (.d (spD sp)), .v (.d (.int many)), .v (.d (.tuple ds)), .un, .un] h = some true := rfl
      have t0 : tV (q1 gAll (qF (fLc (iSeqN (qV 2)) [4] (bName 4) tTrue (qNl (qCall (arity 3 r_is_number) (aCons (qV 4) (aCons (qC (.d (.int 0))) (aCons (q2 gSub (q1 gLen (qV 0)) (qC (.d (.int 1)))) aNil)))))))) [.v (.d (spD sp)), .v (.d (.int many)), .v (.d (.tuple ds)), .un, .un] h = some (ds.all (wh 0 ((sp.length : Int) - 1))) := by
        unfold tV
        rw [e1]
        rfl
      simp only [tOrF, tNotF, t3, t0, Option.bind_some]
      rfl
    cases ha : ds.all (wh 0 ((sp.length : Int) - 1)) with
    | false =>
      rw [ha] at tt
      rw [fpB_f ha]
      exact run_q (ℓ := .mo) (seq_rt (if_t tt (ret_q rfl)))
    | true =>
      obtain ⟨ns, en, hr⟩ := wh_all ha
      have := intsOf_map en
      subst this
      rw [ha] at tt
      rw [List.length_map] at hs z2
      rw [fpB_t ha (intsOf_ints ns)]
      have ea := ascending_ ns h (by omega)
      have t2 : tOrF (tNotF (tV (qCall (arity 1 r_is_ascending) (aCons (qV 2) aNil)))) (tV (q2 gLt (q1 gLen (qV 2)) (qV 1))) [.v (.d (spD sp)), .v (.d (.int many)), .v (.d (tI ns)), .un, .un] h = some (!ascB ns || decide ((ns.length : Int) < many)) := by
        have t3 : tV (qCall (arity 1 r_is_ascending) (aCons (qV 2) aNil)) [.v (.d (spD sp)), .v (.d (.int many)), .v (.d (tI ns)), .un, .un] h = some (ascB ns) := by
          simp [qV, qVs, qC, q1, q2, qNl, qIf, aNil, aCons, dOf, dsOf, qTup, fLst, qF, gTru, tV, tAndF, tOrF, tNotF, qT, qAnd, qOr, qNot, gI, gI0, gB0, cMul, cDiv, cPow, gNeg, gAdd, eqI, neI, lstAt, gLen, gInt, gTuple, f1, f2, gList, gIsi, gIx, gIsN, gNoN, gIsB, iRng, iRngB, seqOf, iSeqN, iSeq, bName, bNil, bCons, bTup, wipeE, tTrue, mNx, mSeq, mRet, mRetF, mRetN, mRetO, mIf, mSet, mSetO, mBk, mCt, mPre, mLock, mAsg, mFor, startE, resD, runQ, runF, qCall, fCall, arity, eQ, eF, eT, eNil, eCons, e1, e2, eTup, efLst, eLock, eIf, etV, eCall, efCall, enl, eNot, eAnd, eOr, resE, runE, runEF, mE, mSetE, mSetOE, mRetE, mRetFE, mIfE, mAsgE, oNone, oSome, gSl, qSl, fSl, gAll, gAny, qChain, gIn, pNil, pV, pL, mPar2, gCat, ef2, mAppE, mExtE, mPut, eNew, iE, iRngE, iSeqE, mForE, gRev, gRevL, iEnu, mHold, gTupR, nl, nlAll, ixN, PyData.isInt, PyData.isBool, PyData.isStr, PyData.isTuple, PyData.isList, PyData.isDict, ea]
        have t4 : tV (q2 gLt (q1 gLen (qV 2)) (qV 1)) [.v (.d (spD sp)), .v (.d (.int many)), .v (.d (tI ns)), .un, .un] h = some (decide ((ns.length : Int) < many)) := by
          simp [qV, qVs, qC, q1, q2, qNl, qIf, aNil, aCons, dOf, dsOf, qTup, fLst, qF, gTru, tV, tAndF, tOrF, tNotF, qT, qAnd, qOr, qNot, gI, gI0, gB0, cMul, cDiv, cPow, gNeg, gAdd, eqI, neI, lstAt, gLen, gInt, gTuple, f1, f2, gList, gIsi, gIx, gIsN, gNoN, gIsB, iRng, iRngB, seqOf, iSeqN, iSeq, bName, bNil, bCons, bTup, wipeE, tTrue, mNx, mSeq, mRet, mRetF, mRetN, mRetO, mIf, mSet, mSetO, mBk, mCt, mPre, mLock, mAsg, mFor, startE, resD, runQ, runF, qCall, fCall, arity, eQ, eF, eT, eNil, eCons, e1, e2, eTup, efLst, eLock, eIf, etV, eCall, efCall, enl, eNot, eAnd, eOr, resE, runE, runEF, mE, mSetE, mSetOE, mRetE, mRetFE, mIfE, mAsgE, oNone, oSome, gSl, qSl, fSl, gAll, gAny, qChain, gIn, pNil, pV, pL, mPar2, gCat, ef2, mAppE, mExtE, mPut, eNew, iE, iRngE, iSeqE, mForE, gRev, gRevL, iEnu, mHold, gTupR, nl, nlAll, ixN, PyData.isInt, PyData.isBool, PyData.isStr, PyData.isTuple, PyData.isList, PyData.isDict]
        simp only [tOrF, tNotF, t3, t4, Option.bind_some]
        cases ascB ns <;> simp
      cases hc : (!ascB ns || decide ((ns.length : Int) < many)) with
      | true =>
        rw [hc] at t2
        rw [bl1 _ _ hc]
        exact run_q (ℓ := .mo) (seq_to (if_f tt rfl) (seq_rt (if_t t2 (ret_q rfl))))
      | false =>
        rw [hc] at t2
        rw [bl2 _ _ hc, Bool.true_and]
        have e3 := fLc_map (it := iSeqN (qV 2)) (vs := [4]) (bn := bName 4) (tt := tTrue) (te := qNl (q2 gIx (qV 0) (qV 4))) (env := [.v (.d (spD sp)), .v (.d (.int many)), .v (.d (tI ns)), .un, .un]) (h := h) (f := PyData.int) (g := fun n => pD (at0 sp n)) (xs := ns) (by simp [qV, qVs, qC, q1, q2, qNl, qIf, aNil, aCons, dOf, dsOf, qTup, fLst, qF, gTru, tV, tAndF, tOrF, tNotF, qT, qAnd, qOr, qNot, gI, gI0, gB0, cMul, cDiv, cPow, gNeg, gAdd, eqI, neI, lstAt, gLen, gInt, gTuple, f1, f2, gList, gIsi, gIx, gIsN, gNoN, gIsB, iRng, iRngB, seqOf, iSeqN, iSeq, bName, bNil, bCons, bTup, wipeE, tTrue, mNx, mSeq, mRet, mRetF, mRetN, mRetO, mIf, mSet, mSetO, mBk, mCt, mPre, mLock, mAsg, mFor, startE, resD, runQ, runF, qCall, fCall, arity, eQ, eF, eT, eNil, eCons, e1, e2, eTup, efLst, eLock, eIf, etV, eCall, efCall, enl, eNot, eAnd, eOr, resE, runE, runEF, mE, mSetE, mSetOE, mRetE, mRetFE, mIfE, mAsgE, oNone, oSome, gSl, qSl, fSl, gAll, gAny, qChain, gIn, pNil, pV, pL, mPar2, gCat, ef2, mAppE, mExtE, mPut, eNew, iE, iRngE, iSeqE, mForE, gRev, gRevL, iEnu, mHold, gTupR, nl, nlAll, ixN, PyData.isInt, PyData.isBool, PyData.isStr, PyData.isTuple, PyData.isList, PyData.isDict, nlAll_ints])
          (fun n hn => step_of (env1 := [.v (.d (spD sp)), .v (.d (.int many)), .v (.d (tI ns)), .un, .v (.d (.int n))]) rfl rfl (by
            have a1 := at0_ix (sp := sp) (hr n hn).1 (hr n hn).2
            simp [qV, qVs, qC, q1, q2, qNl, qIf, aNil, aCons, dOf, dsOf, qTup, fLst, qF, gTru, tV, tAndF, tOrF, tNotF, qT, qAnd, qOr, qNot, gI, gI0, gB0, cMul, cDiv, cPow, gNeg, gAdd, eqI, neI, lstAt, gLen, gInt, gTuple, f1, f2, gList, gIsi, gIx, gIsN, gNoN, gIsB, iRng, iRngB, seqOf, iSeqN, iSeq, bName, bNil, bCons, bTup, wipeE, tTrue, mNx, mSeq, mRet, mRetF, mRetN, mRetO, mIf, mSet, mSetO, mBk, mCt, mPre, mLock, mAsg, mFor, startE, resD, runQ, runF, qCall, fCall, arity, eQ, eF, eT, eNil, eCons, e1, e2, eTup, efLst, eLock, eIf, etV, eCall, efCall, enl, eNot, eAnd, eOr, resE, runE, runEF, mE, mSetE, mSetOE, mRetE, mRetFE, mIfE, mAsgE, oNone, oSome, gSl, qSl, fSl, gAll, gAny, qChain, gIn, pNil, pV, pL, mPar2, gCat, ef2, mAppE, mExtE, mPut, eNew, iE, iRngE, iSeqE, mForE, gRev, gRevL, iEnu, mHold, gTupR, nl, nlAll, ixN, PyData.isInt, PyData.isBool, PyData.isStr, PyData.isTuple, PyData.isList, PyData.isDict, a1, pD])) z2
        have e4 : gSorted h (.d (.list (ns.map fun n => pD (at0 sp n)))) = some (((ns.map (at0 sp)).mergeSort le2).map pD) := by
          have := sorted_rows pR (ns.map (at0 sp)) (fun r _ => by simp) h
          rw [List.map_map] at this
          exact this
        have e5 : mSetO 3 (f1 gSorted (qF (fLc (iSeqN (qV 2)) [4] (bName 4) tTrue (qNl (q2 gIx (qV 0) (qV 4)))))) [.v (.d (spD sp)), .v (.d (.int many)), .v (.d (tI ns)), .un, .un] h = some (.nx, [.v (.d (spD sp)), .v (.d (.int many)), .v (.d (tI ns)), .l (((ns.map (at0 sp)).mergeSort le2).map pD), .un], h) := by
          unfold mSetO f1 qF
          rw [e3, Option.bind_some, Option.bind_some, e4]
          rfl
        have lr : ((ns.map (at0 sp)).mergeSort le2).length ≤ 50 := by rw [List.length_mergeSort, List.length_map]; exact hs
        generalize (ns.map (at0 sp)).mergeSort le2 = rs at e5 lr ⊢
        refine run_q (ℓ := .mo) (seq_to (if_f tt rfl) (seq_to (if_f t2 rfl) (seq_to e5 (ret_q (all_lc (f := fun k : Nat => .int (k : Int)) (xs := List.range (rs.length - 1)) ?_ (fun k hk => step_of (env1 := [.v (.d (spD sp)), .v (.d (.int many)), .v (.d (tI ns)), .l (rs.map pD), .v (.d (.int (k : Int)))]) rfl rfl ?_) ?_)))))
        · have e : ((rs.length : Int) - 1).toNat = rs.length - 1 := by omega
          rw [iRng_of (n := (rs.length : Int) - 1) (by simp [qV, qVs, qC, q1, q2, qNl, qIf, aNil, aCons, dOf, dsOf, qTup, fLst, qF, gTru, tV, tAndF, tOrF, tNotF, qT, qAnd, qOr, qNot, gI, gI0, gB0, cMul, cDiv, cPow, gNeg, gAdd, eqI, neI, lstAt, gLen, gInt, gTuple, f1, f2, gList, gIsi, gIx, gIsN, gNoN, gIsB, iRng, iRngB, seqOf, iSeqN, iSeq, bName, bNil, bCons, bTup, wipeE, tTrue, mNx, mSeq, mRet, mRetF, mRetN, mRetO, mIf, mSet, mSetO, mBk, mCt, mPre, mLock, mAsg, mFor, startE, resD, runQ, runF, qCall, fCall, arity, eQ, eF, eT, eNil, eCons, e1, e2, eTup, efLst, eLock, eIf, etV, eCall, efCall, enl, eNot, eAnd, eOr, resE, runE, runEF, mE, mSetE, mSetOE, mRetE, mRetFE, mIfE, mAsgE, oNone, oSome, gSl, qSl, fSl, gAll, gAny, qChain, gIn, pNil, pV, pL, mPar2, gCat, ef2, mAppE, mExtE, mPut, eNew, iE, iRngE, iSeqE, mForE, gRev, gRevL, iEnu, mHold, gTupR, nl, nlAll, ixN, PyData.isInt, PyData.isBool, PyData.isStr, PyData.isTuple, PyData.isList, PyData.isDict]) (by omega) (by omega), e]
        · have hk := List.mem_range.mp hk
          have g : ∀ j, j < rs.length → atI (rs.map pD) (j : Int) = some (pD (rs.getD j (0, 0))) := fun j hj => atI_map (atN (by rw [List.getD_eq_getElem?_getD, List.getElem?_eq_getElem hj]; rfl))
          have g1 := g k (by omega)
          have g2 := g (k + 1) (by omega)
          have e : ((k + 1 : Nat) : Int) = (k : Int) + 1 := by omega
          rw [e] at g2
          simp [qV, qVs, qC, q1, q2, qNl, qIf, aNil, aCons, dOf, dsOf, qTup, fLst, qF, gTru, tV, tAndF, tOrF, tNotF, qT, qAnd, qOr, qNot, gI, gI0, gB0, cMul, cDiv, cPow, gNeg, gAdd, eqI, neI, lstAt, gLen, gInt, gTuple, f1, f2, gList, gIsi, gIx, gIsN, gNoN, gIsB, iRng, iRngB, seqOf, iSeqN, iSeq, bName, bNil, bCons, bTup, wipeE, tTrue, mNx, mSeq, mRet, mRetF, mRetN, mRetO, mIf, mSet, mSetO, mBk, mCt, mPre, mLock, mAsg, mFor, startE, resD, runQ, runF, qCall, fCall, arity, eQ, eF, eT, eNil, eCons, e1, e2, eTup, efLst, eLock, eIf, etV, eCall, efCall, enl, eNot, eAnd, eOr, resE, runE, runEF, mE, mSetE, mSetOE, mRetE, mRetFE, mIfE, mAsgE, oNone, oSome, gSl, qSl, fSl, gAll, gAny, qChain, gIn, pNil, pV, pL, mPar2, gCat, ef2, mAppE, mExtE, mPut, eNew, iE, iRngE, iSeqE, mForE, gRev, gRevL, iEnu, mHold, gTupR, nl, nlAll, ixN, PyData.isInt, PyData.isBool, PyData.isStr, PyData.isTuple, PyData.isList, PyData.isDict, g1, g2, pD]
        · rw [List.length_range, sizeLine_eq]
          omega
  | _ =>
    refine run_q (ℓ := .mo) (seq_rt (if_t ?_ (ret_q rfl)))
    simp [qV, qVs, qC, q1, q2, qNl, qIf, aNil, aCons, dOf, dsOf, qTup, fLst, qF, gTru, tV, tAndF, tOrF, tNotF, qT, qAnd, qOr, qNot, gI, gI0, gB0, cMul, cDiv, cPow, gNeg, gAdd, eqI, neI, lstAt, gLen, gInt, gTuple, f1, f2, gList, gIsi, gIx, gIsN, gNoN, gIsB, iRng, iRngB, seqOf, iSeqN, iSeq, bName, bNil, bCons, bTup, wipeE, tTrue, mNx, mSeq, mRet, mRetF, mRetN, mRetO, mIf, mSet, mSetO, mBk, mCt, mPre, mLock, mAsg, mFor, startE, resD, runQ, runF, qCall, fCall, arity, eQ, eF, eT, eNil, eCons, e1, e2, eTup, efLst, eLock, eIf, etV, eCall, efCall, enl, eNot, eAnd, eOr, resE, runE, runEF, mE, mSetE, mSetOE, mRetE, mRetFE, mIfE, mAsgE, oNone, oSome, gSl, qSl, fSl, gAll, gAny, qChain, gIn, pNil, pV, pL, mPar2, gCat, ef2, mAppE, mExtE, mPut, eNew, iE, iRngE, iSeqE, mForE, gRev, gRevL, iEnu, mHold, gTupR, nl, nlAll, ixN, PyData.isInt, PyData.isBool, PyData.isStr, PyData.isTuple, PyData.isList, PyData.isDict]
end K17

set_option Elab.async false
set_option linter.all false
set_option maxRecDepth 100000
set_option maxHeartbeats 4000000
namespace K17
open PySem L2 Evl Sm
theorem same_ (a b : Bool) (h : Hs) : g__law_same 3 [.d (.bool a), .d (.bool b)] h = some (.d (.bool (decide (a = b)))) := by
  cases a <;> cases b <;> rfl
/-- what is drawn: no lists in it, a tuple's items few and its ints of a size -/
def Itm (d : PyData) : Prop := nl d = true ∧ ∀ m, d = .int m → -100 ≤ m ∧ m ≤ 10000
def Val1 (y : PyData) : Prop := nl y = true ∧ ∀ ds, y = .tuple ds → ds.length ≤ 20 ∧ ∀ d ∈ ds, Itm d
def Both (y : PyData) : Prop := Itm y ∧ Val1 y
theorem Itm.i {n : Int} (h1 : -100 ≤ n) (h2 : n ≤ 10000) : Itm (.int n) := ⟨rfl, fun m e => by cases e; exact ⟨h1, h2⟩⟩
theorem Val1.t {ds : List PyData} (hl : ds.length ≤ 20) (h : ∀ d ∈ ds, Itm d) : Val1 (.tuple ds) := ⟨nl_mem.mpr fun d hd => (h d hd).1, fun es e => by cases e; exact ⟨hl, h⟩⟩
theorem Val1.o {y : PyData} (hn : nl y = true) (h : ∀ ds, y ≠ .tuple ds) : Val1 y := ⟨hn, fun ds e => absurd e (h ds)⟩
theorem Itm.o {y : PyData} (hn : nl y = true) (h : ∀ m, y ≠ .int m) : Itm y := ⟨hn, fun m e => absurd e (h m)⟩
def base : List PyData := [.none, .tuple [], .int 0, .int 1, .bool true, .bool false, .str "a", .int (-1), .tuple [.int 0], .tuple [.tuple [.int 0, .int 0]]]
theorem z00 : Itm (.tuple [.int 0, .int 0]) := Itm.o rfl (fun m e => by cases e)
theorem base_ok : ∀ y ∈ base, Both y := by
  intro y hy
  simp only [base, List.mem_cons, List.not_mem_nil, or_false] at hy
  rcases hy with rfl | rfl | rfl | rfl | rfl | rfl | rfl | rfl | rfl | rfl
  · exact ⟨Itm.o rfl (fun m e => by cases e), Val1.o rfl (fun m e => by cases e)⟩
  · exact ⟨Itm.o rfl (fun m e => by cases e), Val1.t (by decide) (by simp)⟩
  · exact ⟨Itm.i (by decide) (by decide), Val1.o rfl (fun m e => by cases e)⟩
  · exact ⟨Itm.i (by decide) (by decide), Val1.o rfl (fun m e => by cases e)⟩
  · exact ⟨Itm.o rfl (fun m e => by cases e), Val1.o rfl (fun m e => by cases e)⟩
  · exact ⟨Itm.o rfl (fun m e => by cases e), Val1.o rfl (fun m e => by cases e)⟩
  · exact ⟨Itm.o rfl (fun m e => by cases e), Val1.o rfl (fun m e => by cases e)⟩
  · exact ⟨Itm.i (by decide) (by decide), Val1.o rfl (fun m e => by cases e)⟩
  · refine ⟨Itm.o rfl (fun m e => by cases e), Val1.t (by decide) fun d hd => ?_⟩
    rw [List.mem_singleton.mp hd]
    exact Itm.i (by decide) (by decide)
  · refine ⟨Itm.o rfl (fun m e => by cases e), Val1.t (by decide) fun d hd => ?_⟩
    rw [List.mem_singleton.mp hd]
    exact z00
theorem nl_base : nlAll base = true := nl_mem.mpr fun d hd => (base_ok d hd).1.1
def rowsI (n : Int) : List PyData := base ++ [.int (n + 1), .int (n - 1), .bool (decide (n = 1)), .int (n + 1)]
theorem rowsI_ok {n : Int} (h1 : -90 ≤ n) (h2 : n ≤ 9000) : ∀ y ∈ rowsI n, Both y := by
  intro y hy
  rcases List.mem_append.mp hy with hy | hy
  · exact base_ok y hy
  · simp only [List.mem_cons, List.not_mem_nil, or_false] at hy
    rcases hy with rfl | rfl | rfl | rfl
    · exact ⟨Itm.i (by omega) (by omega), Val1.o rfl (fun m e => by cases e)⟩
    · exact ⟨Itm.i (by omega) (by omega), Val1.o rfl (fun m e => by cases e)⟩
    · exact ⟨Itm.o rfl (fun m e => by cases e), Val1.o rfl (fun m e => by cases e)⟩
    · exact ⟨Itm.i (by omega) (by omega), Val1.o rfl (fun m e => by cases e)⟩
def rowsT (xs : List PyData) : List PyData := base ++ [.tuple (cutD xs none (some (-1))), .tuple (xs ++ cutD xs (some (-1)) none), .tuple xs.reverse, .tuple (xs ++ [.tuple [.int 0, .int 0]]), .tuple [.tuple xs], .tuple (cutD xs (some 1) none)]
theorem cut_len (xs : List PyData) (lo hi : Option Int) : (cutD xs lo hi).length ≤ xs.length := by
  unfold cutD
  rw [List.length_take, List.length_drop]
  omega
theorem cut_mem {xs : List PyData} {lo hi : Option Int} {d : PyData} (h : d ∈ cutD xs lo hi) : d ∈ xs := List.mem_of_mem_drop (List.mem_of_mem_take h)
theorem rowsT_ok {xs : List PyData} (hl : xs.length ≤ 9) (hx : ∀ d ∈ xs, Itm d) : ∀ y ∈ rowsT xs, Val1 y := by
  intro y hy
  rcases List.mem_append.mp hy with hy | hy
  · exact (base_ok y hy).2
  · simp only [List.mem_cons, List.not_mem_nil, or_false] at hy
    have c1 := cut_len xs none (some (-1))
    have c2 := cut_len xs (some (-1)) none
    have c3 := cut_len xs (some 1) none
    rcases hy with rfl | rfl | rfl | rfl | rfl | rfl
    · exact Val1.t (by omega) fun d hd => hx d (cut_mem hd)
    · refine Val1.t (by rw [List.length_append]; omega) fun d hd => ?_
      rcases List.mem_append.mp hd with hd | hd
      · exact hx d hd
      · exact hx d (cut_mem hd)
    · exact Val1.t (by rw [List.length_reverse]; omega) fun d hd => hx d (List.mem_reverse.mp hd)
    · refine Val1.t (by rw [List.length_append]; simp; omega) fun d hd => ?_
      rcases List.mem_append.mp hd with hd | hd
      · exact hx d hd
      · rw [List.mem_singleton.mp hd]
        exact z00
    · refine Val1.t (by simp) fun d hd => ?_
      rw [List.mem_singleton.mp hd]
      exact Itm.o (nl_mem.mpr fun d hd => (hx d hd).1) (fun m e => by cases e)
    · exact Val1.t (by omega) fun d hd => hx d (cut_mem hd)
/-- the last row: one of them, drawn -/
abbrev finM : M1 := mHold 3 (mRetE .st (enl (e2 gIx (eQ (qVs 3)) (eCall (arity 2 r__law_take) (eCons (eQ (qVs 0)) (eCons (eQ (q1 gLen (qV 3))) eNil))))))
theorem fin_ {D : List PyData} (hn : nlAll D = true) (h0 : 0 < D.length) (h1 : D.length ≤ 50) (v s : Sl) {h : Hs} (ht : Tp h) : ∃ y env' h', finM [.v (.ref 0), v, s, .l D] h = some (.rt .st (.d y), env', h') ∧ y ∈ D ∧ Tp h' := by
  have hlog : ((D.length : Int).natAbs).log2 < 9000 := by
    have : (D.length : Int).natAbs < 2 ^ 6 := by omega
    have := (Nat.log2_lt (by omega)).mpr this
    omega
  obtain ⟨d, h', e, d0, d1, t'⟩ := take_ (D.length : Int) (by omega) hlog ht
  obtain ⟨k, rfl⟩ := Int.eq_ofNat_of_zero_le d0
  have hk : k < D.length := by omega
  have ea : atI D (k : Int) = some D[k] := atN (List.getElem?_eq_getElem hk)
  have en : nl D[k] = true := nl_mem.mp hn _ (List.getElem_mem hk)
  refine ⟨D[k], [.v (.ref 0), v, s, .v (.d (.list D))], h', ?_, List.getElem_mem hk, t'⟩
  simp [finM, qV, qVs, qC, q1, q2, qNl, qIf, aNil, aCons, dOf, dsOf, qTup, fLst, qF, gTru, tV, tAndF, tOrF, tNotF, qT, qAnd, qOr, qNot, gI, gI0, gB0, cMul, cDiv, cPow, gNeg, gAdd, eqI, neI, lstAt, gLen, gInt, gTuple, f1, f2, gList, gIsi, gIx, gIsN, gNoN, gIsB, iRng, iRngB, seqOf, iSeqN, iSeq, bName, bNil, bCons, bTup, wipeE, tTrue, mNx, mSeq, mRet, mRetF, mRetN, mRetO, mIf, mSet, mSetO, mBk, mCt, mPre, mLock, mAsg, mFor, startE, resD, runQ, runF, qCall, fCall, arity, eQ, eF, eT, eNil, eCons, e1, e2, eTup, efLst, eLock, eIf, etV, eCall, efCall, enl, eNot, eAnd, eOr, resE, runE, runEF, mE, mSetE, mSetOE, mRetE, mRetFE, mIfE, mAsgE, oNone, oSome, gSl, qSl, fSl, gAll, gAny, qChain, gIn, pNil, pV, pL, mPar2, gCat, ef2, mAppE, mExtE, mPut, eNew, iE, iRngE, iSeqE, mForE, gRev, gRevL, iEnu, mHold, gTupR, nl, nlAll, ixN, PyData.isInt, PyData.isBool, PyData.isStr, PyData.isTuple, PyData.isList, PyData.isDict, e, ea, en]
def lst10 : En → Hs → Option (List PyData) := fLst (aCons (qC (.d .none)) (aCons (qTup aNil) (aCons (qC (.d (.int 0))) (aCons (qC (.d (.int 1))) (aCons (qC (.d (.bool true))) (aCons (qC (.d (.bool false))) (aCons (qC (.d (.str "a"))) (aCons (q1 gNeg (qC (.d (.int 1)))) (aCons (qTup (aCons (qC (.d (.int 0))) aNil)) (aCons (qTup (aCons (qTup (aCons (qC (.d (.int 0))) (aCons (qC (.d (.int 0))) aNil))) aNil)) aNil))))))))))
theorem lst10_ (env : En) (h : Hs) : lst10 env h = some base := by
  simp [lst10, qV, qVs, qC, q1, q2, qNl, qIf, aNil, aCons, dOf, dsOf, qTup, fLst, qF, gTru, tV, tAndF, tOrF, tNotF, qT, qAnd, qOr, qNot, gI, gI0, gB0, cMul, cDiv, cPow, gNeg, gAdd, eqI, neI, lstAt, gLen, gInt, gTuple, f1, f2, gList, gIsi, gIx, gIsN, gNoN, gIsB, iRng, iRngB, seqOf, iSeqN, iSeq, bName, bNil, bCons, bTup, wipeE, tTrue, mNx, mSeq, mRet, mRetF, mRetN, mRetO, mIf, mSet, mSetO, mBk, mCt, mPre, mLock, mAsg, mFor, startE, resD, runQ, runF, qCall, fCall, arity, eQ, eF, eT, eNil, eCons, e1, e2, eTup, efLst, eLock, eIf, etV, eCall, efCall, enl, eNot, eAnd, eOr, resE, runE, runEF, mE, mSetE, mSetOE, mRetE, mRetFE, mIfE, mAsgE, oNone, oSome, gSl, qSl, fSl, gAll, gAny, qChain, gIn, pNil, pV, pL, mPar2, gCat, ef2, mAppE, mExtE, mPut, eNew, iE, iRngE, iSeqE, mForE, gRev, gRevL, iEnu, mHold, gTupR, nl, nlAll, ixN, PyData.isInt, PyData.isBool, PyData.isStr, PyData.isTuple, PyData.isList, PyData.isDict, base, sizeLine_eq]
/-- the statements behind the first test -/
def tailM : M1 := mSeq (mSetO 3 lst10)
    (mSeq (mIf (tV (q1 (gIsi PyData.isInt) (qV 1))) (mSetO 3 (f2 gCat (qV 3) (qF (fLst (aCons (q2 gAdd (qNl (qV 1)) (qC (.d (.int 1)))) (aCons (q2 gSub (qV 1) (qC (.d (.int 1)))) (aCons (q2 gEq (qV 1) (qC (.d (.int 1)))) (aCons (q2 gAdd (qNl (qV 1)) (qC (.d (.int 1)))) aNil)))))))) mNx)
    (mSeq (mIf (tV (q1 (gIsi PyData.isTuple) (qV 1))) (mSetO 3 (f2 gCat (qV 3) (qF (fLst (aCons (qSl (qNl (qV 1)) oNone (oSome (q1 gNeg (qC (.d (.int 1)))))) (aCons (q2 gAdd (qNl (qV 1)) (qSl (qNl (qV 1)) (oSome (q1 gNeg (qC (.d (.int 1))))) oNone)) (aCons (q1 gRev (qNl (qV 1))) (aCons (q2 gAdd (qNl (qV 1)) (qTup (aCons (qTup (aCons (qC (.d (.int 0))) (aCons (qC (.d (.int 0))) aNil))) aNil))) (aCons (qTup (aCons (qNl (qV 1)) aNil)) (aCons (qSl (qNl (qV 1)) (oSome (qC (.d (.int 1)))) oNone) aNil)))))))))) mNx)
    finM))
theorem tail_int {n : Int} (s : Sl) {h : Hs} (ht : Tp h) : ∃ y env' h', tailM [.v (.ref 0), .v (.d (.int n)), s, .un] h = some (.rt .st (.d y), env', h') ∧ y ∈ rowsI n ∧ Tp h' := by
  have hn : nlAll (rowsI n) = true := by rw [rowsI, nlAll_app, nl_base]; rfl
  obtain ⟨y, env', h', e, hy, t'⟩ := fin_ hn (by simp [rowsI, base]) (by simp [rowsI, base]) (.v (.d (.int n))) s ht
  refine ⟨y, env', h', ?_, hy, t'⟩
  refine seq_to (env1 := [.v (.ref 0), .v (.d (.int n)), s, .l base]) (h1 := h) (by unfold mSetO; rw [lst10_]; rfl) (seq_to (env1 := [.v (.ref 0), .v (.d (.int n)), s, .l (rowsI n)]) (h1 := h) (if_t rfl ?_) (seq_to (if_f rfl rfl) e))
  have hb : nlAll base = true := nl_base
  have hl : base.length = 10 := rfl
  simp [qV, qVs, qC, q1, q2, qNl, qIf, aNil, aCons, dOf, dsOf, qTup, fLst, qF, gTru, tV, tAndF, tOrF, tNotF, qT, qAnd, qOr, qNot, gI, gI0, gB0, cMul, cDiv, cPow, gNeg, gAdd, eqI, neI, lstAt, gLen, gInt, gTuple, f1, f2, gList, gIsi, gIx, gIsN, gNoN, gIsB, iRng, iRngB, seqOf, iSeqN, iSeq, bName, bNil, bCons, bTup, wipeE, tTrue, mNx, mSeq, mRet, mRetF, mRetN, mRetO, mIf, mSet, mSetO, mBk, mCt, mPre, mLock, mAsg, mFor, startE, resD, runQ, runF, qCall, fCall, arity, eQ, eF, eT, eNil, eCons, e1, e2, eTup, efLst, eLock, eIf, etV, eCall, efCall, enl, eNot, eAnd, eOr, resE, runE, runEF, mE, mSetE, mSetOE, mRetE, mRetFE, mIfE, mAsgE, oNone, oSome, gSl, qSl, fSl, gAll, gAny, qChain, gIn, pNil, pV, pL, mPar2, gCat, ef2, mAppE, mExtE, mPut, eNew, iE, iRngE, iSeqE, mForE, gRev, gRevL, iEnu, mHold, gTupR, nl, nlAll, ixN, PyData.isInt, PyData.isBool, PyData.isStr, PyData.isTuple, PyData.isList, PyData.isDict, hb, hl, sizeLine_eq, rowsI]
theorem tail_tup {xs : List PyData} (hx : nlAll xs = true) (hl : xs.length ≤ 9) (s : Sl) {h : Hs} (ht : Tp h) : ∃ y env' h', tailM [.v (.ref 0), .v (.d (.tuple xs)), s, .un] h = some (.rt .st (.d y), env', h') ∧ y ∈ rowsT xs ∧ Tp h' := by
  have c1 := cut_len xs none (some (-1))
  have c2 := cut_len xs (some (-1)) none
  have c3 := cut_len xs (some 1) none
  have n1 : nlAll (cutD xs none (some (-1))) = true := nl_cut hx
  have n2 : nlAll (cutD xs (some (-1)) none) = true := nl_cut hx
  have n3 : nlAll (cutD xs (some 1) none) = true := nl_cut hx
  have n4 : nlAll xs.reverse = true := nl_mem.mpr fun d hd => nl_mem.mp hx d (List.mem_reverse.mp hd)
  have hn : nlAll (rowsT xs) = true := by
    rw [rowsT, nlAll_app, nl_base]
    simp [nlAll, nl, nlAll_app, n1, n2, n3, n4, hx]
  obtain ⟨y, env', h', e, hy, t'⟩ := fin_ hn (by simp [rowsT, base]) (by simp [rowsT, base]) (.v (.d (.tuple xs))) s ht
  refine ⟨y, env', h', ?_, hy, t'⟩
  refine seq_to (env1 := [.v (.ref 0), .v (.d (.tuple xs)), s, .l base]) (h1 := h) (by unfold mSetO; rw [lst10_]; rfl) (seq_to (if_f rfl rfl) (seq_to (env1 := [.v (.ref 0), .v (.d (.tuple xs)), s, .l (rowsT xs)]) (h1 := h) (if_t rfl ?_) e))
  have hb : nlAll base = true := nl_base
  have hl2 : base.length = 10 := rfl
  have z1 : xs.length + (cutD xs (some (-1)) none).length ≤ 16777216 := by omega
  have z2 : xs.length + 1 ≤ 16777216 := by omega
  simp [qV, qVs, qC, q1, q2, qNl, qIf, aNil, aCons, dOf, dsOf, qTup, fLst, qF, gTru, tV, tAndF, tOrF, tNotF, qT, qAnd, qOr, qNot, gI, gI0, gB0, cMul, cDiv, cPow, gNeg, gAdd, eqI, neI, lstAt, gLen, gInt, gTuple, f1, f2, gList, gIsi, gIx, gIsN, gNoN, gIsB, iRng, iRngB, seqOf, iSeqN, iSeq, bName, bNil, bCons, bTup, wipeE, tTrue, mNx, mSeq, mRet, mRetF, mRetN, mRetO, mIf, mSet, mSetO, mBk, mCt, mPre, mLock, mAsg, mFor, startE, resD, runQ, runF, qCall, fCall, arity, eQ, eF, eT, eNil, eCons, e1, e2, eTup, efLst, eLock, eIf, etV, eCall, efCall, enl, eNot, eAnd, eOr, resE, runE, runEF, mE, mSetE, mSetOE, mRetE, mRetFE, mIfE, mAsgE, oNone, oSome, gSl, qSl, fSl, gAll, gAny, qChain, gIn, pNil, pV, pL, mPar2, gCat, ef2, mAppE, mExtE, mPut, eNew, iE, iRngE, iSeqE, mForE, gRev, gRevL, iEnu, mHold, gTupR, nl, nlAll, ixN, PyData.isInt, PyData.isBool, PyData.isStr, PyData.isTuple, PyData.isList, PyData.isDict, hb, hl2, sizeLine_eq, rowsT, hx, n1, n2, n3, n4, z1, z2, nlAll_app]
/-- an int is bent -/
theorem spoil_int (k : Nat) {n : Int} {h : Hs} (ht : Tp h) : ∃ y h', g__law_spoilt (k + 1) [.ref 0, .d (.int n)] h = some (.d y, h') ∧ y ∈ rowsI n ∧ Tp h' := by
  obtain ⟨y, env', h', e, hy, t'⟩ := tail_int (n := n) .un ht
  have hn : nlAll (rowsI n) = true := by rw [rowsI, nlAll_app, nl_base]; rfl
  refine ⟨y, h', ?_, hy, t'⟩
  refine run_e (ℓ := .st) (env1 := env') ?_ (nl_mem.mp hn y hy)
  exact seq_to (ife_f rfl rfl) e
end K17

set_option Elab.async false
set_option linter.all false
set_option maxRecDepth 100000
set_option maxHeartbeats 4000000
namespace K17
open PySem L2 Evl Sm
theorem spoil_gen {xs : List PyData} (hl : xs.length ≤ 8) (hi : ∀ d ∈ xs, ∃ m, d = .int m ∧ -90 ≤ m ∧ m ≤ 9000) {h : Hs} (ht : Tp h) : ∃ y h', g__law_spoilt 4 [.ref 0, .d (.tuple xs)] h = some (.d y, h') ∧ Val1 y ∧ Tp h' := by
  have hx : ∀ d ∈ xs, Itm d := fun d hd => by
    obtain ⟨n, rfl, h1, h2⟩ := hi d hd
    exact Itm.i (by omega) (by omega)
  have hnl : nlAll xs = true := nl_mem.mpr fun d hd => (hx d hd).1
  have fromTail : ∀ {h0 h1 : Hs}, Tp h1 → (∀ r, tailM [.v (.ref 0), .v (.d (.tuple xs)), .un, .un] h1 = r → m__law_spoilt (g__law_spoilt 3) [.v (.ref 0), .v (.d (.tuple xs)), .un, .un] h0 = r) → ∃ y h', g__law_spoilt 4 [.ref 0, .d (.tuple xs)] h0 = some (.d y, h') ∧ Val1 y ∧ Tp h' := by
    intro h0 h1 t1 k
    obtain ⟨y, env', h', e, hy, t'⟩ := tail_tup hnl (by omega) .un t1
    have hv := rowsT_ok (by omega) hx y hy
    exact ⟨y, h', run_e (ℓ := .st) (env1 := env') (k _ e) hv.1, hv, t'⟩
  by_cases h0 : xs.length = 0
  · have : xs = [] := List.length_eq_zero_iff.mp h0
    subst this
    exact fromTail ht fun r e => seq_to (ife_f rfl rfl) e
  · obtain ⟨d, h1, e1, d0, d1, t1⟩ := take_ 4 (by decide) (by decide) ht
    have hpos : 0 < xs.length := by omega
    have test : ∀ b : Bool, decide (0 < d) = b → eAnd (eT (tV (q1 (gIsi PyData.isTuple) (qV 1)))) (eAnd (eT (tV (q2 gGt (q1 gLen (qV 1)) (qC (.d (.int 0)))))) (etV (e2 gGt (eCall (arity 2 r__law_take) (eCons (eQ (qVs 0)) (eCons (eQ (qC (.d (.int 4)))) eNil))) (eQ (qC (.d (.int 0))))))) [.v (.ref 0), .v (.d (.tuple xs)), .un, .un] h = some (b, h1) := by
      intro b hb
      subst hb
      simp [qV, qVs, qC, q1, q2, qNl, qIf, aNil, aCons, dOf, dsOf, qTup, fLst, qF, gTru, tV, tAndF, tOrF, tNotF, qT, qAnd, qOr, qNot, gI, gI0, gB0, cMul, cDiv, cPow, gNeg, gAdd, eqI, neI, lstAt, gLen, gInt, gTuple, f1, f2, gList, gIsi, gIx, gIsN, gNoN, gIsB, iRng, iRngB, seqOf, iSeqN, iSeq, bName, bNil, bCons, bTup, wipeE, tTrue, mNx, mSeq, mRet, mRetF, mRetN, mRetO, mIf, mSet, mSetO, mBk, mCt, mPre, mLock, mAsg, mFor, startE, resD, runQ, runF, qCall, fCall, arity, eQ, eF, eT, eNil, eCons, e1, e2, eTup, efLst, eLock, eIf, etV, eCall, efCall, enl, eNot, eAnd, eOr, resE, runE, runEF, mE, mSetE, mSetOE, mRetE, mRetFE, mIfE, mAsgE, oNone, oSome, gSl, qSl, fSl, gAll, gAny, qChain, gIn, pNil, pV, pL, mPar2, gCat, ef2, mAppE, mExtE, mPut, eNew, iE, iRngE, iSeqE, mForE, gRev, gRevL, iEnu, mHold, gTupR, nl, nlAll, ixN, PyData.isInt, PyData.isBool, PyData.isStr, PyData.isTuple, PyData.isList, PyData.isDict, e1, hpos]
    by_cases hd : 0 < d
    · have tt := test true (by simp [hd])
      obtain ⟨s, h2, e2', s0, s1, t2⟩ := take_ (xs.length : Int) (by omega) (by
        have : (xs.length : Int).natAbs < 2 ^ 6 := by omega
        have := (Nat.log2_lt (by omega)).mpr this
        omega) t1
      obtain ⟨k, rfl⟩ := Int.eq_ofNat_of_zero_le s0
      have hk : k < xs.length := by omega
      obtain ⟨g, h3, e3, g0, g1, t3⟩ := take_ 8 (by decide) (by decide) t2
      have sp1 : mSetE 2 (eCall (arity 2 r__law_take) (eCons (eQ (qVs 0)) (eCons (eQ (q1 gLen (qV 1))) eNil))) [.v (.ref 0), .v (.d (.tuple xs)), .un, .un] h1 = some (.nx, [.v (.ref 0), .v (.d (.tuple xs)), .v (.d (.int (k : Int))), .un], h2) := by
        simp [qV, qVs, qC, q1, q2, qNl, qIf, aNil, aCons, dOf, dsOf, qTup, fLst, qF, gTru, tV, tAndF, tOrF, tNotF, qT, qAnd, qOr, qNot, gI, gI0, gB0, cMul, cDiv, cPow, gNeg, gAdd, eqI, neI, lstAt, gLen, gInt, gTuple, f1, f2, gList, gIsi, gIx, gIsN, gNoN, gIsB, iRng, iRngB, seqOf, iSeqN, iSeq, bName, bNil, bCons, bTup, wipeE, tTrue, mNx, mSeq, mRet, mRetF, mRetN, mRetO, mIf, mSet, mSetO, mBk, mCt, mPre, mLock, mAsg, mFor, startE, resD, runQ, runF, qCall, fCall, arity, eQ, eF, eT, eNil, eCons, e1, e2, eTup, efLst, eLock, eIf, etV, eCall, efCall, enl, eNot, eAnd, eOr, resE, runE, runEF, mE, mSetE, mSetOE, mRetE, mRetFE, mIfE, mAsgE, oNone, oSome, gSl, qSl, fSl, gAll, gAny, qChain, gIn, pNil, pV, pL, mPar2, gCat, ef2, mAppE, mExtE, mPut, eNew, iE, iRngE, iSeqE, mForE, gRev, gRevL, iEnu, mHold, gTupR, nl, nlAll, ixN, PyData.isInt, PyData.isBool, PyData.isStr, PyData.isTuple, PyData.isList, PyData.isDict, e2']
      have sp2 : ∀ b : Bool, decide (g = 0) = b → etV (e2 gEq (eCall (arity 2 r__law_take) (eCons (eQ (qVs 0)) (eCons (eQ (qC (.d (.int 8)))) eNil))) (eQ (qC (.d (.int 0))))) [.v (.ref 0), .v (.d (.tuple xs)), .v (.d (.int (k : Int))), .un] h2 = some (b, h3) := by
        intro b hb
        subst hb
        simp [qV, qVs, qC, q1, q2, qNl, qIf, aNil, aCons, dOf, dsOf, qTup, fLst, qF, gTru, tV, tAndF, tOrF, tNotF, qT, qAnd, qOr, qNot, gI, gI0, gB0, cMul, cDiv, cPow, gNeg, gAdd, eqI, neI, lstAt, gLen, gInt, gTuple, f1, f2, gList, gIsi, gIx, gIsN, gNoN, gIsB, iRng, iRngB, seqOf, iSeqN, iSeq, bName, bNil, bCons, bTup, wipeE, tTrue, mNx, mSeq, mRet, mRetF, mRetN, mRetO, mIf, mSet, mSetO, mBk, mCt, mPre, mLock, mAsg, mFor, startE, resD, runQ, runF, qCall, fCall, arity, eQ, eF, eT, eNil, eCons, e1, e2, eTup, efLst, eLock, eIf, etV, eCall, efCall, enl, eNot, eAnd, eOr, resE, runE, runEF, mE, mSetE, mSetOE, mRetE, mRetFE, mIfE, mAsgE, oNone, oSome, gSl, qSl, fSl, gAll, gAny, qChain, gIn, pNil, pV, pL, mPar2, gCat, ef2, mAppE, mExtE, mPut, eNew, iE, iRngE, iSeqE, mForE, gRev, gRevL, iEnu, mHold, gTupR, nl, nlAll, ixN, PyData.isInt, PyData.isBool, PyData.isStr, PyData.isTuple, PyData.isList, PyData.isDict, e3]
      have c1 := cut_len xs none (some (k : Int))
      have c2 := cut_len xs (some ((k : Int) + 1)) none
      have hi1 : ∀ lo hi, ∀ d ∈ cutD xs lo hi, Itm d := fun lo hi d hd => hx d (cut_mem hd)
      have n1 : ∀ lo hi, nlAll (cutD xs lo hi) = true := fun lo hi => nl_mem.mpr fun d hd => (hi1 lo hi d hd).1
      by_cases hg : g = 0
      · have t8 := sp2 true (by simp [hg])
        refine ⟨.tuple (cutD xs none (some (k : Int)) ++ cutD xs (some ((k : Int) + 1)) none), h3, ?_, Val1.t (by rw [List.length_append]; omega) fun d hd => ?_, t3⟩
        · refine run_e (ℓ := .mo) (env1 := [.v (.ref 0), .v (.d (.tuple xs)), .v (.d (.int (k : Int))), .un]) ?_ (by show nlAll _ = true; rw [nlAll_app, n1, n1]; rfl)
          refine seq_rt (ife_t tt (seq_to sp1 (seq_rt (ife_t t8 (ret_q ?_)))))
          have z : (cutD xs none (some (k : Int))).length + (cutD xs (some ((k : Int) + 1)) none).length ≤ 16777216 := by omega
          simp [qV, qVs, qC, q1, q2, qNl, qIf, aNil, aCons, dOf, dsOf, qTup, fLst, qF, gTru, tV, tAndF, tOrF, tNotF, qT, qAnd, qOr, qNot, gI, gI0, gB0, cMul, cDiv, cPow, gNeg, gAdd, eqI, neI, lstAt, gLen, gInt, gTuple, f1, f2, gList, gIsi, gIx, gIsN, gNoN, gIsB, iRng, iRngB, seqOf, iSeqN, iSeq, bName, bNil, bCons, bTup, wipeE, tTrue, mNx, mSeq, mRet, mRetF, mRetN, mRetO, mIf, mSet, mSetO, mBk, mCt, mPre, mLock, mAsg, mFor, startE, resD, runQ, runF, qCall, fCall, arity, eQ, eF, eT, eNil, eCons, e1, e2, eTup, efLst, eLock, eIf, etV, eCall, efCall, enl, eNot, eAnd, eOr, resE, runE, runEF, mE, mSetE, mSetOE, mRetE, mRetFE, mIfE, mAsgE, oNone, oSome, gSl, qSl, fSl, gAll, gAny, qChain, gIn, pNil, pV, pL, mPar2, gCat, ef2, mAppE, mExtE, mPut, eNew, iE, iRngE, iSeqE, mForE, gRev, gRevL, iEnu, mHold, gTupR, nl, nlAll, ixN, PyData.isInt, PyData.isBool, PyData.isStr, PyData.isTuple, PyData.isList, PyData.isDict, sizeLine_eq, z]
        · rcases List.mem_append.mp hd with hd | hd
          · exact hi1 _ _ d hd
          · exact hi1 _ _ d hd
      · have t8 := sp2 false (by simp [hg])
        obtain ⟨m, hm, m0, m1⟩ := hi xs[k] (List.getElem_mem hk)
        obtain ⟨z, h4, ez, hz, t4⟩ := spoil_int 2 (n := m) t3
        have bz := rowsI_ok m0 m1 z hz
        have ea : atI xs (k : Int) = some (.int m) := atN (by rw [List.getElem?_eq_getElem hk, hm])
        have nz : nlAll (cutD xs none (some (k : Int)) ++ (z :: cutD xs (some ((k : Int) + 1)) none)) = true := by
          rw [nlAll_app, n1, nlAll, n1, bz.1.1]
          rfl
        refine ⟨.tuple (cutD xs none (some (k : Int)) ++ (z :: cutD xs (some ((k : Int) + 1)) none)), h4, ?_, Val1.t (by rw [List.length_append, List.length_cons]; omega) fun d hd => ?_, t4⟩
        · refine run_e (ℓ := .st) (env1 := [.v (.ref 0), .v (.d (.tuple xs)), .v (.d (.int (k : Int))), .un]) ?_ nz
          refine seq_rt (ife_t tt (seq_to sp1 (seq_to (ife_f t8 rfl) ?_)))
          have z1 : (cutD xs none (some (k : Int))).length + 1 ≤ 16777216 := by omega
          have z3 : (cutD xs none (some (k : Int))).length + 1 + (cutD xs (some ((k : Int) + 1)) none).length ≤ 16777216 := by omega
          simp [qV, qVs, qC, q1, q2, qNl, qIf, aNil, aCons, dOf, dsOf, qTup, fLst, qF, gTru, tV, tAndF, tOrF, tNotF, qT, qAnd, qOr, qNot, gI, gI0, gB0, cMul, cDiv, cPow, gNeg, gAdd, eqI, neI, lstAt, gLen, gInt, gTuple, f1, f2, gList, gIsi, gIx, gIsN, gNoN, gIsB, iRng, iRngB, seqOf, iSeqN, iSeq, bName, bNil, bCons, bTup, wipeE, tTrue, mNx, mSeq, mRet, mRetF, mRetN, mRetO, mIf, mSet, mSetO, mBk, mCt, mPre, mLock, mAsg, mFor, startE, resD, runQ, runF, qCall, fCall, arity, eQ, eF, eT, eNil, eCons, e1, e2, eTup, efLst, eLock, eIf, etV, eCall, efCall, enl, eNot, eAnd, eOr, resE, runE, runEF, mE, mSetE, mSetOE, mRetE, mRetFE, mIfE, mAsgE, oNone, oSome, gSl, qSl, fSl, gAll, gAny, qChain, gIn, pNil, pV, pL, mPar2, gCat, ef2, mAppE, mExtE, mPut, eNew, iE, iRngE, iSeqE, mForE, gRev, gRevL, iEnu, mHold, gTupR, nl, nlAll, ixN, PyData.isInt, PyData.isBool, PyData.isStr, PyData.isTuple, PyData.isList, PyData.isDict, sizeLine_eq, ea, ez, z1, z3, nz]
        · rcases List.mem_append.mp hd with hd | hd
          · exact hi1 _ _ d hd
          · rcases List.mem_cons.mp hd with rfl | hd
            · exact bz.1
            · exact hi1 _ _ d hd
    · exact fromTail t1 fun r e => seq_to (ife_f (test false (by simp [hd])) rfl) e
theorem spoil_tup {ns : List Int} (hl : ns.length ≤ 8) (hr : ∀ n ∈ ns, -90 ≤ n ∧ n ≤ 9000) {h : Hs} (ht : Tp h) : ∃ y h', g__law_spoilt 4 [.ref 0, .d (tI ns)] h = some (.d y, h') ∧ Val1 y ∧ Tp h' :=
  spoil_gen (by rw [List.length_map]; exact hl) (fun d hd => by
    obtain ⟨n, hn, rfl⟩ := List.mem_map.mp hd
    exact ⟨n, rfl, hr n hn⟩) ht
end K17

set_option Elab.async false
set_option linter.all false
set_option maxRecDepth 100000
set_option maxHeartbeats 4000000
namespace K17
open PySem L2 Evl Sm
theorem lcGoE_all {step : PyData → Hs → Option (Option PyData × Hs)} (Q : PyData → Prop) (I : Hs → Prop) : ∀ {xs : List PyData} {h : Hs}, I h → (∀ x ∈ xs, ∀ h, I h → ∃ y h', step x h = some (some y, h') ∧ I h' ∧ Q y) → ∃ ys h', lcGoE step xs h = some (ys, h') ∧ I h' ∧ ys.length = xs.length ∧ ∀ y ∈ ys, Q y
  | [], h, hI, _ => ⟨[], h, rfl, hI, rfl, by simp⟩
  | x :: xs, h, hI, hs => by
    obtain ⟨y, h1, e1, i1, q1⟩ := hs x (by simp) h hI
    obtain ⟨ys, h2, e2, i2, l2, q2⟩ := lcGoE_all Q I i1 fun z hz => hs z (List.mem_cons_of_mem _ hz)
    refine ⟨y :: ys, h2, ?_, i2, by simp [l2], fun z hz => ?_⟩
    · unfold lcGoE
      rw [e1, Option.bind_some, e2]
      rfl
    · rcases List.mem_cons.mp hz with rfl | hz
      · exact q1
      · exact q2 z hz
/-- the frame of law in a turn -/
abbrev E2 (sp : List (Int × Int)) (m : Int) (T P : List Int) (s0 s3 s4 s9 s10 s11 : Sl) : En := [s0, .v (.ref 0), .v (.d (spD sp)), s3, s4, .un, .v (.d (.int m)), .v (.d (tI T)), .v (.d (tI P)), s9, s10, s11, .un]
section
variable {sp : List (Int × Int)} (hl : sp.length ≤ 7) {m : Int} {T P : List Int} {s0 s3 s4 s9 s10 s11 : Sl} {h : Hs}
include hl
theorem fine_ {x : PyData} (hx : Val1 x) : qAnd (q1 (gIsi PyData.isTuple) (qV 9)) (qAnd (q1 gAll (qF (fLc (iSeqN (qV 9)) [12] (bName 12) tTrue (qNl (qCall (arity 3 r__law_whole) (aCons (qV 12) (aCons (q1 gNeg (qC (.d (.int 100)))) (aCons (qC (.d (.int 10000))) aNil)))))))) (qAnd (q2 gEq (qF (f1 gList (qV 9))) (qF (f1 gSetS (qV 9)))) (qNl (qCall (arity 2 r__law_covers) (aCons (qV 2) (aCons (qV 9) aNil)))))) (E2 sp m T P s0 s3 s4 (.v (.d x)) s10 s11) h = some (.d (.bool (enoughB sp x))) := by
  cases x with
  | tuple ds =>
    obtain ⟨hn, hd⟩ := hx
    obtain ⟨hlen, hit⟩ := hd ds rfl
    have hn : nlAll ds = true := hn
    have z2 : ds.length ≤ sizeLine := by rw [sizeLine_eq]; omega
    have e1 := all_lc (it := iSeqN (qV 9)) (vs := [12]) (bn := bName 12) (tt := tTrue) (te := qNl (qCall (arity 3 r__law_whole) (aCons (qV 12) (aCons (q1 gNeg (qC (.d (.int 100)))) (aCons (qC (.d (.int 10000))) aNil))))) (env := E2 sp m T P s0 s3 s4 (.v (.d (.tuple ds))) s10 s11) (h := h) (f := fun d : PyData => d) (p := wh (-100) 10000) (xs := ds) (by simp [qV, qVs, qC, q1, q2, qNl, qIf, aNil, aCons, dOf, dsOf, qTup, fLst, qF, gTru, tV, tAndF, tOrF, tNotF, qT, qAnd, qOr, qNot, gI, gI0, gB0, cMul, cDiv, cPow, gNeg, gAdd, eqI, neI, lstAt, gLen, gInt, gTuple, f1, f2, gList, gIsi, gIx, gIsN, gNoN, gIsB, iRng, iRngB, seqOf, iSeqN, iSeq, bName, bNil, bCons, bTup, wipeE, tTrue, mNx, mSeq, mRet, mRetF, mRetN, mRetO, mIf, mSet, mSetO, mBk, mCt, mPre, mLock, mAsg, mFor, startE, resD, runQ, runF, qCall, fCall, arity, eQ, eF, eT, eNil, eCons, e1, e2, eTup, efLst, eLock, eIf, etV, eCall, efCall, enl, eNot, eAnd, eOr, resE, runE, runEF, mE, mSetE, mSetOE, mRetE, mRetFE, mIfE, mAsgE, oNone, oSome, gSl, qSl, fSl, gAll, gAny, qChain, gIn, pNil, pV, pL, mPar2, gCat, ef2, mAppE, mExtE, mPut, eNew, iE, iRngE, iSeqE, mForE, gRev, gRevL, iEnu, mHold, gTupR, nl, nlAll, ixN, PyData.isInt, PyData.isBool, PyData.isStr, PyData.isTuple, PyData.isList, PyData.isDict, hn])
      (fun d _ => step_of (env1 := [s0, .v (.ref 0), .v (.d (spD sp)), s3, s4, .un, .v (.d (.int m)), .v (.d (tI T)), .v (.d (tI P)), .v (.d (.tuple ds)), s10, s11, .v (.d d)]) rfl rfl (by simp [qV, qVs, qC, q1, q2, qNl, qIf, aNil, aCons, dOf, dsOf, qTup, fLst, qF, gTru, tV, tAndF, tOrF, tNotF, qT, qAnd, qOr, qNot, gI, gI0, gB0, cMul, cDiv, cPow, gNeg, gAdd, eqI, neI, lstAt, gLen, gInt, gTuple, f1, f2, gList, gIsi, gIx, gIsN, gNoN, gIsB, iRng, iRngB, seqOf, iSeqN, iSeq, bName, bNil, bCons, bTup, wipeE, tTrue, mNx, mSeq, mRet, mRetF, mRetN, mRetO, mIf, mSet, mSetO, mBk, mCt, mPre, mLock, mAsg, mFor, startE, resD, runQ, runF, qCall, fCall, arity, eQ, eF, eT, eNil, eCons, e1, e2, eTup, efLst, eLock, eIf, etV, eCall, efCall, enl, eNot, eAnd, eOr, resE, runE, runEF, mE, mSetE, mSetOE, mRetE, mRetFE, mIfE, mAsgE, oNone, oSome, gSl, qSl, fSl, gAll, gAny, qChain, gIn, pNil, pV, pL, mPar2, gCat, ef2, mAppE, mExtE, mPut, eNew, iE, iRngE, iSeqE, mForE, gRev, gRevL, iEnu, mHold, gTupR, nl, nlAll, ixN, PyData.isInt, PyData.isBool, PyData.isStr, PyData.isTuple, PyData.isList, PyData.isDict, law_whole_])) z2
    have ew : ds.all (wh (-100) 10000) = ds.all isW := by
      rw [Bool.eq_iff_iff, List.all_eq_true, List.all_eq_true]
      refine forall_congr' fun d => forall_congr' fun hd => ?_
      cases d with
      | int n =>
        have := (hit _ hd).2 n rfl
        simp [wh, isW, this.1, this.2]
      | _ => simp [wh, isW]
    rw [ew] at e1
    have e0 : q1 (gIsi PyData.isTuple) (qV 9) (E2 sp m T P s0 s3 s4 (.v (.d (.tuple ds))) s10 s11) h = some (.d (.bool true)) := rfl
    cases ha : ds.all isW with
    | false =>
      have e2' : enoughB sp (.tuple ds) = false := by simp [enoughB, tupI, isW_no ha]
      rw [ha] at e1
      rw [e2']
      simp only [qAnd, e0, e1, Option.bind_some, if_true]
      rfl
    | true =>
      obtain ⟨ns, en⟩ := isW_all ha
      have := intsOf_map en
      subst this
      rw [ha] at e1
      rw [List.length_map] at hlen
      have e2' : enoughB sp (.tuple (ns.map .int)) = (ascB ns && covB sp ns) := by simp [enoughB, tupI, intsOf_ints]
      have e3 := setS_t (ns := ns) (by omega) h
      have e4 := eq_ints ns (sortU ns) h
      have e5 : q2 gEq (qF (f1 gList (qV 9))) (qF (f1 gSetS (qV 9))) (E2 sp m T P s0 s3 s4 (.v (.d (tI ns))) s10 s11) h = some (.d (.bool (ascB ns))) := by
        have : decide (ns = sortU ns) = ascB ns := by rw [Bool.eq_iff_iff, ascB_iff, decide_eq_true_eq, sortU_iff]
        rw [this] at e4
        simp [qV, qVs, qC, q1, q2, qNl, qIf, aNil, aCons, dOf, dsOf, qTup, fLst, qF, gTru, tV, tAndF, tOrF, tNotF, qT, qAnd, qOr, qNot, gI, gI0, gB0, cMul, cDiv, cPow, gNeg, gAdd, eqI, neI, lstAt, gLen, gInt, gTuple, f1, f2, gList, gIsi, gIx, gIsN, gNoN, gIsB, iRng, iRngB, seqOf, iSeqN, iSeq, bName, bNil, bCons, bTup, wipeE, tTrue, mNx, mSeq, mRet, mRetF, mRetN, mRetO, mIf, mSet, mSetO, mBk, mCt, mPre, mLock, mAsg, mFor, startE, resD, runQ, runF, qCall, fCall, arity, eQ, eF, eT, eNil, eCons, e1, e2, eTup, efLst, eLock, eIf, etV, eCall, efCall, enl, eNot, eAnd, eOr, resE, runE, runEF, mE, mSetE, mSetOE, mRetE, mRetFE, mIfE, mAsgE, oNone, oSome, gSl, qSl, fSl, gAll, gAny, qChain, gIn, pNil, pV, pL, mPar2, gCat, ef2, mAppE, mExtE, mPut, eNew, iE, iRngE, iSeqE, mForE, gRev, gRevL, iEnu, mHold, gTupR, nl, nlAll, ixN, PyData.isInt, PyData.isBool, PyData.isStr, PyData.isTuple, PyData.isList, PyData.isDict, nlAll_ints, e3, e4]
      have e6 : qNl (qCall (arity 2 r__law_covers) (aCons (qV 2) (aCons (qV 9) aNil))) (E2 sp m T P s0 s3 s4 (.v (.d (tI ns))) s10 s11) h = some (.d (.bool (covB sp ns))) := by
        have := covers_ sp ns h (by omega) (by omega)
        simp [qV, qVs, qC, q1, q2, qNl, qIf, aNil, aCons, dOf, dsOf, qTup, fLst, qF, gTru, tV, tAndF, tOrF, tNotF, qT, qAnd, qOr, qNot, gI, gI0, gB0, cMul, cDiv, cPow, gNeg, gAdd, eqI, neI, lstAt, gLen, gInt, gTuple, f1, f2, gList, gIsi, gIx, gIsN, gNoN, gIsB, iRng, iRngB, seqOf, iSeqN, iSeq, bName, bNil, bCons, bTup, wipeE, tTrue, mNx, mSeq, mRet, mRetF, mRetN, mRetO, mIf, mSet, mSetO, mBk, mCt, mPre, mLock, mAsg, mFor, startE, resD, runQ, runF, qCall, fCall, arity, eQ, eF, eT, eNil, eCons, e1, e2, eTup, efLst, eLock, eIf, etV, eCall, efCall, enl, eNot, eAnd, eOr, resE, runE, runEF, mE, mSetE, mSetOE, mRetE, mRetFE, mIfE, mAsgE, oNone, oSome, gSl, qSl, fSl, gAll, gAny, qChain, gIn, pNil, pV, pL, mPar2, gCat, ef2, mAppE, mExtE, mPut, eNew, iE, iRngE, iSeqE, mForE, gRev, gRevL, iEnu, mHold, gTupR, nl, nlAll, ixN, PyData.isInt, PyData.isBool, PyData.isStr, PyData.isTuple, PyData.isList, PyData.isDict, this]
      rw [e2']
      simp only [qAnd, e0, e1, e5, e6, Option.bind_some, if_true]
      cases ascB ns <;> rfl
  | _ => rfl
theorem Val1.sh {x : PyData} (hx : Val1 x) : short x := by
  cases x with
  | tuple ds =>
    have := (hx.2 ds rfl).1
    show ds.length ≤ 50
    omega
  | _ => trivial
theorem body2_ {x : PyData} (hx : Val1 x) : b_law_2 (E2 sp m T P s0 s3 s4 (.v (.d x)) .un s11) h = some (.nx, E2 sp m T P s0 s3 s4 (.v (.d x)) (.v (.d (.bool (enoughB sp x)))) s11, h) := by
  refine seq_to (env1 := E2 sp m T P s0 s3 s4 (.v (.d x)) (.v (.d (.bool (enoughB sp x)))) s11) (h1 := h) (by unfold mSet; rw [fine_ hl hx]; rfl) (if_f ?_ rfl)
  have e1 := enough_ sp x h (by omega) hx.1 (Val1.sh hl hx)
  have e2' := same_ (enoughB sp x) (enoughB sp x) h
  simp [qV, qVs, qC, q1, q2, qNl, qIf, aNil, aCons, dOf, dsOf, qTup, fLst, qF, gTru, tV, tAndF, tOrF, tNotF, qT, qAnd, qOr, qNot, gI, gI0, gB0, cMul, cDiv, cPow, gNeg, gAdd, eqI, neI, lstAt, gLen, gInt, gTuple, f1, f2, gList, gIsi, gIx, gIsN, gNoN, gIsB, iRng, iRngB, seqOf, iSeqN, iSeq, bName, bNil, bCons, bTup, wipeE, tTrue, mNx, mSeq, mRet, mRetF, mRetN, mRetO, mIf, mSet, mSetO, mBk, mCt, mPre, mLock, mAsg, mFor, startE, resD, runQ, runF, qCall, fCall, arity, eQ, eF, eT, eNil, eCons, e1, e2, eTup, efLst, eLock, eIf, etV, eCall, efCall, enl, eNot, eAnd, eOr, resE, runE, runEF, mE, mSetE, mSetOE, mRetE, mRetFE, mIfE, mAsgE, oNone, oSome, gSl, qSl, fSl, gAll, gAny, qChain, gIn, pNil, pV, pL, mPar2, gCat, ef2, mAppE, mExtE, mPut, eNew, iE, iRngE, iSeqE, mForE, gRev, gRevL, iEnu, mHold, gTupR, nl, nlAll, ixN, PyData.isInt, PyData.isBool, PyData.isStr, PyData.isTuple, PyData.isList, PyData.isDict, e1] at e2' ⊢
  simp [e2', gTru]
theorem loop2_ {Vs : List PyData} (hV : ∀ x ∈ Vs, Val1 x) : ∃ s9', forGo [10] (fun d env h => (bName 9 d env).bind fun env1 => b_law_2 env1 h) Vs (E2 sp m T P s0 s3 s4 s9 .un s11) h = some (.nx, E2 sp m T P s0 s3 s4 s9' .un s11, h) := by
  obtain ⟨env', h', e, s9', rfl, rfl⟩ := for_all (vs := [10]) (body := fun d env h => (bName 9 d env).bind fun env1 => b_law_2 env1 h) (fun _ env h' => ∃ s9, env = E2 sp m T P s0 s3 s4 s9 .un s11 ∧ h' = h) (xs := Vs) (env := E2 sp m T P s0 s3 s4 s9 .un s11) (h := h) ⟨s9, rfl, rfl⟩ (fun j x env h1 hx ⟨s9, e1, e2⟩ => by
    subst e1 e2
    exact ⟨.nx, _, h1, body2_ hl (hV x (List.mem_of_getElem? hx)), .inl rfl, .v (.d x), rfl, rfl⟩)
  exact ⟨s9', e⟩
theorem body3_ (hv : ∀ p ∈ sp, p.1 ≤ p.2) {x : PyData} (hn : nl x = true) (hs : short x) (ht : Tp h) : ∃ s11' h', b_law_3 (E2 sp ((chosen sp).length : Int) T P s0 s3 s4 (.v (.d x)) s10 .un) h = some (.nx, E2 sp ((chosen sp).length : Int) T P s0 s3 s4 (.v (.d x)) s10 s11', h') ∧ Tp h' := by
  obtain ⟨d, h1, e, d0, d1, t1⟩ := take_ 3 (by decide) (by decide) ht
  refine ⟨.v (.d (.int ((chosen sp).length + d - 1))), h1, ?_, t1⟩
  refine seq_to (env1 := E2 sp ((chosen sp).length : Int) T P s0 s3 s4 (.v (.d x)) s10 (.v (.d (.int ((chosen sp).length + d - 1))))) (h1 := h1) (by simp [qV, qVs, qC, q1, q2, qNl, qIf, aNil, aCons, dOf, dsOf, qTup, fLst, qF, gTru, tV, tAndF, tOrF, tNotF, qT, qAnd, qOr, qNot, gI, gI0, gB0, cMul, cDiv, cPow, gNeg, gAdd, eqI, neI, lstAt, gLen, gInt, gTuple, f1, f2, gList, gIsi, gIx, gIsN, gNoN, gIsB, iRng, iRngB, seqOf, iSeqN, iSeq, bName, bNil, bCons, bTup, wipeE, tTrue, mNx, mSeq, mRet, mRetF, mRetN, mRetO, mIf, mSet, mSetO, mBk, mCt, mPre, mLock, mAsg, mFor, startE, resD, runQ, runF, qCall, fCall, arity, eQ, eF, eT, eNil, eCons, e1, e2, eTup, efLst, eLock, eIf, etV, eCall, efCall, enl, eNot, eAnd, eOr, resE, runE, runEF, mE, mSetE, mSetOE, mRetE, mRetFE, mIfE, mAsgE, oNone, oSome, gSl, qSl, fSl, gAll, gAny, qChain, gIn, pNil, pV, pL, mPar2, gCat, ef2, mAppE, mExtE, mPut, eNew, iE, iRngE, iSeqE, mForE, gRev, gRevL, iEnu, mHold, gTupR, nl, nlAll, ixN, PyData.isInt, PyData.isBool, PyData.isStr, PyData.isTuple, PyData.isList, PyData.isDict, e]) (if_f ?_ rfl)
  have f1' := force_is_ (sp := sp) ((chosen sp).length + d - 1) x h1 (by omega) hn hs
  have f2' := law_paper_ sp ((chosen sp).length + d - 1) x h1 (by omega) hn hs
  have f3' := law_paper_ sp ((chosen sp).length + 1) x h1 (by omega) hn hs
  rw [lpB_more hv (by omega)] at f3'
  rw [papers_same hv] at f1'
  have e2' := same_ (lpB sp ((chosen sp).length + d - 1) x) (lpB sp ((chosen sp).length + d - 1) x) h1
  simp at e2'
  have g1 : tV (qCall (arity 2 (g__law_same 3)) (aCons (qCall (arity 3 r_is_force_paper) (aCons (qV 2) (aCons (qV 11) (aCons (qV 9) aNil)))) (aCons (qCall (arity 3 r__law_is_paper) (aCons (qV 2) (aCons (qV 11) (aCons (qV 9) aNil)))) aNil))) (E2 sp ((chosen sp).length : Int) T P s0 s3 s4 (.v (.d x)) s10 (.v (.d (.int ((chosen sp).length + d - 1))))) h1 = some true := by
    simp [qV, qVs, qC, q1, q2, qNl, qIf, aNil, aCons, dOf, dsOf, qTup, fLst, qF, gTru, tV, tAndF, tOrF, tNotF, qT, qAnd, qOr, qNot, gI, gI0, gB0, cMul, cDiv, cPow, gNeg, gAdd, eqI, neI, lstAt, gLen, gInt, gTuple, f1, f2, gList, gIsi, gIx, gIsN, gNoN, gIsB, iRng, iRngB, seqOf, iSeqN, iSeq, bName, bNil, bCons, bTup, wipeE, tTrue, mNx, mSeq, mRet, mRetF, mRetN, mRetO, mIf, mSet, mSetO, mBk, mCt, mPre, mLock, mAsg, mFor, startE, resD, runQ, runF, qCall, fCall, arity, eQ, eF, eT, eNil, eCons, e1, e2, eTup, efLst, eLock, eIf, etV, eCall, efCall, enl, eNot, eAnd, eOr, resE, runE, runEF, mE, mSetE, mSetOE, mRetE, mRetFE, mIfE, mAsgE, oNone, oSome, gSl, qSl, fSl, gAll, gAny, qChain, gIn, pNil, pV, pL, mPar2, gCat, ef2, mAppE, mExtE, mPut, eNew, iE, iRngE, iSeqE, mForE, gRev, gRevL, iEnu, mHold, gTupR, nl, nlAll, ixN, PyData.isInt, PyData.isBool, PyData.isStr, PyData.isTuple, PyData.isList, PyData.isDict, f1', f2', e2']
  have g2' : tV (qCall (arity 3 r__law_is_paper) (aCons (qV 2) (aCons (q2 gAdd (qV 6) (qC (.d (.int 1)))) (aCons (qV 9) aNil)))) (E2 sp ((chosen sp).length : Int) T P s0 s3 s4 (.v (.d x)) s10 (.v (.d (.int ((chosen sp).length + d - 1))))) h1 = some false := by
    simp [qV, qVs, qC, q1, q2, qNl, qIf, aNil, aCons, dOf, dsOf, qTup, fLst, qF, gTru, tV, tAndF, tOrF, tNotF, qT, qAnd, qOr, qNot, gI, gI0, gB0, cMul, cDiv, cPow, gNeg, gAdd, eqI, neI, lstAt, gLen, gInt, gTuple, f1, f2, gList, gIsi, gIx, gIsN, gNoN, gIsB, iRng, iRngB, seqOf, iSeqN, iSeq, bName, bNil, bCons, bTup, wipeE, tTrue, mNx, mSeq, mRet, mRetF, mRetN, mRetO, mIf, mSet, mSetO, mBk, mCt, mPre, mLock, mAsg, mFor, startE, resD, runQ, runF, qCall, fCall, arity, eQ, eF, eT, eNil, eCons, e1, e2, eTup, efLst, eLock, eIf, etV, eCall, efCall, enl, eNot, eAnd, eOr, resE, runE, runEF, mE, mSetE, mSetOE, mRetE, mRetFE, mIfE, mAsgE, oNone, oSome, gSl, qSl, fSl, gAll, gAny, qChain, gIn, pNil, pV, pL, mPar2, gCat, ef2, mAppE, mExtE, mPut, eNew, iE, iRngE, iSeqE, mForE, gRev, gRevL, iEnu, mHold, gTupR, nl, nlAll, ixN, PyData.isInt, PyData.isBool, PyData.isStr, PyData.isTuple, PyData.isList, PyData.isDict, f3']
  simp only [tOrF, tNotF, g1, g2', Option.bind_some]
  rfl
theorem loop3_ (hv : ∀ p ∈ sp, p.1 ≤ p.2) {Vs : List PyData} (hV : ∀ x ∈ Vs, nl x = true ∧ short x) (ht : Tp h) : ∃ s9' h', forGo [11] (fun d env h => (bName 9 d env).bind fun env1 => b_law_3 env1 h) Vs (E2 sp ((chosen sp).length : Int) T P s0 s3 s4 s9 s10 .un) h = some (.nx, E2 sp ((chosen sp).length : Int) T P s0 s3 s4 s9' s10 .un, h') ∧ Tp h' := by
  obtain ⟨env', h', e, s9', rfl, t'⟩ := for_all (vs := [11]) (body := fun d env h => (bName 9 d env).bind fun env1 => b_law_3 env1 h) (fun _ env h' => ∃ s9, env = E2 sp ((chosen sp).length : Int) T P s0 s3 s4 s9 s10 .un ∧ Tp h') (xs := Vs) (env := E2 sp ((chosen sp).length : Int) T P s0 s3 s4 s9 s10 .un) (h := h) ⟨s9, rfl, ht⟩ (fun j x env h1 hx ⟨s9, e1, t1⟩ => by
    subst e1
    obtain ⟨hn, hs⟩ := hV x (List.mem_of_getElem? hx)
    obtain ⟨s', h2, e2, t2⟩ := body3_ (sp := sp) hl (T := T) (P := P) (s0 := s0) (s3 := s3) (s4 := s4) (s10 := s10) hv hn hs t1
    exact ⟨.nx, _, h2, e2, .inl rfl, .v (.d x), rfl, t2⟩)
  exact ⟨s9', h', e, t'⟩
end
end K17

set_option Elab.async false
set_option linter.all false
set_option maxRecDepth 100000
set_option maxHeartbeats 4000000
namespace K17
open PySem L2 Evl Sm
/-- three bent ones -/
theorem three_ {env : En} {j : Nat} {ns : List Int} (hr : ∀ n ∈ ns, -90 ≤ n ∧ n ≤ 9000) (hl : ns.length ≤ 8) (h1 : ∀ s, (env.set 4 .un |>.set 4 s)[1]? = some (.v (.ref 0))) (hj : ∀ s, (env.set 4 .un |>.set 4 s)[j]? = some (.v (.d (tI ns)))) {h : Hs} (ht : Tp h) :
    ∃ ys h', efLc (iE (iRng (qC (.d (.int 3))))) [4] (bName 4) tTrue (eCall (arity 2 (g__law_spoilt 4)) (eCons (eQ (qVs 1)) (eCons (eQ (qVs j)) eNil))) env h = some (ys, h') ∧ Tp h' ∧ ys.length = 3 ∧ ∀ y ∈ ys, Val1 y := by
  obtain ⟨ys, h', e, t', l, v⟩ := lcGoE_all (step := lcStepE [4] (bName 4) tTrue (eCall (arity 2 (g__law_spoilt 4)) (eCons (eQ (qVs 1)) (eCons (eQ (qVs j)) eNil))) env) Val1 Tp (xs := [.int 0, .int 1, .int 2]) ht (fun x _ h0 t0 => by
    obtain ⟨y, h2, e2, v2, t2⟩ := spoil_tup hl hr t0
    refine ⟨y, h2, ?_, t2, v2⟩
    have a1 := h1 (.v (.d x))
    have a2 := hj (.v (.d x))
    have z1 : qVs 1 (env.set 4 .un |>.set 4 (.v (.d x))) h0 = some (.ref 0) := by
      unfold qVs
      rw [a1]
    have z2 : ∀ h, qVs j (env.set 4 .un |>.set 4 (.v (.d x))) h = some (.d (tI ns)) := fun h => by
      unfold qVs
      rw [a2]
    have z3 : eCall (arity 2 (g__law_spoilt 4)) (eCons (eQ (qVs 1)) (eCons (eQ (qVs j)) eNil)) (env.set 4 .un |>.set 4 (.v (.d x))) h0 = some (.d y, h2) := by
      simp only [eCall, eCons, eQ, eNil, arity, z1, z2, Option.bind_some]
      exact e2
    unfold lcStepE
    show (eCall _ _ (env.set 4 .un |>.set 4 (.v (.d x))) h0).bind _ = _
    rw [z3]
    rfl)
  refine ⟨ys, h', ?_, t', l, v⟩
  unfold efLc iE
  have er := iRng_of (a := qC (.d (.int 3))) (env := env) (h := h) (n := 3) rfl (by decide) (by decide)
  have e3 : ((List.range (3 : Int).toNat).map fun k : Nat => PyData.int (k : Int)) = [.int 0, .int 1, .int 2] := rfl
  rw [e3] at er
  rw [er, Option.bind_some]
  show (lcGoE _ [.int 0, .int 1, .int 2] h).bind _ = _
  rw [e, Option.bind_some, if_pos (by rw [show ys.length = 3 from l, sizeLine_eq]; decide)]
theorem tI_ok {ns : List Int} (hl : ns.length ≤ 20) (hr : ∀ n ∈ ns, -100 ≤ n ∧ n ≤ 10000) : Val1 (tI ns) := Val1.t (by rw [List.length_map]; exact hl) fun d hd => by
  obtain ⟨n, hn, rfl⟩ := List.mem_map.mp hd
  exact Itm.i (hr n hn).1 (hr n hn).2
/-- spans as they are drawn -/
def OkSp (sp : List (Int × Int)) : Prop := ∀ p ∈ sp, p.1 ≤ p.2 ∧ -3 ≤ p.1 ∧ p.2 ≤ 12
theorem spans_ {s0 s2 s3 s4 : Sl} {h : Hs} (ht : Tp h) : ∃ sp s4' h', mForE (iRngE (eCall (arity 2 r__law_take) (eCons (eQ (qVs 1)) (eCons (eQ (qC (.d (.int 8)))) eNil)))) [5] (bName 4) b_law_1 [s0, .v (.ref 0), .l [], s3, s4, .un, .un, .un, .un, .un, .un, .un, .un] h =
    some (.nx, [s0, .v (.ref 0), .l (List.map pD sp), s3, s4', .un, .un, .un, .un, .un, .un, .un, .un], h') ∧ Tp h' ∧ sp.length ≤ 7 ∧ OkSp sp := by
  obtain ⟨n, h1, e1, n0, n1, t1⟩ := take_ 8 (by decide) (by decide) ht
  have er := iRngE_of (a := eCall (arity 2 r__law_take) (eCons (eQ (qVs 1)) (eCons (eQ (qC (.d (.int 8)))) eNil))) (env := [s0, .v (.ref 0), .l [], s3, s4, .un, .un, .un, .un, .un, .un, .un, .un]) (h := h) (h1 := h1) (n := n) (by simp [qV, qVs, qC, q1, q2, qNl, qIf, aNil, aCons, dOf, dsOf, qTup, fLst, qF, gTru, tV, tAndF, tOrF, tNotF, qT, qAnd, qOr, qNot, gI, gI0, gB0, cMul, cDiv, cPow, gNeg, gAdd, eqI, neI, lstAt, gLen, gInt, gTuple, f1, f2, gList, gIsi, gIx, gIsN, gNoN, gIsB, iRng, iRngB, seqOf, iSeqN, iSeq, bName, bNil, bCons, bTup, wipeE, tTrue, mNx, mSeq, mRet, mRetF, mRetN, mRetO, mIf, mSet, mSetO, mBk, mCt, mPre, mLock, mAsg, mFor, startE, resD, runQ, runF, qCall, fCall, arity, eQ, eF, eT, eNil, eCons, e1, e2, eTup, efLst, eLock, eIf, etV, eCall, efCall, enl, eNot, eAnd, eOr, resE, runE, runEF, mE, mSetE, mSetOE, mRetE, mRetFE, mIfE, mAsgE, oNone, oSome, gSl, qSl, fSl, gAll, gAny, qChain, gIn, pNil, pV, pL, mPar2, gCat, ef2, mAppE, mExtE, mPut, eNew, iE, iRngE, iSeqE, mForE, gRev, gRevL, iEnu, mHold, gTupR, nl, nlAll, ixN, PyData.isInt, PyData.isBool, PyData.isStr, PyData.isTuple, PyData.isList, PyData.isDict, e1]) (by omega) (by omega)
  obtain ⟨env', h', e, sp, s4', rfl, t', hlen, hok⟩ := for_all (vs := [5]) (body := fun d env h => (bName 4 d env).bind fun env1 => b_law_1 env1 h) (fun j env h' => ∃ sp s4, env = [s0, .v (.ref 0), .l (List.map pD sp), s3, s4, .un, .un, .un, .un, .un, .un, .un, .un] ∧ Tp h' ∧ sp.length = j ∧ OkSp sp)
    (xs := (List.range n.toNat).map fun k : Nat => PyData.int (k : Int)) (env := [s0, .v (.ref 0), .l [], s3, s4, .un, .un, .un, .un, .un, .un, .un, .un]) (h := h1) ⟨[], s4, rfl, t1, rfl, fun p hp => by simp at hp⟩ (fun j x env h2 hx ⟨sp, s4, e2, t2, l2, o2⟩ => by
      subst e2
      have hj : j < n.toNat := by
        have := (List.getElem?_eq_some_iff.mp hx).1
        rw [List.length_map, List.length_range] at this
        exact this
      obtain ⟨a, h3, e3, a0, a1, t3⟩ := take_ 12 (by decide) (by decide) t2
      obtain ⟨b, h4, e4, b0, b1, t4⟩ := take_ 5 (by decide) (by decide) t3
      refine ⟨.nx, [s0, .v (.ref 0), .l (List.map pD (sp ++ [(a - 3, a - 3 + b)])), s3, .v (.d x), .v (.d (.int (a - 3))), .un, .un, .un, .un, .un, .un, .un], h4, ?_, .inl rfl, sp ++ [(a - 3, a - 3 + b)], .v (.d x), rfl, t4, by rw [List.length_append, l2]; rfl, fun p hp => ?_⟩
      · show b_law_1 [s0, .v (.ref 0), .l (List.map pD sp), s3, .v (.d x), .un, .un, .un, .un, .un, .un, .un, .un] h2 = _
        refine seq_to (env1 := [s0, .v (.ref 0), .l (List.map pD sp), s3, .v (.d x), .v (.d (.int (a - 3))), .un, .un, .un, .un, .un, .un, .un]) (h1 := h3) (by simp [qV, qVs, qC, q1, q2, qNl, qIf, aNil, aCons, dOf, dsOf, qTup, fLst, qF, gTru, tV, tAndF, tOrF, tNotF, qT, qAnd, qOr, qNot, gI, gI0, gB0, cMul, cDiv, cPow, gNeg, gAdd, eqI, neI, lstAt, gLen, gInt, gTuple, f1, f2, gList, gIsi, gIx, gIsN, gNoN, gIsB, iRng, iRngB, seqOf, iSeqN, iSeq, bName, bNil, bCons, bTup, wipeE, tTrue, mNx, mSeq, mRet, mRetF, mRetN, mRetO, mIf, mSet, mSetO, mBk, mCt, mPre, mLock, mAsg, mFor, startE, resD, runQ, runF, qCall, fCall, arity, eQ, eF, eT, eNil, eCons, e1, e2, eTup, efLst, eLock, eIf, etV, eCall, efCall, enl, eNot, eAnd, eOr, resE, runE, runEF, mE, mSetE, mSetOE, mRetE, mRetFE, mIfE, mAsgE, oNone, oSome, gSl, qSl, fSl, gAll, gAny, qChain, gIn, pNil, pV, pL, mPar2, gCat, ef2, mAppE, mExtE, mPut, eNew, iE, iRngE, iSeqE, mForE, gRev, gRevL, iEnu, mHold, gTupR, nl, nlAll, ixN, PyData.isInt, PyData.isBool, PyData.isStr, PyData.isTuple, PyData.isList, PyData.isDict, e3]) ?_
        have z : sp.length < 16777216 := by omega
        simp [qV, qVs, qC, q1, q2, qNl, qIf, aNil, aCons, dOf, dsOf, qTup, fLst, qF, gTru, tV, tAndF, tOrF, tNotF, qT, qAnd, qOr, qNot, gI, gI0, gB0, cMul, cDiv, cPow, gNeg, gAdd, eqI, neI, lstAt, gLen, gInt, gTuple, f1, f2, gList, gIsi, gIx, gIsN, gNoN, gIsB, iRng, iRngB, seqOf, iSeqN, iSeq, bName, bNil, bCons, bTup, wipeE, tTrue, mNx, mSeq, mRet, mRetF, mRetN, mRetO, mIf, mSet, mSetO, mBk, mCt, mPre, mLock, mAsg, mFor, startE, resD, runQ, runF, qCall, fCall, arity, eQ, eF, eT, eNil, eCons, e1, e2, eTup, efLst, eLock, eIf, etV, eCall, efCall, enl, eNot, eAnd, eOr, resE, runE, runEF, mE, mSetE, mSetOE, mRetE, mRetFE, mIfE, mAsgE, oNone, oSome, gSl, qSl, fSl, gAll, gAny, qChain, gIn, pNil, pV, pL, mPar2, gCat, ef2, mAppE, mExtE, mPut, eNew, iE, iRngE, iSeqE, mForE, gRev, gRevL, iEnu, mHold, gTupR, nl, nlAll, ixN, PyData.isInt, PyData.isBool, PyData.isStr, PyData.isTuple, PyData.isList, PyData.isDict, e4, sizeLine_eq, z, pD]
      · rcases List.mem_append.mp hp with hp | hp
        · exact o2 p hp
        · rw [List.mem_singleton.mp hp]
          exact ⟨by show a - 3 ≤ a - 3 + b; omega, by show -3 ≤ a - 3; omega, by show a - 3 + b ≤ 12; omega⟩)
  rw [List.length_map, List.length_range] at hlen
  refine ⟨sp, s4', h', ?_, t', by omega, hok⟩
  unfold mForE
  rw [er, Option.bind_some]
  exact e
theorem tms_rng {sp : List (Int × Int)} (ho : OkSp sp) (hv : ∀ p ∈ sp, p.1 ≤ p.2) : ∀ n ∈ tms sp, -90 ≤ n ∧ n ≤ 9000 := fun n hn => by
  obtain ⟨c, hc, rfl⟩ := List.mem_map.mp hn
  have hm := List.mem_of_getElem? (cho_at hv hc)
  have h1 := ho _ hm
  have h2 : c.2.1 ≤ c.1 := h1.1
  have h3 : -3 ≤ c.2.1 := h1.2.1
  have h4 : c.1 ≤ 12 := h1.2.2
  omega
theorem idx_rng {sp : List (Int × Int)} (hl : sp.length ≤ 7) (hv : ∀ p ∈ sp, p.1 ≤ p.2) : ∀ n ∈ sortU (idx sp), -90 ≤ n ∧ n ≤ 9000 := fun n hn => by
  obtain ⟨c, hc, rfl⟩ := List.mem_map.mp (mem_sortU.mp hn)
  have := (List.getElem?_eq_some_iff.mp (cho_at hv hc)).1
  omega
theorem idx_len {sp : List (Int × Int)} (hv : ∀ p ∈ sp, p.1 ≤ p.2) : (sortU (idx sp)).length = (chosen sp).length := by
  rw [← msort_asc (idx_nodup hv), List.length_mergeSort]
  exact List.length_map _
abbrev told8 (T : List Int) : List PyData := [tI T, .tuple (cutD (T.map .int) (some 1) none), .tuple (T.map PyData.int).reverse, tI (T ++ [50]), .none, .tuple [], .tuple [.bool true], .tuple [.none]]
theorem rng_tail {T : List Int} (hr : ∀ n ∈ T, -90 ≤ n ∧ n ≤ 9000) : ∀ d ∈ T.map PyData.int, Itm d := fun d hd => by
  obtain ⟨n, hn, rfl⟩ := List.mem_map.mp hd
  have := hr n hn
  exact Itm.i (by omega) (by omega)
theorem told8_ok {T : List Int} (hl : T.length ≤ 8) (hr : ∀ n ∈ T, -90 ≤ n ∧ n ≤ 9000) : ∀ y ∈ told8 T, Val1 y := by
  intro y hy
  have c1 := cut_len (T.map PyData.int) (some 1) none
  rw [List.length_map] at c1
  simp only [told8, List.mem_cons, List.not_mem_nil, or_false] at hy
  rcases hy with rfl | rfl | rfl | rfl | rfl | rfl | rfl | rfl
  · exact tI_ok (by omega) fun n hn => by have := hr n hn; omega
  · exact Val1.t (by omega) fun d hd => rng_tail hr d (cut_mem hd)
  · exact Val1.t (by rw [List.length_reverse, List.length_map]; omega) fun d hd => rng_tail hr d (List.mem_reverse.mp hd)
  · refine tI_ok (by rw [List.length_append]; simp; omega) fun n hn => ?_
    rcases List.mem_append.mp hn with hn | hn
    · have := hr n hn; omega
    · rw [List.mem_singleton.mp hn]; omega
  · exact Val1.o rfl (fun m e => by cases e)
  · exact Val1.t (by simp) (by simp)
  · refine Val1.t (by simp) fun d hd => ?_
    rw [List.mem_singleton.mp hd]
    exact Itm.o rfl (fun m e => by cases e)
  · refine Val1.t (by simp) fun d hd => ?_
    rw [List.mem_singleton.mp hd]
    exact Itm.o rfl (fun m e => by cases e)
abbrev paper8 (P : List Int) (n : Nat) : List PyData := [tI P, .tuple (cutD (P.map .int) (some 1) none), .tuple (P.map PyData.int).reverse, tI ((List.range n).map fun k : Nat => (k : Int)), tI (P ++ [(n : Int)]), .none, .tuple [], .tuple [.bool true]]
theorem paper8_ok {P : List Int} {n : Nat} (hl : P.length ≤ 8) (hr : ∀ n ∈ P, -90 ≤ n ∧ n ≤ 9000) (hn : n ≤ 7) : ∀ y ∈ paper8 P n, Val1 y := by
  intro y hy
  have c1 := cut_len (P.map PyData.int) (some 1) none
  rw [List.length_map] at c1
  simp only [paper8, List.mem_cons, List.not_mem_nil, or_false] at hy
  rcases hy with rfl | rfl | rfl | rfl | rfl | rfl | rfl | rfl
  · exact tI_ok (by omega) fun n hn => by have := hr n hn; omega
  · exact Val1.t (by omega) fun d hd => rng_tail hr d (cut_mem hd)
  · exact Val1.t (by rw [List.length_reverse, List.length_map]; omega) fun d hd => rng_tail hr d (List.mem_reverse.mp hd)
  · refine tI_ok (by rw [List.length_map, List.length_range]; omega) fun m hm => ?_
    obtain ⟨k, hk, rfl⟩ := List.mem_map.mp hm
    have := List.mem_range.mp hk
    omega
  · refine tI_ok (by rw [List.length_append]; simp; omega) fun m hm => ?_
    rcases List.mem_append.mp hm with hm | hm
    · have := hr m hm; omega
    · rw [List.mem_singleton.mp hm]; omega
  · exact Val1.o rfl (fun m e => by cases e)
  · exact Val1.t (by simp) (by simp)
  · refine Val1.t (by simp) fun d hd => ?_
    rw [List.mem_singleton.mp hd]
    exact Itm.o rfl (fun m e => by cases e)
end K17

set_option Elab.async false
set_option linter.all false
set_option maxRecDepth 100000
set_option maxHeartbeats 4000000
namespace K17
open PySem L2 Evl Sm
theorem noB_t (b : Bool) (h : Hs) : gIsB true h (.d (.bool b)) (.d (.bool true)) = some (.d (.bool (!b))) := by cases b <;> rfl
/-- one turn -/
theorem turn_ {s0 s2 s3 : Sl} {h : Hs} (ht : Tp h) : ∃ env' h', b_law_4 [s0, .v (.ref 0), s2, s3, .un, .un, .un, .un, .un, .un, .un, .un, .un] h = some (.nx, env', h') ∧ Tp h' ∧ ∃ s2', wipeE env' [3, 4, 6, 7, 8, 9] = [s0, .v (.ref 0), s2', .un, .un, .un, .un, .un, .un, .un, .un, .un, .un] := by
  obtain ⟨sp, s4, h1, e1, t1, hl, ho⟩ := spans_ (s0 := s0) (s2 := s2) (s3 := s3) (s4 := .un) ht
  have hv : ∀ p ∈ sp, p.1 ≤ p.2 := fun p hp => (ho p hp).1
  have ct := cho_len sp
  have lT : (tms sp).length = (chosen sp).length := tms_len
  have lP := idx_len hv
  have rT := tms_rng ho hv
  have rP := idx_rng hl hv
  have q1' := fewest_ hv h1 hl
  have q2' := forces_ hv h1 (by omega)
  have q3' := paper_ hv h1 (by omega)
  have st3 : mSet 2 (qNl (q1 gTuple (qV 2))) [s0, .v (.ref 0), .l (List.map pD sp), s3, s4, .un, .un, .un, .un, .un, .un, .un, .un] h1 = some (.nx, [s0, .v (.ref 0), .v (.d (spD sp)), s3, s4, .un, .un, .un, .un, .un, .un, .un, .un], h1) := by
    simp [qV, qVs, qC, q1, q2, qNl, qIf, aNil, aCons, dOf, dsOf, qTup, fLst, qF, gTru, tV, tAndF, tOrF, tNotF, qT, qAnd, qOr, qNot, gI, gI0, gB0, cMul, cDiv, cPow, gNeg, gAdd, eqI, neI, lstAt, gLen, gInt, gTuple, f1, f2, gList, gIsi, gIx, gIsN, gNoN, gIsB, iRng, iRngB, seqOf, iSeqN, iSeq, bName, bNil, bCons, bTup, wipeE, tTrue, mNx, mSeq, mRet, mRetF, mRetN, mRetO, mIf, mSet, mSetO, mBk, mCt, mPre, mLock, mAsg, mFor, startE, resD, runQ, runF, qCall, fCall, arity, eQ, eF, eT, eNil, eCons, e1, e2, eTup, efLst, eLock, eIf, etV, eCall, efCall, enl, eNot, eAnd, eOr, resE, runE, runEF, mE, mSetE, mSetOE, mRetE, mRetFE, mIfE, mAsgE, oNone, oSome, gSl, qSl, fSl, gAll, gAny, qChain, gIn, pNil, pV, pL, mPar2, gCat, ef2, mAppE, mExtE, mPut, eNew, iE, iRngE, iSeqE, mForE, gRev, gRevL, iEnu, mHold, gTupR, nl, nlAll, ixN, PyData.isInt, PyData.isBool, PyData.isStr, PyData.isTuple, PyData.isList, PyData.isDict, nl_sp]
  have st4 : mAsg (qTup (aCons (qNl (qCall (arity 1 r__law_fewest) (aCons (qV 2) aNil))) (aCons (qNl (qCall (arity 1 r_fewest_forces) (aCons (qV 2) aNil))) (aCons (qNl (qCall (arity 1 r_force_paper) (aCons (qV 2) aNil))) aNil)))) (bTup 3 (bCons (bName 6) (bCons (bName 7) (bCons (bName 8) bNil)))) [s0, .v (.ref 0), .v (.d (spD sp)), s3, s4, .un, .un, .un, .un, .un, .un, .un, .un] h1 =
      some (.nx, E2 sp ((chosen sp).length : Int) (tms sp) (sortU (idx sp)) s0 s3 s4 .un .un .un, h1) := by
    simp [qV, qVs, qC, q1, q2, qNl, qIf, aNil, aCons, dOf, dsOf, qTup, fLst, qF, gTru, tV, tAndF, tOrF, tNotF, qT, qAnd, qOr, qNot, gI, gI0, gB0, cMul, cDiv, cPow, gNeg, gAdd, eqI, neI, lstAt, gLen, gInt, gTuple, f1, f2, gList, gIsi, gIx, gIsN, gNoN, gIsB, iRng, iRngB, seqOf, iSeqN, iSeq, bName, bNil, bCons, bTup, wipeE, tTrue, mNx, mSeq, mRet, mRetF, mRetN, mRetO, mIf, mSet, mSetO, mBk, mCt, mPre, mLock, mAsg, mFor, startE, resD, runQ, runF, qCall, fCall, arity, eQ, eF, eT, eNil, eCons, e1, e2, eTup, efLst, eLock, eIf, etV, eCall, efCall, enl, eNot, eAnd, eOr, resE, runE, runEF, mE, mSetE, mSetOE, mRetE, mRetFE, mIfE, mAsgE, oNone, oSome, gSl, qSl, fSl, gAll, gAny, qChain, gIn, pNil, pV, pL, mPar2, gCat, ef2, mAppE, mExtE, mPut, eNew, iE, iRngE, iSeqE, mForE, gRev, gRevL, iEnu, mHold, gTupR, nl, nlAll, ixN, PyData.isInt, PyData.isBool, PyData.isStr, PyData.isTuple, PyData.isList, PyData.isDict, q1', q2', q3', nlAll_ints, sizeLine_eq]
  have c1 := covers_ sp (tms sp) h1 (by omega) (by omega)
  rw [tms_cov hv] at c1
  have c2 := enough_ sp (tI (tms sp)) h1 (by omega) (nlAll_ints _) (by show (List.map _ _).length ≤ 50; rw [List.length_map]; omega)
  have ce : enoughB sp (tI (tms sp)) = true := by
    have : ascB (tms sp) = true := ascB_iff.mpr (tms_asc hv)
    simp [enoughB, tupI, intsOf_ints, this, tms_cov hv]
  rw [ce] at c2
  have c3 := setS_t (ns := tms sp) (by omega) h1
  rw [sortU_id (tms_asc hv)] at c3
  have c4 := ne_ints (tms sp) (tms sp) h1
  have st5 : tOrF (tNotF (tV (q1 (gIsi PyData.isTuple) (qV 7)))) (tOrF (tV (q2 gNe (q1 gLen (qV 7)) (qV 6))) (tOrF (tV (q2 gNe (qF (f1 gList (qV 7))) (qF (f1 gSetS (qV 7))))) (tOrF (tNotF (tV (qCall (arity 2 r__law_covers) (aCons (qV 2) (aCons (qV 7) aNil))))) (tV (q2 (gIsB true) (qCall (arity 2 r_are_enough) (aCons (qV 2) (aCons (qV 7) aNil))) (qC (.d (.bool true)))))))) (E2 sp ((chosen sp).length : Int) (tms sp) (sortU (idx sp)) s0 s3 s4 .un .un .un) h1 = some false := by
    have a1 : tV (q1 (gIsi PyData.isTuple) (qV 7)) (E2 sp ((chosen sp).length : Int) (tms sp) (sortU (idx sp)) s0 s3 s4 .un .un .un) h1 = some true := rfl
    have a2 : tV (q2 gNe (q1 gLen (qV 7)) (qV 6)) (E2 sp ((chosen sp).length : Int) (tms sp) (sortU (idx sp)) s0 s3 s4 .un .un .un) h1 = some false := by simp [qV, qVs, qC, q1, q2, qNl, qIf, aNil, aCons, dOf, dsOf, qTup, fLst, qF, gTru, tV, tAndF, tOrF, tNotF, qT, qAnd, qOr, qNot, gI, gI0, gB0, cMul, cDiv, cPow, gNeg, gAdd, eqI, neI, lstAt, gLen, gInt, gTuple, f1, f2, gList, gIsi, gIx, gIsN, gNoN, gIsB, iRng, iRngB, seqOf, iSeqN, iSeq, bName, bNil, bCons, bTup, wipeE, tTrue, mNx, mSeq, mRet, mRetF, mRetN, mRetO, mIf, mSet, mSetO, mBk, mCt, mPre, mLock, mAsg, mFor, startE, resD, runQ, runF, qCall, fCall, arity, eQ, eF, eT, eNil, eCons, e1, e2, eTup, efLst, eLock, eIf, etV, eCall, efCall, enl, eNot, eAnd, eOr, resE, runE, runEF, mE, mSetE, mSetOE, mRetE, mRetFE, mIfE, mAsgE, oNone, oSome, gSl, qSl, fSl, gAll, gAny, qChain, gIn, pNil, pV, pL, mPar2, gCat, ef2, mAppE, mExtE, mPut, eNew, iE, iRngE, iSeqE, mForE, gRev, gRevL, iEnu, mHold, gTupR, nl, nlAll, ixN, PyData.isInt, PyData.isBool, PyData.isStr, PyData.isTuple, PyData.isList, PyData.isDict, lT]
    have a3 : tV (q2 gNe (qF (f1 gList (qV 7))) (qF (f1 gSetS (qV 7)))) (E2 sp ((chosen sp).length : Int) (tms sp) (sortU (idx sp)) s0 s3 s4 .un .un .un) h1 = some false := by simp [qV, qVs, qC, q1, q2, qNl, qIf, aNil, aCons, dOf, dsOf, qTup, fLst, qF, gTru, tV, tAndF, tOrF, tNotF, qT, qAnd, qOr, qNot, gI, gI0, gB0, cMul, cDiv, cPow, gNeg, gAdd, eqI, neI, lstAt, gLen, gInt, gTuple, f1, f2, gList, gIsi, gIx, gIsN, gNoN, gIsB, iRng, iRngB, seqOf, iSeqN, iSeq, bName, bNil, bCons, bTup, wipeE, tTrue, mNx, mSeq, mRet, mRetF, mRetN, mRetO, mIf, mSet, mSetO, mBk, mCt, mPre, mLock, mAsg, mFor, startE, resD, runQ, runF, qCall, fCall, arity, eQ, eF, eT, eNil, eCons, e1, e2, eTup, efLst, eLock, eIf, etV, eCall, efCall, enl, eNot, eAnd, eOr, resE, runE, runEF, mE, mSetE, mSetOE, mRetE, mRetFE, mIfE, mAsgE, oNone, oSome, gSl, qSl, fSl, gAll, gAny, qChain, gIn, pNil, pV, pL, mPar2, gCat, ef2, mAppE, mExtE, mPut, eNew, iE, iRngE, iSeqE, mForE, gRev, gRevL, iEnu, mHold, gTupR, nl, nlAll, ixN, PyData.isInt, PyData.isBool, PyData.isStr, PyData.isTuple, PyData.isList, PyData.isDict, nlAll_ints, c3, c4]
    have a4 : tV (qCall (arity 2 r__law_covers) (aCons (qV 2) (aCons (qV 7) aNil))) (E2 sp ((chosen sp).length : Int) (tms sp) (sortU (idx sp)) s0 s3 s4 .un .un .un) h1 = some true := by simp [qV, qVs, qC, q1, q2, qNl, qIf, aNil, aCons, dOf, dsOf, qTup, fLst, qF, gTru, tV, tAndF, tOrF, tNotF, qT, qAnd, qOr, qNot, gI, gI0, gB0, cMul, cDiv, cPow, gNeg, gAdd, eqI, neI, lstAt, gLen, gInt, gTuple, f1, f2, gList, gIsi, gIx, gIsN, gNoN, gIsB, iRng, iRngB, seqOf, iSeqN, iSeq, bName, bNil, bCons, bTup, wipeE, tTrue, mNx, mSeq, mRet, mRetF, mRetN, mRetO, mIf, mSet, mSetO, mBk, mCt, mPre, mLock, mAsg, mFor, startE, resD, runQ, runF, qCall, fCall, arity, eQ, eF, eT, eNil, eCons, e1, e2, eTup, efLst, eLock, eIf, etV, eCall, efCall, enl, eNot, eAnd, eOr, resE, runE, runEF, mE, mSetE, mSetOE, mRetE, mRetFE, mIfE, mAsgE, oNone, oSome, gSl, qSl, fSl, gAll, gAny, qChain, gIn, pNil, pV, pL, mPar2, gCat, ef2, mAppE, mExtE, mPut, eNew, iE, iRngE, iSeqE, mForE, gRev, gRevL, iEnu, mHold, gTupR, nl, nlAll, ixN, PyData.isInt, PyData.isBool, PyData.isStr, PyData.isTuple, PyData.isList, PyData.isDict, c1]
    have a5 : tV (q2 (gIsB true) (qCall (arity 2 r_are_enough) (aCons (qV 2) (aCons (qV 7) aNil))) (qC (.d (.bool true)))) (E2 sp ((chosen sp).length : Int) (tms sp) (sortU (idx sp)) s0 s3 s4 .un .un .un) h1 = some false := by
      have := noB_t true h1
      simp [qV, qVs, qC, q1, q2, qNl, qIf, aNil, aCons, dOf, dsOf, qTup, fLst, qF, gTru, tV, tAndF, tOrF, tNotF, qT, qAnd, qOr, qNot, gI, gI0, gB0, cMul, cDiv, cPow, gNeg, gAdd, eqI, neI, lstAt, gLen, gInt, gTuple, f1, f2, gList, gIsi, gIx, gIsN, gNoN, gIsB, iRng, iRngB, seqOf, iSeqN, iSeq, bName, bNil, bCons, bTup, wipeE, tTrue, mNx, mSeq, mRet, mRetF, mRetN, mRetO, mIf, mSet, mSetO, mBk, mCt, mPre, mLock, mAsg, mFor, startE, resD, runQ, runF, qCall, fCall, arity, eQ, eF, eT, eNil, eCons, e1, e2, eTup, efLst, eLock, eIf, etV, eCall, efCall, enl, eNot, eAnd, eOr, resE, runE, runEF, mE, mSetE, mSetOE, mRetE, mRetFE, mIfE, mAsgE, oNone, oSome, gSl, qSl, fSl, gAll, gAny, qChain, gIn, pNil, pV, pL, mPar2, gCat, ef2, mAppE, mExtE, mPut, eNew, iE, iRngE, iSeqE, mForE, gRev, gRevL, iEnu, mHold, gTupR, nl, nlAll, ixN, PyData.isInt, PyData.isBool, PyData.isStr, PyData.isTuple, PyData.isList, PyData.isDict, c2]
    simp only [tOrF, tNotF, a1, a2, a3, a4, a5, Option.bind_some]
    rfl
  have shP : short (tI (sortU (idx sp))) := by show (List.map _ _).length ≤ 50; rw [List.length_map]; omega
  have d1 := law_paper_ sp ((chosen sp).length : Int) (tI (sortU (idx sp))) h1 (by omega) (nlAll_ints _) shP
  have d2 := force_is_ (sp := sp) ((chosen sp).length : Int) (tI (sortU (idx sp))) h1 (by omega) (nlAll_ints _) shP
  rw [papers_same hv] at d2
  rw [lpB_own hv] at d1 d2
  have st6 : tOrF (tV (q2 gNe (q1 gLen (qV 8)) (qV 6))) (tOrF (tNotF (tV (qCall (arity 3 r__law_is_paper) (aCons (qV 2) (aCons (qV 6) (aCons (qV 8) aNil)))))) (tV (q2 (gIsB true) (qCall (arity 3 r_is_force_paper) (aCons (qV 2) (aCons (qV 6) (aCons (qV 8) aNil)))) (qC (.d (.bool true)))))) (E2 sp ((chosen sp).length : Int) (tms sp) (sortU (idx sp)) s0 s3 s4 .un .un .un) h1 = some false := by
    have a2 : tV (q2 gNe (q1 gLen (qV 8)) (qV 6)) (E2 sp ((chosen sp).length : Int) (tms sp) (sortU (idx sp)) s0 s3 s4 .un .un .un) h1 = some false := by simp [qV, qVs, qC, q1, q2, qNl, qIf, aNil, aCons, dOf, dsOf, qTup, fLst, qF, gTru, tV, tAndF, tOrF, tNotF, qT, qAnd, qOr, qNot, gI, gI0, gB0, cMul, cDiv, cPow, gNeg, gAdd, eqI, neI, lstAt, gLen, gInt, gTuple, f1, f2, gList, gIsi, gIx, gIsN, gNoN, gIsB, iRng, iRngB, seqOf, iSeqN, iSeq, bName, bNil, bCons, bTup, wipeE, tTrue, mNx, mSeq, mRet, mRetF, mRetN, mRetO, mIf, mSet, mSetO, mBk, mCt, mPre, mLock, mAsg, mFor, startE, resD, runQ, runF, qCall, fCall, arity, eQ, eF, eT, eNil, eCons, e1, e2, eTup, efLst, eLock, eIf, etV, eCall, efCall, enl, eNot, eAnd, eOr, resE, runE, runEF, mE, mSetE, mSetOE, mRetE, mRetFE, mIfE, mAsgE, oNone, oSome, gSl, qSl, fSl, gAll, gAny, qChain, gIn, pNil, pV, pL, mPar2, gCat, ef2, mAppE, mExtE, mPut, eNew, iE, iRngE, iSeqE, mForE, gRev, gRevL, iEnu, mHold, gTupR, nl, nlAll, ixN, PyData.isInt, PyData.isBool, PyData.isStr, PyData.isTuple, PyData.isList, PyData.isDict, lP]
    have a4 : tV (qCall (arity 3 r__law_is_paper) (aCons (qV 2) (aCons (qV 6) (aCons (qV 8) aNil)))) (E2 sp ((chosen sp).length : Int) (tms sp) (sortU (idx sp)) s0 s3 s4 .un .un .un) h1 = some true := by simp [qV, qVs, qC, q1, q2, qNl, qIf, aNil, aCons, dOf, dsOf, qTup, fLst, qF, gTru, tV, tAndF, tOrF, tNotF, qT, qAnd, qOr, qNot, gI, gI0, gB0, cMul, cDiv, cPow, gNeg, gAdd, eqI, neI, lstAt, gLen, gInt, gTuple, f1, f2, gList, gIsi, gIx, gIsN, gNoN, gIsB, iRng, iRngB, seqOf, iSeqN, iSeq, bName, bNil, bCons, bTup, wipeE, tTrue, mNx, mSeq, mRet, mRetF, mRetN, mRetO, mIf, mSet, mSetO, mBk, mCt, mPre, mLock, mAsg, mFor, startE, resD, runQ, runF, qCall, fCall, arity, eQ, eF, eT, eNil, eCons, e1, e2, eTup, efLst, eLock, eIf, etV, eCall, efCall, enl, eNot, eAnd, eOr, resE, runE, runEF, mE, mSetE, mSetOE, mRetE, mRetFE, mIfE, mAsgE, oNone, oSome, gSl, qSl, fSl, gAll, gAny, qChain, gIn, pNil, pV, pL, mPar2, gCat, ef2, mAppE, mExtE, mPut, eNew, iE, iRngE, iSeqE, mForE, gRev, gRevL, iEnu, mHold, gTupR, nl, nlAll, ixN, PyData.isInt, PyData.isBool, PyData.isStr, PyData.isTuple, PyData.isList, PyData.isDict, d1]
    have a5 : tV (q2 (gIsB true) (qCall (arity 3 r_is_force_paper) (aCons (qV 2) (aCons (qV 6) (aCons (qV 8) aNil)))) (qC (.d (.bool true)))) (E2 sp ((chosen sp).length : Int) (tms sp) (sortU (idx sp)) s0 s3 s4 .un .un .un) h1 = some false := by simp [qV, qVs, qC, q1, q2, qNl, qIf, aNil, aCons, dOf, dsOf, qTup, fLst, qF, gTru, tV, tAndF, tOrF, tNotF, qT, qAnd, qOr, qNot, gI, gI0, gB0, cMul, cDiv, cPow, gNeg, gAdd, eqI, neI, lstAt, gLen, gInt, gTuple, f1, f2, gList, gIsi, gIx, gIsN, gNoN, gIsB, iRng, iRngB, seqOf, iSeqN, iSeq, bName, bNil, bCons, bTup, wipeE, tTrue, mNx, mSeq, mRet, mRetF, mRetN, mRetO, mIf, mSet, mSetO, mBk, mCt, mPre, mLock, mAsg, mFor, startE, resD, runQ, runF, qCall, fCall, arity, eQ, eF, eT, eNil, eCons, e1, e2, eTup, efLst, eLock, eIf, etV, eCall, efCall, enl, eNot, eAnd, eOr, resE, runE, runEF, mE, mSetE, mSetOE, mRetE, mRetFE, mIfE, mAsgE, oNone, oSome, gSl, qSl, fSl, gAll, gAny, qChain, gIn, pNil, pV, pL, mPar2, gCat, ef2, mAppE, mExtE, mPut, eNew, iE, iRngE, iSeqE, mForE, gRev, gRevL, iEnu, mHold, gTupR, nl, nlAll, ixN, PyData.isInt, PyData.isBool, PyData.isStr, PyData.isTuple, PyData.isList, PyData.isDict, d2]
    simp only [tOrF, tNotF, a2, a4, a5, Option.bind_some]
    rfl
  obtain ⟨ys, h2, e2', t2, ly, vy⟩ := three_ (env := E2 sp ((chosen sp).length : Int) (tms sp) (sortU (idx sp)) s0 s3 s4 .un .un .un) (j := 7) rT (by omega) (fun _ => rfl) (fun _ => rfl) t1
  have v1 := told8_ok (by omega) rT
  have n1 : nlAll (told8 (tms sp)) = true := nl_mem.mpr fun y hy => (v1 y hy).1
  have n2 : nlAll ys = true := nl_mem.mpr fun y hy => (vy y hy).1
  obtain ⟨s9, e3⟩ := loop2_ hl (m := ((chosen sp).length : Int)) (T := tms sp) (P := sortU (idx sp)) (s0 := s0) (s3 := s3) (s4 := s4) (s9 := .un) (s11 := .un) (h := h2) (Vs := told8 (tms sp) ++ ys) fun x hx => by
    rcases List.mem_append.mp hx with hx | hx
    · exact v1 x hx
    · exact vy x hx
  obtain ⟨zs, h3, e4, t3, lz, vz⟩ := three_ (env := E2 sp ((chosen sp).length : Int) (tms sp) (sortU (idx sp)) s0 s3 s4 s9 .un .un) (j := 8) rP (by omega) (fun _ => rfl) (fun _ => rfl) t2
  have v2 := paper8_ok (n := sp.length) (P := sortU (idx sp)) (by omega) rP hl
  have n3 : nlAll (paper8 (sortU (idx sp)) sp.length) = true := nl_mem.mpr fun y hy => (v2 y hy).1
  have n4 : nlAll zs = true := nl_mem.mpr fun y hy => (vz y hy).1
  obtain ⟨s9', h4, e5, t4⟩ := loop3_ hl (T := tms sp) (P := sortU (idx sp)) (s0 := s0) (s3 := s3) (s4 := s4) (s9 := s9) (s10 := .un) (h := h3) hv (Vs := paper8 (sortU (idx sp)) sp.length ++ zs) (fun x hx => by
    rcases List.mem_append.mp hx with hx | hx
    · exact ⟨(v2 x hx).1, Val1.sh hl (v2 x hx)⟩
    · exact ⟨(vz x hx).1, Val1.sh hl (vz x hx)⟩) t3
  refine ⟨E2 sp ((chosen sp).length : Int) (tms sp) (sortU (idx sp)) s0 s3 s4 s9' .un .un, h4, ?_, t4, .v (.d (spD sp)), rfl⟩
  refine seq_to (env1 := [s0, .v (.ref 0), .l [], s3, .un, .un, .un, .un, .un, .un, .un, .un, .un]) (h1 := h) (by simp [qV, qVs, qC, q1, q2, qNl, qIf, aNil, aCons, dOf, dsOf, qTup, fLst, qF, gTru, tV, tAndF, tOrF, tNotF, qT, qAnd, qOr, qNot, gI, gI0, gB0, cMul, cDiv, cPow, gNeg, gAdd, eqI, neI, lstAt, gLen, gInt, gTuple, f1, f2, gList, gIsi, gIx, gIsN, gNoN, gIsB, iRng, iRngB, seqOf, iSeqN, iSeq, bName, bNil, bCons, bTup, wipeE, tTrue, mNx, mSeq, mRet, mRetF, mRetN, mRetO, mIf, mSet, mSetO, mBk, mCt, mPre, mLock, mAsg, mFor, startE, resD, runQ, runF, qCall, fCall, arity, eQ, eF, eT, eNil, eCons, e1, e2, eTup, efLst, eLock, eIf, etV, eCall, efCall, enl, eNot, eAnd, eOr, resE, runE, runEF, mE, mSetE, mSetOE, mRetE, mRetFE, mIfE, mAsgE, oNone, oSome, gSl, qSl, fSl, gAll, gAny, qChain, gIn, pNil, pV, pL, mPar2, gCat, ef2, mAppE, mExtE, mPut, eNew, iE, iRngE, iSeqE, mForE, gRev, gRevL, iEnu, mHold, gTupR, nl, nlAll, ixN, PyData.isInt, PyData.isBool, PyData.isStr, PyData.isTuple, PyData.isList, PyData.isDict, sizeLine_eq]) (seq_to e1 (seq_to st3 (seq_to st4 (seq_to (if_f st5 rfl) (seq_to (if_f st6 rfl) (seq_to (env1 := E2 sp ((chosen sp).length : Int) (tms sp) (sortU (idx sp)) s0 s3 s4 s9 .un .un) (h1 := h2) ?_ ?_))))))
  · have c5 := cut_len ((tms sp).map PyData.int) (some 1) none
    rw [List.length_map] at c5
    have n50 : nlAll ((tms sp).map PyData.int ++ [PyData.int 50]) = true := by rw [nlAll_app, nlAll_ints]; rfl
    have nc := nl_cut (l := some 1) (u := none) (nlAll_ints (tms sp))
    have nr : nlAll ((tms sp).map PyData.int).reverse = true := nl_mem.mpr fun d hd => nl_mem.mp (nlAll_ints (tms sp)) d (List.mem_reverse.mp hd)
    have z1 : (tms sp).length + 1 ≤ 16777216 := by omega
    have el : ∀ env : En, env = E2 sp ((chosen sp).length : Int) (tms sp) (sortU (idx sp)) s0 s3 s4 .un .un .un → eQ (qF (fLst (aCons (qNl (qV 7)) (aCons (qSl (qNl (qV 7)) (oSome (qC (.d (.int 1)))) oNone) (aCons (q1 gRev (qNl (qV 7))) (aCons (q2 gAdd (qNl (qV 7)) (qTup (aCons (qC (.d (.int 50))) aNil))) (aCons (qC (.d .none)) (aCons (qTup aNil) (aCons (qTup (aCons (qC (.d (.bool true))) aNil)) (aCons (qTup (aCons (qC (.d .none)) aNil)) aNil)))))))))) env h1 = some (.d (.list (told8 (tms sp))), h1) := by
      intro env he
      subst he
      simp [qV, qVs, qC, q1, q2, qNl, qIf, aNil, aCons, dOf, dsOf, qTup, fLst, qF, gTru, tV, tAndF, tOrF, tNotF, qT, qAnd, qOr, qNot, gI, gI0, gB0, cMul, cDiv, cPow, gNeg, gAdd, eqI, neI, lstAt, gLen, gInt, gTuple, f1, f2, gList, gIsi, gIx, gIsN, gNoN, gIsB, iRng, iRngB, seqOf, iSeqN, iSeq, bName, bNil, bCons, bTup, wipeE, tTrue, mNx, mSeq, mRet, mRetF, mRetN, mRetO, mIf, mSet, mSetO, mBk, mCt, mPre, mLock, mAsg, mFor, startE, resD, runQ, runF, qCall, fCall, arity, eQ, eF, eT, eNil, eCons, e1, e2, eTup, efLst, eLock, eIf, etV, eCall, efCall, enl, eNot, eAnd, eOr, resE, runE, runEF, mE, mSetE, mSetOE, mRetE, mRetFE, mIfE, mAsgE, oNone, oSome, gSl, qSl, fSl, gAll, gAny, qChain, gIn, pNil, pV, pL, mPar2, gCat, ef2, mAppE, mExtE, mPut, eNew, iE, iRngE, iSeqE, mForE, gRev, gRevL, iEnu, mHold, gTupR, nl, nlAll, ixN, PyData.isInt, PyData.isBool, PyData.isStr, PyData.isTuple, PyData.isList, PyData.isDict, nlAll_ints, sizeLine_eq, z1, told8]
    simp only [mForE, iSeqE, eLock, ef2]
    rw [el _ rfl, Option.bind_some, e2', Option.bind_some]
    have z2 : (told8 (tms sp)).length + ys.length ≤ sizeLine := by rw [ly, sizeLine_eq]; simp [told8]
    have eg : gCat h2 (.d (.list (told8 (tms sp)))) (.d (.list ys)) = some (told8 (tms sp) ++ ys) := by
      unfold gCat
      exact if_pos ⟨n1, n2, z2⟩
    simp only [Option.bind_some, eg, seqOf]
    exact e3
  · have z1 : (sortU (idx sp)).length + 1 ≤ 16777216 := by omega
    have zb1 : (-4611686018427387904 : Int) ≤ (sp.length : Int) := by omega
    have et : q1 gTupR (q1 gLen (qV 2)) (E2 sp ((chosen sp).length : Int) (tms sp) (sortU (idx sp)) s0 s3 s4 s9 .un .un) h2 = some (.d (tI ((List.range sp.length).map fun k : Nat => (k : Int)))) := by
      have : q1 gLen (qV 2) (E2 sp ((chosen sp).length : Int) (tms sp) (sortU (idx sp)) s0 s3 s4 s9 .un .un) h2 = some (.d (.int sp.length)) := by simp [qV, qVs, qC, q1, q2, qNl, qIf, aNil, aCons, dOf, dsOf, qTup, fLst, qF, gTru, tV, tAndF, tOrF, tNotF, qT, qAnd, qOr, qNot, gI, gI0, gB0, cMul, cDiv, cPow, gNeg, gAdd, eqI, neI, lstAt, gLen, gInt, gTuple, f1, f2, gList, gIsi, gIx, gIsN, gNoN, gIsB, iRng, iRngB, seqOf, iSeqN, iSeq, bName, bNil, bCons, bTup, wipeE, tTrue, mNx, mSeq, mRet, mRetF, mRetN, mRetO, mIf, mSet, mSetO, mBk, mCt, mPre, mLock, mAsg, mFor, startE, resD, runQ, runF, qCall, fCall, arity, eQ, eF, eT, eNil, eCons, e1, e2, eTup, efLst, eLock, eIf, etV, eCall, efCall, enl, eNot, eAnd, eOr, resE, runE, runEF, mE, mSetE, mSetOE, mRetE, mRetFE, mIfE, mAsgE, oNone, oSome, gSl, qSl, fSl, gAll, gAny, qChain, gIn, pNil, pV, pL, mPar2, gCat, ef2, mAppE, mExtE, mPut, eNew, iE, iRngE, iSeqE, mForE, gRev, gRevL, iEnu, mHold, gTupR, nl, nlAll, ixN, PyData.isInt, PyData.isBool, PyData.isStr, PyData.isTuple, PyData.isList, PyData.isDict]
      unfold q1 at this ⊢
      rw [this, Option.bind_some]
      show (if (decide (-(2 ^ 62) ≤ (sp.length : Int)) && decide ((sp.length : Int) ≤ 2 ^ 24)) = true then _ else _) = _
      rw [if_pos, Int.toNat_natCast, tI, List.map_map]
      · rfl
      · rw [Bool.and_eq_true, decide_eq_true_eq, decide_eq_true_eq]
        constructor <;> omega
    have el : ∀ env : En, env = E2 sp ((chosen sp).length : Int) (tms sp) (sortU (idx sp)) s0 s3 s4 s9 .un .un → eQ (qF (fLst (aCons (qNl (qV 8)) (aCons (qSl (qNl (qV 8)) (oSome (qC (.d (.int 1)))) oNone) (aCons (q1 gRev (qNl (qV 8))) (aCons (q1 gTupR (q1 gLen (qV 2))) (aCons (q2 gAdd (qNl (qV 8)) (qTup (aCons (q1 gLen (qV 2)) aNil))) (aCons (qC (.d .none)) (aCons (qTup aNil) (aCons (qTup (aCons (qC (.d (.bool true))) aNil)) aNil)))))))))) env h2 = some (.d (.list (paper8 (sortU (idx sp)) sp.length)), h2) := by
      intro env he
      subst he
      have : qF (fLst (aCons (qNl (qV 8)) (aCons (qSl (qNl (qV 8)) (oSome (qC (.d (.int 1)))) oNone) (aCons (q1 gRev (qNl (qV 8))) (aCons (q1 gTupR (q1 gLen (qV 2))) (aCons (q2 gAdd (qNl (qV 8)) (qTup (aCons (q1 gLen (qV 2)) aNil))) (aCons (qC (.d .none)) (aCons (qTup aNil) (aCons (qTup (aCons (qC (.d (.bool true))) aNil)) aNil))))))))) (E2 sp ((chosen sp).length : Int) (tms sp) (sortU (idx sp)) s0 s3 s4 s9 .un .un) h2 = some (.d (.list (paper8 (sortU (idx sp)) sp.length))) := by
        generalize q1 gTupR (q1 gLen (qV 2)) = qq at et ⊢
        simp [qV, qVs, qC, q1, q2, qNl, qIf, aNil, aCons, dOf, dsOf, qTup, fLst, qF, gTru, tV, tAndF, tOrF, tNotF, qT, qAnd, qOr, qNot, gI, gI0, gB0, cMul, cDiv, cPow, gNeg, gAdd, eqI, neI, lstAt, gLen, gInt, gTuple, f1, f2, gList, gIsi, gIx, gIsN, gNoN, gIsB, iRng, iRngB, seqOf, iSeqN, iSeq, bName, bNil, bCons, bTup, wipeE, tTrue, mNx, mSeq, mRet, mRetF, mRetN, mRetO, mIf, mSet, mSetO, mBk, mCt, mPre, mLock, mAsg, mFor, startE, resD, runQ, runF, qCall, fCall, arity, eQ, eF, eT, eNil, eCons, e1, e2, eTup, efLst, eLock, eIf, etV, eCall, efCall, enl, eNot, eAnd, eOr, resE, runE, runEF, mE, mSetE, mSetOE, mRetE, mRetFE, mIfE, mAsgE, oNone, oSome, gSl, qSl, fSl, gAll, gAny, qChain, gIn, pNil, pV, pL, mPar2, gCat, ef2, mAppE, mExtE, mPut, eNew, iE, iRngE, iSeqE, mForE, gRev, gRevL, iEnu, mHold, gTupR, nl, nlAll, ixN, PyData.isInt, PyData.isBool, PyData.isStr, PyData.isTuple, PyData.isList, PyData.isDict, nlAll_ints, sizeLine_eq, z1, paper8, et]
      unfold eQ
      rw [this]
      rfl
    simp only [mForE, iSeqE, eLock, ef2]
    rw [el _ rfl, Option.bind_some, e4, Option.bind_some]
    have z2 : (paper8 (sortU (idx sp)) sp.length).length + zs.length ≤ sizeLine := by rw [lz, sizeLine_eq]; simp [paper8]
    have eg : gCat h3 (.d (.list (paper8 (sortU (idx sp)) sp.length))) (.d (.list zs)) = some (paper8 (sortU (idx sp)) sp.length ++ zs) := by
      unfold gCat
      exact if_pos ⟨n3, n4, z2⟩
    simp only [Option.bind_some, eg, seqOf]
    exact e5
end K17

set_option Elab.async false
set_option linter.all false
set_option maxRecDepth 100000
set_option maxHeartbeats 4000000
namespace K17
open PySem L2 Evl Sm
def sp0 : List (Int × Int) := [(3, 5), (1, 2), (4, 9), (2, 4)]
theorem sp0_v : ∀ p ∈ sp0, p.1 ≤ p.2 := by decide
theorem srt0 : (trs sp0).mergeSort le3 = [(2, 1, 1), (4, 2, 3), (5, 3, 0), (9, 4, 2)] := by
  refine List.Perm.eq_of_pairwise (le := fun a b => le3 a b = true) ?_ (List.pairwise_mergeSort le3_trans le3_total _) (by decide) ((List.mergeSort_perm _ _).trans (by decide))
  intro a b _ _ h1 h2
  unfold le3 at h1 h2
  rw [decide_eq_true_eq] at h1 h2
  have e := List.le_antisymm h1 h2
  obtain ⟨a1, a2, a3⟩ := a
  obtain ⟨b1, b2, b3⟩ := b
  simp at e
  obtain ⟨rfl, rfl, e⟩ := e
  rw [show a3 = b3 by omega]
theorem tms0 : tms sp0 = [2, 5] := by
  unfold tms chosen
  rw [srt0]
  decide
theorem cho0 : (chosen sp0).length = 2 := by rw [← tms_len, tms0]; rfl
theorem tmsE : tms [] = [] := by simp [tms, chosen, trs, gre]
theorem idxE : sortU (idx []) = [] := by simp [idx, chosen, trs, gre, sortU]
theorem law_true (ns : List Int) (hl : ns.length ≤ 63) : ∃ h', r_law [.d (.list (ns.map PyData.int))] [] = some (.d (.bool true), h') := by
  obtain ⟨h1, e1, t1⟩ := tape_ ns
  obtain ⟨s0, hs0⟩ : ∃ s0 : Sl, s0 = .v (.d (.list (ns.map PyData.int))) := ⟨_, rfl⟩
  have b1 := forces_ sp0_v h1 (by decide)
  rw [tms0] at b1
  have b2 := paper_ sp0_v h1 (by decide)
  have l2' := idx_len sp0_v
  rw [cho0] at l2'
  have b3 := law_paper_ sp0 2 (tI (sortU (idx sp0))) h1 (by decide) (nlAll_ints _) (by show (List.map _ _).length ≤ 50; rw [List.length_map]; omega)
  have b3' := lpB_own sp0_v
  rw [cho0] at b3'
  rw [show lpB sp0 2 (tI (sortU (idx sp0))) = true from b3'] at b3
  have b4 := forces_ (sp := []) (by simp) h1 (by simp)
  rw [tmsE] at b4
  have b5 := paper_ (sp := []) (by simp) h1 (by simp)
  rw [idxE] at b5
  have b6 := enough_ sp0 (tI [2, 4]) h1 (by decide) rfl (by show (2 : Nat) ≤ 50; decide)
  rw [show enoughB sp0 (tI [2, 4]) = true by decide] at b6
  have b7 := enough_ sp0 (tI [4, 2]) h1 (by decide) rfl (by show (2 : Nat) ≤ 50; decide)
  rw [show enoughB sp0 (tI [4, 2]) = false by decide] at b7
  have n1 := ne_intsT [2, 5] [2, 5] h1
  have n2 := ne_intsT [] [] h1
  have b1 : r_fewest_forces [.d (spD sp0)] h1 = some (.d (.tuple [.int 2, .int 5])) := b1
  have b4 : r_fewest_forces [.d (.tuple [])] h1 = some (.d (.tuple [])) := b4
  have b5 : r_force_paper [.d (.tuple [])] h1 = some (.d (.tuple [])) := b5
  have b6 : r_are_enough [.d (spD sp0), .d (.tuple [.int 2, .int 4])] h1 = some (.d (.bool true)) := b6
  have b7 : r_are_enough [.d (spD sp0), .d (.tuple [.int 4, .int 2])] h1 = some (.d (.bool false)) := b7
  have n1 : gNe h1 (.d (.tuple [.int 2, .int 5])) (.d (.tuple [.int 2, .int 5])) = some (.d (.bool false)) := n1
  have n2 : gNe h1 (.d (.tuple [])) (.d (.tuple [])) = some (.d (.bool false)) := n2
  let env2 : En := [s0, .v (.ref 0), .v (.d (spD sp0)), .un, .un, .un, .un, .un, .un, .un, .un, .un, .un]
  have t5 : tOrF (tV (q2 gNe (qCall (arity 1 r_fewest_forces) (aCons (qV 2) aNil)) (qTup (aCons (qC (.d (.int 2))) (aCons (qC (.d (.int 5))) aNil))))) (tOrF (tNotF (tV (qCall (arity 3 r__law_is_paper) (aCons (qV 2) (aCons (qC (.d (.int 2))) (aCons (qCall (arity 1 r_force_paper) (aCons (qV 2) aNil)) aNil)))))) (tV (q2 gNe (qCall (arity 1 r_fewest_forces) (aCons (qTup aNil) aNil)) (qTup aNil)))) env2 h1 = some false := by
    have a1 : tV (q2 gNe (qCall (arity 1 r_fewest_forces) (aCons (qV 2) aNil)) (qTup (aCons (qC (.d (.int 2))) (aCons (qC (.d (.int 5))) aNil)))) env2 h1 = some false := by
      simp [env2, qV, qVs, qC, q1, q2, qNl, qIf, aNil, aCons, dOf, dsOf, qTup, fLst, qF, gTru, tV, tAndF, tOrF, tNotF, qT, qAnd, qOr, qNot, gI, gI0, gB0, cMul, cDiv, cPow, gNeg, gAdd, eqI, neI, lstAt, gLen, gInt, gTuple, f1, f2, gList, gIsi, gIx, gIsN, gNoN, gIsB, iRng, iRngB, seqOf, iSeqN, iSeq, bName, bNil, bCons, bTup, wipeE, tTrue, mNx, mSeq, mRet, mRetF, mRetN, mRetO, mIf, mSet, mSetO, mBk, mCt, mPre, mLock, mAsg, mFor, startE, resD, runQ, runF, qCall, fCall, arity, eQ, eF, eT, eNil, eCons, e1, e2, eTup, efLst, eLock, eIf, etV, eCall, efCall, enl, eNot, eAnd, eOr, resE, runE, runEF, mE, mSetE, mSetOE, mRetE, mRetFE, mIfE, mAsgE, oNone, oSome, gSl, qSl, fSl, gAll, gAny, qChain, gIn, pNil, pV, pL, mPar2, gCat, ef2, mAppE, mExtE, mPut, eNew, iE, iRngE, iSeqE, mForE, gRev, gRevL, iEnu, mHold, gTupR, nl, nlAll, ixN, PyData.isInt, PyData.isBool, PyData.isStr, PyData.isTuple, PyData.isList, PyData.isDict, b1, n1, sizeLine_eq]
    have a2 : tV (qCall (arity 3 r__law_is_paper) (aCons (qV 2) (aCons (qC (.d (.int 2))) (aCons (qCall (arity 1 r_force_paper) (aCons (qV 2) aNil)) aNil)))) env2 h1 = some true := by
      simp [env2, qV, qVs, qC, q1, q2, qNl, qIf, aNil, aCons, dOf, dsOf, qTup, fLst, qF, gTru, tV, tAndF, tOrF, tNotF, qT, qAnd, qOr, qNot, gI, gI0, gB0, cMul, cDiv, cPow, gNeg, gAdd, eqI, neI, lstAt, gLen, gInt, gTuple, f1, f2, gList, gIsi, gIx, gIsN, gNoN, gIsB, iRng, iRngB, seqOf, iSeqN, iSeq, bName, bNil, bCons, bTup, wipeE, tTrue, mNx, mSeq, mRet, mRetF, mRetN, mRetO, mIf, mSet, mSetO, mBk, mCt, mPre, mLock, mAsg, mFor, startE, resD, runQ, runF, qCall, fCall, arity, eQ, eF, eT, eNil, eCons, e1, e2, eTup, efLst, eLock, eIf, etV, eCall, efCall, enl, eNot, eAnd, eOr, resE, runE, runEF, mE, mSetE, mSetOE, mRetE, mRetFE, mIfE, mAsgE, oNone, oSome, gSl, qSl, fSl, gAll, gAny, qChain, gIn, pNil, pV, pL, mPar2, gCat, ef2, mAppE, mExtE, mPut, eNew, iE, iRngE, iSeqE, mForE, gRev, gRevL, iEnu, mHold, gTupR, nl, nlAll, ixN, PyData.isInt, PyData.isBool, PyData.isStr, PyData.isTuple, PyData.isList, PyData.isDict, b2, b3]
    have a3 : tV (q2 gNe (qCall (arity 1 r_fewest_forces) (aCons (qTup aNil) aNil)) (qTup aNil)) env2 h1 = some false := by
      simp [env2, qV, qVs, qC, q1, q2, qNl, qIf, aNil, aCons, dOf, dsOf, qTup, fLst, qF, gTru, tV, tAndF, tOrF, tNotF, qT, qAnd, qOr, qNot, gI, gI0, gB0, cMul, cDiv, cPow, gNeg, gAdd, eqI, neI, lstAt, gLen, gInt, gTuple, f1, f2, gList, gIsi, gIx, gIsN, gNoN, gIsB, iRng, iRngB, seqOf, iSeqN, iSeq, bName, bNil, bCons, bTup, wipeE, tTrue, mNx, mSeq, mRet, mRetF, mRetN, mRetO, mIf, mSet, mSetO, mBk, mCt, mPre, mLock, mAsg, mFor, startE, resD, runQ, runF, qCall, fCall, arity, eQ, eF, eT, eNil, eCons, e1, e2, eTup, efLst, eLock, eIf, etV, eCall, efCall, enl, eNot, eAnd, eOr, resE, runE, runEF, mE, mSetE, mSetOE, mRetE, mRetFE, mIfE, mAsgE, oNone, oSome, gSl, qSl, fSl, gAll, gAny, qChain, gIn, pNil, pV, pL, mPar2, gCat, ef2, mAppE, mExtE, mPut, eNew, iE, iRngE, iSeqE, mForE, gRev, gRevL, iEnu, mHold, gTupR, nl, nlAll, ixN, PyData.isInt, PyData.isBool, PyData.isStr, PyData.isTuple, PyData.isList, PyData.isDict, b4, n2, sizeLine_eq]
    simp only [tOrF, tNotF, a1, a2, a3, Option.bind_some]
    rfl
  have t6 : tOrF (tV (q2 gNe (qCall (arity 1 r_force_paper) (aCons (qTup aNil) aNil)) (qTup aNil))) (tOrF (tV (q2 (gIsB true) (qCall (arity 2 r_are_enough) (aCons (qV 2) (aCons (qTup (aCons (qC (.d (.int 2))) (aCons (qC (.d (.int 4))) aNil))) aNil))) (qC (.d (.bool true))))) (tV (q2 (gIsB true) (qCall (arity 2 r_are_enough) (aCons (qV 2) (aCons (qTup (aCons (qC (.d (.int 4))) (aCons (qC (.d (.int 2))) aNil))) aNil))) (qC (.d (.bool false)))))) env2 h1 = some false := by
    have a1 : tV (q2 gNe (qCall (arity 1 r_force_paper) (aCons (qTup aNil) aNil)) (qTup aNil)) env2 h1 = some false := by
      simp [env2, qV, qVs, qC, q1, q2, qNl, qIf, aNil, aCons, dOf, dsOf, qTup, fLst, qF, gTru, tV, tAndF, tOrF, tNotF, qT, qAnd, qOr, qNot, gI, gI0, gB0, cMul, cDiv, cPow, gNeg, gAdd, eqI, neI, lstAt, gLen, gInt, gTuple, f1, f2, gList, gIsi, gIx, gIsN, gNoN, gIsB, iRng, iRngB, seqOf, iSeqN, iSeq, bName, bNil, bCons, bTup, wipeE, tTrue, mNx, mSeq, mRet, mRetF, mRetN, mRetO, mIf, mSet, mSetO, mBk, mCt, mPre, mLock, mAsg, mFor, startE, resD, runQ, runF, qCall, fCall, arity, eQ, eF, eT, eNil, eCons, e1, e2, eTup, efLst, eLock, eIf, etV, eCall, efCall, enl, eNot, eAnd, eOr, resE, runE, runEF, mE, mSetE, mSetOE, mRetE, mRetFE, mIfE, mAsgE, oNone, oSome, gSl, qSl, fSl, gAll, gAny, qChain, gIn, pNil, pV, pL, mPar2, gCat, ef2, mAppE, mExtE, mPut, eNew, iE, iRngE, iSeqE, mForE, gRev, gRevL, iEnu, mHold, gTupR, nl, nlAll, ixN, PyData.isInt, PyData.isBool, PyData.isStr, PyData.isTuple, PyData.isList, PyData.isDict, b5, n2, sizeLine_eq]
    have a2 : tV (q2 (gIsB true) (qCall (arity 2 r_are_enough) (aCons (qV 2) (aCons (qTup (aCons (qC (.d (.int 2))) (aCons (qC (.d (.int 4))) aNil))) aNil))) (qC (.d (.bool true)))) env2 h1 = some false := by
      simp [env2, qV, qVs, qC, q1, q2, qNl, qIf, aNil, aCons, dOf, dsOf, qTup, fLst, qF, gTru, tV, tAndF, tOrF, tNotF, qT, qAnd, qOr, qNot, gI, gI0, gB0, cMul, cDiv, cPow, gNeg, gAdd, eqI, neI, lstAt, gLen, gInt, gTuple, f1, f2, gList, gIsi, gIx, gIsN, gNoN, gIsB, iRng, iRngB, seqOf, iSeqN, iSeq, bName, bNil, bCons, bTup, wipeE, tTrue, mNx, mSeq, mRet, mRetF, mRetN, mRetO, mIf, mSet, mSetO, mBk, mCt, mPre, mLock, mAsg, mFor, startE, resD, runQ, runF, qCall, fCall, arity, eQ, eF, eT, eNil, eCons, e1, e2, eTup, efLst, eLock, eIf, etV, eCall, efCall, enl, eNot, eAnd, eOr, resE, runE, runEF, mE, mSetE, mSetOE, mRetE, mRetFE, mIfE, mAsgE, oNone, oSome, gSl, qSl, fSl, gAll, gAny, qChain, gIn, pNil, pV, pL, mPar2, gCat, ef2, mAppE, mExtE, mPut, eNew, iE, iRngE, iSeqE, mForE, gRev, gRevL, iEnu, mHold, gTupR, nl, nlAll, ixN, PyData.isInt, PyData.isBool, PyData.isStr, PyData.isTuple, PyData.isList, PyData.isDict, b6, sizeLine_eq]
    have a3 : tV (q2 (gIsB true) (qCall (arity 2 r_are_enough) (aCons (qV 2) (aCons (qTup (aCons (qC (.d (.int 4))) (aCons (qC (.d (.int 2))) aNil))) aNil))) (qC (.d (.bool false)))) env2 h1 = some false := by
      simp [env2, qV, qVs, qC, q1, q2, qNl, qIf, aNil, aCons, dOf, dsOf, qTup, fLst, qF, gTru, tV, tAndF, tOrF, tNotF, qT, qAnd, qOr, qNot, gI, gI0, gB0, cMul, cDiv, cPow, gNeg, gAdd, eqI, neI, lstAt, gLen, gInt, gTuple, f1, f2, gList, gIsi, gIx, gIsN, gNoN, gIsB, iRng, iRngB, seqOf, iSeqN, iSeq, bName, bNil, bCons, bTup, wipeE, tTrue, mNx, mSeq, mRet, mRetF, mRetN, mRetO, mIf, mSet, mSetO, mBk, mCt, mPre, mLock, mAsg, mFor, startE, resD, runQ, runF, qCall, fCall, arity, eQ, eF, eT, eNil, eCons, e1, e2, eTup, efLst, eLock, eIf, etV, eCall, efCall, enl, eNot, eAnd, eOr, resE, runE, runEF, mE, mSetE, mSetOE, mRetE, mRetFE, mIfE, mAsgE, oNone, oSome, gSl, qSl, fSl, gAll, gAny, qChain, gIn, pNil, pV, pL, mPar2, gCat, ef2, mAppE, mExtE, mPut, eNew, iE, iRngE, iSeqE, mForE, gRev, gRevL, iEnu, mHold, gTupR, nl, nlAll, ixN, PyData.isInt, PyData.isBool, PyData.isStr, PyData.isTuple, PyData.isList, PyData.isDict, b7, sizeLine_eq]
    simp only [tOrF, tNotF, a1, a2, a3, Option.bind_some]
    rfl
  obtain ⟨env', h', ef, s2, rfl, t'⟩ := for_all (vs := [3, 4, 6, 7, 8, 9]) (body := fun d env h => (bName 3 d env).bind fun env1 => b_law_4 env1 h) (fun _ env h => ∃ s2, env = [s0, .v (.ref 0), s2, .un, .un, .un, .un, .un, .un, .un, .un, .un, .un] ∧ Tp h) (xs := (List.range 5).map fun k : Nat => PyData.int (k : Int)) (env := env2) (h := h1) ⟨_, rfl, t1⟩ (fun j x env h hx ⟨s2, e, t⟩ => by
    subst e
    obtain ⟨env1, h2, e2, t2, s2', w⟩ := turn_ (s0 := s0) (s2 := s2) (s3 := .v (.d x)) t
    exact ⟨.nx, env1, h2, e2, .inl rfl, s2', w, t2⟩)
  refine ⟨h', run_e (ℓ := .mo) (env1 := [s0, .v (.ref 0), s2, .un, .un, .un, .un, .un, .un, .un, .un, .un, .un]) ?_ rfl⟩
  have er := iRng_of (a := qC (.d (.int 5))) (env := env2) (h := h1) (n := 5) rfl (by decide) (by decide)
  subst hs0
  refine seq_to (env1 := [.v (.d (.list (ns.map PyData.int))), .v (.ref 0), .un, .un, .un, .un, .un, .un, .un, .un, .un, .un, .un]) (h1 := h1) (by simp [qV, qVs, qC, q1, q2, qNl, qIf, aNil, aCons, dOf, dsOf, qTup, fLst, qF, gTru, tV, tAndF, tOrF, tNotF, qT, qAnd, qOr, qNot, gI, gI0, gB0, cMul, cDiv, cPow, gNeg, gAdd, eqI, neI, lstAt, gLen, gInt, gTuple, f1, f2, gList, gIsi, gIx, gIsN, gNoN, gIsB, iRng, iRngB, seqOf, iSeqN, iSeq, bName, bNil, bCons, bTup, wipeE, tTrue, mNx, mSeq, mRet, mRetF, mRetN, mRetO, mIf, mSet, mSetO, mBk, mCt, mPre, mLock, mAsg, mFor, startE, resD, runQ, runF, qCall, fCall, arity, eQ, eF, eT, eNil, eCons, e1, e2, eTup, efLst, eLock, eIf, etV, eCall, efCall, enl, eNot, eAnd, eOr, resE, runE, runEF, mE, mSetE, mSetOE, mRetE, mRetFE, mIfE, mAsgE, oNone, oSome, gSl, qSl, fSl, gAll, gAny, qChain, gIn, pNil, pV, pL, mPar2, gCat, ef2, mAppE, mExtE, mPut, eNew, iE, iRngE, iSeqE, mForE, gRev, gRevL, iEnu, mHold, gTupR, nl, nlAll, ixN, PyData.isInt, PyData.isBool, PyData.isStr, PyData.isTuple, PyData.isList, PyData.isDict, e1]) (seq_to (env1 := env2) (h1 := h1) (by simp [qV, qVs, qC, q1, q2, qNl, qIf, aNil, aCons, dOf, dsOf, qTup, fLst, qF, gTru, tV, tAndF, tOrF, tNotF, qT, qAnd, qOr, qNot, gI, gI0, gB0, cMul, cDiv, cPow, gNeg, gAdd, eqI, neI, lstAt, gLen, gInt, gTuple, f1, f2, gList, gIsi, gIx, gIsN, gNoN, gIsB, iRng, iRngB, seqOf, iSeqN, iSeq, bName, bNil, bCons, bTup, wipeE, tTrue, mNx, mSeq, mRet, mRetF, mRetN, mRetO, mIf, mSet, mSetO, mBk, mCt, mPre, mLock, mAsg, mFor, startE, resD, runQ, runF, qCall, fCall, arity, eQ, eF, eT, eNil, eCons, e1, e2, eTup, efLst, eLock, eIf, etV, eCall, efCall, enl, eNot, eAnd, eOr, resE, runE, runEF, mE, mSetE, mSetOE, mRetE, mRetFE, mIfE, mAsgE, oNone, oSome, gSl, qSl, fSl, gAll, gAny, qChain, gIn, pNil, pV, pL, mPar2, gCat, ef2, mAppE, mExtE, mPut, eNew, iE, iRngE, iSeqE, mForE, gRev, gRevL, iEnu, mHold, gTupR, nl, nlAll, ixN, PyData.isInt, PyData.isBool, PyData.isStr, PyData.isTuple, PyData.isList, PyData.isDict, sizeLine_eq, env2, sp0, pD]) (seq_to (if_f t5 rfl) (seq_to (if_f t6 rfl) (seq_to ?_ (ret_q rfl)))))
  unfold mFor
  rw [er, Option.bind_some]
  exact ef
end K17

set_option Elab.async false
set_option linter.all false
set_option maxRecDepth 100000
set_option maxHeartbeats 0
namespace K17
open PySem PySem.Spec PyProof.Rows L2 Evl Sm
def g0 (K : PySem.W.Frag) : Glo := ⟨K, fun _ => 0, fun _ => [], fun _ => 0, fun _ => List.nodup_nil, fun _ => (by show 0 < 900; decide)⟩
theorem facts {P : Program} {w : World} {K : PySem.W.Frag} {h : Heap} {mg : Str → Option Value} {f : Addr} (X : K.In h) (N : h.Ns mainGlobals mg) (hfa : mg ("law" : Str) = some (.ref f)) (c : He.SaysD fa dn K) :
    ∃ (fd : FuncData) (G : Glo), G.K = K ∧ (∀ (s : Shared) (v : Value), BindsTo s fd ⟨[v], []⟩ [("script", v)]) ∧ ∀ base : Heap, K.In base → base.Ns mainGlobals mg → FnOk P w K mg base CX0 8 f fd ["script"] (spE G 1 r_law) := by
  obtain ⟨ff, fd, T, hf⟩ := txt (G := g0 K) rfl X N c
  obtain ⟨fdL, FL⟩ := c.def_ 17
  have e := hfa.symm.trans (He.glo_ok X N (c.fact 17))
  cases e
  have b := FunD.bindsA (ps := ["script"]) FL fun _ _ _ _ _ _ us hl => match us, hl with | [_], _ => rfl
  have same : fd 17 = fdL := by
    obtain ⟨⟨_, _, _, _, _, _, _, _, _, e1, l1, _⟩, _⟩ := T.d17.fn
    obtain ⟨⟨_, _, _, _, _, _, _, _, _, _, e2, l2, _⟩, _⟩ := FL
    rw [hf] at l1
    have q := l1.symm.trans l2
    simp only [Option.some.injEq, Obj.mk.injEq, Data.func.injEq] at q
    exact q.2.2.1
  refine ⟨fdL, g0 K, rfl, fun s v => b s [v] rfl, fun base _ _ => ?_⟩
  rw [← same]
  have z := ok_law (P := P) (w := w) (base := base) T
  rw [hf] at z
  exact z
end K17
open PySem PySem.W PySem.Calls PyProof.Rows
theorem PySem.Challenge.cw_treesheld_k17_whole_fewest_forces_holds : PySem.Challenge.rw_treesheld_k17_whole_fewest_forces.Holds := by
  w_on; o_law
  refine HandSHeadRun.head_any (r := OpenLaw.row PySem.Challenge.rw_treesheld_k17_whole_fewest_forces) (q := view (OpenLaw.row PySem.Challenge.rw_treesheld_k17_whole_fewest_forces).prog [20]) (H := K17.hk) (ob := K17.ob) (M := 2000) (loose := K17.ls) (d := HandSHeadRun.topDef (OpenLaw.row PySem.Challenge.rw_treesheld_k17_whole_fewest_forces).prog 20) (kwd := []) K17.ob_eq
    (by kernel_rfl) (fun s => by kernel_rfl) K17.run (by kernel_rfl) (by kernel_rfl) (by kernel_rfl) (by rfl) (by first | assumption | decide +kernel) (by decide +kernel) ⟨rfl, rfl, rfl, rfl, rfl, by decide +kernel⟩ ?hw ?hc
  case hw => w_witness2
  case hc =>
    refine L2.walk_ofE (l := PySem.Challenge.rw_treesheld_k17_whole_fewest_forces) (n := 63) (k := 8) (x := "script") (CX := L2.CX0) rfl (by decide) (by kernel_rfl) ⟨rfl, by decide, by decide⟩ ?F (fun _ _ _ _ z => z)
    intro w mg fa h Y N hmg0
    obtain ⟨K, KX, c⟩ := Y
    have hmg : mg ("law" : PySem.Str) = some (.ref fa) := by
      have e : (HandSHeadRun.topDef (OpenLaw.row PySem.Challenge.rw_treesheld_k17_whole_fewest_forces).prog 20).name = ("law" : PySem.Str) := by kernel_rfl
      rw [← e]
      exact hmg0
    obtain ⟨fd, G, gK, hb, hF⟩ := K17.facts (P := (PySem.Challenge.rw_treesheld_k17_whole_fewest_forces).prog) (w := w) KX N hmg c
    refine ⟨K, fd, Sm.spE G 1 K17.r_law, KX, hb, fun H a ns hl _ hS => ?_, hF⟩
    obtain ⟨h', e⟩ := K17.law_true ns hl
    subst gK
    exact Sm.enter e hS _
#print axioms PySem.Challenge.cw_treesheld_k17_whole_fewest_forces_holds

