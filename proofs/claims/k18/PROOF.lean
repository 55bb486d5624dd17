import PyProof.Rows.All
import Wide.All
import OpenK.AllK
import Wide.FinOn
import HandS.ForMost
import HandS.Deep
import HandS.Evl
import HandS.TupAny
import HandS.Flow
import HandS.Style
import HandS.IsInst
import HandS.Wide
import HandS.TupLe
import KE.DataIsa
import HandS.Text
import KE.SortData
import HandS.Set
import HandS.SetFor
import HandS.Strs
import KE.GoesEnum
import HandS.Conv
import HandS.Defaults
import HandS.HeadHook1
import HandS.HeadHook2
import HandS.Replace
import HandS.TupMul
import PyProof.StrBlock2
import HandS.ExcInit
import HandS.Nested
import KE.KExcSuper
import HandS.ExcField
import HandS.TryOnly
import HandS.WordsExc
import PySem.Challenge.RW_treesheld_k18_whole_small_bytes
import HandS.Head0
import HandS.Head1
import HandS.Head2
import HandS.HeadEnd
import KE.KStateDown
set_option Elab.async false
set_option linter.all false
set_option maxRecDepth 100000
set_option maxHeartbeats 1000000
/-! A layer over HandS: code is told by total functions on data (PyData), own lists by value, objects by number. -/
namespace Sm
open PySem L2 Evl

/-! ### data and how it lies -/
abbrev LP := Addr → List V → Prop
mutual
def Rep (T L : LP) : PyData → V → Prop
  | .none, v => v = .non
  | .bool b, v => v = .bl b
  | .int i, v => v = .int i
  | .str s, v => v = .str s
  | .tuple ds, v => ∃ a vs, v = .ref a ∧ T a vs ∧ RepAll T L ds vs
  | .list ds, v => ∃ a vs, v = .ref a ∧ L a vs ∧ RepAll T L ds vs
  | .dict _, _ => False
def RepAll (T L : LP) : List PyData → List V → Prop
  | [], vs => vs = []
  | d :: ds, vs => ∃ v r, vs = v :: r ∧ Rep T L d v ∧ RepAll T L ds r
end
mutual
theorem Rep.mono {T T' L L' : LP} (hT : ∀ a vs, T a vs → T' a vs) (hL : ∀ a vs, L a vs → L' a vs) : ∀ (d : PyData) (v : V), Rep T L d v → Rep T' L' d v
  | .none, v, h => by simpa [Rep] using h
  | .bool b, v, h => by simpa [Rep] using h
  | .int i, v, h => by simpa [Rep] using h
  | .str s, v, h => by simpa [Rep] using h
  | .tuple ds, v, h => by
    simp only [Rep] at h ⊢
    obtain ⟨a, vs, e, t, r⟩ := h
    exact ⟨a, vs, e, hT _ _ t, RepAll.mono hT hL ds vs r⟩
  | .list ds, v, h => by
    simp only [Rep] at h ⊢
    obtain ⟨a, vs, e, t, r⟩ := h
    exact ⟨a, vs, e, hL _ _ t, RepAll.mono hT hL ds vs r⟩
  | .dict _, v, h => by simp [Rep] at h
theorem RepAll.mono {T T' L L' : LP} (hT : ∀ a vs, T a vs → T' a vs) (hL : ∀ a vs, L a vs → L' a vs) : ∀ (ds : List PyData) (vs : List V), RepAll T L ds vs → RepAll T' L' ds vs
  | [], vs, h => by simpa [RepAll] using h
  | d :: ds, vs, h => by
    simp only [RepAll] at h ⊢
    obtain ⟨v, r, e, h1, h2⟩ := h
    exact ⟨v, r, e, Rep.mono hT hL d v h1, RepAll.mono hT hL ds r h2⟩
end
/- no list within -/
mutual
def nl : PyData → Bool
  | .list _ => false
  | .dict _ => false
  | .tuple ds => nlAll ds
  | _ => true
def nlAll : List PyData → Bool
  | [] => true
  | d :: ds => nl d && nlAll ds
end
mutual
theorem Rep.nl {T L L' : LP} : ∀ (d : PyData) (v : V), nl d = true → Rep T L d v → Rep T L' d v
  | .none, v, _, h => by simpa [Rep] using h
  | .bool b, v, _, h => by simpa [Rep] using h
  | .int i, v, _, h => by simpa [Rep] using h
  | .str s, v, _, h => by simpa [Rep] using h
  | .tuple ds, v, n, h => by
    simp only [Rep] at h ⊢
    obtain ⟨a, vs, e, t, r⟩ := h
    exact ⟨a, vs, e, t, RepAll.nl ds vs (by simpa [Sm.nl] using n) r⟩
  | .list ds, v, n, h => by simp [Sm.nl] at n
  | .dict _, v, n, h => by simp [Sm.nl] at n
theorem RepAll.nl {T L L' : LP} : ∀ (ds : List PyData) (vs : List V), nlAll ds = true → RepAll T L ds vs → RepAll T L' ds vs
  | [], vs, _, h => by simpa [RepAll] using h
  | d :: ds, vs, n, h => by
    simp only [RepAll] at h ⊢
    simp only [nlAll, Bool.and_eq_true] at n
    obtain ⟨v, r, e, h1, h2⟩ := h
    exact ⟨v, r, e, Rep.nl d v n.1 h1, RepAll.nl ds r n.2 h2⟩
end
theorem RepAll.len {T L : LP} : ∀ {ds : List PyData} {vs : List V}, RepAll T L ds vs → vs.length = ds.length
  | [], vs, h => by simp only [RepAll] at h; subst h; rfl
  | d :: ds, vs, h => by
    simp only [RepAll] at h
    obtain ⟨v, r, rfl, _, h2⟩ := h
    simp [RepAll.len h2]
theorem RepAll.get {T L : LP} : ∀ {ds : List PyData} {vs : List V} {i : Nat} {d : PyData}, RepAll T L ds vs → ds[i]? = some d → ∃ v, vs[i]? = some v ∧ Rep T L d v
  | [], vs, i, d, h, e => by simp at e
  | x :: ds, vs, 0, d, h, e => by
    simp only [RepAll] at h
    obtain ⟨v, r, rfl, h1, _⟩ := h
    simp at e; subst e
    exact ⟨v, rfl, h1⟩
  | x :: ds, vs, i + 1, d, h, e => by
    simp only [RepAll] at h
    obtain ⟨v, r, rfl, _, h2⟩ := h
    simp at e
    obtain ⟨w, h3, h4⟩ := RepAll.get h2 e
    exact ⟨w, by simpa using h3, h4⟩
theorem RepAll.get' {T L : LP} {ds : List PyData} {vs : List V} {i : Nat} {v : V} (h : RepAll T L ds vs) (e : vs[i]? = some v) : ∃ d, ds[i]? = some d ∧ Rep T L d v := by
  have hl := h.len
  have hi : i < ds.length := by
    have := (List.getElem?_eq_some_iff.mp e).1
    omega
  obtain ⟨w, h1, h2⟩ := h.get (List.getElem?_eq_getElem hi)
  rw [e] at h1; cases h1
  exact ⟨_, List.getElem?_eq_getElem hi, h2⟩
theorem RepAll.nil {T L : LP} : RepAll T L [] [] := by simp [RepAll]
theorem RepAll.cons {T L : LP} {d : PyData} {v : V} {ds : List PyData} {vs : List V} (h : Rep T L d v) (r : RepAll T L ds vs) : RepAll T L (d :: ds) (v :: vs) := by
  simp only [RepAll]
  exact ⟨v, vs, rfl, h, r⟩
theorem RepAll.append {T L : LP} : ∀ {ds es : List PyData} {vs us : List V}, RepAll T L ds vs → RepAll T L es us → RepAll T L (ds ++ es) (vs ++ us)
  | [], es, vs, us, h, r => by simp only [RepAll] at h; subst h; exact r
  | d :: ds, es, vs, us, h, r => by
    simp only [RepAll] at h
    obtain ⟨v, q, rfl, h1, h2⟩ := h
    exact .cons h1 (RepAll.append h2 r)
theorem RepAll.take {T L : LP} : ∀ {ds : List PyData} {vs : List V} (n : Nat), RepAll T L ds vs → RepAll T L (ds.take n) (vs.take n)
  | ds, vs, 0, h => by simpa using RepAll.nil
  | [], vs, n + 1, h => by simp only [RepAll] at h; subst h; simpa using RepAll.nil
  | d :: ds, vs, n + 1, h => by
    simp only [RepAll] at h
    obtain ⟨v, q, rfl, h1, h2⟩ := h
    exact .cons h1 (RepAll.take n h2)
theorem RepAll.drop {T L : LP} : ∀ {ds : List PyData} {vs : List V} (n : Nat), RepAll T L ds vs → RepAll T L (ds.drop n) (vs.drop n)
  | ds, vs, 0, h => by simpa using h
  | [], vs, n + 1, h => by simp only [RepAll] at h; subst h; simpa using RepAll.nil
  | d :: ds, vs, n + 1, h => by
    simp only [RepAll] at h
    obtain ⟨v, q, rfl, h1, h2⟩ := h
    simpa using RepAll.drop n h2
theorem RepAll.set {T L : LP} : ∀ {ds : List PyData} {vs : List V} (i : Nat) {d : PyData} {v : V}, RepAll T L ds vs → Rep T L d v → RepAll T L (ds.set i d) (vs.set i v)
  | [], vs, i, d, v, h, _ => by simp only [RepAll] at h; subst h; simpa using RepAll.nil
  | x :: ds, vs, 0, d, v, h, r => by
    simp only [RepAll] at h
    obtain ⟨y, q, rfl, h1, h2⟩ := h
    exact .cons r h2
  | x :: ds, vs, i + 1, d, v, h, r => by
    simp only [RepAll] at h
    obtain ⟨y, q, rfl, h1, h2⟩ := h
    exact .cons h1 (RepAll.set i h2 r)
theorem RepAll.eraseIdx {T L : LP} : ∀ {ds : List PyData} {vs : List V} (i : Nat), RepAll T L ds vs → RepAll T L (ds.eraseIdx i) (vs.eraseIdx i)
  | [], vs, i, h => by simp only [RepAll] at h; subst h; simpa using RepAll.nil
  | x :: ds, vs, 0, h => by
    simp only [RepAll] at h
    obtain ⟨y, q, rfl, h1, h2⟩ := h
    simpa using h2
  | x :: ds, vs, i + 1, h => by
    simp only [RepAll] at h
    obtain ⟨y, q, rfl, h1, h2⟩ := h
    exact .cons h1 (RepAll.eraseIdx i h2)
theorem RepAll.ints {T L : LP} : ∀ (ns : List Int), RepAll T L (ns.map PyData.int) (ns.map V.int)
  | [] => .nil
  | n :: ns => .cons (by simp [Rep]) (RepAll.ints ns)
/- the kit's own relation -/
mutual
theorem Rep.dp {K : PySem.W.Frag} {H : Hp} : ∀ (d : PyData) (v : V), Rep (SqT K H) (SqL K H) d v → Dp K H v d
  | .none, v, h => by simp only [Rep] at h; subst h; exact .non
  | .bool b, v, h => by simp only [Rep] at h; subst h; exact .bl b
  | .int i, v, h => by simp only [Rep] at h; subst h; exact .int i
  | .str s, v, h => by simp only [Rep] at h; subst h; exact .str s
  | .tuple ds, v, h => by
    simp only [Rep] at h
    obtain ⟨a, vs, rfl, t, r⟩ := h
    exact .tup t (RepAll.dp ds vs r)
  | .list ds, v, h => by
    simp only [Rep] at h
    obtain ⟨a, vs, rfl, t, r⟩ := h
    exact .lst t (RepAll.dp ds vs r)
  | .dict _, v, h => by simp [Rep] at h
theorem RepAll.dp {K : PySem.W.Frag} {H : Hp} : ∀ (ds : List PyData) (vs : List V), RepAll (SqT K H) (SqL K H) ds vs → DpAll K H vs ds
  | [], vs, h => by simp only [RepAll] at h; subst h; exact .nil
  | d :: ds, vs, h => by
    simp only [RepAll] at h
    obtain ⟨v, r, rfl, h1, h2⟩ := h
    exact .cons (Rep.dp d v h1) (RepAll.dp ds r h2)
end

/-! ### values, slots, objects, places -/
inductive Val where
  | d (x : PyData) | ref (n : Nat) | fn (k : Nat)
/-- what the text gives: the written part, the classes' addresses and attributes, the defs that are used as values -/
structure Glo where
  K : PySem.W.Frag
  cl : Nat → Addr
  nm : Nat → List Str
  fa : Nat → Addr
  nd : ∀ c, (nm c).Nodup
  sz : ∀ c, (nm c).length < 900
/-- a slot, an attribute: unknown; a value; a list of its own; a dict of its own -/
inductive Sl where
  | un | v (x : Val) | l (xs : List PyData) | k (kvs : List (Key × PyData))
inductive Ob where
  | lst (xs : List PyData) | ins (c : Nat) (fs : List Sl) | vls (xs : List Val)
inductive Pl where
  | s (i : Nat) | o (n : Nat) | f (n : Nat) (j : Nat)
  deriving DecidableEq
abbrev En := List Sl
abbrev Hs := List Ob
abbrev As := Pl → Addr
abbrev Sl.d (x : PyData) : Sl := .v (.d x)

def FrzL (H : Hp) : LP := fun a vs => ∃ o, H a = some (.frz o (.lst vs))
def WrL (K : PySem.W.Frag) : LP := fun a xs => ∃ (o : Obj) (its : Array Value) (n : Nat), K.lookup a = some o ∧ o.cls = .type "list" ∧ o.dict = none ∧ o.data = .seq its n ∧ its.size ≤ sizeLine ∧ Vals xs its.toList
/-- lists for ever: locked, or written -/
def SL (K : PySem.W.Frag) (H : Hp) : LP := fun a vs => FrzL H a vs ∨ WrL K a vs
def isMut : Sl → Bool
  | .l _ => true
  | .k _ => true
  | _ => false
def hlive (h : Hs) : Pl → Prop
  | .s _ => False
  | .o n => n < h.length
  | .f n j => ∃ c fs s, h[n]? = some (.ins c fs) ∧ fs[j]? = some s ∧ isMut s = true
def live (env : En) (h : Hs) : Pl → Prop
  | .s i => ∃ s, env[i]? = some s ∧ isMut s = true
  | p => hlive h p
theorem hlive.live {env : En} {h : Hs} : ∀ {p : Pl}, hlive h p → live env h p
  | .s _, x => x.elim
  | .o _, x => x
  | .f _ _, x => x
/-- a def's frame: what may be written from its entry on -/
structure Fm where
  G : Glo
  rw : Bool
  h0 : Hs
  A0 : As
  H0 : Hp
  xc : Nat → Addr
  wx : Value → Option Addr → L2.St → Hp → Prop
def Fm.W (F : Fm) (a : Addr) : Prop := F.rw = true ∧ ∃ p, hlive F.h0 p ∧ F.A0 p = a
/-- lists that stay as they are while the def runs -/
def FL (F : Fm) (H : Hp) : LP := fun a vs => (Rd F.H0 a (.lst vs) ∧ ¬ F.W a) ∨ SL F.G.K H a vs
def RepV (G : Glo) (T L : LP) (n : Nat) (A : As) : Val → V → Prop
  | .d x, v => Rep T L x v
  | .ref m, v => m < n ∧ v = .ref (A (.o m))
  | .fn k, v => v = .ref (G.fa k)
def KvAll (T L : LP) : List (Key × PyData) → List (Key × V) → Prop
  | [], ks => ks = []
  | p :: ps, ks => ∃ v r, ks = (p.1, v) :: r ∧ Rep T L p.2 v ∧ KvAll T L ps r
/-- what a slot (an attribute) holds; its own list or dict stands at loc -/
def SlOf (G : Glo) (L : LP) (n : Nat) (A : As) (H : Hp) (loc : Addr) : Sl → Option V → Prop
  | .un, _ => True
  | .v x, o => ∃ v, o = some v ∧ RepV G (SqT G.K H) L n A x v
  | .l xs, o => o = some (.ref loc) ∧ ∃ vs, H loc = some (.lst vs) ∧ RepAll (SqT G.K H) (SL G.K H) xs vs
  | .k kvs, o => o = some (.ref loc) ∧ ∃ ks, H loc = some (.dK ks) ∧ KvAll (SqT G.K H) (SL G.K H) kvs ks
def ObOf (G : Glo) (n : Nat) (A : As) (H : Hp) (m : Nat) : Ob → Prop
  | .lst xs => ∃ vs, H (A (.o m)) = some (.lst vs) ∧ RepAll (SqT G.K H) (SL G.K H) xs vs
  | .ins c fs => ∃ dx fs', H (A (.o m)) = some (.ins (G.cl c) dx fs') ∧ (fs'.map (·.1)).Nodup ∧ (∀ g, g ∈ fs'.map (·.1) → g ∈ G.nm c) ∧ fs.length = (G.nm c).length ∧
      ∀ (j : Nat) s x, fs[j]? = some s → (G.nm c)[j]? = some x → SlOf G (SL G.K H) n A H (A (.f m j)) s (fs'.lookup x)
  | .vls xs => ∃ vs, H (A (.o m)) = some (.lst vs) ∧ Paired (fun x v => RepV G (SqT G.K H) (SL G.K H) n A x v) xs vs
theorem vls_mono {α β : Type} {f g : α → β → Prop} (i : ∀ x y, f x y → g x y) : ∀ {l : List α} {m : List β}, Paired f l m → Paired g l m
  | _, _, .nil => .nil
  | _, _, .cons h t => .cons (i _ _ h) (vls_mono i t)
structure SR (F : Fm) (env : En) (h : Hs) (A : As) (σ : L2.St) (H : Hp) : Prop where
  fr : ∀ a o, F.H0 a = some o → ¬ F.W a → H a = some o
  tp : ∀ a vs, F.H0 a = some (.tup vs) → H a = some (.tup vs)
  fz : ∀ a o u, F.H0 a = some (.frz o u) → H a = some (.frz o u)
  dm : ∀ a o, F.H0 a = some o → ∃ o', H a = some o'
  le : F.rw = true → F.h0.length ≤ h.length
  oo : F.rw = true → ∀ m, m < F.h0.length → A (.o m) = F.A0 (.o m)
  nw : F.rw = true → ∀ p, hlive h p → F.W (A p) ∨ F.H0 (A p) = none
  ow : ∀ i, live env [] (.s i) → F.H0 (A (.s i)) = none
  ln : σ.length = env.length
  sl : ∀ i s, env[i]? = some s → SlOf F.G (FL F H) h.length A H (A (.s i)) s (σ[i]?.join)
  ob : ∀ n o, h[n]? = some o → ObOf F.G h.length A H n o
  ij : ∀ p q, live env h p → live env h q → A p = A q → p = q
/-- a step that may write objects -/
structure Step (h : Hs) (A : As) (H : Hp) (h' : Hs) (A' : As) (H' : Hp) : Prop where
  fr : ∀ a o, H a = some o → (∀ p, hlive h p → A p ≠ a) → H' a = some o
  tp : ∀ a vs, H a = some (.tup vs) → H' a = some (.tup vs)
  fz : ∀ a o u, H a = some (.frz o u) → H' a = some (.frz o u)
  dm : ∀ a o, H a = some o → ∃ o', H' a = some o'
  le : h.length ≤ h'.length
  oo : ∀ m, m < h.length → A' (.o m) = A (.o m)
  nw : ∀ p, hlive h' p → (∃ q, hlive h q ∧ A' p = A q) ∨ H (A' p) = none

/-! ### how these carry over -/
/-- tuples and locked things stay -/
def Pres (H H' : Hp) : Prop := (∀ a vs, H a = some (.tup vs) → H' a = some (.tup vs)) ∧ ∀ a o u, H a = some (.frz o u) → H' a = some (.frz o u)
theorem Ex.pres {H H' : Hp} (e : Ex H H') : Pres H H' := ⟨fun a _ h => e a _ h, fun a _ _ h => e a _ h⟩
theorem Pres.refl (H : Hp) : Pres H H := ⟨fun _ _ h => h, fun _ _ _ h => h⟩
theorem Pres.trans {H H1 H2 : Hp} (a : Pres H H1) (b : Pres H1 H2) : Pres H H2 := ⟨fun x vs h => b.1 _ _ (a.1 _ _ h), fun x o u h => b.2 _ _ _ (a.2 _ _ _ h)⟩
theorem Step.pres {h h' : Hs} {A A' : As} {H H' : Hp} (s : Step h A H h' A' H') : Pres H H' := ⟨s.tp, s.fz⟩
section
variable {G : Glo} {K : PySem.W.Frag} {H H' : Hp} {L L' : LP} {n n' : Nat} {A A' : As} {F : Fm}
theorem Pres.sqT (e : Pres H H') (a : Addr) (vs : List V) (h : SqT K H a vs) : SqT K H' a vs := by
  rcases h with (h | ⟨o, h⟩) | h
  · exact .inl (.inl (e.1 _ _ h))
  · exact .inl (.inr ⟨o, e.2 _ _ _ h⟩)
  · exact .inr h
theorem Pres.sL (e : Pres H H') (a : Addr) (vs : List V) (h : SL K H a vs) : SL K H' a vs := by
  rcases h with ⟨o, h⟩ | h
  · exact .inl ⟨o, e.2 _ _ _ h⟩
  · exact .inr h
theorem Pres.fL (e : Pres H H') (a : Addr) (vs : List V) (h : FL F H a vs) : FL F H' a vs := by
  rcases h with h | h
  · exact .inl h
  · exact .inr (e.sL a vs h)
theorem SL.sq {a : Addr} {vs : List V} (h : SL K H a vs) : SqL K H a vs := by
  rcases h with ⟨o, h⟩ | h
  · exact .inl (.inr ⟨o, h⟩)
  · exact .inr h
theorem SL.fl {a : Addr} {vs : List V} (h : SL F.G.K H a vs) : FL F H a vs := .inr h
theorem RepV.mono (hT : ∀ a vs, SqT K H a vs → SqT K H' a vs) (hL : ∀ a vs, L a vs → L' a vs) (hn : n ≤ n') (ho : ∀ m, m < n → A' (.o m) = A (.o m)) : ∀ {x : Val} {v : V}, RepV G (SqT K H) L n A x v → RepV G (SqT K H') L' n' A' x v
  | .d x, v, h => Rep.mono hT hL x v h
  | .ref m, v, ⟨h1, h2⟩ => ⟨Nat.lt_of_lt_of_le h1 hn, by rw [ho m h1]; exact h2⟩
  | .fn _, v, h => h
theorem KvAll.mono {T T' : LP} (hT : ∀ a vs, T a vs → T' a vs) (hL : ∀ a vs, L a vs → L' a vs) : ∀ {ps : List (Key × PyData)} {ks : List (Key × V)}, KvAll T L ps ks → KvAll T' L' ps ks
  | [], ks, h => h
  | p :: ps, ks, ⟨v, r, e, h1, h2⟩ => ⟨v, r, e, Rep.mono hT hL _ _ h1, KvAll.mono hT hL h2⟩
theorem SlOf.mono (e : Pres H H') (hL : ∀ a vs, L a vs → L' a vs) (hn : n ≤ n') (ho : ∀ m, m < n → A' (.o m) = A (.o m)) {loc loc' : Addr} : ∀ {s : Sl} {o : Option V}, (isMut s = true → loc' = loc ∧ ∀ u, H loc = some u → H' loc = some u) →
    SlOf G L n A H loc s o → SlOf G L' n' A' H' loc' s o
  | .un, _, _, h => h
  | .v x, _, _, ⟨v, e1, r⟩ => ⟨v, e1, r.mono (e.sqT) hL hn ho⟩
  | .l xs, _, hm, ⟨e1, vs, e2, r⟩ => by
    obtain ⟨rfl, k⟩ := hm rfl
    exact ⟨e1, vs, k _ e2, RepAll.mono e.sqT e.sL _ _ r⟩
  | .k kvs, _, hm, ⟨e1, vs, e2, r⟩ => by
    obtain ⟨rfl, k⟩ := hm rfl
    exact ⟨e1, vs, k _ e2, KvAll.mono e.sqT e.sL r⟩
end
end Sm

set_option Elab.async false
set_option linter.all false
set_option maxRecDepth 100000
set_option maxHeartbeats 1000000
namespace Sm
open PySem L2 Evl

section
variable {F : Fm} {env : En} {h h' : Hs} {A A' : As} {σ : L2.St} {H H' : Hp}
theorem Step.refl : Step h A H h A H := ⟨fun _ _ e _ => e, fun _ _ e => e, fun _ _ _ e => e, fun _ o e => ⟨o, e⟩, Nat.le_refl _, fun _ _ => rfl, fun p hp => .inl ⟨p, hp, rfl⟩⟩
theorem Step.ex (e : Ex H H') : Step h A H h A H' := ⟨fun a o q _ => e a o q, fun a _ q => e a _ q, fun a _ _ q => e a _ q, fun a o q => ⟨o, e a o q⟩, Nat.le_refl _, fun _ _ => rfl, fun p hp => .inl ⟨p, hp, rfl⟩⟩
theorem Step.trans {h1 h2 h3 : Hs} {A1 A2 A3 : As} {H1 H2 H3 : Hp} (s : Step h1 A1 H1 h2 A2 H2) (t : Step h2 A2 H2 h3 A3 H3) : Step h1 A1 H1 h3 A3 H3 where
  fr := fun a o e n => by
    have e2 := s.fr a o e n
    refine t.fr a o e2 fun p hp q => ?_
    rcases s.nw p hp with ⟨p', hp', eq⟩ | z
    · exact n p' hp' (eq.symm.trans q)
    · rw [q, e] at z; cases z
  tp := fun a vs e => t.tp a vs (s.tp a vs e)
  fz := fun a o u e => t.fz a o u (s.fz a o u e)
  dm := fun a o e => let ⟨o', e'⟩ := s.dm a o e; t.dm a o' e'
  le := Nat.le_trans s.le t.le
  oo := fun m hm => (t.oo m (Nat.lt_of_lt_of_le hm s.le)).trans (s.oo m hm)
  nw := fun p hp => by
    rcases t.nw p hp with ⟨q, hq, e⟩ | z
    · rcases s.nw q hq with ⟨q', hq', e'⟩ | z
      · exact .inl ⟨q', hq', e.trans e'⟩
      · exact .inr (by rw [e]; exact z)
    · by_cases hh : ∃ q, hlive h1 q ∧ A1 q = A3 p
      · obtain ⟨q, hq, e⟩ := hh
        exact .inl ⟨q, hq, e.symm⟩
      · refine .inr ?_
        cases e : H1 (A3 p) with
        | none => rfl
        | some o =>
          have := s.fr _ o e fun q hq eq => hh ⟨q, hq, eq⟩
          rw [z] at this; cases this

/-- the heap grows -/
theorem SR.ex (R : SR F env h A σ H) (e : Ex H H') : SR F env h A σ H' where
  fr := fun a o q w => e a o (R.fr a o q w)
  tp := fun a vs q => e a _ (R.tp a vs q)
  fz := fun a o u q => e a _ (R.fz a o u q)
  dm := fun a o q => let ⟨o', e'⟩ := R.dm a o q; ⟨o', e a o' e'⟩
  le := R.le
  oo := R.oo
  nw := R.nw
  ow := R.ow
  ln := R.ln
  sl := fun i s q => (R.sl i s q).mono (Ex.pres e) (Pres.fL (Ex.pres e)) (Nat.le_refl _) (fun _ _ => rfl) fun _ => ⟨rfl, fun u z => e _ u z⟩
  ob := fun n o q => by
    have z := R.ob n o q
    cases o with
    | lst xs =>
      obtain ⟨vs, e1, r⟩ := z
      exact ⟨vs, e _ _ e1, RepAll.mono (Ex.pres e).sqT (Ex.pres e).sL _ _ r⟩
    | vls xs =>
      obtain ⟨vs, e1, r⟩ := z
      exact ⟨vs, e _ _ e1, vls_mono (fun _ _ y => y.mono (Ex.pres e).sqT (Ex.pres e).sL (Nat.le_refl _) fun _ _ => rfl) r⟩
    | ins C fs =>
      obtain ⟨dx, fs', e1, e2, e3, e4, r⟩ := z
      exact ⟨dx, fs', e _ _ e1, e2, e3, e4, fun j s x q' q2 => (r j s x q' q2).mono (Ex.pres e) (Pres.sL (Ex.pres e)) (Nat.le_refl _) (fun _ _ => rfl) fun _ => ⟨rfl, fun u z => e _ u z⟩⟩
  ij := R.ij

/-- an object's place is that of an object -/
theorem SR.at_live (R : SR F env h A σ H) : ∀ {p : Pl}, live env h p → ∃ o, H (A p) = some o ∧ (∀ vs, o ≠ .tup vs) ∧ ∀ b u, o ≠ .frz b u
  | .s i, ⟨s, e, m⟩ => by
    have z := R.sl i s e
    cases s with
    | l xs => obtain ⟨_, vs, e2, _⟩ := z; exact ⟨_, e2, fun _ q => (by cases q), fun _ _ q => (by cases q)⟩
    | k kvs => obtain ⟨_, vs, e2, _⟩ := z; exact ⟨_, e2, fun _ q => (by cases q), fun _ _ q => (by cases q)⟩
    | un => cases m
    | v x => cases m
  | .o n, hn => by
    have hn : n < h.length := hn
    have z := R.ob n _ (List.getElem?_eq_getElem hn)
    cases e : h[n] with
    | lst xs => rw [e] at z; obtain ⟨vs, e2, _⟩ := z; exact ⟨_, e2, fun _ q => (by cases q), fun _ _ q => (by cases q)⟩
    | vls xs => rw [e] at z; obtain ⟨vs, e2, _⟩ := z; exact ⟨_, e2, fun _ q => (by cases q), fun _ _ q => (by cases q)⟩
    | ins C fs => rw [e] at z; obtain ⟨dx, fs', e2, _, _, _, _⟩ := z; exact ⟨_, e2, fun _ q => (by cases q), fun _ _ q => (by cases q)⟩
  | .f n j, ⟨c, fs, s, e1, e2, m⟩ => by
    obtain ⟨dx, fs', _, _, _, e4, r⟩ := R.ob n _ e1
    have hj : j < (F.G.nm c).length := by
      have := (List.getElem?_eq_some_iff.mp e2).1
      omega
    have z := r j s _ e2 (List.getElem?_eq_getElem hj)
    cases s with
    | l xs => obtain ⟨_, vs, e2, _⟩ := z; exact ⟨_, e2, fun _ q => (by cases q), fun _ _ q => (by cases q)⟩
    | k kvs => obtain ⟨_, vs, e2, _⟩ := z; exact ⟨_, e2, fun _ q => (by cases q), fun _ _ q => (by cases q)⟩
    | un => cases m
    | v x => cases m
theorem SR.fl_sq (R : SR F env h A σ H) (a : Addr) (vs : List V) (q : FL F H a vs) : SqL F.G.K H a vs := by
  rcases q with ⟨q | ⟨o, q⟩, w⟩ | q
  · exact .inl (.inl (R.fr a _ q w))
  · exact .inl (.inr ⟨o, R.fz a _ _ q⟩)
  · exact q.sq
/-- stable is momentary -/
theorem SR.mom (R : SR F env h A σ H) {n : Nat} {x : Val} {v : V} (q : RepV F.G (SqT F.G.K H) (FL F H) n A x v) : RepV F.G (SqT F.G.K H) (SqL F.G.K H) n A x v :=
  q.mono (fun _ _ z => z) R.fl_sq (Nat.le_refl _) fun _ _ => rfl

/-- what a callee's frame starts from -/
def Fm.cal (G : Glo) (rw : Bool) (h : Hs) (A : As) (H : Hp) : Fm := ⟨G, rw, h, A, H, fun _ => 0, fun _ _ _ _ => False⟩
theorem SR.start (R : SR F env h A σ H) (rw : Bool) : SR (Fm.cal F.G rw h A H) [] h A [] H where
  fr := fun a o q _ => q
  tp := fun _ _ q => q
  fz := fun _ _ _ q => q
  dm := fun _ o q => ⟨o, q⟩
  le := fun _ => Nat.le_refl _
  oo := fun _ _ _ => rfl
  nw := fun hr p hp => .inl ⟨hr, p, hp, rfl⟩
  ow := fun i z => by obtain ⟨s, e, _⟩ := z; simp at e
  ln := rfl
  sl := fun i s e => by simp at e
  ob := R.ob
  ij := fun p q hp hq e => R.ij p q (by
    cases p with
    | s i => obtain ⟨s, e, _⟩ := hp; simp at e
    | o n => exact hp
    | f n x => exact hp) (by
    cases q with
    | s i => obtain ⟨s, e, _⟩ := hq; simp at e
    | o n => exact hq
    | f n x => exact hq) e
theorem SR.step_of {σ' : L2.St} (R : SR (Fm.cal F.G true h A H) env h' A' σ' H') : Step h A H h' A' H' where
  fr := fun a o e n => R.fr a o e fun ⟨_, p, hp, q⟩ => n p hp q
  tp := R.tp
  fz := R.fz
  dm := R.dm
  le := R.le rfl
  oo := R.oo rfl
  nw := fun p hp => by
    rcases R.nw rfl p hp with ⟨_, q, hq, e⟩ | z
    · exact .inl ⟨q, hq, e.symm⟩
    · exact .inr z
/-- the places behind a call: slots as they were -/
def As.back (A A' : As) : As := fun p => match p with
  | .s i => A (.s i)
  | p => A' p
theorem back_h {p : Pl} (hp : hlive h p) : As.back A A' p = A' p := by
  cases p with
  | s i => exact hp.elim
  | o n => rfl
  | f n x => rfl
/-- behind a call that may have written objects -/
theorem SR.call (R : SR F env h A σ H) (hw : F.rw = true) (s : Step h A H h' A' H')
    (ob : ∀ n o, h'[n]? = some o → ObOf F.G h'.length A' H' n o) (ij : ∀ p q, hlive h' p → hlive h' q → A' p = A' q → p = q) : SR F env h' (As.back A A') σ H' := by
  have nslot : ∀ i p, live env h (.s i) → hlive h' p → A (.s i) ≠ A' p := fun i p hi hp e => by
    obtain ⟨o, e1, _⟩ := R.at_live hi
    rcases s.nw p hp with ⟨q, hq, e2⟩ | z
    · have := R.ij _ _ hi hq.live (e.trans e2)
      subst this
      exact hq
    · rw [← e, e1] at z; cases z
  have kslot : ∀ i, live env h (.s i) → ∀ u, H (A (.s i)) = some u → H' (A (.s i)) = some u := fun i hi u e => s.fr _ u e fun p hp q => by
    have := R.ij _ _ hi hp.live q.symm
    subst this
    exact hp
  refine ⟨fun a o q w => ?_, fun a vs q => s.tp _ _ (R.tp a vs q), fun a o u q => s.fz _ _ _ (R.fz a o u q), fun a o q => (let ⟨o', e'⟩ := R.dm a o q; s.dm a o' e'), fun z => Nat.le_trans (R.le z) s.le, fun z m hm => ?_, fun z p hp => ?_, R.ow, R.ln, fun i sl q => ?_, fun n o q => ?_, fun p q hp hq e => ?_⟩
  · refine s.fr a o (R.fr a o q w) fun p hp e => ?_
    rcases R.nw hw p hp with z | z
    · exact w (e ▸ z)
    · rw [e, q] at z; cases z
  · exact (s.oo m (Nat.lt_of_lt_of_le hm (R.le z))).trans (R.oo z m hm)
  · rw [back_h hp]
    rcases s.nw p hp with ⟨q, hq, e⟩ | z'
    · rw [e]; exact R.nw z q hq
    · by_cases w : F.W (A' p)
      · exact .inl w
      · refine .inr ?_
        cases e : F.H0 (A' p) with
        | none => rfl
        | some o => have := R.fr _ o e w; rw [z'] at this; cases this
  · exact (R.sl i sl q).mono s.pres (Pres.fL s.pres) s.le s.oo fun m => ⟨rfl, kslot i ⟨sl, q, m⟩⟩
  · have z := ob n o q
    cases o with
    | lst xs => exact z
    | vls xs =>
      obtain ⟨vs, e1, r⟩ := z
      exact ⟨vs, e1, vls_mono (fun _ _ y => y.mono (fun _ _ z => z) (fun _ _ z => z) (Nat.le_refl _) fun _ _ => rfl) r⟩
    | ins C fs =>
      obtain ⟨dx, fs', e1, e2, e3, e4, r⟩ := z
      exact ⟨dx, fs', e1, e2, e3, e4, fun j sl x q' q2 => (r j sl x q' q2).mono (Pres.refl _) (fun _ _ z => z) (Nat.le_refl _) (fun _ _ => rfl) fun _ => ⟨rfl, fun _ z => z⟩⟩
  · cases p with
    | s i =>
      cases q with
      | s j => exact R.ij _ _ hp hq e
      | o n => exact (nslot i (.o n) hp hq e).elim
      | f n x => exact (nslot i (.f n x) hp hq e).elim
    | o n =>
      cases q with
      | s j => exact (nslot j (.o n) hq hp e.symm).elim
      | o n => exact ij _ _ hp hq e
      | f n x => exact ij _ _ hp hq e
    | f n x =>
      cases q with
      | s j => exact (nslot j (.f n x) hq hp e.symm).elim
      | o n => exact ij _ _ hp hq e
      | f n x => exact ij _ _ hp hq e
end
end Sm

set_option Elab.async false
set_option linter.all false
set_option maxRecDepth 100000
set_option maxHeartbeats 1000000
namespace Sm
open PySem L2 Evl

section
variable {F : Fm} {env : En} {h h' : Hs} {A A' : As} {σ : L2.St} {H H' : Hp} {n' : Nat}
theorem Pres.upd {a : Addr} {o : HO} (q : ∀ u, H a = some u → (∀ vs, u ≠ .tup vs) ∧ ∀ b w, u ≠ .frz b w) : Pres H (upd H a o) := by
  refine ⟨fun b vs e => ?_, fun b ob u e => ?_⟩
  · by_cases hb : b = a
    · subst hb; exact absurd rfl ((q _ e).1 vs)
    · rw [upd_ne hb]; exact e
  · by_cases hb : b = a
    · subst hb; exact absurd rfl ((q _ e).2 ob u)
    · rw [upd_ne hb]; exact e
theorem SR.pres_at (R : SR F env h A σ H) {p : Pl} {o : HO} (hp : live env h p) : Pres H (upd H (A p) o) := Pres.upd fun u e => by
  obtain ⟨u', e', z⟩ := R.at_live hp
  rw [e] at e'; cases e'
  exact z
theorem dm_upd {a : Addr} {o : HO} : ∀ b u, H b = some u → ∃ u', (upd H a o) b = some u' := fun b u e => by
  by_cases hb : b = a
  · subst hb; exact ⟨o, upd_same⟩
  · exact ⟨u, by rw [upd_ne hb]; exact e⟩
theorem SR.sl_keep (R : SR F env h A σ H) (P : Pres H H') (hn : h.length ≤ n') (ho : ∀ m, m < h.length → A' (.o m) = A (.o m)) {i : Nat} {s : Sl} (e : env[i]? = some s)
    (k : isMut s = true → A' (.s i) = A (.s i) ∧ ∀ u, H (A (.s i)) = some u → H' (A (.s i)) = some u) : SlOf F.G (FL F H') n' A' H' (A' (.s i)) s (σ[i]?.join) :=
  (R.sl i s e).mono P (Pres.fL P) hn ho k
theorem SR.ob_keep (R : SR F env h A σ H) (P : Pres H H') (hn : h.length ≤ n') (ho : ∀ m, m < h.length → A' (.o m) = A (.o m)) {n : Nat} {o : Ob} (e : h[n]? = some o)
    (k0 : ∀ u, H (A (.o n)) = some u → H' (A (.o n)) = some u) (kf : ∀ j, hlive h (.f n j) → A' (.f n j) = A (.f n j) ∧ ∀ u, H (A (.f n j)) = some u → H' (A (.f n j)) = some u) : ObOf F.G n' A' H' n o := by
  have z := R.ob n o e
  have hl : n < h.length := (List.getElem?_eq_some_iff.mp e).1
  cases o with
  | lst xs =>
    obtain ⟨vs, e1, r⟩ := z
    exact ⟨vs, by rw [ho n hl]; exact k0 _ e1, RepAll.mono P.sqT P.sL _ _ r⟩
  | vls xs =>
    obtain ⟨vs, e1, r⟩ := z
    exact ⟨vs, by rw [ho n hl]; exact k0 _ e1, vls_mono (fun _ _ y => y.mono P.sqT P.sL hn ho) r⟩
  | ins c fs =>
    obtain ⟨dx, fs', e1, e2, e3, e4, r⟩ := z
    exact ⟨dx, fs', by rw [ho n hl]; exact k0 _ e1, e2, e3, e4, fun j s x q q2 => (r j s x q q2).mono P (Pres.sL P) hn ho fun m => kf j ⟨c, fs, s, e, q, m⟩⟩
theorem get_set {α : Type} {l : List α} {i j : Nat} {x y : α} (e : (l.set i x)[j]? = some y) : (j = i ∧ y = x ∧ i < l.length) ∨ (j ≠ i ∧ l[j]? = some y) := by
  by_cases hj : j = i
  · subst hj
    by_cases hl : j < l.length
    · rw [List.getElem?_set_self hl] at e; cases e; exact .inl ⟨rfl, rfl, hl⟩
    · rw [List.getElem?_eq_none (by simpa using hl)] at e; cases e
  · rw [List.getElem?_set_ne (Ne.symm hj)] at e
    exact .inr ⟨hj, e⟩
theorem live_set {i : Nat} {s' : Sl} {p : Pl} (hp : live (env.set i s') h p) : (p = .s i ∧ isMut s' = true ∧ i < env.length) ∨ (p ≠ .s i ∧ live env h p) := by
  cases p with
  | s j =>
    obtain ⟨s, e, m⟩ := hp
    rcases get_set e with ⟨rfl, rfl, hl⟩ | ⟨hj, e⟩
    · exact .inl ⟨rfl, m, hl⟩
    · exact .inr ⟨fun q => hj (by cases q; rfl), s, e, m⟩
  | o n => exact .inr ⟨fun q => (by cases q), hp⟩
  | f n j => exact .inr ⟨fun q => (by cases q), hp⟩
theorem live_nil {i : Nat} : live env [] (.s i) ↔ live env h (.s i) := Iff.rfl

/-- a slot is given something that is not its own list -/
theorem SR.setG {i : Nat} {s' : Sl} {σ' : L2.St} (R : SR F env h A σ H) (hm : isMut s' = false) (hl : σ'.length = σ.length) (hσ : ∀ j, j ≠ i → σ'[j]? = σ[j]?)
    (hs : i < env.length → SlOf F.G (FL F H) h.length A H (A (.s i)) s' (σ'[i]?.join)) : SR F (env.set i s') h A σ' H where
  fr := R.fr
  tp := R.tp
  fz := R.fz
  dm := R.dm
  le := R.le
  oo := R.oo
  nw := R.nw
  ow := fun j q => by
    rcases live_set q with ⟨_, m, _⟩ | ⟨_, q⟩
    · rw [hm] at m; cases m
    · exact R.ow j q
  ln := by rw [hl, R.ln, List.length_set]
  sl := fun j s e => by
    rcases get_set e with ⟨rfl, rfl, z⟩ | ⟨hj, e⟩
    · exact hs z
    · rw [hσ j hj]; exact R.sl j s e
  ob := R.ob
  ij := fun p q hp hq e => by
    rcases live_set hp with ⟨_, m, _⟩ | ⟨_, hp⟩
    · rw [hm] at m; cases m
    · rcases live_set hq with ⟨_, m, _⟩ | ⟨_, hq⟩
      · rw [hm] at m; cases m
      · exact R.ij p q hp hq e
theorem SR.setV {i : Nat} {x : Val} {v : V} (R : SR F env h A σ H) (r : RepV F.G (SqT F.G.K H) (FL F H) h.length A x v) : SR F (env.set i (.v x)) h A (σ.set i (some v)) H :=
  R.setG rfl (by simp) (fun j hj => List.getElem?_set_ne (Ne.symm hj)) fun hi => ⟨v, by rw [List.getElem?_set_self (by rw [R.ln]; exact hi)]; rfl, r⟩
theorem SR.setUn {i : Nat} (R : SR F env h A σ H) : SR F (env.set i .un) h A σ H := R.setG rfl rfl (fun _ _ => rfl) fun _ => trivial
theorem SR.setUn' {i : Nat} {o : Option V} (R : SR F env h A σ H) : SR F (env.set i .un) h A (σ.set i o) H := R.setG rfl (by simp) (fun j hj => List.getElem?_set_ne (Ne.symm hj)) fun _ => trivial

/-- a fresh thing is nobody's -/
structure Fresh (F : Fm) (env : En) (h : Hs) (A : As) (p : Addr) : Prop where
  f0 : F.H0 p = none
  fp : ∀ q, live env h q → A q ≠ p
theorem SR.fresh (R : SR F env h A σ H) {p : Addr} (e : H p = none) : Fresh F env h A p where
  f0 := by
    cases q : F.H0 p with
    | none => rfl
    | some o => obtain ⟨o', e'⟩ := R.dm p o q; rw [e] at e'; cases e'
  fp := fun q hq z => by
    obtain ⟨o, e', _⟩ := R.at_live hq
    rw [z, e] at e'; cases e'
def As.put (A : As) (p : Pl) (a : Addr) : As := fun q => if q = p then a else A q
theorem As.put_same {p : Pl} {a : Addr} : As.put A p a p = a := if_pos rfl
theorem As.put_ne {p q : Pl} {a : Addr} (h : q ≠ p) : As.put A p a q = A q := if_neg h
/-- a slot is given a list (dict) of its own, fresh -/
theorem SR.setNew {i : Nat} {s' : Sl} {p : Addr} (R : SR F env h A σ H) (f : Fresh F env h A p) (hm : isMut s' = true)
    (hs : SlOf F.G (FL F H) h.length (As.put A (.s i) p) H p s' (some (.ref p))) : SR F (env.set i s') h (As.put A (.s i) p) (σ.set i (some (.ref p))) H where
  fr := R.fr
  tp := R.tp
  fz := R.fz
  dm := R.dm
  le := R.le
  oo := fun z m hh => by rw [As.put_ne (by intro q; cases q)]; exact R.oo z m hh
  nw := fun z q hq => by rw [As.put_ne (by intro e; subst e; exact hq)]; exact R.nw z q hq
  ow := fun j q => by
    rcases live_set q with ⟨e, m, _⟩ | ⟨e, q⟩
    · rw [e, As.put_same]; exact f.f0
    · rw [As.put_ne e]; exact R.ow j q
  ln := by simp [R.ln]
  sl := fun j s e => by
    rcases get_set e with ⟨rfl, rfl, z⟩ | ⟨hj, e⟩
    · rw [As.put_same, List.getElem?_set_self (by rw [R.ln]; exact z)]; exact hs
    · rw [List.getElem?_set_ne (Ne.symm hj)]
      exact R.sl_keep (Pres.refl _) (Nat.le_refl _) (fun m _ => As.put_ne (by intro q; cases q)) e fun _ => ⟨As.put_ne (by intro q; cases q; exact hj rfl), fun _ z => z⟩
  ob := fun n o e => R.ob_keep (Pres.refl _) (Nat.le_refl _) (fun m _ => As.put_ne (by intro q; cases q)) e (fun _ z => z) fun j _ => ⟨As.put_ne (by intro q; cases q), fun _ z => z⟩
  ij := fun q r hq hr e => by
    rcases live_set hq with ⟨e1, _, _⟩ | ⟨e1, hq⟩
    · rcases live_set hr with ⟨e2, _, _⟩ | ⟨e2, hr⟩
      · exact e1.trans e2.symm
      · rw [e1, As.put_same, As.put_ne e2] at e; exact absurd e.symm (f.fp r hr)
    · rcases live_set hr with ⟨e2, _, _⟩ | ⟨e2, hr⟩
      · rw [e2, As.put_same, As.put_ne e1] at e; exact absurd e (f.fp q hq)
      · rw [As.put_ne e1, As.put_ne e2] at e; exact R.ij q r hq hr e

/-- a slot's own list is changed in place -/
theorem SR.putS {i : Nat} {s s' : Sl} {o : HO} (R : SR F env h A σ H) (hi : env[i]? = some s) (hm : isMut s = true) (hm' : isMut s' = true)
    (hs : SlOf F.G (FL F (upd H (A (.s i)) o)) h.length A (upd H (A (.s i)) o) (A (.s i)) s' (σ[i]?.join)) : SR F (env.set i s') h A σ (upd H (A (.s i)) o) := by
  have hp : live env h (.s i) := ⟨s, hi, hm⟩
  have P : Pres H (upd H (A (.s i)) o) := R.pres_at hp
  have oth : ∀ q, live env h q → q ≠ .s i → ∀ u, H (A q) = some u → (upd H (A (.s i)) o) (A q) = some u := fun q hq hn u e => by
    rw [upd_ne (fun z => hn (R.ij _ _ hq hp z))]; exact e
  have lv : ∀ q, live (env.set i s') h q → live env h q := fun q hq => by
    rcases live_set hq with ⟨e, _, _⟩ | ⟨_, q⟩
    · rw [e]; exact hp
    · exact q
  refine ⟨fun a u q w => ?_, fun a vs q => P.1 _ _ (R.tp a vs q), fun a b u q => P.2 _ _ _ (R.fz a b u q), fun a u q => ?_, R.le, R.oo, R.nw, fun j q => R.ow j (lv (.s j) q), by rw [R.ln, List.length_set], fun j t e => ?_, fun n b e => ?_, fun p q hp hq e => R.ij p q (lv _ hp) (lv _ hq) e⟩
  · rw [upd_ne (fun z => by rw [z, R.ow i hp] at q; cases q)]; exact R.fr a u q w
  · obtain ⟨u', e⟩ := R.dm a u q; exact dm_upd a u' e
  · rcases get_set e with ⟨rfl, rfl, z⟩ | ⟨hj, e⟩
    · exact hs
    · exact R.sl_keep P (Nat.le_refl _) (fun _ _ => rfl) e fun m => ⟨rfl, fun u z => oth (.s j) ⟨t, e, m⟩ (by intro q; cases q; exact hj rfl) u z⟩
  · exact R.ob_keep P (Nat.le_refl _) (fun _ _ => rfl) e (fun u z => oth _ (hlive.live (show hlive h (.o n) from (List.getElem?_eq_some_iff.mp e).1)) (by intro q; cases q) u z) fun j hj => ⟨rfl, fun u z => oth _ hj.live (by intro q; cases q) u z⟩

/-- a slot's own list is locked for ever -/
theorem SR.lockS {i : Nat} {xs : List PyData} {vs : List V} {o : Obj} (R : SR F env h A σ H) (hi : env[i]? = some (.l xs)) (hv : H (A (.s i)) = some (.lst vs)) : SR F (env.set i (.d (.list xs))) h A σ (upd H (A (.s i)) (.frz o (.lst vs))) := by
  have hp : live env h (.s i) := ⟨_, hi, rfl⟩
  have P : Pres H (upd H (A (.s i)) (.frz o (.lst vs))) := R.pres_at hp
  have oth : ∀ q, live env h q → q ≠ .s i → ∀ u, H (A q) = some u → (upd H (A (.s i)) (.frz o (.lst vs))) (A q) = some u := fun q hq hn u e => by
    rw [upd_ne (fun z => hn (R.ij _ _ hq hp z))]; exact e
  have lv : ∀ q, live (env.set i (.d (.list xs))) h q → q ≠ .s i ∧ live env h q := fun q hq => by
    rcases live_set hq with ⟨e, m, _⟩ | q
    · cases m
    · exact q
  refine ⟨fun a u q w => ?_, fun a vs q => P.1 _ _ (R.tp a vs q), fun a b u q => P.2 _ _ _ (R.fz a b u q), fun a u q => ?_, R.le, R.oo, R.nw, fun j q => R.ow j (lv (.s j) q).2, by rw [R.ln, List.length_set], fun j t e => ?_, fun n b e => ?_, fun p q hp hq e => R.ij p q (lv _ hp).2 (lv _ hq).2 e⟩
  · rw [upd_ne (fun z => by rw [z, R.ow i hp] at q; cases q)]; exact R.fr a u q w
  · obtain ⟨u', e⟩ := R.dm a u q; exact dm_upd a u' e
  · rcases get_set e with ⟨rfl, rfl, z⟩ | ⟨hj, e⟩
    · obtain ⟨e1, vs', e2, r⟩ := R.sl j _ hi
      rw [hv] at e2; cases e2
      refine ⟨_, e1, ?_⟩
      show Rep _ _ (.list xs) _
      simp only [Rep]
      exact ⟨_, vs, rfl, .inr (.inl ⟨o, upd_same⟩), RepAll.mono P.sqT (fun a vs z => .inr (P.sL a vs z)) _ _ r⟩
    · exact R.sl_keep P (Nat.le_refl _) (fun _ _ => rfl) e fun m => ⟨rfl, fun u z => oth (.s j) ⟨t, e, m⟩ (by intro q; cases q; exact hj rfl) u z⟩
  · exact R.ob_keep P (Nat.le_refl _) (fun _ _ => rfl) e (fun u z => oth _ (hlive.live (show hlive h (.o n) from (List.getElem?_eq_some_iff.mp e).1)) (by intro q; cases q) u z) fun j hj => ⟨rfl, fun u z => oth _ hj.live (by intro q; cases q) u z⟩
end
end Sm

set_option Elab.async false
set_option linter.all false
set_option maxRecDepth 100000
set_option maxHeartbeats 1000000
namespace Sm
open PySem L2 Evl

section
variable {F : Fm} {env : En} {h h' : Hs} {A A' : As} {σ : L2.St} {H H' : Hp} {n' : Nat}
theorem SR.w_at (R : SR F env h A σ H) (hw : F.rw = true) {p : Pl} (hp : hlive h p) {o : HO} : ∀ a u, F.H0 a = some u → ¬ F.W a → upd H (A p) o a = some u := fun a u q w => by
  rw [upd_ne (fun z => ?_)]
  · exact R.fr a u q w
  · rcases R.nw hw p hp with z' | z'
    · rw [z] at w; exact w z'
    · rw [z, z'] at q; cases q
theorem SR.dm_at (R : SR F env h A σ H) {p : Addr} {o : HO} : ∀ a u, F.H0 a = some u → ∃ u', upd H p o a = some u' := fun a u q => by
  obtain ⟨u', e⟩ := R.dm a u q
  exact dm_upd a u' e
theorem lookup_none {fs : List (Str × V)} {g : Str} (hg : g ∉ fs.map (·.1)) : fs.lookup g = none := by
  induction fs with
  | nil => rfl
  | cons p r ih =>
    obtain ⟨k, x⟩ := p
    simp only [List.map_cons, List.mem_cons, not_or] at hg
    have hb : (g == k) = false := beq_eq_false_iff_ne.mpr hg.1
    simp only [List.lookup, hb]
    exact ih hg.2
theorem putF_keys {x : Str} {v : V} : ∀ {fs : List (Str × V)} {g : Str}, g ∈ (putF x v fs).map (·.1) → g = x ∨ g ∈ fs.map (·.1)
  | [], g, h => by simp [putF] at h; exact .inl h
  | (k, y) :: r, g, h => by
    rw [show putF x v ((k, y) :: r) = (if k = x then (k, v) :: r else (k, y) :: putF x v r) from rfl] at h
    by_cases hk : k = x
    · rw [if_pos hk] at h; exact .inr (by simpa using h)
    · rw [if_neg hk, List.map_cons] at h
      rcases List.mem_cons.mp h with e | e
      · exact .inr (by simp [e])
      · rcases putF_keys e with e | e
        · exact .inl e
        · exact .inr (by rw [List.map_cons]; exact List.mem_cons_of_mem _ e)
theorem putF_nodup {x : Str} {v : V} : ∀ {fs : List (Str × V)}, (fs.map (·.1)).Nodup → ((putF x v fs).map (·.1)).Nodup
  | [], _ => by simp [putF]
  | (k, y) :: r, hn => by
    rw [show putF x v ((k, y) :: r) = (if k = x then (k, v) :: r else (k, y) :: putF x v r) from rfl]
    rw [List.map_cons, List.nodup_cons] at hn
    by_cases hk : k = x
    · rw [if_pos hk, List.map_cons, List.nodup_cons]; exact hn
    · rw [if_neg hk, List.map_cons, List.nodup_cons]
      refine ⟨fun z => ?_, putF_nodup hn.2⟩
      rcases putF_keys z with e | e
      · exact hk e
      · exact hn.1 e
theorem keys_len {G : Glo} {c : Nat} {fs' : List (Str × V)} (e2 : (fs'.map (·.1)).Nodup) (e3 : ∀ g, g ∈ fs'.map (·.1) → g ∈ G.nm c) : fs'.length < 1000 := by
  have h1 : (fs'.map (·.1)).length ≤ (G.nm c).length := PySem.length_le_of_nodup_of_subset _ _ e2 e3
  have h2 := G.sz c
  rw [List.length_map] at h1
  omega
theorem nm_inj {G : Glo} {c j k : Nat} {x : Str} (e : (G.nm c)[j]? = some x) (e' : (G.nm c)[k]? = some x) : j = k := nodup_ix (G.nd c) e e'

/-- an object without attributes is changed -/
theorem SR.putG {n : Nat} {o o' : Ob} {u' : HO} (R : SR F env h A σ H) (hw : F.rw = true) (hn : h[n]? = some o) (hk : ∀ c fs, o' ≠ .ins c fs) (ho' : ObOf F.G h.length A (upd H (A (.o n)) u') n o') :
    SR F env (h.set n o') A σ (upd H (A (.o n)) u') := by
  have hlt : n < h.length := (List.getElem?_eq_some_iff.mp hn).1
  have hp : hlive h (.o n) := hlt
  have P : Pres H (upd H (A (.o n)) u') := R.pres_at hp.live
  have oth : ∀ q, live env h q → q ≠ .o n → ∀ u, H (A q) = some u → (upd H (A (.o n)) u') (A q) = some u := fun q hq hne u e => by
    rw [upd_ne (fun z => hne (R.ij _ _ hq hp.live z))]; exact e
  have hlv : ∀ q, hlive (h.set n o') q → hlive h q := fun q hq => by
    cases q with
    | s i => exact hq
    | o m => simpa [hlive] using hq
    | f m j =>
      obtain ⟨c, fs, s, e1, e2, m'⟩ := hq
      rcases get_set e1 with ⟨_, e, _⟩ | ⟨_, e⟩
      · exact absurd e.symm (hk c fs)
      · exact ⟨c, fs, s, e, e2, m'⟩
  have lv : ∀ q, live env (h.set n o') q → live env h q := fun q hq => by
    cases q with
    | s i => exact hq
    | o m => exact (hlv (.o m) hq).live
    | f m j => exact (hlv (.f m j) hq).live
  have hL : (h.set n o').length = h.length := List.length_set ..
  refine ⟨R.w_at hw hp, fun a vs q => P.1 _ _ (R.tp a vs q), fun a b u q => P.2 _ _ _ (R.fz a b u q), R.dm_at, fun z => by rw [hL]; exact R.le z, R.oo, fun z q hq => R.nw z q (hlv q hq), R.ow, R.ln, fun i s e => ?_, fun m b e => ?_, fun p q hp hq e => R.ij p q (lv _ hp) (lv _ hq) e⟩
  · rw [hL]
    exact R.sl_keep P (Nat.le_refl _) (fun _ _ => rfl) e fun m => ⟨rfl, fun u z => oth (.s i) ⟨s, e, m⟩ (by intro q; cases q) u z⟩
  · rw [hL]
    rcases get_set e with ⟨rfl, rfl, _⟩ | ⟨hm, e⟩
    · exact ho'
    · exact R.ob_keep P (Nat.le_refl _) (fun _ _ => rfl) e (fun u z => oth (.o m) (List.getElem?_eq_some_iff.mp e).1 (by intro q; cases q; exact hm rfl) u z) fun j hj => ⟨rfl, fun u z => oth _ hj.live (by intro q; cases q) u z⟩
/-- a list object is changed -/
theorem SR.putO {n : Nat} {xs xs' : List PyData} {vs' : List V} (R : SR F env h A σ H) (hw : F.rw = true) (hn : h[n]? = some (.lst xs)) (r : RepAll (SqT F.G.K H) (SL F.G.K H) xs' vs') :
    SR F env (h.set n (.lst xs')) A σ (upd H (A (.o n)) (.lst vs')) := by
  have hp : hlive h (.o n) := (List.getElem?_eq_some_iff.mp hn).1
  have P : Pres H (upd H (A (.o n)) (.lst vs')) := R.pres_at hp.live
  exact R.putG hw hn (fun _ _ z => by cases z) ⟨vs', upd_same, RepAll.mono P.sqT P.sL _ _ r⟩
theorem SR.putV {n : Nat} {o : Ob} {xs' : List Val} {vs' : List V} (R : SR F env h A σ H) (hw : F.rw = true) (hn : h[n]? = some o) (r : Paired (fun x v => RepV F.G (SqT F.G.K H) (SL F.G.K H) h.length A x v) xs' vs') :
    SR F env (h.set n (.vls xs')) A σ (upd H (A (.o n)) (.lst vs')) := by
  have hp : hlive h (.o n) := (List.getElem?_eq_some_iff.mp hn).1
  have P : Pres H (upd H (A (.o n)) (.lst vs')) := R.pres_at hp.live
  exact R.putG hw hn (fun _ _ z => by cases z) ⟨vs', upd_same, vls_mono (fun _ _ y => y.mono P.sqT P.sL (Nat.le_refl _) fun _ _ => rfl) r⟩

/-- which places live behind a change of an attribute -/
theorem hlive_setF {n j : Nat} {c : Nat} {fs : List Sl} {s' : Sl} (hn : h[n]? = some (.ins c fs)) {q : Pl} (hq : hlive (h.set n (.ins c (fs.set j s'))) q) : (q = .f n j ∧ isMut s' = true) ∨ (q ≠ .f n j ∧ hlive h q) := by
  cases q with
  | s i => exact hq.elim
  | o m => exact .inr ⟨fun z => (by cases z), by simpa [hlive] using hq⟩
  | f m k =>
    obtain ⟨c', fs1, s, e1, e2, m'⟩ := hq
    rcases get_set e1 with ⟨rfl, e, _⟩ | ⟨hm, e⟩
    · cases e
      rcases get_set e2 with ⟨rfl, rfl, _⟩ | ⟨hk, e2⟩
      · exact .inl ⟨rfl, m'⟩
      · exact .inr ⟨fun z => hk (by cases z; rfl), c, fs, s, hn, e2, m'⟩
    · exact .inr ⟨fun z => hm (by cases z; rfl), _, fs1, s, e, e2, m'⟩
theorem live_setF {n j : Nat} {c : Nat} {fs : List Sl} {s' : Sl} (hn : h[n]? = some (.ins c fs)) {q : Pl} (hq : live env (h.set n (.ins c (fs.set j s'))) q) : (q = .f n j ∧ isMut s' = true) ∨ (q ≠ .f n j ∧ live env h q) := by
  cases q with
  | s i => exact .inr ⟨fun z => (by cases z), hq⟩
  | o m => rcases hlive_setF hn (q := .o m) hq with z | ⟨z, y⟩; exact .inl z; exact .inr ⟨z, y.live⟩
  | f m k => rcases hlive_setF hn (q := .f m k) hq with z | ⟨z, y⟩; exact .inl z; exact .inr ⟨z, y.live⟩

/-- an attribute is given something: a value, or a list (dict) of its own that is nobody's, at p -/
theorem SR.setF {n j : Nat} {c : Nat} {fs : List Sl} {s' : Sl} {x : Str} {v : V} {dx : Addr} {fs' : List (Str × V)} {p : Addr} (R : SR F env h A σ H) (hw : F.rw = true) (hn : h[n]? = some (.ins c fs)) (hx : (F.G.nm c)[j]? = some x)
    (hH : H (A (.o n)) = some (.ins (F.G.cl c) dx fs')) (f : isMut s' = true → Fresh F env h A p)
    (hs : SlOf F.G (SL F.G.K H) h.length (As.put A (.f n j) p) H p s' (some v)) :
    SR F env (h.set n (.ins c (fs.set j s'))) (As.put A (.f n j) p) σ (upd H (A (.o n)) (.ins (F.G.cl c) dx (putF x v fs'))) := by
  have hlt : n < h.length := (List.getElem?_eq_some_iff.mp hn).1
  have hp : hlive h (.o n) := hlt
  have P : Pres H (upd H (A (.o n)) (.ins (F.G.cl c) dx (putF x v fs'))) := R.pres_at hp.live
  have oth : ∀ q, live env h q → q ≠ .o n → ∀ u, H (A q) = some u → (upd H (A (.o n)) (.ins (F.G.cl c) dx (putF x v fs'))) (A q) = some u := fun q hq hne u e => by
    rw [upd_ne (fun z => hne (R.ij _ _ hq hp.live z))]; exact e
  have hL : (h.set n (.ins c (fs.set j s'))).length = h.length := List.length_set ..
  have ho : ∀ m, m < h.length → As.put A (.f n j) p (.o m) = A (.o m) := fun m _ => As.put_ne (by intro q; cases q)
  refine ⟨R.w_at hw hp, fun a vs q => P.1 _ _ (R.tp a vs q), fun a b u q => P.2 _ _ _ (R.fz a b u q), R.dm_at, fun z => by rw [hL]; exact R.le z, fun z m hm => ?_, fun z q hq => ?_, fun i q => ?_, R.ln, fun i s e => ?_, fun m b e => ?_, fun q r hq hr e => ?_⟩
  · rw [As.put_ne (by intro q; cases q)]; exact R.oo z m hm
  · rcases hlive_setF hn hq with ⟨rfl, m⟩ | ⟨hne, hq⟩
    · rw [As.put_same]; exact .inr (f m).f0
    · rw [As.put_ne hne]; exact R.nw z q hq
  · rw [As.put_ne (by intro q; cases q)]; exact R.ow i q
  · rw [hL]
    exact R.sl_keep P (Nat.le_refl _) ho e fun m => ⟨As.put_ne (by intro q; cases q), fun u z => oth (.s i) ⟨s, e, m⟩ (by intro q; cases q) u z⟩
  · rw [hL]
    rcases get_set e with ⟨rfl, rfl, _⟩ | ⟨hm, e⟩
    · obtain ⟨dx0, fs0, e1, e2, e3, e4, r⟩ := R.ob m _ hn
      rw [hH] at e1; cases e1
      refine ⟨dx, _, by rw [ho m hlt]; exact upd_same, putF_nodup e2, fun g hg => ?_, by rw [List.length_set]; exact e4, fun k s y q q2 => ?_⟩
      · rcases putF_keys hg with e | e
        · rw [e]; exact List.mem_of_getElem? hx
        · exact e3 g e
      · rw [lookup_putF]
        rcases get_set q with ⟨rfl, rfl, _⟩ | ⟨hk, q⟩
        · rw [hx] at q2; cases q2
          rw [if_pos rfl, As.put_same]
          refine hs.mono P (Pres.sL P) (Nat.le_refl _) (fun _ _ => rfl) fun m => ⟨rfl, fun u z => ?_⟩
          rw [upd_ne (fun z' => (f m).fp _ hp.live z'.symm)]; exact z
        · rw [if_neg (fun z : y = x => hk (nm_inj (z ▸ q2) hx))]
          exact (r k s y q q2).mono P (Pres.sL P) (Nat.le_refl _) ho fun m' => ⟨As.put_ne (by intro z; cases z; exact hk rfl), fun u z => oth (.f m k) ⟨c, fs, s, hn, q, m'⟩ (by intro z; cases z) u z⟩
    · exact R.ob_keep P (Nat.le_refl _) ho e (fun u z => oth (.o m) (List.getElem?_eq_some_iff.mp e).1 (by intro q; cases q; exact hm rfl) u z) fun k hk => ⟨As.put_ne (by intro z; cases z; exact hm rfl), fun u z => oth _ hk.live (by intro q; cases q) u z⟩
  · rcases live_setF hn hq with ⟨e1, m⟩ | ⟨e1, hq⟩
    · rcases live_setF hn hr with ⟨e2, _⟩ | ⟨e2, hr⟩
      · exact e1.trans e2.symm
      · rw [e1, As.put_same, As.put_ne e2] at e; exact absurd e.symm ((f m).fp r hr)
    · rcases live_setF hn hr with ⟨e2, m⟩ | ⟨e2, hr⟩
      · rw [e2, As.put_same, As.put_ne e1] at e; exact absurd e ((f m).fp q hq)
      · rw [As.put_ne e1, As.put_ne e2] at e; exact R.ij q r hq hr e

/-- an attribute's own list (dict) is changed in place, or locked -/
theorem SR.putFl {n j : Nat} {c : Nat} {fs : List Sl} {s s' : Sl} {o : HO} (R : SR F env h A σ H) (hw : F.rw = true) (hn : h[n]? = some (.ins c fs)) (hj : fs[j]? = some s) (hm : isMut s = true)
    (hs : ∀ y, SlOf F.G (SL F.G.K H) h.length A H (A (.f n j)) s y → SlOf F.G (SL F.G.K (upd H (A (.f n j)) o)) h.length A (upd H (A (.f n j)) o) (A (.f n j)) s' y) :
    SR F env (h.set n (.ins c (fs.set j s'))) A σ (upd H (A (.f n j)) o) := by
  have hlt : n < h.length := (List.getElem?_eq_some_iff.mp hn).1
  have hp : hlive h (.f n j) := ⟨c, fs, s, hn, hj, hm⟩
  have P : Pres H (upd H (A (.f n j)) o) := R.pres_at hp.live
  have oth : ∀ q, live env h q → q ≠ .f n j → ∀ u, H (A q) = some u → (upd H (A (.f n j)) o) (A q) = some u := fun q hq hne u e => by
    rw [upd_ne (fun z => hne (R.ij _ _ hq hp.live z))]; exact e
  have hL : (h.set n (.ins c (fs.set j s'))).length = h.length := List.length_set ..
  have hlv : ∀ q, hlive (h.set n (.ins c (fs.set j s'))) q → hlive h q := fun q hq => by
    rcases hlive_setF hn hq with ⟨rfl, _⟩ | ⟨_, z⟩
    · exact hp
    · exact z
  have lv : ∀ q, live env (h.set n (.ins c (fs.set j s'))) q → live env h q := fun q hq => by
    rcases live_setF hn hq with ⟨rfl, _⟩ | ⟨_, z⟩
    · exact hp.live
    · exact z
  refine ⟨R.w_at hw hp, fun a vs q => P.1 _ _ (R.tp a vs q), fun a b u q => P.2 _ _ _ (R.fz a b u q), R.dm_at, fun z => by rw [hL]; exact R.le z, R.oo, fun z q hq => R.nw z q (hlv q hq), R.ow, R.ln, fun i s e => ?_, fun m b e => ?_, fun q r hq hr e => R.ij q r (lv _ hq) (lv _ hr) e⟩
  · rw [hL]
    exact R.sl_keep P (Nat.le_refl _) (fun _ _ => rfl) e fun m => ⟨rfl, fun u z => oth (.s i) ⟨s, e, m⟩ (by intro q; cases q) u z⟩
  · rw [hL]
    rcases get_set e with ⟨rfl, rfl, _⟩ | ⟨hne, e⟩
    · obtain ⟨dx, fs', e1, e2, e3, e4, r⟩ := R.ob m _ hn
      refine ⟨dx, fs', oth (.o m) hlt (by intro q; cases q) _ e1, e2, e3, by rw [List.length_set]; exact e4, fun k t y q q2 => ?_⟩
      rcases get_set q with ⟨rfl, rfl, _⟩ | ⟨hk, q⟩
      · exact hs _ (r k s y hj q2)
      · exact (r k t y q q2).mono P (Pres.sL P) (Nat.le_refl _) (fun _ _ => rfl) fun m' => ⟨rfl, fun u z => oth (.f m k) ⟨c, fs, t, hn, q, m'⟩ (by intro z; cases z; exact hk rfl) u z⟩
    · exact R.ob_keep P (Nat.le_refl _) (fun _ _ => rfl) e (fun u z => oth (.o m) (List.getElem?_eq_some_iff.mp e).1 (by intro q; cases q) u z) fun k hk => ⟨rfl, fun u z => oth _ hk.live (by intro q; cases q; exact hne rfl) u z⟩

/-- a new object, at p -/
theorem SR.alloc {o : Ob} {p : Addr} (R : SR F env h A σ H) (f : Fresh F env h A p) (hq : ∀ j, ¬ hlive [o] (.f 0 j)) (ho : ObOf F.G (h.length + 1) (As.put A (.o h.length) p) H h.length o) : SR F env (h ++ [o]) (As.put A (.o h.length) p) σ H := by
  have hL : (h ++ [o]).length = h.length + 1 := by simp
  have hA : ∀ m, m < h.length → As.put A (.o h.length) p (.o m) = A (.o m) := fun m hm => As.put_ne (by intro q; cases q; exact absurd hm (Nat.lt_irrefl _))
  have hlv : ∀ q, hlive (h ++ [o]) q → q = .o h.length ∨ (q ≠ .o h.length ∧ hlive h q) := fun q z => by
    cases q with
    | s i => exact z.elim
    | o m =>
      have z : m < (h ++ [o]).length := z
      rw [hL] at z
      by_cases e : m = h.length
      · exact .inl (by rw [e])
      · exact .inr ⟨fun q => e (by cases q; rfl), (by omega : m < h.length)⟩
    | f m j =>
      obtain ⟨c, fs, s, e1, e2, m'⟩ := z
      refine .inr ⟨fun q => (by cases q), ?_⟩
      by_cases e : m < h.length
      · rw [List.getElem?_append_left e] at e1; exact ⟨c, fs, s, e1, e2, m'⟩
      · rw [List.getElem?_append_right (by omega)] at e1
        have e0 : m - h.length = 0 := by
          have := (List.getElem?_eq_some_iff.mp e1).1
          simp at this; omega
        rw [e0] at e1
        exact absurd (show hlive [o] (.f 0 j) from ⟨c, fs, s, e1, e2, m'⟩) (hq j)
  have lv : ∀ q, live env (h ++ [o]) q → q = .o h.length ∨ (q ≠ .o h.length ∧ live env h q) := fun q z => by
    cases q with
    | s i => exact .inr ⟨fun q => (by cases q), z⟩
    | o m => rcases hlv (.o m) z with z | ⟨z, y⟩; exact .inl z; exact .inr ⟨z, y.live⟩
    | f m j => rcases hlv (.f m j) z with z | ⟨z, y⟩; exact .inl z; exact .inr ⟨z, y.live⟩
  refine ⟨R.fr, R.tp, R.fz, R.dm, fun z => Nat.le_trans (R.le z) (by rw [hL]; omega), fun z m hm => ?_, fun z q hq => ?_, fun i q => ?_, R.ln, fun i s e => ?_, fun m b e => ?_, fun q r hq hr e => ?_⟩
  · rw [hA m (Nat.lt_of_lt_of_le hm (R.le z))]; exact R.oo z m hm
  · rcases hlv q hq with rfl | ⟨hne, hq⟩
    · rw [As.put_same]; exact .inr f.f0
    · rw [As.put_ne hne]; exact R.nw z q hq
  · rw [As.put_ne (by intro q; cases q)]; exact R.ow i q
  · exact R.sl_keep (Pres.refl _) (by rw [hL]; omega) hA e fun m => ⟨As.put_ne (by intro q; cases q), fun _ z => z⟩
  · by_cases hm : m < h.length
    · rw [List.getElem?_append_left hm] at e
      exact R.ob_keep (Pres.refl _) (by rw [hL]; omega) hA e (fun _ z => z) fun j _ => ⟨As.put_ne (by intro q; cases q), fun _ z => z⟩
    · rw [List.getElem?_append_right (by omega)] at e
      have e0 : m - h.length = 0 := by
        have := (List.getElem?_eq_some_iff.mp e).1
        simp at this; omega
      rw [e0] at e
      simp at e
      subst e
      have : m = h.length := by omega
      subst this
      rw [hL]; exact ho
  · rcases lv q hq with e1 | ⟨e1, hq⟩
    · rcases lv r hr with e2 | ⟨e2, hr⟩
      · exact e1.trans e2.symm
      · rw [e1, As.put_same, As.put_ne e2] at e; exact absurd e.symm (f.fp r hr)
    · rcases lv r hr with e2 | ⟨e2, hr⟩
      · rw [e2, As.put_same, As.put_ne e1] at e; exact absurd e (f.fp q hq)
      · rw [As.put_ne e1, As.put_ne e2] at e; exact R.ij q r hq hr e
end
end Sm

set_option Elab.async false
set_option linter.all false
set_option maxRecDepth 100000
set_option maxHeartbeats 1000000
namespace Sm
open PySem L2 Evl

/-! ### readings by total functions -/
inductive Lv where
  | mo | fs | st
def LPof (F : Fm) (H : Hp) : Lv → LP
  | .mo => SqL F.G.K H
  | .fs => FL F H
  | .st => SL F.G.K H
abbrev RV (F : Fm) (ℓ : Lv) (h : Hs) (A : As) (H : Hp) (x : Val) (v : V) : Prop := RepV F.G (SqT F.G.K H) (LPof F H ℓ) h.length A x v
abbrev RD (F : Fm) (ℓ : Lv) (H : Hp) (d : PyData) (v : V) : Prop := Rep (SqT F.G.K H) (LPof F H ℓ) d v
abbrev RDs (F : Fm) (ℓ : Lv) (H : Hp) (ds : List PyData) (vs : List V) : Prop := RepAll (SqT F.G.K H) (LPof F H ℓ) ds vs
section
variable {F : Fm} {env : En} {h h' : Hs} {A A' : As} {σ : L2.St} {H H' : Hp} {ℓ : Lv}
theorem LPof.ex (e : Ex H H') : ∀ {ℓ : Lv} (a : Addr) (vs : List V), LPof F H ℓ a vs → LPof F H' ℓ a vs
  | .mo, a, vs, q => ex_l e q
  | .fs, a, vs, q => Pres.fL (Ex.pres e) a vs q
  | .st, a, vs, q => Pres.sL (Ex.pres e) a vs q
theorem RV.ex (e : Ex H H') {x : Val} {v : V} (q : RV F ℓ h A H x v) : RV F ℓ h A H' x v := q.mono (Ex.pres e).sqT (LPof.ex e) (Nat.le_refl _) fun _ _ => rfl
theorem RD.ex (e : Ex H H') {d : PyData} {v : V} (q : RD F ℓ H d v) : RD F ℓ H' d v := Rep.mono (Ex.pres e).sqT (LPof.ex e) _ _ q
theorem RDs.ex (e : Ex H H') {d : List PyData} {v : List V} (q : RDs F ℓ H d v) : RDs F ℓ H' d v := RepAll.mono (Ex.pres e).sqT (LPof.ex e) _ _ q
theorem LPof.mo (R : SR F env h A σ H) : ∀ {ℓ : Lv} (a : Addr) (vs : List V), LPof F H ℓ a vs → SqL F.G.K H a vs
  | .mo, a, vs, q => q
  | .fs, a, vs, q => R.fl_sq a vs q
  | .st, a, vs, q => SL.sq q
theorem RV.mo (R : SR F env h A σ H) {x : Val} {v : V} (q : RV F ℓ h A H x v) : RV F .mo h A H x v := q.mono (fun _ _ z => z) (LPof.mo R) (Nat.le_refl _) fun _ _ => rfl
theorem RD.mo (R : SR F env h A σ H) {d : PyData} {v : V} (q : RD F ℓ H d v) : RD F .mo H d v := Rep.mono (fun _ _ z => z) (LPof.mo R) _ _ q
theorem RDs.mo (R : SR F env h A σ H) {d : List PyData} {v : List V} (q : RDs F ℓ H d v) : RDs F .mo H d v := RepAll.mono (fun _ _ z => z) (LPof.mo R) _ _ q
theorem LPof.of_st : ∀ {ℓ : Lv} (a : Addr) (vs : List V), SL F.G.K H a vs → LPof F H ℓ a vs
  | .mo, a, vs, q => SL.sq q
  | .fs, a, vs, q => .inr q
  | .st, a, vs, q => q
theorem RV.of_st {x : Val} {v : V} (q : RV F .st h A H x v) : RV F ℓ h A H x v := q.mono (fun _ _ z => z) LPof.of_st (Nat.le_refl _) fun _ _ => rfl
theorem RD.of_st {d : PyData} {v : V} (q : RD F .st H d v) : RD F ℓ H d v := Rep.mono (fun _ _ z => z) LPof.of_st _ _ q
theorem RDs.of_st {d : List PyData} {v : List V} (q : RDs F .st H d v) : RDs F ℓ H d v := RepAll.mono (fun _ _ z => z) LPof.of_st _ _ q
end

abbrev Q1 := En → Hs → Option Val
def tQ (F : Fm) (ℓ : Lv) (q : Q1) : TE := fun σ H Q => ∃ env h A x, SR F env h A σ H ∧ q env h = some x ∧ ∀ v H', Ex H H' → RV F ℓ h A H' x v → Q v H'
def tT (F : Fm) (t : En → Hs → Option Bool) : TT := fun σ H Q => ∃ env h A b, SR F env h A σ H ∧ t env h = some b ∧ ∀ H', Ex H H' → Q b H'
/-- a new list -/
def tF (F : Fm) (q : En → Hs → Option (List PyData)) : TE := fun σ H Q => ∃ env h A xs, SR F env h A σ H ∧ q env h = some xs ∧ ∀ p vs H', H p = none → Ex H H' → H' p = some (.lst vs) → RDs F .st H' xs vs → Q (.ref p) H'
/-- arguments -/
def tA (F : Fm) (ℓ : Lv) (q : En → Hs → Option (List Val)) : TA := fun σ H Q => ∃ env h A xs, SR F env h A σ H ∧ q env h = some xs ∧ ∀ vs H', Ex H H' → Paired (fun x v => RV F ℓ h A H' x v) xs vs → Q vs H'
theorem PEimp {X : Cx} {e : Expr} {t t' : TE} (h : PE X e t) (i : ∀ σ H Q, t' σ H Q → t σ H Q) : PE X e t' := ⟨fun pins s σ H Q I q => h.run pins s σ H Q I (i σ H Q q)⟩
theorem PTimp {X : Cx} {e : Expr} {t t' : TT} (h : PT X e t) (i : ∀ σ H Q, t' σ H Q → t σ H Q) : PT X e t' := ⟨fun pins s σ H Q I q => h.run pins s σ H Q I (i σ H Q q)⟩
theorem PWimp {X : Cx} {e : Expr} {t t' : TT} (h : PW X e t) (i : ∀ σ H Q, t' σ H Q → t σ H Q) : PW X e t' := ⟨fun wh pins s σ H Q I q => h.run wh pins s σ H Q I (i σ H Q q)⟩
theorem PAimp {X : Cx} {e : List Expr} {t t' : TA} (h : PA X e t) (i : ∀ σ H Q, t' σ H Q → t σ H Q) : PA X e t' := ⟨fun pos pins s σ H Q I q => h.run pos pins s σ H Q I (i σ H Q q)⟩

/-! ### the functions -/
def qV (i : Nat) : Q1 := fun env _ => match env[i]? with
  | some (.v x) => some x
  | some (.l xs) => some (.d (.list xs))
  | _ => none
def qVs (i : Nat) : Q1 := fun env _ => match env[i]? with
  | some (.v x) => some x
  | _ => none
def qC (x : Val) : Q1 := fun _ _ => some x
def q1 (g : Hs → Val → Option Val) (a : Q1) : Q1 := fun env h => (a env h).bind fun x => g h x
def q2 (g : Hs → Val → Val → Option Val) (a b : Q1) : Q1 := fun env h => (a env h).bind fun x => (b env h).bind fun y => g h x y
def qNl (a : Q1) : Q1 := fun env h => (a env h).bind fun x => match x with
  | .d d => if nl d = true then some (.d d) else none
  | x => some x
def qIf (t : En → Hs → Option Bool) (a b : Q1) : Q1 := fun env h => (t env h).bind fun c => if c = true then a env h else b env h
def aNil : En → Hs → Option (List Val) := fun _ _ => some []
def aCons (a : Q1) (r : En → Hs → Option (List Val)) : En → Hs → Option (List Val) := fun env h => (a env h).bind fun x => (r env h).bind fun xs => some (x :: xs)
def dOf : Val → Option PyData
  | .d d => some d
  | _ => none
def dsOf : List Val → Option (List PyData)
  | [] => some []
  | x :: xs => (dOf x).bind fun d => (dsOf xs).bind fun ds => some (d :: ds)
def qTup (a : En → Hs → Option (List Val)) : Q1 := fun env h => (a env h).bind fun xs => (dsOf xs).bind fun ds => if ds.length ≤ sizeLine then some (.d (.tuple ds)) else none
def fLst (a : En → Hs → Option (List Val)) : En → Hs → Option (List PyData) := fun env h => (a env h).bind fun xs => (dsOf xs).bind fun ds => if ds.length ≤ sizeLine then some ds else none
def qF (f : En → Hs → Option (List PyData)) : Q1 := fun env h => (f env h).bind fun xs => some (.d (.list xs))

section
variable {F : Fm} {X : Cx} {a b c e : Expr} {es : List Expr} {pos : Pos} {ℓ : Lv} {qa qb qc : Q1}
abbrev SimQ (X : Cx) (F : Fm) (ℓ : Lv) (e : Expr) (q : Q1) : Prop := PE X e (tQ F ℓ q)
abbrev SimT (X : Cx) (F : Fm) (e : Expr) (t : En → Hs → Option Bool) : Prop := PT X e (tT F t)
abbrev SimF (X : Cx) (F : Fm) (e : Expr) (q : En → Hs → Option (List PyData)) : Prop := PE X e (tF F q)
abbrev SimA (X : Cx) (F : Fm) (ℓ : Lv) (es : List Expr) (q : En → Hs → Option (List Val)) : Prop := PA X es (tA F ℓ q)

theorem bind_some {α β : Type} {o : Option α} {f : α → Option β} {y : β} (h : o.bind f = some y) : ∃ x, o = some x ∧ f x = some y := Option.bind_eq_some_iff.mp h

/-- a name, for a moment -/
theorem sq_v (i : Nat) {x : Str} {pos : Pos} (hN : X.N[i]? = some x := by rfl) (hv : Vis X.env.scope x := by first | exact Or.inl rfl | exact Or.inr (Or.inl rfl) | exact Or.inr (Or.inr rfl)) (hd : (x == ("__debug__" : Str)) = false := by decide)
    (hcd : (x == ("__classdict__" : Str)) = false := by decide) : SimQ X F .mo (.Name x pos) (qV i) := by
  refine PEimp (pe_var hN hv hd hcd) fun σ H Q ⟨env, h, A, x, R, e, k⟩ => ?_
  unfold qV at e
  split at e
  · next y hy =>
    cases e
    obtain ⟨v, e1, r⟩ := R.sl i _ hy
    refine ⟨v, ?_, k v H (Ex.refl H) (RV.mo (ℓ := .fs) R r)⟩
    cases hs : σ[i]? with
    | none => rw [hs] at e1; cases e1
    | some o => rw [hs] at e1; exact congrArg some e1
  · next xs hy =>
    cases e
    obtain ⟨e1, vs, e2, r⟩ := R.sl i _ hy
    refine ⟨.ref (A (.s i)), ?_, k _ H (Ex.refl H) ?_⟩
    · cases hs : σ[i]? with
      | none => rw [hs] at e1; cases e1
      | some o => rw [hs] at e1; exact congrArg some e1
    · show Rep _ _ (.list xs) _
      simp only [Rep]
      exact ⟨_, vs, rfl, .inl (.inl e2), RepAll.mono (fun _ _ z => z) (fun _ _ z => SL.sq z) _ _ r⟩
  · cases e
/-- a name that holds a value -/
theorem sq_vs (i : Nat) {x : Str} {pos : Pos} (hN : X.N[i]? = some x := by rfl) (hv : Vis X.env.scope x := by first | exact Or.inl rfl | exact Or.inr (Or.inl rfl) | exact Or.inr (Or.inr rfl)) (hd : (x == ("__debug__" : Str)) = false := by decide)
    (hcd : (x == ("__classdict__" : Str)) = false := by decide) : SimQ X F .fs (.Name x pos) (qVs i) := by
  refine PEimp (pe_var hN hv hd hcd) fun σ H Q ⟨env, h, A, x, R, e, k⟩ => ?_
  unfold qVs at e
  split at e
  · next y hy =>
    cases e
    obtain ⟨v, e1, r⟩ := R.sl i _ hy
    refine ⟨v, ?_, k v H (Ex.refl H) r⟩
    cases hs : σ[i]? with
    | none => rw [hs] at e1; cases e1
    | some o => rw [hs] at e1; exact congrArg some e1
  · cases e
theorem sq_c {x : Val} {v : V} (h : PE X e (tC v)) (r : ∀ n A T L, RepV F.G T L n A x v) : SimQ X F ℓ e (qC x) := PEimp h fun σ H Q ⟨env, hs, A, y, R, e, k⟩ => by
  cases e
  exact k v H (Ex.refl H) (r _ _ _ _)
theorem sq_int {i : Int} {j : Nat} : SimQ X F ℓ (.Constant (.int i) j pos) (qC (.d (.int i))) := sq_c pe_int fun _ _ _ _ => by simp [RepV, Rep]
theorem sq_bl {i : Bool} {j : Nat} : SimQ X F ℓ (.Constant (.bool i) j pos) (qC (.d (.bool i))) := sq_c pe_bl fun _ _ _ _ => by simp [RepV, Rep]
theorem sq_non {j : Nat} : SimQ X F ℓ (.Constant .none j pos) (qC (.d .none)) := sq_c pe_non fun _ _ _ _ => by simp [RepV, Rep]
theorem sq_str {i : Str} {j : Nat} : SimQ X F ℓ (.Constant (.str i) j pos) (qC (.d (.str i))) := sq_c pe_str fun _ _ _ _ => by simp [RepV, Rep]

/-- operations on values -/
def Op1 (F : Fm) (ℓ₁ ℓ : Lv) (r : V → Hp → VK → Prop) (g : Hs → Val → Option Val) : Prop :=
  ∀ env h A σ H x v z, SR F env h A σ H → RV F ℓ₁ h A H x v → g h x = some z → ∀ Q : VK, (∀ v' H', Ex H H' → RV F ℓ h A H' z v' → Q v' H') → r v H Q
def Op2 (F : Fm) (ℓ₁ ℓ₂ ℓ : Lv) (r : R2) (g : Hs → Val → Val → Option Val) : Prop :=
  ∀ env h A σ H x y v u z, SR F env h A σ H → RV F ℓ₁ h A H x v → RV F ℓ₂ h A H y u → g h x y = some z → ∀ Q : VK, (∀ v' H', Ex H H' → RV F ℓ h A H' z v' → Q v' H') → r v u H Q
/-- an operation of the machine and its function -/
def BinS (X : Cx) (F : Fm) (ℓ₁ ℓ₂ ℓ : Lv) (f : Value → Value → Sem Value) (g : Hs → Val → Val → Option Val) : Prop := ∃ r, OpR X f r ∧ Op2 F ℓ₁ ℓ₂ ℓ r g
theorem tOp_q {ℓ₁ ℓ₂ : Lv} {r : R2} {g : Hs → Val → Val → Option Val} (o : Op2 F ℓ₁ ℓ₂ ℓ r g) {σ : L2.St} {H : Hp} {Q : VK} (hq : tQ F ℓ (q2 g qa qb) σ H Q) : tOp r (tQ F ℓ₁ qa) (tQ F ℓ₂ qb) σ H Q := by
  obtain ⟨env, h, A, z, R, e, k⟩ := hq
  obtain ⟨x, ex, e⟩ := bind_some e
  obtain ⟨y, ey, e⟩ := bind_some e
  refine ⟨env, h, A, x, R, ex, fun v H1 e1 rv => ?_⟩
  refine ⟨env, h, A, y, R.ex e1, ey, fun u H2 e2 ru => ?_⟩
  exact o env h A σ H2 x y v u z ((R.ex e1).ex e2) (rv.ex e2) ru e Q fun v' H' e3 rz => k v' H' ((e1.trans e2).trans e3) rz
theorem tUn_q {ℓ₁ : Lv} {r : V → Hp → VK → Prop} {g : Hs → Val → Option Val} (o : Op1 F ℓ₁ ℓ r g) {σ : L2.St} {H : Hp} {Q : VK} (hq : tQ F ℓ (q1 g qa) σ H Q) : tUn r (tQ F ℓ₁ qa) σ H Q := by
  obtain ⟨env, h, A, z, R, e, k⟩ := hq
  obtain ⟨x, ex, e⟩ := bind_some e
  refine ⟨env, h, A, x, R, ex, fun v H1 e1 rv => ?_⟩
  exact o env h A σ H1 x v z (R.ex e1) rv e Q fun v' H' e3 rz => k v' H' (e1.trans e3) rz
theorem sq_bin {ℓ₁ ℓ₂ : Lv} {op : Operator} {g : Hs → Val → Val → Option Val} (o : BinS X F ℓ₁ ℓ₂ ℓ (binaryOp op) g) (ha : SimQ X F ℓ₁ a qa) (hb : SimQ X F ℓ₂ b qb) : SimQ X F ℓ (.BinOp a op b pos) (q2 g qa qb) := by
  obtain ⟨r, h1, h2⟩ := o
  exact PEimp (pe_op h1 ha hb) fun _ _ _ => tOp_q h2
theorem sq_cmp {ℓ₁ ℓ₂ : Lv} {op : CmpOp} {g : Hs → Val → Val → Option Val} (o : BinS X F ℓ₁ ℓ₂ ℓ (compareOp op) g) (ha : SimQ X F ℓ₁ a qa) (hb : SimQ X F ℓ₂ b qb) (hm : behindInMarks op b = false) : SimQ X F ℓ (.Compare a [op] [b] pos) (q2 g qa qb) := by
  obtain ⟨r, h1, h2⟩ := o
  exact PEimp (pe_cmpR h1 ha hb hm) fun _ _ _ => tOp_q h2
theorem sq_un {ℓ₁ : Lv} {op : UnaryOp} {r : V → Hp → VK → Prop} {g : Hs → Val → Option Val} (h1 : UnR X (unaryOp op) r) (h2 : Op1 F ℓ₁ ℓ r g) (ha : SimQ X F ℓ₁ a qa) : SimQ X F ℓ (.UnaryOp op a pos) (q1 g qa) := PEimp (pe_un h1 ha) fun _ _ _ => tUn_q h2
theorem sq_ix {ℓ₁ ℓ₂ : Lv} {r : R2} {g : Hs → Val → Val → Option Val} (h1 : IxR X r) (h2 : Op2 F ℓ₁ ℓ₂ ℓ r g) (ha : SimQ X F ℓ₁ a qa) (hb : SimQ X F ℓ₂ b qb) (hs : PlainIx b) : SimQ X F ℓ (.Subscript a b pos) (q2 g qa qb) :=
  PEimp (pe_ix h1 ha hb hs) fun _ _ _ => tOp_q h2
/-- no list within: for ever -/
theorem sq_nl {ℓ₁ : Lv} (ha : SimQ X F ℓ₁ a qa) : SimQ X F ℓ a (qNl qa) := PEimp ha fun σ H Q ⟨env, h, A, z, R, e, k⟩ => by
  obtain ⟨x, ex, e⟩ := bind_some e
  refine ⟨env, h, A, x, R, ex, fun v H1 e1 rv => ?_⟩
  cases x with
  | d d =>
    simp only at e
    split at e
    · next hn => cases e; exact k v H1 e1 (Rep.nl d v hn rv)
    · cases e
  | ref n => cases e; exact k v H1 e1 rv
  | fn n => cases e; exact k v H1 e1 rv
theorem sq_mo {ℓ₁ : Lv} (ha : SimQ X F ℓ₁ a qa) : SimQ X F .mo a qa := PEimp ha fun σ H Q ⟨env, h, A, z, R, e, k⟩ =>
  ⟨env, h, A, z, R, e, fun v H1 e1 rv => k v H1 e1 (RV.mo (R.ex e1) rv)⟩
theorem sq_st (ha : SimQ X F .st a qa) : SimQ X F ℓ a qa := PEimp ha fun σ H Q ⟨env, h, A, z, R, e, k⟩ =>
  ⟨env, h, A, z, R, e, fun v H1 e1 rv => k v H1 e1 rv.of_st⟩
theorem sq_if {t : En → Hs → Option Bool} (hc : SimT X F c t) (ha : SimQ X F ℓ a qa) (hb : SimQ X F ℓ b qb) : SimQ X F ℓ (.IfExp c a b pos) (qIf t qa qb) := PEimp (pe_ifExp hc ha hb) fun σ H Q ⟨env, h, A, z, R, e, k⟩ => by
  obtain ⟨d, ed, e⟩ := bind_some e
  refine ⟨env, h, A, d, R, ed, fun H1 e1 => ?_⟩
  cases d with
  | true => exact ⟨env, h, A, z, R.ex e1, e, fun v H2 e2 rv => k v H2 (e1.trans e2) rv⟩
  | false => exact ⟨env, h, A, z, R.ex e1, e, fun v H2 e2 rv => k v H2 (e1.trans e2) rv⟩

/-! ### arguments, displays -/
theorem sa_nil : SimA X F ℓ [] aNil := PAimp pa_nil fun σ H Q ⟨env, h, A, xs, R, e, k⟩ => by
  cases e
  exact k [] H (Ex.refl H) .nil
theorem Paired.imp {α β : Type} {f g : α → β → Prop} (i : ∀ x y, f x y → g x y) : ∀ {l : List α} {m : List β}, Paired f l m → Paired g l m
  | _, _, .nil => .nil
  | _, _, .cons r t => .cons (i _ _ r) (Paired.imp i t)
theorem sa_cons {r : En → Hs → Option (List Val)} (ha : SimQ X F ℓ e qa) (hr : SimA X F ℓ es r) (hs : starEach (e :: es) X.env = (false, eval e X.env) :: starEach es X.env := by rfl) : SimA X F ℓ (e :: es) (aCons qa r) :=
  PAimp (pa_cons ha hr hs) fun σ H Q ⟨env, h, A, xs, R, e, k⟩ => by
    obtain ⟨x, ex, e⟩ := bind_some e
    obtain ⟨ys, ey, e⟩ := bind_some e
    cases e
    exact ⟨env, h, A, x, R, ex, fun v H1 e1 rv => ⟨env, h, A, ys, R.ex e1, ey, fun vs H2 e2 rs => k _ H2 (e1.trans e2) (.cons (rv.ex e2) rs)⟩⟩
theorem ds_rep {h : Hs} {A : As} {H : Hp} : ∀ {xs : List Val} {ds : List PyData} {vs : List V}, dsOf xs = some ds → Paired (fun x v => RV F ℓ h A H x v) xs vs → RDs F ℓ H ds vs
  | [], _, _, e, r => by
    cases e
    cases r
    exact .nil
  | x :: xs, _, _, e, r => by
    obtain ⟨d, ed, e⟩ := bind_some e
    obtain ⟨ds, es, e⟩ := bind_some e
    cases e
    cases r with
    | cons r1 r2 =>
      cases x with
      | d y => cases ed; exact .cons r1 (ds_rep es r2)
      | ref n => cases ed
      | fn n => cases ed
theorem sq_tup {k : Nat} {r : En → Hs → Option (List Val)} (hr : SimA X F ℓ es r) : SimQ X F ℓ (.Tuple es k pos) (qTup r) := PEimp (pe_tup hr) fun σ H Q ⟨env, h, A, z, R, e, k⟩ => by
  obtain ⟨xs, ex, e⟩ := bind_some e
  obtain ⟨ds, ed, e⟩ := bind_some e
  split at e
  · next hl =>
    cases e
    refine ⟨env, h, A, xs, R, ex, fun vs H1 e1 rs => ?_⟩
    have rd := ds_rep ed rs
    refine ⟨by rw [rd.len]; exact hl, fun p hp => k _ _ (e1.trans (Ex.new hp)) ?_⟩
    show Rep _ _ (.tuple ds) _
    simp only [Rep]
    exact ⟨p, vs, rfl, .inl (.inl upd_same), RDs.ex (Ex.new hp) rd⟩
  · cases e
theorem sf_lst {r : En → Hs → Option (List Val)} (hr : SimA X F .st es r) : SimF X F (.List es pos) (fLst r) := PEimp (pe_lst hr) fun σ H Q ⟨env, h, A, z, R, e, k⟩ => by
  obtain ⟨xs, ex, e⟩ := bind_some e
  obtain ⟨ds, ed, e⟩ := bind_some e
  split at e
  · next hl =>
    cases e
    refine ⟨env, h, A, xs, R, ex, fun vs H1 e1 rs => ?_⟩
    have rd := ds_rep ed rs
    refine ⟨by rw [rd.len]; exact hl, fun p hp => k p vs _ ?_ (e1.trans (Ex.new hp)) upd_same (RDs.ex (Ex.new hp) rd)⟩
    exact fresh_back e1 hp
  · cases e
/-- a new list, for a moment -/
theorem sq_f {f : En → Hs → Option (List PyData)} (hf : SimF X F e f) : SimQ X F .mo e (qF f) := PEimp hf fun σ H Q ⟨env, h, A, z, R, e, k⟩ => by
  obtain ⟨xs, ex, e⟩ := bind_some e
  cases e
  refine ⟨env, h, A, xs, R, ex, fun p vs H1 hp e1 hv rs => k _ H1 e1 ?_⟩
  show Rep _ _ (.list xs) _
  simp only [Rep]
  exact ⟨p, vs, rfl, .inl (.inl hv), RDs.of_st (ℓ := .mo) rs⟩
end
end Sm

set_option Elab.async false
set_option linter.all false
set_option maxRecDepth 100000
set_option maxHeartbeats 1000000
namespace Sm
open PySem L2 Evl

/-! ### tests -/
def gTru : PyData → Option Bool
  | .none => some false
  | .bool b => some b
  | .int i => some (i != 0)
  | .str s => if s.length ≤ sizeLine then some ((s.length : Int) != 0) else none
  | .list xs => some (!xs.isEmpty)
  | .tuple xs => some (!xs.isEmpty)
  | .dict _ => none
abbrev T1 := En → Hs → Option Bool
def tV (q : Q1) : T1 := fun env h => (q env h).bind fun x => match x with
  | .d d => gTru d
  | _ => none
def tAndF (a b : T1) : T1 := fun env h => (a env h).bind fun c => if c = true then b env h else some false
def tOrF (a b : T1) : T1 := fun env h => (a env h).bind fun c => if c = true then some true else b env h
def tNotF (a : T1) : T1 := fun env h => (a env h).bind fun c => some (!c)
def qT (t : T1) : Q1 := fun env h => (t env h).bind fun b => some (.d (.bool b))
def qAnd (a b : Q1) : Q1 := fun env h => (a env h).bind fun x => match x with
  | .d (.bool c) => if c = true then b env h else some (.d (.bool false))
  | _ => none
def qOr (a b : Q1) : Q1 := fun env h => (a env h).bind fun x => match x with
  | .d (.bool c) => if c = true then some (.d (.bool true)) else b env h
  | _ => none
def qNot (a : Q1) : Q1 := fun env h => (a env h).bind fun x => match x with
  | .d d => (gTru d).bind fun c => some (.d (.bool (!c)))
  | _ => none
section
variable {F : Fm} {X : Cx} {a b c e : Expr} {es rest : List Expr} {pos : Pos} {ℓ : Lv} {qa qb qc : Q1} {ta tb : T1} {env : En} {h : Hs} {A : As} {σ : L2.St} {H : Hp}
theorem rep_int {T L : LP} {i : Int} {v : V} (r : Rep T L (.int i) v) : v = .int i := by simpa [Rep] using r
theorem rep_str {T L : LP} {i : Str} {v : V} (r : Rep T L (.str i) v) : v = .str i := by simpa [Rep] using r
theorem rep_bool {T L : LP} {i : Bool} {v : V} (r : Rep T L (.bool i) v) : v = .bl i := by simpa [Rep] using r
theorem rep_tup {T L : LP} {ds : List PyData} {v : V} (r : Rep T L (.tuple ds) v) : ∃ a vs, v = .ref a ∧ T a vs ∧ RepAll T L ds vs := by simpa [Rep] using r
theorem rep_list {T L : LP} {ds : List PyData} {v : V} (r : Rep T L (.list ds) v) : ∃ a vs, v = .ref a ∧ L a vs ∧ RepAll T L ds vs := by simpa [Rep] using r
theorem rep_tup_mk {T L : LP} {ds : List PyData} {a : Addr} {vs : List V} (t : T a vs) (r : RepAll T L ds vs) : Rep T L (.tuple ds) (.ref a) := by
  simp only [Rep]; exact ⟨a, vs, rfl, t, r⟩
theorem rep_list_mk {T L : LP} {ds : List PyData} {a : Addr} {vs : List V} (t : L a vs) (r : RepAll T L ds vs) : Rep T L (.list ds) (.ref a) := by
  simp only [Rep]; exact ⟨a, vs, rfl, t, r⟩
theorem mk_int {T L : LP} {i : Int} : Rep T L (.int i) (.int i) := by simp [Rep]
theorem mk_bool {T L : LP} {i : Bool} : Rep T L (.bool i) (.bl i) := by simp [Rep]
theorem mk_str {T L : LP} {i : Str} : Rep T L (.str i) (.str i) := by simp [Rep]
theorem mk_none {T L : LP} : Rep T L .none .non := by simp [Rep]

theorem vi {i : Int} : RV F ℓ h A H (.d (.int i)) (.int i) := mk_int (T := SqT F.G.K H) (L := LPof F H ℓ)
theorem vb {i : Bool} : RV F ℓ h A H (.d (.bool i)) (.bl i) := mk_bool (T := SqT F.G.K H) (L := LPof F H ℓ)
theorem vs {i : Str} : RV F ℓ h A H (.d (.str i)) (.str i) := mk_str (T := SqT F.G.K H) (L := LPof F H ℓ)
theorem vn : RV F ℓ h A H (.d .none) .non := mk_none (T := SqT F.G.K H) (L := LPof F H ℓ)
theorem vt {ds : List PyData} {a : Addr} {us : List V} (t : SqT F.G.K H a us) (r : RDs F ℓ H ds us) : RV F ℓ h A H (.d (.tuple ds)) (.ref a) := rep_tup_mk (T := SqT F.G.K H) (L := LPof F H ℓ) t r
theorem vl {ds : List PyData} {a : Addr} {us : List V} (t : LPof F H ℓ a us) (r : RDs F ℓ H ds us) : RV F ℓ h A H (.d (.list ds)) (.ref a) := rep_list_mk (T := SqT F.G.K H) (L := LPof F H ℓ) t r
theorem ri {i : Int} {v : V} (r : RV F ℓ h A H (.d (.int i)) v) : v = .int i := rep_int (T := SqT F.G.K H) (L := LPof F H ℓ) r
theorem rn {v : V} (r : RV F ℓ h A H (.d .none) v) : v = .non := by
  have r' : Rep (SqT F.G.K H) (LPof F H ℓ) .none v := r
  simpa [Rep] using r'
theorem rs {i : Str} {v : V} (r : RV F ℓ h A H (.d (.str i)) v) : v = .str i := rep_str (T := SqT F.G.K H) (L := LPof F H ℓ) r
theorem rb {i : Bool} {v : V} (r : RV F ℓ h A H (.d (.bool i)) v) : v = .bl i := rep_bool (T := SqT F.G.K H) (L := LPof F H ℓ) r
theorem rt {ds : List PyData} {v : V} (r : RV F ℓ h A H (.d (.tuple ds)) v) : ∃ a us, v = .ref a ∧ SqT F.G.K H a us ∧ RDs F ℓ H ds us := rep_tup (T := SqT F.G.K H) (L := LPof F H ℓ) r
theorem rl {ds : List PyData} {v : V} (r : RV F ℓ h A H (.d (.list ds)) v) : ∃ a us, v = .ref a ∧ LPof F H ℓ a us ∧ RDs F ℓ H ds us := rep_list (T := SqT F.G.K H) (L := LPof F H ℓ) r
theorem isEmpty_len {α β : Type} {xs : List α} {ys : List β} (h : xs.length = ys.length) : xs.isEmpty = ys.isEmpty := by
  cases xs <;> cases ys <;> simp_all
theorem truV_of {d : PyData} {v : V} {k : Bool} (r : RD F .mo H d v) (e : gTru d = some k) : TruV F.G.K v H k := by
  cases d with
  | none => simp only [Rep] at r; subst r; cases e; rfl
  | bool b => simp only [Rep] at r; subst r; cases e; rfl
  | int i => simp only [Rep] at r; subst r; cases e; rfl
  | str s =>
    simp only [Rep] at r; subst r
    simp only [gTru] at e
    split at e
    · next hs => cases e; exact ⟨hs, rfl⟩
    · cases e
  | list xs =>
    simp only [Rep] at r
    obtain ⟨a, vs, rfl, q, rs⟩ := r
    cases e
    exact .inl ⟨vs, q, by rw [isEmpty_len rs.len]⟩
  | tuple xs =>
    simp only [Rep] at r
    obtain ⟨a, vs, rfl, q, rs⟩ := r
    cases e
    exact .inr (.inl ⟨vs, q, by rw [isEmpty_len rs.len]⟩)
  | dict _ => cases e
theorem RV.data {d : PyData} {v : V} (r : RV F ℓ h A H (.d d) v) : RD F ℓ H d v := r
theorem st_v (hK : X.K = F.G.K) (ha : SimQ X F .mo a qa) (he : ∀ whole, isTrue a X.env whole = (do let v ← whole; standAt a.pos; holding [v] (truthy v)) := by intro _; rfl) : SimT X F a (tV qa) := PTimp (pt_truth ha he) fun σ H Q ⟨env, h, A, k, R, e, q⟩ => by
  obtain ⟨x, ex, e⟩ := bind_some e
  refine ⟨env, h, A, x, R, ex, fun v H1 e1 rv => ⟨k, ?_, q H1 e1⟩⟩
  cases x with
  | d d => rw [hK]; exact truV_of rv e
  | ref n => cases e
  | fn n => cases e
theorem st_cmp {ℓ₁ ℓ₂ : Lv} {op : CmpOp} {g : Hs → Val → Val → Option Val} (o : BinS X F ℓ₁ ℓ₂ .st (compareOp op) g) (ha : SimQ X F ℓ₁ a qa) (hb : SimQ X F ℓ₂ b qb) (hm : behindInMarks op b = false) (hg : ∀ h x y z, g h x y = some z → ∃ k, z = .d (.bool k)) :
    SimT X F (.Compare a [op] [b] pos) (tV (q2 g qa qb)) := by
  obtain ⟨r, h1, h2⟩ := o
  refine PTimp (pt_cmpR h1 ha hb hm) fun σ H Q ⟨env, h, A, k, R, e, q⟩ => ?_
  obtain ⟨x, ex, e⟩ := bind_some e
  refine tOp_q h2 ⟨env, h, A, x, R, ex, fun v H1 e1 rv => ?_⟩
  obtain ⟨_, _, ex⟩ := bind_some ex
  obtain ⟨_, _, ex⟩ := bind_some ex
  obtain ⟨c, rfl⟩ := hg _ _ _ _ ex
  cases e
  have rv := rb rv
  exact ⟨k, rv, q H1 e1⟩
theorem sw_and1 (ha : SimT X F a ta) : PW X (.BoolOp .And [a] pos) (tT F ta) := pw_and1 ha
theorem sw_or1 (ha : SimT X F a ta) : PW X (.BoolOp .Or [a] pos) (tT F ta) := pw_or1 ha
theorem sw_and (ha : SimT X F a ta) (hb : PW X (.BoolOp .And (b :: rest) pos) (tT F tb)) : PW X (.BoolOp .And (a :: b :: rest) pos) (tT F (tAndF ta tb)) := PWimp (pw_and ha hb) fun σ H Q ⟨env, h, A, k, R, e, q⟩ => by
  obtain ⟨c, ec, e⟩ := bind_some e
  refine ⟨env, h, A, c, R, ec, fun H1 e1 => ?_⟩
  cases c with
  | true => exact ⟨env, h, A, k, R.ex e1, e, fun H2 e2 => q H2 (e1.trans e2)⟩
  | false => cases e; exact q H1 e1
theorem sw_or (ha : SimT X F a ta) (hb : PW X (.BoolOp .Or (b :: rest) pos) (tT F tb)) : PW X (.BoolOp .Or (a :: b :: rest) pos) (tT F (tOrF ta tb)) := PWimp (pw_or ha hb) fun σ H Q ⟨env, h, A, k, R, e, q⟩ => by
  obtain ⟨c, ec, e⟩ := bind_some e
  refine ⟨env, h, A, c, R, ec, fun H1 e1 => ?_⟩
  cases c with
  | false => exact ⟨env, h, A, k, R.ex e1, e, fun H2 e2 => q H2 (e1.trans e2)⟩
  | true => cases e; exact q H1 e1
theorem st_not (ha : SimT X F a ta) : SimT X F (.UnaryOp .Not a pos) (tNotF ta) := PTimp (pt_not ha) fun σ H Q ⟨env, h, A, k, R, e, q⟩ => by
  obtain ⟨c, ec, e⟩ := bind_some e
  cases e
  exact ⟨env, h, A, c, R, ec, fun H1 e1 => q H1 e1⟩
theorem sq_one {op : BoolOp} (ha : SimQ X F ℓ a qa) : SimQ X F ℓ (.BoolOp op [a] pos) qa := pe_one ha
theorem sq_and (ha : SimQ X F ℓ a qa) (hb : SimQ X F ℓ (.BoolOp .And (b :: rest) pos) qb) : SimQ X F ℓ (.BoolOp .And (a :: b :: rest) pos) (qAnd qa qb) := PEimp (pe_and ha hb) fun σ H Q ⟨env, h, A, z, R, e, k⟩ => by
  obtain ⟨x, ex, e⟩ := bind_some e
  refine ⟨env, h, A, x, R, ex, fun v H1 e1 rv => ?_⟩
  split at e
  · next c =>
    have rv := rb rv
    refine ⟨c, rv, ?_⟩
    cases c with
    | true => exact ⟨env, h, A, z, R.ex e1, e, fun v H2 e2 rv => k v H2 (e1.trans e2) rv⟩
    | false => cases e; exact k _ H1 e1 vb
  · cases e
theorem sq_or (ha : SimQ X F ℓ a qa) (hb : SimQ X F ℓ (.BoolOp .Or (b :: rest) pos) qb) : SimQ X F ℓ (.BoolOp .Or (a :: b :: rest) pos) (qOr qa qb) := PEimp (pe_or ha hb) fun σ H Q ⟨env, h, A, z, R, e, k⟩ => by
  obtain ⟨x, ex, e⟩ := bind_some e
  refine ⟨env, h, A, x, R, ex, fun v H1 e1 rv => ?_⟩
  split at e
  · next c =>
    have rv := rb rv
    refine ⟨c, rv, ?_⟩
    cases c with
    | false => exact ⟨env, h, A, z, R.ex e1, e, fun v H2 e2 rv => k v H2 (e1.trans e2) rv⟩
    | true => cases e; exact k _ H1 e1 vb
  · cases e
theorem sq_not (hK : X.K = F.G.K) (ha : SimQ X F .mo a qa) : SimQ X F ℓ (.UnaryOp .Not a pos) (qNot qa) := PEimp (pe_notT ha) fun σ H Q ⟨env, h, A, z, R, e, k⟩ => by
  obtain ⟨x, ex, e⟩ := bind_some e
  refine ⟨env, h, A, x, R, ex, fun v H1 e1 rv => ?_⟩
  split at e
  · next d =>
    obtain ⟨c, ec, e⟩ := bind_some e
    cases e
    exact ⟨c, by rw [hK]; exact truV_of rv ec, k _ H1 e1 vb⟩
  · cases e

/-- two ints in, an int out -/
def gI (C : Int → Int → Bool) (g : Int → Int → Int) : Hs → Val → Val → Option Val := fun _ x y => match x, y with
  | .d (.int i), .d (.int j) => if C i j = true then some (.d (.int (g i j))) else none
  | _, _ => none
theorem op2_I {ℓ₁ ℓ₂ : Lv} {C : Int → Int → Prop} {Cb : Int → Int → Bool} {g : Int → Int → Int} (hC : ∀ i j, Cb i j = true → C i j) : Op2 F ℓ₁ ℓ₂ ℓ (rI C fun i j => .int (g i j)) (gI Cb g) := by
  intro env h A σ H x y v u z R rx ry e Q k
  unfold gI at e
  split at e
  · next i j =>
    split at e
    · next hc =>
      cases e
      cases ri rx
      cases ri ry
      exact ⟨i, j, rfl, rfl, hC i j hc, k _ H (Ex.refl H) vi⟩
    · cases e
  · cases e
def gI0 (g : Int → Int → Int) : Hs → Val → Val → Option Val := fun _ x y => match x, y with
  | .d (.int i), .d (.int j) => some (.d (.int (g i j)))
  | _, _ => none
theorem op2_I0 {ℓ₁ ℓ₂ : Lv} {g : Int → Int → Int} : Op2 F ℓ₁ ℓ₂ ℓ (rI0 fun i j => .int (g i j)) (gI0 g) := by
  intro env h A σ H x y v u z R rx ry e Q k
  unfold gI0 at e
  split at e
  · next i j =>
    cases e
    cases ri rx
    cases ri ry
    exact ⟨i, j, rfl, rfl, k _ H (Ex.refl H) vi⟩
  · cases e
def gB0 (g : Int → Int → Bool) : Hs → Val → Val → Option Val := fun _ x y => match x, y with
  | .d (.int i), .d (.int j) => some (.d (.bool (g i j)))
  | _, _ => none
theorem op2_B0 {ℓ₁ ℓ₂ : Lv} {g : Int → Int → Bool} : Op2 F ℓ₁ ℓ₂ ℓ (rI0 fun i j => .bl (g i j)) (gB0 g) := by
  intro env h A σ H x y v u z R rx ry e Q k
  unfold gB0 at e
  split at e
  · next i j =>
    cases e
    cases ri rx
    cases ri ry
    exact ⟨i, j, rfl, rfl, k _ H (Ex.refl H) vb⟩
  · cases e
theorem gB0_b {g : Int → Int → Bool} : ∀ h x y z, gB0 g h x y = some z → ∃ k, z = .d (.bool k) := by
  intro h x y z e
  unfold gB0 at e
  split at e
  · cases e; exact ⟨_, rfl⟩
  · cases e
abbrev gSub := gI0 fun i j => i - j
/-- a product: one factor below 2 ^ 64, or both together short -/
def cMul (i j : Int) : Bool := (decide (i.natAbs < 2 ^ 64) || decide (j.natAbs < 2 ^ 64)) || decide (i.natAbs.log2 + j.natAbs.log2 < 1000000)
abbrev gMul := gI cMul fun i j => i * j
def cDiv (_ j : Int) : Bool := decide (0 < j) && decide (j.natAbs.log2 < 9000)
abbrev gDiv := gI cDiv fun i j => i / j
abbrev gMod := gI (fun _ j => decide (0 < j)) fun i j => i % j
def cPow (i j : Int) : Bool := decide (0 ≤ j) && decide (j ≤ 1000000) && decide (i.natAbs < 2 ^ 64)
abbrev gPow := gI cPow fun i j => i ^ j.toNat
abbrev gShl := gI cPow fun i j => i * 2 ^ j.toNat
abbrev gLt := gB0 fun i j => decide (i < j)
abbrev gLe := gB0 fun i j => decide (i ≤ j)
abbrev gGt := gB0 fun i j => decide (j < i)
abbrev gGe := gB0 fun i j => decide (j ≤ i)
theorem o_sub {ℓ₁ ℓ₂ : Lv} : BinS X F ℓ₁ ℓ₂ ℓ (binaryOp .Sub) gSub := ⟨_, op_sub, op2_I0⟩
theorem op_mulA : OpR X (binaryOp .Mult) (rI (fun i j => IntMulOk i j) fun i j => .int (i * j)) := opI fun _ _ _ _ _ _ _ hc q => PyProof.Rows.mul_int q hc
theorem o_mul {ℓ₁ ℓ₂ : Lv} : BinS X F ℓ₁ ℓ₂ ℓ (binaryOp .Mult) gMul := ⟨_, op_mulA, op2_I fun i j hc => by
  unfold cMul at hc
  simp only [Bool.or_eq_true, decide_eq_true_eq] at hc
  rcases hc with (hc | hc) | hc
  · exact CMul.ok (.inl ⟨by omega, by omega⟩)
  · exact CMul.ok (.inr ⟨by omega, by omega⟩)
  · exact CMulW.ok hc⟩
theorem o_div {ℓ₁ ℓ₂ : Lv} : BinS X F ℓ₁ ℓ₂ ℓ (binaryOp .FloorDiv) gDiv := ⟨_, op_fdivW, op2_I fun i j hc => by
  unfold cDiv at hc
  simp only [Bool.and_eq_true, decide_eq_true_eq] at hc
  exact hc⟩
theorem o_mod {ℓ₁ ℓ₂ : Lv} : BinS X F ℓ₁ ℓ₂ ℓ (binaryOp .Mod) gMod := ⟨_, op_mod, op2_I fun i j hc => by simpa using hc⟩
theorem o_pow {ℓ₁ ℓ₂ : Lv} : BinS X F ℓ₁ ℓ₂ ℓ (binaryOp .Pow) gPow := ⟨_, op_pow, op2_I fun i j hc => by
  unfold cPow at hc
  simp only [Bool.and_eq_true, decide_eq_true_eq] at hc
  exact ⟨hc.1.1, hc.1.2, hc.2⟩⟩
theorem o_shl {ℓ₁ ℓ₂ : Lv} : BinS X F ℓ₁ ℓ₂ ℓ (binaryOp .LShift) gShl := ⟨_, op_shl, op2_I fun i j hc => by
  unfold cPow at hc
  simp only [Bool.and_eq_true, decide_eq_true_eq] at hc
  exact ⟨hc.1.1, hc.1.2, hc.2⟩⟩
theorem o_lt {ℓ₁ ℓ₂ : Lv} : BinS X F ℓ₁ ℓ₂ ℓ (compareOp .Lt) gLt := ⟨_, op_lt, op2_B0⟩
theorem o_le {ℓ₁ ℓ₂ : Lv} : BinS X F ℓ₁ ℓ₂ ℓ (compareOp .LtE) gLe := ⟨_, op_le, op2_B0⟩
theorem o_gt {ℓ₁ ℓ₂ : Lv} : BinS X F ℓ₁ ℓ₂ ℓ (compareOp .Gt) gGt := ⟨_, op_gt, op2_B0⟩
theorem o_ge {ℓ₁ ℓ₂ : Lv} : BinS X F ℓ₁ ℓ₂ ℓ (compareOp .GtE) gGe := ⟨_, op_ge, op2_B0⟩
def gNeg : Hs → Val → Option Val := fun _ x => match x with
  | .d (.int i) => some (.d (.int (-i)))
  | _ => none
theorem sq_neg {ℓ₁ : Lv} (ha : SimQ X F ℓ₁ a qa) : SimQ X F ℓ (.UnaryOp .USub a pos) (q1 gNeg qa) := sq_un un_neg (fun env h A σ H x v z R rx e Q k => by
  unfold gNeg at e
  split at e
  · next i => cases e; cases ri rx; exact ⟨i, rfl, k _ H (Ex.refl H) vi⟩
  · cases e) ha

/-- + of ints, texts, tuples -/
def gAdd : Hs → Val → Val → Option Val := fun _ x y => match x, y with
  | .d (.int i), .d (.int j) => some (.d (.int (i + j)))
  | .d (.str s), .d (.str t) => if s.length + t.length ≤ sizeLine then some (.d (.str (s ++ t))) else none
  | .d (.tuple xs), .d (.tuple ys) => if xs.length + ys.length ≤ sizeLine then some (.d (.tuple (xs ++ ys))) else none
  | _, _ => none
def rAddA (K : PySem.W.Frag) : R2 := fun x y H Q => (∃ i j, x = .int i ∧ y = .int j ∧ Q (.int (i + j)) H) ∨ ((∃ i j, x = .str i ∧ y = .str j ∧ i.length + j.length ≤ sizeLine ∧ Q (.str (i ++ j)) H) ∨ rCatA K x y H Q)
theorem op_addA : OpR X (binaryOp .Add) (rAddA X.K) := OpR.or op_add (OpR.or op_add_str op_catA)
theorem op2_addA (hK : X.K = F.G.K) : Op2 F ℓ ℓ ℓ (rAddA X.K) gAdd := by
  intro env h A σ H x y v u z R rx ry e Q k
  unfold gAdd at e
  split at e
  · next i j =>
    cases e
    cases ri rx
    cases ri ry
    exact .inl ⟨i, j, rfl, rfl, k _ H (Ex.refl H) vi⟩
  · next i j =>
    split at e
    · next hc =>
      cases e
      cases rs rx
      cases rs ry
      exact .inr (.inl ⟨i, j, rfl, rfl, hc, k _ H (Ex.refl H) vs⟩)
    · cases e
  · next xs ys =>
    split at e
    · next hc =>
      cases e
      obtain ⟨a, vs, rfl, t1, r1⟩ := rt rx
      obtain ⟨b, us, rfl, t2, r2⟩ := rt ry
      rw [hK]
      refine .inr (.inr ⟨a, b, vs, us, rfl, rfl, t1, t2, by rw [r1.len, r2.len]; exact hc, fun z => ?_, fun z1 z2 => ?_, fun z1 z2 p hp => ?_⟩)
      · subst z
        have : xs = [] := by
          have := r1.len
          cases xs with
          | nil => rfl
          | cons _ _ => simp at this
        subst this
        exact k _ H (Ex.refl H) (vt t2 r2)
      · subst z2
        have : ys = [] := by
          have := r2.len
          cases ys with
          | nil => rfl
          | cons _ _ => simp at this
        subst this
        exact k _ H (Ex.refl H) (vt (by simpa using t1) (by simpa using r1))
      · exact k _ _ (Ex.new hp) (vt (.inl (.inl upd_same)) (RDs.ex (Ex.new hp) (r1.append r2)))
    · cases e
  · cases e
theorem o_add (hK : X.K = F.G.K) : BinS X F ℓ ℓ ℓ (binaryOp .Add) gAdd := ⟨_, op_addA, op2_addA hK⟩

/-- == and != of data -/
def gEq : Hs → Val → Val → Option Val := fun _ x y => match x, y with
  | .d a, .d b => if (SeqAt.shaped a && SeqAt.shaped b) = true then some (.d (.bool (PyData.eqv a b))) else none
  | _, _ => none
def gNe : Hs → Val → Val → Option Val := fun _ x y => match x, y with
  | .d a, .d b => if (SeqAt.shaped a && SeqAt.shaped b) = true then some (.d (.bool (!PyData.eqv a b))) else none
  | _, _ => none
theorem o_eq (hK : X.K = F.G.K) (hu : X.A.units + 64 < cLine) : BinS X F .mo .mo ℓ (compareOp .Eq) gEq := ⟨_, op_eqD hu, by
  intro env h A σ H x y v u z R rx ry e Q k
  unfold gEq at e
  split at e
  · next a b =>
    split at e
    · next hc =>
      cases e
      simp only [Bool.and_eq_true] at hc
      rw [hK]
      exact ⟨a, b, Rep.dp a v rx, Rep.dp b u ry, hc.1, hc.2, k _ H (Ex.refl H) vb⟩
    · cases e
  · cases e⟩
theorem o_ne (hK : X.K = F.G.K) (hu : X.A.units + 64 < cLine) : BinS X F .mo .mo ℓ (compareOp .NotEq) gNe := ⟨_, op_neD hu, by
  intro env h A σ H x y v u z R rx ry e Q k
  unfold gNe at e
  split at e
  · next a b =>
    split at e
    · next hc =>
      cases e
      simp only [Bool.and_eq_true] at hc
      rw [hK]
      exact ⟨a, b, Rep.dp a v rx, Rep.dp b u ry, hc.1, hc.2, k _ H (Ex.refl H) vb⟩
    · cases e
  · cases e⟩
theorem gEq_b : ∀ h x y z, gEq h x y = some z → ∃ k, z = .d (.bool k) := by
  intro h x y z e
  unfold gEq at e
  split at e
  · split at e
    · cases e; exact ⟨_, rfl⟩
    · cases e
  · cases e
theorem gNe_b : ∀ h x y z, gNe h x y = some z → ∃ k, z = .d (.bool k) := by
  intro h x y z e
  unfold gNe at e
  split at e
  · split at e
    · cases e; exact ⟨_, rfl⟩
    · cases e
  · cases e
end
end Sm

set_option Elab.async false
set_option linter.all false
set_option maxRecDepth 100000
set_option maxHeartbeats 1000000
namespace Sm
open PySem L2 Evl

/-! ### built-ins -/
section
variable {F : Fm} {X : Cx} {a b c e : Expr} {es rest : List Expr} {pos p : Pos} {ℓ : Lv} {qa qb qc : Q1} {ta tb : T1} {env : En} {h : Hs} {A : As} {σ : L2.St} {H : Hp} {x : Str} {id T : String}
theorem tCB1_q {ℓ₁ : Lv} {r : List V → Hp → VK → Prop} {g : Hs → Val → Option Val} (o : Op1 F ℓ₁ ℓ (fun v H Q => r [v] H Q) g) {σ : L2.St} {H : Hp} {Q : VK} (hq : tQ F ℓ (q1 g qa) σ H Q) : tCB r (tCons (tQ F ℓ₁ qa) tNil) σ H Q := by
  obtain ⟨env, h, A, z, R, e, k⟩ := hq
  obtain ⟨x, ex, e⟩ := bind_some e
  refine ⟨env, h, A, x, R, ex, fun v H1 e1 rv => ?_⟩
  exact o env h A σ H1 x v z (R.ex e1) rv e Q fun v' H' e3 rz => k v' H' (e1.trans e3) rz
theorem sq_b1 {ℓ₁ : Lv} {r : List V → Hp → VK → Prop} {g : Hs → Val → Option Val} (hc : CallR X (.builtin id) r) (o : Op1 F ℓ₁ ℓ (fun v H Q => r [v] H Q) g) (hm : X.mg x = none) (hv : bootBuiltins x = some (.builtin id)) (ha : SimQ X F ℓ₁ a qa)
    (hg : Gl X x := by rfl) (hn : x ≠ "__name__" := by decide) (hdb : (x == ("__debug__" : Str)) = false := by decide)
    (he : starEach [a] X.env = (false, eval a X.env) :: starEach [] X.env := by rfl) (hpl : (backTo pos (starEach [] X.env)).any (·.1) = false := by rfl) : SimQ X F ℓ (.Call (.Name x p) [a] [] pos) (q1 g qa) :=
  PEimp (pe_callB hc hg hm hv (pa_cons ha pa_nil he) hn hdb he hpl) fun _ _ _ => tCB1_q o
theorem sq_t1 {ℓ₁ : Lv} {r : List V → Hp → VK → Prop} {g : Hs → Val → Option Val} (hc : CallR X (.type T) r) (o : Op1 F ℓ₁ ℓ (fun v H Q => r [v] H Q) g) (hm : X.mg x = none) (hv : bootBuiltins x = some (.type T)) (ha : SimQ X F ℓ₁ a qa)
    (hg : Gl X x := by rfl) (hn : x ≠ "__name__" := by decide) (hdb : (x == ("__debug__" : Str)) = false := by decide)
    (he : starEach [a] X.env = (false, eval a X.env) :: starEach [] X.env := by rfl) (hpl : (backTo pos (starEach [] X.env)).any (·.1) = false := by rfl) : SimQ X F ℓ (.Call (.Name x p) [a] [] pos) (q1 g qa) :=
  PEimp (pe_callTy hc hg hm hv (pa_cons ha pa_nil he) hn hdb he hpl) fun _ _ _ => tCB1_q o

/-- the items of a list object -/
def lstAt (h : Hs) (n : Nat) : Option (List PyData) := match h[n]? with
  | some (.lst xs) => some xs
  | _ => none
theorem SR.lstAt (R : SR F env h A σ H) {n : Nat} {xs : List PyData} (e : lstAt h n = some xs) : h[n]? = some (.lst xs) ∧ ∃ us, H (A (.o n)) = some (.lst us) ∧ RDs F .st H xs us := by
  unfold Sm.lstAt at e
  split at e
  · next ys hy =>
    cases e
    exact ⟨hy, R.ob n _ hy⟩
  · cases e
/-- the values of a list object -/
def vlsAt (h : Hs) (n : Nat) : Option (List Val) := match h[n]? with
  | some (.vls xs) => some xs
  | _ => none
theorem SR.vlsAt (R : SR F env h A σ H) {n : Nat} {xs : List Val} (e : vlsAt h n = some xs) : h[n]? = some (.vls xs) ∧ ∃ us, H (A (.o n)) = some (.lst us) ∧ Paired (fun x v => RV F .st h A H x v) xs us := by
  unfold Sm.vlsAt at e
  split at e
  · next ys hy =>
    cases e
    exact ⟨hy, R.ob n _ hy⟩
  · cases e
theorem pair_len {α β : Type} {f : α → β → Prop} : ∀ {l : List α} {m : List β}, Paired f l m → m.length = l.length
  | _, _, .nil => rfl
  | _, _, .cons _ t => congrArg (· + 1) (pair_len t)
theorem pair_get {α β : Type} {f : α → β → Prop} : ∀ {l : List α} {m : List β} {i : Nat} {x : α}, Paired f l m → l[i]? = some x → ∃ y, m[i]? = some y ∧ f x y
  | _, _, i, x, .nil, e => by simp at e
  | _, _, 0, x, .cons r _, e => by simp at e; subst e; exact ⟨_, rfl, r⟩
  | _, _, i + 1, x, .cons _ t, e => by
    obtain ⟨y, h1, h2⟩ := pair_get (i := i) t (by simpa using e)
    exact ⟨y, by simpa using h1, h2⟩
theorem pair_at {α β : Type} {f : α → β → Prop} {l : List α} {m : List β} {i : Int} {x : α} (r : Paired f l m) (e : atI l i = some x) : ∃ y, atI m i = some y ∧ f x y := by
  unfold atI at e ⊢
  rw [pair_len r]
  cases hj : ixN l.length i with
  | none => rw [hj] at e; cases e
  | some j =>
    rw [hj] at e
    exact pair_get r e
def lenAt (h : Hs) (n : Nat) : Option Nat := match h[n]? with
  | some (.lst xs) => some xs.length
  | some (.vls xs) => some xs.length
  | _ => none
def ixAt (h : Hs) (n : Nat) (i : Int) : Option Val := match h[n]? with
  | some (.lst xs) => (atI xs i).map .d
  | some (.vls xs) => atI xs i
  | _ => none
def gLen : Hs → Val → Option Val := fun h x => match x with
  | .d (.str s) => if s.length ≤ sizeLine then some (.d (.int s.length)) else none
  | .d (.list xs) => some (.d (.int xs.length))
  | .d (.tuple xs) => some (.d (.int xs.length))
  | .ref n => (lenAt h n).map fun k => .d (.int k)
  | _ => none
theorem o_len (hK : X.K = F.G.K) : Op1 F .mo ℓ (fun v H Q => ∃ x n, [v] = [x] ∧ LenV X.K x H n ∧ Q (.int n) H) gLen := by
  intro env h A σ H x v z R rx e Q k
  unfold gLen at e
  rw [hK]
  split at e
  · next s =>
    split at e
    · next hs => cases e; cases rs rx; exact ⟨_, s.length, rfl, ⟨hs, rfl⟩, k _ H (Ex.refl H) vi⟩
    · cases e
  · next xs =>
    cases e
    obtain ⟨a, us, rfl, q, r⟩ := rl rx
    exact ⟨_, us.length, rfl, .inl ⟨us, q, rfl⟩, by rw [r.len]; exact k _ H (Ex.refl H) vi⟩
  · next xs =>
    cases e
    obtain ⟨a, us, rfl, q, r⟩ := rt rx
    exact ⟨_, us.length, rfl, .inr ⟨us, q, rfl⟩, by rw [r.len]; exact k _ H (Ex.refl H) vi⟩
  · next n =>
    obtain ⟨xs, ex, e⟩ := Option.map_eq_some_iff.mp e
    subst e
    unfold lenAt at ex
    obtain ⟨_, rfl⟩ := rx
    split at ex
    · next ys hy =>
      cases ex
      obtain ⟨us, q, r⟩ := R.ob n _ hy
      exact ⟨_, us.length, rfl, .inl ⟨us, .inl (.inl q), rfl⟩, by rw [r.len]; exact k _ H (Ex.refl H) vi⟩
    · next ys hy =>
      cases ex
      obtain ⟨us, q, r⟩ := R.ob n _ hy
      exact ⟨_, us.length, rfl, .inl ⟨us, .inl (.inl q), rfl⟩, by rw [pair_len r]; exact k _ H (Ex.refl H) vi⟩
    · cases ex
  · cases e
theorem sq_len (hK : X.K = F.G.K) (hm : X.mg "len" = none) (ha : SimQ X F .mo a qa) (hg : Gl X "len" := by rfl)
    (he : starEach [a] X.env = (false, eval a X.env) :: starEach [] X.env := by rfl) (hpl : (backTo pos (starEach [] X.env)).any (·.1) = false := by rfl) : SimQ X F ℓ (.Call (.Name "len" p) [a] [] pos) (q1 gLen qa) :=
  sq_b1 call_len (o_len hK) hm PySem.boot_len ha hg (by decide) (by decide) he hpl
def gInt : Hs → Val → Option Val := fun _ x => match x with
  | .d (.int i) => some (.d (.int i))
  | .d (.bool k) => some (.d (.int (if k then 1 else 0)))
  | _ => none
theorem o_int {ℓ₁ : Lv} : Op1 F ℓ₁ ℓ (fun v H Q => (∃ i, [v] = [.int i] ∧ Q (.int i) H) ∨ ∃ k, [v] = [.bl k] ∧ Q (.int (if k then 1 else 0)) H) gInt := by
  intro env h A σ H x v z R rx e Q k
  unfold gInt at e
  split at e
  · next i => cases e; cases ri rx; exact .inl ⟨i, rfl, k _ H (Ex.refl H) vi⟩
  · next i => cases e; cases rb rx; exact .inr ⟨i, rfl, k _ H (Ex.refl H) vi⟩
  · cases e
theorem sq_toint {ℓ₁ : Lv} (hm : X.mg "int" = none) (ha : SimQ X F ℓ₁ a qa) (hg : Gl X "int" := by rfl)
    (he : starEach [a] X.env = (false, eval a X.env) :: starEach [] X.env := by rfl) (hpl : (backTo pos (starEach [] X.env)).any (·.1) = false := by rfl) : SimQ X F ℓ (.Call (.Name "int" p) [a] [] pos) (q1 gInt qa) :=
  sq_t1 call_int1 o_int hm (by decide +kernel) ha hg (by decide) (by decide) he hpl
/-- tuple(x) -/
def gTuple : Hs → Val → Option Val := fun _ x => match x with
  | .d (.list xs) => some (.d (.tuple xs))
  | .d (.tuple xs) => some (.d (.tuple xs))
  | _ => none
theorem o_tuple (hK : X.K = F.G.K) : Op1 F ℓ ℓ (fun v H Q => ∃ p ys, [v] = [V.ref p] ∧ ((SqL X.K H p ys ∧ ∀ l, H l = none → Q (.ref l) (upd H l (.tup ys))) ∨ (SqT X.K H p ys ∧ Q (.ref p) H))) gTuple := by
  intro env h A σ H x v z R rx e Q k
  unfold gTuple at e
  rw [hK]
  split at e
  · next xs =>
    cases e
    obtain ⟨a, us, rfl, q, r⟩ := rl rx
    exact ⟨a, us, rfl, .inl ⟨LPof.mo R _ _ q, fun l hl => k _ _ (Ex.new hl) (vt (.inl (.inl upd_same)) (RDs.ex (Ex.new hl) r))⟩⟩
  · next xs =>
    cases e
    obtain ⟨a, us, rfl, q, r⟩ := rt rx
    exact ⟨a, us, rfl, .inr ⟨q, k _ H (Ex.refl H) (vt q r)⟩⟩
  · cases e
theorem sq_totup (hK : X.K = F.G.K) (hm : X.mg "tuple" = none) (ha : SimQ X F ℓ a qa) (hg : Gl X "tuple" := by rfl)
    (he : starEach [a] X.env = (false, eval a X.env) :: starEach [] X.env := by rfl) (hpl : (backTo pos (starEach [] X.env)).any (·.1) = false := by rfl) : SimQ X F ℓ (.Call (.Name "tuple" p) [a] [] pos) (q1 gTuple qa) :=
  sq_t1 call_tuple_of (o_tuple hK) hm (by decide +kernel) ha hg (by decide) (by decide) he hpl
/-- list(x): a new list -/
def f1 (g : Hs → Val → Option (List PyData)) (a : Q1) : En → Hs → Option (List PyData) := fun env h => (a env h).bind fun x => g h x
def f2 (g : Hs → Val → Val → Option (List PyData)) (a b : Q1) : En → Hs → Option (List PyData) := fun env h => (a env h).bind fun x => (b env h).bind fun y => g h x y
def gList : Hs → Val → Option (List PyData) := fun _ x => match x with
  | .d (.list xs) => if nlAll xs = true then some xs else none
  | .d (.tuple xs) => if nlAll xs = true then some xs else none
  | _ => none
theorem sf_tolist (hK : X.K = F.G.K) (hm : X.mg "list" = none) (ha : SimQ X F .mo a qa) (hg : Gl X "list" := by rfl)
    (he : starEach [a] X.env = (false, eval a X.env) :: starEach [] X.env := by rfl) (hpl : (backTo pos (starEach [] X.env)).any (·.1) = false := by rfl) : SimF X F (.Call (.Name "list" p) [a] [] pos) (f1 gList qa) := by
  refine PEimp (pe_callTy call_list_of hg hm (by decide +kernel) (pa_cons ha pa_nil he) (by decide) (by decide) he hpl) fun σ H Q ⟨env, h, A, z, R, e, k⟩ => ?_
  obtain ⟨x, ex, e⟩ := bind_some e
  refine ⟨env, h, A, x, R, ex, fun v H1 e1 rv => ?_⟩
  unfold gList at e
  rw [hK]
  split at e
  · next xs =>
    split at e
    · next hn =>
      cases e
      obtain ⟨a, us, rfl, q, r⟩ := rl rv
      exact ⟨a, us, rfl, .inl q, fun l hl => k l us _ (fresh_back e1 hl) (e1.trans (Ex.new hl)) upd_same (RDs.ex (Ex.new hl) (RepAll.nl _ _ hn r))⟩
    · cases e
  · next xs =>
    split at e
    · next hn =>
      cases e
      obtain ⟨a, us, rfl, q, r⟩ := rt rv
      exact ⟨a, us, rfl, .inr q, fun l hl => k l us _ (fresh_back e1 hl) (e1.trans (Ex.new hl)) upd_same (RDs.ex (Ex.new hl) (RepAll.nl _ _ hn r))⟩
    · cases e
  · cases e
/-- isinstance(x, T) -/
def gIsi (f : PyData → Bool) : Hs → Val → Option Val := fun _ x => match x with
  | .d d => some (.d (.bool (f d)))
  | _ => none
def IsiR (n : String) (f : PyData → Bool) : Prop := ∀ {prog : Program} {w : World} {A : Around} {E : Value → Shared → Prop} {s : Shared} {v : Value} {d : PyData} {as : List Addr} {Q : Value → Shared → Prop}, Reads s.heap v d as →
  (∀ tk, s.toks ≤ tk → Q (.bool (f d)) { s with toks := tk }) → wpAny (model prog w) A (call (.builtin "isinstance") [v, .type n]) Q E s
theorem cr_isi {n : String} {f : PyData → Bool} (R : IsiR n f) : CallR X (.builtin "isinstance") (fun xs H Q => ∃ x d, xs = [x, .ty n] ∧ Dp X.K H x d ∧ Q (.bl (f d)) H) := by
  intro pins s σ H xs us Q I r h
  obtain ⟨x, d, rfl, hd, q⟩ := h
  obtain ⟨u, w', rfl, rx, ry⟩ := vals2 r
  obtain rfl : w' = Value.type n := ry
  obtain ⟨as, hr⟩ := Dp.reads I d x u hd rx
  exact R hr fun tk _ => ⟨.bl (f d), H, I.tok _, rfl, q⟩
theorem isi_tuple : IsiR "tuple" PyData.isTuple := PySem.W.isinstance_tuple_data
theorem isi_list : IsiR "list" PyData.isList := PySem.W.isinstance_list_data
theorem isi_bool : IsiR "bool" PyData.isBool := PySem.W.isinstance_bool_data
theorem isi_int : IsiR "int" PyData.isInt := PySem.W.isinstance_int_data
theorem isi_str : IsiR "str" PyData.isStr := PySem.W.isinstance_str_data
theorem isi_dict : IsiR "dict" PyData.isDict := PySem.W.isinstance_dict_data
theorem sq_isi {n : String} {f : PyData → Bool} {p2 : Pos} {y : Str} (Ri : IsiR n f) (hK : X.K = F.G.K) (hm : X.mg "isinstance" = none) (hm2 : X.mg y = none) (hv : bootBuiltins y = some (.type n)) (ha : SimQ X F .mo a qa) (hg : Gl X "isinstance" := by rfl) (hg2 : Gl X y := by rfl) (hn2 : y ≠ "__name__" := by decide) (hd2 : (y == ("__debug__" : Str)) = false := by decide)
    (he : starEach [a, .Name y p2] X.env = (false, eval a X.env) :: starEach [.Name y p2] X.env := by rfl) (he2 : starEach [.Name y p2] X.env = (false, eval (.Name y p2) X.env) :: starEach [] X.env := by rfl) (hpl : (backTo pos (starEach [.Name y p2] X.env)).any (·.1) = false := by rfl) :
    SimQ X F ℓ (.Call (.Name "isinstance" p) [a, .Name y p2] [] pos) (q1 (gIsi f) qa) := by
  refine PEimp (pe_callB (cr_isi Ri) hg hm (by decide +kernel) (pa_cons ha (pa_cons (pe_bltn (v := .ty n) hg2 hm2 hv rfl hn2 hd2) pa_nil he2) he) (by decide) (by decide) he hpl) fun σ H Q ⟨env, h, A, z, R, e, k⟩ => ?_
  obtain ⟨x, ex, e⟩ := bind_some e
  refine ⟨env, h, A, x, R, ex, fun v H1 e1 rv => ?_⟩
  unfold gIsi at e
  split at e
  · next d =>
    cases e
    rw [hK]
    exact ⟨v, d, rfl, Rep.dp d v rv, k _ H1 e1 vb⟩
  · cases e

/-! ### subscripts -/
/-- x[i] of a list, a tuple, a text -/
def gIx : Hs → Val → Val → Option Val := fun h x y => match x, y with
  | .ref n, .d (.int i) => ixAt h n i
  | .d (.list xs), .d (.int i) => (atI xs i).map .d
  | .d (.tuple xs), .d (.int i) => (atI xs i).map .d
  | .d (.str s), .d (.int i) => if s.length ≤ sizeLine then (atI s.cps.toList i).map fun c => .d (.str ⟨#[c]⟩) else none
  | _, _ => none
theorem at_rep {T L : LP} {ds : List PyData} {vs : List V} {i : Int} {d : PyData} (r : RepAll T L ds vs) (e : atI ds i = some d) : ∃ v, atI vs i = some v ∧ Rep T L d v := by
  unfold atI at e ⊢
  rw [r.len]
  cases hj : ixN ds.length i with
  | none => rw [hj] at e; cases e
  | some j =>
    rw [hj] at e
    obtain ⟨v, h1, h2⟩ := r.get e
    exact ⟨v, h1, h2⟩
theorem LPof_sq (R : SR F env h A σ H) {a : Addr} {vs : List V} (q : LPof F H ℓ a vs) : SqL F.G.K H a vs := LPof.mo R a vs q
theorem o_ix (hK : X.K = F.G.K) {ℓ₂ : Lv} : Op2 F ℓ ℓ₂ ℓ (rIx X.K) gIx := by
  intro env h A σ H x y v u z R rx ry e Q k
  unfold gIx at e
  rw [hK]
  split at e
  · next n i =>
    cases ri ry
    obtain ⟨_, rfl⟩ := rx
    unfold ixAt at e
    split at e
    · next ys hy =>
      obtain ⟨d, e1, e2⟩ := Option.map_eq_some_iff.mp e
      subst e2
      obtain ⟨us, q, r⟩ := R.ob n _ hy
      obtain ⟨w, h1, h2⟩ := at_rep r e1
      exact .inl ⟨_, us, i, w, rfl, rfl, .inl (.inl q), h1, k _ H (Ex.refl H) (RD.of_st (ℓ := ℓ) h2)⟩
    · next ys hy =>
      obtain ⟨us, q, r⟩ := R.ob n _ hy
      obtain ⟨w, h1, h2⟩ := pair_at r e
      exact .inl ⟨_, us, i, w, rfl, rfl, .inl (.inl q), h1, k _ H (Ex.refl H) (RV.of_st (ℓ := ℓ) h2)⟩
    · cases e
  · next xs i =>
    cases ri ry
    obtain ⟨d, e1, e2⟩ := Option.map_eq_some_iff.mp e
    subst e2
    obtain ⟨a, us, rfl, q, r⟩ := rl rx
    obtain ⟨w, h1, h2⟩ := at_rep r e1
    exact .inl ⟨a, us, i, w, rfl, rfl, LPof_sq R q, h1, k _ H (Ex.refl H) h2⟩
  · next xs i =>
    cases ri ry
    obtain ⟨d, e1, e2⟩ := Option.map_eq_some_iff.mp e
    subst e2
    obtain ⟨a, us, rfl, q, r⟩ := rt rx
    obtain ⟨w, h1, h2⟩ := at_rep r e1
    exact .inr (.inl ⟨a, us, i, w, rfl, rfl, q, h1, k _ H (Ex.refl H) h2⟩)
  · next s i =>
    split at e
    · next hs =>
      cases ri ry
      cases rs rx
      obtain ⟨d, e1, e2⟩ := Option.map_eq_some_iff.mp e
      subst e2
      exact .inr (.inr ⟨s, i, d, rfl, rfl, hs, e1, k _ H (Ex.refl H) vs⟩)
    · cases e
  · cases e
theorem sq_sub (hK : X.K = F.G.K) {ℓ₂ : Lv} (ha : SimQ X F ℓ a qa) (hb : SimQ X F ℓ₂ b qb) (hs : PlainIx b := by intro _ _; rfl) : SimQ X F ℓ (.Subscript a b pos) (q2 gIx qa qb) := sq_ix ix_seq (o_ix hK) ha hb hs

/-! ### is -/
def gIsN : Hs → Val → Option Val := fun _ x => match x with
  | .d .none => some (.d (.bool true))
  | .d (.dict _) => none
  | _ => some (.d (.bool false))
def gNoN : Hs → Val → Option Val := fun _ x => match x with
  | .d .none => some (.d (.bool false))
  | .d (.dict _) => none
  | _ => some (.d (.bool true))
theorem isN_of {x : Val} {v : V} {z : Val} (r : RV F .mo h A H x v) (e : gIsN h x = some z) : z = .d (.bool (decide (v = .non))) ∧ gNoN h x = some (.d (.bool (!decide (v = .non)))) := by
  cases x with
  | d d =>
    cases d with
    | none => cases e; have : v = .non := rn r
              subst this; exact ⟨rfl, rfl⟩
    | dict _ => cases e
    | bool i => cases e; cases rb r; exact ⟨rfl, rfl⟩
    | int i => cases e; cases ri r; exact ⟨rfl, rfl⟩
    | str i => cases e; cases rs r; exact ⟨rfl, rfl⟩
    | tuple i => cases e; obtain ⟨a, us, rfl, _⟩ := rt r; exact ⟨rfl, rfl⟩
    | list i => cases e; obtain ⟨a, us, rfl, _⟩ := rl r; exact ⟨rfl, rfl⟩
  | ref n => cases e; obtain ⟨_, rfl⟩ := r; exact ⟨rfl, rfl⟩
  | fn n => cases e; (have r' : v = .ref (F.G.fa n) := r); subst r'; exact ⟨rfl, rfl⟩
theorem gNo_is {x : Val} {z : Val} (e : gNoN h x = some z) : ∃ y, gIsN h x = some y := by
  unfold gNoN at e
  unfold gIsN
  split at e <;> simp_all
theorem sq_isN {j : Nat} {p2 : Pos} (ha : SimQ X F .mo a qa) : SimQ X F ℓ (.Compare a [.Is] [.Constant .none j p2] pos) (q1 gIsN qa) := PEimp (pe_cmp (pc_isN ha) (nomark _)) fun σ H Q ⟨env, h, A, z, R, e, k⟩ => by
  obtain ⟨x, ex, e⟩ := bind_some e
  refine ⟨env, h, A, x, R, ex, fun v H1 e1 rv => ?_⟩
  obtain ⟨rfl, _⟩ := isN_of rv e
  exact k _ H1 e1 vb
theorem sq_noN {j : Nat} {p2 : Pos} (ha : SimQ X F .mo a qa) : SimQ X F ℓ (.Compare a [.IsNot] [.Constant .none j p2] pos) (q1 gNoN qa) := PEimp (pe_cmp (pc_notN ha) (nomark _)) fun σ H Q ⟨env, h, A, z, R, e, k⟩ => by
  obtain ⟨x, ex, e⟩ := bind_some e
  refine ⟨env, h, A, x, R, ex, fun v H1 e1 rv => ?_⟩
  obtain ⟨y, ey⟩ := gNo_is e
  obtain ⟨_, e2⟩ := isN_of rv ey
  rw [e] at e2
  cases e2
  exact k _ H1 e1 vb
theorem st_isN {j : Nat} {p2 : Pos} (ha : SimQ X F .mo a qa) : SimT X F (.Compare a [.Is] [.Constant .none j p2] pos) (tV (q1 gIsN qa)) := PTimp (pt_cmp (pc_isN ha) (nomark _)) fun σ H Q ⟨env, h, A, k, R, e, q⟩ => by
  obtain ⟨z, ez, e⟩ := bind_some e
  obtain ⟨x, ex, ez⟩ := bind_some ez
  refine ⟨env, h, A, x, R, ex, fun v H1 e1 rv => ?_⟩
  obtain ⟨rfl, _⟩ := isN_of rv ez
  cases e
  exact ⟨_, rfl, q H1 e1⟩
theorem st_noN {j : Nat} {p2 : Pos} (ha : SimQ X F .mo a qa) : SimT X F (.Compare a [.IsNot] [.Constant .none j p2] pos) (tV (q1 gNoN qa)) := PTimp (pt_cmp (pc_notN ha) (nomark _)) fun σ H Q ⟨env, h, A, k, R, e, q⟩ => by
  obtain ⟨z, ez, e⟩ := bind_some e
  obtain ⟨x, ex, ez⟩ := bind_some ez
  refine ⟨env, h, A, x, R, ex, fun v H1 e1 rv => ?_⟩
  obtain ⟨y, ey⟩ := gNo_is ez
  obtain ⟨_, e2⟩ := isN_of rv ey
  rw [ez] at e2
  cases e2
  cases e
  exact ⟨_, rfl, q H1 e1⟩
def gIsB (n : Bool) : Hs → Val → Val → Option Val := fun _ x y => match x, y with
  | .d (.bool a), .d (.bool b) => some (.d (.bool (if n then !decide (a = b) else decide (a = b))))
  | _, _ => none
theorem o_isB {ℓ₁ ℓ₂ : Lv} : BinS X F ℓ₁ ℓ₂ ℓ (compareOp .Is) (gIsB false) := ⟨_, op_isBl, by
  intro env h A σ H x y v u z R rx ry e Q k
  unfold gIsB at e
  split at e
  · next i j => cases e; cases rb rx; cases rb ry; exact ⟨i, j, rfl, rfl, k _ H (Ex.refl H) vb⟩
  · cases e⟩
theorem o_noB {ℓ₁ ℓ₂ : Lv} : BinS X F ℓ₁ ℓ₂ ℓ (compareOp .IsNot) (gIsB true) := ⟨_, op_notBl, by
  intro env h A σ H x y v u z R rx ry e Q k
  unfold gIsB at e
  split at e
  · next i j => cases e; cases rb rx; cases rb ry; exact ⟨i, j, rfl, rfl, k _ H (Ex.refl H) vb⟩
  · cases e⟩
theorem gIsB_b {n : Bool} : ∀ h x y z, gIsB n h x y = some z → ∃ k, z = .d (.bool k) := by
  intro h x y z e
  unfold gIsB at e
  split at e
  · cases e; exact ⟨_, rfl⟩
  · cases e
end
end Sm

set_option Elab.async false
set_option linter.all false
set_option maxRecDepth 100000
set_option maxHeartbeats 1000000
namespace Sm
open PySem L2 Evl

/-! ### what is walked -/
structure Ylds (F : Fm) (Ok : Hp → Prop) (ℓ : Lv) (J : It) (xs : List PyData) : Prop where
  go : ∀ Hc i, Ok Hc → i < xs.length → J.go i Hc
  yl : ∀ Hc i x Hn d, Ok Hc → xs[i]? = some d → J.yld i Hc x Hn → Ex Hc Hn ∧ RD F ℓ Hn d x
  st : ∀ Hc i, Ok Hc → xs.length ≤ i → J.stop i Hc
abbrev I1 := En → Hs → Option (List PyData)
def OkP (_ : Fm) (H1 Hc : Hp) : Prop := Ex H1 Hc
def OkS (F : Fm) (H1 Hc : Hp) : Prop := Pres H1 Hc ∧ ∃ env h A σ, SR F env h A σ Hc
def tI (F : Fm) (ok : Fm → Hp → Hp → Prop) (ℓ : Lv) (it : I1) : TI := fun σ H R => ∃ env h A xs, SR F env h A σ H ∧ it env h = some xs ∧ ∀ J H1, Ex H H1 → Ylds F (ok F H1) ℓ J xs → R J H1
theorem PIimp {X : Cx} {tg e : Expr} {t t' : TI} (h : PI X tg e t) (i : ∀ σ H Q, t' σ H Q → t σ H Q) : PI X tg e t' := ⟨fun pins s σ H Q I q => h.run pins s σ H Q I (i σ H Q q)⟩
theorem PIor {X : Cx} {tg e : Expr} {t t' : TI} (h : PI X tg e t) (h' : PI X tg e t') : PI X tg e (fun σ H R => t σ H R ∨ t' σ H R) := ⟨fun pins s σ H Q I q => q.elim (h.run pins s σ H Q I) (h'.run pins s σ H Q I)⟩
abbrev SimI (X : Cx) (F : Fm) (ok : Fm → Hp → Hp → Prop) (ℓ : Lv) (tg e : Expr) (it : I1) : Prop := PI X tg e (tI F ok ℓ it)
def iRng (a : Q1) : I1 := fun env h => (a env h).bind fun x => match x with
  | .d (.int n) => if (decide (-(2 ^ 62) ≤ n) && decide (n < 2 ^ 62)) = true then some ((List.range n.toNat).map fun k : Nat => PyData.int (k : Int)) else none
  | _ => none
def iRngB (a b : Q1) : I1 := fun env h => (a env h).bind fun x => (b env h).bind fun y => match x, y with
  | .d (.int m), .d (.int n) => if ((decide (-(2 ^ 62) ≤ m) && decide (m < 2 ^ 62)) && (decide (-(2 ^ 62) ≤ n) && decide (n < 2 ^ 62))) = true then some ((List.range (n - m).toNat).map fun k : Nat => PyData.int (m + (k : Int))) else none
  | _, _ => none
/-- a list or a tuple, its items without lists in them -/
def seqOf : Val → Option (List PyData)
  | .d (.list xs) => some xs
  | .d (.tuple xs) => some xs
  | _ => none
def iSeqN (a : Q1) : I1 := fun env h => (a env h).bind fun x => (seqOf x).bind fun xs => if nlAll xs = true then some xs else none
def iSeq (a : Q1) : I1 := fun env h => (a env h).bind fun x => seqOf x
section
variable {F : Fm} {X : Cx} {tg a b c e : Expr} {es rest : List Expr} {pos p : Pos} {ℓ : Lv} {qa qb qc : Q1} {env : En} {h : Hs} {A : As} {σ : L2.St} {H : Hp} {ok : Fm → Hp → Hp → Prop}
theorem ylds_rng {Ok : Hp → Prop} (lo : Int) (n : Nat) : Ylds F Ok ℓ (Itr lo n) ((List.range n).map fun k : Nat => PyData.int (lo + (k : Int))) where
  go := fun Hc i _ hi => by simpa [Itr] using hi
  yl := fun Hc i x Hn d _ hd hy => by
    obtain ⟨rfl, rfl⟩ := hy
    rw [List.getElem?_map] at hd
    obtain ⟨k, hk, rfl⟩ := Option.map_eq_some_iff.mp hd
    obtain ⟨hi, rfl⟩ := List.getElem?_eq_some_iff.mp hk
    refine ⟨Ex.refl _, ?_⟩
    rw [List.getElem_range]
    exact mk_int
  st := fun Hc i _ hi => by simpa [Itr] using hi
theorem si_rng (hm : X.mg "range" = none) {ℓ₁ : Lv} (ha : SimQ X F ℓ₁ a qa) (hg : Gl X "range" := by rfl) (hs : starEach [a] X.env = [(false, eval a X.env)] := by rfl) : SimI X F ok ℓ tg (.Call (.Name "range" p) [a] [] pos) (iRng qa) :=
  PIimp (pi_range1 hg hm (pa_cons ha pa_nil hs) hs) fun σ H Q ⟨env, h, A, z, R, e, k⟩ => by
    obtain ⟨x, ex, e⟩ := bind_some e
    refine ⟨env, h, A, x, R, ex, fun v H1 e1 rv => ?_⟩
    split at e
    · next n =>
      split at e
      · next hn =>
        cases e
        cases ri rv
        simp only [Bool.and_eq_true, decide_eq_true_eq] at hn
        refine ⟨n, rfl, hn.1, hn.2, k _ H1 e1 ?_⟩
        have := ylds_rng (F := F) (ℓ := ℓ) (Ok := ok F H1) 0 n.toNat
        simpa using this
      · cases e
    · cases e
theorem si_rngB (hm : X.mg "range" = none) {ℓ₁ ℓ₂ : Lv} (ha : SimQ X F ℓ₁ a qa) (hb : SimQ X F ℓ₂ b qb) (hg : Gl X "range" := by rfl) (hs : starEach [a, b] X.env = [(false, eval a X.env), (false, eval b X.env)] := by rfl) (hs2 : starEach [b] X.env = [(false, eval b X.env)] := by rfl) :
    SimI X F ok ℓ tg (.Call (.Name "range" p) [a, b] [] pos) (iRngB qa qb) :=
  PIimp (pi_range2 hg hm (pa_cons ha (pa_cons hb pa_nil hs2) (by rw [hs, hs2])) hs hs2) fun σ H Q ⟨env, h, A, z, R, e, k⟩ => by
    obtain ⟨x, ex, e⟩ := bind_some e
    obtain ⟨y, ey, e⟩ := bind_some e
    refine ⟨env, h, A, x, R, ex, fun v H1 e1 rv => ⟨env, h, A, y, R.ex e1, ey, fun u H2 e2 ru => ?_⟩⟩
    split at e
    · next m n _ =>
      split at e
      · next hn =>
        cases e
        cases ri rv
        cases ri ru
        simp only [Bool.and_eq_true, decide_eq_true_eq] at hn
        exact ⟨m, n, rfl, ⟨hn.1.1, hn.1.2, hn.2.1, hn.2.2⟩, k _ H2 (e1.trans e2) (ylds_rng m _)⟩
      · cases e
    · cases e
theorem ylds_list {Ok : Hp → Prop} {a : Addr} {us : List V} {xs : List PyData} (hl : us.length = xs.length) (hq : ∀ Hc, Ok Hc → SqL F.G.K Hc a us ∧ RDs F ℓ Hc xs us) : Ylds F Ok ℓ (Itl F.G.K a) xs where
  go := fun Hc i o hi => ⟨us, us[i]'(by omega), (hq Hc o).1, List.getElem?_eq_getElem (by omega)⟩
  yl := fun Hc i x Hn d o hd hy => by
    obtain ⟨rfl, hy⟩ := hy
    obtain ⟨q, r⟩ := hq Hn o
    obtain ⟨v, h1, h2⟩ := r.get hd
    rw [hy us q] at h1
    cases h1
    exact ⟨Ex.refl _, h2⟩
  st := fun Hc i o hi => ⟨us, (hq Hc o).1, by omega⟩
theorem ylds_tup {Ok : Hp → Prop} {a : Addr} {us : List V} {xs : List PyData} (hl : us.length = xs.length) (hq : ∀ Hc, Ok Hc → SqT F.G.K Hc a us ∧ RDs F ℓ Hc xs us) : Ylds F Ok ℓ (Itt F.G.K a) xs where
  go := fun Hc i o hi => ⟨us, us[i]'(by omega), (hq Hc o).1, List.getElem?_eq_getElem (by omega)⟩
  yl := fun Hc i x Hn d o hd hy => by
    obtain ⟨rfl, hy⟩ := hy
    obtain ⟨q, r⟩ := hq Hn o
    obtain ⟨v, h1, h2⟩ := r.get hd
    rw [hy us q] at h1
    cases h1
    exact ⟨Ex.refl _, h2⟩
  st := fun Hc i o hi => ⟨us, (hq Hc o).1, by omega⟩
/-- within an expression: a list or a tuple of the moment -/
theorem si_seqN (hK : X.K = F.G.K) (ha : SimQ X F .mo a qa) : SimI X F OkP ℓ tg a (iSeqN qa) := PIimp (PIor (pi_list ha) (pi_tup ha)) fun σ H Q ⟨env, h, A, z, R, e, k⟩ => by
  obtain ⟨x, ex, e⟩ := bind_some e
  obtain ⟨xs, ey, e⟩ := bind_some e
  split at e
  · next hn =>
    cases e
    rw [hK]
    unfold seqOf at ey
    split at ey
    · cases ey
      refine .inl ⟨env, h, A, _, R, ex, fun v H1 e1 rv => ?_⟩
      obtain ⟨a, us, rfl, q, r⟩ := rl rv
      exact ⟨a, rfl, ⟨us, q⟩, k _ H1 e1 (ylds_list r.len fun Hc o => ⟨ex_l o q, (RDs.ex o (RepAll.nl (L' := LPof F H1 ℓ) _ _ hn r))⟩)⟩
    · cases ey
      refine .inr ⟨env, h, A, _, R, ex, fun v H1 e1 rv => ?_⟩
      obtain ⟨a, us, rfl, q, r⟩ := rt rv
      exact ⟨a, rfl, ⟨us, q⟩, k _ H1 e1 (ylds_tup r.len fun Hc o => ⟨ex_t o q, (RDs.ex o (RepAll.nl (L' := LPof F H1 ℓ) _ _ hn r))⟩)⟩
    · cases ey
  · cases e
theorem si_seqF (hK : X.K = F.G.K) (ha : SimQ X F .fs a qa) : SimI X F OkP .fs tg a (iSeq qa) := PIimp (PIor (pi_list ha) (pi_tup ha)) fun σ H Q ⟨env, h, A, z, R, e, k⟩ => by
  obtain ⟨x, ex, ey⟩ := bind_some e
  rw [hK]
  unfold seqOf at ey
  split at ey
  · cases ey
    refine .inl ⟨env, h, A, _, R, ex, fun v H1 e1 rv => ?_⟩
    obtain ⟨a, us, rfl, q, r⟩ := rl rv
    exact ⟨a, rfl, ⟨us, LPof_sq (R.ex e1) q⟩, k _ H1 e1 (ylds_list r.len fun Hc o => ⟨ex_l o (LPof_sq (R.ex e1) q), RDs.ex o r⟩)⟩
  · cases ey
    refine .inr ⟨env, h, A, _, R, ex, fun v H1 e1 rv => ?_⟩
    obtain ⟨a, us, rfl, q, r⟩ := rt rv
    exact ⟨a, rfl, ⟨us, q⟩, k _ H1 e1 (ylds_tup r.len fun Hc o => ⟨ex_t o q, RDs.ex o r⟩)⟩
  · cases ey
/-- within statements: what stays -/
theorem si_seqS (hK : X.K = F.G.K) (ha : SimQ X F .fs a qa) : SimI X F OkS .fs tg a (iSeq qa) := PIimp (PIor (pi_list ha) (pi_tup ha)) fun σ H Q ⟨env, h, A, z, R, e, k⟩ => by
  obtain ⟨x, ex, ey⟩ := bind_some e
  rw [hK]
  unfold seqOf at ey
  split at ey
  · cases ey
    refine .inl ⟨env, h, A, _, R, ex, fun v H1 e1 rv => ?_⟩
    obtain ⟨a, us, rfl, q, r⟩ := rl rv
    exact ⟨a, rfl, ⟨us, LPof_sq (R.ex e1) q⟩, k _ H1 e1 (ylds_list r.len fun Hc ⟨P, _, _, _, _, S⟩ => ⟨LPof_sq (ℓ := .fs) S (Pres.fL P _ _ q), RepAll.mono P.sqT (Pres.fL P) _ _ r⟩)⟩
  · cases ey
    refine .inr ⟨env, h, A, _, R, ex, fun v H1 e1 rv => ?_⟩
    obtain ⟨a, us, rfl, q, r⟩ := rt rv
    exact ⟨a, rfl, ⟨us, q⟩, k _ H1 e1 (ylds_tup r.len fun Hc ⟨P, _⟩ => ⟨P.sqT _ _ q, RepAll.mono P.sqT (Pres.fL P) _ _ r⟩)⟩
  · cases ey
end

/-! ### targets -/
abbrev B1 := PyData → En → Option En
abbrev Bs := List PyData → En → Option En
def tGt (F : Fm) (ss : List Nat) (b : B1) : TG := fun v σ H Q => ∃ env h A d env', SR F env h A σ H ∧ RD F .fs H d v ∧ b d env = some env' ∧
  ∀ σ' H', Ex H H' → SR F env' h A σ' H' → σ'.length = σ.length → (∀ i, i ∉ ss → σ'[i]? = σ[i]?) → Q σ' H'
def tGts (F : Fm) (ss : List Nat) (b : Bs) : TGs := fun vs σ H Q => ∃ env h A ds env', SR F env h A σ H ∧ RDs F .fs H ds vs ∧ b ds env = some env' ∧
  ∀ σ' H', Ex H H' → SR F env' h A σ' H' → σ'.length = σ.length → (∀ i, i ∉ ss → σ'[i]? = σ[i]?) → Q σ' H'
theorem PGimp {X : Cx} {e : Expr} {t t' : TG} (h : PG X e t) (i : ∀ v σ H Q, t' v σ H Q → t v σ H Q) : PG X e t' := ⟨fun pins s σ H v u Q I r q => h.run pins s σ H v u Q I r (i v σ H Q q)⟩
theorem PGsimp {X : Cx} {e : List Expr} {t t' : TGs} (h : PGs X e t) (i : ∀ v σ H Q, t' v σ H Q → t v σ H Q) : PGs X e t' := ⟨fun pins s σ H v u Q I r q => h.run pins s σ H v u Q I r (i v σ H Q q)⟩
def bName (i : Nat) : B1 := fun d env => some (env.set i (.d d))
def bNil : Bs := fun ds env => match ds with
  | [] => some env
  | _ => none
def bCons (b : B1) (r : Bs) : Bs := fun ds env => match ds with
  | d :: ds => (b d env).bind fun env => r ds env
  | [] => none
def bTup (n : Nat) (r : Bs) : B1 := fun d env => match d with
  | .tuple ds => if ds.length = n then r ds env else none
  | _ => none
section
variable {F : Fm} {X : Cx} {tg a b c e : Expr} {es rest : List Expr} {pos p : Pos} {ss ss' : List Nat}
theorem sg_name {i : Nat} {x : Str} (hN : X.N.Nodup) (hi : X.N[i]? = some x) (hx : Loc X.env.scope x) (hf : X.fn x = true ∨ X.env.scope.names.lookup x = some .local := by first | exact .inl rfl | exact .inr rfl | assumption) : PG X (.Name x pos) (tGt F [i] (bName i)) :=
  PGimp (pg_name hN hi hx hf) fun v σ H Q ⟨env, h, A, d, env', R, r, e, k⟩ => by
    cases e
    exact k _ H (Ex.refl H) (R.setV r) (by simp) fun j hj => List.getElem?_set_ne (by simpa using fun e : i = j => hj (by simp [e]))
theorem sgs_nil : PGs X [] (tGts F [] bNil) := PGsimp pgs_nil fun v σ H Q ⟨env, h, A, ds, env', R, r, e, k⟩ => by
  cases ds with
  | nil =>
    cases e
    simp only [RepAll] at r
    exact ⟨r, k σ H (Ex.refl H) R rfl fun _ _ => rfl⟩
  | cons _ _ => cases e
theorem sgs_cons {bn : B1} {bs : Bs} (h1 : PG X e (tGt F ss bn)) (h2 : PGs X es (tGts F ss' bs)) (hs : (assignEach (e :: es) X.env).map (·.2) = assign e X.env :: (assignEach es X.env).map (·.2) := by rfl) : PGs X (e :: es) (tGts F (ss ++ ss') (bCons bn bs)) :=
  PGsimp (pgs_cons h1 h2 hs) fun v σ H Q ⟨env, h, A, ds, env', R, r, e, k⟩ => by
    cases ds with
    | nil => cases e
    | cons d ds =>
      obtain ⟨env1, e1, e2⟩ := bind_some e
      simp only [RepAll] at r
      obtain ⟨w, us, rfl, rw, rus⟩ := r
      refine ⟨w, us, rfl, env, h, A, d, env1, R, rw, e1, fun σ1 H1 x1 R1 l1 s1 => ?_⟩
      refine ⟨env1, h, A, ds, env', R1, RepAll.mono (Ex.pres x1).sqT (Pres.fL (Ex.pres x1)) _ _ rus, e2, fun σ2 H2 x2 R2 l2 s2 => ?_⟩
      exact k σ2 H2 (x1.trans x2) R2 (l2.trans l1) fun i hi => by
        simp only [List.mem_append, not_or] at hi
        exact (s2 i hi.2).trans (s1 i hi.1)
theorem sg_tup {bs : Bs} {n k : Nat} (hK : X.K = F.G.K) (hc : X.calm = true) (h : PGs X es (tGts F ss bs)) (hn : (assignEach es X.env).length = n := by rfl) (hst : (assignEach es X.env).findIdx? (·.1) = none := by rfl) : PG X (.Tuple es k pos) (tGt F ss (bTup n bs)) :=
  PGimp (pg_tup hc h hn hst) fun v σ H Q ⟨env, h, A, d, env', R, r, e, k⟩ => by
    unfold bTup at e
    split at e
    · next ds =>
      split at e
      · next hl =>
        obtain ⟨a, us, rfl, t, rs⟩ := rep_tup r
        exact ⟨a, us, rfl, by rw [hK]; exact t, by rw [rs.len]; exact hl, env, h, A, ds, env', R, rs, e, k⟩
      · cases e
    · cases e
end

/-! ### comprehensions -/
def wipeE (env : En) : List Nat → En
  | [] => env
  | v :: vs => (wipeE env vs).set v .un
theorem SR.wipe {F : Fm} {env : En} {h : Hs} {A : As} {σ : L2.St} {H : Hp} (R : SR F env h A σ H) : ∀ vs : List Nat, SR F (wipeE env vs) h A (L2.wipe σ vs) H
  | [] => R
  | v :: vs => (R.wipe vs).setUn'
theorem wipe_len (σ : L2.St) : ∀ vs : List Nat, (L2.wipe σ vs).length = σ.length := L2.wipe_length σ
theorem wipe_get {σ : L2.St} {i : Nat} : ∀ {vs : List Nat}, i ∈ vs → i < σ.length → (L2.wipe σ vs)[i]? = some none
  | v :: vs, hi, hl => by
    show ((L2.wipe σ vs).set v none)[i]? = some none
    by_cases e : v = i
    · subst e; rw [List.getElem?_set_self (by rw [wipe_len]; exact hl)]
    · rw [List.getElem?_set_ne e]
      refine wipe_get ?_ hl
      rcases List.mem_cons.mp hi with z | z
      · exact absurd z.symm e
      · exact z
theorem wipe_not {σ : L2.St} {i : Nat} : ∀ {vs : List Nat}, i ∉ vs → (L2.wipe σ vs)[i]? = σ[i]?
  | [], _ => rfl
  | v :: vs, hi => by
    simp only [List.mem_cons, not_or] at hi
    show ((L2.wipe σ vs).set v none)[i]? = _
    rw [List.getElem?_set_ne (Ne.symm hi.1)]
    exact wipe_not hi.2
theorem wipe_eq {σ σ' : L2.St} {vs ss : List Nat} (hl : σ'.length = σ.length) (hs : ∀ i, i ∉ ss → σ'[i]? = σ[i]?) (hv : ∀ i, i ∈ ss → i ∈ vs) : L2.wipe σ' vs = L2.wipe σ vs := by
  apply List.ext_getElem?
  intro i
  by_cases hi : i ∈ vs
  · by_cases hlt : i < σ.length
    · rw [wipe_get hi hlt, wipe_get hi (by omega)]
    · rw [List.getElem?_eq_none (by rw [wipe_len]; omega), List.getElem?_eq_none (by rw [wipe_len]; omega)]
  · rw [wipe_not hi, wipe_not hi]
    exact hs i fun z => hi (hv i z)
def lcGo (step : PyData → Option (Option PyData)) : List PyData → Option (List PyData)
  | [] => some []
  | x :: xs => (step x).bind fun o => (lcGo step xs).bind fun r => some (match o with
    | some y => y :: r
    | none => r)
theorem lcGo_app {step : PyData → Option (Option PyData)} : ∀ {xs ys : List PyData} {r : List PyData}, lcGo step (xs ++ ys) = some r → ∃ a b, lcGo step xs = some a ∧ lcGo step ys = some b ∧ r = a ++ b
  | [], ys, r, e => ⟨[], r, rfl, e, rfl⟩
  | x :: xs, ys, r, e => by
    obtain ⟨o, eo, e⟩ := bind_some e
    obtain ⟨q, eq, e⟩ := bind_some e
    obtain ⟨a, b, ea, eb, rfl⟩ := lcGo_app eq
    cases e
    refine ⟨_, b, by rw [lcGo, eo, Option.bind_some, ea, Option.bind_some], eb, ?_⟩
    cases o <;> rfl
def lcStep (vs : List Nat) (bn : B1) (tt : T1) (te : Q1) (env : En) (h : Hs) (d : PyData) : Option (Option PyData) :=
  (bn d (wipeE env vs)).bind fun env1 => (tt env1 h).bind fun b => if b = true then (te env1 h).bind fun y => (dOf y).bind fun y => some (some y) else some none
def fLc (it : I1) (vs : List Nat) (bn : B1) (tt : T1) (te : Q1) : En → Hs → Option (List PyData) := fun env h => (it env h).bind fun xs =>
  (lcGo (lcStep vs bn tt te env h) xs).bind fun ys => if ys.length ≤ sizeLine then some ys else none
def tTrue : T1 := fun _ _ => some true
section
variable {F : Fm} {X : Cx} {tg iter elt : Expr} {ifs : List Expr} {pos : Pos} {ss : List Nat} {scope : Scope} {own : List (Str × Nat)} {it : I1} {bn : B1} {tt : T1} {te : Q1}
theorem lc_read {σ : L2.St} {H : Hp} {Q : VK} {vs : List Nat} (hv : ∀ i, i ∈ ss → i ∈ vs) (hq : tF F (fLc it vs bn tt te) σ H Q) : tLc (tI F OkP .fs it) (tGt F ss bn) (tT F tt) (tQ F .st te) vs σ H Q := by
  obtain ⟨env, h, A, ys, R, e, k⟩ := hq
  obtain ⟨xs, ex, e⟩ := bind_some e
  obtain ⟨zs, ez, e⟩ := bind_some e
  split at e
  · next hl =>
    cases e
    refine ⟨env, h, A, xs, R, ex, fun J H1 e1 Y D hD => ?_⟩
    have nD : ∀ Hc, Ex H1 Hc → ∀ us, Hc D = some (.lst us) → Ex H Hc := fun Hc z _ _ => e1.trans z
    refine ⟨fun i m Hc => m = xs.length - i ∧ i ≤ xs.length ∧ Ex H1 Hc ∧ ∃ acc us, lcGo (lcStep vs bn tt te env h) (xs.take i) = some acc ∧ Hc D = some (.lst us) ∧ RDs F .st Hc acc us,
      ⟨xs.length, by simp, Nat.zero_le _, Ex.new hD, [], [], rfl, upd_same, .nil⟩, ?_⟩
    rintro i m Hc ⟨rfl, hi, z, acc, us, ea, hu, ru⟩
    by_cases hlt : i < xs.length
    · refine .inr ⟨Y.go Hc i z hlt, fun H' => i + 1 ≤ xs.length ∧ Ex H1 H' ∧ ∃ acc us, lcGo (lcStep vs bn tt te env h) (xs.take (i + 1)) = some acc ∧ H' D = some (.lst us) ∧ RDs F .st H' acc us,
        fun H' ⟨h1, h2, h3⟩ => ⟨xs.length - (i + 1), by omega, rfl, h1, h2, h3⟩, fun x Hn hy => ?_⟩
      obtain ⟨zn, rx⟩ := Y.yl Hc i x Hn _ z (List.getElem?_eq_getElem hlt) hy
      -- the turn's own step
      have esp : xs = xs.take i ++ xs[i] :: xs.drop (i + 1) := by rw [← List.drop_eq_getElem_cons hlt, List.take_append_drop]
      have es : lcGo (lcStep vs bn tt te env h) (xs.take i ++ xs[i] :: xs.drop (i + 1)) = some ys := by rw [← esp]; exact ez
      obtain ⟨a', b', ha', hb', hab⟩ := lcGo_app es
      rw [ea] at ha'; cases ha'
      obtain ⟨o, eo, hb'⟩ := bind_some hb'
      obtain ⟨env1, eb, eo'⟩ := bind_some eo
      obtain ⟨c, ec, eo'⟩ := bind_some eo'
      have et : lcGo (lcStep vs bn tt te env h) (xs.take (i + 1)) = some (acc ++ (match o with | some y => [y] | none => [])) := by
        rw [List.take_add_one, List.getElem?_eq_getElem hlt]
        have : ∀ l : List PyData, lcGo (lcStep vs bn tt te env h) l = some acc → lcGo (lcStep vs bn tt te env h) (l ++ [xs[i]]) = some (acc ++ (match o with | some y => [y] | none => [])) := by
          intro l
          generalize acc = ac
          induction l generalizing ac with
          | nil =>
            intro q
            cases q
            show lcGo _ [xs[i]] = _
            simp only [lcGo, eo, Option.bind_some]
            cases o <;> rfl
          | cons y l ih =>
            intro q
            obtain ⟨o1, q1, q⟩ := bind_some q
            obtain ⟨r1, q2, q⟩ := bind_some q
            cases q
            show lcGo _ (y :: (l ++ [xs[i]])) = _
            simp only [lcGo, q1, Option.bind_some, ih r1 q2]
            cases o1 <;> rfl
        exact this _ ea
      have S0 : SR F (wipeE env vs) h A (L2.wipe σ vs) Hn := ((R.ex e1).ex (z.trans zn)).wipe vs
      refine ⟨_, h, A, xs[i], env1, S0, rx, eb, fun σ2 H2 x2 R2 l2 s2 => ⟨?_, env1, h, A, c, R2, ec, fun H3 x3 => ?_⟩⟩
      · rw [wipe_eq (σ := L2.wipe σ vs) l2 s2 hv]
        exact wipe_eq (ss := vs) (wipe_len _ _) (fun i hi => wipe_not hi) fun _ z => z
      · have zt : Ex Hc H3 := (zn.trans x2).trans x3
        cases c with
        | false =>
          cases eo'
          refine ⟨hlt, z.trans zt, acc, us, by rw [et]; simp, zt D _ hu, RDs.ex zt ru⟩
        | true =>
          obtain ⟨y, ey, eo'⟩ := bind_some eo'
          obtain ⟨y', ey', eo'⟩ := bind_some eo'
          cases eo'
          refine ⟨env1, h, A, y, R2.ex x3, ey, fun v H4 x4 rv => ⟨us, (zt.trans x4) D _ hu, ?_, hlt, Ex.mut (z.trans (zt.trans x4)) hD, _, us ++ [v], et, upd_same, ?_⟩⟩
          · rw [ru.len]
            have : (acc ++ [y']).length ≤ ys.length := by
              rw [hab]
              obtain ⟨r2, q2, q3⟩ := bind_some hb'
              cases q3
              simp
            have hh : acc.length + 1 ≤ ys.length := by simpa using this
            omega
          · have P : Pres H4 (upd H4 D (.lst (us ++ [v]))) := Pres.upd fun u eu => by
              rw [(zt.trans x4) D _ hu] at eu; cases eu
              exact ⟨fun _ q => (by cases q), fun _ _ q => (by cases q)⟩
            refine RepAll.append (RepAll.mono P.sqT P.sL _ _ (RDs.ex (zt.trans x4) ru)) (.cons ?_ .nil)
            cases y with
            | d yy => cases ey'; exact Rep.mono P.sqT P.sL _ _ rv
            | ref n => cases ey'
            | fn n => cases ey'
    · have e0 : i = xs.length := by omega
      subst e0
      rw [List.take_length, ez] at ea
      cases ea
      exact .inl ⟨Y.st Hc _ z (Nat.le_refl _), k D us Hc (fresh_back e1 hD) (e1.trans z) hu ru⟩
  · cases e
theorem sf_lc (hc : X.calm = true) (hN : X.N.Nodup) (hi : SimI X F OkP .fs tg iter it) (ok : blkC X.N X.env.scope scope own = true) (hv : (ss.all fun i => (own.map (·.2)).contains i) = true)
    (hg : ∀ (s : Shared) (H : Hp) (C : Addr) (cl : List (Str × Addr)) (fp : List Addr), PG (X.blk s H scope (compEnvC scope cl C X.env) fp) tg (tGt F ss bn)) (ht : ∀ (s : Shared) (H : Hp) (C : Addr) (cl : List (Str × Addr)) (fp : List Addr), PTs (X.blk s H scope (compEnvC scope cl C X.env) fp) ifs (tT F tt))
    (he : ∀ (s : Shared) (H : Hp) (C : Addr) (cl : List (Str × Addr)) (fp : List Addr), SimQ (X.blk s H scope (compEnvC scope cl C X.env) fp) F .st elt te) (hs : ∀ x, foldedSetIterable iter X.env x = pure x := by intro _; rfl) :
    SimF X F (.ListComp elt [⟨tg, iter, ifs, 0⟩] scope pos) (fLc it (own.map (·.2)) bn tt te) :=
  PEimp (pe_lc hc hN hi (blkOk_by ok) hg ht he hs) fun _ _ _ => lc_read fun i hi => by
    have := List.all_eq_true.mp hv i hi
    simpa using this
theorem sts_nil : PTs X [] (tT F tTrue) := ⟨fun pins s σ H Q I ⟨env, h, A, b, R, e, k⟩ => by
  cases e
  exact pts_nil.run pins s σ H Q I (k H (Ex.refl H))⟩
theorem sts_one {c : Expr} (h : SimT X F c tt) : PTs X [c] (tT F tt) := pts_one h
end
end Sm

set_option Elab.async false
set_option linter.all false
set_option maxRecDepth 100000
set_option maxHeartbeats 1000000
namespace Sm
open PySem L2 Evl

/-! ### a new list locked -/
section
variable {X : Cx} {pins : List (Addr × Obj)} {σ : L2.St} {H : Hp} {s : Shared} {a : Addr} {us : List V}
theorem froze (I : Inv X pins σ H s) (ha : H a = some (.lst us)) : ∃ o, Inv X pins σ (upd H a (.frz o (.lst us))) s := by
  obtain ⟨z, its, n, r, e⟩ := I.hok a _ ha
  refine ⟨{ cls := .type "list", data := .seq its.toArray n }, ?_⟩
  have ne : ∀ b u, H b = some u → u ≠ .lst us → b ≠ a := fun b u q w z => by rw [z, ha] at q; cases q; exact w rfl
  have kp : ∀ b u, H b = some u → u ≠ .lst us → (upd H a (.frz { cls := .type "list", data := .seq its.toArray n } (.lst us))) b = some u := fun b u q w => by rw [upd_ne (ne b u q w)]; exact q
  refine I.step (g' := s.gens) (d' := s.drawn) (t' := s.toks) (h' := s.heap) (ch := []) (fun _ z => nomatch z) (fun b o _ _ _ e _ => e) (fun b o _ _ _ e _ => ⟨o.slots, e⟩) (fun b o _ _ q => ?_) (fun b o _ e => ⟨o, e⟩) (fun b xs q => kp b _ q (by simp)) (fun b o u q => kp b _ q (by simp)) (fun b ps q => ⟨#[], by rw [kp b _ q (by simp)]; simp⟩) (fun m z => z) ?_ I.bare
  · rw [upd_ne (fun z => by rw [z, ha] at q; cases q)]; exact q
  · intro b u q
    by_cases hb : b = a
    · subst hb
      rw [upd_same] at q; cases q
      exact ⟨e, z, its, n, r, e⟩
    · rw [upd_ne hb] at q
      exact (I.hok b u q).stay (fun c v _ q => q) (fun c q => kp c _ q (by simp)) (fun c xs q => kp c _ q (by simp))
end
theorem pe_lock {X : Cx} {e : Expr} {t : TE} (h : PE X e t) : PE X e (fun σ H Q => t σ H fun v H1 => ∃ a us, v = .ref a ∧ H1 a = some (.lst us) ∧ ∀ o, Q v (upd H1 a (.frz o (.lst us)))) := ⟨fun pins s σ H Q I q => by
  refine thn (h.run pins s σ H _ I q) fun v s1 ⟨x, H1, I1, r, a, us, e1, e2, k⟩ => ?_
  obtain ⟨o, I2⟩ := froze I1 e2
  exact ⟨x, _, I2, r, k o⟩⟩
/-- a new list, for ever -/
theorem sq_lock {F : Fm} {X : Cx} {e : Expr} {f : En → Hs → Option (List PyData)} (hf : SimF X F e f) : SimQ X F .st e (qF f) := PEimp (pe_lock hf) fun σ H Q ⟨env, h, A, z, R, e, k⟩ => by
  obtain ⟨xs, ex, e⟩ := bind_some e
  cases e
  refine ⟨env, h, A, xs, R, ex, fun p us H1 hp e1 hv rs => ⟨p, us, rfl, hv, fun o => k _ _ (fun b u q => ?_) ?_⟩⟩
  · rw [upd_ne (ne_of_none q hp)]; exact e1 b u q
  · have P : Pres H1 (upd H1 p (.frz o (.lst us))) := Pres.upd fun u eu => by
      rw [hv] at eu; cases eu
      exact ⟨fun _ q => (by cases q), fun _ _ q => (by cases q)⟩
    exact vl (ℓ := .st) (.inl ⟨o, upd_same⟩) (RepAll.mono P.sqT P.sL _ _ rs)

/-! ### statements -/
inductive Flo where
  | nx | rt (ℓ : Lv) (x : Val) | rf (xs : List PyData) | bk | ct | ex (j : Nat) (n : Int)
abbrev M1 := En → Hs → Option (Flo × En × Hs)
/-- what is wanted behind, by the way it ends -/
def Post (F : Fm) (H : Hp) (D : Ends) (r : Flo) (env' : En) (h' : Hs) : Prop := match r with
  | .nx => ∀ σ' H' A', SR F env' h' A' σ' H' → Pres H H' → D.nx σ' H'
  | .bk => ∀ σ' H' A', SR F env' h' A' σ' H' → Pres H H' → D.bk σ' H'
  | .ct => ∀ σ' H' A', SR F env' h' A' σ' H' → Pres H H' → D.ct σ' H'
  | .rt ℓ x => ∀ σ' H' A' v, SR F env' h' A' σ' H' → Pres H H' → RV F ℓ h' A' H' x v → D.rt v H'
  | .rf xs => ∀ σ' H' A' p us, SR F env' h' A' σ' H' → Pres H H' → F.H0 p = none → H' p = some (.lst us) → (∀ q, hlive h' q → A' q ≠ p) → RDs F .st H' xs us → D.rt (.ref p) H'
  | .ex j n => ∀ σ' H' A' d, SR F env' h' A' σ' H' → Pres H H' → H' d = some (.xd [(("place" : Str), V.int n)]) → F.wx (.ref (F.xc j)) (some d) σ' H'
def tS (F : Fm) (m : M1) : TS := fun D σ H => ∃ env h A r env' h', SR F env h A σ H ∧ m env h = some (r, env', h') ∧ Post F H D r env' h'
theorem Post.pre {F : Fm} {H H1 : Hp} {D : Ends} {r : Flo} {env' : En} {h' : Hs} (P : Pres H H1) (q : Post F H D r env' h') : Post F H1 D r env' h' := by
  cases r with
  | nx => exact fun σ' H' A' R p => q σ' H' A' R (P.trans p)
  | bk => exact fun σ' H' A' R p => q σ' H' A' R (P.trans p)
  | ct => exact fun σ' H' A' R p => q σ' H' A' R (P.trans p)
  | rt ℓ x => exact fun σ' H' A' v R p => q σ' H' A' v R (P.trans p)
  | rf xs => exact fun σ' H' A' p us R pp => q σ' H' A' p us R (P.trans pp)
  | ex j n => exact fun σ' H' A' d R pp => q σ' H' A' d R (P.trans pp)
/-- only what follows differs -/
theorem Post.ends {F : Fm} {H : Hp} {D D' : Ends} {r : Flo} {env' : En} {h' : Hs} (q : Post F H D r env' h') (hn : r = .nx → ∀ σ' H' A', SR F env' h' A' σ' H' → Pres H H' → D'.nx σ' H') (hb : r = .bk → ∀ σ' H' A', SR F env' h' A' σ' H' → Pres H H' → D'.bk σ' H')
    (hc : r = .ct → ∀ σ' H' A', SR F env' h' A' σ' H' → Pres H H' → D'.ct σ' H') (hr : D'.rt = D.rt) : Post F H D' r env' h' := by
  cases r with
  | nx => exact hn rfl
  | bk => exact hb rfl
  | ct => exact hc rfl
  | rt ℓ x => exact fun σ' H' A' v R p z => by rw [hr]; exact q σ' H' A' v R p z
  | rf xs => exact fun σ' H' A' p us R pp z1 z2 z3 z4 => by rw [hr]; exact q σ' H' A' p us R pp z1 z2 z3 z4
  | ex j n => exact q
theorem PSimp {X : Cx} {st : Stmt} {t t' : TS} (h : PS X st t) (i : ∀ D σ H, t' D σ H → t D σ H) : PS X st t' := ⟨fun pins s σ H D I q => h.run pins s σ H D I (i D σ H q)⟩
theorem PSsimp {X : Cx} {st : List Stmt} {t t' : TS} (h : PSs X st t) (i : ∀ D σ H, t' D σ H → t D σ H) : PSs X st t' := ⟨fun pins s σ H D I q => h.run pins s σ H D I (i D σ H q)⟩
abbrev SimS (X : Cx) (F : Fm) (st : Stmt) (m : M1) : Prop := PS X st (tS F m)
abbrev SimB (X : Cx) (F : Fm) (sts : List Stmt) (m : M1) : Prop := PSs X sts (tS F m)
def mNx : M1 := fun env h => some (.nx, env, h)
def mSeq (a b : M1) : M1 := fun env h => (a env h).bind fun r => match r.1 with
  | .nx => b r.2.1 r.2.2
  | _ => some r
def mRet (ℓ : Lv) (q : Q1) : M1 := fun env h => (q env h).bind fun x => some (.rt ℓ x, env, h)
def mRetF (f : I1) : M1 := fun env h => (f env h).bind fun x => some (.rf x, env, h)
def mRetN : M1 := fun env h => some (.rt .st (.d .none), env, h)
def mRetO (i : Nat) : M1 := fun env h => match env[i]? with
  | some (.l xs) => some (.rf xs, env, h)
  | _ => none
def mIf (t : T1) (a b : M1) : M1 := fun env h => (t env h).bind fun c => if c = true then a env h else b env h
def mSet (i : Nat) (q : Q1) : M1 := fun env h => (q env h).bind fun x => some (.nx, env.set i (.v x), h)
def mSetO (i : Nat) (f : I1) : M1 := fun env h => (f env h).bind fun xs => some (.nx, env.set i (.l xs), h)
def mBk : M1 := fun env h => some (.bk, env, h)
def mCt : M1 := fun env h => some (.ct, env, h)
/-- forget, then go on -/
def mPre (vs : List Nat) (m : M1) : M1 := fun env h => m (wipeE env vs) h
/-- a slot's own list locked, then go on -/
def mLock (i : Nat) (m : M1) : M1 := fun env h => match env[i]? with
  | some (.l xs) => m (env.set i (.d (.list xs))) h
  | _ => none
section
variable {F : Fm} {X : Cx} {st : Stmt} {sts rest : List Stmt} {e c : Expr} {pos : Pos} {m n : M1} {ℓ : Lv} {q : Q1} {f : I1} {t : T1}
theorem sb_nil : SimB X F [] mNx := PSsimp pss_nil fun D σ H ⟨env, h, A, r, env', h', R, e, k⟩ => by
  cases e
  exact k σ H A R (Pres.refl H)
theorem sb_cons (h1 : SimS X F st m) (h2 : SimB X F rest n) : SimB X F (st :: rest) (mSeq m n) := PSsimp (pss_cons h1 h2) fun D σ H ⟨env, h, A, r, env', h', R, e, k⟩ => by
  obtain ⟨⟨r1, env1, h1⟩, e1, e2⟩ := bind_some e
  refine ⟨env, h, A, r1, env1, h1, R, e1, ?_⟩
  cases r1 with
  | nx => exact fun σ' H' A' R' P => ⟨env1, h1, A', r, env', h', R', e2, k.pre P⟩
  | bk => cases e2; exact k
  | ct => cases e2; exact k
  | rt ℓ x => cases e2; exact k
  | rf xs => cases e2; exact k
  | ex _ _ => cases e2; exact k
theorem sb_one (h1 : SimS X F st m) : SimB X F [st] m := pss_one h1
theorem ss_ret (he : SimQ X F ℓ e q) : SimS X F (.Return (some e) pos) (mRet ℓ q) := PSimp (ps_ret he) fun D σ H ⟨env, h, A, r, env', h', R, e, k⟩ => by
  obtain ⟨x, ex, e⟩ := bind_some e
  cases e
  exact ⟨env, h, A, x, R, ex, fun v H1 e1 rv => k σ H1 A v (R.ex e1) (Ex.pres e1) rv⟩
theorem ss_retF (he : SimF X F e f) : SimS X F (.Return (some e) pos) (mRetF f) := PSimp (ps_ret he) fun D σ H ⟨env, h, A, r, env', h', R, e, k⟩ => by
  obtain ⟨x, ex, e⟩ := bind_some e
  cases e
  exact ⟨env, h, A, x, R, ex, fun p us H1 hp e1 hv rs => k σ H1 A p us (R.ex e1) (Ex.pres e1) (R.fresh hp).f0 hv (fun q hq => (R.fresh hp).fp q hq.live) rs⟩
theorem ss_retN : SimS X F (.Return none pos) mRetN := PSimp ps_retN fun D σ H ⟨env, h, A, r, env', h', R, e, k⟩ => by
  cases e
  exact k σ H A _ R (Pres.refl H) vn
theorem ss_retO (i : Nat) {x : Str} {p2 : Pos} (hN : X.N[i]? = some x := by rfl) (hv : Vis X.env.scope x := by first | exact Or.inl rfl | exact Or.inr (Or.inl rfl) | exact Or.inr (Or.inr rfl)) (hd : (x == ("__debug__" : Str)) = false := by decide)
    (hcd : (x == ("__classdict__" : Str)) = false := by decide) : SimS X F (.Return (some (.Name x p2)) pos) (mRetO i) := PSimp (ps_ret (pe_var hN hv hd hcd)) fun D σ H ⟨env, h, A, r, env', h', R, e, k⟩ => by
  unfold mRetO at e
  split at e
  · next xs hy =>
    cases e
    obtain ⟨e1, us, e2, rs⟩ := R.sl i _ hy
    have lv : live env h (.s i) := ⟨_, hy, rfl⟩
    refine ⟨.ref (A (.s i)), ?_, k σ H A _ us R (Pres.refl H) (R.ow i lv) e2 (fun q hq z => ?_) rs⟩
    · cases hs : σ[i]? with
      | none => rw [hs] at e1; cases e1
      | some o => rw [hs] at e1; exact congrArg some e1
    · have := R.ij _ _ hq.live lv z
      subst this
      exact hq
  · cases e
theorem ss_if {a b : List Stmt} {ma mb : M1} (hc : SimT X F c t) (ha : SimB X F a ma) (hb : SimB X F b mb) : SimS X F (.If c a b pos) (mIf t ma mb) := PSimp (ps_if hc ha hb) fun D σ H ⟨env, h, A, r, env', h', R, e, k⟩ => by
  obtain ⟨d, ed, e⟩ := bind_some e
  refine ⟨env, h, A, d, R, ed, fun H1 e1 => ?_⟩
  cases d with
  | true => exact ⟨env, h, A, r, env', h', R.ex e1, e, k.pre (Ex.pres e1)⟩
  | false => exact ⟨env, h, A, r, env', h', R.ex e1, e, k.pre (Ex.pres e1)⟩
theorem ss_set {i : Nat} {x : Str} {p2 : Pos} (hN : X.N.Nodup) (hi : X.N[i]? = some x) (hx : Loc X.env.scope x) (he : SimQ X F .fs e q) (hs : swapsWith e (some (.Name x p2)) pos.line X.env = pure false := by rfl) (hf : X.fn x = true ∨ X.env.scope.names.lookup x = some .local := by first | exact .inl rfl | exact .inr rfl | assumption) :
    SimS X F (.Assign [.Name x p2] e pos) (mSet i q) := PSimp (ps_set hN hi hx he hs hf) fun D σ H ⟨env, h, A, r, env', h', R, e, k⟩ => by
  obtain ⟨x, ex, e⟩ := bind_some e
  cases e
  exact ⟨env, h, A, x, R, ex, fun v H1 e1 rv => k _ H1 A ((R.ex e1).setV rv) (Ex.pres e1)⟩
theorem SR.own {env : En} {h : Hs} {A : As} {σ : L2.St} {H H1 : Hp} {i : Nat} {xs : List PyData} {p : Addr} {us : List V} (R : SR F env h A σ H) (hp : H p = none) (e1 : Ex H H1) (hv : H1 p = some (.lst us)) (rs : RDs F .st H1 xs us) :
    SR F (env.set i (.l xs)) h (As.put A (.s i) p) (σ.set i (some (.ref p))) H1 :=
  (R.ex e1).setNew ⟨(R.fresh hp).f0, (R.fresh hp).fp⟩ rfl ⟨rfl, us, hv, rs⟩
theorem ss_setO {i : Nat} {x : Str} {p2 : Pos} (hN : X.N.Nodup) (hi : X.N[i]? = some x) (hx : Loc X.env.scope x) (he : SimF X F e f) (hs : swapsWith e (some (.Name x p2)) pos.line X.env = pure false := by rfl) (hf : X.fn x = true ∨ X.env.scope.names.lookup x = some .local := by first | exact .inl rfl | exact .inr rfl | assumption) :
    SimS X F (.Assign [.Name x p2] e pos) (mSetO i f) := PSimp (ps_set hN hi hx he hs hf) fun D σ H ⟨env, h, A, r, env', h', R, e, k⟩ => by
  obtain ⟨x, ex, e⟩ := bind_some e
  cases e
  exact ⟨env, h, A, x, R, ex, fun p us H1 hp e1 hv rs => k _ H1 _ (R.own hp e1 hv rs) (Ex.pres e1)⟩
theorem ss_break : SimS X F (.Break pos) mBk := PSimp ps_break fun D σ H ⟨env, h, A, r, env', h', R, e, k⟩ => by
  cases e
  exact k σ H A R (Pres.refl H)
theorem ss_continue : SimS X F (.Continue pos) mCt := PSimp ps_continue fun D σ H ⟨env, h, A, r, env', h', R, e, k⟩ => by
  cases e
  exact k σ H A R (Pres.refl H)
theorem ss_pass : SimS X F (.Pass pos) mNx := PSimp ps_pass fun D σ H ⟨env, h, A, r, env', h', R, e, k⟩ => by
  cases e
  exact k σ H A R (Pres.refl H)
theorem SR.wipeS {env : En} {h : Hs} {A : As} {σ : L2.St} {H : Hp} (R : SR F env h A σ H) : ∀ vs : List Nat, SR F (wipeE env vs) h A σ H
  | [] => R
  | v :: vs => (R.wipeS vs).setUn
theorem sb_pre (vs : List Nat) (h1 : SimB X F sts m) : SimB X F sts (mPre vs m) := PSsimp h1 fun D σ H ⟨env, h, A, r, env', h', R, e, k⟩ => ⟨_, h, A, r, env', h', R.wipeS vs, e, k⟩
theorem sb_lock (i : Nat) (h1 : SimB X F sts m) : SimB X F sts (mLock i m) := ⟨fun pins s σ H D I ⟨env, h, A, r, env', h', R, e, k⟩ => by
  unfold mLock at e
  split at e
  · next xs hy =>
    obtain ⟨e1, us, e2, rs⟩ := R.sl i _ hy
    obtain ⟨o, I2⟩ := froze I e2
    have P : Pres H (upd H (A (.s i)) (.frz o (.lst us))) := R.pres_at ⟨_, hy, rfl⟩
    exact h1.run pins s σ _ D I2 ⟨_, h, A, r, env', h', R.lockS hy e2, e, k.pre P⟩
  · cases e⟩
/-- targets -/
def mAsg (q : Q1) (b : B1) : M1 := fun env h => (q env h).bind fun x => (dOf x).bind fun d => (b d env).bind fun env' => some (.nx, env', h)
theorem ss_asg {tg : Expr} {ss : List Nat} {b : B1} (he : SimQ X F .fs e q) (hg : PG X tg (tGt F ss b)) (hs : swapsWithSole [tg] e pos.line X.env = pure false := by rfl) (hw : swappedStores [tg] e X.env = pure none := by rfl)
    (h1 : (assignEach [tg] X.env).map (·.2) = [assign tg X.env] := by rfl) : SimS X F (.Assign [tg] e pos) (mAsg q b) := PSimp (ps_asg he hg hs hw h1) fun D σ H ⟨env, h, A, r, env', h', R, e, k⟩ => by
  obtain ⟨x, ex, e⟩ := bind_some e
  obtain ⟨d, ed, e⟩ := bind_some e
  obtain ⟨env1, eb, e⟩ := bind_some e
  cases e
  refine ⟨env, h, A, x, R, ex, fun v H1 e1 rv => ⟨env, h, A, d, _, R.ex e1, ?_, eb, fun σ' H' x1 R1 _ _ => k σ' H' A R1 ((Ex.pres e1).trans (Ex.pres x1))⟩⟩
  cases x with
  | d y => cases ed; exact rv
  | ref n => cases ed
  | fn n => cases ed

/-! ### for, while -/
def forGo (vs : List Nat) (body : PyData → M1) : List PyData → M1
  | [], env, h => some (.nx, env, h)
  | x :: xs, env, h => (body x env h).bind fun r => match r.1 with
    | .nx => forGo vs body xs (wipeE r.2.1 vs) r.2.2
    | .ct => forGo vs body xs (wipeE r.2.1 vs) r.2.2
    | .bk => some (.nx, wipeE r.2.1 vs, r.2.2)
    | _ => some r
def mFor (it : I1) (vs : List Nat) (bn : B1) (body : M1) : M1 := fun env h => (it env h).bind fun xs => forGo vs (fun d env h => (bn d env).bind fun env1 => body env1 h) xs (wipeE env vs) h
theorem ss_for {tg iter : Expr} {body : List Stmt} {it : I1} {bn : B1} {ss : List Nat} {mb : M1} (vs : List Nat) (hp : PassesOwn (model X.prog X.w) X.A X.env X.xe) (hc : X.calm = true) (hi : SimI X F OkS .fs tg iter it) (hg : PG X tg (tGt F ss bn)) (hb : SimB X F body mb)
    (hs : ∀ x, foldedSetIterable iter X.env x = pure x := by intro _; rfl) : SimS X F (.For tg iter body [] pos) (mFor it vs bn mb) := PSimp (ps_for hp hc hi hg hb hs) fun D σ H ⟨env, h, A, r, env', h', R, e, k⟩ => by
  obtain ⟨xs, ex, e⟩ := bind_some e
  refine ⟨env, h, A, xs, R, ex, fun J H1 e1 Y => ?_⟩
  have k1 : Post F H1 D r env' h' := k.pre (Ex.pres e1)
  refine ⟨fun i m σ Hc => m = xs.length - i ∧ i ≤ xs.length ∧ Pres H1 Hc ∧ ∃ env h A, SR F env h A σ Hc ∧ forGo vs (fun d env h => (bn d env).bind fun env1 => mb env1 h) (xs.drop i) env h = some (r, env', h'),
    ⟨xs.length, by simp, Nat.zero_le _, Pres.refl _, _, h, A, (R.ex e1).wipeS vs, by simpa using e⟩, ?_⟩
  rintro i m σ Hc ⟨rfl, hi, P, env2, h2, A2, R2, e2⟩
  have ok : OkS F H1 Hc := ⟨P, env2, h2, A2, σ, R2⟩
  by_cases hlt : i < xs.length
  · rw [List.drop_eq_getElem_cons hlt] at e2
    obtain ⟨⟨r3, env3, h3⟩, e3, e4⟩ := bind_some e2
    obtain ⟨env4, e5, e6⟩ := bind_some e3
    refine .inr ⟨Y.go Hc i ok hlt, fun σ' H' => i + 1 ≤ xs.length ∧ Pres H1 H' ∧ ∃ env h A, SR F env h A σ' H' ∧ forGo vs (fun d env h => (bn d env).bind fun env1 => mb env1 h) (xs.drop (i + 1)) env h = some (r, env', h'),
      fun σ' H' ⟨a, b, c⟩ => ⟨xs.length - (i + 1), by omega, rfl, a, b, c⟩, fun x Hn hy => ?_⟩
    obtain ⟨zn, rx⟩ := Y.yl Hc i x Hn _ ok (List.getElem?_eq_getElem hlt) hy
    refine ⟨env2, h2, A2, xs[i], env4, R2.ex zn, rx, e5, fun σ5 H5 x5 R5 _ _ => ⟨env4, h2, A2, r3, env3, h3, R5, e6, ?_⟩⟩
    have P5 : Pres H1 H5 := (P.trans (Ex.pres zn)).trans (Ex.pres x5)
    cases r3 with
    | nx => exact fun σ' H' A' R' P' => ⟨hlt, P5.trans P', _, h3, A', R'.wipeS vs, e4⟩
    | ct => exact fun σ' H' A' R' P' => ⟨hlt, P5.trans P', _, h3, A', R'.wipeS vs, e4⟩
    | bk => cases e4; exact fun σ' H' A' R' P' => k1 σ' H' A' (R'.wipeS vs) (P5.trans P')
    | rt ℓ x => cases e4; exact k1.pre P5
    | rf xs => cases e4; exact k1.pre P5
    | ex _ _ => cases e4; exact k1.pre P5
  · have e0 : i = xs.length := by omega
    subst e0
    rw [List.drop_length] at e2
    cases e2
    exact .inl ⟨Y.st Hc _ ok (Nat.le_refl _), k1 σ Hc A2 R2 P⟩
def whGo (vs : List Nat) (t : T1) (body : M1) : Nat → M1
  | 0, _, _ => none
  | n + 1, env, h => (t env h).bind fun b => if b = true then (body env h).bind fun r => match r.1 with
      | .nx => whGo vs t body n (wipeE r.2.1 vs) r.2.2
      | .ct => whGo vs t body n (wipeE r.2.1 vs) r.2.2
      | .bk => some (.nx, wipeE r.2.1 vs, r.2.2)
      | _ => some r
    else some (.nx, env, h)
def mWhile (fuel : Nat) (vs : List Nat) (t : T1) (body : M1) : M1 := fun env h => whGo vs t body fuel (wipeE env vs) h
theorem ss_while {body : List Stmt} {mb : M1} (fuel : Nat) (vs : List Nat) (hp : PassesOwn (model X.prog X.w) X.A X.env X.xe) (hc : SimT X F c t) (hb : SimB X F body mb) : SimS X F (.While c body [] pos) (mWhile fuel vs t mb) := PSimp (ps_while hp hc hb) fun D σ H ⟨env, h, A, r, env', h', R, e, k⟩ => by
  refine ⟨fun m σ Hc => Pres H Hc ∧ ∃ env h A, SR F env h A σ Hc ∧ whGo vs t mb m env h = some (r, env', h'), ⟨fuel, Pres.refl _, _, h, A, R.wipeS vs, e⟩, ?_⟩
  rintro m σ Hc ⟨P, env2, h2, A2, R2, e2⟩
  cases m with
  | zero => cases e2
  | succ m =>
    obtain ⟨b, eb, e2⟩ := bind_some e2
    refine ⟨env2, h2, A2, b, R2, eb, fun H1 e1 => ?_⟩
    cases b with
    | false => cases e2; exact k σ H1 A2 (R2.ex e1) (P.trans (Ex.pres e1))
    | true =>
      obtain ⟨⟨r3, env3, h3⟩, e3, e4⟩ := bind_some e2
      refine ⟨fun σ' H' => Pres H H' ∧ ∃ env h A, SR F env h A σ' H' ∧ whGo vs t mb m env h = some (r, env', h'), fun σ' H' z => ⟨m, Nat.lt_succ_self _, z⟩, env2, h2, A2, r3, env3, h3, R2.ex e1, e3, ?_⟩
      have P5 : Pres H H1 := P.trans (Ex.pres e1)
      cases r3 with
      | nx => exact fun σ' H' A' R' P' => ⟨P5.trans P', _, h3, A', R'.wipeS vs, e4⟩
      | ct => exact fun σ' H' A' R' P' => ⟨P5.trans P', _, h3, A', R'.wipeS vs, e4⟩
      | bk => cases e4; exact fun σ' H' A' R' P' => k σ' H' A' (R'.wipeS vs) (P5.trans P')
      | rt ℓ x => cases e4; exact k.pre P5
      | rf xs => cases e4; exact k.pre P5
      | ex _ _ => cases e4; exact k.pre P5
end
end Sm

set_option Elab.async false
set_option linter.all false
set_option maxRecDepth 100000
set_option maxHeartbeats 1000000
namespace Sm
open PySem L2 Evl

/-! ### defs that write no object -/
def startE (k : Nat) (args : List Val) : En := args.map Sl.v ++ List.replicate k .un
def resD : Flo → Option Val
  | .rt _ (.d x) => some (.d x)
  | .rt _ (.fn j) => some (.fn j)
  | .rf xs => some (.d (.list xs))
  | .nx => some (.d .none)
  | _ => none
/-- the def as a function: k more slots than parameters -/
def runQ (k : Nat) (m : M1) : List Val → Hs → Option Val := fun args h => (m (startE k args) h).bind fun r => resD r.1
def runF (k : Nat) (m : M1) : List Val → Hs → Option (List PyData) := fun args h => (m (startE k args) h).bind fun r => match r.1 with
  | .rf xs => some xs
  | _ => none
def spQ (G : Glo) (n : Nat) (f : List Val → Hs → Option Val) : Sp := fun vs H Q _ => ∃ F env h A σ args x, F.G = G ∧ SR F env h A σ H ∧ Paired (fun x v => RV F .mo h A H x v) args vs ∧ args.length = n ∧ f args h = some x ∧ ∀ v H', Ex H H' → RV F .mo h A H' x v → Q v H'
def spF (G : Glo) (n : Nat) (f : List Val → Hs → Option (List PyData)) : Sp := fun vs H Q _ => ∃ F env h A σ args xs, F.G = G ∧ SR F env h A σ H ∧ Paired (fun x v => RV F .mo h A H x v) args vs ∧ args.length = n ∧ f args h = some xs ∧
  ∀ p us H', H p = none → Ex H H' → H' p = some (.lst us) → RDs F .st H' xs us → Q (.ref p) H'
theorem Paired.len {α β : Type} {f : α → β → Prop} : ∀ {l : List α} {m : List β}, Paired f l m → l.length = m.length
  | _, _, .nil => rfl
  | _, _, .cons _ t => congrArg (· + 1) (Paired.len t)
theorem Paired.get {α β : Type} {f : α → β → Prop} : ∀ {l : List α} {m : List β} {i : Nat} {x : α}, Paired f l m → l[i]? = some x → ∃ y, m[i]? = some y ∧ f x y
  | _, _, i, x, .nil, e => by simp at e
  | _, _, 0, x, .cons r _, e => by simp at e; subst e; exact ⟨_, rfl, r⟩
  | _, _, i + 1, x, .cons _ t, e => by
    obtain ⟨y, h1, h2⟩ := Paired.get (i := i) t (by simpa using e)
    exact ⟨y, by simpa using h1, h2⟩
section
variable {F : Fm} {env : En} {h h' : Hs} {A A' : As} {σ : L2.St} {H H' : Hp} {ℓ : Lv}
/-- a callee's slots at its start -/
theorem SR.args {N : List Str} {args : List Val} {vs : List V} (R : SR F [] h A [] H) (r : Paired (fun x v => RV F .fs h A H x v) args vs) (hl : args.length ≤ N.length) : SR F (startE (N.length - args.length) args) h A (L2.start N vs) H := by
  have hlen := Paired.len r
  have nl : ∀ p, live (startE (N.length - args.length) args) h p → live [] h p := fun p hp => by
    cases p with
    | s i =>
      obtain ⟨s, e, m⟩ := hp
      unfold startE at e
      by_cases hi : i < (args.map Sl.v).length
      · rw [List.getElem?_append_left hi, List.getElem?_map] at e
        obtain ⟨x, _, rfl⟩ := Option.map_eq_some_iff.mp e
        cases m
      · rw [List.getElem?_append_right (by omega)] at e
        have := List.eq_of_mem_replicate (List.mem_of_getElem? e)
        subst this
        cases m
    | o n => exact hp
    | f n j => exact hp
  refine ⟨R.fr, R.tp, R.fz, R.dm, R.le, R.oo, R.nw, fun i q => R.ow i (nl (.s i) q), ?_, fun i s e => ?_, R.ob, fun p q hp hq e => R.ij p q (nl p hp) (nl q hq) e⟩
  · simp [startE, L2.start, hlen]
  · unfold startE at e
    by_cases hi : i < (args.map Sl.v).length
    · rw [List.getElem?_append_left hi, List.getElem?_map] at e
      obtain ⟨x, ex, rfl⟩ := Option.map_eq_some_iff.mp e
      obtain ⟨v, ev, rv⟩ := Paired.get r ex
      refine ⟨v, ?_, rv⟩
      unfold L2.start
      rw [List.getElem?_append_left (by simpa [← hlen] using hi), List.getElem?_map, ev]
      rfl
    · rw [List.getElem?_append_right (by omega)] at e
      have := List.eq_of_mem_replicate (List.mem_of_getElem? e)
      subst this
      trivial
theorem cal_fs {G : Glo} (hG : F.G = G) {x : Val} {v : V} (r : RV F .mo h A H x v) : RV (Fm.cal G false h A H) .fs h A H x v := by
  subst hG
  refine r.mono (fun _ _ z => z) (fun a vs q => ?_) (Nat.le_refl _) fun _ _ => rfl
  rcases q with q | q
  · exact .inl ⟨q, fun w => by cases w.1⟩
  · exact .inr (.inr q)
theorem cal_ex {G : Glo} {env' : En} {σ' : L2.St} (R : SR (Fm.cal G false h A H) env' h' A' σ' H') : Ex H H' := fun a o e => R.fr a o e fun w => by cases w.1
end
section
variable {P : Program} {w : World} {K : PySem.W.Frag} {mg : Str → Option Value} {base : Heap} {x qual : Str} {st : Stmt} {f : Addr} {fd : FuncData} {N ps : List Str} {k : Nat} {G : Glo} {m : M1}
theorem fn_q (U : Fun K x qual st f fd) (S : FnScope N ps (defScope st)) (hl : ps.length ≤ N.length)
    (hb : ∀ (cdv : Value) (A : Around) (outer : List Env) (s : Shared) (H : Hp) (E : XK), Room k (A.deeper (PyProof.Rows.envOfC qual (defScope st) s.heap.objs.size f cdv)) → ∀ F : Fm, F.G = G → SimB (cxOf CX0 P w K mg base N qual (defScope st) f cdv A outer s H E).nox F (defBody st) m) :
    FnOk P w K mg base CX0 (k + 1) f fd ps (spQ G ps.length (runQ (N.length - ps.length) m)) := by
  refine U.ok S (fun vs H Q E h => ?_) (fun cdv A outer s H vs Q E hr h => ?_)
  · obtain ⟨F, env, h, A, σ, args, y, _, _, r, hn, _⟩ := h
    rw [← Paired.len r, hn]
  · obtain ⟨F, env, hh, As, σ, args, y, hG, R, r, hn, e, kk⟩ := h
    obtain ⟨⟨r1, env1, h1⟩, e1, e2⟩ := bind_some e
    have R0 : SR (Fm.cal G false hh As H) [] hh As [] H := by
      have := R.start false
      rw [hG] at this
      exact this
    have R1 := R0.args (N := N) (Paired.imp (fun _ _ z => cal_fs hG z) r) (by omega)
    rw [hn] at R1
    refine ⟨tS (Fm.cal G false hh As H) m, hb cdv A outer s H E hr _ rfl, _, hh, As, r1, env1, h1, R1, e1, ?_⟩
    cases r1 with
    | nx =>
      cases e2
      exact fun σ' H' A' R' _ => kk _ H' (cal_ex R') vn
    | bk => cases e2
    | ct => cases e2
    | rt ℓ y' =>
      intro σ' H' A' v R' _ rv
      have rv' := RV.mo R' rv
      cases y' with
      | d d => cases e2; refine kk v H' (cal_ex R') ?_; subst hG; exact rv'
      | ref n => cases e2
      | fn n => cases e2; refine kk v H' (cal_ex R') ?_; subst hG; exact rv'
    | ex _ _ => cases e2
    | rf xs =>
      intro σ' H' A' p us R' _ _ hv _ rs
      cases e2
      subst hG
      exact kk _ H' (cal_ex R') (vl (ℓ := .mo) (.inl (.inl hv)) (RDs.of_st (F := F) (ℓ := .mo) rs))
theorem fn_f (U : Fun K x qual st f fd) (S : FnScope N ps (defScope st)) (hl : ps.length ≤ N.length)
    (hb : ∀ (cdv : Value) (A : Around) (outer : List Env) (s : Shared) (H : Hp) (E : XK), Room k (A.deeper (PyProof.Rows.envOfC qual (defScope st) s.heap.objs.size f cdv)) → ∀ F : Fm, F.G = G → SimB (cxOf CX0 P w K mg base N qual (defScope st) f cdv A outer s H E).nox F (defBody st) m) :
    FnOk P w K mg base CX0 (k + 1) f fd ps (spF G ps.length (runF (N.length - ps.length) m)) := by
  refine U.ok S (fun vs H Q E h => ?_) (fun cdv A outer s H vs Q E hr h => ?_)
  · obtain ⟨F, env, h, A, σ, args, y, _, _, r, hn, _⟩ := h
    rw [← Paired.len r, hn]
  · obtain ⟨F, env, hh, As, σ, args, y, hG, R, r, hn, e, kk⟩ := h
    obtain ⟨⟨r1, env1, h1⟩, e1, e2⟩ := bind_some e
    have R0 : SR (Fm.cal G false hh As H) [] hh As [] H := by
      have := R.start false
      rw [hG] at this
      exact this
    have R1 := R0.args (N := N) (Paired.imp (fun _ _ z => cal_fs hG z) r) (by omega)
    rw [hn] at R1
    refine ⟨tS (Fm.cal G false hh As H) m, hb cdv A outer s H E hr _ rfl, _, hh, As, r1, env1, h1, R1, e1, ?_⟩
    cases r1 with
    | nx => cases e2
    | bk => cases e2
    | ct => cases e2
    | rt ℓ y' => cases e2
    | ex _ _ => cases e2
    | rf xs =>
      intro σ' H' A' p us R' _ f0 hv _ rs
      cases e2
      subst hG
      exact kk p us H' f0 (cal_ex R') hv rs
end
/-! ### their calls -/
def qCall (g : List Val → Hs → Option Val) (a : En → Hs → Option (List Val)) : Q1 := fun env h => (a env h).bind fun xs => g xs h
def fCall (g : List Val → Hs → Option (List PyData)) (a : En → Hs → Option (List Val)) : I1 := fun env h => (a env h).bind fun xs => g xs h
section
variable {F : Fm} {X : Cx} {k n : Nat} {f : Addr} {fd : FuncData} {ps : List Str} {x : Str} {p pos : Pos} {e : Expr} {es : List Expr} {g : List Val → Hs → Option Val} {gf : List Val → Hs → Option (List PyData)} {a : En → Hs → Option (List Val)}
theorem spQ_read {σ : L2.St} {H : Hp} {Q : VK} {E : XK} {G : Glo} (hG : F.G = G) (hn : ∀ xs h z, g xs h = some z → xs.length = n) (hq : tQ F .mo (qCall g a) σ H Q) : tCall (spQ G n g) [] E (tA F .mo a) σ H Q := by
  obtain ⟨env, h, A, z, R, e, k⟩ := hq
  obtain ⟨xs, ex, e⟩ := bind_some e
  refine ⟨env, h, A, xs, R, ex, fun vs H1 e1 rs => ?_⟩
  show spQ G n g (vs ++ []) H1 Q E
  rw [List.append_nil]
  exact ⟨F, env, h, A, σ, xs, z, hG, R.ex e1, rs, hn _ _ _ e, e, fun v H' e2 rv => k v H' (e1.trans e2) rv⟩
theorem spF_read {σ : L2.St} {H : Hp} {Q : VK} {E : XK} {G : Glo} (hG : F.G = G) (hn : ∀ xs h z, gf xs h = some z → xs.length = n) (hq : tF F (fCall gf a) σ H Q) : tCall (spF G n gf) [] E (tA F .mo a) σ H Q := by
  obtain ⟨env, h, A, z, R, e, k⟩ := hq
  obtain ⟨xs, ex, e⟩ := bind_some e
  refine ⟨env, h, A, xs, R, ex, fun vs H1 e1 rs => ?_⟩
  show spF G n gf (vs ++ []) H1 Q E
  rw [List.append_nil]
  exact ⟨F, env, h, A, σ, xs, z, hG, R.ex e1, rs, hn _ _ _ e, e, fun p us H' hp e2 hv rv => k p us H' (fresh_back e1 hp) (e1.trans e2) hv rv⟩
/-- only for so many arguments -/
def arity {α : Type} (n : Nat) (g : List Val → Hs → Option α) : List Val → Hs → Option α := fun xs h => if xs.length = n then g xs h else none
theorem arity_n {α : Type} {n : Nat} {g : List Val → Hs → Option α} : ∀ xs h z, arity n g xs h = some z → xs.length = n := fun xs h z e => by
  unfold arity at e
  split at e
  · assumption
  · cases e
theorem spQ_ar {G : Glo} {vs : List V} {H : Hp} {Q : VK} {E : XK} (h : spQ G n (arity n g) vs H Q E) : spQ G n g vs H Q E := by
  obtain ⟨F, env, h, A, σ, args, y, hG, R, r, hn, e, kk⟩ := h
  exact ⟨F, env, h, A, σ, args, y, hG, R, r, hn, by simpa [arity, hn] using e, kk⟩
theorem spF_ar {G : Glo} {vs : List V} {H : Hp} {Q : VK} {E : XK} (h : spF G n (arity n gf) vs H Q E) : spF G n gf vs H Q E := by
  obtain ⟨F, env, h, A, σ, args, y, hG, R, r, hn, e, kk⟩ := h
  exact ⟨F, env, h, A, σ, args, y, hG, R, r, hn, by simpa [arity, hn] using e, kk⟩
theorem sq_call {G : Glo} (U : FnOk X.prog X.w X.K X.mg X.base CX0 k f fd ps (spQ G n g)) (hG : F.G = G) (hr : Room k X.A) (hm : X.mg x = some (.ref f)) (hk : PySem.W.keepIn X.K (.ref f) = true) (hb : Binds X.K fd ps []) (ha : SimA X F .mo (e :: es) a)
    (hg : Gl X x := by rfl) (hdb : (x == ("__debug__" : Str)) = false := by decide) (he : starEach (e :: es) X.env = (false, eval e X.env) :: starEach es X.env := by rfl) (hpl : (backTo pos (starEach es X.env)).any (·.1) = false := by rfl) :
    SimQ X F .mo (.Call (.Name x p) (e :: es) [] pos) (qCall (arity n g) a) :=
  PEimp (pe_call (U.imp fun _ _ _ _ => spQ_ar) hr hg hm hk hb .nil pass0 ha hdb he hpl) fun σ H Q q => spQ_read hG arity_n q
theorem sf_call {G : Glo} (U : FnOk X.prog X.w X.K X.mg X.base CX0 k f fd ps (spF G n gf)) (hG : F.G = G) (hr : Room k X.A) (hm : X.mg x = some (.ref f)) (hk : PySem.W.keepIn X.K (.ref f) = true) (hb : Binds X.K fd ps []) (ha : SimA X F .mo (e :: es) a)
    (hg : Gl X x := by rfl) (hdb : (x == ("__debug__" : Str)) = false := by decide) (he : starEach (e :: es) X.env = (false, eval e X.env) :: starEach es X.env := by rfl) (hpl : (backTo pos (starEach es X.env)).any (·.1) = false := by rfl) :
    SimF X F (.Call (.Name x p) (e :: es) [] pos) (fCall (arity n gf) a) :=
  PEimp (pe_call (U.imp fun _ _ _ _ => spF_ar) hr hg hm hk hb .nil pass0 ha hdb he hpl) fun σ H Q q => spF_read hG arity_n q
end
end Sm

set_option Elab.async false
set_option linter.all false
set_option maxRecDepth 100000
set_option maxHeartbeats 1000000
namespace Sm
open PySem L2 Evl

/-! ### expressions that may write objects -/
abbrev E1 := En → Hs → Option (Val × Hs)
abbrev EF := En → Hs → Option (List PyData × Hs)
abbrev EA := En → Hs → Option (List Val × Hs)
abbrev ET := En → Hs → Option (Bool × Hs)
def tE (F : Fm) (ℓ : Lv) (m : E1) : TE := fun σ H Q => ∃ env h A x h', SR F env h A σ H ∧ m env h = some (x, h') ∧ ∀ v H' A', SR F env h' A' σ H' → Step h A H h' A' H' → RV F ℓ h' A' H' x v → Q v H'
def tEF (F : Fm) (m : EF) : TE := fun σ H Q => ∃ env h A xs h', SR F env h A σ H ∧ m env h = some (xs, h') ∧ ∀ p us H' A', SR F env h' A' σ H' → Step h A H h' A' H' → H p = none → H' p = some (.lst us) → Fresh F env h' A' p → RDs F .st H' xs us → Q (.ref p) H'
def tEA (F : Fm) (m : EA) : TA := fun σ H Q => ∃ env h A xs h', SR F env h A σ H ∧ m env h = some (xs, h') ∧ ∀ vs H' A', SR F env h' A' σ H' → Step h A H h' A' H' → Paired (fun x v => RV F .fs h' A' H' x v) xs vs → Q vs H'
def tTE (F : Fm) (m : ET) : TT := fun σ H Q => ∃ env h A b h', SR F env h A σ H ∧ m env h = some (b, h') ∧ ∀ H' A', SR F env h' A' σ H' → Step h A H h' A' H' → Q b H'
abbrev SimE (X : Cx) (F : Fm) (ℓ : Lv) (e : Expr) (m : E1) : Prop := PE X e (tE F ℓ m)
abbrev SimEF (X : Cx) (F : Fm) (e : Expr) (m : EF) : Prop := PE X e (tEF F m)
abbrev SimEA (X : Cx) (F : Fm) (es : List Expr) (m : EA) : Prop := PA X es (tEA F m)
abbrev SimTE (X : Cx) (F : Fm) (e : Expr) (m : ET) : Prop := PT X e (tTE F m)
def eQ (q : Q1) : E1 := fun env h => (q env h).bind fun x => some (x, h)
def eF (f : I1) : EF := fun env h => (f env h).bind fun x => some (x, h)
def eT (t : T1) : ET := fun env h => (t env h).bind fun x => some (x, h)
def eNil : EA := fun _ h => some ([], h)
def eCons (a : E1) (r : EA) : EA := fun env h => (a env h).bind fun x => (r env x.2).bind fun xs => some (x.1 :: xs.1, xs.2)
def e1 (g : Hs → Val → Option Val) (a : E1) : E1 := fun env h => (a env h).bind fun x => (g x.2 x.1).bind fun z => some (z, x.2)
def e2 (g : Hs → Val → Val → Option Val) (a b : E1) : E1 := fun env h => (a env h).bind fun x => (b env x.2).bind fun y => (g y.2 x.1 y.1).bind fun z => some (z, y.2)
def eTup (a : EA) : E1 := fun env h => (a env h).bind fun x => (dsOf x.1).bind fun ds => if ds.length ≤ sizeLine then some (.d (.tuple ds), x.2) else none
def efLst (a : EA) : EF := fun env h => (a env h).bind fun x => (dsOf x.1).bind fun ds => if ds.length ≤ sizeLine ∧ nlAll ds = true then some (ds, x.2) else none
def eLock (f : EF) : E1 := fun env h => (f env h).bind fun x => some (.d (.list x.1), x.2)
def eIf (t : ET) (a b : E1) : E1 := fun env h => (t env h).bind fun c => if c.1 = true then a env c.2 else b env c.2
def etV (m : E1) : ET := fun env h => (m env h).bind fun x => match x.1 with
  | .d d => (gTru d).bind fun b => some (b, x.2)
  | _ => none
def eCall (g : List Val → Hs → Option (Val × Hs)) (a : EA) : E1 := fun env h => (a env h).bind fun x => g x.1 x.2
def efCall (g : List Val → Hs → Option (List PyData × Hs)) (a : EA) : EF := fun env h => (a env h).bind fun x => g x.1 x.2

section
variable {F : Fm} {X : Cx} {a b c e : Expr} {es : List Expr} {pos p : Pos} {ℓ : Lv} {ma mb mc : E1} {env : En} {h h' : Hs} {A A' : As} {σ : L2.St} {H H' : Hp} {q : Q1}
/-- what stays through a step -/
theorem LPof.pres (P : Pres H H') : ∀ {ℓ : Lv}, ℓ ≠ .mo → ∀ (a : Addr) (vs : List V), LPof F H ℓ a vs → LPof F H' ℓ a vs
  | .mo, n, _, _, _ => absurd rfl n
  | .fs, _, a, vs, q => Pres.fL P a vs q
  | .st, _, a, vs, q => Pres.sL P a vs q
theorem RV.step (s : Step h A H h' A' H') (n : ℓ ≠ .mo) {x : Val} {v : V} (r : RV F ℓ h A H x v) : RV F ℓ h' A' H' x v := r.mono s.pres.sqT (LPof.pres s.pres n) s.le s.oo
theorem RD.pres (P : Pres H H') (n : ℓ ≠ .mo) {x : PyData} {v : V} (r : RD F ℓ H x v) : RD F ℓ H' x v := Rep.mono P.sqT (LPof.pres P n) _ _ r
theorem RDs.pres (P : Pres H H') (n : ℓ ≠ .mo) {x : List PyData} {v : List V} (r : RDs F ℓ H x v) : RDs F ℓ H' x v := RepAll.mono P.sqT (LPof.pres P n) _ _ r
theorem se_q (ha : SimQ X F ℓ a q) : SimE X F ℓ a (eQ q) := PEimp ha fun σ H Q ⟨env, h, A, z, h', R, e, k⟩ => by
  obtain ⟨x, ex, e⟩ := bind_some e
  cases e
  exact ⟨env, h, A, _, R, ex, fun v H1 e1 rv => k v H1 A (R.ex e1) (Step.ex e1) rv⟩
theorem sef_f {f : I1} (ha : SimF X F a f) : SimEF X F a (eF f) := PEimp ha fun σ H Q ⟨env, h, A, z, h', R, e, k⟩ => by
  obtain ⟨x, ex, e⟩ := bind_some e
  cases e
  exact ⟨env, h, A, _, R, ex, fun p us H1 hp e1 hv rs => k p us H1 A (R.ex e1) (Step.ex e1) hp hv ⟨(R.fresh hp).f0, (R.fresh hp).fp⟩ rs⟩
theorem ste_t {t : T1} (ha : SimT X F a t) : SimTE X F a (eT t) := PTimp ha fun σ H Q ⟨env, h, A, z, h', R, e, k⟩ => by
  obtain ⟨x, ex, e⟩ := bind_some e
  cases e
  exact ⟨env, h, A, _, R, ex, fun H1 e1 => k H1 A (R.ex e1) (Step.ex e1)⟩
theorem se_fs (ha : SimE X F .st a ma) : SimE X F .fs a ma := PEimp ha fun σ H Q ⟨env, h, A, z, h', R, e, k⟩ =>
  ⟨env, h, A, z, h', R, e, fun v H1 A1 R1 s rv => k v H1 A1 R1 s rv.of_st⟩
def enl (m : E1) : E1 := fun env h => (m env h).bind fun x => match x.1 with
  | .d d => if nl d = true then some x else none
  | _ => some x
theorem se_nl {ℓ₁ : Lv} (ha : SimE X F ℓ₁ a ma) : SimE X F ℓ a (enl ma) := PEimp ha fun σ H Q ⟨env, h, A, z, h', R, e, k⟩ => by
  obtain ⟨⟨x, h1⟩, ex, e⟩ := bind_some e
  refine ⟨env, h, A, x, h1, R, ex, fun v H1 A1 R1 s rv => ?_⟩
  cases x with
  | d d =>
    simp only at e
    split at e
    · next hn => cases e; exact k v H1 A1 R1 s (Rep.nl d v hn rv)
    · cases e
  | ref n => cases e; exact k v H1 A1 R1 s rv
  | fn n => cases e; exact k v H1 A1 R1 s rv
theorem BinS.fs {f : Value → Value → Sem Value} {g : Hs → Val → Val → Option Val} (o : BinS X F .mo .mo ℓ f g) : BinS X F .fs .fs ℓ f g := by
  obtain ⟨r, h1, h2⟩ := o
  exact ⟨r, h1, fun env h A σ H x y v u z R rx ry => h2 env h A σ H x y v u z R (RV.mo R rx) (RV.mo R ry)⟩
theorem tOp_e {r : R2} {g : Hs → Val → Val → Option Val} (o : Op2 F .fs .fs ℓ r g) {Q : VK} (hq : tE F ℓ (e2 g ma mb) σ H Q) : tOp r (tE F .fs ma) (tE F .fs mb) σ H Q := by
  obtain ⟨env, h, A, z, h', R, e, k⟩ := hq
  obtain ⟨⟨x, h1⟩, ex, e⟩ := bind_some e
  obtain ⟨⟨y, h2⟩, ey, e⟩ := bind_some e
  obtain ⟨w, ew, e⟩ := bind_some e
  cases e
  refine ⟨env, h, A, x, h1, R, ex, fun v H1 A1 R1 s1 rv => ⟨env, h1, A1, y, _, R1, ey, fun u H2 A2 R2 s2 ru => ?_⟩⟩
  exact o env _ A2 σ H2 x y v u z R2 (rv.step s2 (by simp)) ru ew Q fun v' H' e3 rz => k v' H' A2 (R2.ex e3) ((s1.trans s2).trans (Step.ex e3)) rz
theorem se_bin {op : Operator} {g : Hs → Val → Val → Option Val} (o : BinS X F .fs .fs ℓ (binaryOp op) g) (ha : SimE X F .fs a ma) (hb : SimE X F .fs b mb) : SimE X F ℓ (.BinOp a op b pos) (e2 g ma mb) := by
  obtain ⟨r, h1, h2⟩ := o
  exact PEimp (pe_op h1 ha hb) fun _ _ _ => tOp_e h2
theorem se_cmp {op : CmpOp} {g : Hs → Val → Val → Option Val} (o : BinS X F .fs .fs ℓ (compareOp op) g) (ha : SimE X F .fs a ma) (hb : SimE X F .fs b mb) (hm : behindInMarks op b = false) : SimE X F ℓ (.Compare a [op] [b] pos) (e2 g ma mb) := by
  obtain ⟨r, h1, h2⟩ := o
  exact PEimp (pe_cmpR h1 ha hb hm) fun _ _ _ => tOp_e h2
theorem se_sub (hK : X.K = F.G.K) (ha : SimE X F .fs a ma) (hb : SimE X F .fs b mb) (hs : PlainIx b := by intro _ _; rfl) : SimE X F .fs (.Subscript a b pos) (e2 gIx ma mb) :=
  PEimp (pe_ix ix_seq ha hb hs) fun _ _ _ => tOp_e (o_ix hK)
theorem ste_cmp {op : CmpOp} {g : Hs → Val → Val → Option Val} (o : BinS X F .fs .fs .st (compareOp op) g) (ha : SimE X F .fs a ma) (hb : SimE X F .fs b mb) (hm : behindInMarks op b = false) (hg : ∀ h x y z, g h x y = some z → ∃ k, z = .d (.bool k)) :
    SimTE X F (.Compare a [op] [b] pos) (etV (e2 g ma mb)) := by
  obtain ⟨r, h1, h2⟩ := o
  refine PTimp (pt_cmpR h1 ha hb hm) fun σ H Q ⟨env, h, A, k, h', R, e, q⟩ => ?_
  obtain ⟨⟨x, h1⟩, ex, e⟩ := bind_some e
  refine tOp_e h2 ⟨env, h, A, x, h1, R, ex, fun v H1 A1 R1 s rv => ?_⟩
  obtain ⟨_, _, ex⟩ := bind_some ex
  obtain ⟨_, _, ex⟩ := bind_some ex
  obtain ⟨w, ew, ex⟩ := bind_some ex
  cases ex
  obtain ⟨c, rfl⟩ := hg _ _ _ _ ew
  cases e
  have rv := rb rv
  exact ⟨k, rv, q H1 A1 R1 s⟩
theorem ste_v (hK : X.K = F.G.K) (ha : SimE X F .fs a ma) (he : ∀ whole, isTrue a X.env whole = (do let v ← whole; standAt a.pos; holding [v] (truthy v)) := by intro _; rfl) : SimTE X F a (etV ma) := PTimp (pt_truth ha he) fun σ H Q ⟨env, h, A, k, h', R, e, q⟩ => by
  obtain ⟨⟨x, h1⟩, ex, e⟩ := bind_some e
  refine ⟨env, h, A, x, h1, R, ex, fun v H1 A1 R1 s rv => ⟨k, ?_, ?_⟩⟩
  · cases x with
    | d d =>
      obtain ⟨b, eb, e⟩ := bind_some e
      cases e
      rw [hK]
      exact truV_of (RV.data (RV.mo R1 rv)) eb
    | ref n => cases e
    | fn n => cases e
  · cases x with
    | d d =>
      obtain ⟨b, eb, e⟩ := bind_some e
      cases e
      exact q H1 A1 R1 s
    | ref n => cases e
    | fn n => cases e
def eNot (m : ET) : ET := fun env h => (m env h).bind fun c => some (!c.1, c.2)
def eAnd (a b : ET) : ET := fun env h => (a env h).bind fun c => if c.1 = true then b env c.2 else some (false, c.2)
def eOr (a b : ET) : ET := fun env h => (a env h).bind fun c => if c.1 = true then some (true, c.2) else b env c.2
theorem ste_not {t : ET} (ha : SimTE X F a t) : SimTE X F (.UnaryOp .Not a pos) (eNot t) := PTimp (pt_not ha) fun σ H Q ⟨env, h, A, k, h', R, e, q⟩ => by
  obtain ⟨⟨c, h1⟩, ec, e⟩ := bind_some e
  cases e
  exact ⟨env, h, A, c, h1, R, ec, fun H1 A1 R1 s => q H1 A1 R1 s⟩
theorem swe_1 {op : BoolOp} {t : ET} (ha : SimTE X F a t) : PW X (.BoolOp .And [a] pos) (tTE F t) := pw_and1 ha
theorem swe_o1 {t : ET} (ha : SimTE X F a t) : PW X (.BoolOp .Or [a] pos) (tTE F t) := pw_or1 ha
theorem swe_and {rest : List Expr} {ta tb : ET} (ha : SimTE X F a ta) (hb : PW X (.BoolOp .And (b :: rest) pos) (tTE F tb)) : PW X (.BoolOp .And (a :: b :: rest) pos) (tTE F (eAnd ta tb)) := PWimp (pw_and ha hb) fun σ H Q ⟨env, h, A, k, h', R, e, q⟩ => by
  obtain ⟨⟨c, h1⟩, ec, e⟩ := bind_some e
  refine ⟨env, h, A, c, h1, R, ec, fun H1 A1 R1 s => ?_⟩
  cases c with
  | true => exact ⟨env, h1, A1, k, h', R1, e, fun H2 A2 R2 s2 => q H2 A2 R2 (s.trans s2)⟩
  | false => cases e; exact q H1 A1 R1 s
theorem swe_or {rest : List Expr} {ta tb : ET} (ha : SimTE X F a ta) (hb : PW X (.BoolOp .Or (b :: rest) pos) (tTE F tb)) : PW X (.BoolOp .Or (a :: b :: rest) pos) (tTE F (eOr ta tb)) := PWimp (pw_or ha hb) fun σ H Q ⟨env, h, A, k, h', R, e, q⟩ => by
  obtain ⟨⟨c, h1⟩, ec, e⟩ := bind_some e
  refine ⟨env, h, A, c, h1, R, ec, fun H1 A1 R1 s => ?_⟩
  cases c with
  | false => exact ⟨env, h1, A1, k, h', R1, e, fun H2 A2 R2 s2 => q H2 A2 R2 (s.trans s2)⟩
  | true => cases e; exact q H1 A1 R1 s
theorem se_if {t : ET} (hc : SimTE X F c t) (ha : SimE X F ℓ a ma) (hb : SimE X F ℓ b mb) : SimE X F ℓ (.IfExp c a b pos) (eIf t ma mb) := PEimp (pe_ifExp hc ha hb) fun σ H Q ⟨env, h, A, z, h', R, e, k⟩ => by
  obtain ⟨⟨d, h1⟩, ed, e⟩ := bind_some e
  refine ⟨env, h, A, d, h1, R, ed, fun H1 A1 R1 s1 => ?_⟩
  cases d with
  | true => exact ⟨env, h1, A1, z, h', R1, e, fun v H2 A2 R2 s2 rv => k v H2 A2 R2 (s1.trans s2) rv⟩
  | false => exact ⟨env, h1, A1, z, h', R1, e, fun v H2 A2 R2 s2 rv => k v H2 A2 R2 (s1.trans s2) rv⟩
theorem sea_nil : SimEA X F [] eNil := PAimp pa_nil fun σ H Q ⟨env, h, A, xs, h', R, e, k⟩ => by
  cases e
  exact k [] H A R Step.refl .nil
theorem sea_cons {r : EA} (ha : SimE X F .fs e ma) (hr : SimEA X F es r) (hs : starEach (e :: es) X.env = (false, eval e X.env) :: starEach es X.env := by rfl) : SimEA X F (e :: es) (eCons ma r) :=
  PAimp (pa_cons ha hr hs) fun σ H Q ⟨env, h, A, xs, h', R, e, k⟩ => by
    obtain ⟨⟨x, h1⟩, ex, e⟩ := bind_some e
    obtain ⟨⟨ys, h2⟩, ey, e⟩ := bind_some e
    cases e
    exact ⟨env, h, A, x, h1, R, ex, fun v H1 A1 R1 s1 rv => ⟨env, h1, A1, ys, _, R1, ey, fun vs H2 A2 R2 s2 rs => k _ H2 A2 R2 (s1.trans s2) (.cons (rv.step s2 (by simp)) rs)⟩⟩
theorem se_tup {k : Nat} {r : EA} (hr : SimEA X F es r) : SimE X F .fs (.Tuple es k pos) (eTup r) := PEimp (pe_tup hr) fun σ H Q ⟨env, h, A, z, h', R, e, k⟩ => by
  obtain ⟨⟨xs, h1⟩, ex, e⟩ := bind_some e
  obtain ⟨ds, ed, e⟩ := bind_some e
  split at e
  · next hl =>
    cases e
    refine ⟨env, h, A, xs, _, R, ex, fun vs H1 A1 R1 s1 rs => ?_⟩
    have rd := ds_rep ed rs
    exact ⟨by rw [rd.len]; exact hl, fun p hp => k _ _ A1 (R1.ex (Ex.new hp)) (s1.trans (Step.ex (Ex.new hp))) (vt (.inl (.inl upd_same)) (RDs.ex (Ex.new hp) rd))⟩
  · cases e
theorem none_back (s : Step h A H h' A' H') {p : Addr} (hp : H' p = none) : H p = none := by
  cases q : H p with
  | none => rfl
  | some o => obtain ⟨o', e⟩ := s.dm p o q; rw [hp] at e; cases e
theorem sef_lst {r : EA} (hr : SimEA X F es r) : SimEF X F (.List es pos) (efLst r) := PEimp (pe_lst hr) fun σ H Q ⟨env, h, A, z, h', R, e, k⟩ => by
  obtain ⟨⟨xs, h1⟩, ex, e⟩ := bind_some e
  obtain ⟨ds, ed, e⟩ := bind_some e
  split at e
  · next hl =>
    cases e
    refine ⟨env, h, A, xs, _, R, ex, fun vs H1 A1 R1 s1 rs => ?_⟩
    have rd := ds_rep ed rs
    exact ⟨by rw [rd.len]; exact hl.1, fun p hp => k p vs _ A1 (R1.ex (Ex.new hp)) (s1.trans (Step.ex (Ex.new hp))) (none_back s1 hp) upd_same ⟨(R1.fresh hp).f0, (R1.fresh hp).fp⟩ (RDs.ex (Ex.new hp) (RepAll.nl _ _ hl.2 rd))⟩
  · cases e
theorem se_lock {m : EF} (hf : SimEF X F e m) : SimE X F .st e (eLock m) := PEimp (pe_lock hf) fun σ H Q ⟨env, h, A, z, h', R, e, k⟩ => by
  obtain ⟨⟨xs, h1⟩, ex, e⟩ := bind_some e
  cases e
  refine ⟨env, h, A, xs, _, R, ex, fun p us H1 A1 R1 s hp hv f rs => ⟨p, us, rfl, hv, fun o => ?_⟩⟩
  have P : Pres H1 (upd H1 p (.frz o (.lst us))) := Pres.upd fun u eu => by
    rw [hv] at eu; cases eu
    exact ⟨fun _ q => (by cases q), fun _ _ q => (by cases q)⟩
  have oth : ∀ q, live env h1 q → ∀ u, H1 (A1 q) = some u → upd H1 p (.frz o (.lst us)) (A1 q) = some u := fun q hq u e => by rw [upd_ne (f.fp q hq)]; exact e
  have R2 : SR F env h1 A1 σ (upd H1 p (.frz o (.lst us))) := by
    refine ⟨fun a u q w => ?_, fun a vs q => P.1 _ _ (R1.tp a vs q), fun a b u q => P.2 _ _ _ (R1.fz a b u q), R1.dm_at, R1.le, R1.oo, R1.nw, R1.ow, R1.ln, fun i s e => R1.sl_keep P (Nat.le_refl _) (fun _ _ => rfl) e fun m => ⟨rfl, fun u z => oth (.s i) ⟨s, e, m⟩ u z⟩, fun n b e => ?_, R1.ij⟩
    · rw [upd_ne (fun z => by rw [z, f.f0] at q; cases q)]; exact R1.fr a u q w
    · exact R1.ob_keep P (Nat.le_refl _) (fun _ _ => rfl) e (fun u z => oth (.o n) (List.getElem?_eq_some_iff.mp e).1 u z) fun j hj => ⟨rfl, fun u z => oth _ hj.live u z⟩
  refine k _ _ A1 R2 ⟨fun a u q n => ?_, fun a vs q => P.1 _ _ (s.tp a vs q), fun a b u q => P.2 _ _ _ (s.fz a b u q), fun a u q => ?_, s.le, s.oo, s.nw⟩ (vl (ℓ := .st) (.inl ⟨o, upd_same⟩) (RepAll.mono P.sqT P.sL _ _ rs))
  · rw [upd_ne (fun z => by rw [z, hp] at q; cases q)]; exact s.fr a u q n
  · obtain ⟨u', e⟩ := s.dm a u q; exact dm_upd a u' e
end

/-! ### defs that write objects -/
def resE (r : Flo × En × Hs) : Option (Val × Hs) := match r.1 with
  | .rt .st x => some (x, r.2.2)
  | .rt _ (.d d) => if nl d = true then some (.d d, r.2.2) else none
  | .rt _ x => some (x, r.2.2)
  | .nx => some (.d .none, r.2.2)
  | _ => none
def runE (k : Nat) (m : M1) : List Val → Hs → Option (Val × Hs) := fun args h => (m (startE k args) h).bind resE
def runEF (k : Nat) (m : M1) : List Val → Hs → Option (List PyData × Hs) := fun args h => (m (startE k args) h).bind fun r => match r.1 with
  | .rf xs => some (xs, r.2.2)
  | _ => none
def spE (G : Glo) (n : Nat) (f : List Val → Hs → Option (Val × Hs)) : Sp := fun vs H Q _ => ∃ F env h A σ args x h', F.G = G ∧ F.rw = true ∧ SR F env h A σ H ∧ Paired (fun x v => RV F .fs h A H x v) args vs ∧ args.length = n ∧ f args h = some (x, h') ∧
  ∀ v H' A', SR F env h' A' σ H' → Step h A H h' A' H' → RV F .st h' A' H' x v → Q v H'
def spEF (G : Glo) (n : Nat) (f : List Val → Hs → Option (List PyData × Hs)) : Sp := fun vs H Q _ => ∃ F env h A σ args xs h', F.G = G ∧ F.rw = true ∧ SR F env h A σ H ∧ Paired (fun x v => RV F .fs h A H x v) args vs ∧ args.length = n ∧ f args h = some (xs, h') ∧
  ∀ p us H' A', SR F env h' A' σ H' → Step h A H h' A' H' → H p = none → H' p = some (.lst us) → Fresh F env h' A' p → RDs F .st H' xs us → Q (.ref p) H'
section
variable {F : Fm} {env : En} {h h' : Hs} {A A' : As} {σ : L2.St} {H H' : Hp} {ℓ : Lv}
theorem cal_fsE (R : SR F env h A σ H) (hw : F.rw = true) {x : Val} {v : V} (r : RV F .fs h A H x v) : RV (Fm.cal F.G true h A H) .fs h A H x v := by
  refine r.mono (fun _ _ z => z) (fun a vs q => ?_) (Nat.le_refl _) fun _ _ => rfl
  rcases q with ⟨q, w⟩ | q
  · refine .inl ⟨?_, fun ⟨_, p, hp, e⟩ => ?_⟩
    · rcases q with q | ⟨o, q⟩
      · exact .inl (R.fr a _ q w)
      · exact .inr ⟨o, R.fz a _ _ q⟩
    · have e : A p = a := e
      rcases R.nw hw p hp with z | z
      · rw [e] at z; exact w z
      · rw [e] at z
        rcases q with q | ⟨o, q⟩
        · rw [z] at q; cases q
        · rw [z] at q; cases q
  · exact .inr q
/-- the caller's state behind it -/
theorem SR.backE {env' : En} {σ' : L2.St} (R : SR F env h A σ H) (hw : F.rw = true) (R' : SR (Fm.cal F.G true h A H) env' h' A' σ' H') : SR F env h' (As.back A A') σ H' ∧ Step h A H h' (As.back A A') H' := by
  have s : Step h A H h' A' H' := SR.step_of (F := F) R'
  have s' : Step h A H h' (As.back A A') H' := ⟨s.fr, s.tp, s.fz, s.dm, s.le, s.oo, fun p hp => by rw [back_h hp]; exact s.nw p hp⟩
  exact ⟨R.call hw s R'.ob fun p q hp hq e => R'.ij p q hp.live hq.live e, s'⟩
end
section
variable {P : Program} {w : World} {K : PySem.W.Frag} {mg : Str → Option Value} {base : Heap} {x qual : Str} {st : Stmt} {f : Addr} {fd : FuncData} {N ps : List Str} {k : Nat} {G : Glo} {m : M1}
theorem fn_e (U : Fun K x qual st f fd) (S : FnScope N ps (defScope st)) (hl : ps.length ≤ N.length)
    (hb : ∀ (cdv : Value) (A : Around) (outer : List Env) (s : Shared) (H : Hp) (E : XK), Room k (A.deeper (PyProof.Rows.envOfC qual (defScope st) s.heap.objs.size f cdv)) → ∀ F : Fm, F.G = G → F.rw = true → SimB (cxOf CX0 P w K mg base N qual (defScope st) f cdv A outer s H E).nox F (defBody st) m) :
    FnOk P w K mg base CX0 (k + 1) f fd ps (spE G ps.length (runE (N.length - ps.length) m)) := by
  refine U.ok S (fun vs H Q E h => ?_) (fun cdv A outer s H vs Q E hr h => ?_)
  · obtain ⟨F, env, h, A, σ, args, y, h', _, _, _, r, hn, _⟩ := h
    rw [← Paired.len r, hn]
  · obtain ⟨F, env, hh, AA, σ, args, y, h', hG, hw, R, r, hn, e, kk⟩ := h
    obtain ⟨⟨r1, env1, h1⟩, e1, e2⟩ := bind_some e
    have R1 := (R.start true).args (N := N) (Paired.imp (fun _ _ z => cal_fsE R hw z) r) (by omega)
    rw [hn] at R1
    refine ⟨tS (Fm.cal F.G true hh AA H) m, hb cdv A outer s H E hr _ hG rfl, _, hh, AA, r1, env1, h1, R1, e1, ?_⟩
    have fin : ∀ {σ' : L2.St} {H' : Hp} {A' : Sm.As} {v : V} {z : Val}, SR (Fm.cal F.G true hh AA H) env1 h1 A' σ' H' → (z, h1) = (y, h') → RV (Fm.cal F.G true hh AA H) .st h1 A' H' z v → Q v H' := fun {σ' H' A' v z} R' e rv => by
      cases e
      obtain ⟨R2, s2⟩ := R.backE hw R'
      exact kk v H' _ R2 s2 (rv.mono (fun _ _ z => z) (fun _ _ z => z) (Nat.le_refl _) fun _ _ => rfl)
    cases r1 with
    | nx => exact fun σ' H' A' R' _ => fin R' (Option.some.inj e2) vn
    | bk => cases e2
    | ct => cases e2
    | rt ℓ y' =>
      intro σ' H' A' v R' _ rv
      cases y' with
      | d d =>
        cases ℓ with
        | st => exact fin R' (Option.some.inj e2) rv
        | mo =>
          simp only [resE] at e2
          split at e2
          · next hd => exact fin R' (Option.some.inj e2) (Rep.nl d v hd rv)
          · cases e2
        | fs =>
          simp only [resE] at e2
          split at e2
          · next hd => exact fin R' (Option.some.inj e2) (Rep.nl d v hd rv)
          · cases e2
      | ref n => cases ℓ <;> exact fin R' (Option.some.inj e2) rv
      | fn n => cases ℓ <;> exact fin R' (Option.some.inj e2) rv
    | rf xs => cases e2
    | ex _ _ => cases e2
theorem fn_ef (U : Fun K x qual st f fd) (S : FnScope N ps (defScope st)) (hl : ps.length ≤ N.length)
    (hb : ∀ (cdv : Value) (A : Around) (outer : List Env) (s : Shared) (H : Hp) (E : XK), Room k (A.deeper (PyProof.Rows.envOfC qual (defScope st) s.heap.objs.size f cdv)) → ∀ F : Fm, F.G = G → F.rw = true → SimB (cxOf CX0 P w K mg base N qual (defScope st) f cdv A outer s H E).nox F (defBody st) m) :
    FnOk P w K mg base CX0 (k + 1) f fd ps (spEF G ps.length (runEF (N.length - ps.length) m)) := by
  refine U.ok S (fun vs H Q E h => ?_) (fun cdv A outer s H vs Q E hr h => ?_)
  · obtain ⟨F, env, h, A, σ, args, y, h', _, _, _, r, hn, _⟩ := h
    rw [← Paired.len r, hn]
  · obtain ⟨F, env, hh, AA, σ, args, y, h', hG, hw, R, r, hn, e, kk⟩ := h
    obtain ⟨⟨r1, env1, h1⟩, e1, e2⟩ := bind_some e
    have R1 := (R.start true).args (N := N) (Paired.imp (fun _ _ z => cal_fsE R hw z) r) (by omega)
    rw [hn] at R1
    refine ⟨tS (Fm.cal F.G true hh AA H) m, hb cdv A outer s H E hr _ hG rfl, _, hh, AA, r1, env1, h1, R1, e1, ?_⟩
    cases r1 with
    | nx => cases e2
    | bk => cases e2
    | ct => cases e2
    | rt ℓ y' => cases e2
    | ex _ _ => cases e2
    | rf xs =>
      intro σ' H' A' p us R' _ f0 hv fp rs
      cases e2
      obtain ⟨R2, s2⟩ := R.backE hw R'
      refine kk p us H' _ R2 s2 f0 hv ⟨?_, fun q hq z => ?_⟩ rs
      · cases q : F.H0 p with
        | none => rfl
        | some o => obtain ⟨o', e⟩ := R.dm p o q; rw [show H p = none from f0] at e; cases e
      · cases q with
        | s i =>
          obtain ⟨o, e, _⟩ := R.at_live (show live env hh (.s i) from hq)
          have z : AA (.s i) = p := z
          rw [z, show H p = none from f0] at e
          cases e
        | o n => exact fp (.o n) hq z
        | f n j => exact fp (.f n j) hq z
end
section
variable {F : Fm} {X : Cx} {k n : Nat} {f : Addr} {fd : FuncData} {ps : List Str} {x : Str} {p pos : Pos} {e : Expr} {es : List Expr} {g : List Val → Hs → Option (Val × Hs)} {gf : List Val → Hs → Option (List PyData × Hs)} {a : EA}
theorem spE_ar {G : Glo} {vs : List V} {H : Hp} {Q : VK} {E : XK} (h : spE G n (arity n g) vs H Q E) : spE G n g vs H Q E := by
  obtain ⟨F, env, h, A, σ, args, y, h', hG, hw, R, r, hn, e, kk⟩ := h
  exact ⟨F, env, h, A, σ, args, y, h', hG, hw, R, r, hn, by simpa [arity, hn] using e, kk⟩
theorem spEF_ar {G : Glo} {vs : List V} {H : Hp} {Q : VK} {E : XK} (h : spEF G n (arity n gf) vs H Q E) : spEF G n gf vs H Q E := by
  obtain ⟨F, env, h, A, σ, args, y, h', hG, hw, R, r, hn, e, kk⟩ := h
  exact ⟨F, env, h, A, σ, args, y, h', hG, hw, R, r, hn, by simpa [arity, hn] using e, kk⟩
theorem spE_read {σ : L2.St} {H : Hp} {Q : VK} {E : XK} {G : Glo} (hG : F.G = G) (hw : F.rw = true) (hn : ∀ xs h z, g xs h = some z → xs.length = n) (hq : tE F .st (eCall g a) σ H Q) : tCall (spE G n g) [] E (tEA F a) σ H Q := by
  obtain ⟨env, h, A, z, h', R, e, k⟩ := hq
  obtain ⟨⟨xs, h1⟩, ex, e⟩ := bind_some e
  refine ⟨env, h, A, xs, h1, R, ex, fun vs H1 A1 R1 s1 rs => ?_⟩
  show spE G n g (vs ++ []) H1 Q E
  rw [List.append_nil]
  exact ⟨F, env, h1, A1, σ, xs, z, h', hG, hw, R1, rs, hn _ _ _ e, e, fun v H' A' R' s rv => k v H' A' R' (s1.trans s) rv⟩
theorem spEF_read {σ : L2.St} {H : Hp} {Q : VK} {E : XK} {G : Glo} (hG : F.G = G) (hw : F.rw = true) (hn : ∀ xs h z, gf xs h = some z → xs.length = n) (hq : tEF F (efCall gf a) σ H Q) : tCall (spEF G n gf) [] E (tEA F a) σ H Q := by
  obtain ⟨env, h, A, z, h', R, e, k⟩ := hq
  obtain ⟨⟨xs, h1⟩, ex, e⟩ := bind_some e
  refine ⟨env, h, A, xs, h1, R, ex, fun vs H1 A1 R1 s1 rs => ?_⟩
  show spEF G n gf (vs ++ []) H1 Q E
  rw [List.append_nil]
  exact ⟨F, env, h1, A1, σ, xs, z, h', hG, hw, R1, rs, hn _ _ _ e, e, fun p us H' A' R' s hp hv f rv => k p us H' A' R' (s1.trans s) (none_back s1 hp) hv f rv⟩
theorem se_call {G : Glo} (U : FnOk X.prog X.w X.K X.mg X.base CX0 k f fd ps (spE G n g)) (hG : F.G = G) (hw : F.rw = true) (hr : Room k X.A) (hm : X.mg x = some (.ref f)) (hk : PySem.W.keepIn X.K (.ref f) = true) (hb : Binds X.K fd ps []) (ha : SimEA X F (e :: es) a)
    (hg : Gl X x := by rfl) (hdb : (x == ("__debug__" : Str)) = false := by decide) (he : starEach (e :: es) X.env = (false, eval e X.env) :: starEach es X.env := by rfl) (hpl : (backTo pos (starEach es X.env)).any (·.1) = false := by rfl) :
    SimE X F .st (.Call (.Name x p) (e :: es) [] pos) (eCall (arity n g) a) :=
  PEimp (pe_call (U.imp fun _ _ _ _ => spE_ar) hr hg hm hk hb .nil pass0 ha hdb he hpl) fun σ H Q q => spE_read hG hw arity_n q
theorem sef_call {G : Glo} (U : FnOk X.prog X.w X.K X.mg X.base CX0 k f fd ps (spEF G n gf)) (hG : F.G = G) (hw : F.rw = true) (hr : Room k X.A) (hm : X.mg x = some (.ref f)) (hk : PySem.W.keepIn X.K (.ref f) = true) (hb : Binds X.K fd ps []) (ha : SimEA X F (e :: es) a)
    (hg : Gl X x := by rfl) (hdb : (x == ("__debug__" : Str)) = false := by decide) (he : starEach (e :: es) X.env = (false, eval e X.env) :: starEach es X.env := by rfl) (hpl : (backTo pos (starEach es X.env)).any (·.1) = false := by rfl) :
    SimEF X F (.Call (.Name x p) (e :: es) [] pos) (efCall (arity n gf) a) :=
  PEimp (pe_call (U.imp fun _ _ _ _ => spEF_ar) hr hg hm hk hb .nil pass0 ha hdb he hpl) fun σ H Q q => spEF_read hG hw arity_n q
end

/-! ### statements with such -/
def mE (m : E1) : M1 := fun env h => (m env h).bind fun x => some (.nx, env, x.2)
def mSetE (i : Nat) (m : E1) : M1 := fun env h => (m env h).bind fun x => some (.nx, env.set i (.v x.1), x.2)
def mSetOE (i : Nat) (m : EF) : M1 := fun env h => (m env h).bind fun x => some (.nx, env.set i (.l x.1), x.2)
def mRetE (ℓ : Lv) (m : E1) : M1 := fun env h => (m env h).bind fun x => some (.rt ℓ x.1, env, x.2)
def mRetFE (m : EF) : M1 := fun env h => (m env h).bind fun x => some (.rf x.1, env, x.2)
def mIfE (t : ET) (a b : M1) : M1 := fun env h => (t env h).bind fun c => if c.1 = true then a env c.2 else b env c.2
def mAsgE (m : E1) (b : B1) : M1 := fun env h => (m env h).bind fun x => (dOf x.1).bind fun d => (b d env).bind fun env' => some (.nx, env', x.2)
section
variable {F : Fm} {X : Cx} {st : Stmt} {sts rest : List Stmt} {e c : Expr} {pos : Pos} {ℓ : Lv} {m : E1} {f : EF} {t : ET}
theorem ss_exprE (he : SimE X F ℓ e m) (hs : swapsWith e none pos.line X.env = pure false := by rfl) : SimS X F (.Expr e pos) (mE m) := PSimp (ps_expr he hs) fun D σ H ⟨env, h, A, r, env', h', R, e, k⟩ => by
  obtain ⟨⟨x, h1⟩, ex, e⟩ := bind_some e
  cases e
  exact ⟨env, h, A, x, _, R, ex, fun v H1 A1 R1 s rv => k σ H1 A1 R1 s.pres⟩
theorem ss_setE {i : Nat} {x : Str} {p2 : Pos} (hN : X.N.Nodup) (hi : X.N[i]? = some x) (hx : Loc X.env.scope x) (he : SimE X F .fs e m) (hs : swapsWith e (some (.Name x p2)) pos.line X.env = pure false := by rfl) (hf : X.fn x = true ∨ X.env.scope.names.lookup x = some .local := by first | exact .inl rfl | exact .inr rfl | assumption) :
    SimS X F (.Assign [.Name x p2] e pos) (mSetE i m) := PSimp (ps_set hN hi hx he hs hf) fun D σ H ⟨env, h, A, r, env', h', R, e, k⟩ => by
  obtain ⟨⟨x, h1⟩, ex, e⟩ := bind_some e
  cases e
  exact ⟨env, h, A, x, _, R, ex, fun v H1 A1 R1 s rv => k _ H1 A1 (R1.setV rv) s.pres⟩
theorem ss_setOE {i : Nat} {x : Str} {p2 : Pos} (hN : X.N.Nodup) (hi : X.N[i]? = some x) (hx : Loc X.env.scope x) (he : SimEF X F e f) (hs : swapsWith e (some (.Name x p2)) pos.line X.env = pure false := by rfl) (hf : X.fn x = true ∨ X.env.scope.names.lookup x = some .local := by first | exact .inl rfl | exact .inr rfl | assumption) :
    SimS X F (.Assign [.Name x p2] e pos) (mSetOE i f) := PSimp (ps_set hN hi hx he hs hf) fun D σ H ⟨env, h, A, r, env', h', R, e, k⟩ => by
  obtain ⟨⟨x, h1⟩, ex, e⟩ := bind_some e
  cases e
  exact ⟨env, h, A, x, _, R, ex, fun p us H1 A1 R1 s hp hv fr rs => k _ H1 _ (R1.setNew fr rfl ⟨rfl, us, hv, rs⟩) s.pres⟩
theorem ss_retE (he : SimE X F ℓ e m) : SimS X F (.Return (some e) pos) (mRetE ℓ m) := PSimp (ps_ret he) fun D σ H ⟨env, h, A, r, env', h', R, e, k⟩ => by
  obtain ⟨⟨x, h1⟩, ex, e⟩ := bind_some e
  cases e
  exact ⟨env, h, A, x, _, R, ex, fun v H1 A1 R1 s rv => k σ H1 A1 v R1 s.pres rv⟩
theorem ss_retFE (he : SimEF X F e f) : SimS X F (.Return (some e) pos) (mRetFE f) := PSimp (ps_ret he) fun D σ H ⟨env, h, A, r, env', h', R, e, k⟩ => by
  obtain ⟨⟨x, h1⟩, ex, e⟩ := bind_some e
  cases e
  exact ⟨env, h, A, x, _, R, ex, fun p us H1 A1 R1 s hp hv fr rs => k σ H1 A1 p us R1 s.pres fr.f0 hv (fun q hq => fr.fp q hq.live) rs⟩
theorem ss_ifE {a b : List Stmt} {ma mb : M1} (hc : SimTE X F c t) (ha : SimB X F a ma) (hb : SimB X F b mb) : SimS X F (.If c a b pos) (mIfE t ma mb) := PSimp (ps_if hc ha hb) fun D σ H ⟨env, h, A, r, env', h', R, e, k⟩ => by
  obtain ⟨⟨d, h1⟩, ed, e⟩ := bind_some e
  refine ⟨env, h, A, d, h1, R, ed, fun H1 A1 R1 s => ?_⟩
  cases d with
  | true => exact ⟨env, h1, A1, r, env', h', R1, e, k.pre s.pres⟩
  | false => exact ⟨env, h1, A1, r, env', h', R1, e, k.pre s.pres⟩
theorem ss_asgE {tg : Expr} {ss : List Nat} {b : B1} (he : SimE X F .fs e m) (hg : PG X tg (tGt F ss b)) (hs : swapsWithSole [tg] e pos.line X.env = pure false := by rfl) (hw : swappedStores [tg] e X.env = pure none := by rfl)
    (h1 : (assignEach [tg] X.env).map (·.2) = [assign tg X.env] := by rfl) : SimS X F (.Assign [tg] e pos) (mAsgE m b) := PSimp (ps_asg he hg hs hw h1) fun D σ H ⟨env, h, A, r, env', h', R, e, k⟩ => by
  obtain ⟨⟨x, h1⟩, ex, e⟩ := bind_some e
  obtain ⟨d, ed, e⟩ := bind_some e
  obtain ⟨env1, eb, e⟩ := bind_some e
  cases e
  refine ⟨env, h, A, x, _, R, ex, fun v H1 A1 R1 s rv => ⟨env, _, A1, d, _, R1, ?_, eb, fun σ' H' x1 R2 _ _ => k σ' H' A1 R2 (s.pres.trans (Ex.pres x1))⟩⟩
  cases x with
  | d y => cases ed; exact rv
  | ref n => cases ed
  | fn n => cases ed
end
end Sm

set_option Elab.async false
set_option linter.all false
set_option maxRecDepth 100000
set_option maxHeartbeats 1000000
namespace Sm
open PySem L2 Evl

/-! ### slices -/
abbrev O1 := En → Hs → Option (Option Int)
def tOi (F : Fm) (o : O1) : TO := fun σ H Q => ∃ env h A x, SR F env h A σ H ∧ o env h = some x ∧ ∀ H', Ex H H' → Q x H'
def oNone : O1 := fun _ _ => some none
def oSome (q : Q1) : O1 := fun env h => (q env h).bind fun x => match x with
  | .d (.int i) => some (some i)
  | _ => none
theorem POimp {X : Cx} {e : Option Expr} {t t' : TO} (h : PO X e t) (i : ∀ σ H Q, t' σ H Q → t σ H Q) : PO X e t' := ⟨fun pins s σ H Q I q => h.run pins s σ H Q I (i σ H Q q)⟩
def cutD {α : Type} (xs : List α) (lo hi : Option Int) : List α := (xs.drop (HT.sIx xs.length 0 lo)).take (HT.sIx xs.length xs.length hi - HT.sIx xs.length 0 lo)
/-- of tuples and texts -/
def gSl (x : Val) (lo hi : Option Int) : Option Val := match x with
  | .d (.tuple xs) => some (.d (.tuple (cutD xs lo hi)))
  | .d (.str s) => if s.length ≤ sizeLine then some (.d (.str (cutS s lo hi))) else none
  | _ => none
def qSl (a : Q1) (lo hi : O1) : Q1 := fun env h => (a env h).bind fun x => (lo env h).bind fun l => (hi env h).bind fun u => gSl x l u
/-- of lists: a new one -/
def fSl (a : Q1) (lo hi : O1) : I1 := fun env h => (a env h).bind fun x => (lo env h).bind fun l => (hi env h).bind fun u => match x with
  | .d (.list xs) => if nlAll xs = true then some (cutD xs l u) else none
  | _ => none
section
variable {F : Fm} {X : Cx} {a b c e : Expr} {es rest : List Expr} {pos p p2 : Pos} {ℓ : Lv} {qa qb qc : Q1} {lo hi : Option Expr} {ol oh : O1} {env : En} {h : Hs} {A : As} {σ : L2.St} {H : Hp}
theorem so_none : PO X none (tOi F oNone) := POimp po_none fun σ H Q ⟨env, h, A, x, R, e, k⟩ => by
  cases e
  exact k H (Ex.refl H)
theorem so_some {ℓ₁ : Lv} (ha : SimQ X F ℓ₁ a qa) : PO X (some a) (tOi F (oSome qa)) := POimp (po_some ha) fun σ H Q ⟨env, h, A, x, R, e, k⟩ => by
  obtain ⟨y, ey, e⟩ := bind_some e
  refine ⟨env, h, A, y, R, ey, fun v H1 e1 rv => ?_⟩
  split at e
  · next i => cases e; cases ri rv; exact ⟨i, rfl, k H1 e1⟩
  · cases e
theorem cut_rep {T L : LP} {ds : List PyData} {vs : List V} {l u : Option Int} (r : RepAll T L ds vs) : RepAll T L (cutD ds l u) (cutV vs l u) := by
  unfold cutD cutV
  rw [r.len]
  exact (r.drop _).take _
theorem sIx_bd (n d : Nat) (hd : d ≤ n) (o : Option Int) : HT.sIx n d o ≤ n := HT.sIx_le n d hd o
theorem cut_all {α : Type} {xs : List α} {l u : Option Int} (h : HT.sIx xs.length 0 l = 0 ∧ HT.sIx xs.length xs.length u = xs.length) : cutD xs l u = xs := by
  unfold cutD
  rw [h.1, h.2]
  simp
theorem sq_slice (hK : X.K = F.G.K) (ha : SimQ X F ℓ a qa) (hl : PO X lo (tOi F ol)) (hh : PO X hi (tOi F oh)) : SimQ X F ℓ (.Subscript a (.Slice lo hi none p2) pos) (qSl qa ol oh) :=
  PEimp (pe_slice (SlR.or sl_tupA sl_str) ha hl hh) fun σ H Q ⟨env, h, A, z, R, e, k⟩ => by
    obtain ⟨x, ex, e⟩ := bind_some e
    obtain ⟨l, el, e⟩ := bind_some e
    obtain ⟨u, eu, e⟩ := bind_some e
    refine ⟨env, h, A, x, R, ex, fun v H1 e1 rv => ⟨env, h, A, l, R.ex e1, el, fun H2 e2 => ⟨env, h, A, u, (R.ex e1).ex e2, eu, fun H3 e3 => ?_⟩⟩⟩
    have rv : RV F ℓ h A H3 x v := (rv.ex e2).ex e3
    have ee := (e1.trans e2).trans e3
    unfold gSl at e
    split at e
    · next xs =>
      cases e
      obtain ⟨a, us, rfl, t, r⟩ := rt rv
      refine .inl ⟨a, us, rfl, by rw [hK]; exact t, fun w => k _ H3 ee ?_, fun w p hp => k _ _ (ee.trans (Ex.new hp)) ?_⟩
      · rw [r.len] at w
        rw [cut_all w]
        exact vt t r
      · exact vt (.inl (.inl upd_same)) (RDs.ex (Ex.new hp) (cut_rep r))
    · next s =>
      split at e
      · next hs => cases e; cases rs rv; exact .inr ⟨_, rfl, hs, k _ H3 ee vs⟩
      · cases e
    · cases e
theorem nl_mem : ∀ {xs : List PyData}, nlAll xs = true ↔ ∀ x ∈ xs, nl x = true
  | [] => by simp [nlAll]
  | x :: xs => by simp [nlAll, nl_mem]
theorem nl_cut {xs : List PyData} {l u : Option Int} (h : nlAll xs = true) : nlAll (cutD xs l u) = true := nl_mem.mpr fun x hx => nl_mem.mp h x (List.mem_of_mem_drop (List.mem_of_mem_take hx))
theorem sf_slice (hK : X.K = F.G.K) (ha : SimQ X F .mo a qa) (hl : PO X lo (tOi F ol)) (hh : PO X hi (tOi F oh)) : SimF X F (.Subscript a (.Slice lo hi none p2) pos) (fSl qa ol oh) :=
  PEimp (pe_slice sl_list ha hl hh) fun σ H Q ⟨env, h, A, z, R, e, k⟩ => by
    obtain ⟨x, ex, e⟩ := bind_some e
    obtain ⟨l, el, e⟩ := bind_some e
    obtain ⟨u, eu, e⟩ := bind_some e
    refine ⟨env, h, A, x, R, ex, fun v H1 e1 rv => ⟨env, h, A, l, R.ex e1, el, fun H2 e2 => ⟨env, h, A, u, (R.ex e1).ex e2, eu, fun H3 e3 => ?_⟩⟩⟩
    have rv : RV F .mo h A H3 x v := (rv.ex e2).ex e3
    have ee := (e1.trans e2).trans e3
    split at e
    · next xs =>
      split at e
      · next hn =>
        cases e
        obtain ⟨a, us, rfl, t, r⟩ := rl rv
        exact ⟨a, us, rfl, by rw [hK]; exact t, fun p hp => k p _ _ (fresh_back ee hp) (ee.trans (Ex.new hp)) upd_same (RDs.ex (Ex.new hp) (RepAll.nl _ _ (nl_cut hn) (cut_rep r)))⟩
      · cases e
    · cases e

/-! ### any, all; chains -/
def boolsOf : List PyData → Option (List Bool)
  | [] => some []
  | .bool b :: ds => (boolsOf ds).bind fun bs => some (b :: bs)
  | _ :: _ => none
theorem bools_rep {T L : LP} : ∀ {ds : List PyData} {bs : List Bool} {vs : List V}, boolsOf ds = some bs → RepAll T L ds vs → vs = bs.map V.bl
  | [], bs, vs, e, r => by
    cases e
    simpa [RepAll] using r
  | d :: ds, bs, vs, e, r => by
    cases d with
    | bool b =>
      obtain ⟨cs, ec, e⟩ := bind_some e
      cases e
      simp only [RepAll] at r
      obtain ⟨v, q, rfl, r1, r2⟩ := r
      rw [rep_bool r1, bools_rep ec r2]
      rfl
    | _ => cases e
def gAll : Hs → Val → Option Val := fun _ x => match x with
  | .d (.list ds) => (boolsOf ds).map fun bs => .d (.bool (bs.all id))
  | _ => none
def gAny : Hs → Val → Option Val := fun _ x => match x with
  | .d (.list ds) => (boolsOf ds).map fun bs => .d (.bool (bs.any id))
  | _ => none
theorem o_all (hK : X.K = F.G.K) : Op1 F .mo ℓ (fun v H Q => rAll X.K [v] H Q) gAll := by
  intro env h A σ H x v z R rx e Q k
  unfold gAll at e
  split at e
  · next ds =>
    obtain ⟨bs, eb, e⟩ := Option.map_eq_some_iff.mp e
    subst e
    obtain ⟨a, us, rfl, q, r⟩ := rl rx
    rw [hK]
    exact ⟨a, bs, rfl, by rw [← bools_rep eb r]; exact q, k _ H (Ex.refl H) vb⟩
  · cases e
theorem o_any (hK : X.K = F.G.K) : Op1 F .mo ℓ (fun v H Q => rAny X.K [v] H Q) gAny := by
  intro env h A σ H x v z R rx e Q k
  unfold gAny at e
  split at e
  · next ds =>
    obtain ⟨bs, eb, e⟩ := Option.map_eq_some_iff.mp e
    subst e
    obtain ⟨a, us, rfl, q, r⟩ := rl rx
    rw [hK]
    exact ⟨a, bs, rfl, by rw [← bools_rep eb r]; exact q, k _ H (Ex.refl H) vb⟩
  · cases e
theorem sq_all (hK : X.K = F.G.K) (hc : X.calm = true) (hm : X.mg "all" = none) (ha : SimQ X F .mo a qa) (hg : Gl X "all" := by rfl)
    (he : starEach [a] X.env = (false, eval a X.env) :: starEach [] X.env := by rfl) (hpl : (backTo pos (starEach [] X.env)).any (·.1) = false := by rfl) : SimQ X F ℓ (.Call (.Name "all" p) [a] [] pos) (q1 gAll qa) :=
  sq_b1 (cr_all hc) (o_all hK) hm (by decide +kernel) ha hg (by decide) (by decide) he hpl
theorem sq_any (hK : X.K = F.G.K) (hc : X.calm = true) (hm : X.mg "any" = none) (ha : SimQ X F .mo a qa) (hg : Gl X "any" := by rfl)
    (he : starEach [a] X.env = (false, eval a X.env) :: starEach [] X.env := by rfl) (hpl : (backTo pos (starEach [] X.env)).any (·.1) = false := by rfl) : SimQ X F ℓ (.Call (.Name "any" p) [a] [] pos) (q1 gAny qa) :=
  sq_b1 (cr_any hc) (o_any hK) hm (by decide +kernel) ha hg (by decide) (by decide) he hpl
/-- a op b op' c of ints -/
def qChain (g g' : Int → Int → Bool) (a b c : Q1) : Q1 := fun env h => (a env h).bind fun x => (b env h).bind fun y => match x, y with
  | .d (.int i), .d (.int j) => if g i j = true then (c env h).bind fun z => (match z with
      | .d (.int k) => some (.d (.bool (g' j k)))
      | _ => none) else some (.d (.bool false))
  | _, _ => none
theorem chain_read {g g' : Int → Int → Bool} {Q : VK} (hq : tQ F ℓ (qChain g g' qa qb qc) σ H Q) : tChain (rI0 fun i j => .bl (g i j)) (rI0 fun i j => .bl (g' i j)) (tQ F .mo qa) (tQ F .mo qb) (tQ F .mo qc) σ H Q := by
  obtain ⟨env, h, A, z, R, e, k⟩ := hq
  obtain ⟨x, ex, e⟩ := bind_some e
  obtain ⟨y, ey, e⟩ := bind_some e
  refine ⟨env, h, A, x, R, ex, fun v H1 e1 rv => ⟨env, h, A, y, R.ex e1, ey, fun u H2 e2 ru => ?_⟩⟩
  split at e
  · next i j _ =>
    cases ri rv
    cases ri ru
    refine ⟨i, j, rfl, rfl, g i j, rfl, ?_⟩
    cases hg : g i j with
    | false =>
      rw [hg] at e
      cases e
      rw [if_neg (by decide)]
      exact k _ H2 (e1.trans e2) vb
    | true =>
      rw [hg, if_pos rfl] at e
      rw [if_pos rfl]
      obtain ⟨w, ew, e⟩ := bind_some e
      refine ⟨env, h, A, w, (R.ex e1).ex e2, ew, fun t H3 e3 rt => ?_⟩
      split at e
      · next m => cases e; cases ri rt; exact ⟨j, m, rfl, rfl, k _ H3 ((e1.trans e2).trans e3) vb⟩
      · cases e
  · cases e
theorem sq_le2 (ha : SimQ X F .mo a qa) (hb : SimQ X F .mo b qb) (hc : SimQ X F .mo c qc) (hm : lastMarks [.LtE, .LtE] [b, c] = false := by with_unfolding_all rfl) : SimQ X F ℓ (.Compare a [.LtE, .LtE] [b, c] pos) (qChain (fun i j => decide (i ≤ j)) (fun i j => decide (i ≤ j)) qa qb qc) :=
  PEimp (pe_chain op_le op_le ha hb hc hm) fun _ _ _ => chain_read
theorem st_le2 (ha : SimQ X F .mo a qa) (hb : SimQ X F .mo b qb) (hc : SimQ X F .mo c qc) (hm : lastMarks [.LtE, .LtE] [b, c] = false := by with_unfolding_all rfl) : SimT X F (.Compare a [.LtE, .LtE] [b, c] pos) (tV (qChain (fun i j => decide (i ≤ j)) (fun i j => decide (i ≤ j)) qa qb qc)) :=
  PTimp (pt_chain op_le op_le ha hb hc hm) fun σ H Q ⟨env, h, A, k, R, e, q⟩ => by
    obtain ⟨x, ex, e⟩ := bind_some e
    refine chain_read (ℓ := .mo) ⟨env, h, A, x, R, ex, fun v H1 e1 rv => ?_⟩
    have hb : ∃ b, x = .d (.bool b) := by
      obtain ⟨_, _, ex⟩ := bind_some ex
      obtain ⟨_, _, ex⟩ := bind_some ex
      split at ex
      · split at ex
        · obtain ⟨_, _, ex⟩ := bind_some ex
          split at ex
          · cases ex; exact ⟨_, rfl⟩
          · cases ex
        · cases ex; exact ⟨_, rfl⟩
      · cases ex
    obtain ⟨b, rfl⟩ := hb
    cases e
    exact ⟨k, rb rv, q H1 e1⟩

/-! ### in, not in -/
theorem room1 {A : Around} {d : PyData} {ds : List PyData} (h : SeqAt.shaped d = true) (hu : A.units + 65 < cLine) : A.units + 1 + min (PyData.depthAll ds) d.depth < cLine := by
  have h1 := SeqAt.depth_of_shaped h
  have h2 : min (PyData.depthAll ds) d.depth ≤ d.depth := Nat.min_le_right _ _
  omega
/-- of tuples -/
def rInTD (K : PySem.W.Frag) (n : Bool) : R2 := fun x y H Q => ∃ d ds, Dp K H x d ∧ Dp K H y (.tuple ds) ∧ SeqAt.shaped d = true ∧ SeqAt.shaped (.tuple ds) = true ∧ Q (.bl (if n = true then !(ds.any fun z => PyData.eqv z d) else ds.any fun z => PyData.eqv z d)) H
theorem op_inTD (hu : X.A.units + 65 < cLine) : OpR X (compareOp .In) (rInTD X.K false) := by
  intro pins s σ H x y v u Q I rx ry ⟨d, ds, hd, he, sd, se, q⟩
  obtain ⟨as, r1⟩ := Dp.reads I d x v hd rx
  obtain ⟨bs, r2⟩ := Dp.reads I (.tuple ds) y u he ry
  exact SeqAt.in_tuple_reads r2 r1 (SeqAt.canLay_of_shaped se) (SeqAt.canLay_of_shaped sd) (room1 sd hu) ⟨.bl _, H, I, rfl, q⟩
theorem op_notInTD (hu : X.A.units + 65 < cLine) : OpR X (compareOp .NotIn) (rInTD X.K true) := by
  intro pins s σ H x y v u Q I rx ry ⟨d, ds, hd, he, sd, se, q⟩
  obtain ⟨as, r1⟩ := Dp.reads I d x v hd rx
  obtain ⟨bs, r2⟩ := Dp.reads I (.tuple ds) y u he ry
  exact SeqAt.notIn_tuple_reads r2 r1 (SeqAt.canLay_of_shaped se) (SeqAt.canLay_of_shaped sd) (room1 sd hu) ⟨.bl _, H, I, rfl, q⟩
def gIn (n : Bool) : Hs → Val → Val → Option Val := fun _ x y => match x, y with
  | .d d, .d (.list ds) => if (SeqAt.shaped d && SeqAt.shaped (.list ds)) = true then some (.d (.bool (if n then !(ds.any fun z => PyData.eqv z d) else ds.any fun z => PyData.eqv z d))) else none
  | .d d, .d (.tuple ds) => if (SeqAt.shaped d && SeqAt.shaped (.tuple ds)) = true then some (.d (.bool (if n then !(ds.any fun z => PyData.eqv z d) else ds.any fun z => PyData.eqv z d))) else none
  | .d (.str s), .d (.str t) => some (.d (.bool (if n then (Builtin.Str.occurrences t s 0 t.length 1).isEmpty else !(Builtin.Str.occurrences t s 0 t.length 1).isEmpty)))
  | _, _ => none
theorem o_in (hK : X.K = F.G.K) (hu : X.A.units + 65 < cLine) : BinS X F .mo .mo ℓ (compareOp .In) (gIn false) := ⟨_, OpR.or (op_inD hu) (OpR.or (op_inTD hu) op_in_str), by
  intro env h A σ H x y v u z R rx ry e Q k
  unfold gIn at e
  split at e
  · next d ds =>
    split at e
    · next hc =>
      cases e
      simp only [Bool.and_eq_true] at hc
      rw [hK]
      exact .inl ⟨d, ds, Rep.dp _ _ rx, Rep.dp (.list ds) _ ry, hc.1, hc.2, k _ H (Ex.refl H) vb⟩
    · cases e
  · next d ds =>
    split at e
    · next hc =>
      cases e
      simp only [Bool.and_eq_true] at hc
      rw [hK]
      exact .inr (.inl ⟨d, ds, Rep.dp _ _ rx, Rep.dp (.tuple ds) _ ry, hc.1, hc.2, k _ H (Ex.refl H) vb⟩)
    · cases e
  · next s t => cases e; cases rs rx; cases rs ry; exact .inr (.inr ⟨s, t, rfl, rfl, k _ H (Ex.refl H) vb⟩)
  · cases e⟩
theorem o_notin (hK : X.K = F.G.K) (hu : X.A.units + 65 < cLine) : BinS X F .mo .mo ℓ (compareOp .NotIn) (gIn true) := ⟨_, OpR.or (op_notInD hu) (OpR.or (op_notInTD hu) op_notin_str), by
  intro env h A σ H x y v u z R rx ry e Q k
  unfold gIn at e
  split at e
  · next d ds =>
    split at e
    · next hc =>
      cases e
      simp only [Bool.and_eq_true] at hc
      rw [hK]
      exact .inl ⟨d, ds, Rep.dp _ _ rx, Rep.dp (.list ds) _ ry, hc.1, hc.2, k _ H (Ex.refl H) vb⟩
    · cases e
  · next d ds =>
    split at e
    · next hc =>
      cases e
      simp only [Bool.and_eq_true] at hc
      rw [hK]
      exact .inr (.inl ⟨d, ds, Rep.dp _ _ rx, Rep.dp (.tuple ds) _ ry, hc.1, hc.2, k _ H (Ex.refl H) vb⟩)
    · cases e
  · next s t =>
    cases e; cases rs rx; cases rs ry
    refine .inr (.inr ⟨s, t, rfl, rfl, ?_⟩)
    have := k _ H (Ex.refl H) vb
    simpa using this
  · cases e⟩
theorem gIn_b {n : Bool} : ∀ h x y z, gIn n h x y = some z → ∃ k, z = .d (.bool k) := by
  intro h x y z e
  unfold gIn at e
  split at e
  · split at e
    · cases e; exact ⟨_, rfl⟩
    · cases e
  · split at e
    · cases e; exact ⟨_, rfl⟩
    · cases e
  · cases e; exact ⟨_, rfl⟩
  · cases e

/-! ### sorted -/
def alikeB (ds : List PyData) : Bool := ds.all fun d => ds.all fun d' => PySem.W.alike d d'
def isTup1 : PyData → Bool
  | .tuple (_ :: _) => true
  | _ => false
def isOther : PyData → Bool
  | .none => false
  | .tuple _ => false
  | _ => true
def sortB (ds : List PyData) : Bool := ds.all isTup1 || ds.all isOther
def gSorted : Hs → Val → Option (List PyData) := fun _ x => match x with
  | .d (.list ds) => if (nlAll ds && alikeB ds && sortB ds && decide (PyData.depthAll ds ≤ 60)) = true then some (ds.mergeSort (PySem.W.dataLe false id)) else none
  | _ => none
theorem depth_mem : ∀ {ds : List PyData} {d : PyData}, d ∈ ds → d.depth ≤ PyData.depthAll ds
  | x :: ds, d, h => by
    rw [PyData.depthAll]
    rcases List.mem_cons.mp h with rfl | h
    · exact Nat.le_max_left _ _
    · exact Nat.le_trans (depth_mem h) (Nat.le_max_right _ _)
theorem each_of {T L : LP} : ∀ {ds : List PyData} {vs : List V} {us : List Value}, RepAll T L ds vs → Vals vs us → PySem.W.EachIs (fun u d => ∃ v, RelV v u ∧ Rep T L d v) us ds
  | [], vs, us, r, q => by
    simp only [RepAll] at r
    subst r
    cases q
    exact .nil
  | d :: ds, vs, us, r, q => by
    simp only [RepAll] at r
    obtain ⟨v, w, rfl, r1, r2⟩ := r
    cases q with
    | cons q1 q2 => exact .cons ⟨v, q1, r1⟩ (each_of r2 q2)
theorem of_each {T L : LP} : ∀ {ds : List PyData} {us : List Value}, PySem.W.EachIs (fun u d => ∃ v, RelV v u ∧ Rep T L d v) us ds → ∃ vs, RepAll T L ds vs ∧ Vals vs us
  | _, _, .nil => ⟨[], .nil, .nil⟩
  | _, _, .cons ⟨v, q1, r1⟩ t => by
    obtain ⟨vs, r2, q2⟩ := of_each t
    exact ⟨v :: vs, .cons r1 r2, .cons q1 q2⟩
theorem each_mem {R S : Value → PyData → Prop} : ∀ {us : List Value} {ds : List PyData}, PySem.W.EachIs R us ds → (∀ u d, d ∈ ds → R u d → S u d) → PySem.W.EachIs S us ds
  | _, _, .nil, _ => .nil
  | _, _, .cons r t, f => .cons (f _ _ (by simp) r) (each_mem t fun u d hd => f u d (by simp [hd]))
end
end Sm
namespace Sm
open PySem L2 Evl
section
variable {F : Fm} {X : Cx} {a b c e : Expr} {es rest : List Expr} {pos p p2 : Pos} {ℓ : Lv} {qa qb qc : Q1} {env : En} {h : Hs} {A : As} {σ : L2.St} {H : Hp}
/-- sorted of a list of data -/
theorem cr_sortD (hu : X.A.units + 64 < cLine) : CallR X (.builtin "sorted") (fun vs H Q => ∃ a us ds, vs = [V.ref a] ∧ SqL X.K H a us ∧ RepAll (SqT X.K H) (SqL X.K H) ds us ∧ (nlAll ds && alikeB ds && sortB ds && decide (PyData.depthAll ds ≤ 60)) = true ∧
    ∀ p us', H p = none → RepAll (SqT X.K H) (SqL X.K H) (ds.mergeSort (PySem.W.dataLe false id)) us' → Q (.ref p) (upd H p (.lst us'))) := by
  intro pins s σ H xs us0 Q I r0 hyp
  obtain ⟨a, us, ds, rfl, hs, hd, hc, q⟩ := hyp
  simp only [Bool.and_eq_true, decide_eq_true_eq] at hc
  obtain ⟨⟨⟨_, hal⟩, hk⟩, hdep⟩ := hc
  obtain ⟨its, rv, pl, hz⟩ := I.list hs
  rw [Vals.ref1 r0]
  have hlen : ds.length ≤ sizeLine := by rw [← hd.len]; exact hz
  have e0 := each_of hd rv
  have hAl : PySem.W.AllAlike (ds.map id) := by
    rw [List.map_id]
    intro d h1 d' h2
    exact List.all_eq_true.mp (List.all_eq_true.mp hal d h1) d' h2
  have hSo : PySem.W.Sortable (ds.map id) := by
    rw [List.map_id]
    unfold sortB at hk
    rw [Bool.or_eq_true] at hk
    rcases hk with hk | hk
    · refine .inl fun d hm => ?_
      have z := List.all_eq_true.mp hk d hm
      unfold isTup1 at z
      split at z
      · exact ⟨_, _, rfl⟩
      · cases z
    · refine .inr fun d hm => ?_
      have z := List.all_eq_true.mp hk d hm
      constructor
      · rintro rfl; cases z
      · rintro xs rfl; cases z
  refine PySem.W.sorted_data (enc := id) (R := fun u d => ∃ v, RelV v u ∧ Rep (SqT X.K H) (SqL X.K H) d v) pl.isList e0 (each_mem e0 fun u d _ ⟨v, q1, r1⟩ => Dp.reads I d v u (Rep.dp d v r1) q1) hAl hSo hlen (fun d hm => ?_) fun out ho eo => ?_
  · have := depth_mem hm
    show X.A.units + 2 + d.depth < cLine
    omega
  · obtain ⟨us', r', q'⟩ := of_each eo
    have hl' : us'.length ≤ sizeLine := by rw [r'.len, List.length_mergeSort]; exact hlen
    obtain ⟨c, hc⟩ := PyProof.Rows.sortedAll_at s.heap its out.toArray
    refine ⟨.ref (s.heap.objs.size + 1), _, I.laid (t' := s.toks) (o := .lst us') (fun b u e => PyProof.Rows.sortedAll_old e) (Nat.le_succ _) ⟨hl', out, c, q', hc⟩, rfl, q _ us' (I.hok.fresh (Nat.le_succ _)) r'⟩
theorem nl_perm {xs ys : List PyData} (p : xs.Perm ys) (h : nlAll ys = true) : nlAll xs = true := nl_mem.mpr fun x hx => nl_mem.mp h x (p.mem_iff.mp hx)
theorem sf_sorted (hK : X.K = F.G.K) (hu : X.A.units + 64 < cLine) (hm : X.mg "sorted" = none) (ha : SimQ X F .mo a qa) (hg : Gl X "sorted" := by rfl)
    (he : starEach [a] X.env = (false, eval a X.env) :: starEach [] X.env := by rfl) (hpl : (backTo pos (starEach [] X.env)).any (·.1) = false := by rfl) : SimF X F (.Call (.Name "sorted" p) [a] [] pos) (f1 gSorted qa) := by
  refine PEimp (pe_callB (cr_sortD hu) hg hm (by decide +kernel) (pa_cons ha pa_nil he) (by decide) (by decide) he hpl) fun σ H Q ⟨env, h, A, z, R, e, k⟩ => ?_
  obtain ⟨x, ex, e⟩ := bind_some e
  refine ⟨env, h, A, x, R, ex, fun v H1 e1 rv => ?_⟩
  unfold gSorted at e
  split at e
  · next ds =>
    split at e
    · next hc =>
      cases e
      obtain ⟨a, us, rfl, t, r⟩ := rl rv
      rw [hK]
      refine ⟨a, us, ds, rfl, t, r, hc, fun p us' hp r' => k p us' _ (fresh_back e1 hp) (e1.trans (Ex.new hp)) upd_same (RDs.ex (Ex.new hp) (RepAll.nl _ _ (nl_perm (List.mergeSort_perm _ _) ?_) r'))⟩
      simp only [Bool.and_eq_true] at hc
      exact hc.1.1.1
    · cases e
  · cases e
end
end Sm

set_option Elab.async false
set_option linter.all false
set_option maxRecDepth 100000
set_option maxHeartbeats 1000000
namespace Sm
open PySem L2 Evl

/-! ### several values at once, new lists among them -/
abbrev PA1 := En → Hs → Option (List Sl × Hs)
structure Srep (F : Fm) (env : En) (h : Hs) (A : As) (H : Hp) (ss : List Sl) (vs : List V) (as : List Addr) : Prop where
  len : vs.length = ss.length
  val : ∀ (i : Nat) x, ss[i]? = some (.v x) → ∃ v, vs[i]? = some v ∧ RV F .fs h A H x v
  lst : ∀ (i : Nat) xs, ss[i]? = some (.l xs) → ∃ p us, vs[i]? = some (.ref p) ∧ p ∈ as ∧ H p = some (.lst us) ∧ RDs F .st H xs us
  no : ∀ (i : Nat) s, ss[i]? = some s → (∃ x, s = .v x) ∨ ∃ xs, s = .l xs
  fr : ∀ p ∈ as, Fresh F env h A p ∧ ∃ o, H p = some o
  nd : ∀ (i j : Nat) xs ys p, ss[i]? = some (.l xs) → ss[j]? = some (.l ys) → vs[i]? = some (.ref p) → vs[j]? = some (.ref p) → i = j
def tP (F : Fm) (m : PA1) : TA := fun σ H Q => ∃ env h A ss h', SR F env h A σ H ∧ m env h = some (ss, h') ∧ ∀ vs as H' A', SR F env h' A' σ H' → Step h A H h' A' H' → (∀ p ∈ as, H p = none) → Srep F env h' A' H' ss vs as → Q vs H'
def pNil : PA1 := fun _ h => some ([], h)
def pV (a : E1) (r : PA1) : PA1 := fun env h => (a env h).bind fun x => (r env x.2).bind fun ss => some (.v x.1 :: ss.1, ss.2)
def pL (a : EF) (r : PA1) : PA1 := fun env h => (a env h).bind fun x => (r env x.2).bind fun ss => some (.l x.1 :: ss.1, ss.2)
section
variable {F : Fm} {X : Cx} {a b c e : Expr} {es rest : List Expr} {pos p p2 : Pos} {ℓ : Lv} {env : En} {h h' : Hs} {A A' : As} {σ : L2.St} {H H' : Hp} {ma : E1} {mf : EF} {r : PA1}
theorem Fresh.step {p : Addr} (f : Fresh F env h A p) (s : Step h A H h' A' H') (sl : ∀ i, A' (.s i) = A (.s i) ∨ ¬ live env h (.s i)) {o : HO} (e : H p = some o) : Fresh F env h' A' p := ⟨f.f0, fun q hq z => by
  cases q with
  | s i =>
    rcases sl i with y | y
    · rw [y] at z; exact f.fp (.s i) hq z
    · exact y hq
  | o n =>
    rcases s.nw (.o n) hq with ⟨q', hq', z'⟩ | z'
    · exact f.fp q' hq'.live (z'.symm.trans z)
    · rw [z, e] at z'; cases z'
  | f n j =>
    rcases s.nw (.f n j) hq with ⟨q', hq', z'⟩ | z'
    · exact f.fp q' hq'.live (z'.symm.trans z)
    · rw [z, e] at z'; cases z'⟩
/-- a slot's own place stands where it stood -/
theorem slot_same (R : SR F env h A σ H) (R' : SR F env h' A' σ H') (i : Nat) : A' (.s i) = A (.s i) ∨ ¬ live env h (.s i) := by
  by_cases hl : live env h (.s i)
  · left
    obtain ⟨s, e, m⟩ := hl
    have z1 := R.sl i s e
    have z2 := R'.sl i s e
    cases s with
    | l xs =>
      obtain ⟨e1, _⟩ := z1
      obtain ⟨e2, _⟩ := z2
      rw [e1] at e2
      injection e2 with e2
      injection e2 with e2
      exact e2.symm
    | k xs =>
      obtain ⟨e1, _⟩ := z1
      obtain ⟨e2, _⟩ := z2
      rw [e1] at e2
      injection e2 with e2
      injection e2 with e2
      exact e2.symm
    | un => cases m
    | v x => cases m
  · exact .inr hl
theorem sp_nil : PA X [] (tP F pNil) := PAimp pa_nil fun σ H Q ⟨env, h, A, ss, h', R, e, k⟩ => by
  cases e
  exact k [] [] H A R Step.refl (by simp) ⟨rfl, by simp, by simp, by simp, by simp, by simp⟩
theorem sp_v (ha : SimE X F .fs e ma) (hr : PA X es (tP F r)) (hs : starEach (e :: es) X.env = (false, eval e X.env) :: starEach es X.env := by rfl) : PA X (e :: es) (tP F (pV ma r)) :=
  PAimp (pa_cons ha hr hs) fun σ H Q ⟨env, h, A, ss, h', R, e, k⟩ => by
    obtain ⟨⟨x, h1⟩, ex, e⟩ := bind_some e
    obtain ⟨⟨ys, h2⟩, ey, e⟩ := bind_some e
    cases e
    refine ⟨env, h, A, x, h1, R, ex, fun v H1 A1 R1 s1 rv => ⟨env, h1, A1, ys, _, R1, ey, fun vs as H2 A2 R2 s2 nn S => k (v :: vs) as H2 A2 R2 (s1.trans s2) (fun p hp => none_back s1 (nn p hp)) ?_⟩⟩
    refine ⟨by simp [S.len], fun i y q => ?_, fun i xs q => ?_, fun i s q => ?_, S.fr, fun i j xs ys p q1 q2 q3 q4 => ?_⟩
    · cases i with
      | zero => simp at q; subst q; exact ⟨v, rfl, rv.step s2 (by simp)⟩
      | succ i => simpa using S.val i y (by simpa using q)
    · cases i with
      | zero => simp at q
      | succ i => simpa using S.lst i xs (by simpa using q)
    · cases i with
      | zero => simp at q; exact .inl ⟨x, q.symm⟩
      | succ i => exact S.no i s (by simpa using q)
    · cases i with
      | zero => simp at q1
      | succ i =>
        cases j with
        | zero => simp at q2
        | succ j => rw [S.nd i j xs ys p (by simpa using q1) (by simpa using q2) (by simpa using q3) (by simpa using q4)]
theorem sp_l (ha : SimEF X F e mf) (hr : PA X es (tP F r)) (hs : starEach (e :: es) X.env = (false, eval e X.env) :: starEach es X.env := by rfl) : PA X (e :: es) (tP F (pL mf r)) :=
  PAimp (pa_cons ha hr hs) fun σ H Q ⟨env, h, A, ss, h', R, e, k⟩ => by
    obtain ⟨⟨x, h1⟩, ex, e⟩ := bind_some e
    obtain ⟨⟨ys, h2⟩, ey, e⟩ := bind_some e
    cases e
    refine ⟨env, h, A, x, h1, R, ex, fun p us H1 A1 R1 s1 hp hv fr rs => ⟨env, h1, A1, ys, _, R1, ey, fun vs as H2 A2 R2 s2 nn S => ?_⟩⟩
    have kp : H2 p = some (.lst us) := s2.fr p _ hv fun q hq => fr.fp q hq.live
    have np : p ∉ as := fun hm => by have := nn p hm; rw [hv] at this; cases this
    refine k (.ref p :: vs) (p :: as) H2 A2 R2 (s1.trans s2) (fun q hq => ?_) ?_
    · rcases List.mem_cons.mp hq with rfl | hq
      · exact hp
      · exact none_back s1 (nn q hq)
    refine ⟨by simp [S.len], fun i y q => ?_, fun i xs q => ?_, fun i s q => ?_, fun q hq => ?_, fun i j xs ys q q1 q2 q3 q4 => ?_⟩
    · cases i with
      | zero => simp at q
      | succ i => simpa using S.val i y (by simpa using q)
    · cases i with
      | zero => simp at q; subst q; exact ⟨p, us, rfl, by simp, kp, RDs.pres s2.pres (by simp) rs⟩
      | succ i =>
        obtain ⟨q1, u1, a1, a2, a3, a4⟩ := S.lst i xs (by simpa using q)
        exact ⟨q1, u1, by simpa using a1, by simp [a2], a3, a4⟩
    · cases i with
      | zero => simp at q; exact .inr ⟨x, q.symm⟩
      | succ i => exact S.no i s (by simpa using q)
    · rcases List.mem_cons.mp hq with rfl | hq
      · exact ⟨Fresh.step fr s2 (slot_same R1 R2) hv, _, kp⟩
      · exact S.fr q hq
    · cases i with
      | zero =>
        cases j with
        | zero => rfl
        | succ j =>
          obtain ⟨w, _, a1, a2, _⟩ := S.lst j ys (by simpa using q2)
          simp at q3 q4
          rw [q4] at a1
          cases a1
          subst q3
          exact absurd a2 np
      | succ i =>
        cases j with
        | zero =>
          obtain ⟨w, _, a1, a2, _⟩ := S.lst i xs (by simpa using q1)
          simp at q3 q4
          rw [q3] at a1
          cases a1
          subst q4
          exact absurd a2 np
        | succ j => rw [S.nd i j xs ys q (by simpa using q1) (by simpa using q2) (by simpa using q3) (by simpa using q4)]
/-- one of them stored -/
theorem store1 {ss : List Sl} {vs : List V} {as done : List Addr} {k i : Nat} {s : Sl} {v : V} (R : SR F env h A σ H) (hs : ss[k]? = some s) (hv : vs[k]? = some v)
    (hval : ∀ x, s = .v x → RV F .fs h A H x v) (hlst : ∀ xs, s = .l xs → ∃ p us, v = .ref p ∧ H p = some (.lst us) ∧ RDs F .st H xs us ∧ Fresh F env h A p) (hno : (∃ x, s = .v x) ∨ ∃ xs, s = .l xs) :
    ∃ A', SR F (env.set i s) h A' (σ.set i (some v)) H ∧ (∀ q, hlive h q → A' q = A q) ∧ (∀ q, live (env.set i s) h q → A' q = A q ∧ live env h q ∨ ∃ xs, s = .l xs ∧ v = .ref (A' q) ∧ q = .s i) ∧ ∀ m, A' (.o m) = A (.o m) := by
  rcases hno with ⟨x, rfl⟩ | ⟨xs, rfl⟩
  · refine ⟨A, R.setV (hval x rfl), fun _ _ => rfl, fun q hq => ?_, fun _ => rfl⟩
    rcases live_set hq with ⟨_, m, _⟩ | ⟨_, hq⟩
    · cases m
    · exact .inl ⟨rfl, hq⟩
  · obtain ⟨p, us, rfl, e1, r, f⟩ := hlst xs rfl
    refine ⟨As.put A (.s i) p, R.setNew f rfl ⟨rfl, us, e1, r⟩, fun q hq => As.put_ne (by intro z; subst z; exact hq), fun q hq => ?_, fun m => As.put_ne (by intro z; cases z)⟩
    rcases live_set hq with ⟨z, _, _⟩ | ⟨z, hq⟩
    · exact .inr ⟨xs, rfl, by rw [z, As.put_same], z⟩
    · exact .inl ⟨As.put_ne z, hq⟩
def mPar2 (i j : Nat) (m : PA1) : M1 := fun env h => (m env h).bind fun r => match r.1 with
  | [s, t] => some (.nx, (env.set i s).set j t, r.2)
  | _ => none
theorem ss_par2 {i j : Nat} {x y : Str} {m : PA1} {px py pt : Pos} {kt k2 pt2} (hc : X.calm = true) (hN : X.N.Nodup) (hi : X.N[i]? = some x) (hj : X.N[j]? = some y) (hij : i ≠ j)
    (hx : X.env.scope.names.lookup x = some .local) (hy : X.env.scope.names.lookup y = some .local) (ha : PA X [a, b] (tP F m))
    (hw : swappedStores [.Tuple [.Name x px, .Name y py] kt pt] (.Tuple [a, b] k2 pt2) X.env = pure (some [x, y]))
    (hs : swapsWithSole [.Tuple [.Name x px, .Name y py] kt pt] (.Tuple [a, b] k2 pt2) pos.line X.env = pure false := by rfl) :
    SimS X F (.Assign [.Tuple [.Name x px, .Name y py] kt pt] (.Tuple [a, b] k2 pt2) pos) (mPar2 i j m) := PSimp (ps_par hc hN hi hj hij hx hy ha hw hs) fun D σ H ⟨env, h, A, r, env', h', R, e, k⟩ => by
  obtain ⟨⟨ss, h1⟩, ex, e⟩ := bind_some e
  simp only at e
  split at e
  · next s t =>
    cases e
    refine ⟨env, h, A, _, _, R, ex, fun vs as H1 A1 R1 s1 nn S => ?_⟩
    obtain ⟨v, w, rfl⟩ : ∃ v w, vs = [v, w] := by
      have := S.len
      match vs, this with
      | [v, w], _ => exact ⟨v, w, rfl⟩
    refine ⟨v, w, rfl, ?_⟩
    obtain ⟨A2, R2, p1, p2, p3⟩ := store1 (ss := [s, t]) (vs := [v, w]) (as := as) (done := []) (k := 0) (i := i) R1 rfl rfl (fun x z => by subst z; obtain ⟨v', h1, h2⟩ := S.val 0 x rfl; cases h1; exact h2)
      (fun xs z => by subst z; obtain ⟨p, us, h1, h2, h3, h4⟩ := S.lst 0 xs rfl; cases h1; exact ⟨p, us, rfl, h3, h4, (S.fr p h2).1⟩) (S.no 0 s rfl)
    obtain ⟨A3, R3, _, _, _⟩ := store1 (ss := [s, t]) (vs := [v, w]) (as := as) (done := []) (k := 1) (i := j) R2 rfl rfl (fun x z => by subst z; obtain ⟨v', h1, h2⟩ := S.val 1 x rfl; cases h1; exact h2.mono (fun _ _ z => z) (fun _ _ z => z) (Nat.le_refl _) fun m _ => p3 m)
      (fun xs z => by
        subst z
        obtain ⟨p, us, h1, h2, h3, h4⟩ := S.lst 1 xs rfl
        cases h1
        refine ⟨p, us, rfl, h3, h4, ⟨(S.fr p h2).1.f0, fun q hq z => ?_⟩⟩
        rcases p2 q hq with ⟨z1, z2⟩ | ⟨ys, rfl, z1, _⟩
        · exact (S.fr p h2).1.fp q z2 (z1.symm.trans z)
        · rw [z] at z1
          have := S.nd 0 1 ys xs p rfl rfl (by rw [z1]; rfl) rfl
          cases this) (S.no 1 t rfl)
    exact k _ H1 A3 R3 s1.pres
  · cases e

/-! ### own lists in place -/
def mApp (i : Nat) (q : Q1) : M1 := fun env h => (q env h).bind fun x => (dOf x).bind fun d => match env[i]? with
  | some (.l xs) => if xs.length < sizeLine then some (.nx, env.set i (.l (xs ++ [d])), h) else none
  | _ => none
theorem mt_of {id : String} {r : V → List V → Hp → VK → Prop} (h : MtM X id r) : MtR X id r := h
theorem ty_list {K : PySem.W.Frag} {p : Addr} {us : List V} (e : H p = some (.lst us)) : tyV K "list" (.ref p) H := .inl ⟨rfl, us, .inl (.inl e)⟩
theorem slot_own (R : SR F env h A σ H) {i : Nat} {xs : List PyData} (e : env[i]? = some (.l xs)) : σ[i]? = some (some (.ref (A (.s i)))) ∧ ∃ us, H (A (.s i)) = some (.lst us) ∧ RDs F .st H xs us := by
  obtain ⟨e1, us, e2, r⟩ := R.sl i _ e
  refine ⟨?_, us, e2, r⟩
  cases hs : σ[i]? with
  | none => rw [hs] at e1; cases e1
  | some o => rw [hs] at e1; exact congrArg some e1
/-- the list's new items, told where it stands -/
theorem SR.putL (R : SR F env h A σ H) {i : Nat} {xs ys : List PyData} {vs : List V} (e : env[i]? = some (.l xs)) (r : RDs F .st H ys vs) : SR F (env.set i (.l ys)) h A σ (upd H (A (.s i)) (.lst vs)) := by
  obtain ⟨e1, _⟩ := R.sl i _ e
  have P : Pres H (upd H (A (.s i)) (.lst vs)) := R.pres_at ⟨_, e, rfl⟩
  exact R.putS e rfl rfl ⟨e1, vs, upd_same, RepAll.mono P.sqT P.sL _ _ r⟩
end
end Sm

set_option Elab.async false
set_option linter.all false
set_option maxRecDepth 100000
set_option maxHeartbeats 1000000
namespace Sm
open PySem L2 Evl

/-! ### list + list -/
def rCatQ (K : PySem.W.Frag) : R2 := fun x y H Q => ∃ l b xs zs, x = .ref l ∧ y = .ref b ∧ SqL K H l xs ∧ SqL K H b zs ∧ xs.length + zs.length ≤ sizeLine ∧ ∀ p, H p = none → Q (.ref p) (upd H p (.lst (xs ++ zs)))
theorem op_catQ {X : Cx} : OpR X (binaryOp .Add) (rCatQ X.K) := by
  intro pins s σ H x y v u Q I rx ry hyp
  obtain ⟨l, b, xs, zs, rfl, rfl, hx, hz, hsz, k⟩ := hyp
  cases rx
  cases ry
  obtain ⟨its, r1, ⟨⟨c1, d1, t1, s1⟩, n1, g1, gc, gd, gt⟩, _⟩ := I.list hx
  obtain ⟨jts, r2, ⟨⟨c2, d2, t2, s2⟩, n2, f1, fc, fd, ft⟩, _⟩ := I.list hz
  simp only at gc gd gt fc fd ft
  subst gc gd gt fc fd ft
  have el : its.toArray.size + jts.toArray.size ≤ sizeLine := by
    rw [List.size_toArray, List.size_toArray, ← r1.length, ← r2.length]
    exact hsz
  have run := PyProof.Rows.list_addW l b its.toArray jts.toArray n1 n2 none none s1 s2 el
  refine concat_meets
    ⟨_, g1, rfl⟩ ⟨_, f1, rfl⟩
    noFill_list_add seq_list_add
    PySem.F.slot_list_add
    PySem.F.entry_list_add
    (PySem.F.args_list_add_2 _ _)
    run ?_
  refine ⟨g1, f1, ?_⟩
  have ea : its.toArray ++ jts.toArray = (its ++ jts).toArray := by simp
  rw [ea]
  have hl : (xs ++ zs).length ≤ sizeLine := by rw [List.length_append]; exact hsz
  exact ⟨.ref s.heap.objs.size, _, I.laid (t' := s.toks) (o := .lst (xs ++ zs)) (fun b' o' e' => Heap.get?_push_of_some _ e') (Nat.le_refl _) ⟨hl, _, 0, r1.append r2, Heap.get?_push_size _ rfl⟩, rfl, k _ (I.hok.fresh (Nat.le_refl _))⟩
def gCat : Hs → Val → Val → Option (List PyData) := fun _ x y => match x, y with
  | .d (.list xs), .d (.list ys) => if nlAll xs = true ∧ nlAll ys = true ∧ xs.length + ys.length ≤ sizeLine then some (xs ++ ys) else none
  | _, _ => none
section
variable {F : Fm} {X : Cx} {a b c e : Expr} {es rest : List Expr} {pos p p2 apos : Pos} {ℓ : Lv} {qa qb qc : Q1} {env : En} {h h' : Hs} {A A' : As} {σ : L2.St} {H H' : Hp} {ma mb : E1} {mf : EF}
theorem sf_cat (hK : X.K = F.G.K) (ha : SimQ X F .mo a qa) (hb : SimQ X F .mo b qb) : SimF X F (.BinOp a .Add b pos) (f2 gCat qa qb) := PEimp (pe_op op_catQ ha hb) fun σ H Q ⟨env, h, A, z, R, e, k⟩ => by
  obtain ⟨x, ex, e⟩ := bind_some e
  obtain ⟨y, ey, e⟩ := bind_some e
  refine ⟨env, h, A, x, R, ex, fun v H1 e1 rv => ⟨env, h, A, y, R.ex e1, ey, fun u H2 e2 ru => ?_⟩⟩
  have rv := rv.ex e2
  unfold gCat at e
  split at e
  · next xs ys =>
    split at e
    · next hc =>
      cases e
      obtain ⟨a, us, rfl, q1, r1⟩ := rl rv
      obtain ⟨b, ws, rfl, q2, r2⟩ := rl ru
      rw [hK]
      refine ⟨a, b, us, ws, rfl, rfl, q1, q2, by rw [r1.len, r2.len]; exact hc.2.2, fun p hp => k p _ _ (fresh_back (e1.trans e2) hp) ((e1.trans e2).trans (Ex.new hp)) upd_same (RDs.ex (Ex.new hp) (RepAll.append (RepAll.nl _ _ hc.1 r1) (RepAll.nl _ _ hc.2.1 r2)))⟩
    · cases e
  · cases e
/-- both may write; the operands locked -/
def ef2 (g : Hs → Val → Val → Option (List PyData)) (a b : E1) : EF := fun env h => (a env h).bind fun x => (b env x.2).bind fun y => (g y.2 x.1 y.1).bind fun z => some (z, y.2)
theorem sef_cat (hK : X.K = F.G.K) (ha : SimE X F .fs a ma) (hb : SimE X F .fs b mb) : SimEF X F (.BinOp a .Add b pos) (ef2 gCat ma mb) := PEimp (pe_op op_catQ ha hb) fun σ H Q ⟨env, h, A, z, h', R, e, k⟩ => by
  obtain ⟨⟨x, h1⟩, ex, e⟩ := bind_some e
  obtain ⟨⟨y, h2⟩, ey, e⟩ := bind_some e
  obtain ⟨w, ew, e⟩ := bind_some e
  cases e
  refine ⟨env, h, A, x, h1, R, ex, fun v H1 A1 R1 s1 rv => ⟨env, h1, A1, y, _, R1, ey, fun u H2 A2 R2 s2 ru => ?_⟩⟩
  have rv := RV.mo R2 (rv.step s2 (by simp))
  have ru := RV.mo R2 ru
  have ew : gCat h2 x y = some _ := ew
  unfold gCat at ew
  split at ew
  · next xs ys =>
    split at ew
    · next hc =>
      cases ew
      obtain ⟨a, us, rfl, q1, r1⟩ := rl rv
      obtain ⟨b, ws, rfl, q2, r2⟩ := rl ru
      rw [hK]
      refine ⟨a, b, us, ws, rfl, rfl, q1, q2, by rw [r1.len, r2.len]; exact hc.2.2, fun p hp => k p _ _ A2 (R2.ex (Ex.new hp)) ((s1.trans s2).trans (Step.ex (Ex.new hp))) (none_back (s1.trans s2) hp) upd_same ⟨(R2.fresh hp).f0, (R2.fresh hp).fp⟩ (RDs.ex (Ex.new hp) (RepAll.append (RepAll.nl _ _ hc.1 r1) (RepAll.nl _ _ hc.2.1 r2)))⟩
    · cases ew
  · cases ew

/-! ### own lists in place -/
def mAppE (i : Nat) (m : E1) : M1 := fun env h => match env[i]? with
  | some (.l xs) => (m env h).bind fun x => (dOf x.1).bind fun d => if xs.length < sizeLine then some (.nx, env.set i (.l (xs ++ [d])), x.2) else none
  | _ => none
theorem RD.of_val {x : Val} {d : PyData} {v : V} (e : dOf x = some d) (r : RV F ℓ h A H x v) : RD F ℓ H d v := by
  cases x with
  | d y => cases e; exact r
  | ref n => cases e
  | fn n => cases e
theorem ss_app {i : Nat} {x : Str} (hK : X.K = F.G.K) (ha : SimE X F .st e ma) (hN : X.N[i]? = some x := by rfl) (hv : Vis X.env.scope x := by first | exact Or.inl rfl | exact Or.inr (Or.inl rfl) | exact Or.inr (Or.inr rfl)) (hd : (x == ("__debug__" : Str)) = false := by decide)
    (hcd : (x == ("__classdict__" : Str)) = false := by decide)
    (hbase : attributeBase (.Name x p) "append" X.env (eval (.Name x p) X.env) = eval (.Name x p) X.env := by rfl)
    (hfew : ((backTo pos (starEach [e] X.env)).all (fun x => !x.1) && (backToKw pos (keywordEach [] X.env)).all (fun x => x.1.isSome) && decide ([e].length + ([] : List Keyword).length + (if ([] : List Keyword).isEmpty then 0 else 1) < 30)) = true := by rfl)
    (hline : (apos.endLine == pos.line) = true := by rfl) (hs : starEach [e] X.env = (false, eval e X.env) :: starEach [] X.env := by rfl) (hplain : (backTo pos (starEach [] X.env)).any (·.1) = false := by rfl)
    (hsw : swapsWith (.Call (.Attribute (.Name x p) "append" apos) [e] [] pos) none p2.line X.env = pure false := by rfl) :
    SimS X F (.Expr (.Call (.Attribute (.Name x p) "append" apos) [e] [] pos) p2) (mAppE i ma) :=
  PSimp (ps_expr (pe_bm PySem.F.plainAttrs_list PySem.F.slot_list_append PySem.F.type_list_append mt_append (pe_var hN hv hd hcd) (pa_cons ha pa_nil hs) hbase hfew hline hs hplain) hsw) fun D σ H ⟨env, h, A, r, env', h', R, e, k⟩ => by
    unfold mAppE at e
    split at e
    · next xs hy =>
      obtain ⟨⟨y, h1⟩, ey, e⟩ := bind_some e
      obtain ⟨d, ed, e⟩ := bind_some e
      split at e
      · next hl =>
        cases e
        obtain ⟨s1, us, hu, _⟩ := slot_own R hy
        refine ⟨_, s1, by rw [hK]; exact ty_list hu, env, h, A, y, _, R, ey, fun v H1 A1 R1 st rv => ?_⟩
        obtain ⟨s2, ws, hw, rs⟩ := slot_own R1 hy
        rw [s1] at s2
        have ea : A (.s i) = A1 (.s i) := by injection s2 with z; injection z with z; injection z
        refine ⟨A (.s i), ws, v, rfl, rfl, by rw [ea]; exact hw, by rw [rs.len]; exact hl, ?_⟩
        have R2 := R1.putL hy (rs.append (.cons (RD.of_val ed rv) .nil))
        rw [ea]
        exact k σ _ A1 R2 (st.pres.trans (R1.pres_at ⟨_, hy, rfl⟩))
      · cases e
    · cases e
def mExtE (i : Nat) (m : EF) : M1 := fun env h => match env[i]? with
  | some (.l xs) => (m env h).bind fun x => if xs.length + x.1.length ≤ sizeLine then some (.nx, env.set i (.l (xs ++ x.1)), x.2) else none
  | _ => none
theorem ss_ext {i : Nat} {x : Str} (hK : X.K = F.G.K) (ha : SimEF X F e mf) (hN : X.N[i]? = some x := by rfl) (hv : Vis X.env.scope x := by first | exact Or.inl rfl | exact Or.inr (Or.inl rfl) | exact Or.inr (Or.inr rfl)) (hd : (x == ("__debug__" : Str)) = false := by decide)
    (hcd : (x == ("__classdict__" : Str)) = false := by decide)
    (hbase : attributeBase (.Name x p) "extend" X.env (eval (.Name x p) X.env) = eval (.Name x p) X.env := by rfl)
    (hfew : ((backTo pos (starEach [e] X.env)).all (fun x => !x.1) && (backToKw pos (keywordEach [] X.env)).all (fun x => x.1.isSome) && decide ([e].length + ([] : List Keyword).length + (if ([] : List Keyword).isEmpty then 0 else 1) < 30)) = true := by rfl)
    (hline : (apos.endLine == pos.line) = true := by rfl) (hs : starEach [e] X.env = (false, eval e X.env) :: starEach [] X.env := by rfl) (hplain : (backTo pos (starEach [] X.env)).any (·.1) = false := by rfl)
    (hsw : swapsWith (.Call (.Attribute (.Name x p) "extend" apos) [e] [] pos) none p2.line X.env = pure false := by rfl) :
    SimS X F (.Expr (.Call (.Attribute (.Name x p) "extend" apos) [e] [] pos) p2) (mExtE i mf) :=
  PSimp (ps_expr (pe_bm PySem.F.plainAttrs_list PySem.F.slot_list_extend PySem.F.type_list_extend mt_extend (pe_var hN hv hd hcd) (pa_cons ha pa_nil hs) hbase hfew hline hs hplain) hsw) fun D σ H ⟨env, h, A, r, env', h', R, e, k⟩ => by
    unfold mExtE at e
    split at e
    · next xs hy =>
      obtain ⟨⟨y, h1⟩, ey, e⟩ := bind_some e
      split at e
      · next hl =>
        cases e
        obtain ⟨s1, us, hu, _⟩ := slot_own R hy
        refine ⟨_, s1, by rw [hK]; exact ty_list hu, env, h, A, y, _, R, ey, fun q zs H1 A1 R1 st hq hz f rz => ?_⟩
        obtain ⟨s2, ws, hw, rs⟩ := slot_own R1 hy
        rw [s1] at s2
        have ea : A (.s i) = A1 (.s i) := by injection s2 with z; injection z with z; injection z
        refine ⟨A (.s i), q, ws, zs, rfl, rfl, by rw [ea]; exact hw, hz, by rw [rs.len, rz.len]; exact hl, ?_⟩
        have R2 := R1.putL hy (rs.append rz)
        rw [ea]
        exact k σ _ A1 R2 (st.pres.trans (R1.pres_at ⟨_, hy, rfl⟩))
      · cases e
    · cases e

/-! ### list objects -/
/-- o[i] = v -/
def oPut (h : Hs) (n : Nat) (k : Int) (y : Val) : Option Hs := match h[n]? with
  | some (.lst xs) => (dOf y).bind fun d => (ixN xs.length k).bind fun j => some (h.set n (.lst (xs.set j d)))
  | some (.vls xs) => (ixN xs.length k).bind fun j => some (h.set n (.vls (xs.set j y)))
  | _ => none
def mPut (qo qi : Q1) (m : E1) : M1 := fun env h => (m env h).bind fun x => (qo env x.2).bind fun o => (qi env x.2).bind fun i => match o, i with
  | .ref n, .d (.int k) => (oPut x.2 n k x.1).bind fun h' => some (.nx, env, h')
  | _, _ => none
theorem pair_set {α β : Type} {f : α → β → Prop} : ∀ {l : List α} {m : List β} (i : Nat) {x : α} {y : β}, Paired f l m → f x y → Paired f (l.set i x) (m.set i y)
  | _, _, i, x, y, .nil, r => .nil
  | _, _, 0, x, y, .cons _ t, r => .cons r t
  | _, _, i + 1, x, y, .cons h t, r => .cons h (pair_set i t r)
theorem ss_put {o i : Expr} {qo qi : Q1} {tpos : Pos} (hw : F.rw = true) (ha : SimE X F .st e ma) (ho : SimQ X F .mo o qo) (hi : SimQ X F .mo i qi) (hs : swapsWithSole [.Subscript o i tpos] e pos.line X.env = pure false := by rfl) (hsw : swappedStores [.Subscript o i tpos] e X.env = pure none := by rfl)
    (h1 : (assignEach [.Subscript o i tpos] X.env).map (·.2) = [assign (.Subscript o i tpos) X.env] := by rfl)
    (hst : ∀ v, assign (.Subscript o i tpos) X.env v = (do
      let ov ← holding [v] (eval o X.env)
      let iv ← holding [v, ov] (eval i X.env)
      standAt tpos
      holding [v, ov, iv] (setItem ov iv v)
      release [v, ov, iv] []) := by intro _; rfl) : SimS X F (.Assign [.Subscript o i tpos] e pos) (mPut qo qi ma) :=
  PSimp (ps_asg ha (pg_sub ho hi set_list hst) hs hsw h1) fun D σ H ⟨env, h, A, r, env', h', R, e, k⟩ => by
    obtain ⟨⟨x, h1⟩, ex, e⟩ := bind_some e
    obtain ⟨y, ey, e⟩ := bind_some e
    obtain ⟨z, ez, e⟩ := bind_some e
    refine ⟨env, h, A, x, h1, R, ex, fun v H1 A1 R1 s1 rv => ⟨env, h1, A1, y, R1, ey, fun w H2 e2 rw' => ⟨env, h1, A1, z, R1.ex e2, ez, fun u H3 e3 ru => ?_⟩⟩⟩
    split at e
    · next n kk _ =>
      obtain ⟨h2, eh, e⟩ := bind_some e
      cases e
      obtain ⟨_, rfl⟩ := rw'
      cases ri ru
      have R3 := (R1.ex e2).ex e3
      unfold oPut at eh
      split at eh
      · next xs hn =>
        obtain ⟨d, ed, eh⟩ := bind_some eh
        obtain ⟨j, ej, eh⟩ := bind_some eh
        cases eh
        obtain ⟨us, hu, rs⟩ := R3.ob n _ hn
        have rd : RD F .st H3 d v := RD.ex (e2.trans e3) (RD.of_val ed rv)
        have hj : ixN us.length kk = some j := by rw [rs.len]; exact ej
        refine ⟨_, us, kk, j, rfl, rfl, hu, hj, ?_⟩
        have R4 := R3.putO hw hn (rs.set j rd)
        exact k σ _ A1 R4 ((s1.pres.trans (Ex.pres (e2.trans e3))).trans (R3.pres_at (show live env h1 (.o n) from (List.getElem?_eq_some_iff.mp hn).1)))
      · next xs hn =>
        obtain ⟨j, ej, eh⟩ := bind_some eh
        cases eh
        obtain ⟨us, hu, rs⟩ := R3.ob n _ hn
        have rv3 : RV F .st h1 A1 H3 x v := (rv.ex e2).ex e3
        have hj : ixN us.length kk = some j := by rw [pair_len rs]; exact ej
        refine ⟨_, us, kk, j, rfl, rfl, hu, hj, ?_⟩
        have R4 := R3.putV hw hn (pair_set j rs rv3)
        exact k σ _ A1 R4 ((s1.pres.trans (Ex.pres (e2.trans e3))).trans (R3.pres_at (show live env h1 (.o n) from (List.getElem?_eq_some_iff.mp hn).1)))
      · cases eh
    · cases e
/-- a list written out as an object of its own -/
def newOb (xs : List Val) : Ob := match dsOf xs with
  | some ds => .lst ds
  | none => .vls xs
def eNew (a : EA) : E1 := fun env h => (a env h).bind fun x => if x.1.length ≤ sizeLine then some (.ref x.2.length, x.2 ++ [newOb x.1]) else none
theorem ds_st {h : Hs} {A : As} {H : Hp} : ∀ {xs : List Val} {ds : List PyData} {vs : List V}, dsOf xs = some ds → Paired (fun x v => RV F ℓ h A H x v) xs vs → RDs F ℓ H ds vs := fun e r => ds_rep e r
def tEAs (F : Fm) (m : EA) : TA := fun σ H Q => ∃ env h A xs h', SR F env h A σ H ∧ m env h = some (xs, h') ∧ ∀ vs H' A', SR F env h' A' σ H' → Step h A H h' A' H' → Paired (fun x v => RV F .st h' A' H' x v) xs vs → Q vs H'
theorem sas_nil : PA X [] (tEAs F eNil) := PAimp pa_nil fun σ H Q ⟨env, h, A, xs, h', R, e, k⟩ => by
  cases e
  exact k [] H A R Step.refl .nil
theorem sas_cons {r : EA} (ha : SimE X F .st e ma) (hr : PA X es (tEAs F r)) (hs : starEach (e :: es) X.env = (false, eval e X.env) :: starEach es X.env := by rfl) : PA X (e :: es) (tEAs F (eCons ma r)) :=
  PAimp (pa_cons ha hr hs) fun σ H Q ⟨env, h, A, xs, h', R, e, k⟩ => by
    obtain ⟨⟨x, h1⟩, ex, e⟩ := bind_some e
    obtain ⟨⟨ys, h2⟩, ey, e⟩ := bind_some e
    cases e
    exact ⟨env, h, A, x, h1, R, ex, fun v H1 A1 R1 s1 rv => ⟨env, h1, A1, ys, _, R1, ey, fun vs H2 A2 R2 s2 rs => k _ H2 A2 R2 (s1.trans s2) (.cons (rv.step s2 (by simp)) rs)⟩⟩
theorem newOb_no (xs : List Val) : ∀ c fs, newOb xs ≠ .ins c fs := fun c fs z => by
  unfold newOb at z
  split at z <;> cases z
theorem se_new {r : EA} (hw : F.rw = true) (hr : PA X es (tEAs F r)) : SimE X F ℓ (.List es pos) (eNew r) := PEimp (pe_lst hr) fun σ H Q ⟨env, h, A, z, h', R, e, k⟩ => by
  obtain ⟨⟨xs, h1⟩, ex, e⟩ := bind_some e
  split at e
  · next hl =>
    cases e
    refine ⟨env, h, A, xs, h1, R, ex, fun vs H1 A1 R1 s1 rs => ?_⟩
    refine ⟨by rw [pair_len rs]; exact hl, fun p hp => ?_⟩
    have R2 := R1.ex (Ex.new (p := p) (o := .lst vs) hp)
    have f : Fresh F env h1 A1 p := ⟨(R1.fresh hp).f0, (R1.fresh hp).fp⟩
    have ho : ObOf F.G (h1.length + 1) (As.put A1 (.o h1.length) p) (upd H1 p (.lst vs)) h1.length (newOb xs) := by
      have hA : ∀ m, m < h1.length → As.put A1 (.o h1.length) p (.o m) = A1 (.o m) := fun m hm => As.put_ne (by intro q; cases q; exact absurd hm (Nat.lt_irrefl _))
      unfold newOb
      split
      · next ds ed => exact ⟨vs, by rw [As.put_same]; exact upd_same, RDs.ex (Ex.new hp) (ds_rep ed rs)⟩
      · exact ⟨vs, by rw [As.put_same]; exact upd_same, vls_mono (fun _ _ y => RepV.mono (Ex.pres (Ex.new hp)).sqT (Ex.pres (Ex.new hp)).sL (Nat.le_succ _) hA y) rs⟩
    have R3 := R2.alloc (o := newOb xs) f (fun j ⟨c, fs, s, e, _⟩ => newOb_no xs c fs (by simpa using e)) ho
    have s3 : Step h1 A1 H1 (h1 ++ [newOb xs]) (As.put A1 (.o h1.length) p) (upd H1 p (.lst vs)) := by
      have x1 : Ex H1 (upd H1 p (.lst vs)) := Ex.new hp
      refine ⟨fun a o q _ => x1 a o q, fun a us q => x1 a _ q, fun a o u q => x1 a _ q, fun a o q => ⟨o, x1 a o q⟩, by simp, fun m hm => As.put_ne (by intro z; cases z; exact absurd hm (Nat.lt_irrefl _)), fun q hq => ?_⟩
      by_cases e : q = .o h1.length
      · exact .inr (by rw [e, As.put_same]; exact hp)
      · rw [As.put_ne e]
        refine .inl ⟨q, ?_, rfl⟩
        cases q with
        | s i => exact hq
        | o n =>
          have hq : n < (h1 ++ [newOb xs]).length := hq
          simp at hq
          have ne : n ≠ h1.length := fun z => e (by rw [z])
          show n < h1.length
          omega
        | f n j =>
          obtain ⟨c, fs, s, e1, e2, m⟩ := hq
          by_cases hn : n < h1.length
          · rw [List.getElem?_append_left hn] at e1; exact ⟨c, fs, s, e1, e2, m⟩
          · rw [List.getElem?_append_right (by omega)] at e1
            have e0 : n - h1.length = 0 := by
              have := (List.getElem?_eq_some_iff.mp e1).1
              simp at this; omega
            rw [e0] at e1
            exact absurd (by simpa using e1) (newOb_no xs c fs)
    exact k _ _ _ R3 (s1.trans s3) ⟨by simp, by rw [As.put_same]⟩
  · cases e
end
end Sm

set_option Elab.async false
set_option linter.all false
set_option maxRecDepth 100000
set_option maxHeartbeats 1000000
namespace Sm
open PySem L2 Evl

/-! ### walks of what may write -/
abbrev IE := En → Hs → Option (List PyData × Hs)
def tIE (F : Fm) (ok : Fm → Hp → Hp → Prop) (ℓ : Lv) (it : IE) : TI := fun σ H R => ∃ env h A xs h', SR F env h A σ H ∧ it env h = some (xs, h') ∧ ∀ J H1 A1, SR F env h' A1 σ H1 → Step h A H h' A1 H1 → Ylds F (ok F H1) ℓ J xs → R J H1
abbrev SimIE (X : Cx) (F : Fm) (ok : Fm → Hp → Hp → Prop) (ℓ : Lv) (tg e : Expr) (it : IE) : Prop := PI X tg e (tIE F ok ℓ it)
def iE (it : I1) : IE := fun env h => (it env h).bind fun xs => some (xs, h)
def iRngE (a : E1) : IE := fun env h => (a env h).bind fun x => match x.1 with
  | .d (.int n) => if (decide (-(2 ^ 62) ≤ n) && decide (n < 2 ^ 62)) = true then some ((List.range n.toNat).map fun k : Nat => PyData.int (k : Int), x.2) else none
  | _ => none
def iSeqE (a : E1) : IE := fun env h => (a env h).bind fun x => (seqOf x.1).bind fun xs => some (xs, x.2)
section
variable {F : Fm} {X : Cx} {tg a b c e : Expr} {es rest : List Expr} {pos p : Pos} {ℓ : Lv} {ma mb : E1} {env : En} {h h' : Hs} {A A' : As} {σ : L2.St} {H H' : Hp} {ok : Fm → Hp → Hp → Prop}
theorem sie_i {it : I1} (hi : SimI X F ok ℓ tg e it) : SimIE X F ok ℓ tg e (iE it) := PIimp hi fun σ H Q ⟨env, h, A, xs, h', R, e, k⟩ => by
  obtain ⟨ys, ey, e⟩ := bind_some e
  cases e
  exact ⟨env, h, A, _, R, ey, fun J H1 e1 Y => k J H1 A (R.ex e1) (Step.ex e1) Y⟩
theorem sie_rng (hm : X.mg "range" = none) (ha : SimE X F .fs a ma) (hg : Gl X "range" := by rfl) (hs : starEach [a] X.env = [(false, eval a X.env)] := by rfl) : SimIE X F ok ℓ tg (.Call (.Name "range" p) [a] [] pos) (iRngE ma) :=
  PIimp (pi_range1 hg hm (pa_cons ha pa_nil hs) hs) fun σ H Q ⟨env, h, A, z, h', R, e, k⟩ => by
    obtain ⟨⟨x, h1⟩, ex, e⟩ := bind_some e
    refine ⟨env, h, A, x, h1, R, ex, fun v H1 A1 R1 s1 rv => ?_⟩
    simp only at e
    split at e
    · next n =>
      split at e
      · next hn =>
        cases e
        cases ri rv
        simp only [Bool.and_eq_true, decide_eq_true_eq] at hn
        refine ⟨n, rfl, hn.1, hn.2, k _ H1 A1 R1 s1 ?_⟩
        have := ylds_rng (F := F) (ℓ := ℓ) (Ok := ok F H1) 0 n.toNat
        simpa using this
      · cases e
    · cases e
theorem sie_seq (hK : X.K = F.G.K) (ha : SimE X F .fs a ma) : SimIE X F OkS .fs tg a (iSeqE ma) := PIimp (PIor (pi_list ha) (pi_tup ha)) fun σ H Q ⟨env, h, A, z, h', R, e, k⟩ => by
  obtain ⟨⟨x, h1⟩, ex, e⟩ := bind_some e
  obtain ⟨xs, ey, e⟩ := bind_some e
  cases e
  rw [hK]
  have ey : seqOf x = some _ := ey
  unfold seqOf at ey
  split at ey
  · cases ey
    refine .inl ⟨env, h, A, _, _, R, ex, fun v H1 A1 R1 s1 rv => ?_⟩
    obtain ⟨a, us, rfl, q, r⟩ := rl rv
    exact ⟨a, rfl, ⟨us, LPof_sq R1 q⟩, k _ H1 A1 R1 s1 (ylds_list r.len fun Hc ⟨P, _, _, _, _, S⟩ => ⟨LPof_sq (ℓ := .fs) S (Pres.fL P _ _ q), RepAll.mono P.sqT (Pres.fL P) _ _ r⟩)⟩
  · cases ey
    refine .inr ⟨env, h, A, _, _, R, ex, fun v H1 A1 R1 s1 rv => ?_⟩
    obtain ⟨a, us, rfl, q, r⟩ := rt rv
    exact ⟨a, rfl, ⟨us, q⟩, k _ H1 A1 R1 s1 (ylds_tup r.len fun Hc ⟨P, _⟩ => ⟨P.sqT _ _ q, RepAll.mono P.sqT (Pres.fL P) _ _ r⟩)⟩
  · cases ey
def mForE (it : IE) (vs : List Nat) (bn : B1) (body : M1) : M1 := fun env h => (it env h).bind fun xs => forGo vs (fun d env h => (bn d env).bind fun env1 => body env1 h) xs.1 (wipeE env vs) xs.2
theorem ss_forE {iter : Expr} {body : List Stmt} {it : IE} {bn : B1} {ss : List Nat} {mb : M1} (vs : List Nat) (hp : PassesOwn (model X.prog X.w) X.A X.env X.xe) (hc : X.calm = true) (hi : SimIE X F OkS .fs tg iter it) (hg : PG X tg (tGt F ss bn)) (hb : SimB X F body mb)
    (hs : ∀ x, foldedSetIterable iter X.env x = pure x := by intro _; rfl) : SimS X F (.For tg iter body [] pos) (mForE it vs bn mb) := PSimp (ps_for hp hc hi hg hb hs) fun D σ H ⟨env, h, A, r, env', h', R, e, k⟩ => by
  obtain ⟨⟨xs, h0⟩, ex, e⟩ := bind_some e
  refine ⟨env, h, A, xs, h0, R, ex, fun J H1 A0 R0 s0 Y => ?_⟩
  have k1 : Post F H1 D r env' h' := k.pre s0.pres
  refine ⟨fun i m σ Hc => m = xs.length - i ∧ i ≤ xs.length ∧ Pres H1 Hc ∧ ∃ env h A, SR F env h A σ Hc ∧ forGo vs (fun d env h => (bn d env).bind fun env1 => mb env1 h) (xs.drop i) env h = some (r, env', h'),
    ⟨xs.length, by simp, Nat.zero_le _, Pres.refl _, _, h0, A0, R0.wipeS vs, by simpa using e⟩, ?_⟩
  rintro i m σ Hc ⟨rfl, hi, P, env2, h2, A2, R2, e2⟩
  have ok : OkS F H1 Hc := ⟨P, env2, h2, A2, σ, R2⟩
  by_cases hlt : i < xs.length
  · rw [List.drop_eq_getElem_cons hlt] at e2
    obtain ⟨⟨r3, env3, h3⟩, e3, e4⟩ := bind_some e2
    obtain ⟨env4, e5, e6⟩ := bind_some e3
    refine .inr ⟨Y.go Hc i ok hlt, fun σ' H' => i + 1 ≤ xs.length ∧ Pres H1 H' ∧ ∃ env h A, SR F env h A σ' H' ∧ forGo vs (fun d env h => (bn d env).bind fun env1 => mb env1 h) (xs.drop (i + 1)) env h = some (r, env', h'),
      fun σ' H' ⟨a, b, c⟩ => ⟨xs.length - (i + 1), by omega, rfl, a, b, c⟩, fun x Hn hy => ?_⟩
    obtain ⟨zn, rx⟩ := Y.yl Hc i x Hn _ ok (List.getElem?_eq_getElem hlt) hy
    refine ⟨env2, h2, A2, xs[i], env4, R2.ex zn, rx, e5, fun σ5 H5 x5 R5 _ _ => ⟨env4, h2, A2, r3, env3, h3, R5, e6, ?_⟩⟩
    have P5 : Pres H1 H5 := (P.trans (Ex.pres zn)).trans (Ex.pres x5)
    cases r3 with
    | nx => exact fun σ' H' A' R' P' => ⟨hlt, P5.trans P', _, h3, A', R'.wipeS vs, e4⟩
    | ct => exact fun σ' H' A' R' P' => ⟨hlt, P5.trans P', _, h3, A', R'.wipeS vs, e4⟩
    | bk => cases e4; exact fun σ' H' A' R' P' => k1 σ' H' A' (R'.wipeS vs) (P5.trans P')
    | rt ℓ x => cases e4; exact k1.pre P5
    | rf xs => cases e4; exact k1.pre P5
    | ex _ _ => cases e4; exact k1.pre P5
  · have e0 : i = xs.length := by omega
    subst e0
    rw [List.drop_length] at e2
    cases e2
    exact .inl ⟨Y.st Hc _ ok (Nat.le_refl _), k1 σ Hc A2 R2 P⟩

/-! ### comprehensions whose elements write -/
theorem SR.updF {p : Addr} {o : HO} (R : SR F env h A σ H) (f : Fresh F env h A p) (P : Pres H (upd H p o)) : SR F env h A σ (upd H p o) := by
  have oth : ∀ q, live env h q → ∀ u, H (A q) = some u → upd H p o (A q) = some u := fun q hq u e => by rw [upd_ne (f.fp q hq)]; exact e
  refine ⟨fun a u q w => ?_, fun a vs q => P.1 _ _ (R.tp a vs q), fun a b u q => P.2 _ _ _ (R.fz a b u q), R.dm_at, R.le, R.oo, R.nw, R.ow, R.ln, fun i s e => R.sl_keep P (Nat.le_refl _) (fun _ _ => rfl) e fun m => ⟨rfl, fun u z => oth (.s i) ⟨s, e, m⟩ u z⟩, fun n b e => ?_, R.ij⟩
  · rw [upd_ne (fun z => by rw [z, f.f0] at q; cases q)]; exact R.fr a u q w
  · exact R.ob_keep P (Nat.le_refl _) (fun _ _ => rfl) e (fun u z => oth (.o n) (List.getElem?_eq_some_iff.mp e).1 u z) fun j hj => ⟨rfl, fun u z => oth _ hj.live u z⟩
theorem Step.updF {p : Addr} {o : HO} (s : Step h A H h' A' H') (hp : H p = none) (P : Pres H' (upd H' p o)) : Step h A H h' A' (upd H' p o) := by
  refine ⟨fun a u q n => ?_, fun a vs q => P.1 _ _ (s.tp a vs q), fun a b u q => P.2 _ _ _ (s.fz a b u q), fun a u q => ?_, s.le, s.oo, s.nw⟩
  · rw [upd_ne (fun z => by rw [z, hp] at q; cases q)]; exact s.fr a u q n
  · obtain ⟨u', e⟩ := s.dm a u q; exact dm_upd a u' e
theorem pres_lst {p : Addr} {us : List V} {o : HO} (e : H p = some (.lst us)) : Pres H (upd H p o) := Pres.upd fun u eu => by
  rw [e] at eu; cases eu
  exact ⟨fun _ q => (by cases q), fun _ _ q => (by cases q)⟩
def lcGoE (step : PyData → Hs → Option (Option PyData × Hs)) : List PyData → Hs → Option (List PyData × Hs)
  | [], h => some ([], h)
  | x :: xs, h => (step x h).bind fun o => (lcGoE step xs o.2).bind fun r => some ((match o.1 with
    | some y => y :: r.1
    | none => r.1), r.2)
def lcStepE (vs : List Nat) (bn : B1) (tt : T1) (te : E1) (env : En) (d : PyData) (h : Hs) : Option (Option PyData × Hs) :=
  (bn d (wipeE env vs)).bind fun env1 => (tt env1 h).bind fun b => if b = true then (te env1 h).bind fun y => (dOf y.1).bind fun z => some (some z, y.2) else some (none, h)
def efLc (it : IE) (vs : List Nat) (bn : B1) (tt : T1) (te : E1) : EF := fun env h => (it env h).bind fun xs =>
  (lcGoE (lcStepE vs bn tt te env) xs.1 xs.2).bind fun ys => if ys.1.length ≤ sizeLine then some ys else none
theorem Step.back (s : Step h A H h' A' H') : Step h A H h' (As.back A A') H' := ⟨s.fr, s.tp, s.fz, s.dm, s.le, s.oo, fun p hp => by rw [back_h hp]; exact s.nw p hp⟩
theorem lcE_read {ss vs : List Nat} {it : IE} {bn : B1} {tt : T1} {te : E1} {Q : VK} (hw : F.rw = true) (hv : ∀ i, i ∈ ss → i ∈ vs) (hq : tEF F (efLc it vs bn tt te) σ H Q) : tLc (tIE F OkS .fs it) (tGt F ss bn) (tT F tt) (tE F .st te) vs σ H Q := by
  obtain ⟨env, h, A, ys, hE, R, e, k⟩ := hq
  obtain ⟨⟨xs, h0⟩, ex, e⟩ := bind_some e
  obtain ⟨⟨zs, hz⟩, ez, e⟩ := bind_some e
  split at e
  · next hl =>
    cases e
    refine ⟨env, h, A, xs, h0, R, ex, fun J H1 A0 R0 s0 Y D hD => ?_⟩
    have hD0 : H D = none := none_back s0 hD
    refine ⟨fun i m Hc => m = xs.length - i ∧ i ≤ xs.length ∧ Pres H1 Hc ∧ ∃ h2 A2 acc ws us, SR F env h2 A2 σ Hc ∧ Step h A H h2 A2 Hc ∧ Fresh F env h2 A2 D ∧ lcGoE (lcStepE vs bn tt te env) (xs.drop i) h2 = some (ws, hE) ∧ acc ++ ws = ys ∧ Hc D = some (.lst us) ∧ RDs F .st Hc acc us,
      ⟨xs.length, by simp, Nat.zero_le _, Ex.pres (Ex.new hD), h0, A0, [], ys, [], R0.ex (Ex.new hD), s0.trans (Step.ex (Ex.new hD)), ⟨(R0.fresh hD).f0, (R0.fresh hD).fp⟩, by simpa using ez, rfl, upd_same, .nil⟩, ?_⟩
    rintro i m Hc ⟨rfl, hi, P, h2, A2, acc, ws, us, R2, s2, f2, e2, ea, hu, ru⟩
    have ok : OkS F H1 Hc := ⟨P, env, h2, A2, σ, R2⟩
    by_cases hlt : i < xs.length
    · rw [List.drop_eq_getElem_cons hlt] at e2
      obtain ⟨⟨o, h3⟩, eo, e2⟩ := bind_some e2
      obtain ⟨⟨w2, h4⟩, er, e2⟩ := bind_some e2
      obtain ⟨env1, eb, eo⟩ := bind_some eo
      obtain ⟨c, ec, eo⟩ := bind_some eo
      refine .inr ⟨Y.go Hc i ok hlt, fun H' => i + 1 ≤ xs.length ∧ Pres H1 H' ∧ ∃ h2 A2 acc ws us, SR F env h2 A2 σ H' ∧ Step h A H h2 A2 H' ∧ Fresh F env h2 A2 D ∧ lcGoE (lcStepE vs bn tt te env) (xs.drop (i + 1)) h2 = some (ws, hE) ∧ acc ++ ws = ys ∧ H' D = some (.lst us) ∧ RDs F .st H' acc us,
        fun H' ⟨a, b⟩ => ⟨xs.length - (i + 1), by omega, rfl, a, b⟩, fun x Hn hy => ?_⟩
      obtain ⟨zn, rx⟩ := Y.yl Hc i x Hn _ ok (List.getElem?_eq_getElem hlt) hy
      refine ⟨_, h2, A2, xs[i], env1, (R2.ex zn).wipe vs, rx, eb, fun σ2 H2 x2 R3 l2 n2 => ⟨?_, env1, h2, A2, c, R3, ec, fun H3 x3 => ?_⟩⟩
      · rw [wipe_eq (σ := L2.wipe σ vs) l2 n2 hv]
        exact wipe_eq (ss := vs) (wipe_len _ _) (fun i hi => wipe_not hi) fun _ z => z
      · have zt : Ex Hc H3 := (zn.trans x2).trans x3
        have Rt : SR F env h2 A2 σ H3 := R2.ex zt
        have ft : Fresh F env h2 A2 D := f2
        cases c with
        | false =>
          cases eo
          cases e2
          exact ⟨hlt, P.trans (Ex.pres zt), h2, A2, acc, w2, us, Rt, s2.trans (Step.ex zt), ft, er, ea, zt D _ hu, RDs.ex zt ru⟩
        | true =>
          obtain ⟨⟨y, h5⟩, ey, eo⟩ := bind_some eo
          obtain ⟨y', ey', eo⟩ := bind_some eo
          cases eo
          cases e2
          refine ⟨env1, h2, A2, y, h5, R3.ex x3, ey, fun v H4 A4 R4 s4 rv => ?_⟩
          have hu4 : H4 D = some (.lst us) := s4.fr D _ (zt D _ hu) fun q hq => ft.fp q hq.live
          have R5 : SR F env h5 (As.back A2 A4) σ H4 := Rt.call hw s4 R4.ob fun p q hp hq e => R4.ij p q hp.live hq.live e
          have f5 : Fresh F env h5 (As.back A2 A4) D := Fresh.step ft s4.back (fun i => .inl rfl) (zt D _ hu)
          have P4 : Pres H4 (upd H4 D (.lst (us ++ [v]))) := pres_lst hu4
          refine ⟨us, hu4, ?_, hlt, ((P.trans (Ex.pres zt)).trans s4.pres).trans P4, h5, _, acc ++ [y'], w2, us ++ [v], R5.updF f5 P4, ((s2.trans (Step.ex zt)).trans s4.back).updF hD0 P4, f5, er, by rw [← ea]; simp, upd_same, ?_⟩
          · rw [ru.len]
            have : (acc ++ [y']).length ≤ ys.length := by rw [← ea]; simp
            have hh : acc.length + 1 ≤ ys.length := by simpa using this
            have hl : ys.length ≤ sizeLine := hl
            omega
          · exact RepAll.append (RDs.pres P4 (by simp) (RDs.pres s4.pres (by simp) (RDs.ex zt ru))) (.cons (RD.pres P4 (by simp) (RD.of_val ey' rv)) .nil)
    · have e0 : i = xs.length := by omega
      subst e0
      rw [List.drop_length] at e2
      cases e2
      rw [List.append_nil] at ea
      subst ea
      exact .inl ⟨Y.st Hc _ ok (Nat.le_refl _), k D us Hc A2 R2 s2 hD0 hu f2 ru⟩
  · cases e
theorem sef_lc {iter elt : Expr} {ifs : List Expr} {ss : List Nat} {scope : Scope} {own : List (Str × Nat)} {it : IE} {bn : B1} {tt : T1} {te : E1} (hw : F.rw = true) (hc : X.calm = true) (hN : X.N.Nodup) (hi : SimIE X F OkS .fs tg iter it) (ok : blkC X.N X.env.scope scope own = true) (hv : (ss.all fun i => (own.map (·.2)).contains i) = true)
    (hg : ∀ (s : Shared) (H : Hp) (C : Addr) (cl : List (Str × Addr)) (fp : List Addr), PG (X.blk s H scope (compEnvC scope cl C X.env) fp) tg (tGt F ss bn)) (ht : ∀ (s : Shared) (H : Hp) (C : Addr) (cl : List (Str × Addr)) (fp : List Addr), PTs (X.blk s H scope (compEnvC scope cl C X.env) fp) ifs (tT F tt))
    (he : ∀ (s : Shared) (H : Hp) (C : Addr) (cl : List (Str × Addr)) (fp : List Addr), SimE (X.blk s H scope (compEnvC scope cl C X.env) fp) F .st elt te) (hs : ∀ x, foldedSetIterable iter X.env x = pure x := by intro _; rfl) :
    SimEF X F (.ListComp elt [⟨tg, iter, ifs, 0⟩] scope pos) (efLc it (own.map (·.2)) bn tt te) :=
  PEimp (pe_lc hc hN hi (blkOk_by ok) hg ht he hs) fun _ _ _ => lcE_read hw fun i hi => by
    have := List.all_eq_true.mp hv i hi
    simpa using this
end
end Sm

set_option Elab.async false
set_option linter.all false
set_option maxRecDepth 100000
set_option maxHeartbeats 4000000
namespace Sm
open PySem L2 Evl PyProof.Rows

/-! ### t[::-1] of a tuple -/
section
variable {prog : Program} {w : World} {A : Around} {E : Value → Shared → Prop} {s : Shared}
theorem rev_places (n : Nat) : Builtin.Slice.slicePlaces ((n : Int) - 1) (-1) (-1) = n := by
  unfold Builtin.Slice.slicePlaces
  rw [if_neg (by decide)]
  by_cases h : n = 0
  · subst h; rfl
  · rw [if_pos (by omega)]
    show (((n : Int) - 1 - -1 - 1) / 1 + 1).toNat = n
    rw [Int.ediv_one]
    omega
theorem sliceApplied_rev {sl : Addr} {vk : Value} {n : Nat} {Q : Int × Int × Nat → Shared → Prop} (hs : s.heap.IsSliceOf sl .none .none vk) (pk : IsPart vk (some (-1))) (h : Q ((n : Int) - 1, -1, n) s) :
    wpAny (model prog w) A (Builtin.Slice.sliceApplied (.ref sl) (pure (n : Int))) Q E s := by
  obtain ⟨os, hos, hcs, hds⟩ := id hs
  unfold Builtin.Slice.sliceApplied
  unfold Builtin.Slice.sliceFields
  apply wpAny_bind
  refine wpAny_bind (wpAny_field hos hds (x := .none) rfl ?_)
  refine wpAny_bind (wpAny_field hos hds (x := .none) rfl ?_)
  refine wpAny_bind (wpAny_field hos hds (x := vk) rfl ?_)
  refine wpAny_pure ?_
  refine wpAny_bind (HT.slicePart_ pk ?_)
  show wpAny _ _ (if ((-1 : Int) == 0) = true then _ else _) _ _ s
  rw [if_neg (by decide)]
  refine wpAny_bind (slicePart_none ?_)
  refine wpAny_bind (slicePart_none ?_)
  refine wpAny_bind (wpAny_pure ?_)
  have ha : Builtin.Slice.sliceAdjust none none (((some (-1 : Int))).getD 1) (n : Int) = ((n : Int) - 1, -1) := rfl
  rw [ha]
  show wpAny _ _ (pure ((n : Int) - 1, (-1 : Int), Builtin.Slice.slicePlaces ((n : Int) - 1) (-1) (-1))) _ _ s
  rw [rev_places]
  exact wpAny_pure h
theorem pick_rev (xs : Array Value) : ((List.range xs.size).filterMap fun (k : Nat) => xs[(((xs.size : Int) - 1) + (k : Int) * (-1)).toNat]?).toArray = xs.toList.reverse.toArray := by
  congr 1
  apply List.ext_getElem?
  intro i
  have e : ∀ l : List Nat, (∀ k ∈ l, k < xs.size) → (l.filterMap fun (k : Nat) => xs[(((xs.size : Int) - 1) + (k : Int) * (-1)).toNat]?) = l.map fun k => xs.toList.getD (xs.size - 1 - k) .none := by
    intro l hl
    induction l with
    | nil => rfl
    | cons k l ih =>
      have hk := hl k (by simp)
      have e1 : (((xs.size : Int) - 1) + (k : Int) * (-1)).toNat = xs.size - 1 - k := by omega
      have e2 : xs[xs.size - 1 - k]? = some (xs.toList.getD (xs.size - 1 - k) .none) := by
        have h3 : xs.size - 1 - k < xs.size := by omega
        rw [Array.getElem?_eq_getElem h3, List.getD_eq_getElem?_getD, Array.getElem?_toList, Array.getElem?_eq_getElem h3]
        rfl
      rw [List.filterMap_cons, e1, e2, List.map_cons]
      rw [ih fun k hk => hl k (by simp [hk])]
  rw [e _ (fun k hk => List.mem_range.mp hk)]
  by_cases hi : i < xs.size
  · rw [List.getElem?_map, List.getElem?_range hi, List.getElem?_reverse (by simpa using hi)]
    simp only [Option.map_some, Array.length_toList]
    have h3 : xs.size - 1 - i < xs.toList.length := by rw [Array.length_toList]; omega
    rw [List.getElem?_eq_getElem h3, List.getD_eq_getElem?_getD, List.getElem?_eq_getElem h3]
    rfl
  · rw [List.getElem?_eq_none (by simpa using hi), List.getElem?_eq_none (by simpa using hi)]
theorem getItem_tuple_rev {t sl : Addr} {items : Array Value} {vk : Value} {Q : Value → Shared → Prop} (ht : IsTup s.heap t items) (hs : s.heap.IsSliceOf sl .none .none vk) (pk : IsPart vk (some (-1))) (hz : items.size ≤ sizeLine)
    (h : Q (.ref s.heap.objs.size) { s with heap := s.heap.push { cls := .type "tuple", data := .seq items.toList.reverse.toArray } }) : wpAny (model prog w) A (getItem (.ref t) (.ref sl)) Q E s := by
  have hsz : sizeOk (.seq items.toList.reverse.toArray) := by
    show items.toList.reverse.toArray.size ≤ sizeLine
    simpa using hz
  have hTs : s.TypeIs (.ref sl) "slice" := by
    obtain ⟨z, z1, z2, _⟩ := id hs
    exact ⟨z, z1, z2⟩
  unfold getItem
  try with_reducible refine wpAny_holding ?_
  first
    | refine wpAny_bind (wpAny_pure ?_)
    | skip
  refine wpAny_bind (wpAny_sequenceKey ht.typeIs (by decide) ?_)
  refine wpAny_bind (wpAny_callSpecial?_slot (name := Str.ofString "__getitem__") ht.typeIs slot_tuple_getitem
    (wpAny_call_entry slot_tuple_getitem ht.typeIs entry_tuple_getitem ?_ (args_tuple_getitem _ _)))
  show wpAny _ _ (Builtin.Tuple.tupleItemsOf (.ref t) >>= _) _ _ s
  refine wpAny_bind (tupleItemsOf_ ht (wpAny_bind (wpAny_typeOf hTs ?_)))
  rw [if_pos (by decide)]
  refine wpAny_bind (sliceApplied_rev hs pk ?_)
  show wpAny _ _ (if ((((items.size : Int) - 1) == 0 && (-1 : Int) == 1 && items.size == items.size) = true) then _ else _) _ _ s
  rw [show (((items.size : Int) - 1) == 0 && (-1 : Int) == 1 && items.size == items.size) = false by rw [show ((-1 : Int) == 1) = false from rfl, Bool.and_false, Bool.false_and], if_neg Bool.false_ne_true, pick_rev]
  first
    | exact wpAny_bind (m := Builtin.Tuple.tupleExact _) (wpAny_newObj_type (wpAny_pure ⟨_, rfl, wpAny_pure h⟩) hsz)
    | exact wpAny_bind (wpAny_bind (m := Builtin.Tuple.tupleExact _) (wpAny_newObj_type (wpAny_pure (wpAny_pure ⟨_, rfl, wpAny_pure h⟩)) hsz))
    | exact wpAny_bind (wpAny_bind (m := Builtin.Tuple.tupleExact _) (wpAny_newObj_type (wpAny_pure ⟨_, rfl, wpAny_pure h⟩) hsz))
end
end Sm
namespace Sm
open PySem L2 Evl PyProof.Rows
section
variable {F : Fm} {X : Cx} {a b c e : Expr} {es rest : List Expr} {pos p p1 p2 p3 : Pos} {k : Nat} {ℓ : Lv} {qa qb qc : Q1} {env : En} {h : Hs} {A : As} {σ : L2.St} {H : Hp}
theorem pe_revT {te : TE} (he : PE X e te) : PE X (.Subscript e (.Slice none none (some (.UnaryOp .USub (.Constant (.int 1) k p1) p2)) p3) pos)
    (fun σ H Q => te σ H fun x H1 => ∃ a xs, x = .ref a ∧ SqT X.K H1 a xs ∧ ∀ p, H1 p = none → Q (.ref p) (upd H1 p (.tup xs.reverse))) := by
  refine ⟨fun pins s σ H Q I h => ?_⟩
  refine Subscript_ (thn (he.run pins s σ H _ I h) fun v s1 ⟨x, H1, I1, r1, a, xs, ex, hx, q⟩ => ?_)
  subst ex
  cases r1
  have hst : PO X (some (.UnaryOp .USub (.Constant (.int 1) k p1) p2)) (tPart (tUn (rU fun i => .int (-i)) (tC (.int 1)))) := po_some (pe_un un_neg pe_int)
  refine wpAny_Slice (thn (po_none.run pins s1 σ H1 (fun o K => o = none ∧ K = H1) I1 ⟨rfl, rfl⟩) fun vl s2 ⟨l, H2, I2, pl, el, e2⟩ => ?_)
  subst el e2
  refine thn (po_none.run pins s2 σ H2 (fun o K => o = none ∧ K = H2) I2 ⟨rfl, rfl⟩) fun vu s3 ⟨u, H3, I3, pu, eu, e3⟩ => ?_
  subst eu e3
  refine thn (hst.run pins s3 σ H3 (fun o K => o = some (-1) ∧ K = H3) I3 ⟨1, rfl, -1, rfl, rfl, rfl⟩) fun vs s4 ⟨o, H4, I4, ps, eo, e4⟩ => ?_
  subst eo e4
  have J : Inv X pins σ H4 { s4 with heap := s4.heap.push { cls := .type "slice", data := .fields #[vl, vu, vs] } } := I4.kept (t' := s4.toks) fun b ob q => Heap.get?_push_of_some _ q
  obtain ⟨its, r, ht, hz⟩ := J.tuple hx
  have hlen := r.length
  cases pl
  cases pu
  show wpAny (model X.prog X.w) X.A (subscriptTail e (.Slice none none (some (.UnaryOp .USub (.Constant (.int 1) k p1) p2)) p3) (.ref a) (.ref s4.heap.objs.size)) (EP X pins σ Q) X.xe { s4 with heap := s4.heap.push { cls := .type "slice", data := .fields #[.none, .none, vs] } }
  refine tail_any (ops := [.ref a, .ref s4.heap.objs.size]) (T := "tuple") ht.typeIs (PyProof.Rows.slot_tuple_getitem.lookup) ?_ (by with_unfolding_all rfl)
  refine getItem_tuple_rev ht (Heap.IsSliceOf.new _ .none .none vs) ps (by rw [List.size_toArray, ← hlen]; exact hz) ?_
  refine ⟨.ref _, _, J.laid (t' := s4.toks) (o := .tup xs.reverse) (fun b ob q => Heap.get?_push_of_some _ q) (Nat.le_refl _) ?_, rfl, q _ (J.hok.fresh (Nat.le_refl _))⟩
  exact ⟨by rw [List.length_reverse]; exact hz, _, r.reverse, IsTup.new _ _⟩
theorem RepAll.reverse {T L : LP} : ∀ {ds : List PyData} {vs : List V}, RepAll T L ds vs → RepAll T L ds.reverse vs.reverse
  | [], vs, r => by simp only [RepAll] at r; subst r; exact RepAll.nil
  | d :: ds, vs, r => by
    simp only [RepAll] at r
    obtain ⟨v, w, rfl, r1, r2⟩ := r
    rw [List.reverse_cons, List.reverse_cons]
    exact RepAll.append (RepAll.reverse r2) (RepAll.cons r1 RepAll.nil)
/-- x[::-1] -/
def gRev : Hs → Val → Option Val := fun _ x => match x with
  | .d (.tuple xs) => some (.d (.tuple xs.reverse))
  | _ => none
def gRevL : Hs → Val → Option (List PyData) := fun _ x => match x with
  | .d (.list xs) => if nlAll xs = true then some xs.reverse else none
  | _ => none
theorem sq_rev (hK : X.K = F.G.K) (ha : SimQ X F ℓ a qa) : SimQ X F ℓ (.Subscript a (.Slice none none (some (.UnaryOp .USub (.Constant (.int 1) k p1) p2)) p3) pos) (q1 gRev qa) :=
  PEimp (pe_revT ha) fun σ H Q ⟨env, h, A, z, R, e, k⟩ => by
    obtain ⟨x, ex, e⟩ := bind_some e
    refine ⟨env, h, A, x, R, ex, fun v H1 e1 rv => ?_⟩
    unfold gRev at e
    split at e
    · next xs =>
      cases e
      obtain ⟨a, us, rfl, t, r⟩ := rt rv
      refine ⟨a, us, rfl, by rw [hK]; exact t, fun p hp => k _ _ (e1.trans (Ex.new hp)) ?_⟩
      exact vt (.inl (.inl upd_same)) (RDs.ex (Ex.new hp) r.reverse)
    · cases e
theorem sf_rev (hK : X.K = F.G.K) (ha : SimQ X F .mo a qa) : SimF X F (.Subscript a (.Slice none none (some (.UnaryOp .USub (.Constant (.int 1) k p1) p2)) p3) pos) (f1 gRevL qa) :=
  PEimp (pe_revL ha) fun σ H Q ⟨env, h, A, z, R, e, k⟩ => by
    obtain ⟨x, ex, e⟩ := bind_some e
    refine ⟨env, h, A, x, R, ex, fun v H1 e1 rv => ?_⟩
    unfold gRevL at e
    split at e
    · next xs =>
      split at e
      · next hn =>
        cases e
        obtain ⟨a, us, rfl, t, r⟩ := rl rv
        refine ⟨a, us, rfl, by rw [hK]; exact t, fun p hp => k p _ _ (fresh_back e1 hp) (e1.trans (Ex.new hp)) upd_same (RDs.ex (Ex.new hp) (RepAll.nl _ _ ?_ r.reverse))⟩
        exact nl_mem.mpr fun x hx => nl_mem.mp hn x (List.mem_reverse.mp hx)
      · cases e
    · cases e
end
end Sm

set_option Elab.async false
set_option linter.all false
set_option maxRecDepth 100000
set_option maxHeartbeats 4000000
namespace Sm
open PySem L2 Evl PyProof.Rows

/-! ### set(xs) of a list of ints, laid so that it can be sorted -/
abbrev so0 (w : World) : Obj := { cls := .type "set", dict := none, data := .set #[] 0 (.fresh 0 0 (!w.params.followText "set-order")) }
section
variable {P : Program} {w : World} {A : Around} {E : Value → Shared → Prop} {s : Shared}
theorem setL_call {l : Addr} {items : Array Value} (ns : List Int) {Q : Value → Shared → Prop} (hh : A.handled = none) (hl : s.heap.IsList l items) (hit : IntsAre items.toList ns) (hb : ns.length + 1 < scanBound)
    (h : ∀ (h' : Heap) (tk c : Nat), SetR w h' s.heap.objs.size (fun j => decide (j ∈ ns)) c → c ≤ ns.length → (∀ b o, s.heap.get? b = some o → h'.get? b = some o) →
      Q (.ref s.heap.objs.size) { s with heap := h', toks := tk }) : wpAny (model P w) A (call (.type "set") [.ref l]) Q E s := by
  have isz : items.size = ns.length := (Array.length_toList (xs := items)).symm.trans (IntsAre.length hit)
  obtain ⟨c, tl, hmro⟩ := F.called_set.mro
  have m1 := F.called_set.made
  have m2 := F.called_set.sub
  refine wpAny_call (codeAny_of_tree ?_)
  show wpAny _ _ (callAny (.type "set") _) _ _ _
  refine wpAny_pure ⟨Code.quiet_builtin _ (by decide +kernel), codeAny_builtin F.entry_type_call ?_⟩
  rw [Around.under_plain (weight_type_call_type "set" [.ref l] []) rfl]
  have m3 := F.called_set.notType
  have m4 := F.called_set.canCreate
  have m5 := F.typeCall_set_1 (.ref l)
  repeat (any_goals (first | assumption | wp_step))

  refine codeAny_mono (code_set_led1 (.ref l) (E := E) (Q₁ := fun obj s₁ => obj = .ref s.heap.objs.size ∧ s₁ = { s with heap := s.heap.push (so0 w) }) ⟨rfl, rfl⟩) fun r s₁ hr => ?_
  rcases r with _ | fl
  · exact hr
  cases fl with
  | ret obj =>
    obtain ⟨rfl, rfl⟩ := hr
    have gS : (s.heap.push (so0 w)).get? s.heap.objs.size = some (so0 w) := Heap.get?_push_size _ rfl
    have gT : Shared.TypeIs { s with heap := s.heap.push (so0 w) } (.ref s.heap.objs.size) "set" := ⟨_, gS, rfl⟩
    have m6 := F.called_set.init.lookup
    have m7 := F.called_set.init.bind (.ref s.heap.objs.size)
    repeat (any_goals (first | assumption | wp_step))

    refine codeAny_mono (codeAny_call_builtin (R := wants (fun r s₂ => r = .none ∧ ∃ h' tk c, s₂ = { s with heap := h', toks := tk } ∧ SetR w h' s.heap.objs.size (fun j => decide (j ∈ ns)) c ∧ c ≤ ns.length ∧
        (∀ b o, s.heap.get? b = some o → h'.get? b = some o)) E) F.called_set.init.plain F.entry_set_init (check_set_init_1 gT ?_)) fun r₂ s₂ hr₂ => ?_
    · obtain ⟨⟨oc, od, oda, osl⟩, gl, hcl, nl, hdl⟩ := hl
      simp only at hcl hdl
      subst hcl; subst hdl
      have gl' : (s.heap.push (so0 w)).get? l = some { cls := .type "list", dict := od, data := .seq items nl, slots := osl } := Heap.get?_push_of_some _ gl
      have n1 := F.sub_list_set
      have n2 := F.sub_list_frozenset
      have n3 : (Value.type "list" == Value.type "dict") = false := by decide
      have isl : (s.heap.push (so0 w)).IsList l items := ⟨_, gl', rfl, nl, rfl⟩
      unfold Builtin.«set.__init__» noKeywords Builtin.Frozenset.updateFrom
      generalize eP : pyIter = PI
      wp_walk
      subst eP

      refine wpAny_pyIter_list isl (wpAny_bind (wpAny_runValue ?_))
      have lts : l < s.heap.objs.size := Heap.lt_size gl
      have hd3 : A.in1.in1.in1.handled = none := by simp [hh]
      have szp : (s.heap.push (so0 w)).objs.size = s.heap.objs.size + 1 := Heap.size_push ..
      have ne1 : l ≠ (s.heap.push (so0 w)).objs.size := by rw [Heap.size_push]; exact Nat.ne_of_lt (Nat.lt_succ_of_lt lts)
      have ne2 : s.heap.objs.size ∉ [(s.heap.push (so0 w)).objs.size, l] := by
        intro z
        rcases List.mem_cons.mp z with z | z
        · rw [Heap.size_push] at z
          exact absurd z (Nat.ne_of_lt (Nat.lt_succ_self _))
        · exact absurd (List.mem_singleton.mp z) (Nat.ne_of_gt lts)
      have vals : ∀ (i : Nat) (v : Value), items[i]? = some v → ∃ k t, ns[i]? = some k ∧ v = .int k t := fun i v hv => by
        have hi : i < ns.length := by rw [← isz]; exact (Array.getElem?_eq_some_iff.mp hv).1
        obtain ⟨t, e⟩ := PyProof.Rows.IntsAre.int_at hit i v (by rw [Array.getElem?_toList]; exact hv)
        refine ⟨ns[i], t, List.getElem?_eq_getElem hi, e.trans ?_⟩
        rw [List.getD_eq_getElem?_getD, List.getElem?_eq_getElem hi] <;> rfl
      refine set_update_ints ((Walks.list hd3 _ l ne1 items).toS) s.heap.objs.size ne2 ns isz hb vals (items.size - 0) 0 _ (by omega) (Nat.zero_le _)
        ⟨⟨_, Heap.get?_push_size _ rfl, rfl, rfl⟩, (isl.push _)⟩ ?g0 ?g1
      case g0 => exact ⟨0, Nat.le_refl 0, setR_new_at (Heap.get?_push_of_some _ gS)⟩
      case g1 =>
        intro s' c' hm hc' hS'
        obtain ⟨h', g2, d', tk', os'⟩ := s'
        obtain rfl : g2 = s.gens := hm.gens
        obtain rfl : d' = s.drawn := hm.drawn
        obtain rfl : os' = s.os := hm.os
        show wpAny _ _ _ _ _ _
        refine wpAny_pure ?_
        show wpAny _ _ (ret Value.none) _ _ _
        rw [isz] at hc'
        refine wpAny_pure ⟨rfl, h', tk', c', rfl, hS', hc', fun b o e => ?_⟩
        have lt0 : b < s.heap.objs.size := Heap.lt_size e
        refine hm.heap b o (fun z => ?_) (Heap.get?_push_of_some _ (Heap.get?_push_of_some _ e))
        rcases List.mem_cons.mp z with z | z
        · exact absurd z (Nat.ne_of_lt lt0)
        · have z2 := List.mem_singleton.mp z
          rw [Heap.size_push] at z2
          exact absurd z2 (Nat.ne_of_lt (Nat.lt_succ_of_lt lt0))

    · rcases r₂ with _ | fl₂
      · exact hr₂
      cases fl₂ with
      | ret r =>
        obtain ⟨rfl, h', tk, c', rfl, hS', hc', hk'⟩ := hr₂
        repeat (any_goals (first | assumption | wp_step))
        exact h _ _ _ hS' hc' hk'
      | _ => exact hr₂.elim
  | _ => exact hr.elim
end

/-! ### sorted(set(x)) -/
/-- the members, in order, each once -/
def insU (x : Int) : List Int → List Int
  | [] => [x]
  | y :: ys => if x < y then x :: y :: ys else if x = y then y :: ys else y :: insU x ys
def sortU : List Int → List Int
  | [] => []
  | x :: xs => insU x (sortU xs)
theorem mem_insU {x y : Int} : ∀ {xs : List Int}, y ∈ insU x xs ↔ y = x ∨ y ∈ xs
  | [] => by simp [insU]
  | z :: zs => by
    unfold insU
    split
    · simp
    · split
      · next h => subst h; simp
      · simp only [List.mem_cons, mem_insU (xs := zs)]
        constructor
        · rintro (a | a | a) <;> simp [a]
        · rintro (a | a | a) <;> simp [a]
theorem mem_sortU {y : Int} : ∀ {xs : List Int}, y ∈ sortU xs ↔ y ∈ xs
  | [] => by simp [sortU]
  | x :: xs => by rw [sortU, mem_insU, mem_sortU, List.mem_cons]
theorem asc_insU {x : Int} : ∀ {xs : List Int}, xs.Pairwise (· < ·) → (insU x xs).Pairwise (· < ·)
  | [], _ => by simp [insU]
  | z :: zs, h => by
    have h2 := List.pairwise_cons.mp h
    unfold insU
    split
    · next q =>
      refine List.pairwise_cons.mpr ⟨fun y hy => ?_, h⟩
      rcases List.mem_cons.mp hy with rfl | hy
      · exact q
      · exact Int.lt_trans q (h2.1 y hy)
    · split
      · exact h
      · next q1 q2 =>
        refine List.pairwise_cons.mpr ⟨fun y hy => ?_, asc_insU h2.2⟩
        rcases mem_insU.mp hy with rfl | hy
        · omega
        · exact h2.1 y hy
theorem asc_sortU : ∀ (xs : List Int), (sortU xs).Pairwise (· < ·)
  | [] => by simp [sortU]
  | x :: xs => asc_insU (asc_sortU xs)
theorem asc_uniq : ∀ {xs ys : List Int}, xs.Pairwise (· < ·) → ys.Pairwise (· < ·) → (∀ k, k ∈ xs ↔ k ∈ ys) → xs = ys
  | [], [], _, _, _ => rfl
  | [], y :: ys, _, _, h => absurd ((h y).mpr (by simp)) (by simp)
  | x :: xs, [], _, _, h => absurd ((h x).mp (by simp)) (by simp)
  | x :: xs, y :: ys, h1, h2, h => by
    have a1 := List.pairwise_cons.mp h1
    have a2 := List.pairwise_cons.mp h2
    have exy : x = y := by
      rcases List.mem_cons.mp ((h x).mp (by simp)) with e | e
      · exact e
      · rcases List.mem_cons.mp ((h y).mpr (by simp)) with e' | e'
        · exact e'.symm
        · have := a1.1 y e'
          have := a2.1 x e
          omega
    subst exy
    congr 1
    refine asc_uniq a1.2 a2.2 fun k => ⟨fun q => ?_, fun q => ?_⟩
    · rcases List.mem_cons.mp ((h k).mp (List.mem_cons_of_mem _ q)) with e | e
      · have := a1.1 k q
        omega
      · exact e
    · rcases List.mem_cons.mp ((h k).mpr (List.mem_cons_of_mem _ q)) with e | e
      · have := a2.1 k q
        omega
      · exact e
def intOf : PyData → Option Int
  | .int n => some n
  | _ => none
def intsOf : List PyData → Option (List Int)
  | [] => some []
  | d :: ds => (intOf d).bind fun n => (intsOf ds).bind fun ns => some (n :: ns)
theorem intsOf_map : ∀ {ds : List PyData} {ns : List Int}, intsOf ds = some ns → ds = ns.map PyData.int
  | [], ns, e => by cases e; rfl
  | d :: ds, ns, e => by
    unfold intsOf at e
    cases d <;> simp only [intOf, Option.bind_some, Option.bind_none, reduceCtorEq] at e
    rename_i n
    cases q : intsOf ds with
    | none => rw [q] at e; cases e
    | some ms => rw [q] at e; cases e; rw [List.map_cons, intsOf_map q]
theorem intsOf_of (ns : List Int) : intsOf (ns.map PyData.int) = some ns := by
  induction ns with
  | nil => rfl
  | cons n ns ih => rw [List.map_cons, intsOf, intOf, ih]; rfl
theorem rep_ints {T L : LP} : ∀ {ns : List Int} {vs : List V}, RepAll T L (ns.map PyData.int) vs → vs = ns.map V.int
  | [], vs, r => by simpa [RepAll] using r
  | n :: ns, vs, r => by
    rw [List.map_cons] at r
    simp only [RepAll, Rep] at r
    obtain ⟨v, u, rfl, r1, r2⟩ := r
    rw [rep_ints r2, r1]; rfl
def gSetS : Hs → Val → Option (List PyData) := fun _ x => match x with
  | .d (.list ds) => (intsOf ds).bind fun ns => if ns.length < 64 then some ((sortU ns).map .int) else none
  | .d (.tuple ds) => (intsOf ds).bind fun ns => if ns.length < 64 then some ((sortU ns).map .int) else none
  | _ => none
def gSetN : Hs → Val → Option Val := fun _ x => match x with
  | .d (.list ds) => (intsOf ds).bind fun ns => if ns.length < 64 then some (.d (.int (sortU ns).length)) else none
  | .d (.tuple ds) => (intsOf ds).bind fun ns => if ns.length < 64 then some (.d (.int (sortU ns).length)) else none
  | _ => none
section
variable {F : Fm} {X : Cx} {a b c e : Expr} {es rest : List Expr} {pos pos2 p p1 p2 p3 : Pos} {k : Nat} {ℓ : Lv} {qa qb qc : Q1} {fa : En → Hs → Option (List PyData)} {env : En} {h : Hs} {A : As} {σ : L2.St} {H : Hp}
def rSetI (X : Cx) : List V → Hp → VK → Prop := fun vs H Q => ∃ (a : Addr) (ns : List Int), vs = [V.ref a] ∧ (SqT X.K H a (ns.map V.int) ∨ SqL X.K H a (ns.map V.int)) ∧ ns.length < 64 ∧
  ∀ p c, H p = none → c ≤ ns.length → Q (.ref p) (upd H p (SetO X.w p (fun j => decide (j ∈ ns)) c))
theorem cr_setI (hc : X.calm = true) : CallR X (.type "set") (rSetI X) := by
  intro pins s σ H vs us Q I r ⟨a, ns, e, hq, hn, q⟩
  subst e
  rw [Vals.ref1 r]
  have fin : ∀ (h' : Heap) (tk c : Nat), SetR X.w h' s.heap.objs.size (fun j => decide (j ∈ ns)) c → c ≤ ns.length → (∀ b o, s.heap.get? b = some o → h'.get? b = some o) →
      EP X pins σ Q (.ref s.heap.objs.size) { s with heap := h', toks := tk } := by
    intro h' tk c R1 hcn k
    have hp : H s.heap.objs.size = none := I.hok.fresh (Nat.le_refl _)
    exact ⟨.ref _, upd H s.heap.objs.size (SetO X.w s.heap.objs.size (fun j => decide (j ∈ ns)) c), I.laid (t' := tk) k (Nat.le_refl _) (setO_new R1), rfl, q _ _ hp hcn⟩
  rcases hq with hq | hq
  · obtain ⟨its, rv, pt, hz⟩ := I.tuple hq
    exact call_set_tupI ns (I.ok.hd hc) pt (ints_of_vals rv) (by unfold scanBound; omega) fin
  · obtain ⟨its, rv, pt, hz⟩ := I.list hq
    exact setL_call ns (I.ok.hd hc) pt.isList (ints_of_vals rv) (by unfold scanBound; omega) fin
theorem pe_setI {t : TE} (hc : X.calm = true) (hg : Gl X "set") (hm : X.mg "set" = none) (ha : PE X a t)
    (he : starEach [a] X.env = (false, eval a X.env) :: starEach [] X.env := by rfl) (hpl : (backTo pos (starEach [] X.env)).any (·.1) = false := by rfl) :
    PE X (.Call (.Name "set" p) [a] [] pos) (tCB (rSetI X) (tCons t tNil)) := pe_callTy (cr_setI hc) hg hm (by decide +kernel) (pa_cons ha pa_nil he) (by decide) (by decide) he hpl
/-- what both begin with -/
theorem set_in {α : Type} (hK : X.K = F.G.K) {H1 : Hp} {v : V} {x : Val} {Z : List Int → Option α} {z : α} (e : (match x with
    | .d (.list ds) => (intsOf ds).bind fun ns => if ns.length < 64 then Z ns else none
    | .d (.tuple ds) => (intsOf ds).bind fun ns => if ns.length < 64 then Z ns else none
    | _ => none) = some z) (rv : RV F .mo h A H1 x v) : ∃ a ns, v = V.ref a ∧ (SqT X.K H1 a (ns.map V.int) ∨ SqL X.K H1 a (ns.map V.int)) ∧ ns.length < 64 ∧ Z ns = some z := by
  rw [hK]
  split at e
  · next ds =>
    cases q : intsOf ds with
    | none => rw [q] at e; cases e
    | some ns =>
      rw [q, Option.bind_some] at e
      split at e
      · next hn =>
        obtain ⟨a, us, rfl, t, r⟩ := rl rv
        rw [intsOf_map q] at r
        rw [rep_ints r] at t
        exact ⟨a, ns, rfl, .inr t, hn, e⟩
      · cases e
  · next ds =>
    cases q : intsOf ds with
    | none => rw [q] at e; cases e
    | some ns =>
      rw [q, Option.bind_some] at e
      split at e
      · next hn =>
        obtain ⟨a, us, rfl, t, r⟩ := rt rv
        rw [intsOf_map q] at r
        rw [rep_ints r] at t
        exact ⟨a, ns, rfl, .inl t, hn, e⟩
      · cases e
  · cases e
theorem sf_sset (hK : X.K = F.G.K) (hc : X.calm = true) (hm : X.mg "sorted" = none) (hm2 : X.mg "set" = none) (ha : SimQ X F .mo a qa) (hg : Gl X "sorted" := by rfl) (hg2 : Gl X "set" := by rfl)
    (he : starEach [a] X.env = (false, eval a X.env) :: starEach [] X.env := by rfl) (hpl : (backTo pos2 (starEach [] X.env)).any (·.1) = false := by rfl)
    (he2 : starEach [.Call (.Name "set" p2) [a] [] pos2] X.env = (false, eval (.Call (.Name "set" p2) [a] [] pos2) X.env) :: starEach [] X.env := by rfl) (hpl2 : (backTo pos (starEach [] X.env)).any (·.1) = false := by rfl) :
    SimF X F (.Call (.Name "sorted" p) [.Call (.Name "set" p2) [a] [] pos2] [] pos) (f1 gSetS qa) := by
  refine PEimp (pe_callB (cr_sortedSet hc) hg hm (by decide +kernel) (pa_cons (pe_setI hc hg2 hm2 ha he hpl) pa_nil he2) (by decide) (by decide) he2 hpl2) fun σ H Q ⟨env, h, A, z, R, e, k⟩ => ?_
  obtain ⟨x, ex, e⟩ := bind_some e
  refine ⟨env, h, A, x, R, ex, fun v H1 e1 rv => ?_⟩
  obtain ⟨a, ns, rfl, hq, hn, ez⟩ := set_in hK e rv
  cases ez
  refine ⟨a, ns, rfl, hq, hn, fun p c hp hcn => ⟨p, _, c, rfl, upd_same, by omega, fun ms p' asc hmem _ hp' => ?_⟩⟩
  have em : ms = sortU ns := asc_uniq asc (asc_sortU ns) fun k => by rw [hmem, decide_eq_true_iff, mem_sortU]
  subst em
  have hpp : p' ≠ p := fun z => by rw [z, upd_same] at hp'; cases hp'
  have hp1 : H1 p' = none := by
    rw [upd_ne hpp] at hp'
    exact hp'
  exact k _ _ _ (fresh_back e1 hp1) (e1.trans ((Ex.new hp).trans (Ex.new hp'))) upd_same (RepAll.ints _)
end
end Sm

set_option Elab.async false
set_option linter.all false
set_option maxRecDepth 100000
set_option maxHeartbeats 4000000
namespace Sm
open PySem L2 Evl PyProof.Rows

/-! ### enumerate(t) of a tuple -/
theorem enum1_new {v : Value} {o : Obj} {Z : Heap → Prop} (B : Begins v o Z) :
    Meets (Builtin.«enumerate.__new__» ⟨[.type "enumerate", v], []⟩) (fun _ R s => Z s.heap ∧ R (.ok (.ret (.ref (s.heap.push o).objs.size)))
      { s with heap := (s.heap.push o).push { cls := .type "enumerate", data := .fields #[.none, .bool false, .ref s.heap.objs.size, rawInt 0, .none, .none] } }) :=
  .of_wp fun prog w A R s ⟨z, r⟩ => by
    obtain ⟨hp, g, d, tk, os⟩ := s
    have hsub := sub_enumerate
    have go : ∀ {A' : Around} {E : Value → Shared → Prop} {Q : Value → Shared → Prop}, Q (.ref hp.objs.size) ⟨hp.push o, g, d, tk, os⟩ → wpAny (model prog w) A' (pyIter v) Q E ⟨hp, g, d, tk, os⟩ :=
      fun q => B.iter prog w _ _ ⟨hp, g, d, tk, os⟩ _ z q
    wp_walk using go
    refine wpAny_stack_any fun st => wpAny_pure ?_
    split
    · rename_i c _ _ _ _ _
      cases (c == Value.type "enumerate")
      · wp_walk using go
        exact ⟨_, rfl, r⟩
      · wp_walk using go
        exact ⟨_, rfl, r⟩
    · wp_walk using go
      exact ⟨_, rfl, r⟩
section
variable {prog : Program} {w : World} {A : Around} {E : Value → Shared → Prop} {s : Shared}
theorem enum1_call {v : Value} {o : Obj} {Z : Heap → Prop} {Q : Value → Shared → Prop} (B : Begins v o Z) (z : Z s.heap)
    (h : ∀ h', IsEnum h' (s.heap.objs.size + 1) s.heap.objs.size 0 .none → h'.get? s.heap.objs.size = some o → (∀ b u, s.heap.get? b = some u → h'.get? b = some u) → Q (.ref (s.heap.objs.size + 1)) { s with heap := h' }) :
    wpAny (model prog w) A (call (.type "enumerate") [v]) Q E s := by
  refine callType_new F.called_enumerate (by decide) (F.typeCall_enumerate_1 _) (F.newCall_enumerate_1 _) (fun obj => F.args_object_init_2 obj _) F.entry_enumerate_new (enum1_new B) ⟨z, ?_⟩
  have n1 : (s.heap.push o).objs.size = s.heap.objs.size + 1 := Heap.size_push ..
  show _ ∧ _
  rw [n1]
  have new : IsEnum ((s.heap.push o).push { cls := .type "enumerate", data := .fields #[.none, .bool false, .ref s.heap.objs.size, rawInt 0, .none, .none] }) (s.heap.objs.size + 1) s.heap.objs.size 0 .none := by
    have q := Heap.get?_push_size (s.heap.push o) (o := { cls := .type "enumerate", data := .fields #[.none, .bool false, .ref s.heap.objs.size, rawInt 0, .none, .none] }) rfl
    rwa [n1] at q
  exact ⟨⟨_, new, rfl⟩, h _ new (Heap.get?_push_of_some _ (Heap.get?_push_size _ B.free)) fun b u x => Heap.get?_push_of_some _ (Heap.get?_push_of_some _ x)⟩
end
/-- the tuple at a, each item in a new pair -/
def Iet (K : PySem.W.Frag) (a : Addr) : It :=
  ⟨fun i H => ∃ xs x, SqT K H a xs ∧ xs[i]? = some x, fun i H v H' => ∃ T x, v = .ref T ∧ H T = none ∧ H' = upd H T (.tup [.int (i : Nat), x]) ∧ ∀ xs, SqT K H a xs → xs[i]? = some x, fun i H => ∃ xs, SqT K H a xs ∧ xs.length ≤ i⟩
theorem turn_enumT {P : Program} {w : World} {K : PySem.W.Frag} {elts : List Expr} {kk : Nat} {tpos : Pos} (a e it : Addr) :
    Turn P w K (.Tuple elts kk tpos) (Iet K a) [e, it] e (fun i h => (∃ old, IsEnum h e it ((i : Nat) : Int) old) ∧ h.IsTupleIter it a i ∧ e ≠ it ∧ a ≠ it ∧ e ≠ a) where
  mem := by simp
  obj := fun i h st b hb => by
    obtain ⟨⟨old, he⟩, ⟨o, ho, hc, hd⟩, _⟩ := st
    rcases List.mem_cons.mp hb with z | z
    · rw [z]; exact ⟨_, he, fun v q => by cases q⟩
    · exact ⟨o, List.mem_singleton.mp z ▸ ho, fun v q => by rw [hd] at q; cases q⟩
  keep := fun i h h' st k => let ⟨⟨old, he⟩, hi, r⟩ := st; ⟨⟨old, k e (by simp) _ he⟩, hi.at fun o q => k it (by simp) o q, r⟩
  item := by
    intro X hP hw hK hc i pins s σ H E I hf ⟨⟨old, he⟩, hit, hne, hai, hea⟩ ⟨xs, x, hq, hx⟩
    subst hP hw hK
    obtain ⟨its, rv, p, hz⟩ := I.tuple hq
    obtain ⟨u, hu, ru⟩ := rv.get hx
    have hel : e < s.heap.objs.size := Heap.lt_size he
    have hil : it < s.heap.objs.size := by obtain ⟨_, q, _⟩ := hit; exact Heap.lt_size q
    have hlt : i < its.toArray.size := by
      rw [List.size_toArray]
      exact (List.getElem?_eq_some_iff.mp hu).1
    have hh : X.A.in1.handled = none := by
      have := I.ok.hd hc
      simpa using this
    refine wpAny_pyNext_enum_itemD (Draws.tuple hh it a hai its.toArray) he ⟨hit, p⟩ hlt hne (by simp [hne, hea]) fun y h' tk hy ho st' hT hsz k => ?_
    have hyu : y = u := by
      have q : its.toArray[i]? = some u := by simpa using hu
      rw [q] at hy
      exact (Option.some.inj hy).symm
    subst hyu
    refine ⟨_, rfl, wpAny_letOwnedTupleGo_enum (s := { s with heap := h', toks := tk + 1 }) ho fun h2 he2 sb => ?_⟩
    have hT2 : h2.get? s.heap.objs.size = some { cls := .type "tuple", data := .seq #[.int i tk, y] } := (sb.2 _ (Nat.ne_of_gt hel)).trans hT
    have new : ObjOk X.prog X.w (upd H s.heap.objs.size (.tup [.int (i : Nat), x])) h2 s.heap.objs.size (.tup [.int (i : Nat), x]) :=
      ⟨by show 2 ≤ sizeLine; decide, [.int i tk, y], .cons ⟨_, rfl⟩ (.cons ru .nil), ⟨_, hT2, rfl, _, rfl⟩⟩
    have J : Inv X pins σ (upd H s.heap.objs.size (.tup [.int (i : Nat), x])) { s with heap := h2, toks := tk + 1 } :=
      I.turnedNew (ch := [e, it]) (fun b ob hb q => (sb.2 b (fun z => hb (by simp [z]))).trans (k b ob (fun z => hb (by simp [z])) (fun z => hb (by simp [z])) q)) hf (Nat.le_refl _) new
    refine ⟨.ref s.heap.objs.size, _, J, rfl, ⟨_, x, rfl, I.hok.fresh (Nat.le_refl _), rfl, fun ys hy => ?_⟩, ⟨⟨y, ?_⟩, st'.1.at fun o q => (sb.2 it (Ne.symm hne)).trans q, hne, hai, hea⟩, fun b hb => ?_⟩
    · rw [I.tuple_inj hy hq]; exact hx
    · have e1 : ((i + 1 : Nat) : Int) = (i : Int) + 1 := by omega
      rw [e1]; exact he2
    · have hb' : b < s.heap.objs.size := by
        rcases List.mem_cons.mp hb with z | z
        · rw [z]; exact hel
        · rw [List.mem_singleton.mp z]; exact hil
      rw [upd_ne (Nat.ne_of_lt hb')]
      exact (hf b hb).1
  done := by
    intro X hP hw hK hc i pins s σ H E I hf ⟨⟨old, he⟩, hit, hne, hai, hea⟩ ⟨xs, hq, hx⟩
    subst hP hw hK
    obtain ⟨its, rv, p, hz⟩ := I.tuple hq
    obtain ⟨f0, f1, f2, f3, f4, f5⟩ := hf it (by simp)
    have hl := rv.length
    have hh : X.A.in1.handled = none := by
      have := I.ok.hd hc
      simpa using this
    have D : Draws X.prog X.w X.A.in1 it [it, a] i (fun _ _ => True) (fun j h => j = i ∧ h.IsTupleIter it a j ∧ h.IsTuple a its.toArray) :=
      ⟨fun _ _ st => let ⟨_, ⟨o, ho, _⟩, _⟩ := st; ⟨o, ho⟩, fun _ _ _ st k => ⟨st.1, st.2.1.at fun o e => k it (by simp) o e, st.2.2.at fun o e => k a (by simp) o e⟩,
        fun j s Q E hj st hQ => absurd st.1 (Nat.ne_of_lt hj), fun s Q E st hE => wpAny_nextOf_tuple_end hh st.2.1 st.2.2 (by simp; omega) hE⟩
    exact wpAny_pyNext_enum_endD D he ⟨rfl, hit, p⟩ fun h' eb => ⟨rfl, I.turned (t' := s.toks) (fun b o hb q => eb b o hb q) f0 f1 f3 f4 f5⟩
  self := fun A i s Q E st h => let ⟨⟨_, he⟩, _⟩ := st; wpAny_pyIter_enum he h
theorem pi_enumT {X : Cx} {e : Expr} {ta : TA} {p pos tpos : Pos} {elts : List Expr} {kk : Nat} (hg : Gl X "enumerate") (hm : X.mg "enumerate" = none) (ha : PA X [e] ta) (hs : starEach [e] X.env = [(false, eval e X.env)] := by rfl) :
    PI X (.Tuple elts kk tpos) (.Call (.Name "enumerate" p) [e] [] pos) (fun σ H R => ta σ H fun vs H1 => ∃ a xs, vs = [.ref a] ∧ SqT X.K H1 a xs ∧ R (Iet X.K a) H1) := by
  refine ⟨fun pins s σ H R I h => ?_⟩
  refine Call_ (ld_blt I hg hm boot_enumerate (PyProof.Rows.callWith_type1 (thn (ha.run pos pins s σ H _ I h) fun us s1 ⟨vs, H1, I1, r1, a, xs, ex, hq, q⟩ => ?_) hs rfl))
  subst ex
  rw [Vals.ref1 r1]
  obtain ⟨its, rv, pt, hz⟩ := I1.tuple hq
  refine enum1_call (begins_tuple a its.toArray) pt fun h' he hi hk => wpAny_pyIter_enum he ?_
  have J : Inv X pins σ H1 { s1 with heap := h' } := I1.kept (t' := s1.toks) hk
  have hal : a < s1.heap.objs.size := by obtain ⟨o, ho, _⟩ := pt; exact Heap.lt_size ho
  refine ⟨s1.heap.objs.size + 1, [s1.heap.objs.size + 1, s1.heap.objs.size], _, _, H1, rfl, J, turn_enumT a (s1.heap.objs.size + 1) s1.heap.objs.size, ⟨⟨.none, he⟩, ⟨_, hi, rfl, rfl⟩, Nat.succ_ne_self _, Nat.ne_of_lt hal, Nat.ne_of_gt (Nat.lt_succ_of_lt hal)⟩, fun b hb => ?_, q⟩
  have hle : s1.heap.objs.size ≤ b := by
    rcases List.mem_cons.mp hb with z | z
    · rw [z]; exact Nat.le_succ _
    · rw [List.mem_singleton.mp z]; exact Nat.le_refl _
  exact I1.fpOk hle (I1.hok.fresh hle)
/-- numbered -/
def numD (xs : List PyData) : List PyData := xs.zipIdx.map fun p => .tuple [.int (p.2 : Nat), p.1]
theorem numD_get {xs : List PyData} {i : Nat} {d : PyData} (h : (numD xs)[i]? = some d) : ∃ x, xs[i]? = some x ∧ d = .tuple [.int (i : Nat), x] := by
  unfold numD at h
  rw [List.getElem?_map] at h
  obtain ⟨p, hp, rfl⟩ := Option.map_eq_some_iff.mp h
  rw [List.getElem?_zipIdx] at hp
  obtain ⟨x, hx, rfl⟩ := Option.map_eq_some_iff.mp hp
  exact ⟨x, hx, by simp⟩
theorem numD_len (xs : List PyData) : (numD xs).length = xs.length := by simp [numD]
def iEnu (a : Q1) : I1 := fun env h => (a env h).bind fun x => (seqOf x).bind fun xs => if nlAll xs = true then some (numD xs) else none
section
variable {F : Fm} {X : Cx} {tg a b c e : Expr} {elts : List Expr} {kk : Nat} {pos p tpos : Pos} {ℓ : Lv} {qa qb qc : Q1} {env : En} {h : Hs} {A : As} {σ : L2.St} {H : Hp}
theorem ylds_enumL {Ok : Hp → Prop} {a : Addr} {us : List V} {xs : List PyData} (hl : us.length = xs.length) (hq : ∀ Hc, Ok Hc → SqL F.G.K Hc a us ∧ RDs F ℓ Hc xs us) : Ylds F Ok ℓ (Ite F.G.K a) (numD xs) where
  go := fun Hc i o hi => ⟨us, us[i]'(by rw [numD_len] at hi; omega), (hq Hc o).1, List.getElem?_eq_getElem _⟩
  yl := fun Hc i x Hn d o hd hy => by
    obtain ⟨T, y, rfl, hT, rfl, hy⟩ := hy
    obtain ⟨z, hz, rfl⟩ := numD_get hd
    obtain ⟨q, r⟩ := hq Hc o
    obtain ⟨v, h1, h2⟩ := r.get hz
    rw [hy us q] at h1
    cases h1
    exact ⟨Ex.new hT, ⟨T, [.int (i : Nat), y], rfl, .inl (.inl upd_same), .cons mk_int (.cons (RD.ex (Ex.new hT) h2) .nil)⟩⟩
  st := fun Hc i o hi => ⟨us, (hq Hc o).1, by rw [numD_len] at hi; omega⟩
theorem ylds_enumT {Ok : Hp → Prop} {a : Addr} {us : List V} {xs : List PyData} (hl : us.length = xs.length) (hq : ∀ Hc, Ok Hc → SqT F.G.K Hc a us ∧ RDs F ℓ Hc xs us) : Ylds F Ok ℓ (Iet F.G.K a) (numD xs) where
  go := fun Hc i o hi => ⟨us, us[i]'(by rw [numD_len] at hi; omega), (hq Hc o).1, List.getElem?_eq_getElem _⟩
  yl := fun Hc i x Hn d o hd hy => by
    obtain ⟨T, y, rfl, hT, rfl, hy⟩ := hy
    obtain ⟨z, hz, rfl⟩ := numD_get hd
    obtain ⟨q, r⟩ := hq Hc o
    obtain ⟨v, h1, h2⟩ := r.get hz
    rw [hy us q] at h1
    cases h1
    exact ⟨Ex.new hT, ⟨T, [.int (i : Nat), y], rfl, .inl (.inl upd_same), .cons mk_int (.cons (RD.ex (Ex.new hT) h2) .nil)⟩⟩
  st := fun Hc i o hi => ⟨us, (hq Hc o).1, by rw [numD_len] at hi; omega⟩
theorem si_enum (hK : X.K = F.G.K) (hm : X.mg "enumerate" = none) (ha : SimQ X F .mo a qa) (hg : Gl X "enumerate" := by rfl) (hs : starEach [a] X.env = [(false, eval a X.env)] := by rfl) :
    SimI X F OkP ℓ (.Tuple elts kk tpos) (.Call (.Name "enumerate" p) [a] [] pos) (iEnu qa) :=
  PIimp (PIor (pi_enum hg hm (pa_cons ha pa_nil hs) hs) (pi_enumT hg hm (pa_cons ha pa_nil hs) hs)) fun σ H Q ⟨env, h, A, z, R, e, k⟩ => by
    obtain ⟨x, ex, e⟩ := bind_some e
    obtain ⟨xs, ey, e⟩ := bind_some e
    rw [hK]
    split at e
    · next hn =>
      cases e
      unfold seqOf at ey
      split at ey
      · cases ey
        refine .inl ⟨env, h, A, _, R, ex, fun v H1 e1 rv => ?_⟩
        obtain ⟨a, us, rfl, q, r⟩ := rl rv
        exact ⟨a, us, rfl, q, k _ H1 e1 (ylds_enumL r.len fun Hc o => ⟨ex_l o q, RDs.ex o (RepAll.nl (L' := LPof F H1 ℓ) _ _ hn r)⟩)⟩
      · cases ey
        refine .inr ⟨env, h, A, _, R, ex, fun v H1 e1 rv => ?_⟩
        obtain ⟨a, us, rfl, q, r⟩ := rt rv
        exact ⟨a, us, rfl, q, k _ H1 e1 (ylds_enumT r.len fun Hc o => ⟨ex_t o q, RDs.ex o (RepAll.nl (L' := LPof F H1 ℓ) _ _ hn r)⟩)⟩
      · cases ey
    · cases e
end
end Sm

set_option Elab.async false
set_option linter.all false
set_option maxRecDepth 100000
set_option maxHeartbeats 4000000
namespace Sm
open PySem L2 Evl
section
variable {F : Fm} {X : Cx} {st : Stmt} {sts rest : List Stmt} {a b c e : Expr} {pos p p2 : Pos} {m n : M1} {ℓ : Lv} {q qa qb : Q1} {f : I1} {t : T1}
/-- an own list (where the slot holds one) is a value from here on -/
def mHold (i : Nat) (m : M1) : M1 := fun env h => match env[i]? with
  | some (.l xs) => m (env.set i (.v (.d (.list xs)))) h
  | _ => m env h
theorem sb_hold (i : Nat) (h1 : SimB X F sts m) : SimB X F sts (mHold i m) := ⟨fun pins s σ H D I ⟨env, h, A, r, env', h', R, e, k⟩ => by
  by_cases c : ∃ xs, env[i]? = some (.l xs)
  · obtain ⟨xs, hx⟩ := c
    refine (sb_lock i h1).run pins s σ H D I ⟨env, h, A, r, env', h', R, ?_, k⟩
    unfold mHold at e
    unfold mLock
    rw [hx] at e ⊢
    exact e
  · refine h1.run pins s σ H D I ⟨env, h, A, r, env', h', R, ?_, k⟩
    unfold mHold at e
    split at e
    · next xs hx => exact absurd ⟨xs, hx⟩ c
    · exact e⟩
/-- tuple(range(n)) -/
def gTupR : Hs → Val → Option Val := fun _ x => match x with
  | .d (.int n) => if (decide (-(2 ^ 62) ≤ n) && decide (n ≤ 2 ^ 24)) = true then some (.d (.tuple ((List.range n.toNat).map fun k : Nat => PyData.int (k : Int)))) else none
  | _ => none
theorem rep_rng {T L : LP} (lo : Int) (n : Nat) : RepAll T L ((List.range n).map fun k : Nat => PyData.int (lo + (k : Int))) ((List.range n).map fun k : Nat => V.int (lo + (k : Int))) := by
  have := RepAll.ints (T := T) (L := L) ((List.range n).map fun k : Nat => lo + (k : Int))
  simpa [List.map_map, Function.comp_def] using this
theorem sq_tuprng (hc : X.calm = true) (hm : X.mg "tuple" = none) (hm2 : X.mg "range" = none) {ℓ₁ : Lv} (ha : SimQ X F ℓ₁ a qa) (hg : Gl X "tuple" := by rfl) (hg2 : Gl X "range" := by rfl)
    (hs : starEach [a] X.env = (false, eval a X.env) :: starEach [] X.env := by rfl) (na : starEach [.Call (.Name "range" p2) [a] [] pos] X.env = (false, eval (.Call (.Name "range" p2) [a] [] pos) X.env) :: starEach [] X.env := by rfl) {pos2 : Pos} :
    SimQ X F ℓ (.Call (.Name "tuple" p) [.Call (.Name "range" p2) [a] [] pos] [] pos2) (q1 gTupR qa) := by
  refine PEimp (pe_tupRg hc hg hm (prg_1 hg2 hm2 ha hs) na) fun σ H Q ⟨env, h, A, z, R, e, k⟩ => ?_
  obtain ⟨x, ex, e⟩ := bind_some e
  refine ⟨env, h, A, x, R, ex, fun v H1 e1 rv => ?_⟩
  unfold gTupR at e
  split at e
  · next n =>
    split at e
    · next hn =>
      cases e
      cases ri rv
      simp only [Bool.and_eq_true, decide_eq_true_eq] at hn
      refine ⟨n, rfl, ⟨by decide, by decide, by omega, by omega, by omega⟩, fun q hq => k _ _ (e1.trans (Ex.new hq)) ?_⟩
      refine vt (.inl (.inl upd_same)) ?_
      have := rep_rng (T := SqT F.G.K (upd H1 q (.tup (rgV 0 n)))) (L := LPof F (upd H1 q (.tup (rgV 0 n))) ℓ) 0 n.toNat
      simpa [rgV] using this
    · cases e
  · cases e
end
theorem Fun.ofD {K : PySem.W.Frag} {x qual : Str} {st : Stmt} {f : Addr} {fd : FuncData} (h : FunD K x qual (defArgs st) (defBody st) (defScope st) [] [] f fd) : Fun K x qual st f fd := by
  obtain ⟨⟨oc, od, dV, kV, doc, pm, an, cdv, ct, osl, e, l, c, D, _⟩, kp⟩ := h
  rcases D with ⟨_, rfl⟩ | ⟨q, _⟩
  · exact ⟨⟨oc, od, kV, doc, pm, an, cdv, ct, osl, e, l, c⟩, kp⟩
  · exact absurd rfl q
theorem hu4 {k : Nat} {A : Around} (hr : Room k A) : A.units + 64 < cLine := by
  have := hr.un
  omega
theorem hu65 {k : Nat} {A : Around} (hr : Room k A) : A.units + 65 < cLine := by
  have := hr.un
  omega
end Sm

set_option Elab.async false
set_option linter.all false
set_option maxRecDepth 100000
set_option maxHeartbeats 4000000
namespace Sm
open PySem L2 Evl
/-- the law's own call, at the beginning -/
theorem enter {G : Glo} {r : List Val → Hs → Option (Val × Hs)} {ns : List Int} {h' : Hs} (e : r [.d (.list (ns.map PyData.int))] [] = some (.d (.bool true), h')) {H : Hp} {a : Addr} (hS : SqL G.K H a (ns.map V.int)) (E : XK) :
    spE G 1 r [V.ref a] H (fun v _ => v = .bl true) E := by
  have R : SR (Fm.cal G true [] (fun _ => 0) H) [] [] (fun _ => 0) [] H := by
    have no : ∀ p, ¬ hlive [] p := fun p => by
      cases p with
      | s i => exact fun z => z
      | o n => exact fun z => Nat.not_lt_zero _ z
      | f n j => exact fun ⟨_, _, _, z, _⟩ => by simp at z
    have no2 : ∀ p, ¬ live [] [] p := fun p => by
      cases p with
      | s i => exact fun ⟨_, z, _⟩ => by simp at z
      | o n => exact no (.o n)
      | f n j => exact no (.f n j)
    exact ⟨fun _ _ e _ => e, fun _ _ e => e, fun _ _ _ e => e, fun _ o e => ⟨o, e⟩, fun _ => Nat.le_refl _, fun _ m z => absurd z (Nat.not_lt_zero _), fun _ p z => absurd z (no p), fun i z => absurd z (no2 _), rfl,
      fun i s e => by simp at e, fun n o e => by simp at e, fun p q z => absurd z (no2 p)⟩
  refine ⟨Fm.cal G true [] (fun _ => 0) H, [], [], fun _ => 0, [], [.d (.list (ns.map PyData.int))], .d (.bool true), h', rfl, rfl, R, .cons ?_ .nil, rfl, e, fun v H' A' _ _ rv => rb rv⟩
  show Rep _ _ (.list (ns.map PyData.int)) _
  simp only [Rep]
  refine ⟨a, ns.map V.int, rfl, ?_, RepAll.ints ns⟩
  rcases hS with z | z
  · exact .inl ⟨z, fun ⟨_, p, q, _⟩ => by
      cases p with
      | s i => exact q
      | o n => exact Nat.not_lt_zero _ q
      | f n j => obtain ⟨_, _, _, z, _⟩ := q; have z : ([] : Hs)[n]? = _ := z; simp at z⟩
  · exact .inr (.inr z)
end Sm

set_option Elab.async false
set_option linter.all false
set_option maxRecDepth 100000
set_option maxHeartbeats 4000000
namespace Sm
open PySem L2 Evl
section
variable {F : Fm} {X : Cx} {a b c e o i : Expr} {es rest : List Expr} {pos p p2 apos : Pos} {ℓ : Lv} {env : En} {h h' : Hs} {A A' : As} {σ : L2.St} {H H' : Hp} {qo qi : Q1} {ma mb : E1}
/-- an object without attributes is changed: a step -/
theorem Step.putG {n : Nat} {ob ob' : Ob} {u' : HO} (R : SR F env h A σ H) (hn : h[n]? = some ob) (hk : ∀ c fs, ob' ≠ .ins c fs) : Step h A H (h.set n ob') A (upd H (A (.o n)) u') := by
  have hp : hlive h (.o n) := (List.getElem?_eq_some_iff.mp hn).1
  have P : Pres H (upd H (A (.o n)) u') := R.pres_at hp.live
  refine ⟨fun a u e na => by rw [upd_ne (fun z => na _ hp z.symm)]; exact e, P.1, P.2, dm_upd, by rw [List.length_set]; exact Nat.le_refl _, fun _ _ => rfl, fun q hq => .inl ⟨q, ?_, rfl⟩⟩
  cases q with
  | s i => exact hq
  | o m => simpa [hlive] using hq
  | f m j =>
    obtain ⟨c, fs, s, e1, e2, m'⟩ := hq
    rcases get_set e1 with ⟨_, e, _⟩ | ⟨_, e⟩
    · exact absurd e.symm (hk c fs)
    · exact ⟨c, fs, s, e, e2, m'⟩
/-- o.pop(k) -/
def oPop (h : Hs) (n : Nat) (k : Int) : Option (Val × Hs) := match h[n]? with
  | some (.lst xs) => (ixN xs.length k).bind fun j => (xs[j]?).bind fun d => some (.d d, h.set n (.lst (xs.eraseIdx j)))
  | some (.vls xs) => (ixN xs.length k).bind fun j => (xs[j]?).bind fun d => some (d, h.set n (.vls (xs.eraseIdx j)))
  | _ => none
def ePop (qo qi : Q1) : E1 := fun env h => (qo env h).bind fun o => (qi env h).bind fun i => match o, i with
  | .ref n, .d (.int k) => if (decide (-(2 ^ 62) ≤ k) && decide (k < 2 ^ 62)) = true then oPop h n k else none
  | _, _ => none
theorem pair_erase {α β : Type} {f : α → β → Prop} : ∀ {l : List α} {m : List β} (i : Nat), Paired f l m → Paired f (l.eraseIdx i) (m.eraseIdx i)
  | _, _, i, .nil => by cases i <;> exact .nil
  | _, _, 0, .cons _ t => t
  | _, _, i + 1, .cons h t => .cons h (pair_erase i t)
theorem se_pop (hw : F.rw = true) (hK : X.K = F.G.K) (ho : SimQ X F .mo o qo) (hi : SimQ X F .mo i qi)
    (hbase : attributeBase o "pop" X.env (eval o X.env) = eval o X.env := by rfl)
    (hfew : ((backTo pos (starEach [i] X.env)).all (fun x => !x.1) && (backToKw pos (keywordEach [] X.env)).all (fun x => x.1.isSome) && decide ([i].length + ([] : List Keyword).length + (if ([] : List Keyword).isEmpty then 0 else 1) < 30)) = true := by rfl)
    (hline : (apos.endLine == pos.line) = true := by rfl) (hs : starEach [i] X.env = (false, eval i X.env) :: starEach [] X.env := by rfl) (hplain : (backTo pos (starEach [] X.env)).any (·.1) = false := by rfl) :
    SimE X F .st (.Call (.Attribute o "pop" apos) [i] [] pos) (ePop qo qi) :=
  PEimp (pe_bm PySem.F.plainAttrs_list PySem.F.slot_list_pop PySem.F.type_list_pop mt_popAt ho (pa_cons hi pa_nil hs) hbase hfew hline hs hplain) fun σ H Q ⟨env, h, A, z, h', R, e, k⟩ => by
    obtain ⟨x, ex, e⟩ := bind_some e
    obtain ⟨y, ey, e⟩ := bind_some e
    refine ⟨env, h, A, x, R, ex, fun v H1 e1 rv => ?_⟩
    split at e
    · next n kk _ =>
      split at e
      · next hb =>
        simp only [Bool.and_eq_true, decide_eq_true_eq] at hb
        obtain ⟨_, rfl⟩ := rv
        have R1 := R.ex e1
        unfold oPop at e
        split at e
        · next xs hn =>
          obtain ⟨j, ej, e⟩ := bind_some e
          obtain ⟨d, ed, e⟩ := bind_some e
          cases e
          obtain ⟨us, hu, rs⟩ := R1.ob n _ hn
          refine ⟨by rw [hK]; exact ty_list hu, env, h, A, _, R1, ey, fun w H2 e2 rw' => ?_⟩
          cases ri rw'
          have R2 := R1.ex e2
          obtain ⟨us, hu, rs⟩ := R2.ob n _ hn
          obtain ⟨u, hu2, ru⟩ := rs.get ed
          have hj : ixN us.length kk = some j := by rw [rs.len]; exact ej
          obtain ⟨hsq, hlt, _, _⟩ := ixN_seq hj
          refine ⟨_, us, kk, j, u, rfl, rfl, hu, by omega, by omega, hsq, hu2, ?_⟩
          have R3 := R2.putO (xs' := xs.eraseIdx j) hw hn (rs.eraseIdx j)
          have s3 := Step.putG (u' := .lst (us.eraseIdx j)) (ob' := .lst (xs.eraseIdx j)) R2 hn (fun _ _ z => by cases z)
          exact k u _ A R3 ((Step.ex (e1.trans e2)).trans s3) (RD.pres s3.pres (by simp) ru)
        · next xs hn =>
          obtain ⟨j, ej, e⟩ := bind_some e
          obtain ⟨d, ed, e⟩ := bind_some e
          cases e
          obtain ⟨us, hu, rs⟩ := R1.ob n _ hn
          refine ⟨by rw [hK]; exact ty_list hu, env, h, A, _, R1, ey, fun w H2 e2 rw' => ?_⟩
          cases ri rw'
          have R2 := R1.ex e2
          obtain ⟨us, hu, rs⟩ := R2.ob n _ hn
          obtain ⟨u, hu2, ru⟩ := pair_get rs ed
          have hj : ixN us.length kk = some j := by rw [pair_len rs]; exact ej
          obtain ⟨hsq, hlt, _, _⟩ := ixN_seq hj
          refine ⟨_, us, kk, j, u, rfl, rfl, hu, by omega, by omega, hsq, hu2, ?_⟩
          have R3 := R2.putV (xs' := xs.eraseIdx j) hw hn (pair_erase j rs)
          have s3 := Step.putG (u' := .lst (us.eraseIdx j)) (ob' := .vls (xs.eraseIdx j)) R2 hn (fun _ _ z => by cases z)
          exact k u _ A R3 ((Step.ex (e1.trans e2)).trans s3) (RV.step (ℓ := .st) s3 (by simp) ru)
        · cases e
      · cases e
    · cases e
/-- a built-in of one argument, with effects within -/
theorem tCB1_e {r : List V → Hp → VK → Prop} {g : Hs → Val → Option Val} (o : Op1 F .fs ℓ (fun v H Q => r [v] H Q) g) {Q : VK} (hq : tE F ℓ (e1 g ma) σ H Q) : tCB r (tCons (tE F .fs ma) tNil) σ H Q := by
  obtain ⟨env, h, A, z, h', R, e, k⟩ := hq
  obtain ⟨⟨x, h1⟩, ex, e⟩ := bind_some e
  obtain ⟨y, ey, e⟩ := bind_some e
  cases e
  refine ⟨env, h, A, x, _, R, ex, fun v H1 A1 R1 s1 rv => ?_⟩
  exact o _ _ _ _ _ _ _ _ R1 rv ey Q fun w H2 e2 rw' => k w H2 A1 (R1.ex e2) (s1.trans (Step.ex e2)) rw'
theorem se_toint (hm : X.mg "int" = none) (ha : SimE X F .fs a ma) (hg : Gl X "int" := by rfl) (he : starEach [a] X.env = (false, eval a X.env) :: starEach [] X.env := by rfl) (hpl : (backTo pos (starEach [] X.env)).any (·.1) = false := by rfl) :
    SimE X F ℓ (.Call (.Name "int" p) [a] [] pos) (e1 gInt ma) :=
  PEimp (pe_callTy call_int1 hg hm (by decide +kernel) (pa_cons ha pa_nil he) (by decide) (by decide) he hpl) fun _ _ _ => tCB1_e (o_int (ℓ₁ := .fs))
theorem Op1.fs {r : V → Hp → VK → Prop} {g : Hs → Val → Option Val} (o : Op1 F .mo ℓ r g) : Op1 F .fs ℓ r g := fun env h A σ H x v z R rv => o env h A σ H x v z R (RV.mo R rv)
theorem se_len (hK : X.K = F.G.K) (hm : X.mg "len" = none) (ha : SimE X F .fs a ma) (hg : Gl X "len" := by rfl) (he : starEach [a] X.env = (false, eval a X.env) :: starEach [] X.env := by rfl) (hpl : (backTo pos (starEach [] X.env)).any (·.1) = false := by rfl) :
    SimE X F ℓ (.Call (.Name "len" p) [a] [] pos) (e1 gLen ma) :=
  PEimp (pe_callB call_len hg hm PySem.boot_len (pa_cons ha pa_nil he) (by decide) (by decide) he hpl) fun _ _ _ => tCB1_e (Op1.fs (o_len hK))
end
end Sm

set_option Elab.async false
set_option linter.all false
set_option maxRecDepth 100000
set_option maxHeartbeats 4000000
namespace Sm
open PySem L2 Evl
/-! ### the module's constants -/
mutual
/-- the value u reads as the datum, by K -/
def conB (K : PySem.W.Frag) : PyData → Value → Bool
  | .none, .none => true
  | .bool b, .bool c => b == c
  | .int i, .int j _ => decide (i = j)
  | .str x, .str y _ => decide (x = y)
  | .tuple ds, .ref a => match K.lookup a with
    | some ⟨.type c, none, .seq its _, _⟩ => decide (c = "tuple") && (decide (its.size ≤ sizeLine) && conAll K ds its.toList)
    | _ => false
  | .list ds, .ref a => match K.lookup a with
    | some ⟨.type c, none, .seq its _, _⟩ => decide (c = "list") && (decide (its.size ≤ sizeLine) && conAll K ds its.toList)
    | _ => false
  | _, _ => false
def conAll (K : PySem.W.Frag) : List PyData → List Value → Bool
  | [], [] => true
  | d :: ds, u :: us => conB K d u && conAll K ds us
  | _, _ => false
end
mutual
theorem conB_ok {K : PySem.W.Frag} : ∀ (d : PyData) (u : Value), conB K d u = true → ∃ v, RelV v u ∧ ∀ H, Rep (SqT K H) (SL K H) d v
  | .none, u, h => by
    cases u <;> simp [conB] at h
    exact ⟨.non, rfl, fun H => by simp [Rep]⟩
  | .bool b, u, h => by
    cases u <;> simp [conB] at h
    subst h
    exact ⟨.bl b, rfl, fun H => by simp [Rep]⟩
  | .int i, u, h => by
    cases u <;> simp [conB] at h
    subst h
    exact ⟨.int i, ⟨_, rfl⟩, fun H => by simp [Rep]⟩
  | .str x, u, h => by
    cases u <;> simp [conB] at h
    subst h
    exact ⟨.str x, ⟨_, rfl⟩, fun H => by simp [Rep]⟩
  | .tuple ds, u, h => by
    cases u with
    | ref a =>
      unfold conB at h
      split at h
      · next c its n sl hk =>
        simp only [Bool.and_eq_true, decide_eq_true_eq] at h
        obtain ⟨rfl, hz, h3⟩ := h
        obtain ⟨vs, rv, rr⟩ := conAll_ok ds its.toList h3
        refine ⟨.ref a, rfl, fun H => ?_⟩
        simp only [Rep]
        exact ⟨a, vs, rfl, .inr ⟨_, its, n, hk, rfl, rfl, hz, rv⟩, rr H⟩
      · cases h
    | _ => simp [conB] at h
  | .list ds, u, h => by
    cases u with
    | ref a =>
      unfold conB at h
      split at h
      · next c its n sl hk =>
        simp only [Bool.and_eq_true, decide_eq_true_eq] at h
        obtain ⟨rfl, hz, h3⟩ := h
        obtain ⟨vs, rv, rr⟩ := conAll_ok ds its.toList h3
        refine ⟨.ref a, rfl, fun H => ?_⟩
        simp only [Rep]
        exact ⟨a, vs, rfl, .inr ⟨_, its, n, hk, rfl, rfl, rfl, hz, rv⟩, rr H⟩
      · cases h
    | _ => simp [conB] at h
  | .dict kvs, u, h => by cases u <;> simp [conB] at h
theorem conAll_ok {K : PySem.W.Frag} : ∀ (ds : List PyData) (us : List Value), conAll K ds us = true → ∃ vs, Vals vs us ∧ ∀ H, RepAll (SqT K H) (SL K H) ds vs
  | [], [], _ => ⟨[], .nil, fun _ => .nil⟩
  | [], _ :: _, h => by simp [conAll] at h
  | _ :: _, [], h => by simp [conAll] at h
  | d :: ds, u :: us, h => by
    simp only [conAll, Bool.and_eq_true] at h
    obtain ⟨v, r1, r2⟩ := conB_ok d u h.1
    obtain ⟨vs, q1, q2⟩ := conAll_ok ds us h.2
    exact ⟨v :: vs, .cons r1 q1, fun H => .cons (r2 H) (q2 H)⟩
end
/-- the module's name x stands for the datum d -/
def TupW (K : PySem.W.Frag) (d : PyData) (u : Value) : Prop := ∀ ds, d = .tuple ds → ∃ a o, u = .ref a ∧ K.lookup a = some o ∧ o.cls = .type "tuple" ∧ o.dict = none
theorem conB_tup {K : PySem.W.Frag} {d : PyData} {u : Value} (h : conB K d u = true) : TupW K d u := by
  rintro ds rfl
  cases u with
  | ref a =>
    unfold conB at h
    split at h
    · next c its n sl hk =>
      simp only [Bool.and_eq_true, decide_eq_true_eq] at h
      obtain ⟨rfl, _⟩ := h
      exact ⟨a, _, rfl, hk, rfl, rfl⟩
    · cases h
  | _ => simp [conB] at h
def GlobD (K : PySem.W.Frag) (mg : Str → Option Value) (x : Str) (d : PyData) : Prop := ∃ u v, mg x = some u ∧ RelV v u ∧ (∀ H, Rep (SqT K H) (SL K H) d v) ∧ TupW K d u
section
variable {F : Fm} {X : Cx} {pos : Pos} {ℓ : Lv}
theorem sq_glob {x : Str} {d : PyData} (hK : X.K = F.G.K) (g : GlobD X.K X.mg x d) (hg : Gl X x := by rfl) (hd : (x == ("__debug__" : Str)) = false := by decide) : SimQ X F ℓ (.Name x pos) (qC (.d d)) := by
  obtain ⟨u, v, hm, r, rep, _⟩ := g
  refine PEimp (pe_glob hg hm r hd) fun σ H Q ⟨env, h, A, z, R, e, k⟩ => ?_
  cases e
  refine k v H (Ex.refl H) ?_
  have q := rep H
  rw [hK] at q
  exact RD.of_st (ℓ := ℓ) q
end
/-! ### the head with constants -/
def consB (cs : List (Str × PyData)) (K : PySem.W.Frag) : Bool := cs.all fun c => match PySem.W.nsIn K mainGlobals c.1 with
  | some (some u) => conB K c.2 u
  | _ => false
def SaysX (fa : List He.Fa) (fn : List He.DefD) (cs : List (Str × PyData)) (K : PySem.W.Frag) : Prop := He.SaysD fa fn K ∧ consB cs K = true
def obsX (n : Nat) (fa : List He.Fa) (fn : List He.DefD) (cs : List (Str × PyData)) (g : Addr → Option Obj) : He.AlD × Bool := (He.obsDG n fa fn g, consB cs (He.frG g (He.asD g n)))
def hookX (n : Nat) (fa : List He.Fa) (fn : List He.DefD) (cs : List (Str × PyData)) : PySem.W.Hook where
  α := He.AlD × Bool
  obs := fun s => obsX n fa fn cs s.heap.get?
  val := fun _ => (He.valD fn, true)
  says := fun _ h => ∃ K : PySem.W.Frag, K.In h ∧ SaysX fa fn cs K
  of := fun _ _ e => ⟨_, He.frG_in, congrArg (fun z : He.AlD × Bool => z.1) e, congrArg (fun z : He.AlD × Bool => z.2) e⟩
  keeps := fun _ _ _ ⟨K, hK, c⟩ k => ⟨K, PySem.W.Frag.In.keeps hK k, c⟩
theorem obsX_eq {n : Nat} {fa : List He.Fa} {fn : List He.DefD} {cs : List (Str × PyData)} {g : Addr → Option Obj} {s : Shared} (h : ∀ a, g a = s.heap.get? a) : obsX n fa fn cs g = (hookX n fa fn cs).obs s := by
  have e : g = s.heap.get? := funext h
  rw [e] <;> rfl
theorem SaysX.con {K : PySem.W.Frag} {h : Heap} {mg : Str → Option Value} {fa : List He.Fa} {fn : List He.DefD} {cs : List (Str × PyData)} (c : SaysX fa fn cs K) (X : K.In h) (G : h.Ns mainGlobals mg) (i : Nat) {p : Str × PyData} (e : cs[i]? = some p := by rfl) : GlobD K mg p.1 p.2 := by
  have q := List.all_eq_true.mp c.2 p (List.mem_of_getElem? e)
  split at q
  · next u hu =>
    obtain ⟨v, r1, r2⟩ := conB_ok _ _ q
    exact ⟨u, v, PySem.W.mg_of X G hu, r1, r2, conB_tup q⟩
  · cases q
end Sm

set_option Elab.async false
set_option linter.all false
set_option maxRecDepth 100000
set_option maxHeartbeats 4000000
namespace Sm
open PySem L2 Evl
section
variable {F : Fm} {X : Cx} {a b c e o i : Expr} {es rest : List Expr} {pos p p2 apos : Pos} {ℓ : Lv} {env : En} {h h' : Hs} {A A' : As} {σ : L2.St} {H H' : Hp} {qa qb qc : Q1} {x : Str} {id T : String}
/-! ### built-ins of two -/
theorem tCB2_q {ℓ₁ ℓ₂ : Lv} {r : List V → Hp → VK → Prop} {g : Hs → Val → Val → Option Val} (o : Op2 F ℓ₁ ℓ₂ ℓ (fun v u H Q => r [v, u] H Q) g) {σ : L2.St} {H : Hp} {Q : VK} (hq : tQ F ℓ (q2 g qa qb) σ H Q) : tCB r (tCons (tQ F ℓ₁ qa) (tCons (tQ F ℓ₂ qb) tNil)) σ H Q := by
  obtain ⟨env, h, A, z, R, e, k⟩ := hq
  obtain ⟨x, ex, e⟩ := bind_some e
  obtain ⟨y, ey, e⟩ := bind_some e
  refine ⟨env, h, A, x, R, ex, fun v H1 e1 rv => ⟨env, h, A, y, R.ex e1, ey, fun u H2 e2 ru => ?_⟩⟩
  exact o env h A σ H2 x y v u z ((R.ex e1).ex e2) (rv.ex e2) ru e Q fun v' H' e3 rz => k v' H' ((e1.trans e2).trans e3) rz
theorem sq_b2 {ℓ₁ ℓ₂ : Lv} {r : List V → Hp → VK → Prop} {g : Hs → Val → Val → Option Val} (hc : CallR X (.builtin id) r) (o : Op2 F ℓ₁ ℓ₂ ℓ (fun v u H Q => r [v, u] H Q) g) (hm : X.mg x = none) (hv : bootBuiltins x = some (.builtin id)) (ha : SimQ X F ℓ₁ a qa) (hb : SimQ X F ℓ₂ b qb)
    (hg : Gl X x := by rfl) (hn : x ≠ "__name__" := by decide) (hdb : (x == ("__debug__" : Str)) = false := by decide)
    (he : starEach [a, b] X.env = (false, eval a X.env) :: starEach [b] X.env := by rfl) (he2 : starEach [b] X.env = (false, eval b X.env) :: starEach [] X.env := by rfl) (hpl : (backTo pos (starEach [b] X.env)).any (·.1) = false := by rfl) : SimQ X F ℓ (.Call (.Name x p) [a, b] [] pos) (q2 g qa qb) :=
  PEimp (pe_callB hc hg hm hv (pa_cons ha (pa_cons hb pa_nil he2) he) hn hdb he hpl) fun _ _ _ => tCB2_q o
def gMax2 : Hs → Val → Val → Option Val := fun _ x y => match x, y with
  | .d (.int i), .d (.int j) => some (.d (.int (max i j)))
  | _, _ => none
def gMin2 : Hs → Val → Val → Option Val := fun _ x y => match x, y with
  | .d (.int i), .d (.int j) => some (.d (.int (min i j)))
  | _, _ => none
theorem sq_max2 (hc : X.calm = true) {ℓ₁ ℓ₂ : Lv} (hm : X.mg "max" = none) (ha : SimQ X F ℓ₁ a qa) (hb : SimQ X F ℓ₂ b qb) (hg : Gl X "max" := by rfl)
    (he : starEach [a, b] X.env = (false, eval a X.env) :: starEach [b] X.env := by rfl) (he2 : starEach [b] X.env = (false, eval b X.env) :: starEach [] X.env := by rfl) (hpl : (backTo pos (starEach [b] X.env)).any (·.1) = false := by rfl) : SimQ X F ℓ (.Call (.Name "max" p) [a, b] [] pos) (q2 gMax2 qa qb) :=
  sq_b2 (call_max2 hc) (by
    intro env h A σ H x y v u z R rx ry e Q k
    unfold gMax2 at e
    split at e
    · next i j =>
      cases e
      cases ri rx
      cases ri ry
      refine ⟨i, j, rfl, ?_⟩
      have : (if j > i then j else i) = max i j := by
        split <;> omega
      rw [this]
      exact k _ H (Ex.refl H) vi
    · cases e) hm (by decide +kernel) ha hb hg (by decide) (by decide) he he2 hpl
theorem sq_min2 (hc : X.calm = true) {ℓ₁ ℓ₂ : Lv} (hm : X.mg "min" = none) (ha : SimQ X F ℓ₁ a qa) (hb : SimQ X F ℓ₂ b qb) (hg : Gl X "min" := by rfl)
    (he : starEach [a, b] X.env = (false, eval a X.env) :: starEach [b] X.env := by rfl) (he2 : starEach [b] X.env = (false, eval b X.env) :: starEach [] X.env := by rfl) (hpl : (backTo pos (starEach [b] X.env)).any (·.1) = false := by rfl) : SimQ X F ℓ (.Call (.Name "min" p) [a, b] [] pos) (q2 gMin2 qa qb) :=
  sq_b2 (call_min2 hc) (by
    intro env h A σ H x y v u z R rx ry e Q k
    unfold gMin2 at e
    split at e
    · next i j =>
      cases e
      cases ri rx
      cases ri ry
      refine ⟨i, j, rfl, ?_⟩
      have : (if j < i then j else i) = min i j := by
        split <;> omega
      rw [this]
      exact k _ H (Ex.refl H) vi
    · cases e) hm (by decide +kernel) ha hb hg (by decide) (by decide) he he2 hpl
/-! ### max, min of a list of ints -/
def maxI : List Int → Option Int
  | [] => none
  | n :: ns => match maxI ns with
    | none => some n
    | some m => some (max n m)
def minI : List Int → Option Int
  | [] => none
  | n :: ns => match minI ns with
    | none => some n
    | some m => some (min n m)
theorem maxI_spec : ∀ {ns : List Int} {m : Int}, maxI ns = some m → m ∈ ns ∧ ∀ y ∈ ns, y ≤ m
  | [], m, e => by cases e
  | n :: ns, m, e => by
    unfold maxI at e
    cases q : maxI ns with
    | none =>
      rw [q] at e; cases e
      have : ns = [] := by
        cases ns with
        | nil => rfl
        | cons a l => simp only [maxI] at q; split at q <;> cases q
      subst this
      simp
    | some k =>
      rw [q] at e; cases e
      obtain ⟨h1, h2⟩ := maxI_spec q
      constructor
      · by_cases h : n ≤ k
        · rw [Int.max_eq_right h]; exact List.mem_cons_of_mem _ h1
        · rw [Int.max_eq_left (by omega)]; simp
      · intro y hy
        rcases List.mem_cons.mp hy with rfl | hy
        · omega
        · have := h2 y hy; omega
theorem minI_spec : ∀ {ns : List Int} {m : Int}, minI ns = some m → m ∈ ns ∧ ∀ y ∈ ns, m ≤ y
  | [], m, e => by cases e
  | n :: ns, m, e => by
    unfold minI at e
    cases q : minI ns with
    | none =>
      rw [q] at e; cases e
      have : ns = [] := by
        cases ns with
        | nil => rfl
        | cons a l => simp only [minI] at q; split at q <;> cases q
      subst this
      simp
    | some k =>
      rw [q] at e; cases e
      obtain ⟨h1, h2⟩ := minI_spec q
      constructor
      · by_cases h : n ≤ k
        · rw [Int.min_eq_left h]; simp
        · rw [Int.min_eq_right (by omega)]; exact List.mem_cons_of_mem _ h1
      · intro y hy
        rcases List.mem_cons.mp hy with rfl | hy
        · omega
        · have := h2 y hy; omega
theorem maxI_some : ∀ {ns : List Int}, ns ≠ [] → ∃ m, maxI ns = some m
  | [], h => absurd rfl h
  | n :: ns, _ => by
    unfold maxI
    split <;> exact ⟨_, rfl⟩
theorem minI_some : ∀ {ns : List Int}, ns ≠ [] → ∃ m, minI ns = some m
  | [], h => absurd rfl h
  | n :: ns, _ => by
    unfold minI
    split <;> exact ⟨_, rfl⟩
def gMaxL : Hs → Val → Option Val := fun _ x => match x with
  | .d (.list ds) => (intsOf ds).bind fun ns => (maxI ns).map fun m => .d (.int m)
  | _ => none
def gMinL : Hs → Val → Option Val := fun _ x => match x with
  | .d (.list ds) => (intsOf ds).bind fun ns => (minI ns).map fun m => .d (.int m)
  | _ => none
theorem sq_maxL (hK : X.K = F.G.K) (hc : X.calm = true) (hm : X.mg "max" = none) (ha : SimQ X F .mo a qa) (hg : Gl X "max" := by rfl)
    (he : starEach [a] X.env = (false, eval a X.env) :: starEach [] X.env := by rfl) (hpl : (backTo pos (starEach [] X.env)).any (·.1) = false := by rfl) : SimQ X F ℓ (.Call (.Name "max" p) [a] [] pos) (q1 gMaxL qa) :=
  sq_b1 (cr_max hc) (by
    intro env h A σ H x v z R rx e Q k
    unfold gMaxL at e
    split at e
    · next ds =>
      obtain ⟨ns, en, e⟩ := bind_some e
      obtain ⟨m, em, e⟩ := Option.map_eq_some_iff.mp e
      subst e
      obtain ⟨a, us, rfl, t, r⟩ := rl rx
      rw [intsOf_map en] at r
      rw [rep_ints r] at t
      obtain ⟨s1, s2⟩ := maxI_spec em
      refine ⟨a, ns, rfl, by rw [hK]; exact t, by cases ns with | nil => cases em | cons _ _ => simp, fun m' h1 h2 => ?_⟩
      have : m' = m := by have := h2 m s1; have := s2 m' h1; omega
      subst this
      exact k _ H (Ex.refl H) vi
    · cases e) hm (by decide +kernel) ha hg (by decide) (by decide) he hpl
theorem sq_minL (hK : X.K = F.G.K) (hc : X.calm = true) (hm : X.mg "min" = none) (ha : SimQ X F .mo a qa) (hg : Gl X "min" := by rfl)
    (he : starEach [a] X.env = (false, eval a X.env) :: starEach [] X.env := by rfl) (hpl : (backTo pos (starEach [] X.env)).any (·.1) = false := by rfl) : SimQ X F ℓ (.Call (.Name "min" p) [a] [] pos) (q1 gMinL qa) :=
  sq_b1 (cr_min hc) (by
    intro env h A σ H x v z R rx e Q k
    unfold gMinL at e
    split at e
    · next ds =>
      obtain ⟨ns, en, e⟩ := bind_some e
      obtain ⟨m, em, e⟩ := Option.map_eq_some_iff.mp e
      subst e
      obtain ⟨a, us, rfl, t, r⟩ := rl rx
      rw [intsOf_map en] at r
      rw [rep_ints r] at t
      obtain ⟨s1, s2⟩ := minI_spec em
      refine ⟨a, ns, rfl, by rw [hK]; exact t, by cases ns with | nil => cases em | cons _ _ => simp, fun m' h1 h2 => ?_⟩
      have : m' = m := by have := h2 m s1; have := s2 m' h1; omega
      subst this
      exact k _ H (Ex.refl H) vi
    · cases e) hm (by decide +kernel) ha hg (by decide) (by decide) he hpl
/-! ### len(set(x)) of ints -/
theorem cr_lenSetO : CallR X (.builtin "len") (fun vs H Q => ∃ (a : Addr) (S : Int → Bool) (n : Nat), vs = [V.ref a] ∧ H a = some (SetO X.w a S n) ∧ n < 64 ∧ ∀ ms : List Int, ms.Nodup → (∀ k, k ∈ ms ↔ S k = true) → ms.length = n → Q (.int n) H) := by
  intro pins s σ H vs us Q I r ⟨a, S, n, e, ha, hn64, q⟩
  subst e
  rw [Vals.ref1 r]
  obtain ⟨o, es, ep, t, ho, hex, hd, g, nd, hm, hb, hf, hn, hr, hl⟩ := setO_get I ha
  refine PySem.call_len_set ho hex hd hf (by rw [hn] <;> omega) ⟨.int n, H, I.tok _, ⟨_, by rw [hn]⟩, ?_⟩
  exact q (es.toList.map keyOf) nd (fun k => (hm k).symm) (by rw [List.length_map, Array.length_toList, hn])
theorem nodup_len {xs ys : List Int} (h1 : xs.Nodup) (h2 : ys.Nodup) (h : ∀ k, k ∈ xs ↔ k ∈ ys) : xs.length = ys.length :=
  ((List.perm_ext_iff_of_nodup h1 h2).mpr h).length_eq
theorem sq_lenset (hK : X.K = F.G.K) (hc : X.calm = true) (hm : X.mg "len" = none) (hm2 : X.mg "set" = none) (ha : SimQ X F .mo a qa) (hg : Gl X "len" := by rfl) (hg2 : Gl X "set" := by rfl) {pos2 : Pos}
    (he : starEach [a] X.env = (false, eval a X.env) :: starEach [] X.env := by rfl) (hpl : (backTo pos2 (starEach [] X.env)).any (·.1) = false := by rfl)
    (he2 : starEach [.Call (.Name "set" p2) [a] [] pos2] X.env = (false, eval (.Call (.Name "set" p2) [a] [] pos2) X.env) :: starEach [] X.env := by rfl) (hpl2 : (backTo pos (starEach [] X.env)).any (·.1) = false := by rfl) :
    SimQ X F ℓ (.Call (.Name "len" p) [.Call (.Name "set" p2) [a] [] pos2] [] pos) (q1 gSetN qa) := by
  refine PEimp (pe_callB cr_lenSetO hg hm PySem.boot_len (pa_cons (pe_setI hc hg2 hm2 ha he hpl) pa_nil he2) (by decide) (by decide) he2 hpl2) fun σ H Q ⟨env, h, A, z, R, e, k⟩ => ?_
  obtain ⟨x, ex, e⟩ := bind_some e
  refine ⟨env, h, A, x, R, ex, fun v H1 e1 rv => ?_⟩
  obtain ⟨a, ns, rfl, hq, hn, ez⟩ := set_in hK e rv
  cases ez
  refine ⟨a, ns, rfl, hq, hn, fun p c hp hcn => ⟨p, _, c, rfl, upd_same, by omega, fun ms nd hmem hl => ?_⟩⟩
  have el : ms.length = (sortU ns).length := nodup_len nd ((asc_sortU ns).imp fun h => by omega) fun k => by rw [hmem, decide_eq_true_iff, mem_sortU]
  have ec : c = (sortU ns).length := by rw [← el, hl]
  subst ec
  exact k _ _ (e1.trans (Ex.new hp)) vi
/-! ### text.index -/
def gSIx : Hs → Val → Val → Option Val := fun _ x y => match x, y with
  | .d (.str s), .d (.str t) => match Builtin.Str.occurrences s t 0 s.length 1 with
    | i :: _ => some (.d (.int (i : Nat)))
    | [] => none
  | _, _ => none
theorem sq_sindex {ℓ₁ ℓ₂ : Lv} (ho : SimQ X F ℓ₁ o qa) (hi : SimQ X F ℓ₂ e qb) 
    (hs : starEach [e] X.env = [(false, eval e X.env)] := by rfl) (hbase : attributeBase o "index" X.env (eval o X.env) = eval o X.env := by rfl) (hline : (apos.endLine == pos.line) = true := by rfl) :
    SimQ X F ℓ (.Call (.Attribute o "index" apos) [e] [] pos) (q2 gSIx qa qb) :=
  PEimp (pe_m1 PySem.F.slot_str_index PySem.F.type_str_index mt_sindex ho hi hs hbase hline) fun σ H Q ⟨env, h, A, z, R, e, k⟩ => by
    obtain ⟨x, ex, e⟩ := bind_some e
    obtain ⟨y, ey, e⟩ := bind_some e
    unfold gSIx at e
    split at e
    · next s t _ =>
      split at e
      · next i rest ho =>
        cases e
        refine ⟨env, h, A, _, R, ex, fun v H1 e1 rv => ?_⟩
        cases rs rv
        refine ⟨⟨_, rfl⟩, env, h, A, _, R.ex e1, ey, fun u H2 e2 ru => ?_⟩
        cases rs ru
        exact ⟨s, t, i, rest, rfl, rfl, ho, k _ H2 (e1.trans e2) vi⟩
      · cases e
    · cases e
/-! ### tuple.index of texts -/
def strOf : PyData → Option Str
  | .str n => some n
  | _ => none
def strsOf : List PyData → Option (List Str)
  | [] => some []
  | d :: ds => (strOf d).bind fun n => (strsOf ds).bind fun ns => some (n :: ns)
theorem strsOf_map : ∀ {ds : List PyData} {ns : List Str}, strsOf ds = some ns → ds = ns.map PyData.str
  | [], ns, e => by cases e; rfl
  | d :: ds, ns, e => by
    unfold strsOf at e
    cases d <;> simp only [strOf, Option.bind_some, Option.bind_none, reduceCtorEq] at e
    rename_i n
    cases q : strsOf ds with
    | none => rw [q] at e; cases e
    | some ms => rw [q] at e; cases e; rw [List.map_cons, strsOf_map q]
theorem strsOf_of (ns : List Str) : strsOf (ns.map PyData.str) = some ns := by
  induction ns with
  | nil => rfl
  | cons n ns ih => rw [List.map_cons, strsOf, strOf, ih]; rfl
theorem rep_strs {T L : LP} : ∀ {ns : List Str} {vs : List V}, RepAll T L (ns.map PyData.str) vs → vs = ns.map V.str
  | [], vs, r => by simpa [RepAll] using r
  | n :: ns, vs, r => by
    rw [List.map_cons] at r
    simp only [RepAll, Rep] at r
    obtain ⟨v, u, rfl, r1, r2⟩ := r
    rw [rep_strs r2, r1]; rfl
def ixOf (z : Str) : List Str → Option Nat
  | [] => none
  | y :: ys => if y = z then some 0 else (ixOf z ys).map (· + 1)
theorem ixOf_spec {z : Str} : ∀ {ys : List Str} {j : Nat}, ixOf z ys = some j → ys[j]? = some z ∧ ∀ m, m < j → ys[m]? ≠ some z
  | [], j, e => by cases e
  | y :: ys, j, e => by
    unfold ixOf at e
    split at e
    · next h => cases e; exact ⟨by simp [h], fun m hm => absurd hm (Nat.not_lt_zero _)⟩
    · next h =>
      obtain ⟨i, ei, rfl⟩ := Option.map_eq_some_iff.mp e
      obtain ⟨h1, h2⟩ := ixOf_spec ei
      refine ⟨by simpa using h1, fun m hm => ?_⟩
      cases m with
      | zero => simpa using h
      | succ m => simpa using h2 m (by omega)
def gTIx : Hs → Val → Val → Option Val := fun _ x y => match x, y with
  | .d (.tuple ds), .d (.str t) => (strsOf ds).bind fun ys => (ixOf t ys).map fun j => .d (.int (j : Nat))
  | _, _ => none
theorem gTIx_inv {ds : List PyData} {y z : Val} (e : gTIx h (.d (.tuple ds)) y = some z) : ∃ t ys j, y = .d (.str t) ∧ strsOf ds = some ys ∧ ixOf t ys = some j ∧ z = .d (.int (j : Nat)) := by
  cases y with
  | d d =>
    cases d with
    | str t =>
      obtain ⟨ys, es, e⟩ := bind_some (show (strsOf ds).bind _ = some z from e)
      obtain ⟨j, ej, e⟩ := Option.map_eq_some_iff.mp e
      exact ⟨t, ys, j, rfl, es, ej, e.symm⟩
    | _ => cases e
  | _ => cases e
theorem sq_tindex (hK : X.K = F.G.K) {ℓ₂ : Lv} {y : Str} {ds : List PyData} (g : GlobD X.K X.mg y (.tuple ds)) (hi : SimQ X F ℓ₂ e qb) (hg : Gl X y := by rfl) (hd : (y == ("__debug__" : Str)) = false := by decide)
    (hbase : attributeBase (.Name y p) "index" X.env (eval (.Name y p) X.env) = eval (.Name y p) X.env := by rfl)
    (hfew : ((backTo pos (starEach [e] X.env)).all (fun x => !x.1) && (backToKw pos (keywordEach [] X.env)).all (fun x => x.1.isSome) && decide ([e].length + ([] : List Keyword).length + (if ([] : List Keyword).isEmpty then 0 else 1) < 30)) = true := by rfl)
    (hline : (apos.endLine == pos.line) = true := by rfl) (hs : starEach [e] X.env = (false, eval e X.env) :: starEach [] X.env := by rfl) (hplain : (backTo pos (starEach [] X.env)).any (·.1) = false := by rfl) :
    SimQ X F ℓ (.Call (.Attribute (.Name y p) "index" apos) [e] [] pos) (q2 gTIx (qC (.d (.tuple ds))) qb) := by
  obtain ⟨u, v, hm, r, rep, tw⟩ := g
  obtain ⟨a, o, rfl, ho, hc, hn⟩ := tw ds rfl
  have ev : v = .ref a := by
    obtain ⟨a', vs, rfl, _⟩ := rep_tup (rep fun _ => none)
    cases r; rfl
  subst ev
  refine PEimp (pe_bm PySem.F.plainAttrs_tuple PySem.F.slot_tuple_index PySem.F.type_tuple_index mt_tup_index (pe_glob hg hm r hd) (pa_cons hi pa_nil hs) hbase hfew hline hs hplain) fun σ H Q ⟨env, h, A, z, R, e, k⟩ => ?_
  obtain ⟨x, ex, e⟩ := bind_some e
  obtain ⟨y, ey, e⟩ := bind_some e
  cases ex
  obtain ⟨t, ys, j, rfl, es, ej, rfl⟩ := gTIx_inv e
  refine ⟨.inr (.inl ⟨rfl, o, ho, hc, hn⟩), env, h, A, _, R, ey, fun u H2 e2 ru => ?_⟩
  cases rs ru
  obtain ⟨h1, h2⟩ := ixOf_spec ej
  have rr := rep H2
  rw [strsOf_map es] at rr
  obtain ⟨a', us, e3, q, r'⟩ := rep_tup rr
  cases e3
  rw [rep_strs r'] at q
  exact ⟨a, ys, t, j, rfl, rfl, q, h1, h2, k _ H2 e2 vi⟩
/-! ### text * n, tuple * n -/
theorem op_mulS : OpR X (binaryOp .Mult) (fun x y H Q => ∃ s n, x = .str s ∧ y = .int n ∧ MulOk s n ∧ Q (.str (Txt.mul s n)) H) := by
  intro pins s σ H x y v u Q I rx ry ⟨t, n, e1, e2, hok, q⟩
  subst e1; subst e2
  obtain ⟨tk, rfl⟩ := rx
  obtain ⟨tk2, rfl⟩ := ry
  exact PySem.SB.mul hok fun t' k => ⟨.str (Txt.mul t n), H, I.tok _, ⟨_, rfl⟩, q⟩
def gMulX : Hs → Val → Val → Option Val := fun h x y => match x, y with
  | .d (.str s), .d (.int n) => if (decide (0 ≤ n) && decide (n ≤ 10000) && decide (s.length ≤ 1000)) = true then some (.d (.str (Txt.mul s n))) else none
  | .d (.tuple ds), .d (.int k) => if (!ds.isEmpty && decide (2 ≤ k) && decide (k ≤ 1000) && decide (ds.length ≤ 1000)) = true then some (.d (.tuple (List.replicate k.toNat ds).flatten)) else none
  | x, y => gMul h x y
theorem rep_flat {T L : LP} {ds : List PyData} {vs : List V} (r : RepAll T L ds vs) : ∀ n, RepAll T L (List.replicate n ds).flatten (List.replicate n vs).flatten
  | 0 => .nil
  | n + 1 => by
    rw [List.replicate_succ, List.replicate_succ, List.flatten_cons, List.flatten_cons]
    exact r.append (rep_flat r n)
theorem mulOk_of {s : Str} {n : Int} (h0 : 0 ≤ n) (h1 : n ≤ 10000) (h2 : s.length ≤ 1000) : MulOk s n := by
  refine ⟨?_, fun h3 _ h4 => ?_, fun h3 _ => ?_⟩
  · rw [decide_eq_false (by omega), decide_eq_false (by omega)] <;> rfl
  · have : (2 ^ 63 - 1 : Int) / 10000 ≤ (2 ^ 63 - 1) / n := by
      have hn : 0 < n := by omega
      rw [Int.le_ediv_iff_mul_le hn]
      have := Int.ediv_mul_le (2 ^ 63 - 1) (b := 10000) (by decide)
      have h5 : (2 ^ 63 - 1 : Int) / 10000 * n ≤ (2 ^ 63 - 1) / 10000 * 10000 := Int.mul_le_mul_of_nonneg_left h1 (by decide)
      omega
    have h6 : (s.length : Int) ≤ 1000 := by omega
    have h7 : (1000 : Int) ≤ (2 ^ 63 - 1) / 10000 := by decide
    omega
  · unfold Builtin.Str.tooLong
    refine decide_eq_false ?_
    have : s.length * n.toNat ≤ 1000 * 10000 := Nat.mul_le_mul h2 (by omega)
    have hs := sizeLine_eq
    omega
theorem o_mulX (hK : X.K = F.G.K) {ℓ₂ : Lv} : BinS X F ℓ ℓ₂ ℓ (binaryOp .Mult) gMulX := ⟨_, OpR.or op_mulA (OpR.or op_mulS op_repT), by
  intro env h A σ H x y v u z R rx ry e Q k
  unfold gMulX at e
  split at e
  · next s n =>
    split at e
    · next hc =>
      cases e
      simp only [Bool.and_eq_true, decide_eq_true_eq] at hc
      cases rs rx
      cases ri ry
      exact .inr (.inl ⟨s, n, rfl, rfl, mulOk_of hc.1.1 hc.1.2 hc.2, k _ H (Ex.refl H) vs⟩)
    · cases e
  · next ds n =>
    split at e
    · next hc =>
      cases e
      simp only [Bool.and_eq_true, decide_eq_true_eq, Bool.not_eq_true', List.isEmpty_eq_false_iff] at hc
      obtain ⟨a, us, rfl, t, r⟩ := rt rx
      cases ri ry
      refine .inr (.inr ⟨a, n, us, rfl, rfl, by rw [hK]; exact t, fun z => ?_, hc.1.1.2, hc.1.2, by rw [r.len]; exact hc.2, fun p hp => ?_⟩)
      · have := r.len
        rw [z] at this
        exact hc.1.1.1 (List.eq_nil_of_length_eq_zero this.symm)
      · exact k _ _ (Ex.new hp) (vt (.inl (.inl upd_same)) (RDs.ex (Ex.new hp) (rep_flat r _)))
    · cases e
  · unfold gMul gI at e
    split at e
    · next i j _ _ =>
      split at e
      · next hc =>
        cases e
        cases ri rx
        cases ri ry
        refine .inl ⟨i, j, rfl, rfl, ?_, k _ H (Ex.refl H) vi⟩
        unfold cMul at hc
        simp only [Bool.or_eq_true, decide_eq_true_eq] at hc
        rcases hc with (hc | hc) | hc
        · exact CMul.ok (.inl ⟨by omega, by omega⟩)
        · exact CMul.ok (.inr ⟨by omega, by omega⟩)
        · exact CMulW.ok hc
      · cases e
    · cases e⟩
/-! ### tuple(range(a, b)) -/
def gTupR2 : Hs → Val → Val → Option Val := fun _ x y => match x, y with
  | .d (.int m), .d (.int n) => if (decide (-(2 ^ 60) ≤ m) && decide (m ≤ 2 ^ 60) && decide (n - m ≤ 2 ^ 24) && decide (-(2 ^ 60) ≤ n)) = true then some (.d (.tuple ((List.range (n - m).toNat).map fun k : Nat => PyData.int (m + (k : Int))))) else none
  | _, _ => none
theorem sq_tuprng2 (hc : X.calm = true) (hm : X.mg "tuple" = none) (hm2 : X.mg "range" = none) {ℓ₁ ℓ₂ : Lv} (ha : SimQ X F ℓ₁ a qa) (hb : SimQ X F ℓ₂ b qb) (hg : Gl X "tuple" := by rfl) (hg2 : Gl X "range" := by rfl)
    (hs : starEach [a, b] X.env = (false, eval a X.env) :: starEach [b] X.env := by rfl) (hs2 : starEach [b] X.env = (false, eval b X.env) :: starEach [] X.env := by rfl) (hpr : (backTo pos (starEach [b] X.env)).any (·.1) = false := by rfl) (na : starEach [.Call (.Name "range" p2) [a, b] [] pos] X.env = (false, eval (.Call (.Name "range" p2) [a, b] [] pos) X.env) :: starEach [] X.env := by rfl) {pos2 : Pos} :
    SimQ X F ℓ (.Call (.Name "tuple" p) [.Call (.Name "range" p2) [a, b] [] pos] [] pos2) (q2 gTupR2 qa qb) := by
  refine PEimp (pe_tupRg hc hg hm (prg_2 hg2 hm2 ha hb hs hs2 hpr) na) fun σ H Q ⟨env, h, A, z, R, e, k⟩ => ?_
  obtain ⟨x, ex, e⟩ := bind_some e
  obtain ⟨y, ey, e⟩ := bind_some e
  unfold gTupR2 at e
  split at e
  · next m n _ =>
    split at e
    · next hn =>
      cases e
      simp only [Bool.and_eq_true, decide_eq_true_eq] at hn
      refine ⟨env, h, A, _, R, ex, fun v H1 e1 rv => ⟨env, h, A, _, R.ex e1, ey, fun u H2 e2 ru => ?_⟩⟩
      cases ri rv
      cases ri ru
      refine ⟨m, n, rfl, rfl, ⟨by omega, by omega, by omega, by omega, by omega⟩, fun q hq => k _ _ ((e1.trans e2).trans (Ex.new hq)) ?_⟩
      refine vt (.inl (.inl upd_same)) ?_
      have := rep_rng (T := SqT F.G.K (upd H2 q (.tup (rgV m n)))) (L := LPof F (upd H2 q (.tup (rgV m n))) ℓ) m (n - m).toNat
      simpa [rgV] using this
    · cases e
  · cases e
/-! ### range with a step -/
def iRng3 (a b c : Q1) : I1 := fun env h => (a env h).bind fun x => (b env h).bind fun y => (c env h).bind fun z => match x, y, z with
  | .d (.int m), .d (.int n), .d (.int s) => if ((decide (-(2 ^ 60) ≤ m) && decide (m < 2 ^ 60)) && (decide (-(2 ^ 60) ≤ n) && decide (n < 2 ^ 60)) && (decide (0 < s) && decide (s < 2 ^ 30))) = true then some ((List.range ((n - m + s - 1) / s).toNat).map fun k : Nat => PyData.int (m + (k : Int) * s)) else none
  | _, _, _ => none
theorem ylds_rngC {Ok : Hp → Prop} (lo c : Int) (n : Nat) : Ylds F Ok ℓ (Itc lo c n) ((List.range n).map fun k : Nat => PyData.int (lo + (k : Int) * c)) where
  go := fun Hc i _ hi => by simpa [Itc] using hi
  yl := fun Hc i x Hn d _ hd hy => by
    obtain ⟨rfl, rfl⟩ := hy
    rw [List.getElem?_map] at hd
    obtain ⟨k, hk, rfl⟩ := Option.map_eq_some_iff.mp hd
    obtain ⟨hi, rfl⟩ := List.getElem?_eq_some_iff.mp hk
    refine ⟨Ex.refl _, ?_⟩
    rw [List.getElem_range]
    exact mk_int
  st := fun Hc i _ hi => by simpa [Itc] using hi
theorem si_rng3 (hm : X.mg "range" = none) {ℓ₁ ℓ₂ ℓ₃ : Lv} {ok : Fm → Hp → Hp → Prop} {tg : Expr} (ha : SimQ X F ℓ₁ a qa) (hb : SimQ X F ℓ₂ b qb) (hc : SimQ X F ℓ₃ c qc) (hg : Gl X "range" := by rfl)
    (hs : starEach [a, b, c] X.env = (false, eval a X.env) :: starEach [b, c] X.env := by rfl) (hs2 : starEach [b, c] X.env = (false, eval b X.env) :: starEach [c] X.env := by rfl) (hs3 : starEach [c] X.env = (false, eval c X.env) :: starEach [] X.env := by rfl)
    (hpl : (backTo pos (starEach [b, c] X.env)).any (·.1) = false := by rfl) :
    SimI X F ok ℓ tg (.Call (.Name "range" p) [a, b, c] [] pos) (iRng3 qa qb qc) :=
  PIimp (pi_range3 hg hm (pa_cons ha (pa_cons hb (pa_cons hc pa_nil hs3) hs2) hs) hs hpl) fun σ H Q ⟨env, h, A, z, R, e, k⟩ => by
    obtain ⟨x, ex, e⟩ := bind_some e
    obtain ⟨y, ey, e⟩ := bind_some e
    obtain ⟨w, ew, e⟩ := bind_some e
    refine ⟨env, h, A, x, R, ex, fun v H1 e1 rv => ⟨env, h, A, y, R.ex e1, ey, fun u H2 e2 ru => ⟨env, h, A, w, (R.ex e1).ex e2, ew, fun t H3 e3 rt' => ?_⟩⟩⟩
    split at e
    · next m n s _ _ =>
      split at e
      · next hn =>
        cases e
        cases ri rv
        cases ri ru
        cases ri rt'
        simp only [Bool.and_eq_true, decide_eq_true_eq] at hn
        obtain ⟨⟨⟨m1, m2⟩, n1, n2⟩, s1, s2⟩ := hn
        have er : Builtin.Range.rangeSize m n s = (((n - m + s - 1) / s).toNat : Int) := by
          unfold Builtin.Range.rangeSize
          rw [if_pos s1]
          have e2 : n - m + s - 1 = (n - m - 1) + s := by omega
          rw [e2, Int.add_ediv_of_dvd_right (Int.dvd_refl s), Int.ediv_self (by omega)]
          split
          · have : 0 ≤ (n - m - 1) / s := Int.ediv_nonneg (by omega) (by omega)
            omega
          · have : (n - m - 1) / s < 0 := Int.ediv_neg_of_neg_of_pos (by omega) s1
            omega
        have hle : (((n - m + s - 1) / s).toNat : Int) ≤ 2 ^ 62 := by
          have : (n - m + s - 1) / s ≤ n - m + s - 1 ∨ (n - m + s - 1) / s ≤ 0 := by
            by_cases hp : 0 ≤ n - m + s - 1
            · exact .inl (Int.ediv_le_self _ hp)
            · exact .inr (by have := Int.ediv_neg_of_neg_of_pos (show n - m + s - 1 < 0 by omega) s1; omega)
          omega
        refine ⟨m, n, s, _, rfl, ⟨by omega, by omega, ?_, er⟩, k _ H3 ((e1.trans e2).trans e3) (ylds_rngC m s _)⟩
        unfold Builtin.Range.small
        rw [er]
        simp only [Builtin.Range.rangeFitsLong, Bool.and_eq_true, Bool.or_eq_true, decide_eq_true_eq, beq_iff_eq, show s > 0 from s1, if_true]
        omega
      · cases e
    · cases e
/-! ### comprehensions over two sources -/
/-- the inner source's turns -/
def lcIn (vs1 : List Nat) (it1 : I1) (b1 : B1) (t1 : T1) (te : Q1) (env : En) (h : Hs) : Option (List PyData) :=
  (it1 env h).bind fun ys => lcGo (lcStep vs1 b1 t1 te env h) ys
def lcOut (vs : List Nat) (bn : B1) (tt : T1) (vs1 : List Nat) (it1 : I1) (b1 : B1) (t1 : T1) (te : Q1) (env : En) (h : Hs) (d : PyData) : Option (List PyData) :=
  (bn d (wipeE env vs)).bind fun env1 => (tt env1 h).bind fun b => if b = true then lcIn vs1 it1 b1 t1 te env1 h else some []
def catGo (f : PyData → Option (List PyData)) : List PyData → Option (List PyData)
  | [] => some []
  | x :: xs => (f x).bind fun ys => (catGo f xs).bind fun r => some (ys ++ r)
def fLc2 (it : I1) (vs : List Nat) (bn : B1) (tt : T1) (vs1 : List Nat) (it1 : I1) (b1 : B1) (t1 : T1) (te : Q1) : En → Hs → Option (List PyData) := fun env h => (it env h).bind fun xs =>
  (catGo (lcOut vs bn tt vs1 it1 b1 t1 te env h) xs).bind fun ys => if ys.length ≤ sizeLine then some ys else none
theorem catGo_app {f : PyData → Option (List PyData)} : ∀ {xs ys : List PyData} {r : List PyData}, catGo f (xs ++ ys) = some r → ∃ a b, catGo f xs = some a ∧ catGo f ys = some b ∧ r = a ++ b
  | [], ys, r, e => ⟨[], r, rfl, e, rfl⟩
  | x :: xs, ys, r, e => by
    obtain ⟨o, eo, e⟩ := bind_some e
    obtain ⟨q, eq, e⟩ := bind_some e
    obtain ⟨a, b, ea, eb, rfl⟩ := catGo_app eq
    cases e
    exact ⟨o ++ a, b, by rw [catGo, eo, Option.bind_some, ea, Option.bind_some], eb, by rw [List.append_assoc]⟩
theorem catGo_snoc {f : PyData → Option (List PyData)} {x : PyData} {o : List PyData} (eo : f x = some o) : ∀ {l : List PyData} {acc : List PyData}, catGo f l = some acc → catGo f (l ++ [x]) = some (acc ++ o)
  | [], acc, q => by cases q; simp [catGo, eo]
  | y :: l, acc, q => by
    obtain ⟨o1, q1, q⟩ := bind_some q
    obtain ⟨r1, q2, q⟩ := bind_some q
    cases q
    show catGo f (y :: (l ++ [x])) = _
    simp [catGo, q1, catGo_snoc eo q2]
theorem lcGo_snoc {f : PyData → Option (Option PyData)} {x : PyData} {o : Option PyData} (eo : f x = some o) : ∀ {l : List PyData} {acc : List PyData}, lcGo f l = some acc → lcGo f (l ++ [x]) = some (acc ++ o.toList)
  | [], acc, q => by
    cases q
    show lcGo _ [x] = _
    simp only [lcGo, eo, Option.bind_some]
    cases o <;> rfl
  | y :: l, acc, q => by
    obtain ⟨o1, q1, q⟩ := bind_some q
    obtain ⟨r1, q2, q⟩ := bind_some q
    cases q
    show lcGo _ (y :: (l ++ [x])) = _
    simp only [lcGo, q1, Option.bind_some, lcGo_snoc eo q2]
    cases o1 <;> rfl
section
variable {tg iter elt tg1 iter1 : Expr} {ifs ifs1 : List Expr} {ss ss1 : List Nat} {scope : Scope} {own : List (Str × Nat)} {it it1 : I1} {bn b1 : B1} {tt t1 : T1} {te : Q1}
/-- a thing that is nobody's is changed -/
theorem SR.off {D : Addr} (R : SR F env h A σ H) (f : Fresh F env h A D) (kp : ∀ a o, H a = some o → a ≠ D → H' a = some o) (P : Pres H H') : SR F env h A σ H' where
  fr := fun a o q w => kp a o (R.fr a o q w) fun e => by rw [e, f.f0] at q; cases q
  tp := fun a vs q => P.1 _ _ (R.tp a vs q)
  fz := fun a o u q => P.2 _ _ _ (R.fz a o u q)
  dm := fun a o q => by
    obtain ⟨o', e⟩ := R.dm a o q
    exact ⟨o', kp a o' e fun e => by rw [e, f.f0] at q; cases q⟩
  le := R.le
  oo := R.oo
  nw := R.nw
  ow := R.ow
  ln := R.ln
  sl := fun i s q => R.sl_keep P (Nat.le_refl _) (fun _ _ => rfl) q fun m => ⟨rfl, fun u z => kp _ u z (f.fp _ ⟨s, q, m⟩)⟩
  ob := fun n o q => R.ob_keep P (Nat.le_refl _) (fun _ _ => rfl) q (fun u z => kp _ u z (f.fp _ (hlive.live (show hlive h (.o n) from (List.getElem?_eq_some_iff.mp q).1)))) fun j hj => ⟨rfl, fun u z => kp _ u z (f.fp _ hj.live)⟩
  ij := R.ij
/-- a target gives no slot a list of its own -/
def OwnNo (bn : B1) : Prop := ∀ (d : PyData) (env env' : En) (i : Nat) (s : Sl), bn d env = some env' → env'[i]? = some s → isMut s = true → env[i]? = some s
def OwnsNo (bn : Bs) : Prop := ∀ (d : List PyData) (env env' : En) (i : Nat) (s : Sl), bn d env = some env' → env'[i]? = some s → isMut s = true → env[i]? = some s
theorem bok_name {j : Nat} : OwnNo (bName j) := fun d env env' i s e q m => by
  cases e
  rcases get_set q with ⟨_, rfl, _⟩ | ⟨_, q⟩
  · cases m
  · exact q
theorem bsok_nil : OwnsNo bNil := fun d env env' i s e q m => by
  cases d with
  | nil => cases e; exact q
  | cons _ _ => cases e
theorem bsok_cons {b : B1} {r : Bs} (h1 : OwnNo b) (h2 : OwnsNo r) : OwnsNo (bCons b r) := fun d env env' i s e q m => by
  cases d with
  | nil => cases e
  | cons x xs =>
    obtain ⟨env1, e1, e2⟩ := bind_some e
    exact h1 _ _ _ _ _ e1 (h2 _ _ _ _ _ e2 q m) m
theorem bok_tup {n : Nat} {r : Bs} (h2 : OwnsNo r) : OwnNo (bTup n r) := fun d env env' i s e q m => by
  unfold bTup at e
  split at e
  · split at e
    · exact h2 _ _ _ _ _ e q m
    · cases e
  · cases e
theorem wipe_mut : ∀ {vs : List Nat} {env : En} {i : Nat} {s : Sl}, (wipeE env vs)[i]? = some s → isMut s = true → env[i]? = some s
  | [], _, _, _, q, _ => q
  | v :: vs, env, i, s, q, m => by
    rcases get_set (show ((wipeE env vs).set v .un)[i]? = some s from q) with ⟨_, rfl, _⟩ | ⟨_, q⟩
    · cases m
    · exact wipe_mut q m
theorem lc2_read {K : PySem.W.Frag} (hK : K = F.G.K) {σ : L2.St} {H : Hp} {Q : VK} {vs vs1 : List Nat} (hv : ∀ i, i ∈ ss → i ∈ vs) (hv1 : ∀ i, i ∈ ss1 → i ∈ vs1) (hbo : OwnNo bn) (hbo1 : OwnNo b1) (hq : tF F (fLc2 it vs bn tt vs1 it1 b1 t1 te) σ H Q) :
    tLc2 (tI F OkP .fs it) (tGt F ss bn) (tT F tt) (iList K (tF F it1)) (tGt F ss1 b1) (tT F t1) (tQ F .st te) vs vs1 σ H Q := by
  obtain ⟨env, h, A, ys, R, e, k⟩ := hq
  obtain ⟨xs, ex, e⟩ := bind_some e
  obtain ⟨zs, ez, e⟩ := bind_some e
  split at e
  · next hl =>
    cases e
    refine ⟨env, h, A, xs, R, ex, fun J H1 e1 Y D hD => ?_⟩
    refine ⟨fun i m Hc => m = xs.length - i ∧ i ≤ xs.length ∧ Ex H1 Hc ∧ ∃ acc us, catGo (lcOut vs bn tt vs1 it1 b1 t1 te env h) (xs.take i) = some acc ∧ Hc D = some (.lst us) ∧ RDs F .st Hc acc us,
      ⟨xs.length, by simp, Nat.zero_le _, Ex.new hD, [], [], rfl, upd_same, .nil⟩, ?_⟩
    rintro i m Hc ⟨rfl, hi, z, acc, us, ea, hu, ru⟩
    by_cases hlt : i < xs.length
    · refine .inr ⟨Y.go Hc i z hlt, fun H' => i + 1 ≤ xs.length ∧ Ex H1 H' ∧ ∃ acc us, catGo (lcOut vs bn tt vs1 it1 b1 t1 te env h) (xs.take (i + 1)) = some acc ∧ H' D = some (.lst us) ∧ RDs F .st H' acc us,
        fun H' ⟨h1, h2, h3⟩ => ⟨xs.length - (i + 1), by omega, rfl, h1, h2, h3⟩, fun x Hn hy => ?_⟩
      obtain ⟨zn, rx⟩ := Y.yl Hc i x Hn _ z (List.getElem?_eq_getElem hlt) hy
      have esp : xs = xs.take i ++ xs[i] :: xs.drop (i + 1) := by rw [← List.drop_eq_getElem_cons hlt, List.take_append_drop]
      have es : catGo (lcOut vs bn tt vs1 it1 b1 t1 te env h) (xs.take i ++ xs[i] :: xs.drop (i + 1)) = some ys := by rw [← esp]; exact ez
      obtain ⟨a', b', ha', hb', hab⟩ := catGo_app es
      rw [ea] at ha'; cases ha'
      obtain ⟨o, eo, hb'⟩ := bind_some hb'
      obtain ⟨r2, q2, q3⟩ := bind_some hb'
      cases q3
      have et : catGo (lcOut vs bn tt vs1 it1 b1 t1 te env h) (xs.take (i + 1)) = some (acc ++ o) := by
        rw [List.take_add_one, List.getElem?_eq_getElem hlt]
        exact catGo_snoc eo ea
      obtain ⟨env1, eb, eo⟩ := bind_some eo
      obtain ⟨c, ec, eo⟩ := bind_some eo
      have S0 : SR F (wipeE env vs) h A (L2.wipe σ vs) Hn := ((R.ex e1).ex (z.trans zn)).wipe vs
      refine ⟨_, h, A, xs[i], env1, S0, rx, eb, fun σ2 H2 x2 R2 l2 s2 => ⟨?_, env1, h, A, c, R2, ec, fun H3 x3 => ?_⟩⟩
      · rw [wipe_eq (σ := L2.wipe σ vs) l2 s2 hv]
        exact wipe_eq (ss := vs) (wipe_len _ _) (fun i hi => wipe_not hi) fun _ z => z
      · have zt : Ex Hc H3 := (zn.trans x2).trans x3
        cases c with
        | false =>
          cases eo
          exact ⟨hlt, z.trans zt, acc, us, by rw [et]; simp, zt D _ hu, RDs.ex zt ru⟩
        | true =>
          rw [if_pos rfl] at eo
          obtain ⟨ws, ew, eo⟩ := bind_some eo
          have S3 := R2.ex x3
          refine ⟨env1, h, A, ws, S3, ew, fun p wv H4 hp x4 hpv rp => ⟨p, rfl, ⟨wv, by rw [hK]; exact .inl (.inl hpv)⟩, ?_⟩⟩
          have hpD : p ≠ D := fun q => by rw [q, zt D _ hu] at hp; cases hp
          have z4 : Ex Hc H4 := zt.trans x4
          have Y1 : Ylds F (fun Hd => Hd p = some (.lst wv) ∧ Pres H4 Hd) .fs (Itl F.G.K p) ws := ylds_list rp.len fun Hd o => ⟨.inl (.inl o.1), RDs.of_st (RepAll.mono o.2.sqT o.2.sL _ _ rp)⟩
          -- what stands but for D
          have f0 : Fresh F env h A D := (R.ex e1).fresh hD
          have lv1 : ∀ q, live env1 h q → live env h q := fun q hq => by
            cases q with
            | s i =>
              obtain ⟨s, e, m⟩ := hq
              exact ⟨s, wipe_mut (hbo _ _ _ _ _ eb e m) m, m⟩
            | o n => exact hq
            | f n j => exact hq
          have fD : Fresh F env1 h A D := ⟨f0.f0, fun q hq => f0.fp q (lv1 q hq)⟩
          have S4 : SR F env1 h A σ2 H4 := S3.ex x4
          refine ⟨fun j m Hd => m = ws.length - j ∧ j ≤ ws.length ∧ (∀ a o, H4 a = some o → a ≠ D → Hd a = some o) ∧ Pres H4 Hd ∧ ∃ bcc ts, lcGo (lcStep vs1 b1 t1 te env1 h) (ws.take j) = some bcc ∧ Hd D = some (.lst (us ++ ts)) ∧ RDs F .st Hd bcc ts,
            ⟨ws.length, by simp, Nat.zero_le _, fun a o q _ => q, Pres.refl _, [], [], rfl, by rw [List.append_nil]; exact z4 D _ hu, .nil⟩, ?_⟩
          rintro j m Hd ⟨rfl, hj, kd, Pd, bcc, ts, eb1, hD1, rts⟩
          have okd : Hd p = some (.lst wv) ∧ Pres H4 Hd := ⟨kd _ _ hpv hpD, Pd⟩
          by_cases hjl : j < ws.length
          · refine .inr ⟨by rw [hK]; exact Y1.go Hd j okd hjl, fun H' => j + 1 ≤ ws.length ∧ (∀ a o, H4 a = some o → a ≠ D → H' a = some o) ∧ Pres H4 H' ∧ ∃ bcc ts, lcGo (lcStep vs1 b1 t1 te env1 h) (ws.take (j + 1)) = some bcc ∧ H' D = some (.lst (us ++ ts)) ∧ RDs F .st H' bcc ts,
              fun H' ⟨h1, h2, h3, h4⟩ => ⟨ws.length - (j + 1), by omega, rfl, h1, h2, h3, h4⟩, fun x Hn hy => ?_⟩
            rw [hK] at hy
            obtain ⟨zn', rx'⟩ := Y1.yl Hd j x Hn _ okd (List.getElem?_eq_getElem hjl) hy
            obtain ⟨rfl, _⟩ := hy
            have esp1 : ws = ws.take j ++ ws[j] :: ws.drop (j + 1) := by rw [← List.drop_eq_getElem_cons hjl, List.take_append_drop]
            have es1 : lcGo (lcStep vs1 b1 t1 te env1 h) (ws.take j ++ ws[j] :: ws.drop (j + 1)) = some o := by rw [← esp1]; exact eo
            obtain ⟨a1, b2, ha1, hb2, hab1⟩ := lcGo_app es1
            rw [eb1] at ha1; cases ha1
            obtain ⟨o1, eo1, hb2⟩ := bind_some hb2
            obtain ⟨r3, q4, q5⟩ := bind_some hb2
            cases q5
            have et1 : lcGo (lcStep vs1 b1 t1 te env1 h) (ws.take (j + 1)) = some (bcc ++ o1.toList) := by
              rw [List.take_add_one, List.getElem?_eq_getElem hjl]
              exact lcGo_snoc eo1 eb1
            obtain ⟨env2, eb2, eo1⟩ := bind_some eo1
            obtain ⟨c2, ec2, eo1⟩ := bind_some eo1
            have Sd : SR F env1 h A σ2 Hn := S4.off fD kd Pd
            refine ⟨_, h, A, ws[j], env2, Sd.wipe vs1, rx', eb2, fun σ3 H5 x5 R5 l5 s5 => ⟨?_, env2, h, A, c2, R5, ec2, fun H6 x6 => ?_⟩⟩
            · rw [wipe_eq (σ := L2.wipe σ2 vs1) l5 s5 hv1]
              exact wipe_eq (ss := vs1) (wipe_len _ _) (fun i hi => wipe_not hi) fun _ z => z
            · have zu : Ex Hn H6 := x5.trans x6
              cases c2 with
              | false =>
                cases eo1
                exact ⟨hjl, fun a o q n => zu _ _ (kd a o q n), Pd.trans (Ex.pres zu), bcc, ts, by rw [et1]; simp, zu D _ hD1, RDs.ex zu rts⟩
              | true =>
                obtain ⟨y, ey, eo1⟩ := bind_some eo1
                obtain ⟨y', ey', eo1⟩ := bind_some eo1
                cases eo1
                refine ⟨env2, h, A, y, R5.ex x6, ey, fun v H7 x7 rv => ⟨us ++ ts, (zu.trans x7) D _ hD1, ?_, hjl, fun a o q n => ?_, ?_, _, ts ++ [v], et1, by rw [upd_same, List.append_assoc], ?_⟩⟩
                · have l1 : acc.length = us.length := ru.len.symm
                  have l2 : bcc.length = ts.length := rts.len.symm
                  have : (acc ++ (bcc ++ ([y'] ++ r3) ++ r2)).length ≤ sizeLine := by
                    have e7 : o = bcc ++ ([y'] ++ r3) := by rw [hab1]; rfl
                    rw [← e7]
                    rw [hab] at hl
                    exact hl
                  simp only [List.length_append, List.length_cons, List.length_nil] at this ⊢
                  omega
                · rw [upd_ne n]
                  exact (zu.trans x7) _ _ (kd a o q n)
                · exact (Pd.trans (Ex.pres (zu.trans x7))).trans (Pres.upd fun u eu => by
                    rw [(zu.trans x7) D _ hD1] at eu; cases eu
                    exact ⟨fun _ q => (by cases q), fun _ _ q => (by cases q)⟩)
                · have P : Pres H7 (upd H7 D (.lst (us ++ ts ++ [v]))) := Pres.upd fun u eu => by
                    rw [(zu.trans x7) D _ hD1] at eu; cases eu
                    exact ⟨fun _ q => (by cases q), fun _ _ q => (by cases q)⟩
                  refine RepAll.append (RepAll.mono P.sqT P.sL _ _ (RDs.ex (zu.trans x7) rts)) (.cons ?_ .nil)
                  cases y with
                  | d yy => cases ey'; exact Rep.mono P.sqT P.sL _ _ rv
                  | ref n => cases ey'
                  | fn n => cases ey'
          · have e0 : j = ws.length := by omega
            subst e0
            rw [List.take_length, eo] at eb1
            cases eb1
            refine .inl ⟨by rw [hK]; exact Y1.st Hd _ okd (Nat.le_refl _), hlt, fun a o q => ?_, _, us ++ ts, et, hD1, RepAll.append (RepAll.mono ((Ex.pres z4).trans Pd).sqT ((Ex.pres z4).trans Pd).sL _ _ ru) rts⟩
            exact kd a o ((z.trans z4) a o q) fun e => by rw [e, hD] at q; cases q
    · have e0 : i = xs.length := by omega
      subst e0
      rw [List.take_length, ez] at ea
      cases ea
      exact .inl ⟨Y.st Hc _ z (Nat.le_refl _), k D us Hc (fresh_back e1 hD) (e1.trans z) hu ru⟩
  · cases e
theorem sf_lc2 (hK : X.K = F.G.K) (hc : X.calm = true) (hN : X.N.Nodup) {vs1 : List Nat} (hi : SimI X F OkP .fs tg iter it) (ok : blkC X.N X.env.scope scope own = true) (hv1 : (vs1.all fun i => (own.map (·.2)).contains i) = true) (hv : (ss.all fun i => (own.map (·.2)).contains i) = true) (hv2 : (ss1.all fun i => vs1.contains i) = true) (hbo : OwnNo bn) (hbo1 : OwnNo b1)
    (hg : ∀ (s : Shared) (H : Hp) (C : Addr) (cl : List (Str × Addr)) (fp : List Addr), PG (X.blk s H scope (compEnvC scope cl C X.env) fp) tg (tGt F ss bn)) (ht : ∀ (s : Shared) (H : Hp) (C : Addr) (cl : List (Str × Addr)) (fp : List Addr), PTs (X.blk s H scope (compEnvC scope cl C X.env) fp) ifs (tT F tt))
    (hi1 : ∀ (s : Shared) (H : Hp) (C : Addr) (cl : List (Str × Addr)) (fp : List Addr), SimF (X.blk s H scope (compEnvC scope cl C X.env) fp) F iter1 it1)
    (hg1 : ∀ (s : Shared) (H : Hp) (C : Addr) (cl : List (Str × Addr)) (fp : List Addr), PG (X.blk s H scope (compEnvC scope cl C X.env) fp) tg1 (tGt F ss1 b1)) (ht1 : ∀ (s : Shared) (H : Hp) (C : Addr) (cl : List (Str × Addr)) (fp : List Addr), PTs (X.blk s H scope (compEnvC scope cl C X.env) fp) ifs1 (tT F t1))
    (he : ∀ (s : Shared) (H : Hp) (C : Addr) (cl : List (Str × Addr)) (fp : List Addr), SimQ (X.blk s H scope (compEnvC scope cl C X.env) fp) F .st elt te) (hs : ∀ x, foldedSetIterable iter X.env x = pure x := by intro _; rfl) (hs1 : ∀ env x, foldedSetIterable iter1 env x = pure x := by intro _ _; rfl) :
    SimF X F (.ListComp elt [⟨tg, iter, ifs, 0⟩, ⟨tg1, iter1, ifs1, 0⟩] scope pos) (fLc2 it (own.map (·.2)) bn tt vs1 it1 b1 t1 te) :=
  PEimp (pe_lc2 hc hN hi (blkOk_by ok) (fun i hi => by simpa using List.all_eq_true.mp hv1 i hi) hg ht (fun s H C cl fp => pi_list (hi1 s H C cl fp)) hg1 ht1 he hs hs1) fun _ _ _ => lc2_read hK (fun i hi => by simpa using List.all_eq_true.mp hv i hi) (fun i hi => by simpa using List.all_eq_true.mp hv2 i hi) hbo hbo1
end
end
/-! ### calls without arguments -/
section
variable {F : Fm} {X : Cx} {k : Nat} {f : Addr} {fd : FuncData} {x : Str} {p pos : Pos} {g : List Val → Hs → Option Val} {gf : List Val → Hs → Option (List PyData)}
theorem sq_call0 {G : Glo} (U : FnOk X.prog X.w X.K X.mg X.base CX0 k f fd [] (spQ G 0 g)) (hG : F.G = G) (hr : Room k X.A) (hm : X.mg x = some (.ref f)) (hk : PySem.W.keepIn X.K (.ref f) = true) (hb : Binds X.K fd [] [])
    (hg : Gl X x := by rfl) (hdb : (x == ("__debug__" : Str)) = false := by decide) : SimQ X F .mo (.Call (.Name x p) [] [] pos) (qCall (arity 0 g) aNil) :=
  PEimp (pe_call0 (U.imp fun _ _ _ _ => spQ_ar) hr hg hm hk hb .nil pass0 hdb) fun σ H Q ⟨env, h, A, z, R, e, kk⟩ => by
    obtain ⟨xs, ex, e⟩ := bind_some e
    cases ex
    exact ⟨F, env, h, A, σ, [], z, hG, R, .nil, rfl, e, kk⟩
end
/-! ### a comprehension given to a name -/
section
variable {F : Fm} {X : Cx} {tg iter elt tg1 iter1 : Expr} {ifs ifs1 : List Expr} {pos spos py : Pos} {ss ss1 : List Nat} {scope : Scope} {own : List (Str × Nat)} {it it1 : I1} {bn b1 : B1} {tt t1 : T1} {te : Q1} {i : Nat} {y : Str}
theorem ss_setLc (hN : X.N.Nodup) (hy : X.N[i]? = some y) (hyl : X.env.scope.names.lookup y = some .local) (hc : X.calm = true) (hi : SimI X F OkP .fs tg iter it) (ok : blkC X.N X.env.scope scope own = true) (hv : (ss.all fun i => (own.map (·.2)).contains i) = true)
    (hg : ∀ (s : Shared) (H : Hp) (C : Addr) (cl : List (Str × Addr)) (fp : List Addr), PG (X.blk s H scope (compEnvC scope cl C X.env) fp) tg (tGt F ss bn)) (ht : ∀ (s : Shared) (H : Hp) (C : Addr) (cl : List (Str × Addr)) (fp : List Addr), PTs (X.blk s H scope (compEnvC scope cl C X.env) fp) ifs (tT F tt))
    (he : ∀ (s : Shared) (H : Hp) (C : Addr) (cl : List (Str × Addr)) (fp : List Addr), SimQ (X.blk s H scope (compEnvC scope cl C X.env) fp) F .st elt te) (hsw : swapsWith (.ListComp elt [⟨tg, iter, ifs, 0⟩] scope pos) (some (.Name y py)) spos.line X.env = pure true := by rfl) (hs : ∀ x, foldedSetIterable iter X.env x = pure x := by intro _; rfl) :
    SimS X F (.Assign [.Name y py] (.ListComp elt [⟨tg, iter, ifs, 0⟩] scope pos) spos) (mSetO i (fLc it (own.map (·.2)) bn tt te)) :=
  PSimp (ps_setLc hc hN hy hyl hsw hi (blkOk_by ok) hg ht he hs) fun D σ H ⟨env, h, A, r, env', h', R, e, k⟩ => by
    obtain ⟨x, ex, e⟩ := bind_some e
    cases e
    exact lc_read (fun i hi => by simpa using List.all_eq_true.mp hv i hi) ⟨env, h, A, x, R, ex, fun p us H1 hp e1 hv rs => k _ H1 _ (R.own hp e1 hv rs) (Ex.pres e1)⟩
theorem ss_setLc2 (hN : X.N.Nodup) (hy : X.N[i]? = some y) (hyl : X.env.scope.names.lookup y = some .local) (hK : X.K = F.G.K) (hc : X.calm = true) {vs1 : List Nat} (hi : SimI X F OkP .fs tg iter it) (ok : blkC X.N X.env.scope scope own = true) (hv1 : (vs1.all fun i => (own.map (·.2)).contains i) = true) (hv : (ss.all fun i => (own.map (·.2)).contains i) = true) (hv2 : (ss1.all fun i => vs1.contains i) = true) (hbo : OwnNo bn) (hbo1 : OwnNo b1)
    (hg : ∀ (s : Shared) (H : Hp) (C : Addr) (cl : List (Str × Addr)) (fp : List Addr), PG (X.blk s H scope (compEnvC scope cl C X.env) fp) tg (tGt F ss bn)) (ht : ∀ (s : Shared) (H : Hp) (C : Addr) (cl : List (Str × Addr)) (fp : List Addr), PTs (X.blk s H scope (compEnvC scope cl C X.env) fp) ifs (tT F tt))
    (hi1 : ∀ (s : Shared) (H : Hp) (C : Addr) (cl : List (Str × Addr)) (fp : List Addr), SimF (X.blk s H scope (compEnvC scope cl C X.env) fp) F iter1 it1)
    (hg1 : ∀ (s : Shared) (H : Hp) (C : Addr) (cl : List (Str × Addr)) (fp : List Addr), PG (X.blk s H scope (compEnvC scope cl C X.env) fp) tg1 (tGt F ss1 b1)) (ht1 : ∀ (s : Shared) (H : Hp) (C : Addr) (cl : List (Str × Addr)) (fp : List Addr), PTs (X.blk s H scope (compEnvC scope cl C X.env) fp) ifs1 (tT F t1))
    (he : ∀ (s : Shared) (H : Hp) (C : Addr) (cl : List (Str × Addr)) (fp : List Addr), SimQ (X.blk s H scope (compEnvC scope cl C X.env) fp) F .st elt te) (hsw : swapsWith (.ListComp elt [⟨tg, iter, ifs, 0⟩, ⟨tg1, iter1, ifs1, 0⟩] scope pos) (some (.Name y py)) spos.line X.env = pure true := by rfl) (hs : ∀ x, foldedSetIterable iter X.env x = pure x := by intro _; rfl) (hs1 : ∀ env x, foldedSetIterable iter1 env x = pure x := by intro _ _; rfl) :
    SimS X F (.Assign [.Name y py] (.ListComp elt [⟨tg, iter, ifs, 0⟩, ⟨tg1, iter1, ifs1, 0⟩] scope pos) spos) (mSetO i (fLc2 it (own.map (·.2)) bn tt vs1 it1 b1 t1 te)) :=
  PSimp (ps_setLc2 hc hN hy hyl hsw hi (blkOk_by ok) (fun i hi => by simpa using List.all_eq_true.mp hv1 i hi) hg ht (fun s H C cl fp => pi_list (hi1 s H C cl fp)) hg1 ht1 he hs hs1) fun D σ H ⟨env, h, A, r, env', h', R, e, k⟩ => by
    obtain ⟨x, ex, e⟩ := bind_some e
    cases e
    exact lc2_read hK (fun i hi => by simpa using List.all_eq_true.mp hv i hi) (fun i hi => by simpa using List.all_eq_true.mp hv2 i hi) hbo hbo1 ⟨env, h, A, x, R, ex, fun p us H1 hp e1 hv rs => k _ H1 _ (R.own hp e1 hv rs) (Ex.pres e1)⟩
theorem ss_setLcE {it : IE} {te : E1} (hN : X.N.Nodup) (hy : X.N[i]? = some y) (hyl : X.env.scope.names.lookup y = some .local) (hw : F.rw = true) (hc : X.calm = true) (hi : SimIE X F OkS .fs tg iter it) (ok : blkC X.N X.env.scope scope own = true) (hv : (ss.all fun i => (own.map (·.2)).contains i) = true)
    (hg : ∀ (s : Shared) (H : Hp) (C : Addr) (cl : List (Str × Addr)) (fp : List Addr), PG (X.blk s H scope (compEnvC scope cl C X.env) fp) tg (tGt F ss bn)) (ht : ∀ (s : Shared) (H : Hp) (C : Addr) (cl : List (Str × Addr)) (fp : List Addr), PTs (X.blk s H scope (compEnvC scope cl C X.env) fp) ifs (tT F tt))
    (he : ∀ (s : Shared) (H : Hp) (C : Addr) (cl : List (Str × Addr)) (fp : List Addr), SimE (X.blk s H scope (compEnvC scope cl C X.env) fp) F .st elt te) (hsw : swapsWith (.ListComp elt [⟨tg, iter, ifs, 0⟩] scope pos) (some (.Name y py)) spos.line X.env = pure true := by rfl) (hs : ∀ x, foldedSetIterable iter X.env x = pure x := by intro _; rfl) :
    SimS X F (.Assign [.Name y py] (.ListComp elt [⟨tg, iter, ifs, 0⟩] scope pos) spos) (mSetOE i (efLc it (own.map (·.2)) bn tt te)) :=
  PSimp (ps_setLc hc hN hy hyl hsw hi (blkOk_by ok) hg ht he hs) fun D σ H ⟨env, h, A, r, env', h', R, e, k⟩ => by
    obtain ⟨⟨x, h1⟩, ex, e⟩ := bind_some e
    cases e
    exact lcE_read hw (fun i hi => by simpa using List.all_eq_true.mp hv i hi) ⟨env, h, A, x, _, R, ex, fun p us H1 A1 R1 s hp hv fr rs => k _ H1 _ (R1.setNew fr rfl ⟨rfl, us, hv, rs⟩) s.pres⟩
end
/-! ### a new list as an object of its own -/
def eNewF (f : I1) : E1 := fun env h => (f env h).bind fun xs => some (.ref h.length, h ++ [.lst xs])
section
variable {F : Fm} {X : Cx} {e : Expr} {f : I1} {ℓ : Lv}
theorem se_newF (hf : SimF X F e f) : SimE X F ℓ e (eNewF f) := PEimp hf fun σ H Q ⟨env, h, A, z, h', R, e, k⟩ => by
  obtain ⟨xs, ex, e⟩ := bind_some e
  cases e
  refine ⟨env, h, A, xs, R, ex, fun p vs H1 hp x1 hv rs => ?_⟩
  have f0 : Fresh F env h A p := ⟨(R.fresh hp).f0, (R.fresh hp).fp⟩
  have R1 := R.ex x1
  have ho : ObOf F.G (h.length + 1) (As.put A (.o h.length) p) H1 h.length (.lst xs) := ⟨vs, by rw [As.put_same]; exact hv, rs⟩
  have R3 := R1.alloc (o := .lst xs) f0 (fun j ⟨c, fs, s, e, _⟩ => by simp at e) ho
  have s3 : Step h A H (h ++ [.lst xs]) (As.put A (.o h.length) p) H1 := by
    refine ⟨fun a o q _ => x1 a o q, fun a us q => x1 a _ q, fun a o u q => x1 a _ q, fun a o q => ⟨o, x1 a o q⟩, by simp, fun m hm => As.put_ne (by intro z; cases z; exact absurd hm (Nat.lt_irrefl _)), fun q hq => ?_⟩
    by_cases e : q = .o h.length
    · exact .inr (by rw [e, As.put_same]; exact hp)
    · rw [As.put_ne e]
      refine .inl ⟨q, ?_, rfl⟩
      cases q with
      | s i => exact hq
      | o n =>
        have hq : n < (h ++ [Ob.lst xs]).length := hq
        simp at hq
        have ne : n ≠ h.length := fun z => e (by rw [z])
        show n < h.length
        omega
      | f n j =>
        obtain ⟨c, fs, s, e1, e2, m⟩ := hq
        by_cases hn : n < h.length
        · rw [List.getElem?_append_left hn] at e1; exact ⟨c, fs, s, e1, e2, m⟩
        · rw [List.getElem?_append_right (by omega)] at e1
          have e0 : n - h.length = 0 := by
            have := (List.getElem?_eq_some_iff.mp e1).1
            simp at this; omega
          rw [e0] at e1
          simp at e1
  exact k _ _ _ R3 s3 ⟨by simp, by rw [As.put_same]⟩
end
/-! ### a text's signs walked -/
/-- the signs of a text, each a text -/
def signs (s : Str) : List PyData := s.cps.toList.map fun c => PyData.str ⟨#[c]⟩
def iSeqX (a : Q1) : I1 := fun env h => (a env h).bind fun x => match x with
  | .d (.str s) => some (signs s)
  | x => (seqOf x).bind fun xs => if nlAll xs = true then some xs else none
def iSeqT (a : Q1) : I1 := fun env h => (a env h).bind fun x => match x with
  | .d (.str s) => some (signs s)
  | x => seqOf x
section
variable {F : Fm} {X : Cx} {tg a : Expr} {ℓ : Lv} {qa : Q1} {ok : Fm → Hp → Hp → Prop}
theorem ylds_str {Ok : Hp → Prop} (s : Str) : Ylds F Ok ℓ (Its s) (signs s) where
  go := fun Hc i _ hi => by simpa [signs, Its] using hi
  yl := fun Hc i x Hn d _ hd hy => by
    obtain ⟨rfl, c, hc, rfl⟩ := hy
    unfold signs at hd
    rw [List.getElem?_map, Array.getElem?_toList, hc] at hd
    cases hd
    exact ⟨Ex.refl _, mk_str⟩
  st := fun Hc i _ hi => by simpa [signs, Its] using hi
theorem si_seqX (hK : X.K = F.G.K) (ha : SimQ X F .mo a qa) : SimI X F OkP ℓ tg a (iSeqX qa) := PIimp (PIor (pi_str ha) (si_seqN (ℓ := ℓ) hK ha)) fun σ H Q ⟨env, h, A, z, R, e, k⟩ => by
  obtain ⟨x, ex, e⟩ := bind_some e
  split at e
  · next s =>
    cases e
    refine .inl ⟨env, h, A, _, R, ex, fun v H1 e1 rv => ?_⟩
    cases rs rv
    exact ⟨s, rfl, k _ H1 e1 (ylds_str s)⟩
  · refine .inr ⟨env, h, A, z, R, ?_, k⟩
    unfold iSeqN
    rw [ex]
    exact e
theorem si_seqT (hK : X.K = F.G.K) (ha : SimQ X F .fs a qa) : SimI X F OkS .fs tg a (iSeqT qa) := PIimp (PIor (pi_str ha) (si_seqS hK ha)) fun σ H Q ⟨env, h, A, z, R, e, k⟩ => by
  obtain ⟨x, ex, e⟩ := bind_some e
  split at e
  · next s =>
    cases e
    refine .inl ⟨env, h, A, _, R, ex, fun v H1 e1 rv => ?_⟩
    cases rs rv
    exact ⟨s, rfl, k _ H1 e1 (ylds_str s)⟩
  · refine .inr ⟨env, h, A, z, R, ?_, k⟩
    unfold iSeq
    rw [ex]
    exact e
end
/-! ### one of two new lists -/
def fIf (t : T1) (a b : I1) : I1 := fun env h => (t env h).bind fun c => if c = true then a env h else b env h
section
variable {F : Fm} {X : Cx} {c a b : Expr} {pos : Pos} {t : T1} {fa fb : I1}
theorem sf_if (hc : SimT X F c t) (ha : SimF X F a fa) (hb : SimF X F b fb) : SimF X F (.IfExp c a b pos) (fIf t fa fb) := PEimp (pe_ifExp hc ha hb) fun σ H Q ⟨env, h, A, z, R, e, k⟩ => by
  obtain ⟨d, ed, e⟩ := bind_some e
  refine ⟨env, h, A, d, R, ed, fun H1 e1 => ?_⟩
  cases d with
  | true => exact ⟨env, h, A, z, R.ex e1, e, fun p vs H2 hp e2 hv rs => k p vs H2 (fresh_back e1 hp) (e1.trans e2) hv rs⟩
  | false => exact ⟨env, h, A, z, R.ex e1, e, fun p vs H2 hp e2 hv rs => k p vs H2 (fresh_back e1 hp) (e1.trans e2) hv rs⟩
end
end Sm

set_option Elab.async false
set_option linter.all false
set_option maxRecDepth 100000
set_option maxHeartbeats 4000000
/-! what is unfolded when a semantics is read -/
namespace Sm
open PySem L2 Evl
theorem nlAll_ints (ns : List Int) : nlAll (ns.map PyData.int) = true := by
  induction ns with
  | nil => rfl
  | cons n ns ih => simp [nlAll, nl, ih]
theorem nlAll_app {xs ys : List PyData} : nlAll (xs ++ ys) = (nlAll xs && nlAll ys) := by
  induction xs with
  | nil => simp [nlAll]
  | cons x xs ih => simp [nlAll, ih, Bool.and_assoc]
@[simp] theorem atI0 {α : Type} (x : α) (xs : List α) : atI (x :: xs) 0 = some x := by simp [atI, ixN]
@[simp] theorem atI1 {α : Type} (x y : α) (xs : List α) : atI (x :: y :: xs) 1 = some y := by
  have : (1 : Int) < (xs.length : Int) + 1 + 1 := by omega
  simp [atI, ixN, this]
@[simp] theorem atI2 {α : Type} (x y z : α) (xs : List α) : atI (x :: y :: z :: xs) 2 = some z := by
  have : (2 : Int) < (xs.length : Int) + 1 + 1 + 1 := by omega
  simp [atI, ixN, this]
@[simp] theorem atI3 {α : Type} (x y z u : α) (xs : List α) : atI (x :: y :: z :: u :: xs) 3 = some u := by
  have : (3 : Int) < (xs.length : Int) + 1 + 1 + 1 + 1 := by omega
  simp [atI, ixN, this]
theorem atI_map {α β : Type} {f : α → β} {xs : List α} {i : Int} {x : α} (e : atI xs i = some x) : atI (xs.map f) i = some (f x) := by
  unfold atI at e ⊢
  rw [List.length_map]
  cases hj : ixN xs.length i with
  | none => rw [hj] at e; cases e
  | some j =>
    rw [hj] at e
    have e : xs[j]? = some x := e
    show (xs.map f)[j]? = _
    rw [List.getElem?_map, e]
    rfl
theorem atN {α : Type} {xs : List α} {k : Nat} {x : α} (e : xs[k]? = some x) : atI xs (k : Int) = some x := by
  have hk := (List.getElem?_eq_some_iff.mp e).1
  have : (xs[k]'hk) = x := by
    rw [List.getElem?_eq_getElem hk] at e
    exact Option.some.inj e
  unfold atI ixN
  simp [hk, this]
theorem atI_last {α : Type} {xs : List α} {x : α} : atI (xs ++ [x]) (-1) = some x := by
  have h1 : (1 : Int) ≤ (xs.length : Int) + 1 := by omega
  have h2 : (-1 + ((xs.length : Int) + 1)).toNat = xs.length := by omega
  unfold atI ixN
  simp [h1, h2]
theorem take_min {α : Type} (n : Nat) (xs : List α) : xs.take (min n xs.length) = xs.take n := by
  by_cases h : n ≤ xs.length
  · rw [Nat.min_eq_left h]
  · rw [Nat.min_eq_right (by omega), List.take_of_length_le (Nat.le_refl _), List.take_of_length_le (by omega)]
/-- a comprehension that takes each item -/
theorem lcGo_map {α : Type} {step : PyData → Option (Option PyData)} {f : α → PyData} {g : α → PyData} : ∀ {xs : List α}, (∀ x ∈ xs, step (f x) = some (some (g x))) → lcGo step (xs.map f) = some (xs.map g)
  | [], _ => rfl
  | x :: xs, h => by
    rw [List.map_cons, lcGo, h x (by simp), lcGo_map fun y hy => h y (by simp [hy])]
    rfl
/-- and one that takes some -/
theorem lcGo_filter {α : Type} {step : PyData → Option (Option PyData)} {f : α → PyData} {p : α → Bool} {g : α → PyData} : ∀ {xs : List α}, (∀ x ∈ xs, step (f x) = some (if p x = true then some (g x) else none)) → lcGo step (xs.map f) = some ((xs.filter p).map g)
  | [], _ => rfl
  | x :: xs, h => by
    rw [List.map_cons, lcGo, h x (by simp), lcGo_filter fun y hy => h y (by simp [hy])]
    cases hp : p x <;> simp [hp]
theorem bools_map {α : Type} (p : α → Bool) : ∀ xs : List α, boolsOf (xs.map fun x => PyData.bool (p x)) = some (xs.map p)
  | [] => rfl
  | x :: xs => by rw [List.map_cons, boolsOf, bools_map p xs]; rfl
theorem intsOf_ints (ns : List Int) : intsOf (ns.map PyData.int) = some ns := intsOf_of ns
section
variable {it : I1} {vs : List Nat} {bn : B1} {tt : T1} {te : Q1} {env env1 env2 : En} {h h1 h2 : Hs} {a b m : M1} {q : Q1} {t : T1} {ℓ : Lv} {x : Val} {d : PyData}
theorem fLc_map {α : Type} {f g : α → PyData} {xs : List α} (hi : it env h = some (xs.map f)) (hs : ∀ x ∈ xs, lcStep vs bn tt te env h (f x) = some (some (g x))) (hl : xs.length ≤ sizeLine) : fLc it vs bn tt te env h = some (xs.map g) := by
  unfold fLc
  rw [hi, Option.bind_some, lcGo_map hs, Option.bind_some, if_pos (by rw [List.length_map]; exact hl)]
theorem fLc_filter {α : Type} {f g : α → PyData} {p : α → Bool} {xs : List α} (hi : it env h = some (xs.map f)) (hs : ∀ x ∈ xs, lcStep vs bn tt te env h (f x) = some (if p x = true then some (g x) else none)) (hl : xs.length ≤ sizeLine) :
    fLc it vs bn tt te env h = some ((xs.filter p).map g) := by
  unfold fLc
  rw [hi, Option.bind_some, lcGo_filter hs, Option.bind_some, if_pos (by rw [List.length_map]; exact Nat.le_trans (List.length_filter_le _ _) hl)]
theorem all_lc {α : Type} {f : α → PyData} {p : α → Bool} {xs : List α} (hi : it env h = some (xs.map f)) (hs : ∀ x ∈ xs, lcStep vs bn tt te env h (f x) = some (some (.bool (p x)))) (hl : xs.length ≤ sizeLine) : q1 gAll (qF (fLc it vs bn tt te)) env h = some (.d (.bool (xs.all p))) := by
  unfold q1 qF
  rw [fLc_map (g := fun x => .bool (p x)) hi hs hl, Option.bind_some, Option.bind_some]
  show (boolsOf _).map _ = _
  rw [bools_map, Option.map_some, List.all_map]
  rfl
theorem any_lc {α : Type} {f : α → PyData} {p : α → Bool} {xs : List α} (hi : it env h = some (xs.map f)) (hs : ∀ x ∈ xs, lcStep vs bn tt te env h (f x) = some (some (.bool (p x)))) (hl : xs.length ≤ sizeLine) : q1 gAny (qF (fLc it vs bn tt te)) env h = some (.d (.bool (xs.any p))) := by
  unfold q1 qF
  rw [fLc_map (g := fun x => .bool (p x)) hi hs hl, Option.bind_some, Option.bind_some]
  show (boolsOf _).map _ = _
  rw [bools_map, Option.map_some, List.any_map]
  rfl
theorem run_q {k : Nat} {args : List Val} (e : m (startE k args) h = some (.rt ℓ (.d d), env1, h1)) : runQ k m args h = some (.d d) := by
  unfold runQ
  rw [e]
  rfl
theorem run_ret {k : Nat} {args : List Val} (e : q (startE k args) h = some (.d d)) : runQ k (mRet ℓ q) args h = some (.d d) := run_q (ℓ := ℓ) (env1 := startE k args) (h1 := h) (by unfold mRet; rw [e]; rfl)
theorem run_e {k : Nat} {args : List Val} (e : m (startE k args) h = some (.rt ℓ (.d d), env1, h1)) (hn : nl d = true) : runE k m args h = some (.d d, h1) := by
  unfold runE
  rw [e, Option.bind_some]
  cases ℓ
  · show (if nl d = true then _ else _) = _
    rw [if_pos hn]
  · show (if nl d = true then _ else _) = _
    rw [if_pos hn]
  · rfl
theorem seq_nx (e : a env h = some (.nx, env1, h1)) : mSeq a b env h = b env1 h1 := by
  unfold mSeq
  rw [e]
  rfl
theorem seq_to {r : Option (Flo × En × Hs)} (e : a env h = some (.nx, env1, h1)) (e2 : b env1 h1 = r) : mSeq a b env h = r := (seq_nx e).trans e2
theorem seq_rt (e : a env h = some (.rt ℓ x, env1, h1)) : mSeq a b env h = some (.rt ℓ x, env1, h1) := by
  unfold mSeq
  rw [e]
  rfl
theorem if_t {r : Option (Flo × En × Hs)} (e : t env h = some true) (e2 : a env h = r) : mIf t a b env h = r := by
  unfold mIf
  rw [e]
  exact e2
theorem if_f {r : Option (Flo × En × Hs)} (e : t env h = some false) (e2 : b env h = r) : mIf t a b env h = r := by
  unfold mIf
  rw [e]
  exact e2
theorem ife_t {t : ET} {r : Option (Flo × En × Hs)} (e : t env h = some (true, h1)) (e2 : a env h1 = r) : mIfE t a b env h = r := by
  unfold mIfE
  rw [e]
  exact e2
theorem ife_f {t : ET} {r : Option (Flo × En × Hs)} (e : t env h = some (false, h1)) (e2 : b env h1 = r) : mIfE t a b env h = r := by
  unfold mIfE
  rw [e]
  exact e2
theorem ret_q (e : q env h = some x) : mRet ℓ q env h = some (.rt ℓ x, env, h) := by
  unfold mRet
  rw [e]
  rfl
/-- a loop by what stands at each turn (I) and what is wanted behind (Po) -/
theorem for_post {body : PyData → M1} (I : Nat → En → Hs → Prop) (Po : Flo → En → Hs → Prop) : ∀ (xs : List PyData) (i : Nat) (env : En) (h : Hs), I i env h →
    (∀ j x env h, xs[j]? = some x → I (i + j) env h → ∃ r env1 h1, body x env h = some (r, env1, h1) ∧ ((r = .nx ∨ r = .ct) ∧ I (i + j + 1) (wipeE env1 vs) h1 ∨ (r ≠ .nx ∧ r ≠ .ct ∧ r ≠ .bk) ∧ Po r env1 h1)) →
    (∀ env h, I (i + xs.length) env h → Po .nx env h) → ∃ r env' h', forGo vs body xs env h = some (r, env', h') ∧ Po r env' h'
  | [], i, env, h, hI, _, hE => ⟨.nx, env, h, rfl, hE env h hI⟩
  | x :: xs, i, env, h, hI, hS, hE => by
    obtain ⟨r, env1, h1, e, c⟩ := hS 0 x env h rfl hI
    rcases c with ⟨c, hI1⟩ | ⟨⟨n1, n2, n3⟩, p⟩
    · obtain ⟨r', env', h', e', p'⟩ := for_post (body := body) I Po xs (i + 1) _ h1 hI1 (fun j x env h hj hI => by
        have := hS (j + 1) x env h (by simpa using hj) (by rw [show i + (j + 1) = i + 1 + j by omega]; exact hI)
        rw [show i + (j + 1) = i + 1 + j by omega] at this
        exact this) (fun env h z => hE env h (by rw [List.length_cons, show i + (xs.length + 1) = i + 1 + xs.length by omega]; exact z))
      refine ⟨r', env', h', ?_, p'⟩
      unfold forGo
      rw [e, Option.bind_some]
      rcases c with rfl | rfl <;> exact e'
    · refine ⟨r, env1, h1, ?_, p⟩
      unfold forGo
      rw [e, Option.bind_some]
      cases r with
      | nx => exact absurd rfl n1
      | ct => exact absurd rfl n2
      | bk => exact absurd rfl n3
      | _ => rfl
/-- a loop that goes through -/
theorem for_all {body : PyData → M1} (I : Nat → En → Hs → Prop) {xs : List PyData} {env : En} {h : Hs} (h0 : I 0 env h)
    (hS : ∀ j x env h, xs[j]? = some x → I j env h → ∃ r env1 h1, body x env h = some (r, env1, h1) ∧ (r = .nx ∨ r = .ct) ∧ I (j + 1) (wipeE env1 vs) h1) : ∃ env' h', forGo vs body xs env h = some (.nx, env', h') ∧ I xs.length env' h' := by
  obtain ⟨r, env', h', e, p, q⟩ := for_post (vs := vs) (body := body) I (fun r env h => r = .nx ∧ I xs.length env h) xs 0 env h h0 (fun j x env h hj hI => by
    obtain ⟨r, env1, h1, e, c, z⟩ := hS j x env h hj (by simpa using hI)
    exact ⟨r, env1, h1, e, .inl ⟨c, by simpa using z⟩⟩) (fun env h z => ⟨rfl, by simpa using z⟩)
  subst p
  exact ⟨env', h', e, q⟩
end
/-! lists of ints -/
theorem depth_ints (ns : List Int) : PyData.depthAll (ns.map PyData.int) = 0 ∨ PyData.depthAll (ns.map PyData.int) = 1 := by
  induction ns with
  | nil => exact .inl rfl
  | cons n ns ih =>
    rw [List.map_cons, PyData.depthAll]
    have e : PyData.depth (.int n) = 0 ∨ PyData.depth (.int n) = 1 := by first | exact .inl rfl | exact .inr rfl
    omega
theorem canLay_ints (ns : List Int) : PyData.canLayAll0 (ns.map PyData.int) = true := by
  induction ns with
  | nil => rfl
  | cons n ns ih =>
    rw [List.map_cons, PyData.canLayAll0, ih]
    rfl
theorem shaped_ints (ns : List Int) : SeqAt.shaped (.list (ns.map PyData.int)) = true := by
  unfold SeqAt.shaped
  rw [Bool.and_eq_true, decide_eq_true_eq]
  refine ⟨canLay_ints ns, ?_⟩
  rw [PyData.depth]
  have := depth_ints ns
  omega
theorem shaped_intsT (ns : List Int) : SeqAt.shaped (.tuple (ns.map PyData.int)) = true := by
  unfold SeqAt.shaped
  rw [Bool.and_eq_true, decide_eq_true_eq]
  refine ⟨canLay_ints ns, ?_⟩
  rw [PyData.depth]
  have := depth_ints ns
  omega
theorem eqv_ints : ∀ (xs ys : List Int), PyData.eqvAll (xs.map PyData.int) (ys.map PyData.int) = decide (xs = ys)
  | [], [] => rfl
  | [], y :: ys => rfl
  | x :: xs, [] => rfl
  | x :: xs, y :: ys => by
    rw [List.map_cons, List.map_cons, PyData.eqvAll, eqv_ints xs ys]
    show ((x == y) && _) = _
    by_cases h : x = y <;> by_cases h2 : xs = ys <;> simp [h, h2]
theorem eq_ints (xs ys : List Int) (h : Hs) : gEq h (.d (.list (xs.map PyData.int))) (.d (.list (ys.map PyData.int))) = some (.d (.bool (decide (xs = ys)))) := by
  show (if (SeqAt.shaped (.list (xs.map PyData.int)) && SeqAt.shaped (.list (ys.map PyData.int))) = true then _ else _) = _
  rw [shaped_ints, shaped_ints]
  show some (Val.d (.bool (PyData.eqvAll _ _))) = _
  rw [eqv_ints]
theorem ne_ints (xs ys : List Int) (h : Hs) : gNe h (.d (.list (xs.map PyData.int))) (.d (.list (ys.map PyData.int))) = some (.d (.bool (!decide (xs = ys)))) := by
  show (if (SeqAt.shaped (.list (xs.map PyData.int)) && SeqAt.shaped (.list (ys.map PyData.int))) = true then _ else _) = _
  rw [shaped_ints, shaped_ints]
  show some (Val.d (.bool (!PyData.eqvAll _ _))) = _
  rw [eqv_ints]
theorem ne_intsT (xs ys : List Int) (h : Hs) : gNe h (.d (.tuple (xs.map PyData.int))) (.d (.tuple (ys.map PyData.int))) = some (.d (.bool (!decide (xs = ys)))) := by
  show (if (SeqAt.shaped (.tuple (xs.map PyData.int)) && SeqAt.shaped (.tuple (ys.map PyData.int))) = true then _ else _) = _
  rw [shaped_intsT, shaped_intsT]
  show some (Val.d (.bool (!PyData.eqvAll _ _))) = _
  rw [eqv_ints]
theorem sortU_id {xs : List Int} (h : xs.Pairwise (· < ·)) : sortU xs = xs := asc_uniq (asc_sortU xs) h fun _ => mem_sortU
theorem sortU_iff {xs : List Int} : xs = sortU xs ↔ xs.Pairwise (· < ·) := ⟨fun e => by rw [e]; exact asc_sortU xs, fun h => (sortU_id h).symm⟩
theorem step_of {vs : List Nat} {bn : B1} {tt : T1} {te : Q1} {env env1 : En} {h : Hs} {d y : PyData} (hb : bn d (wipeE env vs) = some env1) (ht : tt env1 h = some true) (he : te env1 h = some (.d y)) : lcStep vs bn tt te env h d = some (some y) := by
  unfold lcStep
  rw [hb, Option.bind_some, ht, Option.bind_some, if_pos rfl, he]
  rfl
/-- neighbours ascend -/
def ascB (ns : List Int) : Bool := (List.range (ns.length - 1)).all fun k => decide (ns.getD k 0 < ns.getD (k + 1) 0)
theorem ascB_iff {ns : List Int} : ascB ns = true ↔ ns.Pairwise (· < ·) := by
  unfold ascB
  rw [List.all_eq_true]
  induction ns with
  | nil => simp
  | cons x xs ih =>
    cases xs with
    | nil => simp
    | cons y ys =>
      rw [List.pairwise_cons]
      constructor
      · intro h
        have h0 : x < y := by simpa using h 0 (by simp)
        have h1 : (y :: ys).Pairwise (· < ·) := ih.mp fun k hk => by
          have := h (k + 1) (by simp at hk ⊢; omega)
          simpa using this
        refine ⟨fun z hz => ?_, h1⟩
        rcases List.mem_cons.mp hz with rfl | hz
        · exact h0
        · exact Int.lt_trans h0 ((List.pairwise_cons.mp h1).1 z hz)
      · intro ⟨h0, h1⟩ k hk
        cases k with
        | zero => simpa using h0 y (by simp)
        | succ k =>
          have := ih.mpr h1 k (by simp at hk ⊢; omega)
          simpa using this
/-! sorted -/
theorem alike_ints : ∀ xs ys : List Int, PySem.W.alikeAll (xs.map PyData.int) (ys.map PyData.int) = true
  | [], ys => by simp [PySem.W.alikeAll]
  | x :: xs, [] => by simp [PySem.W.alikeAll]
  | x :: xs, y :: ys => by simp [PySem.W.alikeAll, PySem.W.alike, alike_ints xs ys]
theorem le_tup (xs ys : List Int) : PySem.W.dataLe false id (.tuple (xs.map PyData.int)) (.tuple (ys.map PyData.int)) = decide (xs ≤ ys) := by
  show (!PySem.W.dataLt (.tuple (ys.map .int)) (.tuple (xs.map .int))) = _
  rw [PySem.W.dataLt_tuple]
  show (!PySem.W.rowLt (ys.map .int) (xs.map .int)) = _
  rw [PySem.W.dataLt_ints]
  by_cases h : ys < xs
  · have h' : ¬ xs ≤ ys := fun r => List.not_lt.mpr r h
    simp [h, h']
  · have h' : xs ≤ ys := List.not_lt.mp h
    simp [h, h']
theorem le_int (x y : Int) : PySem.W.dataLe false id (PyData.int x) (PyData.int y) = decide (x ≤ y) := by
  show (!PySem.W.dataLt (.int y) (.int x)) = _
  rw [PySem.W.dataLt_int]
  by_cases h : y < x
  · have h' : ¬ x ≤ y := by omega
    simp [h, h']
  · have h' : x ≤ y := by omega
    simp [h, h']
theorem depth_row (xs : List Int) : PyData.depth (.tuple (xs.map PyData.int)) ≤ 2 := by
  rw [PyData.depth]
  have := depth_ints xs
  omega
theorem depth_le {ds : List PyData} {n : Nat} (h : ∀ d ∈ ds, d.depth ≤ n) : PyData.depthAll ds ≤ n := by
  induction ds with
  | nil => exact Nat.zero_le _
  | cons d ds ih =>
    rw [PyData.depthAll]
    exact Nat.max_le.mpr ⟨h d (by simp), ih fun e he => h e (by simp [he])⟩
theorem sorted_rows {α : Type} (f : α → List Int) (rs : List α) (hne : ∀ r ∈ rs, f r ≠ []) (h : Hs) : gSorted h (.d (.list (rs.map fun r => PyData.tuple ((f r).map .int)))) = some ((rs.mergeSort fun a b => decide (f a ≤ f b)).map fun r => PyData.tuple ((f r).map .int)) := by
  have c1 : nlAll (rs.map fun r => PyData.tuple ((f r).map .int)) = true := nl_mem.mpr fun d hd => by
    obtain ⟨r, _, rfl⟩ := List.mem_map.mp hd
    exact nlAll_ints _
  have c2 : alikeB (rs.map fun r => PyData.tuple ((f r).map .int)) = true := by
    unfold alikeB
    rw [List.all_eq_true]
    intro d hd
    rw [List.all_eq_true]
    intro e he
    obtain ⟨r, _, rfl⟩ := List.mem_map.mp hd
    obtain ⟨s, _, rfl⟩ := List.mem_map.mp he
    exact alike_ints _ _
  have c3 : sortB (rs.map fun r => PyData.tuple ((f r).map .int)) = true := by
    unfold sortB
    rw [Bool.or_eq_true]
    refine .inl (List.all_eq_true.mpr fun d hd => ?_)
    obtain ⟨r, hr, rfl⟩ := List.mem_map.mp hd
    have := hne r hr
    cases hf : f r with
    | nil => exact absurd hf this
    | cons _ _ => rfl
  have c4 : PyData.depthAll (rs.map fun r => PyData.tuple ((f r).map .int)) ≤ 60 := depth_le fun d hd => by
    obtain ⟨r, _, rfl⟩ := List.mem_map.mp hd
    exact Nat.le_trans (depth_row _) (by decide)
  show (if (nlAll _ && alikeB _ && sortB _ && decide (PyData.depthAll _ ≤ 60)) = true then _ else _) = _
  rw [c1, c2, c3, decide_eq_true c4, if_pos (by decide), List.map_mergeSort fun a _ b _ => (le_tup (f a) (f b)).symm]
theorem sorted_ints (ns : List Int) (h : Hs) : gSorted h (.d (.list (ns.map PyData.int))) = some ((ns.mergeSort fun a b => decide (a ≤ b)).map PyData.int) := by
  have c2 : alikeB (ns.map PyData.int) = true := by
    unfold alikeB
    rw [List.all_eq_true]
    intro d hd
    rw [List.all_eq_true]
    intro e he
    obtain ⟨r, _, rfl⟩ := List.mem_map.mp hd
    obtain ⟨s, _, rfl⟩ := List.mem_map.mp he
    rfl
  have c3 : sortB (ns.map PyData.int) = true := by
    unfold sortB
    rw [Bool.or_eq_true]
    refine .inr (List.all_eq_true.mpr fun d hd => ?_)
    obtain ⟨r, hr, rfl⟩ := List.mem_map.mp hd
    rfl
  have c4 : PyData.depthAll (ns.map PyData.int) ≤ 60 := by
    have := depth_ints ns
    omega
  show (if (nlAll _ && alikeB _ && sortB _ && decide (PyData.depthAll _ ≤ 60)) = true then _ else _) = _
  rw [nlAll_ints, c2, c3, decide_eq_true c4, if_pos (by decide), List.map_mergeSort fun a _ b _ => (le_int a b).symm]
theorem msort_asc {ns : List Int} (h : ns.Nodup) : ns.mergeSort (fun a b => decide (a ≤ b)) = sortU ns := by
  have p := List.mergeSort_perm ns (fun a b => decide (a ≤ b))
  have s : (ns.mergeSort fun a b => decide (a ≤ b)).Pairwise (fun a b => decide (a ≤ b) = true) :=
    List.pairwise_mergeSort (fun a b c h1 h2 => by simp only [decide_eq_true_eq] at h1 h2 ⊢; omega) (fun a b => by simp only [Bool.or_eq_true, decide_eq_true_eq]; omega) ns
  have nd : (ns.mergeSort fun a b => decide (a ≤ b)).Nodup := p.nodup_iff.mpr h
  refine asc_uniq ?_ (asc_sortU ns) fun k => by rw [p.mem_iff, mem_sortU]
  refine (List.Pairwise.and s nd).imp fun {a b} z => ?_
  have z1 := z.1
  simp only [decide_eq_true_eq] at z1
  have z2 : a ≠ b := z.2
  omega
theorem nodup_asc {ns : List Int} (h : ns.Pairwise (· < ·)) : ns.Nodup := h.imp fun {a b} z => Int.ne_of_lt z
theorem eqI (i j : Int) (h : Hs) : gEq h (.d (.int i)) (.d (.int j)) = some (.d (.bool (decide (i = j)))) := rfl
theorem neI (i j : Int) (h : Hs) : gNe h (.d (.int i)) (.d (.int j)) = some (.d (.bool (!decide (i = j)))) := rfl
theorem eq_intsT (xs ys : List Int) (h : Hs) : gEq h (.d (.tuple (xs.map PyData.int))) (.d (.tuple (ys.map PyData.int))) = some (.d (.bool (decide (xs = ys)))) := by
  show (if (SeqAt.shaped (.tuple (xs.map PyData.int)) && SeqAt.shaped (.tuple (ys.map PyData.int))) = true then _ else _) = _
  rw [shaped_intsT, shaped_intsT]
  show some (Val.d (.bool (PyData.eqvAll _ _))) = _
  rw [eqv_ints]
theorem setS_t {ns : List Int} (hl : ns.length < 64) (h : Hs) : gSetS h (.d (.tuple (ns.map PyData.int))) = some ((sortU ns).map .int) := by
  show (intsOf _).bind _ = _
  rw [intsOf_of, Option.bind_some, if_pos hl]
theorem setS_l {ns : List Int} (hl : ns.length < 64) (h : Hs) : gSetS h (.d (.list (ns.map PyData.int))) = some ((sortU ns).map .int) := by
  show (intsOf _).bind _ = _
  rw [intsOf_of, Option.bind_some, if_pos hl]
theorem iRng_of {a : Q1} {env : En} {h : Hs} {n : Int} (e : a env h = some (.d (.int n))) (h0 : -1000000 ≤ n) (h1 : n ≤ 1000000) : iRng a env h = some ((List.range n.toNat).map fun k : Nat => PyData.int (k : Int)) := by
  unfold iRng
  rw [e, Option.bind_some]
  show (if (decide (-(2 ^ 62) ≤ n) && decide (n < 2 ^ 62)) = true then _ else _) = _
  rw [if_pos]
  rw [Bool.and_eq_true, decide_eq_true_eq, decide_eq_true_eq]
  constructor <;> omega
theorem iRngE_of {a : E1} {env : En} {h h1 : Hs} {n : Int} (e : a env h = some (.d (.int n), h1)) (h0 : -1000000 ≤ n) (h2 : n ≤ 1000000) : iRngE a env h = some ((List.range n.toNat).map (fun k : Nat => PyData.int (k : Int)), h1) := by
  unfold iRngE
  rw [e, Option.bind_some]
  show (if (decide (-(2 ^ 62) ≤ n) && decide (n < 2 ^ 62)) = true then _ else _) = _
  rw [if_pos]
  rw [Bool.and_eq_true, decide_eq_true_eq, decide_eq_true_eq]
  constructor <;> omega
end Sm

set_option Elab.async false
set_option linter.all false
set_option maxRecDepth 100000
set_option maxHeartbeats 2000000
/-! an own exception whose __init__ begins with super().__init__(..), ValueError's at the end -/
namespace Sx
open PySem L2 PyProof.Rows

/-- what the written part tells of super() in the def at f, in class C, its cell at cc, its code at cda -/
structure SupT (X : Cx) (me : Str) (C f cc cda : Addr) : Prop where
  T : OexC X.K C
  fn : ∃ of fd ar, X.K.lookup f = some of ∧ of.data = .func fd ∧ (fd.params.posonlyargs ++ fd.params.args).head? = some ar ∧ ar.arg = me
  code : ∃ oc vs file tf, X.K.lookup cda = some oc ∧ oc.data = .fields vs ∧ vs[2]? = some (.str file tf) ∧ ((X.prog.main.file : Str) == file) = true
  cell : ∃ ol, X.K.lookup cc = some ol ∧ ol.data = .cell (some (.ref C))
  top : (X.prog.main.scope.names.lookup ("super" : Str)).isSome = false
  msup : X.mg "super" = none
  any : PySem.W.nsIn X.K cStatics "thirdparty.any" = some none
  along : PySem.W.ks_superIn X.K C C "__init__" = some (some (.builtin "ValueError.__init__"))
  subV : PySem.W.subIn X.K (.ref C) (.type "ValueError") = some true
  mro : PySem.W.mroIn X.K C (.ref C) = some true
/-- of the frame -/
structure SupE (X : Cx) (me : Str) (f cc cda : Addr) : Prop where
  ks : X.env.kindOf "super" = some .globalImplicit
  kc : X.env.kindOf "__class__" = some .free
  kme : X.env.kindOf me = some .local
  fu : X.env.func = some f
  co : X.env.code = .ref cda
  cl : X.env.cells.lookup ("__class__" : Str) = some cc
section
variable {X : Cx} {pins : List (Addr × Obj)} {σ : L2.St} {H : Hp} {s : Shared} {a C f cc cda : Addr} {me : Str} {i : Nat}
theorem exo_in (T : OexC X.K C) (I : Inv X pins σ H s) (ha : H a = some (exo a C none)) : ∃ t1, PySem.W.InstAt s.heap a { cls := .ref C, dict := none, data := .fields #[.ref t1, .none, .none, .none, .bool false, .none] } C none := by
  obtain ⟨t1, ho⟩ := exo_at I.hok ha
  exact ⟨t1, ho, rfl, rfl, trivial⟩
/-- super().__init__(..) in the body, then on -/
theorem st_super {body : List Stmt} {e : Expr} {es : List Expr} {ta : TA} {p0 p1 p2 pos pos0 : Pos} {pl : Sem Bool} {P : L2.St → Hp → Prop} (S : SupT X me C f cc cda) (V : SupE X me f cc cda) (hN : X.N[i]? = some me) (hs : σ[i]? = some (some (.ref a))) (I : Inv X pins σ H s) (ha : H a = some (exo a C none))
    (hA : PA X (e :: es) ta) (q : ta σ H fun vs H1 => vs.length ≤ 1000 ∧ H1 a = some (exo a C none) ∧ P σ H1)
    (he : eval (.Call (.Attribute (.Call (.Name "super" p0) [] [] p1) "__init__" p2) (e :: es) [] pos) X.env = (do
      let ov ← attributeBase (.Call (.Name "super" p0) [] [] p1) "__init__" X.env (eval (.Call (.Name "super" p0) [] [] p1) X.env)
      standAt p2.atName
      let (f, first) ← holding [ov] (getMethod ov "__init__" pl)
      callWith pos f first (backTo pos (starEach (e :: es) X.env)) []) := by rfl)
    (he1 : starEach (e :: es) X.env = (false, eval e X.env) :: starEach es X.env := by rfl) (hpl : (backTo pos (starEach es X.env)).any (·.1) = false := by rfl) (hsw : swapsWith (.Call (.Attribute (.Call (.Name "super" p0) [] [] p1) "__init__" p2) (e :: es) [] pos) none pos0.line X.env = pure false := by rfl) :
    PySem.wpAt (model X.prog X.w) X.A (.func body X.env) (exec (.Expr (.Call (.Attribute (.Call (.Name "super" p0) [] [] p1) "__init__" p2) (e :: es) [] pos) pos0) X.env) (fun fl s' => fl = .next ∧ ∃ H', Inv X pins σ H' s' ∧ P σ H') X.xe s := by
  obtain ⟨of, fd, ar, hf, hfd, hp, hme⟩ := S.fn
  obtain ⟨oc, vs, file, tf, hcc, hoc, hvs, hfile⟩ := S.code
  obtain ⟨ol, hol, hld⟩ := S.cell
  obtain ⟨nm, q0, N0, bs, bm, sn, sub, ab, col, dd, k0, k1, k2, k3, k5, hC, hbm⟩ := S.T.cls
  refine PySem.ks_wpAt_Expr_any (ks_wpAt_MethodCall (pl := pl) (ks_wpAt_super_base V.ks V.kc (by decide) V.fu (I.kIn _ _ hf) hfd hp V.co (I.kIn _ _ hcc) hoc hvs hfile S.top ?_) he) I.quiet hsw
  obtain ⟨mb, hb1, hb2⟩ := I.mod.blt
  refine PySem.W.ks_loadName_global I.ok.kind V.ks (Calls.loadGlobal_builtin (by rw [I.ok.glob]; exact I.mod.glob.keeps I.bk) S.msup (by rw [I.ok.blt]; exact hb1.keeps I.bk) ((hb2 _ (by decide)).trans (show bootBuiltins "super" = some (.type "super") by kernel_rfl)) ⟨rfl, ?_⟩)
  refine wpAny_loadName_free I.ok.kind V.kc V.cl ⟨_, I.kIn _ _ hol, hld⟩ ?_
  obtain ⟨m, hn, hl⟩ := I.loc
  obtain ⟨u, r, l⟩ := hl i me (.ref a) hN hs (.inl V.kme)
  obtain rfl : u = Value.ref a := r
  have hm : m me = some (.ref a) := by
    rcases l with ⟨_, hm⟩ | ⟨hk, _⟩
    · exact hm
    · rw [V.kme] at hk
      rcases hk with hk | hk <;> cases hk
  rw [hme]
  refine wpAny_loadName_local I.ok.kind V.kme hn hm ?_
  obtain ⟨t1, J⟩ := exo_in S.T I ha
  obtain ⟨hh, g, d, t, os⟩ := s
  have hCg : hh.get? C = some _ := I.kIn _ _ hC
  refine ks_wpAny_isType_cls hCg rfl ⟨rfl, ?_⟩
  refine ks_wpAny_call_super hCg rfl J.at_ J.cls (fun c z => by cases z) (PySem.W.looks_mroIn I.kIn S.mro) (fun h1 e1 k1 => ?_)
  have I1 : Inv X pins σ H ⟨h1, g, d, t, os⟩ := I.kept (t' := t) k1
  obtain ⟨t1', J1⟩ := exo_in S.T I1 ha
  have hcl : PySem.W.clsIn X.K C = some { name := nm, bases := bs, mro := .ref C :: bm, ns := N0, qualname := q0, hasDict := true, slotNames := sn, subclasses := sub, abstract := ab, collection := col, hasDel := false } := by unfold PySem.W.clsIn; rw [hC] <;> rfl
  have hal := S.along
  unfold PySem.W.ks_superIn at hal
  rw [hcl] at hal
  have hxC : a ≠ C := PySem.W.ks_ne I1.kIn J1 hcl
  refine PySem.W.kxs_getMethod PySem.W.kxs_ValueError e1 (PySem.W.looks_opaque I1.kIn S.any) (l₀ := .ref C :: bm) (fun A Q E s k q => wpAny_bind ((PySem.W.looks_clsIn I1.kIn hcl) A _ E s k (wpAny_pure q))) rfl I1.kIn hal
    (J1.type.andThen (PySem.W.looks_subIn I1.kIn S.subV)) hxC (by decide) ?_
  have I2 : Inv X pins σ H ⟨h1.push (PySem.W.kxs_mw "ValueError.__init__" a), g, d, t + 1, os⟩ := I1.kept (t' := t + 1) (fun b o z => Heap.get?_push_of_some _ z)
  have hu : (h1.push (PySem.W.kxs_mw "ValueError.__init__" a)).get? h1.objs.size = some (PySem.W.kxs_mw "ValueError.__init__" a) := Heap.get?_push_at rfl rfl
  have I3 : Inv X ((h1.objs.size, PySem.W.kxs_mw "ValueError.__init__" a) :: pins) σ H ⟨h1.push (PySem.W.kxs_mw "ValueError.__init__" a), g, d, t + 1, os⟩ := I2.pins_of fun p hp => by
    rcases List.mem_cons.mp hp with rfl | hp
    · exact ⟨hu, I1.hok.fresh (Nat.le_refl _), fun z => Nat.lt_irrefl _ (z ▸ I1.lt), I1.nofs (Nat.le_refl _), fun v z => by cases z⟩
    · exact I2.pin p (List.mem_append_right _ hp)
  show wpAny _ _ (callWith pos (.ref h1.objs.size) [] (backTo pos (starEach (e :: es) X.env)) []) _ _ _
  rw [he1]
  refine PySem.W.kxs_callWith (i := "ValueError.__init__") (x := a) (by show (false || (backTo pos (starEach es X.env)).any (·.1)) = false; rw [hpl]; rfl) ?_
  have z := hA.run pos _ _ σ H _ I3 q
  rw [he1] at z
  refine PySem.Calls.evalArgs_plain (thn z ?_)
  rintro us s4 ⟨vs4, H4, I4, r4, hl4, ha4, p4⟩
  have hu4 : s4.heap.get? h1.objs.size = some (PySem.W.kxs_mw "ValueError.__init__" a) := (I4.pin _ (List.mem_append_right _ List.mem_cons_self)).1
  refine ⟨hu4, ?_⟩
  obtain ⟨t4, ho4⟩ := exo_at I4.hok ha4
  have hC4 := I4.kIn _ _ hC
  have hlen : us.length ≤ sizeLine := by
    rw [← Paired.length r4, sizeLine_eq]
    omega
  obtain ⟨h4, g4, d4, tk4, os4⟩ := s4
  refine wpAny_call (codeAny_of_tree ?_)
  show wpAny _ X.A.in1 (callAny (.ref h1.objs.size) ⟨[] ++ us, []⟩) _ _ _
  simp only [callAny, List.nil_append]
  refine wpAny_bind (wpAny_load hu4 ?_)
  simp only [PySem.W.kxs_mw, show (Value.type "method-wrapper" == Value.type "method" || Value.type "method-wrapper" == Value.type "builtin_function_or_method" || Value.type "method-wrapper" == Value.type "method-wrapper") = true by decide, if_true]
  refine PySem.W.KFB.if_so (by decide) ?_
  refine wpAny_bind (PySem.W.check_bound_init F.excBase_ValueError.toExcCallFacts hC4 ho4 rfl ?_)
  refine wpAny_bind (wpAny_pure (wpAny_pure ?_))
  refine ⟨plainId_quiet F.excBase_ValueError.init.plain _, codeAny_builtin F.excBase_ValueError.initEntry ?_⟩
  refine PySem.W.exc_init_tree (cls := .ref C) (t0 := t4) (dv := none) (c2 := .none) (c3 := .none) (b4 := .bool false) ho4 hlen fun h5 k5' e5 _ => ?_
  have J5 := I4.write (t' := tk4) (x := a) (e := a) (o := exo a C none) (by rw [ha4]; exact True.intro) (.inl rfl) k5' ⟨_, e5⟩ (exo_ok e5)
  have eu : upd H4 a (exo a C none) = H4 := by
    funext b
    by_cases hb : b = a
    · rw [hb, upd_same, ha4]
    · rw [upd_ne hb]
  rw [eu] at J5
  exact ⟨True.intro, H4, J5.pins_of fun p hp => J5.pin p (List.mem_append_right _ (List.mem_cons_of_mem _ hp)), p4⟩
end
end Sx

set_option Elab.async false
set_option linter.all false
set_option maxRecDepth 100000
set_option maxHeartbeats 2000000
namespace Sx
open PySem L2 NdefX PyProof.Rows

/-! ### the def __init__ that begins with super().__init__('..' + str(place)) and keeps the place -/
structure IPos where
  (q1 q2 p0 p1 p2 p3 p4 p5 p6 p7 p8 p9 p10 p11 pos pos0 : Pos)
  j : Nat
def iA (T : IPos) : Arguments := { posonlyargs := [], args := [{ arg := "self", annotation := none, pos := T.q1 }, { arg := "place", annotation := none, pos := T.q2 }], vararg := none, kwonlyargs := [], kw_defaults := [], kwarg := none, defaults := [] }
def iS : Scope := { kind := .function, names := [(PySem.Str.ofString "self", .local), (PySem.Str.ofString "place", .local), (PySem.Str.ofString "__class__", .free), (PySem.Str.ofString "super", .globalImplicit), (PySem.Str.ofString "str", .globalImplicit)], isGenerator := false, isCoroutine := false, more := [] }
def iE (T : IPos) (msg : Str) : Expr := .BinOp (.Constant (.str msg) T.j T.p3) .Add (.Call (.Name "str" T.p4) [.Name "place" T.p5] [] T.p6) T.p7
def iB1 (T : IPos) (msg : Str) : Stmt := .Expr (.Call (.Attribute (.Call (.Name "super" T.p0) [] [] T.p1) "__init__" T.p2) [iE T msg] [] T.pos) T.pos0
def iB2 (T : IPos) : Stmt := .Assign [.Attribute (.Name "self" T.p8) "place" T.p9] (.Name "place" T.p10) T.p11
def iB (T : IPos) (msg : Str) : List Stmt := [iB1 T msg, iB2 T]
def iN : List Str := ["self", "place", "__class__"]
theorem iScope : NScope iN ["self", "place"] ["__class__"] iS := nscope_by (by decide +kernel)
abbrev iF (T : IPos) (msg qual : Str) (cc cda : Addr) : NF := ⟨"__init__", qual, iA T, iB T msg, iS, [("__class__", cc)], cda⟩
/-- what __init__ does with a new exception of class C -/
def spI (C : Addr) : Sp := fun vs H Q E => ∃ (a : Addr) (n : Int), vs = [.ref a, .int n] ∧ H a = some (exo a C none) ∧ n.natAbs.log2 < 1000 ∧ ∀ d, H d = none → d ≠ a → Q .non (upd (upd H d (exd d [(("place" : Str), V.int n)])) a (exo a C (some d)))
section
variable {CX : CXT} {P : Program} {w : World} {K : PySem.W.Frag} {mg : Str → Option Value} {base : Heap} {T : IPos} {msg qual : Str} {C f cc cda : Addr} {k : Nat} {oc doc pm ct dV kV : Value} {od an : Option Addr} {osl : Array (Option Value)}
abbrev iFd (T : IPos) (msg qual : Str) (cc cda : Addr) (dV kV doc pm : Value) (an : Option Addr) (ct : Value) : FuncData := PySem.W.fnX "__init__" qual (iA T) (iB T msg) iS [("__class__", cc)] dV kV doc pm an (.ref cda) ct
theorem fn_init (hev : ∀ env : Env, ∃ pl : Sem Bool, eval (.Call (.Attribute (.Call (.Name "super" T.p0) [] [] T.p1) "__init__" T.p2) [iE T msg] [] T.pos) env = (do
      let ov ← attributeBase (.Call (.Name "super" T.p0) [] [] T.p1) "__init__" env (eval (.Call (.Name "super" T.p0) [] [] T.p1) env)
      standAt T.p2.atName
      let (f, first) ← holding [ov] (getMethod ov "__init__" pl)
      callWith T.pos f first (backTo T.pos (starEach [iE T msg] env)) []))
    (lk : K.lookup f = some ⟨oc, od, .func (iFd T msg qual cc cda dV kV doc pm an ct), osl⟩) (hcd : PySem.W.codeIn K (.ref cda) qual = true) (hmsg : msg.length ≤ 1000)
    (hcode : ∃ oc vs file tf, K.lookup cda = some oc ∧ oc.data = .fields vs ∧ vs[2]? = some (.str file tf) ∧ ((P.main.file : Str) == file) = true)
    (hcell : ∃ ol, K.lookup cc = some ol ∧ ol.data = .cell (some (.ref C))) (htop : (P.main.scope.names.lookup ("super" : Str)).isSome = false) (hms : mg "super" = none) (hmstr : mg "str" = none)
    (hany : PySem.W.nsIn K cStatics "thirdparty.any" = some none) (hal : PySem.W.ks_superIn K C C "__init__" = some (some (.builtin "ValueError.__init__")))
    (hsv : PySem.W.subIn K (.ref C) (.type "ValueError") = some true) (hmro : PySem.W.mroIn K C (.ref C) = some true) (hno : PySem.W.findIn K (.ref C) "place" = some none) (TC : OexC K C) :
    FnOk P w K mg base CX (k + 1) f (iFd T msg qual cc cda dV kV doc pm an ct) ["self", "place"] (spI C) := by
  refine ⟨fun vs H Q E ⟨a, n, e, _⟩ => by rw [e]; rfl, fun A outer s H args us vs Q E hr e0 hb r hsp => ?_⟩
  obtain ⟨a, n, rfl, ha, hn, q⟩ := hsp
  have KX : K.In s.heap := e0.mod.kin.keeps fun b o e => (e0.bs b o e).1
  have lim : s.heap.NoLimit := e0.mod.nolimit.keeps fun b o e => (e0.bs b o e).1
  refine PySem.ks_codeAny_call_defAt hr.depth (KX _ _ lk) rfl lim (PySem.W.codeRec_of KX hcd) rfl hb iScope.nocell (fun ⟨n, _⟩ hy => iScope.par n (List.of_mem_zip hy).1) (fun h₁ hns kp => ?_) iScope.co iScope.gen iScope.kind
  obtain ⟨ol, hol, hld⟩ := hcell
  have CA : CellsAt (iF T msg qual cc cda).cl ["__class__"] [none] s.heap H := {
    len := rfl
    all := fun y c e => by
      have e : List.lookup y [(("__class__" : Str), cc)] = some c := e
      have ec : c = cc := by
        simp only [List.lookup] at e
        split at e
        · exact (Option.some.inj e).symm
        · cases e
      subst ec
      exact ⟨(e0.bs _ _ (e0.mod.kin _ _ hol)).2, _, ol, KX _ _ hol, hld⟩
    inj := fun x y c e1 e2 => by
      have e1 : List.lookup x [(("__class__" : Str), cc)] = some c := e1
      have e2 : List.lookup y [(("__class__" : Str), cc)] = some c := e2
      simp only [List.lookup] at e1 e2
      split at e1
      · next h1 =>
        split at e2
        · next h2 => rw [eq_of_beq h1, eq_of_beq h2]
        · cases e2
      · cases e1
    has := fun i y e => by
      rcases i with _ | i
      · cases e
        exact ⟨cc, by show List.lookup ("__class__" : Str) [(("__class__" : Str), cc)] = some cc; simp [List.lookup], fun v z => by cases z⟩
      · cases e }
  have I : Inv (ncx CX P w K mg base iN (iF T msg qual cc cda) f A outer s H E) [] (startF iN [.ref a, .int n] [none]) H { s with heap := h₁, toks := s.toks + ((["self", "place"] : List Str).zip us).length } := inv_startN iScope hr.hd e0 rfl r CA hns kp
  have S : SupT (ncx CX P w K mg base iN (iF T msg qual cc cda) f A outer s H E) "self" C f cc cda := ⟨TC, ⟨_, _, _, lk, rfl, rfl, rfl⟩, hcode, ⟨ol, hol, hld⟩, htop, hms, hany, hal, hsv, hmro⟩
  have V : SupE (ncx CX P w K mg base iN (iF T msg qual cc cda) f A outer s H E) "self" f cc cda := ⟨by rfl, by rfl, by rfl, rfl, rfl, by show List.lookup ("__class__" : Str) [(("__class__" : Str), cc)] = some cc; simp [List.lookup]⟩
  have hA : PA (ncx CX P w K mg base iN (iF T msg qual cc cda) f A outer s H E) [iE T msg] _ := pa_cons (pe_op op_add_str pe_str (pe_callTy call_str_int (by rfl) hmstr (by decide +kernel) (pa_cons (pe_var (i := 1) rfl (.inl (by rfl))) pa_nil))) pa_nil
  obtain ⟨pl, hev⟩ := hev (ncx CX P w K mg base iN (iF T msg qual cc cda) f A outer s H E).env
  refine PySem.ks_wpAt_execs_cons (PySem.wpAt_mono (st_super (i := 0) (he := hev) (X := ncx CX P w K mg base iN (iF T msg qual cc cda) f A outer s H E) (P := fun _ H' => H' = H) S V rfl rfl I ha hA ?_) (fun fl s' h => ?_) (fun _ _ z => z))
  · have hl : msg.length + (Str.ofString (toString n)).length ≤ sizeLine := by
      have h1 := int_text_length_le (a := n) (k := 1000) (by decide) hn
      have h2 : (Str.ofString (toString n)).length = (toString n).length := PySem.ofString_length _
      rw [sizeLine_eq]
      omega
    exact ⟨.int n, rfl, n, rfl, by omega, msg, _, rfl, rfl, hl, (by decide : 1 ≤ 1000), ha, rfl⟩
  · obtain ⟨rfl, H', I', rfl⟩ := h
    refine wpAt_of_wpAny ?_
    refine wpAny_mono ((pss_one (ps_ost (f := "place") (pe_var (i := 0) rfl (.inl (by rfl))) (pe_var (i := 1) rfl (.inl (by rfl))))).run [] s' _ _ { nx := fun _ H' => Q .non H', rt := Q } I' ?_) (fun fl s'' hs => ?_) fun e s'' hs => hs
    · refine ⟨_, rfl, _, rfl, a, C, rfl, TC, hno, .inl ⟨ha, fun dx n1 n2 => q dx n1 n2⟩⟩
    · have fin : ∀ {σ' : L2.St} {H2 : Hp} {v : L2.V} {u : Value}, Inv (ncx CX P w K mg base iN (iF T msg qual cc cda) f A outer s H' E) [] σ' H2 s'' → L2.RelV v u → Q v H2 → L2.CE outer P w H' s Q u s'' :=
        fun {σ' H2 v u} J rv q => ⟨v, H2, J.os, J.bare, J.base, J.hok, rv, q⟩
      cases fl with
      | ret u =>
        obtain ⟨v, σ', H2, J, rv, q⟩ := hs
        exact fin J rv q
      | next =>
        obtain ⟨σ', H2, J, q⟩ := hs
        exact fin (v := L2.V.non) (u := Value.none) J rfl q
      | brk =>
        obtain ⟨_, _, _, q⟩ := hs
        exact False.elim q
      | cont =>
        obtain ⟨_, _, _, q⟩ := hs
        exact False.elim q
end
end Sx

set_option Elab.async false
set_option linter.all false
set_option maxRecDepth 100000
set_option maxHeartbeats 1000000
namespace Sm
open PySem L2 Evl Sx

/-! ### an own error with a place, raised -/
/-- what is known of the class x, at C -/
structure XC (X : Cx) (x : Str) (C fI : Addr) (k : Nat) : Prop where
  T : OexC X.K C
  iC : PySem.W.findIn X.K (.ref C) "__init__" = some (some (.ref fI))
  tI : PySem.W.typeIn X.K (.ref fI) = some (.type "function")
  fn : ∃ fd, FnOk X.prog X.w X.K X.mg X.base CX0 k fI fd ["self", "place"] (spI C) ∧ Binds X.K fd ["self", "place"] []
  gC : X.mg x = some (.ref C)
/-- how a def ends that may raise: a value, or the error no. j with its place -/
abbrev XR := Except (Nat × Int) Val
abbrev XQ := En → Hs → Option XR
def mRaise (j : Nat) (q : Q1) : M1 := fun env h => (q env h).bind fun x => match x with
  | .d (.int n) => if n.natAbs.log2 < 1000 then some (.ex j n, env, h) else none
  | _ => none
def tX (F : Fm) (m : XQ) : TE := fun σ H Q => ∃ env h A r, SR F env h A σ H ∧ m env h = some r ∧ match r with
  | .ok x => ∀ v H1, Ex H H1 → RV F .mo h A H1 x v → Q v H1
  | .error (j, n) => ∀ d H1, Ex H H1 → H1 d = some (.xd [(("place" : Str), V.int n)]) → F.wx (.ref (F.xc j)) (some d) σ H1
abbrev SimX (X : Cx) (F : Fm) (e : Expr) (m : XQ) : Prop := PE X e (tX F m)
section
variable {F : Fm} {X : Cx} {e c : Expr} {es : List Expr} {x : Str} {C fI : Addr} {j k n : Nat} {p pos pos2 : Pos} {q : Q1} {m : XQ} {ℓ : Lv} {body : List Stmt}
theorem ss_raise (S : XC X x C fI k) (hr : Room (k + 1) X.A) (hc : X.calm = true) (tk : Takes X F.wx) (hx : F.xc j = C) (he0 : SimQ X F .mo e q) (hg : Gl X x := by rfl) (hdb : (x == ("__debug__" : Str)) = false := by decide)
    (he : starEach [e] X.env = (false, eval e X.env) :: starEach [] X.env := by rfl) (hpl : (backTo pos (starEach [] X.env)).any (·.1) = false := by rfl) :
    SimS X F (.Raise (some (.Call (.Name x p) [e] [] pos)) none pos2) (mRaise j q) := by
  obtain ⟨fd, F1, hb⟩ := S.fn
  refine PSimp (ps_raise hc tk (pmk_oex (p := p) S.T S.iC S.tI F1 hr hb .nil pass0 hg S.gC (pa_cons he0 pa_nil he) hdb he hpl)) fun D σ H ⟨env, h, A, r, env', h', R, e, k⟩ => ?_
  obtain ⟨y, ey, e⟩ := bind_some e
  refine ⟨env, h, A, y, R, ey, fun v H1 e1 rv => ?_⟩
  split at e
  · next n =>
    split at e
    · next hn =>
      cases e
      cases ri rv
      refine ⟨(by decide : 1 ≤ 1000), fun a ha => ⟨a, n, rfl, upd_same, hn, fun d hd hda => ⟨rfl, d, _, upd_same, by rw [upd_ne hda, upd_same], ?_, ?_⟩⟩⟩
      · rw [upd_ne hda] at hd
        exact hd
      · rw [upd_ne hda] at hd
        have eH : upd (del (upd (upd (upd H1 a (exo a C none)) d (exd d [(("place" : Str), V.int n)])) a (exo a C (some d))) a) d (.xd [(("place" : Str), V.int n)]) = upd H1 d (.xd [(("place" : Str), V.int n)]) := by
          funext b
          by_cases hbd : b = d
          · rw [hbd, upd_same, upd_same]
          · rw [upd_ne hbd, upd_ne hbd]
            by_cases hba : b = a
            · rw [hba, del_same, ha]
            · rw [del_ne hba, upd_ne hba, upd_ne hbd, upd_ne hba]
        rw [eH, ← hx]
        exact k _ _ A d ((R.ex e1).ex (Ex.new hd)) ((Ex.pres e1).trans (Ex.pres (Ex.new hd))) upd_same
    · cases e
  · cases e
/-! ### defs that may raise -/
def resX : Flo → Option XR
  | .ex j n => some (.error (j, n))
  | r => (resD r).map .ok
def runX (k : Nat) (m : M1) : List Val → Hs → Option XR := fun args h => (m (startE k args) h).bind fun r => resX r.1
def spX (G : Glo) (xc : Nat → Addr) (n : Nat) (f : List Val → Hs → Option XR) : Sp := fun vs H Q E => ∃ F env h A σ args r, F.G = G ∧ SR F env h A σ H ∧ Paired (fun x v => RV F .mo h A H x v) args vs ∧ args.length = n ∧ f args h = some r ∧ match r with
  | .ok x => ∀ v H', Ex H H' → RV F .mo h A H' x v → Q v H'
  | .error (j, n) => ∀ d H', Ex H H' → H' d = some (.xd [(("place" : Str), V.int n)]) → E (.ref (xc j)) (some d) H'
theorem SR.wish {env : En} {h : Hs} {A : As} {σ : L2.St} {H : Hp} (R : SR F env h A σ H) (xc : Nat → Addr) (wx : Value → Option Addr → L2.St → Hp → Prop) : SR { F with xc := xc, wx := wx } env h A σ H :=
  ⟨R.fr, R.tp, R.fz, R.dm, R.le, R.oo, R.nw, R.ow, R.ln, R.sl, R.ob, R.ij⟩
theorem SR.unwish {env : En} {h : Hs} {A : As} {σ : L2.St} {H : Hp} {xc : Nat → Addr} {wx : Value → Option Addr → L2.St → Hp → Prop} (R : SR { F with xc := xc, wx := wx } env h A σ H) : SR F env h A σ H :=
  ⟨R.fr, R.tp, R.fz, R.dm, R.le, R.oo, R.nw, R.ow, R.ln, R.sl, R.ob, R.ij⟩
end
section
variable {P : Program} {w : World} {K : PySem.W.Frag} {mg : Str → Option Value} {base : Heap} {x qual : Str} {st : Stmt} {f : Addr} {fd : FuncData} {N ps : List Str} {k : Nat} {G : Glo} {xc : Nat → Addr} {m : M1}
theorem fn_x (U : Fun K x qual st f fd) (S : FnScope N ps (defScope st)) (hl : ps.length ≤ N.length)
    (hb : ∀ (cdv : Value) (A : Around) (outer : List Env) (s : Shared) (H : Hp) (E : XK), Room k (A.deeper (PyProof.Rows.envOfC qual (defScope st) s.heap.objs.size f cdv)) → ∀ F : Fm, F.G = G → F.xc = xc → F.wx = (fun cls d _ H' => E cls d H') → SimB (cxOf (L2.CX P w) P w K mg base N qual (defScope st) f cdv A outer s H E) F (defBody st) m) :
    FnOk P w K mg base (L2.CX P w) (k + 1) f fd ps (spX G xc ps.length (runX (N.length - ps.length) m)) := by
  refine U.okX S (fun vs H Q E h => ?_) (fun cdv A outer s H vs Q E hr h => ?_)
  · obtain ⟨F, env, h, A, σ, args, y, _, _, r, hn, _⟩ := h
    rw [← Paired.len r, hn]
  · obtain ⟨F, env, hh, As, σ, args, y, hG, R, r, hn, e, kk⟩ := h
    obtain ⟨⟨r1, env1, h1⟩, e1, e2⟩ := bind_some e
    have R0 : SR (Fm.cal G false hh As H) [] hh As [] H := by
      have := R.start false
      rw [hG] at this
      exact this
    have R1 := R0.args (N := N) (Paired.imp (fun _ _ z => cal_fs hG z) r) (by omega)
    rw [hn] at R1
    refine ⟨tS { Fm.cal G false hh As H with xc := xc, wx := fun cls d _ H' => E cls d H' } m, hb cdv A outer s H E hr _ rfl rfl rfl, _, hh, As, r1, env1, h1, R1.wish _ _, e1, ?_⟩
    cases r1 with
    | nx =>
      cases e2
      exact fun σ' H' A' R' _ => kk _ H' (cal_ex R'.unwish) vn
    | bk => cases e2
    | ct => cases e2
    | ex j n =>
      cases e2
      exact fun σ' H' A' d R' _ hd => kk d H' (cal_ex R'.unwish) hd
    | rt ℓ y' =>
      intro σ' H' A' v R' _ rv
      have R' := R'.unwish
      have rv : RV (Fm.cal G false hh As H) ℓ h1 A' H' y' v := by
        cases ℓ <;> exact rv
      have rv' := RV.mo R' rv
      cases y' with
      | d d => cases e2; refine kk v H' (cal_ex R') ?_; subst hG; exact rv'
      | ref n => cases e2
      | fn n => cases e2; refine kk v H' (cal_ex R') ?_; subst hG; exact rv'
    | rf xs =>
      intro σ' H' A' p us R' _ _ hv _ rs
      cases e2
      subst hG
      exact kk _ H' (cal_ex R'.unwish) (vl (ℓ := .mo) (.inl (.inl hv)) (RDs.of_st (F := F) (ℓ := .mo) rs))
end
end Sm

set_option Elab.async false
set_option linter.all false
set_option maxRecDepth 100000
set_option maxHeartbeats 1000000
namespace Sm
open PySem L2 Evl Sx

/-! ### calls that may raise -/
def xCall (g : List Val → Hs → Option XR) (a : En → Hs → Option (List Val)) : XQ := fun env h => (a env h).bind fun xs => g xs h
/-- where nothing is raised -/
def okX (g : List Val → Hs → Option XR) : List Val → Hs → Option Val := fun xs h => (g xs h).bind fun r => match r with
  | .ok x => some x
  | .error _ => none
/-- what must hold behind -/
def EndX (F : Fm) (ℓ : Lv) (h : Hs) (A : As) (σ : L2.St) (H : Hp) (Q : VK) : XR → Prop
  | .ok x => ∀ v H1, Ex H H1 → RV F ℓ h A H1 x v → Q v H1
  | .error (j, n) => ∀ d H1, Ex H H1 → H1 d = some (.xd [(("place" : Str), V.int n)]) → F.wx (.ref (F.xc j)) (some d) σ H1
def tXl (F : Fm) (ℓ : Lv) (m : XQ) : TE := fun σ H Q => ∃ env h A r, SR F env h A σ H ∧ m env h = some r ∧ EndX F ℓ h A σ H Q r
abbrev SimXl (X : Cx) (F : Fm) (ℓ : Lv) (e : Expr) (m : XQ) : Prop := PE X e (tXl F ℓ m)
def xNl (m : XQ) : XQ := fun env h => (m env h).bind fun r => match r with
  | .ok (.d d) => if nl d = true then some (.ok (.d d)) else none
  | r => some r
def x2 (g : Hs → Val → Val → Option Val) (m : XQ) (b : Q1) : XQ := fun env h => (m env h).bind fun r => match r with
  | .ok x => (b env h).bind fun y => (g h x y).map .ok
  | .error p => some (.error p)
abbrev XT := En → Hs → Option (Except (Nat × Int) Bool)
def xV (m : XQ) : XT := fun env h => (m env h).bind fun r => match r with
  | .ok (.d d) => (gTru d).map .ok
  | .ok _ => none
  | .error p => some (.error p)
def tTX (F : Fm) (t : XT) : TT := fun σ H Q => ∃ env h A r, SR F env h A σ H ∧ t env h = some r ∧ match r with
  | .ok b => ∀ H', Ex H H' → Q b H'
  | .error (j, n) => ∀ d H1, Ex H H1 → H1 d = some (.xd [(("place" : Str), V.int n)]) → F.wx (.ref (F.xc j)) (some d) σ H1
abbrev SimTX (X : Cx) (F : Fm) (e : Expr) (t : XT) : Prop := PT X e (tTX F t)
def mSetX (i : Nat) (m : XQ) : M1 := fun env h => (m env h).bind fun r => match r with
  | .ok x => some (.nx, env.set i (.v x), h)
  | .error (j, n) => some (.ex j n, env, h)
def mAsgX (m : XQ) (b : B1) : M1 := fun env h => (m env h).bind fun r => match r with
  | .ok (.d d) => (b d env).bind fun env' => some (.nx, env', h)
  | .ok _ => none
  | .error (j, n) => some (.ex j n, env, h)
def mRetX (ℓ : Lv) (m : XQ) : M1 := fun env h => (m env h).bind fun r => match r with
  | .ok x => some (.rt ℓ x, env, h)
  | .error (j, n) => some (.ex j n, env, h)
def mExprX (m : XQ) : M1 := fun env h => (m env h).bind fun r => match r with
  | .ok _ => some (.nx, env, h)
  | .error (j, n) => some (.ex j n, env, h)
def mIfX (t : XT) (a b : M1) : M1 := fun env h => (t env h).bind fun r => match r with
  | .ok c => if c = true then a env h else b env h
  | .error (j, n) => some (.ex j n, env, h)
def whGoX (vs : List Nat) (t : XT) (body : M1) : Nat → M1
  | 0, _, _ => none
  | n + 1, env, h => (t env h).bind fun b => match b with
    | .error (j, p) => some (.ex j p, env, h)
    | .ok b => if b = true then (body env h).bind fun r => match r.1 with
        | .nx => whGoX vs t body n (wipeE r.2.1 vs) r.2.2
        | .ct => whGoX vs t body n (wipeE r.2.1 vs) r.2.2
        | .bk => some (.nx, wipeE r.2.1 vs, r.2.2)
        | _ => some r
      else some (.nx, env, h)
def mWhileX (fuel : Nat) (vs : List Nat) (t : XT) (body : M1) : M1 := fun env h => whGoX vs t body fuel (wipeE env vs) h
section
variable {F : Fm} {X : Cx} {a b e c : Expr} {es : List Expr} {x : Str} {f : Addr} {fd : FuncData} {ps : List Str} {k n : Nat} {p pos pos2 : Pos} {q qb : Q1} {m : XQ} {t : XT} {ℓ ℓ₁ ℓ₂ : Lv} {body orelse : List Stmt} {g : List Val → Hs → Option XR} {ar : En → Hs → Option (List Val)} {G : Glo} {xc : Nat → Addr} {ma mb : M1}
theorem spX_ar {vs : List V} {H : Hp} {Q : VK} {E : XK} (h : spX G xc n (arity n g) vs H Q E) : spX G xc n g vs H Q E := by
  obtain ⟨F, env, h, A, σ, args, y, hG, R, r, hn, e, kk⟩ := h
  exact ⟨F, env, h, A, σ, args, y, hG, R, r, hn, by simpa [arity, hn] using e, kk⟩
theorem sx_call (U : FnOk X.prog X.w X.K X.mg X.base (L2.CX X.prog X.w) k f fd ps (spX G xc n g)) (hG : F.G = G) (hxc : F.xc = xc) (tk : Takes X F.wx) (hr : Room k X.A) (hm : X.mg x = some (.ref f)) (hk : PySem.W.keepIn X.K (.ref f) = true) (hb : Binds X.K fd ps []) (ha : SimA X F .mo (e :: es) ar)
    (hg : Gl X x := by rfl) (hdb : (x == ("__debug__" : Str)) = false := by decide) (he : starEach (e :: es) X.env = (false, eval e X.env) :: starEach es X.env := by rfl) (hpl : (backTo pos (starEach es X.env)).any (·.1) = false := by rfl) :
    SimXl X F .mo (.Call (.Name x p) (e :: es) [] pos) (xCall (arity n g) ar) :=
  PEimp (pe_callS (E := fun σ => WE F.wx σ) (U.imp fun _ _ _ _ => spX_ar) hr hg hm hk hb (fun σ => passAt tk σ) ha hdb he hpl) fun σ H Q ⟨env, h, A, z, R, e, k⟩ => by
    obtain ⟨xs, ex, e⟩ := bind_some e
    refine ⟨env, h, A, xs, R, ex, fun vs H1 e1 rs => ?_⟩
    refine ⟨F, env, h, A, σ, xs, z, hG, R.ex e1, rs, arity_n _ _ _ e, e, ?_⟩
    cases z with
    | ok x => exact fun v H' e2 rv => k v H' (e1.trans e2) rv
    | error jn =>
      obtain ⟨j, n⟩ := jn
      subst hxc
      exact fun d H' e2 hd => k d H' (e1.trans e2) hd
theorem sq_callX (U : FnOk X.prog X.w X.K X.mg X.base (L2.CX X.prog X.w) k f fd ps (spX G xc n g)) (hG : F.G = G) (hr : Room k X.A) (hm : X.mg x = some (.ref f)) (hk : PySem.W.keepIn X.K (.ref f) = true) (hb : Binds X.K fd ps []) (ha : SimA X F .mo (e :: es) ar)
    (hg : Gl X x := by rfl) (hdb : (x == ("__debug__" : Str)) = false := by decide) (he : starEach (e :: es) X.env = (false, eval e X.env) :: starEach es X.env := by rfl) (hpl : (backTo pos (starEach es X.env)).any (·.1) = false := by rfl) :
    SimQ X F .mo (.Call (.Name x p) (e :: es) [] pos) (qCall (arity n (okX g)) ar) :=
  PEimp (pe_callS (E := fun _ _ _ _ => False) U hr hg hm hk hb (fun σ => fun _ _ _ _ _ _ c => by obtain ⟨_, _, _, _, _, _, _, _, _, _, _, _, z⟩ := c; exact z.elim) ha hdb he hpl) fun σ H Q ⟨env, h, A, z, R, e, k⟩ => by
    obtain ⟨xs, ex, e⟩ := bind_some e
    have hn := arity_n _ _ _ e
    unfold arity at e
    rw [if_pos hn] at e
    obtain ⟨r, er, e⟩ := bind_some e
    refine ⟨env, h, A, xs, R, ex, fun vs H1 e1 rs => ?_⟩
    refine ⟨F, env, h, A, σ, xs, r, hG, R.ex e1, rs, hn, er, ?_⟩
    cases r with
    | ok x => cases e; exact fun v H' e2 rv => k v H' (e1.trans e2) rv
    | error jn => cases e
theorem sx_nl (ha : SimXl X F ℓ₁ a m) : SimXl X F ℓ a (xNl m) := PEimp ha fun σ H Q ⟨env, h, A, z, R, e, k⟩ => by
  obtain ⟨r, ex, e⟩ := bind_some e
  refine ⟨env, h, A, r, R, ex, ?_⟩
  cases r with
  | error jn => cases e; exact k
  | ok x =>
    intro v H1 e1 rv
    cases x with
    | d d =>
      simp only at e
      split at e
      · next hn => cases e; exact k v H1 e1 (Rep.nl d v hn rv)
      · cases e
    | ref n => cases e; exact k v H1 e1 rv
    | fn n => cases e; exact k v H1 e1 rv
theorem sx_cmp {op : CmpOp} {g : Hs → Val → Val → Option Val} (o : BinS X F ℓ₁ ℓ₂ ℓ (compareOp op) g) (ha : SimXl X F ℓ₁ a m) (hb : SimQ X F ℓ₂ b qb) (hm : behindInMarks op b = false) : SimXl X F ℓ (.Compare a [op] [b] pos) (x2 g m qb) := by
  obtain ⟨r, h1, h2⟩ := o
  refine PEimp (pe_cmpR h1 ha hb hm) fun σ H Q ⟨env, h, A, z, R, e, k⟩ => ?_
  obtain ⟨y, ex, e⟩ := bind_some e
  refine ⟨env, h, A, y, R, ex, ?_⟩
  cases y with
  | error jn =>
    obtain ⟨j, n⟩ := jn
    cases e
    exact fun d H1 e1 hd => k d H1 e1 hd
  | ok x =>
    intro v H1 e1 rv
    obtain ⟨y, ey, e⟩ := bind_some e
    obtain ⟨w, ew, rfl⟩ := Option.map_eq_some_iff.mp e
    refine ⟨env, h, A, y, R.ex e1, ey, fun u H2 e2 ru => ?_⟩
    exact h2 env h A σ H2 x y v u w ((R.ex e1).ex e2) (rv.ex e2) ru ew Q fun v' H' e3 rz => k v' H' ((e1.trans e2).trans e3) rz
theorem stx_v (hK : X.K = F.G.K) (ha : SimXl X F .mo a m) (he : ∀ whole, isTrue a X.env whole = (do let v ← whole; standAt a.pos; holding [v] (truthy v)) := by intro _; rfl) : SimTX X F a (xV m) := PTimp (pt_truth ha he) fun σ H Q ⟨env, h, A, k, R, e, q⟩ => by
  obtain ⟨r, ex, e⟩ := bind_some e
  refine ⟨env, h, A, r, R, ex, ?_⟩
  cases r with
  | error jn =>
    obtain ⟨j, n⟩ := jn
    cases e
    exact fun d H1 e1 hd => q d H1 e1 hd
  | ok x =>
    intro v H1 e1 rv
    cases x with
    | d d =>
      obtain ⟨b, eb, rfl⟩ := Option.map_eq_some_iff.mp e
      exact ⟨b, by rw [hK]; exact truV_of rv eb, q H1 e1⟩
    | ref n => cases e
    | fn n => cases e
/-! ### statements -/
theorem ss_setX {i : Nat} {x : Str} {p2 : Pos} (hN : X.N.Nodup) (hi : X.N[i]? = some x) (hx : Loc X.env.scope x) (he : SimXl X F .fs e m) (hs : swapsWith e (some (.Name x p2)) pos.line X.env = pure false := by rfl) (hf : X.fn x = true ∨ X.env.scope.names.lookup x = some .local := by first | exact .inl rfl | exact .inr rfl | assumption) :
    SimS X F (.Assign [.Name x p2] e pos) (mSetX i m) := PSimp (ps_set hN hi hx he hs hf) fun D σ H ⟨env, h, A, r, env', h', R, e, k⟩ => by
  obtain ⟨y, ex, e⟩ := bind_some e
  refine ⟨env, h, A, y, R, ex, ?_⟩
  cases y with
  | ok x => cases e; exact fun v H1 e1 rv => k _ H1 A ((R.ex e1).setV rv) (Ex.pres e1)
  | error jn => obtain ⟨j, n⟩ := jn; cases e; exact fun d H1 e1 hd => k σ H1 A d (R.ex e1) (Ex.pres e1) hd
theorem ss_asgX {tg : Expr} {ss : List Nat} {b : B1} (he : SimXl X F .fs e m) (hg : PG X tg (tGt F ss b)) (hs : swapsWithSole [tg] e pos.line X.env = pure false := by rfl) (hw : swappedStores [tg] e X.env = pure none := by rfl)
    (h1 : (assignEach [tg] X.env).map (·.2) = [assign tg X.env] := by rfl) : SimS X F (.Assign [tg] e pos) (mAsgX m b) := PSimp (ps_asg he hg hs hw h1) fun D σ H ⟨env, h, A, r, env', h', R, e, k⟩ => by
  obtain ⟨y, ex, e⟩ := bind_some e
  refine ⟨env, h, A, y, R, ex, ?_⟩
  cases y with
  | error jn => obtain ⟨j, n⟩ := jn; cases e; exact fun d H1 e1 hd => k σ H1 A d (R.ex e1) (Ex.pres e1) hd
  | ok x =>
    cases x with
    | d d =>
      obtain ⟨env1, eb, e⟩ := bind_some e
      cases e
      exact fun v H1 e1 rv => ⟨env, h, A, d, _, R.ex e1, rv, eb, fun σ' H' x1 R1 _ _ => k σ' H' A R1 ((Ex.pres e1).trans (Ex.pres x1))⟩
    | ref n => cases e
    | fn n => cases e
theorem ss_retX (he : SimXl X F ℓ e m) : SimS X F (.Return (some e) pos) (mRetX ℓ m) := PSimp (ps_ret he) fun D σ H ⟨env, h, A, r, env', h', R, e, k⟩ => by
  obtain ⟨y, ex, e⟩ := bind_some e
  refine ⟨env, h, A, y, R, ex, ?_⟩
  cases y with
  | ok x => cases e; exact fun v H1 e1 rv => k σ H1 A v (R.ex e1) (Ex.pres e1) rv
  | error jn => obtain ⟨j, n⟩ := jn; cases e; exact fun d H1 e1 hd => k σ H1 A d (R.ex e1) (Ex.pres e1) hd
theorem ss_exprX (he : SimXl X F ℓ e m) (hs : swapsWith e none pos.line X.env = pure false := by rfl) : SimS X F (.Expr e pos) (mExprX m) := PSimp (ps_expr he hs) fun D σ H ⟨env, h, A, r, env', h', R, e, k⟩ => by
  obtain ⟨y, ex, e⟩ := bind_some e
  refine ⟨env, h, A, y, R, ex, ?_⟩
  cases y with
  | ok x => cases e; exact fun v H1 e1 rv => k σ H1 A (R.ex e1) (Ex.pres e1)
  | error jn => obtain ⟨j, n⟩ := jn; cases e; exact fun d H1 e1 hd => k σ H1 A d (R.ex e1) (Ex.pres e1) hd
theorem ss_whileX (fuel : Nat) (vs : List Nat) (hp : PassesOwn (model X.prog X.w) X.A X.env X.xe) (hc : SimTX X F c t) (hb : SimB X F body mb) : SimS X F (.While c body [] pos) (mWhileX fuel vs t mb) := PSimp (ps_while hp hc hb) fun D σ H ⟨env, h, A, r, env', h', R, e, k⟩ => by
  refine ⟨fun m σ Hc => Pres H Hc ∧ ∃ env h A, SR F env h A σ Hc ∧ whGoX vs t mb m env h = some (r, env', h'), ⟨fuel, Pres.refl _, _, h, A, R.wipeS vs, e⟩, ?_⟩
  rintro m σ Hc ⟨P, env2, h2, A2, R2, e2⟩
  cases m with
  | zero => cases e2
  | succ m =>
    obtain ⟨b, eb, e2⟩ := bind_some e2
    refine ⟨env2, h2, A2, b, R2, eb, ?_⟩
    cases b with
    | error jn =>
      obtain ⟨j, n⟩ := jn
      cases e2
      exact fun d H1 e1 hd => k σ H1 A2 d (R2.ex e1) (P.trans (Ex.pres e1)) hd
    | ok b =>
      intro H1 e1
      cases b with
      | false => cases e2; exact k σ H1 A2 (R2.ex e1) (P.trans (Ex.pres e1))
      | true =>
        obtain ⟨⟨r3, env3, h3⟩, e3, e4⟩ := bind_some e2
        refine ⟨fun σ' H' => Pres H H' ∧ ∃ env h A, SR F env h A σ' H' ∧ whGoX vs t mb m env h = some (r, env', h'), fun σ' H' z => ⟨m, Nat.lt_succ_self _, z⟩, env2, h2, A2, r3, env3, h3, R2.ex e1, e3, ?_⟩
        have P5 : Pres H H1 := P.trans (Ex.pres e1)
        cases r3 with
        | nx => exact fun σ' H' A' R' P' => ⟨P5.trans P', _, h3, A', R'.wipeS vs, e4⟩
        | ct => exact fun σ' H' A' R' P' => ⟨P5.trans P', _, h3, A', R'.wipeS vs, e4⟩
        | bk => cases e4; exact fun σ' H' A' R' P' => k σ' H' A' (R'.wipeS vs) (P5.trans P')
        | rt ℓ x => cases e4; exact k.pre P5
        | rf xs => cases e4; exact k.pre P5
        | ex _ _ => cases e4; exact k.pre P5
end
end Sm

set_option Elab.async false
set_option linter.all false
set_option maxRecDepth 100000
set_option maxHeartbeats 1000000
namespace Sm
open PySem L2 Evl Sx

/-! ### try: .. except X as n: y = n.place, and: .. return n.place -/
/-- j: which error; i: the slot of n; b: the slot of y -/
def mTryA (j i b : Nat) (mb : M1) : M1 := fun env h => (mb env h).bind fun r => match r with
  | (.ex j' n, env', h') => if j' = j ∧ i < env'.length then some (.nx, ((env'.set i .un).set b (.v (.d (.int n)))).set i .un, h') else none
  | r => some r
def mTryR (j i : Nat) (mb : M1) : M1 := fun env h => (mb env h).bind fun r => match r with
  | (.ex j' n, env', h') => if j' = j ∧ i < env'.length then some (.rt .st (.d (.int n)), env'.set i .un, h') else none
  | r => some r
section
variable {F : Fm} {X : Cx} {x nm y : Str} {C : Addr} {j i b : Nat} {body : List Stmt} {mb : M1} {np pos pos' p1 p2 p3 p4 : Pos}
theorem Post.unwish {H : Hp} {D : Ends} {r : Flo} {env' : En} {h' : Hs} {xc : Nat → Addr} {wx : Value → Option Addr → L2.St → Hp → Prop} (hr : ∀ j n, r ≠ .ex j n) (q : Post F H D r env' h') : Post { F with xc := xc, wx := wx } H D r env' h' := by
  cases r with
  | nx => exact fun σ' H' A' R p => q σ' H' A' R.unwish p
  | bk => exact fun σ' H' A' R p => q σ' H' A' R.unwish p
  | ct => exact fun σ' H' A' R p => q σ' H' A' R.unwish p
  | rt ℓ x => exact fun σ' H' A' v R p rv => q σ' H' A' v R.unwish p (by cases ℓ <;> exact rv)
  | rf xs => exact fun σ' H' A' p us R pp z1 z2 z3 z4 => q σ' H' A' p us R.unwish pp z1 z2 z3 z4
  | ex j n => exact absurd rfl (hr j n)
/-- what is known of the class for a handler -/
structure XH (X : Cx) (x : Str) (C : Addr) : Prop where
  xf : XfC X.K C
  no : PySem.W.findIn X.K (.ref C) "place" = some none
  te : PySem.W.exmOne X.K (.ref C) (.ref C) = some true
  nm : Names X x (.ref C)
theorem ss_tryA (S : XH X x C) (hs : X.stack = X.env :: X.outer) (hf : X.env.frame = some X.env.locals) (hN : X.N.Nodup) (hi : X.N[i]? = some nm) (hln : X.env.kindOf nm = some .local) (hb : X.N[b]? = some y) (hy : Loc X.env.scope y) (hx : F.xc j = C) (tk : Takes X F.wx)
    (hB : ∀ (W : WX) (pn : List (Addr × Obj)) (xe : Value → Shared → Prop), Takes (X.tr pn xe) W → PassesOwn (model X.prog X.w) X.A X.env xe → SimB (X.tr pn xe) { F with wx := W } body mb)
    (hd : (nm == ("__debug__" : Str)) = false := by decide) (hcd : (nm == ("__classdict__" : Str)) = false := by decide) (hat : attributeBase (.Name nm p2) "place" X.env (eval (.Name nm p2) X.env) = eval (.Name nm p2) X.env := by rfl)
    (hsw : swapsWith (.Attribute (.Name nm p2) "place" p3) (some (.Name y p1)) p4.line X.env = pure false := by rfl) (hfn : X.fn y = true ∨ X.env.scope.names.lookup y = some .local := by first | exact .inl rfl | exact .inr rfl | assumption) :
    SimS X F (.Try body [.ExceptHandler (some (.Name x np)) (some nm) [.Assign [.Name y p1] (.Attribute (.Name nm p2) "place" p3) p4] pos'] [] [] pos) (mTryA j i b mb) := by
  refine PSimp (ps_try_as (i := i) (tb := fun W => tS { F with wx := W } mb) (ts := fun a cls d => tAsg (tXf a cls d C "place" (tVar i)) (gName b)) hs hf hN hi hln S.nm tk hB (fun a oe cls d pn hz hfl => pss_one (ps_set (X := X.suite a ((a, oe) :: pn)) hN hb hy (pe_xf S.xf S.no hz hfl (pe_var (X := X.suite a ((a, oe) :: pn)) hi (.inl hln) hd hcd) hat) hsw hfn))) fun D σ H ⟨env, h, A, r, env', h', R, e, k⟩ => ?_
  obtain ⟨⟨r1, env1, h1⟩, e1, e2⟩ := bind_some e
  refine ⟨env, h, A, r1, env1, h1, R.wish _ _, e1, ?_⟩
  by_cases hr : ∀ j n, r1 ≠ .ex j n
  · have e3 : (r, env', h') = (r1, env1, h1) := by
      cases r1 with
      | ex j n => exact absurd rfl (hr j n)
      | _ => exact (Option.some.inj e2).symm
    cases e3
    exact k.unwish hr
  · cases r1 with
    | ex j' n =>
      simp only at e2
      split at e2
      · next hj =>
        obtain ⟨rfl, hlt⟩ := hj
        cases e2
        intro σ' H' A' d R' P hd'
        refine ⟨true, by show PySem.W.exmOne X.K (.ref (F.xc j')) (.ref C) = some true; rw [hx]; exact S.te, fun _ a ha => ?_, fun z => by cases z⟩
        have R0 := R'.unwish
        refine ⟨.ref a, by rw [List.getElem?_set_self (by rw [R0.ln]; exact hlt)], rfl, by show Value.ref (F.xc j') = _; rw [hx], d, _, .int n, rfl, hd', by simp [List.lookup], ?_⟩
        exact k _ H' A' (((R0.setUn' (i := i) (o := some (.ref a))).setV (i := b) (x := .d (.int n)) (v := .int n) (by simp [RepV, Rep])).setUn' (i := i) (o := none)) P
      · cases e2
    | _ => exact absurd (fun j n z => by cases z) hr
theorem ss_tryR (S : XH X x C) (hs : X.stack = X.env :: X.outer) (hf : X.env.frame = some X.env.locals) (hN : X.N.Nodup) (hi : X.N[i]? = some nm) (hln : X.env.kindOf nm = some .local) (hx : F.xc j = C) (tk : Takes X F.wx)
    (hB : ∀ (W : WX) (pn : List (Addr × Obj)) (xe : Value → Shared → Prop), Takes (X.tr pn xe) W → PassesOwn (model X.prog X.w) X.A X.env xe → SimB (X.tr pn xe) { F with wx := W } body mb)
    (hd : (nm == ("__debug__" : Str)) = false := by decide) (hcd : (nm == ("__classdict__" : Str)) = false := by decide) (hat : attributeBase (.Name nm p2) "place" X.env (eval (.Name nm p2) X.env) = eval (.Name nm p2) X.env := by rfl) :
    SimS X F (.Try body [.ExceptHandler (some (.Name x np)) (some nm) [.Return (some (.Attribute (.Name nm p2) "place" p3)) p4] pos'] [] [] pos) (mTryR j i mb) := by
  refine PSimp (ps_try_as (i := i) (tb := fun W => tS { F with wx := W } mb) (ts := fun a cls d => tRet (tXf a cls d C "place" (tVar i))) hs hf hN hi hln S.nm tk hB (fun a oe cls d pn hz hfl => pss_one (ps_ret (X := X.suite a ((a, oe) :: pn)) (pe_xf S.xf S.no hz hfl (pe_var (X := X.suite a ((a, oe) :: pn)) hi (.inl hln) hd hcd) hat)))) fun D σ H ⟨env, h, A, r, env', h', R, e, k⟩ => ?_
  obtain ⟨⟨r1, env1, h1⟩, e1, e2⟩ := bind_some e
  refine ⟨env, h, A, r1, env1, h1, R.wish _ _, e1, ?_⟩
  by_cases hr : ∀ j n, r1 ≠ .ex j n
  · have e3 : (r, env', h') = (r1, env1, h1) := by
      cases r1 with
      | ex j n => exact absurd rfl (hr j n)
      | _ => exact (Option.some.inj e2).symm
    cases e3
    exact k.unwish hr
  · cases r1 with
    | ex j' n =>
      simp only at e2
      split at e2
      · next hj =>
        obtain ⟨rfl, hlt⟩ := hj
        cases e2
        intro σ' H' A' d R' P hd'
        refine ⟨true, by show PySem.W.exmOne X.K (.ref (F.xc j')) (.ref C) = some true; rw [hx]; exact S.te, fun _ a ha => ?_, fun z => by cases z⟩
        have R0 := R'.unwish
        refine ⟨.ref a, by rw [List.getElem?_set_self (by rw [R0.ln]; exact hlt)], rfl, by show Value.ref (F.xc j') = _; rw [hx], d, _, .int n, rfl, hd', by simp [List.lookup], ?_⟩
        exact k _ H' A' (.int n) (R0.setUn' (i := i) (o := some (.ref a))) P vi
      · cases e2
    | _ => exact absurd (fun j n z => by cases z) hr
end
end Sm

set_option Elab.async false
set_option linter.all false
set_option maxRecDepth 100000
set_option maxHeartbeats 2000000
namespace Sx
open PySem L2 PyProof.Rows

/-! ### what the head tells of an own error -/
structure ErrD where
  x : Str
  msg : Str
  qual : Str
  T : IPos
abbrev ErrW : Type := Option (Str × Str × Arguments × FuncBody × Scope × Addr × List Str × Addr)
def errC (K : PySem.W.Frag) (d : ErrD) : Addr := He.ga K d.x
def errF (K : PySem.W.Frag) (d : ErrD) : Addr := He.ma K (errC K d) "__init__"
def errW (K : PySem.W.Frag) (d : ErrD) : ErrW := match K.lookup (errF K d) with
  | some ⟨_, _, .func fd, _⟩ => some (fd.name, fd.qualname, fd.params, fd.body, fd.scope, fd.globals, fd.closure.map (·.1), fd.builtins)
  | _ => none
def ErrD.val (d : ErrD) : ErrW := some ("__init__", d.qual, iA d.T, .stmts (iB d.T d.msg), iS, mainGlobals, ["__class__"], builtinsNs)
def clsB (K : PySem.W.Frag) (C : Addr) : Bool := match K.lookup C with
  | some ⟨.type c, _, .cls cd, sl⟩ => decide (c = "type") && (cd.hasDict && (!cd.hasDel && match cd.mro, sl.toList with
    | .ref C' :: bm, [_, _, _, _, some (.builtin n), _] => decide (C' = C) && (decide (n = "ValueError.__new__") && PySem.HandSPX.refsVE bm)
    | _, _ => false))
  | _ => false
theorem clsB_ok {K : PySem.W.Frag} {C : Addr} (h : clsB K C = true) : ∃ nm q N bs bm sn sub ab col dd k0 k1 k2 k3 k5, K.lookup C = some (excClassObj nm q C N bs bm true sn sub ab col dd k0 k1 k2 k3 k5 "ValueError.__new__") ∧ PySem.HandSPX.refsVE bm = true := by
  unfold clsB at h
  split at h
  · next c dd cd sl hk =>
    simp only [Bool.and_eq_true, decide_eq_true_eq, Bool.not_eq_true'] at h
    obtain ⟨rfl, h1, h2, h3⟩ := h
    split at h3
    · next C' bm k0 k1 k2 k3 n k5 hm hs =>
      simp only [Bool.and_eq_true, decide_eq_true_eq] at h3
      obtain ⟨rfl, rfl, h4⟩ := h3
      obtain ⟨nm, bs, mro, ns, qn, hd, sn, sub, ab, col, del⟩ := cd
      dsimp only at hm h1 h2
      subst hm h1 h2
      obtain ⟨l⟩ := sl
      simp only at hs
      subst hs
      exact ⟨_, _, _, _, _, _, _, _, _, _, _, _, _, _, _, hk, h4⟩
    · cases h3
  · cases h
def ovB (a : Option (Option Value)) (b : Option (Option Value)) : Bool := decide (a = b)
def errB (P : Program) (K : PySem.W.Frag) (d : ErrD) : Bool := decide (d.msg.length ≤ 1000) && (clsB K (errC K d) && (ovB (PySem.W.findIn K (.ref (errC K d)) "__setattr__") (some (some (.builtin "object.__setattr__"))) &&
  (decide (PySem.W.subIn K (.ref (errC K d)) (.type "BaseException") = some true) && (decide (PySem.W.typeIn K (.ref (errC K d)) = some (.type "type")) && (PySem.W.keepIn K (.ref (errC K d)) &&
  (ovB (PySem.W.findIn K (.ref (errC K d)) "__init__") (some (some (.ref (errF K d)))) && (decide (PySem.W.typeIn K (.ref (errF K d)) = some (.type "function")) &&
  (ovB (PySem.W.nsIn K mainGlobals d.x) (some (some (.ref (errC K d)))) && (xfB K (errC K d) && (ovB (PySem.W.findIn K (.ref (errC K d)) "place") (some none) && (decide (PySem.W.exmOne K (.ref (errC K d)) (.ref (errC K d)) = some true) &&
  (ovB (PySem.W.nsIn K mainGlobals "super") (some none) && (ovB (PySem.W.nsIn K mainGlobals "str") (some none) && (ovB (PySem.W.nsIn K cStatics "thirdparty.any") (some none) &&
  (ovB (PySem.W.ks_superIn K (errC K d) (errC K d) "__init__") (some (some (.builtin "ValueError.__init__"))) && (decide (PySem.W.subIn K (.ref (errC K d)) (.type "ValueError") = some true) && (decide (PySem.W.mroIn K (errC K d) (.ref (errC K d)) = some true) &&
  (!(P.main.scope.names.lookup ("super" : Str)).isSome && (match K.lookup (errF K d) with
    | some ⟨_, _, .func fd, _⟩ => (match fd.closure, fd.code with
      | [(_, cc)], .ref cda => decide (fd.defaults = .none) && (decide (fd.kwdefaults = .none) && (PySem.W.codeIn K (.ref cda) d.qual && ((match K.lookup cc with
        | some ⟨_, _, .cell (some (.ref D)), _⟩ => decide (D = errC K d)
        | _ => false) && (match K.lookup cda with
        | some ⟨_, _, .fields vs, _⟩ => (match (vs[2]? : Option Value) with
          | some (Value.str f _) => (P.main.file : Str) == f
          | _ => false)
        | _ => false))))
      | _, _ => false)
    | _ => false)))))))))))))))))))
/-- all that is wanted of the class x -/
structure ErrT (P : Program) (w : World) (K : PySem.W.Frag) (mg : Str → Option Value) (base : Heap) (x : Str) (C fI : Addr) : Prop where
  T : OexC K C
  iC : PySem.W.findIn K (.ref C) "__init__" = some (some (.ref fI))
  tI : PySem.W.typeIn K (.ref fI) = some (.type "function")
  fn : ∃ fd, FnOk P w K mg base CX0 1 fI fd ["self", "place"] (spI C) ∧ Binds K fd ["self", "place"] []
  gC : mg x = some (.ref C)
  xf : XfC K C
  no : PySem.W.findIn K (.ref C) "place" = some none
  te : PySem.W.exmOne K (.ref C) (.ref C) = some true
theorem ErrT.xc {X : Cx} {x : Str} {C fI : Addr} (S : ErrT X.prog X.w X.K X.mg X.base x C fI) : Sm.XC X x C fI 1 := ⟨S.T, S.iC, S.tI, S.fn, S.gC⟩
theorem ErrT.xh {X : Cx} {x : Str} {C fI : Addr} (S : ErrT X.prog X.w X.K X.mg X.base x C fI) (hg : Gl X x := by rfl) (hd : (x == ("__debug__" : Str)) = false := by decide) : Sm.XH X x C := ⟨S.xf, S.no, S.te, hg, hd, .inl S.gC⟩
theorem bind_init {K : PySem.W.Frag} {T : IPos} {msg qual : Str} {cc cda : Addr} {doc pm ct : Value} {an : Option Addr} : Binds K (iFd T msg qual cc cda .none .none doc pm an ct) ["self", "place"] [] := fun s us _ hl => by
  match us, hl with
  | [u1, u2], _ => exact BindsTo.of_eq (by first | rfl | with_unfolding_all rfl)
theorem err_ok {P : Program} {K : PySem.W.Frag} {h : Heap} {mg : Str → Option Value} {d : ErrD} (X : K.In h) (N : h.Ns mainGlobals mg) (e1 : errW K d = d.val) (e2 : errB P K d = true)
    (hev : ∀ env : Env, ∃ pl : Sem Bool, eval (.Call (.Attribute (.Call (.Name "super" d.T.p0) [] [] d.T.p1) "__init__" d.T.p2) [iE d.T d.msg] [] d.T.pos) env = (do
      let ov ← attributeBase (.Call (.Name "super" d.T.p0) [] [] d.T.p1) "__init__" env (eval (.Call (.Name "super" d.T.p0) [] [] d.T.p1) env)
      standAt d.T.p2.atName
      let (f, first) ← holding [ov] (getMethod ov "__init__" pl)
      callWith d.T.pos f first (backTo d.T.pos (starEach [iE d.T d.msg] env)) [])) (w : World) (base : Heap) : ErrT P w K mg base d.x (errC K d) (errF K d) := by
  unfold errB ovB at e2
  simp only [Bool.and_eq_true, decide_eq_true_eq, Bool.not_eq_true'] at e2
  obtain ⟨b0, b1, b2, b3, b4, b5, b6, b7, b8, b9, b10, b11, b12, b13, b14, b15, b16, b17, b18, b19⟩ := e2
  split at b19
  · next oc od fd osl hk =>
    split at b19
    · next nm cc cda hcl hco =>
      simp only [Bool.and_eq_true, decide_eq_true_eq] at b19
      obtain ⟨d1, d2, c1, c2, c3⟩ := b19
      have TC : OexC K (errC K d) := ⟨clsB_ok b1, b2, b3, b4, b5⟩
      refine ⟨TC, b6, b7, ?_, PySem.W.mg_of X N b8, xfB_ok b9, b10, b11⟩
      unfold errW ErrD.val at e1
      rw [hk] at e1
      obtain ⟨n1, n2, n3, n4, n5, n6, n7, n8, n9, n10, n11, n12, n13, n14, n15⟩ := fd
      simp only at hcl hco d1 d2
      subst hcl hco d1 d2
      simp only [Option.some.injEq, Prod.mk.injEq, List.map_cons, List.map_nil, List.cons.injEq, and_true] at e1
      obtain ⟨h1, h2, h3, h4, h5, h6, h7, h8⟩ := e1
      subst h1 h2 h3 h4 h5 h6 h7 h8
      refine ⟨_, fn_init hev hk c1 b0 ?_ ?_ b18 (PySem.W.mg_none_of X N b12) (PySem.W.mg_none_of X N b13) b14 b15 b16 b17 b10 TC, bind_init⟩
      · split at c3
        · next oc2 od2 vs sl2 hk2 =>
          split at c3
          · next f t hv => exact ⟨_, vs, f, t, hk2, rfl, hv, c3⟩
          · cases c3
        · cases c3
      · split at c2
        · next hk2 =>
          have := of_decide_eq_true c2
          subst this
          exact ⟨_, hk2, rfl⟩
        · cases c2
    · cases b19
  · cases b19
end Sx

set_option Elab.async false
set_option linter.all false
set_option maxRecDepth 100000
set_option maxHeartbeats 2000000
namespace Sm
open PySem L2 Evl Sx
/-! ### the head with constants and own errors -/
def SaysE (fa : List He.Fa) (fn : List He.DefD) (cs : List (Str × PyData)) (P : Program) (es : List ErrD) (K : PySem.W.Frag) : Prop := SaysX fa fn cs K ∧ es.all (errB P K) = true ∧ es.map (errW K) = es.map ErrD.val
abbrev ObE : Type := (He.AlD × Bool) × (Bool × List ErrW)
/-- the part of the heap that is told: what the module's names reach, and the statics -/
def partE (n : Nat) (g : Addr → Option Obj) : PySem.W.Frag := He.frG g (cStatics :: He.asD g n)
def obsE (n : Nat) (fa : List He.Fa) (fn : List He.DefD) (cs : List (Str × PyData)) (P : Program) (es : List ErrD) (g : Addr → Option Obj) : ObE := ((He.obsD fa fn (partE n g), consB cs (partE n g)), (es.all (errB P (partE n g)), es.map (errW (partE n g))))
def hookE (n : Nat) (fa : List He.Fa) (fn : List He.DefD) (cs : List (Str × PyData)) (P : Program) (es : List ErrD) : PySem.W.Hook where
  α := ObE
  obs := fun s => obsE n fa fn cs P es s.heap.get?
  val := fun _ => ((He.valD fn, true), (true, es.map ErrD.val))
  says := fun _ h => ∃ K : PySem.W.Frag, K.In h ∧ SaysE fa fn cs P es K
  of := fun _ _ e => ⟨_, He.frG_in, ⟨congrArg (fun z : ObE => z.1.1) e, congrArg (fun z : ObE => z.1.2) e⟩, congrArg (fun z : ObE => z.2.1) e, congrArg (fun z : ObE => z.2.2) e⟩
  keeps := fun _ _ _ ⟨K, hK, c⟩ k => ⟨K, PySem.W.Frag.In.keeps hK k, c⟩
theorem obsE_eq {n : Nat} {fa : List He.Fa} {fn : List He.DefD} {cs : List (Str × PyData)} {P : Program} {es : List ErrD} {g : Addr → Option Obj} {s : Shared} (h : ∀ a, g a = s.heap.get? a) : obsE n fa fn cs P es g = (hookE n fa fn cs P es).obs s := by
  have e : g = s.heap.get? := funext h
  rw [e] <;> rfl
theorem SaysE.err {fa : List He.Fa} {fn : List He.DefD} {cs : List (Str × PyData)} {P : Program} {es : List ErrD} {K : PySem.W.Frag} (c : SaysE fa fn cs P es K) (i : Nat) {d : ErrD} (e : es[i]? = some d := by rfl) : errW K d = d.val ∧ errB P K d = true := by
  refine ⟨?_, List.all_eq_true.mp c.2.1 d (List.mem_of_getElem? e)⟩
  have q := congrArg (fun l : List ErrW => l[i]?) c.2.2
  simp only [List.getElem?_map, e, Option.map_some] at q
  exact Option.some.inj q
/-! ### defs that catch, and let nothing out -/
section
variable {P : Program} {w : World} {K : PySem.W.Frag} {mg : Str → Option Value} {base : Heap} {x qual : Str} {st : Stmt} {f : Addr} {fd : FuncData} {N ps : List Str} {k : Nat} {G : Glo} {xc : Nat → Addr} {m : M1}
theorem fn_qt (U : Fun K x qual st f fd) (S : FnScope N ps (defScope st)) (hl : ps.length ≤ N.length)
    (hb : ∀ (cdv : Value) (A : Around) (outer : List Env) (s : Shared) (H : Hp) (E : XK), Room k (A.deeper (PyProof.Rows.envOfC qual (defScope st) s.heap.objs.size f cdv)) → ∀ F : Fm, F.G = G → F.xc = xc → F.wx = (fun _ _ _ _ => False) → SimB (cxOf CX0 P w K mg base N qual (defScope st) f cdv A outer s H E).nox F (defBody st) m) :
    FnOk P w K mg base CX0 (k + 1) f fd ps (spQ G ps.length (runQ (N.length - ps.length) m)) := by
  refine U.ok S (fun vs H Q E h => ?_) (fun cdv A outer s H vs Q E hr h => ?_)
  · obtain ⟨F, env, h, A, σ, args, y, _, _, r, hn, _⟩ := h
    rw [← Paired.len r, hn]
  · obtain ⟨F, env, hh, As, σ, args, y, hG, R, r, hn, e, kk⟩ := h
    obtain ⟨⟨r1, env1, h1⟩, e1, e2⟩ := bind_some e
    have R0 : SR (Fm.cal G false hh As H) [] hh As [] H := by
      have := R.start false
      rw [hG] at this
      exact this
    have R1 := R0.args (N := N) (Paired.imp (fun _ _ z => cal_fs hG z) r) (by omega)
    rw [hn] at R1
    refine ⟨tS { Fm.cal G false hh As H with xc := xc, wx := fun _ _ _ _ => False } m, hb cdv A outer s H E hr _ rfl rfl rfl, _, hh, As, r1, env1, h1, R1.wish _ _, e1, ?_⟩
    cases r1 with
    | nx =>
      cases e2
      exact fun σ' H' A' R' _ => kk _ H' (cal_ex R'.unwish) vn
    | bk => cases e2
    | ct => cases e2
    | ex j n => cases e2
    | rt ℓ y' =>
      intro σ' H' A' v R' _ rv
      have R' := R'.unwish
      have rv : RV (Fm.cal G false hh As H) ℓ h1 A' H' y' v := by
        cases ℓ <;> exact rv
      have rv' := RV.mo R' rv
      cases y' with
      | d d => cases e2; refine kk v H' (cal_ex R') ?_; subst hG; exact rv'
      | ref n => cases e2
      | fn n => cases e2; refine kk v H' (cal_ex R') ?_; subst hG; exact rv'
    | rf xs =>
      intro σ' H' A' p us R' _ _ hv _ rs
      cases e2
      subst hG
      exact kk _ H' (cal_ex R'.unwish) (vl (ℓ := .mo) (.inl (.inl hv)) (RDs.of_st (F := F) (ℓ := .mo) rs))
end
end Sm

set_option Elab.async false
set_option linter.all false
set_option maxRecDepth 100000
set_option maxHeartbeats 1000000
namespace Sm
open PySem L2 Evl Sx
/-! ### x += e, ints -/
def mAugI (i : Nat) (g : Int → Int → Int) (q : Q1) : M1 := fun env h => match env[i]? with
  | some (.v (.d (.int a))) => (q env h).bind fun x => match x with
    | .d (.int b) => some (.nx, env.set i (.v (.d (.int (g a b)))), h)
    | _ => none
  | _ => none
section
variable {F : Fm} {X : Cx} {e : Expr} {x : Str} {i : Nat} {pos pos' : Pos} {q : Q1} {op : Operator} {g : Int → Int → Int}
theorem ss_augI (hN : X.N.Nodup) (hi : X.N[i]? = some x) (hx : Loc X.env.scope x) (ho : PIp X op (ipI g)) (he : SimQ X F .mo e q) (hf : X.fn x = true ∨ X.env.scope.names.lookup x = some .local := by first | exact .inl rfl | exact .inr rfl | assumption) : SimS X F (.AugAssign (.Name x pos') op e pos) (mAugI i g q) := PSimp (ps_aug hN hi hx he ho hf) fun D σ H ⟨env, h, A, r, env', h', R, e, k⟩ => by
  unfold mAugI at e
  split at e
  · next a hy =>
    obtain ⟨v, e1, rv⟩ := R.sl i _ hy
    obtain rfl : v = V.int a := by simpa [RepV, Rep] using rv
    obtain ⟨y, ey, e⟩ := bind_some e
    have hs : σ[i]? = some (some (V.int a)) := by
      cases hs : σ[i]? with
      | none => rw [hs] at e1; cases e1
      | some o => rw [hs] at e1; exact congrArg some e1
    refine ⟨_, hs, env, h, A, y, R, ey, fun u H1 e2 ru => ?_⟩
    split at e
    · next b =>
      cases e
      cases ri ru
      exact ⟨a, b, rfl, rfl, k _ H1 A ((R.ex e2).setV (i := i) (x := .d (.int (g a b))) (v := .int (g a b)) (by simp [RepV, Rep])) (Ex.pres e2)⟩
    · cases e
  · cases e
/-- f(..) < e as a test, f may raise -/
theorem stx_cmp {ℓ₁ ℓ₂ : Lv} {op : CmpOp} {gg : Hs → Val → Val → Option Val} {a b : Expr} {m : XQ} {qb : Q1} (o : BinS X F ℓ₁ ℓ₂ .st (compareOp op) gg) (ha : SimXl X F ℓ₁ a m) (hb : SimQ X F ℓ₂ b qb) (hm : behindInMarks op b = false) (hg : ∀ h x y z, gg h x y = some z → ∃ k, z = .d (.bool k)) :
    SimTX X F (.Compare a [op] [b] pos) (xV (x2 gg m qb)) := by
  obtain ⟨r, h1, h2⟩ := o
  refine PTimp (pt_cmpR h1 ha hb hm) fun σ H Q ⟨env, h, A, k, R, e, q⟩ => ?_
  obtain ⟨z, ex, e⟩ := bind_some e
  obtain ⟨y, ey, ez⟩ := bind_some ex
  refine ⟨env, h, A, y, R, ey, ?_⟩
  cases y with
  | error jn =>
    obtain ⟨j, n⟩ := jn
    cases ez
    cases e
    exact fun d H1 e1 hd => q d H1 e1 hd
  | ok x =>
    intro v H1 e1 rv
    obtain ⟨y, ey, ez⟩ := bind_some ez
    obtain ⟨w, ew, rfl⟩ := Option.map_eq_some_iff.mp ez
    obtain ⟨c, rfl⟩ := hg _ _ _ _ ew
    refine ⟨env, h, A, y, R.ex e1, ey, fun u H2 e2 ru => ?_⟩
    refine h2 env h A σ H2 x y v u _ ((R.ex e1).ex e2) (rv.ex e2) ru ew _ fun v' H' e3 rz => ?_
    obtain ⟨b, eb, rfl⟩ := Option.map_eq_some_iff.mp e
    cases eb
    exact ⟨_, rb rz, q H' ((e1.trans e2).trans e3)⟩
end
end Sm

set_option Elab.async false
set_option linter.all false
set_option maxRecDepth 100000
set_option maxHeartbeats 1000000
namespace Sm
open PySem L2 Evl Sx
/-! ### ''.join of a list of texts -/
def gJoin (s : Str) : Hs → Val → Option Val := fun _ x => match x with
  | .d (.list ds) => (strsOf ds).bind fun ys => if (ys.map (·.length)).sum + ys.length * s.length ≤ 16777216 then some (.d (.str (Txt.join s ys))) else none
  | _ => none
section
variable {F : Fm} {X : Cx} {a : Expr} {s : Str} {j : Nat} {p1 apos pos : Pos} {ℓ : Lv} {qa : Q1} {ma : E1}
theorem join_in (hK : X.K = F.G.K) {env : En} {h : Hs} {A : As} {σ : L2.St} {H1 : Hp} {x z : Val} {v : V} (e : gJoin s h x = some z) (rv : RV F .mo h A H1 x v) : ∃ p, ∃ ys : List Str, v = V.ref p ∧ (SqL X.K H1 p (ys.map V.str) ∨ SqT X.K H1 p (ys.map V.str)) ∧ (ys.map (·.length)).sum + ys.length * s.length ≤ 16777216 ∧ z = .d (.str (Txt.join s ys)) := by
  rw [hK]
  unfold gJoin at e
  split at e
  · next ds =>
    obtain ⟨ys, e1, e⟩ := bind_some e
    split at e
    · next hn =>
      cases e
      obtain ⟨p, us, rfl, t, r⟩ := rl rv
      rw [strsOf_map e1] at r
      rw [rep_strs r] at t
      exact ⟨p, ys, rfl, .inl t, hn, rfl⟩
    · cases e
  · cases e
theorem sq_join (hK : X.K = F.G.K) (ha : SimQ X F .mo a qa) (hs : starEach [a] X.env = [(false, eval a X.env)] := by rfl) (hbase : attributeBase (.Constant (.str s) j p1) "join" X.env (eval (.Constant (.str s) j p1) X.env) = eval (.Constant (.str s) j p1) X.env := by rfl) (hline : (apos.endLine == pos.line) = true := by rfl) :
    SimQ X F ℓ (.Call (.Attribute (.Constant (.str s) j p1) "join" apos) [a] [] pos) (q1 (gJoin s) qa) := PEimp (pe_join pe_str ha hs hbase hline) fun σ H Q ⟨env, h, A, z, R, e, k⟩ => by
  obtain ⟨x, ex, e⟩ := bind_some e
  refine ⟨⟨s, rfl⟩, env, h, A, x, R, ex, fun v H1 e1 rv => ?_⟩
  obtain ⟨p, ys, rfl, hq, hn, rfl⟩ := join_in (env := env) (σ := σ) hK e rv
  exact ⟨s, p, ys, rfl, rfl, hq, hn, k _ H1 e1 (by cases ℓ <;> simp [RV, RepV, Rep])⟩
theorem se_join (hK : X.K = F.G.K) (ha : SimE X F .fs a ma) (hs : starEach [a] X.env = [(false, eval a X.env)] := by rfl) (hbase : attributeBase (.Constant (.str s) j p1) "join" X.env (eval (.Constant (.str s) j p1) X.env) = eval (.Constant (.str s) j p1) X.env := by rfl) (hline : (apos.endLine == pos.line) = true := by rfl) :
    SimE X F ℓ (.Call (.Attribute (.Constant (.str s) j p1) "join" apos) [a] [] pos) (e1 (gJoin s) ma) := PEimp (pe_join pe_str ha hs hbase hline) fun σ H Q ⟨env, h, A, z, h', R, e, k⟩ => by
  obtain ⟨⟨x, h1⟩, ex, e⟩ := bind_some e
  obtain ⟨y, ey, e⟩ := bind_some e
  cases e
  refine ⟨⟨s, rfl⟩, env, h, A, x, _, R, ex, fun v H1 A1 R1 st rv => ?_⟩
  obtain ⟨p, ys, rfl, hq, hn, rfl⟩ := join_in (env := env) (σ := σ) hK ey (RV.mo R1 rv)
  exact ⟨s, p, ys, rfl, rfl, hq, hn, k _ H1 A1 R1 st (by cases ℓ <;> simp [RV, RepV, Rep])⟩
/-- tuple(x), x with effects -/
theorem se_totup {p : Pos} (hK : X.K = F.G.K) (hm : X.mg "tuple" = none) (ha : SimE X F .fs a ma) (hg : Gl X "tuple" := by rfl) (he : starEach [a] X.env = (false, eval a X.env) :: starEach [] X.env := by rfl) (hpl : (backTo pos (starEach [] X.env)).any (·.1) = false := by rfl) :
    SimE X F .fs (.Call (.Name "tuple" p) [a] [] pos) (e1 gTuple ma) :=
  PEimp (pe_callTy call_tuple_of hg hm (by decide +kernel) (pa_cons ha pa_nil he) (by decide) (by decide) he hpl) fun _ _ _ => tCB1_e (o_tuple hK)
/-- [..] * n: a new list -/
def fRep (fa : En → Hs → Option (List PyData)) (b : Q1) : En → Hs → Option (List PyData) := fun env h => (fa env h).bind fun xs => (b env h).bind fun y => match y with
  | .d (.int k) => if (decide (0 ≤ k) && decide (k ≤ 10000) && decide (xs.length ≤ 1000)) = true then some (List.replicate k.toNat xs).flatten else none
  | _ => none
theorem sf_rep {a b : Expr} {fa : En → Hs → Option (List PyData)} {qb : Q1} (ha : SimF X F a fa) (hb : SimQ X F .mo b qb) : SimF X F (.BinOp a .Mult b pos) (fRep fa qb) := PEimp (pe_op op_rep ha hb) fun σ H Q ⟨env, h, A, z, R, e, k⟩ => by
  obtain ⟨xs, ex, e⟩ := bind_some e
  obtain ⟨y, ey, e⟩ := bind_some e
  refine ⟨env, h, A, xs, R, ex, fun p us H1 hp e1 hv rs => ?_⟩
  refine ⟨env, h, A, y, R.ex e1, ey, fun v H2 e2 rv => ?_⟩
  split at e
  · next m =>
    split at e
    · next hc =>
      cases e
      cases ri rv
      simp only [Bool.and_eq_true, decide_eq_true_eq] at hc
      have hl : us.length = xs.length := rs.len
      refine ⟨p, m, us, rfl, rfl, e2 _ _ hv, by omega, by omega, ?_, fun p' hp' => ?_⟩
      · rw [hl, sizeLine_eq]
        have h1 : m.toNat ≤ 10000 := by omega
        have := Nat.mul_le_mul hc.2 h1
        omega
      · have hn : H p' = none := fresh_back e1 (fresh_back e2 hp')
        exact k p' _ _ hn ((e1.trans e2).trans (Ex.new hp')) upd_same (RDs.ex (Ex.new hp') (rep_flat (RDs.ex e2 rs) m.toNat))
    · cases e
  · cases e
end
end Sm

set_option Elab.async false
set_option linter.all false
set_option maxRecDepth 100000
set_option maxHeartbeats 1000000
/-! more to read semantics with -/
namespace Sm
open PySem L2 Evl
abbrev iL (ns : List Int) : List PyData := ns.map .int
theorem one_sl : 1 ≤ sizeLine := by rw [sizeLine_eq]; omega
theorem log_small {n : Nat} (hn : n ≤ 1000000) : n.log2 < 1000 := by
  by_cases h0 : n = 0
  · subst h0; decide
  · rw [Nat.log2_lt h0]
    exact Nat.lt_of_le_of_lt hn (Nat.lt_of_lt_of_le (by decide : 1000000 < 2 ^ 20) (Nat.pow_le_pow_right (by decide) (by decide)))
theorem for_nx {vs : List Nat} {body : PyData → M1} {x : PyData} {xs : List PyData} {env env1 : En} {h h1 : Hs} {r : Option (Flo × En × Hs)} (e : body x env h = some (.nx, env1, h1)) (e2 : forGo vs body xs (wipeE env1 vs) h1 = r) : forGo vs body (x :: xs) env h = r := by
  unfold forGo
  rw [e, Option.bind_some]
  exact e2
theorem mFor_ {it : I1} {vs : List Nat} {bn : B1} {body : M1} {env : En} {h : Hs} {xs : List PyData} {r : Option (Flo × En × Hs)} (hi : it env h = some xs) (e : forGo vs (fun d env h => (bn d env).bind fun env1 => body env1 h) xs (wipeE env vs) h = r) : mFor it vs bn body env h = r := by
  unfold mFor
  rw [hi]
  exact e
theorem q2_of {g : Hs → Val → Val → Option Val} {a b : Q1} {env : En} {h : Hs} {x y : Val} {z : Option Val} (ea : a env h = some x) (eb : b env h = some y) (e : g h x y = z) : Sm.q2 g a b env h = z := by
  unfold Sm.q2
  rw [ea, Option.bind_some, eb, Option.bind_some, e]
theorem q1_of {g : Hs → Val → Option Val} {a : Q1} {env : En} {h : Hs} {x : Val} {z : Option Val} (ea : a env h = some x) (e : g h x = z) : Sm.q1 g a env h = z := by
  unfold Sm.q1
  rw [ea, Option.bind_some, e]
theorem iRngB_of {a b : Q1} {env : En} {h : Hs} {m n : Int} (ea : a env h = some (.d (.int m))) (eb : b env h = some (.d (.int n))) (m0 : -1000000 ≤ m) (m1 : m ≤ 1000000) (n0 : -1000000 ≤ n) (n1 : n ≤ 1000000) : iRngB a b env h = some ((List.range (n - m).toNat).map fun k : Nat => PyData.int (m + (k : Int))) := by
  unfold iRngB
  rw [ea, Option.bind_some, eb, Option.bind_some]
  show (if ((decide (-(2 ^ 62) ≤ m) && decide (m < 2 ^ 62)) && (decide (-(2 ^ 62) ≤ n) && decide (n < 2 ^ 62))) = true then _ else _) = _
  rw [if_pos]
  simp only [Bool.and_eq_true, decide_eq_true_eq]
  omega
section
variable {it it1 : I1} {vs vs1 : List Nat} {bn b1 : B1} {tt t1 : T1} {te : Q1} {env env1 : En} {h : Hs}
theorem catGo_map {α : Type} {F : PyData → Option (List PyData)} {f : α → PyData} {g : α → List PyData} : ∀ {xs : List α}, (∀ x ∈ xs, F (f x) = some (g x)) → catGo F (xs.map f) = some (xs.map g).flatten
  | [], _ => rfl
  | x :: xs, hs => by
    rw [List.map_cons, catGo, hs x (by simp), Option.bind_some, catGo_map fun y hy => hs y (by simp [hy])]
    rfl
theorem fLc2_map {α : Type} {f : α → PyData} {g : α → List PyData} {xs : List α} (hi : it env h = some (xs.map f)) (hs : ∀ x ∈ xs, lcOut vs bn tt vs1 it1 b1 t1 te env h (f x) = some (g x)) (hl : (xs.map g).flatten.length ≤ sizeLine) : fLc2 it vs bn tt vs1 it1 b1 t1 te env h = some (xs.map g).flatten := by
  unfold fLc2
  rw [hi, Option.bind_some, catGo_map hs, Option.bind_some, if_pos hl]
theorem lcOut_of {d : PyData} {ws ys : List PyData} (hb : bn d (wipeE env vs) = some env1) (ht : tt env1 h = some true) (hi : it1 env1 h = some ws) (hg : lcGo (lcStep vs1 b1 t1 te env1 h) ws = some ys) : lcOut vs bn tt vs1 it1 b1 t1 te env h d = some ys := by
  unfold lcOut
  rw [hb, Option.bind_some, ht, Option.bind_some, if_pos rfl]
  unfold lcIn
  rw [hi, Option.bind_some, hg]
end
theorem flat_len {α β : Type} {f : α → List β} {n : Nat} : ∀ {xs : List α}, (∀ x ∈ xs, (f x).length = n) → (xs.map f).flatten.length = xs.length * n
  | [], _ => by simp
  | x :: xs, h => by
    rw [List.map_cons, List.flatten_cons, List.length_append, h x (by simp), flat_len fun y hy => h y (by simp [hy]), List.length_cons, Nat.succ_mul, Nat.add_comm]
theorem iL_flat {α : Type} (f : α → List Int) (xs : List α) : (xs.map fun x => iL (f x)).flatten = iL (xs.map f).flatten := by
  induction xs with
  | nil => rfl
  | cons x xs ih => simp [ih]
theorem eqS {s t : Str} (b : Bool) (h : Hs) (e : (SeqAt.shaped (.str s) && SeqAt.shaped (.str t)) = true := by decide +kernel) (e2 : (s == t) = b := by decide +kernel) : gEq h (.d (.str s)) (.d (.str t)) = some (.d (.bool b)) := by
  show (if _ then some (Val.d (.bool (s == t))) else none) = _
  rw [if_pos e, e2]
theorem neS {s t : Str} (b : Bool) (h : Hs) (e : (SeqAt.shaped (.str s) && SeqAt.shaped (.str t)) = true := by decide +kernel) (e2 : (!(s == t)) = b := by decide +kernel) : gNe h (.d (.str s)) (.d (.str t)) = some (.d (.bool b)) := by
  show (if _ then some (Val.d (.bool (!(s == t)))) else none) = _
  rw [if_pos e, e2]
end Sm

set_option Elab.async false
set_option linter.all false
set_option maxRecDepth 100000
set_option maxHeartbeats 1000000
/-! what is asked behind: a small calculus to read semantics with effects -/
namespace Sm
open PySem L2 Evl
def evE (m : E1) (env : En) (h : Hs) (Q : Val → Hs → Prop) : Prop := ∃ x h', m env h = some (x, h') ∧ Q x h'
def evA (m : EA) (env : En) (h : Hs) (Q : List Val → Hs → Prop) : Prop := ∃ x h', m env h = some (x, h') ∧ Q x h'
def evF (m : EF) (env : En) (h : Hs) (Q : List PyData → Hs → Prop) : Prop := ∃ x h', m env h = some (x, h') ∧ Q x h'
def evT (m : ET) (env : En) (h : Hs) (Q : Bool → Hs → Prop) : Prop := ∃ x h', m env h = some (x, h') ∧ Q x h'
def evP (m : PA1) (env : En) (h : Hs) (Q : List Sl → Hs → Prop) : Prop := ∃ x h', m env h = some (x, h') ∧ Q x h'
def wp (m : M1) (env : En) (h : Hs) (Q : Flo → En → Hs → Prop) : Prop := ∃ r env' h', m env h = some (r, env', h') ∧ Q r env' h'
section
variable {env env1 : En} {h : Hs} {q : Q1} {f : I1} {x : Val} {xs : List PyData} {a b c : E1} {r : EA} {F : EF} {t s : ET} {g1 : Hs → Val → Option Val} {g2 : Hs → Val → Val → Option Val} {i j : Nat}
section
variable {Q : Val → Hs → Prop}
theorem evE.pq (e : q env h = some x) (k : Q x h) : evE (eQ q) env h Q := ⟨x, h, by unfold eQ; rw [e]; rfl, k⟩
theorem evE.e1 (k : evE a env h fun x h1 => ∃ z, g1 h1 x = some z ∧ Q z h1) : evE (e1 g1 a) env h Q := by
  obtain ⟨x, h1, e, z, e2, k⟩ := k
  exact ⟨z, h1, by unfold Sm.e1; rw [e, Option.bind_some, e2]; rfl, k⟩
theorem evE.e2 (k : evE a env h fun x h1 => evE b env h1 fun y h2 => ∃ z, g2 h2 x y = some z ∧ Q z h2) : evE (e2 g2 a b) env h Q := by
  obtain ⟨x, h1, e, y, h2, e2, z, e3, k⟩ := k
  exact ⟨z, h2, by unfold Sm.e2; rw [e, Option.bind_some, e2, Option.bind_some, e3]; rfl, k⟩
theorem evE.tup (k : evA r env h fun xs h1 => ∃ ds, dsOf xs = some ds ∧ ds.length ≤ 1000000 ∧ Q (.d (.tuple ds)) h1) : evE (eTup r) env h Q := by
  obtain ⟨xs, h1, e, ds, e2, hl, k⟩ := k
  exact ⟨_, h1, by unfold eTup; rw [e, Option.bind_some, e2, Option.bind_some, if_pos (by rw [sizeLine_eq]; omega)], k⟩
theorem evE.lock (k : evF F env h fun xs h1 => Q (.d (.list xs)) h1) : evE (eLock F) env h Q := by
  obtain ⟨xs, h1, e, k⟩ := k
  exact ⟨_, h1, by unfold eLock; rw [e]; rfl, k⟩
theorem evE.ite (k : evT t env h fun c h1 => if c = true then evE a env h1 Q else evE b env h1 Q) : evE (eIf t a b) env h Q := by
  obtain ⟨c, h1, e, k⟩ := k
  unfold evE eIf
  rw [e, Option.bind_some]
  by_cases hc : c = true
  · rw [if_pos hc] at k
    simp only [hc, if_true]
    exact k
  · rw [if_neg hc] at k
    simp only [hc, if_false]
    exact k
theorem evE.nl (k : evE a env h fun x h1 => (∃ d, x = .d d ∧ nl d = true) ∧ Q x h1) : evE (enl a) env h Q := by
  obtain ⟨x, h1, e, ⟨d, rfl, e2⟩, k⟩ := k
  refine ⟨_, h1, ?_, k⟩
  unfold enl
  rw [e, Option.bind_some]
  exact if_pos e2
theorem evE.call {g : List Val → Hs → Option (Val × Hs)} (k : evA r env h fun xs h1 => ∃ y h2, g xs h1 = some (y, h2) ∧ Q y h2) : evE (eCall g r) env h Q := by
  obtain ⟨xs, h1, e, y, h2, e2, k⟩ := k
  exact ⟨y, h2, by unfold eCall; rw [e, Option.bind_some, e2], k⟩
end
section
variable {Q : List Val → Hs → Prop}
theorem evA.nil (k : Q [] h) : evA eNil env h Q := ⟨[], h, rfl, k⟩
theorem evA.cons (k : evE a env h fun x h1 => evA r env h1 fun xs h2 => Q (x :: xs) h2) : evA (eCons a r) env h Q := by
  obtain ⟨x, h1, e, xs, h2, e2, k⟩ := k
  exact ⟨x :: xs, h2, by unfold eCons; rw [e, Option.bind_some, e2]; rfl, k⟩
end
section
variable {Q : List PyData → Hs → Prop}
theorem evF.pf (e : f env h = some xs) (k : Q xs h) : evF (eF f) env h Q := ⟨xs, h, by unfold eF; rw [e]; rfl, k⟩
theorem evF.cat (k : evE a env h fun x h1 => evE b env h1 fun y h2 => ∃ z, gCat h2 x y = some z ∧ Q z h2) : evF (ef2 gCat a b) env h Q := by
  obtain ⟨x, h1, e, y, h2, e2, z, e3, k⟩ := k
  exact ⟨z, h2, by unfold Sm.ef2; rw [e, Option.bind_some, e2, Option.bind_some, e3]; rfl, k⟩
theorem evF.lst (k : evA r env h fun xs h1 => ∃ ds, dsOf xs = some ds ∧ ds.length ≤ 1000000 ∧ nlAll ds = true ∧ Q ds h1) : evF (efLst r) env h Q := by
  obtain ⟨xs, h1, e, ds, e2, hl, hn, k⟩ := k
  exact ⟨_, h1, by unfold efLst; rw [e, Option.bind_some, e2, Option.bind_some, if_pos ⟨by rw [sizeLine_eq]; omega, hn⟩], k⟩
theorem lcGoE_inv {step : PyData → Hs → Option (Option PyData × Hs)} (R : PyData → Prop) (P : Hs → Prop) : ∀ {xs : List PyData} {h : Hs}, P h → (∀ x ∈ xs, ∀ h, P h → ∃ y h', step x h = some (some y, h') ∧ P h' ∧ R y) → ∃ ys h', lcGoE step xs h = some (ys, h') ∧ P h' ∧ ys.length = xs.length ∧ ∀ y ∈ ys, R y
  | [], h, hp, _ => ⟨[], h, rfl, hp, rfl, fun y hy => by simp at hy⟩
  | x :: xs, h, hp, hs => by
    obtain ⟨y, h1, e1, i1, q1⟩ := hs x (by simp) h hp
    obtain ⟨ys, h2, e2, i2, l2, q2⟩ := lcGoE_inv R P i1 fun z hz => hs z (List.mem_cons_of_mem _ hz)
    refine ⟨y :: ys, h2, ?_, i2, by simp [l2], fun z hz => ?_⟩
    · unfold lcGoE
      rw [e1, Option.bind_some, e2]
      rfl
    · rcases List.mem_cons.mp hz with rfl | hz
      · exact q1
      · exact q2 z hz
theorem evF.lc {it : IE} {vs : List Nat} {bn : B1} {te : E1} (R : PyData → Prop) (P : Hs → Prop) {h1 : Hs} (hi : it env h = some (xs, h1)) (hp : P h1) (hl : xs.length ≤ 1000000)
    (hs : ∀ x ∈ xs, ∀ h, P h → ∃ env1, bn x (wipeE env vs) = some env1 ∧ evE te env1 h fun y h' => ∃ d, y = .d d ∧ P h' ∧ R d)
    (k : ∀ ys h', ys.length = xs.length → (∀ y ∈ ys, R y) → P h' → Q ys h') : evF (efLc it vs bn tTrue te) env h Q := by
  obtain ⟨ys, h2, e, p2, l2, r2⟩ := lcGoE_inv (step := lcStepE vs bn tTrue te env) R P hp (fun x hx h hp => by
    obtain ⟨env1, e1, y, h', e2, d, rfl, p, r⟩ := hs x hx h hp
    refine ⟨d, h', ?_, p, r⟩
    unfold lcStepE
    rw [e1, Option.bind_some]
    show ((te env1 h).bind _) = _
    rw [e2]
    rfl)
  refine ⟨ys, h2, ?_, k ys h2 l2 r2 p2⟩
  unfold efLc
  rw [hi, Option.bind_some, e, Option.bind_some]
  exact if_pos (by rw [sizeLine_eq]; show ys.length ≤ _; omega)
end
theorem rngE_of {h1 : Hs} {n : Int} (e : a env h = some (.d (.int n), h1)) (h0 : -1000000 ≤ n) (h2 : n ≤ 1000000) : iRngE a env h = some ((List.range n.toNat).map (fun k : Nat => PyData.int (k : Int)), h1) := iRngE_of e h0 h2
section
variable {Q : Bool → Hs → Prop}
theorem evT.pt {t : T1} {b : Bool} (e : t env h = some b) (k : Q b h) : evT (eT t) env h Q := ⟨b, h, by unfold eT; rw [e]; rfl, k⟩
theorem evT.v (k : evE a env h fun x h1 => ∃ d b, x = .d d ∧ gTru d = some b ∧ Q b h1) : evT (etV a) env h Q := by
  obtain ⟨x, h1, e, d, b, rfl, e2, k⟩ := k
  refine ⟨b, h1, ?_, k⟩
  unfold etV
  rw [e, Option.bind_some]
  simp only [e2, Option.bind_some]
theorem evT.not (k : evT t env h fun b h1 => Q (!b) h1) : evT (eNot t) env h Q := by
  obtain ⟨b, h1, e, k⟩ := k
  exact ⟨_, h1, by unfold eNot; rw [e]; rfl, k⟩
theorem evT.and (k : evT t env h fun c h1 => if c = true then evT s env h1 Q else Q false h1) : evT (eAnd t s) env h Q := by
  obtain ⟨c, h1, e, k⟩ := k
  unfold evT eAnd
  rw [e, Option.bind_some]
  cases c
  · exact ⟨false, h1, rfl, k⟩
  · exact k
theorem evT.or (k : evT t env h fun c h1 => if c = true then Q true h1 else evT s env h1 Q) : evT (eOr t s) env h Q := by
  obtain ⟨c, h1, e, k⟩ := k
  unfold evT eOr
  rw [e, Option.bind_some]
  cases c
  · exact k
  · exact ⟨true, h1, rfl, k⟩
end
section
variable {Q : List Sl → Hs → Prop} {p : PA1}
theorem evP.nil (k : Q [] h) : evP pNil env h Q := ⟨[], h, rfl, k⟩
theorem evP.v (k : evE a env h fun x h1 => evP p env h1 fun ss h2 => Q (.v x :: ss) h2) : evP (pV a p) env h Q := by
  obtain ⟨x, h1, e, xs, h2, e2, k⟩ := k
  exact ⟨_, h2, by unfold pV; rw [e, Option.bind_some, e2]; rfl, k⟩
theorem evP.l (k : evF F env h fun x h1 => evP p env h1 fun ss h2 => Q (.l x :: ss) h2) : evP (pL F p) env h Q := by
  obtain ⟨x, h1, e, xs, h2, e2, k⟩ := k
  exact ⟨_, h2, by unfold pL; rw [e, Option.bind_some, e2]; rfl, k⟩
end
section
variable {Q : Flo → En → Hs → Prop} {A B : M1} {t : T1} {te : ET} {d : PyData} {bn : B1} {p : PA1} {ℓ : Lv}
theorem wp.seq (k : wp A env h fun r e h => (r = .nx → wp B e h Q) ∧ (r ≠ .nx → Q r e h)) : wp (mSeq A B) env h Q := by
  obtain ⟨r, e1, h1, e, k1, k2⟩ := k
  by_cases hr : r = .nx
  · subst hr
    obtain ⟨r2, e2, h2, e', k⟩ := k1 rfl
    exact ⟨r2, e2, h2, (seq_nx e).trans e', k⟩
  · refine ⟨r, e1, h1, ?_, k2 hr⟩
    unfold mSeq
    rw [e, Option.bind_some]
    cases r <;> first | rfl | exact absurd rfl hr
/-- a statement that goes on -/
theorem wp.sq (k : wp A env h fun r e h => r = .nx ∧ wp B e h Q) : wp (mSeq A B) env h Q := by
  obtain ⟨r, e1, h1, e, rfl, r2, e2, h2, e', k⟩ := k
  exact ⟨r2, e2, h2, (seq_nx e).trans e', k⟩
theorem wp.nx (k : Q .nx env h) : wp mNx env h Q := ⟨_, _, _, rfl, k⟩
theorem wp.of {r : Flo} {h1 : Hs} (e : A env h = some (r, env1, h1)) (k : Q r env1 h1) : wp A env h Q := ⟨_, _, _, e, k⟩
theorem wp.set (e : q env h = some x) (k : Q .nx (env.set i (.v x)) h) : wp (mSet i q) env h Q := ⟨_, _, _, by unfold mSet; rw [e]; rfl, k⟩
theorem wp.setO (e : f env h = some xs) (k : Q .nx (env.set i (.l xs)) h) : wp (mSetO i f) env h Q := ⟨_, _, _, by unfold mSetO; rw [e]; rfl, k⟩
theorem wp.setE (k : evE a env h fun x h1 => Q .nx (env.set i (.v x)) h1) : wp (mSetE i a) env h Q := by
  obtain ⟨x, h1, e, k⟩ := k
  exact ⟨_, _, _, by unfold mSetE; rw [e]; rfl, k⟩
theorem wp.setOE (k : evF F env h fun x h1 => Q .nx (env.set i (.l x)) h1) : wp (mSetOE i F) env h Q := by
  obtain ⟨x, h1, e, k⟩ := k
  exact ⟨_, _, _, by unfold mSetOE; rw [e]; rfl, k⟩
theorem wp.asg (e : q env h = some (.d d)) (e2 : bn d env = some env1) (k : Q .nx env1 h) : wp (mAsg q bn) env h Q := ⟨_, _, _, by unfold mAsg; rw [e, Option.bind_some]; show Option.bind (some d) _ = _; rw [Option.bind_some, e2]; rfl, k⟩
theorem wp.asgE (k : evE a env h fun x h1 => ∃ d env1, x = .d d ∧ bn d env = some env1 ∧ Q .nx env1 h1) : wp (mAsgE a bn) env h Q := by
  obtain ⟨x, h1, e, d, env1, rfl, e2, k⟩ := k
  exact ⟨_, _, _, by unfold mAsgE; rw [e, Option.bind_some]; show Option.bind (some d) _ = _; rw [Option.bind_some, e2]; rfl, k⟩
theorem wp.par2 (k : evP p env h fun ss h1 => ∃ s t, ss = [s, t] ∧ Q .nx ((env.set i s).set j t) h1) : wp (mPar2 i j p) env h Q := by
  obtain ⟨ss, h1, e, s, t, rfl, k⟩ := k
  exact ⟨_, _, _, by unfold mPar2; rw [e]; rfl, k⟩
theorem wp.no (e : t env h = some false) (k : wp B env h Q) : wp (mIf t A B) env h Q := by
  obtain ⟨r, e1, h1, e', k⟩ := k
  exact ⟨r, e1, h1, if_f e e', k⟩
theorem wp.yes (e : t env h = some true) (k : wp A env h Q) : wp (mIf t A B) env h Q := by
  obtain ⟨r, e1, h1, e', k⟩ := k
  exact ⟨r, e1, h1, if_t e e', k⟩
theorem wp.ite {c : Bool} (e : t env h = some c) (k1 : c = true → wp A env h Q) (k2 : c = false → wp B env h Q) : wp (mIf t A B) env h Q := by
  cases c
  · exact .no e (k2 rfl)
  · exact .yes e (k1 rfl)
theorem wp.iteE (k : evT te env h fun c h1 => (c = true → wp A env h1 Q) ∧ (c = false → wp B env h1 Q)) : wp (mIfE te A B) env h Q := by
  obtain ⟨c, h1, e, k1, k2⟩ := k
  cases c
  · obtain ⟨r, e1, h2, e', k⟩ := k2 rfl
    exact ⟨r, e1, h2, ife_f e e', k⟩
  · obtain ⟨r, e1, h2, e', k⟩ := k1 rfl
    exact ⟨r, e1, h2, ife_t e e', k⟩
theorem wp.ret (e : q env h = some x) (k : Q (.rt ℓ x) env h) : wp (mRet ℓ q) env h Q := ⟨_, _, _, ret_q e, k⟩
theorem wp.retE (k : evE a env h fun x h1 => Q (.rt ℓ x) env h1) : wp (mRetE ℓ a) env h Q := by
  obtain ⟨x, h1, e, k⟩ := k
  exact ⟨_, _, _, by unfold mRetE; rw [e]; rfl, k⟩
theorem wp.app (e : env[i]? = some (.l xs)) (hl : xs.length < 1000000) (k : evE a env h fun x h1 => ∃ d, x = .d d ∧ Q .nx (env.set i (.l (xs ++ [d]))) h1) : wp (mAppE i a) env h Q := by
  obtain ⟨x, h1, e1, d, rfl, k⟩ := k
  refine ⟨_, _, _, ?_, k⟩
  unfold mAppE
  simp only [e, e1, Option.bind_some, dOf]
  rw [if_pos (by rw [sizeLine_eq]; omega)]
/-- a loop that goes through: what stands at each turn -/
theorem wp.for {it : I1} {vs : List Nat} (I : Nat → En → Hs → Prop) (hi : it env h = some xs) (h0 : I 0 (wipeE env vs) h)
    (hs : ∀ j x e h, xs[j]? = some x → I j e h → ∃ e1, bn x e = some e1 ∧ wp A e1 h fun r e2 h2 => (r = .nx ∨ r = .ct) ∧ I (j + 1) (wipeE e2 vs) h2)
    (k : ∀ e h, I xs.length e h → Q .nx e h) : wp (mFor it vs bn A) env h Q := by
  obtain ⟨e', h', e1, i1⟩ := for_all (vs := vs) (body := fun d env h => (bn d env).bind fun env1 => A env1 h) I h0 (fun j x env h hx hI => by
    obtain ⟨e1, b1, r, e2, h2, e3, c, i2⟩ := hs j x env h hx hI
    exact ⟨r, e2, h2, by rw [b1]; exact e3, c, i2⟩)
  exact ⟨_, _, _, mFor_ hi e1, k _ _ i1⟩
end
theorem map_of {α : Type} {f : α → PyData} {p : α → Prop} : ∀ {ys : List PyData}, (∀ y ∈ ys, ∃ a, y = f a ∧ p a) → ∃ as : List α, ys = as.map f ∧ ∀ a ∈ as, p a
  | [], _ => ⟨[], rfl, fun a ha => by simp at ha⟩
  | y :: ys, h => by
    obtain ⟨a, rfl, pa⟩ := h y (by simp)
    obtain ⟨as, rfl, pas⟩ := map_of (ys := ys) fun z hz => h z (List.mem_cons_of_mem _ hz)
    exact ⟨a :: as, rfl, fun b hb => by rcases List.mem_cons.mp hb with rfl | hb; exact pa; exact pas b hb⟩
end
end Sm

set_option Elab.async false
set_option linter.all false
set_option maxRecDepth 100000
set_option maxHeartbeats 4000000
namespace K18
open PySem L2 Evl Sm
/-! what the defs compute -/
def c_GROUP : PyData := (.int 128)
def c_MOST_GROUPS : PyData := (.int 400)
def c_SIGNS : PyData := (.str "abcdefghijklmnopqrstuvwxyz0123456789-")
def c_NOTHING : PyData := (.int 0)
def c_TEXT : PyData := (.int 2)
def c_TUPLE : PyData := (.int 3)
def c_NUMBER : PyData := (.int 1)
def c_STEP : PyData := (.int 1000003)
def c_ROUND : PyData := (.int 4294967291)
def c_MOST_NESTED : PyData := (.int 12)
/-! number_bytes -/
def b_number_bytes_1 : M1 := (mSeq (mAppE 1 (eQ (q2 gAdd (qC (.d c_GROUP)) (q2 gMod (qV 0) (qC (.d c_GROUP))))))
    (mSet 0 (q2 gDiv (qV 0) (qC (.d c_GROUP)))))
def m_number_bytes : M1 := (mSeq (mSetO 1 (fLst aNil))
    (mSeq (mWhile 1000 [] (tV (q2 gGe (qV 0) (qC (.d c_GROUP)))) b_number_bytes_1)
    (mRetF (f2 gCat (qV 1) (qF (fLst (aCons (qNl (qV 0)) aNil)))))))
def r_number_bytes : List Val → Hs → Option (List PyData) := runF 1 m_number_bytes
/-! byte_at -/
def m_byte_at : M1 := (mSeq (mIf (tV (q2 gGe (qV 1) (q1 gLen (qV 0)))) (mRaise 0 (q1 gLen (qV 0))) mNx)
    (mRet .mo (q2 gIx (qV 0) (qV 1))))
def r_byte_at : List Val → Hs → Option XR := runX 0 m_byte_at
/-! read_number -/
def b_read_number_1 : M1 := (mSeq (mAppE 2 (eQ (q2 gSub (q2 gIx (qV 0) (qV 3)) (qC (.d c_GROUP)))))
    (mSeq (mAugI 3 (fun i j => i + j) (qC (.d (.int 1))))
    (mIf (tV (q2 gGe (q1 gLen (qV 2)) (qC (.d c_MOST_GROUPS)))) (mRaise 0 (qV 1)) mNx)))
def b_read_number_2 : M1 := (mSet 4 (q2 gAdd (q2 gMulX (qVs 4) (qC (.d c_GROUP))) (qVs 5)))
def m_read_number : M1 := (mSeq (mPar2 2 3 (pL (eF (fLst aNil)) (pV (eQ (qVs 1)) pNil)))
    (mSeq (mWhileX 1000 [] (xV (x2 gGe (xCall (arity 2 r_byte_at) (aCons (qV 0) (aCons (qV 3) aNil))) (qC (.d c_GROUP)))) b_read_number_1)
    (mSeq (mIf (tAndF (tV (q2 gEq (q2 gIx (qV 0) (qV 3)) (qC (.d (.int 0))))) (tV (qV 2))) (mRaise 0 (qV 3)) mNx)
    (mSeq (mSet 4 (qNl (q2 gIx (qV 0) (qV 3))))
    (mSeq (mFor (iSeqT (qF (f1 gRevL (qV 2)))) [5] (bName 5) b_read_number_2)
    (mRet .mo (qTup (aCons (qV 4) (aCons (q2 gAdd (qV 3) (qC (.d (.int 1)))) aNil)))))))))
def r_read_number : List Val → Hs → Option XR := runX 4 m_read_number
/-! text_bytes -/
def m_text_bytes : M1 := (mRetF (f2 gCat (qF (fCall (arity 1 r_number_bytes) (aCons (q1 gLen (qV 0)) aNil))) (qF (fLc (iSeqX (qV 0)) [1] (bName 1) tTrue (q2 gSIx (qC (.d c_SIGNS)) (qV 1))))))
def r_text_bytes : List Val → Hs → Option (List PyData) := runF 1 m_text_bytes
/-! read_text -/
def b_read_text_1 : M1 := (mIf (tV (q2 gGe (q2 gIx (qV 0) (qV 4)) (q1 gLen (qC (.d c_SIGNS))))) (mRaise 0 (qV 4)) mNx)
def m_read_text : M1 := (mSeq (mAsgX (xNl (xCall (arity 2 r_read_number) (aCons (qV 0) (aCons (qV 1) aNil)))) (bTup 2 (bCons (bName 2) (bCons (bName 3) bNil))))
    (mSeq (mIf (tV (q2 gGt (q2 gAdd (qV 3) (qV 2)) (q1 gLen (qV 0)))) (mRaise 0 (q1 gLen (qV 0))) mNx)
    (mSeq (mFor (iRngB (qV 3) (q2 gAdd (qV 3) (qV 2))) [4] (bName 4) b_read_text_1)
    (mRet .mo (qTup (aCons (q1 (gJoin "") (qF (fLc (iSeqX (qSl (qV 0) (oSome (qV 3)) (oSome (q2 gAdd (qV 3) (qV 2))))) [5] (bName 5) tTrue (qNl (q2 gIx (qC (.d c_SIGNS)) (qV 5)))))) (aCons (q2 gAdd (qV 3) (qV 2)) aNil)))))))
def r_read_text : List Val → Hs → Option XR := runX 4 m_read_text
/-! plain_bytes -/
def m_plain_bytes (rec_plain_bytes : List Val → Hs → Option (List PyData)) : M1 := (mSeq (mIf (tV (q1 gIsN (qV 0))) (mRetF (fLst (aCons (qC (.d c_NOTHING)) aNil))) mNx)
    (mSeq (mIf (tV (q1 (gIsi PyData.isStr) (qV 0))) (mRetF (f2 gCat (qF (fLst (aCons (qC (.d c_TEXT)) aNil))) (qF (fCall (arity 1 r_text_bytes) (aCons (qV 0) aNil))))) mNx)
    (mSeq (mIf (tV (q1 (gIsi PyData.isTuple) (qV 0))) (mRetF (f2 gCat (qF (f2 gCat (qF (fLst (aCons (qC (.d c_TUPLE)) aNil))) (qF (fCall (arity 1 r_number_bytes) (aCons (q1 gLen (qV 0)) aNil))))) (qF (fLc2 (iSeqX (qV 0)) [2, 1] (bName 2) tTrue [1] (fCall (arity 1 rec_plain_bytes) (aCons (qV 2) aNil)) (bName 1) tTrue (qNl (qV 1)))))) mNx)
    (mRetF (f2 gCat (qF (fLst (aCons (qC (.d c_NUMBER)) aNil))) (qF (fCall (arity 1 r_number_bytes) (aCons (qV 0) aNil))))))))
def g_plain_bytes : Nat → List Val → Hs → Option (List PyData)
  | 0 => fun _ _ => none
  | n + 1 => runF 2 (m_plain_bytes (g_plain_bytes n))
/-! read_plain -/
def b_read_plain_1 (rec_read_plain : List Val → Hs → Option XR) : M1 := (mSeq (mAsgX (xNl (xCall (arity 3 rec_read_plain) (aCons (qV 0) (aCons (qV 5) (aCons (q2 gSub (qV 2) (qC (.d (.int 1)))) aNil))))) (bTup 2 (bCons (bName 7) (bCons (bName 5) bNil))))
    (mAppE 6 (eQ (qNl (qV 7)))))
def m_read_plain (rec_read_plain : List Val → Hs → Option XR) : M1 := (mSeq (mSetX 3 (xNl (xCall (arity 2 r_byte_at) (aCons (qV 0) (aCons (qV 1) aNil)))))
    (mSeq (mIf (tV (q2 gEq (qV 3) (qC (.d c_NOTHING)))) (mRet .mo (qTup (aCons (qC (.d .none)) (aCons (q2 gAdd (qV 1) (qC (.d (.int 1)))) aNil)))) mNx)
    (mSeq (mIf (tV (q2 gEq (qV 3) (qC (.d c_NUMBER)))) (mRetX .mo (xCall (arity 2 r_read_number) (aCons (qV 0) (aCons (q2 gAdd (qV 1) (qC (.d (.int 1)))) aNil)))) mNx)
    (mSeq (mIf (tV (q2 gEq (qV 3) (qC (.d c_TEXT)))) (mRetX .mo (xCall (arity 2 r_read_text) (aCons (qV 0) (aCons (q2 gAdd (qV 1) (qC (.d (.int 1)))) aNil)))) mNx)
    (mSeq (mIf (tOrF (tV (q2 gNe (qV 3) (qC (.d c_TUPLE)))) (tV (q2 gEq (qV 2) (qC (.d (.int 0)))))) (mRaise 0 (qV 1)) mNx)
    (mSeq (mAsgX (xNl (xCall (arity 2 r_read_number) (aCons (qV 0) (aCons (q2 gAdd (qV 1) (qC (.d (.int 1)))) aNil)))) (bTup 2 (bCons (bName 4) (bCons (bName 5) bNil))))
    (mSeq (mSetO 6 (fLst aNil))
    (mSeq (mWhile 1000 [7] (tV (q2 gLt (q1 gLen (qV 6)) (qV 4))) (b_read_plain_1 rec_read_plain))
    (mRet .mo (qTup (aCons (q1 gTuple (qV 6)) (aCons (qV 5) aNil))))))))))))
def g_read_plain : Nat → List Val → Hs → Option XR
  | 0 => fun _ _ => none
  | n + 1 => runX 5 (m_read_plain (g_read_plain n))
/-! check_of -/
def b_check_of_1 : M1 := (mSet 1 (q2 gMod (q2 gAdd (q2 gAdd (q2 gMulX (qV 1) (qC (.d c_STEP))) (qV 2)) (qC (.d (.int 1)))) (qC (.d c_ROUND))))
def m_check_of : M1 := (mSeq (mSet 1 (qC (.d (.int 1))))
    (mSeq (mFor (iSeqT (qVs 0)) [2] (bName 2) b_check_of_1)
    (mRet .mo (qV 1))))
def r_check_of : List Val → Hs → Option Val := runQ 2 m_check_of
/-! _law_box -/
def m__law_box : M1 := (mRetE .st (eNew (eCons (eNewF (f1 gList (qF (fSl (qV 0) oNone (oSome (qC (.d (.int 63)))))))) (eCons (eQ (qC (.d (.int 0)))) (eCons (eQ (q2 gAdd (qC (.d (.int 4711))) (q1 gLen (qV 0)))) eNil)))))
def r__law_box : List Val → Hs → Option (Val × Hs) := runE 0 m__law_box
/-! _law_load -/
def m__law_load : M1 := (mSeq (mSet 1 (qNl (q2 gIx (qV 0) (qC (.d (.int 0))))))
    (mSeq (mIf (tV (q2 gGt (q1 gLen (qV 1)) (qC (.d (.int 0))))) (mSeq (mSetE 2 (e1 gInt (ePop (qV 1) (qC (.d (.int 0))))))
    (mSeq (mSet 3 (qIf (tV (q2 gGe (qV 2) (qC (.d (.int 0))))) (q2 gMulX (qC (.d (.int 2))) (qV 2)) (q2 gSub (q2 gMulX (q1 gNeg (qC (.d (.int 2)))) (qV 2)) (qC (.d (.int 1))))))
    (mSeq (mIf (tV (q2 gGe (qV 3) (qC (.d (.int 1000000000000000000))))) (mRet .mo (qV 3)) mNx)
    (mPut (qV 0) (qC (.d (.int 2))) (eQ (q2 gMod (q1 gInt (q2 gAdd (q2 gAdd (q2 gMulX (q2 gIx (qV 0) (qC (.d (.int 2)))) (qC (.d (.int 69621)))) (q2 gMulX (qV 3) (qC (.d (.int 48271))))) (qC (.d (.int 11))))) (qC (.d (.int 2147483647))))))))) mNx)
    (mSeq (mSet 4 (q2 gMod (q1 gInt (q2 gAdd (q2 gMulX (q2 gIx (qV 0) (qC (.d (.int 2)))) (qC (.d (.int 48271)))) (qC (.d (.int 17))))) (qC (.d (.int 2147483629)))))
    (mSeq (mSet 5 (q2 gMod (q1 gInt (q2 gAdd (q2 gMulX (qV 4) (qC (.d (.int 69621)))) (qC (.d (.int 5))))) (qC (.d (.int 2147483587)))))
    (mSeq (mPut (qV 0) (qC (.d (.int 2))) (eQ (q2 gMod (q1 gInt (q2 gAdd (q2 gMulX (qV 5) (qC (.d (.int 40692)))) (qC (.d (.int 3))))) (qC (.d (.int 2147483563))))))
    (mRet .mo (q2 gAdd (q2 gAdd (q2 gMulX (qV 4) (qC (.d (.int 4611686014132420609)))) (q2 gMulX (qV 5) (qC (.d (.int 2147483647))))) (q2 gIx (qV 0) (qC (.d (.int 2)))))))))))
def r__law_load : List Val → Hs → Option (Val × Hs) := runE 5 m__law_load
/-! _law_draw -/
def m__law_draw : M1 := (mSeq (mIf (tV (q2 gLt (q2 gIx (qV 0) (qC (.d (.int 1)))) (qV 1))) (mPut (qV 0) (qC (.d (.int 1))) (eCall (arity 1 r__law_load) (eCons (eQ (qVs 0)) eNil))) mNx)
    (mSeq (mSet 2 (q2 gMod (q1 gInt (q2 gIx (qV 0) (qC (.d (.int 1))))) (qV 1)))
    (mSeq (mPut (qV 0) (qC (.d (.int 1))) (eQ (q2 gDiv (q2 gIx (qV 0) (qC (.d (.int 1)))) (qV 1))))
    (mRet .mo (qV 2)))))
def r__law_draw : List Val → Hs → Option (Val × Hs) := runE 1 m__law_draw
/-! _law_same -/
def m__law_same (rec__law_same : List Val → Hs → Option Val) : M1 := (mSeq (mIf (tOrF (tAndF (tV (q1 (gIsi PyData.isTuple) (qV 0))) (tV (q1 (gIsi PyData.isTuple) (qV 1)))) (tAndF (tV (q1 (gIsi PyData.isList) (qV 0))) (tV (q1 (gIsi PyData.isList) (qV 1))))) (mRet .mo (qAnd (q2 gEq (q1 gLen (qV 0)) (q1 gLen (qV 1))) (q1 gAll (qF (fLc (iRng (q1 gLen (qV 0))) [2] (bName 2) tTrue (qNl (qCall (arity 2 rec__law_same) (aCons (q2 gIx (qV 0) (qV 2)) (aCons (q2 gIx (qV 1) (qV 2)) aNil))))))))) mNx)
    (mSeq (mIf (tOrF (tV (q1 (gIsi PyData.isBool) (qV 0))) (tV (q1 (gIsi PyData.isBool) (qV 1)))) (mRet .mo (qAnd (q1 (gIsi PyData.isBool) (qV 0)) (qAnd (q1 (gIsi PyData.isBool) (qV 1)) (q2 gEq (qV 0) (qV 1))))) mNx)
    (mSeq (mIf (tOrF (tAndF (tV (q1 (gIsi PyData.isInt) (qV 0))) (tV (q1 (gIsi PyData.isInt) (qV 1)))) (tAndF (tV (q1 (gIsi PyData.isStr) (qV 0))) (tV (q1 (gIsi PyData.isStr) (qV 1))))) (mRet .mo (q2 gEq (qV 0) (qV 1))) mNx)
    (mRet .mo (qAnd (q1 gIsN (qV 0)) (q1 gIsN (qV 1)))))))
def g__law_same : Nat → List Val → Hs → Option Val
  | 0 => fun _ _ => none
  | n + 1 => runQ 1 (m__law_same (g__law_same n))
/-! _law_number -/
def b__law_number_1 : M1 := (mPar2 1 0 (pL (eF (f2 gCat (qV 1) (qF (fLst (aCons (q2 gSub (q2 gAdd (qC (.d (.int 128))) (qV 0)) (q2 gMulX (q2 gDiv (qV 0) (qC (.d (.int 128)))) (qC (.d (.int 128))))) aNil))))) (pV (eQ (q2 gDiv (qV 0) (qC (.d (.int 128))))) pNil)))
def m__law_number : M1 := (mSeq (mSetO 1 (fLst aNil))
    (mSeq (mWhile 1000 [] (tV (q2 gGe (qV 0) (qC (.d (.int 128))))) b__law_number_1)
    (mRetF (f2 gCat (qV 1) (qF (fLst (aCons (qNl (qV 0)) aNil)))))))
def r__law_number : List Val → Hs → Option (List PyData) := runF 1 m__law_number
/-! _law_check -/
def b__law_check_1 : M1 := (mSeq (mSet 1 (q2 gAdd (q2 gAdd (q2 gMulX (qC (.d (.int 1000003))) (qV 1)) (qVs 2)) (qC (.d (.int 1)))))
    (mSet 1 (q2 gSub (qV 1) (q2 gMulX (q2 gDiv (qV 1) (qC (.d (.int 4294967291)))) (qC (.d (.int 4294967291)))))))
def m__law_check : M1 := (mSeq (mSet 1 (qC (.d (.int 1))))
    (mSeq (mFor (iSeqT (qVs 0)) [2] (bName 2) b__law_check_1)
    (mRet .mo (qV 1))))
def r__law_check : List Val → Hs → Option Val := runQ 2 m__law_check
/-! _law_text -/
def m__law_text : M1 := (mRetF (f2 gCat (qF (fCall (arity 1 r__law_number) (aCons (q1 gLen (qV 0)) aNil))) (qF (fLc (iSeqX (qV 0)) [1] (bName 1) tTrue (q2 gSIx (qC (.d (.str "abcdefghijklmnopqrstuvwxyz0123456789-"))) (qV 1))))))
def r__law_text : List Val → Hs → Option (List PyData) := runF 1 m__law_text
/-! _law_number_at -/
def m__law_number_at : M1 := (mSeq (mAsg (qTup (aCons (qC (.d .none)) (aCons (qC (.d .none)) aNil))) (bTup 2 (bCons (bName 2) (bCons (bName 3) bNil))))
    (mSeq (mTryA 0 4 3 (mSetX 2 (xNl (xCall (arity 2 r_read_number) (aCons (qV 0) (aCons (qV 1) aNil))))))
    (mRet .mo (qTup (aCons (qV 2) (aCons (qV 3) aNil))))))
def r__law_number_at : List Val → Hs → Option Val := runQ 3 m__law_number_at
/-! _law_plain_at -/
def m__law_plain_at : M1 := (mSeq (mAsg (qTup (aCons (qC (.d .none)) (aCons (qC (.d .none)) aNil))) (bTup 2 (bCons (bName 2) (bCons (bName 3) bNil))))
    (mSeq (mTryA 0 4 3 (mSetX 2 (xNl (xCall (arity 3 (g_read_plain 14)) (aCons (qV 0) (aCons (qV 1) (aCons (qC (.d (.int 12))) aNil)))))))
    (mRet .mo (qTup (aCons (qV 2) (aCons (qV 3) aNil))))))
def r__law_plain_at : List Val → Hs → Option Val := runQ 3 m__law_plain_at
/-! _law_plain -/
def m__law_plain (rec__law_plain : List Val → Hs → Option (Val × Hs)) : M1 := (mSeq (mSetE 2 (eCall (arity 2 r__law_draw) (eCons (eQ (qVs 0)) (eCons (eQ (qIf (tV (q2 gGt (qV 1) (qC (.d (.int 0))))) (qC (.d (.int 6))) (qC (.d (.int 3))))) eNil))))
    (mSeq (mIf (tV (q2 gLt (qV 2) (qC (.d (.int 3))))) (mRetE .st (enl (e2 gIx (eTup (eCons (eQ (qC (.d .none))) (eCons (e2 gMul (eCall (arity 2 r__law_draw) (eCons (eQ (qVs 0)) (eCons (eQ (qC (.d (.int 300)))) eNil))) (eCall (arity 2 r__law_draw) (eCons (eQ (qVs 0)) (eCons (eQ (qC (.d (.int 70000)))) eNil)))) (eCons (e1 (gJoin "") (eLock (efLc (iRngE (eCall (arity 2 r__law_draw) (eCons (eQ (qVs 0)) (eCons (eQ (qC (.d (.int 5)))) eNil)))) [3] (bName 3) tTrue (enl (e2 gIx (eQ (qC (.d (.str "az09-")))) (eCall (arity 2 r__law_draw) (eCons (eQ (qVs 0)) (eCons (eQ (qC (.d (.int 5)))) eNil)))))))) eNil)))) (eQ (qVs 2))))) mNx)
    (mRetE .st (enl (e1 gTuple (eLock (efLc (iRngE (eCall (arity 2 r__law_draw) (eCons (eQ (qVs 0)) (eCons (eQ (qC (.d (.int 4)))) eNil)))) [3] (bName 3) tTrue (eCall (arity 2 rec__law_plain) (eCons (eQ (qVs 0)) (eCons (eQ (q2 gSub (qV 1) (qC (.d (.int 1))))) eNil))))))))))
def g__law_plain : Nat → List Val → Hs → Option (Val × Hs)
  | 0 => fun _ _ => none
  | n + 1 => runE 2 (m__law_plain (g__law_plain n))
/-! _law_plain_bytes -/
def b__law_plain_bytes_1 (rec__law_plain_bytes : List Val → Hs → Option (List PyData)) : M1 := (mSetO 1 (f2 gCat (qV 1) (qF (fCall (arity 1 rec__law_plain_bytes) (aCons (qV 2) aNil)))))
def m__law_plain_bytes (rec__law_plain_bytes : List Val → Hs → Option (List PyData)) : M1 := (mSeq (mIf (tV (q1 gIsN (qV 0))) (mRetF (fLst (aCons (qC (.d (.int 0))) aNil))) mNx)
    (mSeq (mIf (tV (q1 (gIsi PyData.isStr) (qV 0))) (mRetF (f2 gCat (qF (fLst (aCons (qC (.d (.int 2))) aNil))) (qF (fCall (arity 1 r__law_text) (aCons (qV 0) aNil))))) mNx)
    (mSeq (mIf (tV (q1 (gIsi PyData.isTuple) (qV 0))) (mSeq (mSetO 1 (f2 gCat (qF (fLst (aCons (qC (.d (.int 3))) aNil))) (qF (fCall (arity 1 r__law_number) (aCons (q1 gLen (qV 0)) aNil)))))
    (mSeq (mFor (iSeqT (qVs 0)) [2] (bName 2) (b__law_plain_bytes_1 rec__law_plain_bytes))
    (mRetO 1))) mNx)
    (mRetF (f2 gCat (qF (fLst (aCons (qC (.d (.int 1))) aNil))) (qF (fCall (arity 1 r__law_number) (aCons (qV 0) aNil))))))))
def g__law_plain_bytes : Nat → List Val → Hs → Option (List PyData)
  | 0 => fun _ _ => none
  | n + 1 => runF 2 (m__law_plain_bytes (g__law_plain_bytes n))
/-! _law_plain_to -/
def m__law_plain_to : M1 := (mSeq (mAsg (qTup (aCons (qC (.d .none)) (aCons (qC (.d .none)) aNil))) (bTup 2 (bCons (bName 2) (bCons (bName 3) bNil))))
    (mSeq (mTryA 0 4 3 (mSetX 2 (xNl (xCall (arity 3 (g_read_plain 14)) (aCons (qV 0) (aCons (qC (.d (.int 0))) (aCons (qV 1) aNil)))))))
    (mRet .mo (qTup (aCons (qV 2) (aCons (qV 3) aNil))))))
def r__law_plain_to : List Val → Hs → Option Val := runQ 3 m__law_plain_to
/-! _law_text_at -/
def m__law_text_at : M1 := (mTryR 0 1 (mSeq (mExprX (xCall (arity 2 r_read_text) (aCons (qV 0) (aCons (qC (.d (.int 0))) aNil))))
    (mRet .mo (qC (.d .none)))))
def r__law_text_at : List Val → Hs → Option Val := runQ 1 m__law_text_at
/-! law -/
def b_law_1 : M1 := (mSeq (mAsg (qNl (qCall (arity 2 r__law_number_at) (aCons (qV 13) (aCons (qC (.d (.int 0))) aNil)))) (bTup 2 (bCons (bName 11) (bCons (bName 12) bNil))))
    (mIf (tOrF (tV (q1 gNoN (qV 11))) (tOrF (tV (q1 gIsN (qV 12))) (tNotF (tV (qChain (fun i j => decide (i ≤ j)) (fun i j => decide (i ≤ j)) (qC (.d (.int 0))) (qV 12) (q1 gLen (qV 13))))))) (mRet .mo (qC (.d (.bool false)))) mNx))
def b_law_2 : M1 := (mSeq (mSetE 3 (e2 gMul (eCall (arity 2 r__law_draw) (eCons (eQ (qVs 1)) (eCons (e2 gIx (eQ (qTup (aCons (qC (.d (.int 3))) (aCons (qC (.d (.int 300))) (aCons (qC (.d (.int 70000))) (aCons (qC (.d (.int 9999999))) aNil)))))) (eCall (arity 2 r__law_draw) (eCons (eQ (qVs 1)) (eCons (eQ (qC (.d (.int 4)))) eNil)))) eNil))) (eIf (etV (e2 gEq (eCall (arity 2 r__law_draw) (eCons (eQ (qVs 1)) (eCons (eQ (qC (.d (.int 6)))) eNil))) (eQ (qC (.d (.int 0)))))) (eQ (qC (.d (.int 1237940039285380274899124224)))) (eQ (qC (.d (.int 1)))))))
    (mSeq (mPar2 4 5 (pV (e1 gTuple (eLock (efLc (iRngE (eCall (arity 2 r__law_draw) (eCons (eQ (qVs 1)) (eCons (eQ (qC (.d (.int 3)))) eNil)))) [16] (bName 16) tTrue (eCall (arity 2 r__law_draw) (eCons (eQ (qVs 1)) (eCons (eQ (qC (.d (.int 256)))) eNil)))))) (pV (e1 gTuple (eLock (efLc (iRngE (eCall (arity 2 r__law_draw) (eCons (eQ (qVs 1)) (eCons (eQ (qC (.d (.int 3)))) eNil)))) [16] (bName 16) tTrue (eCall (arity 2 r__law_draw) (eCons (eQ (qVs 1)) (eCons (eQ (qC (.d (.int 256)))) eNil)))))) pNil)))
    (mSeq (mSet 6 (qNl (q1 gTuple (qF (fCall (arity 1 r__law_number) (aCons (qV 3) aNil))))))
    (mSeq (mIf (tNotF (tV (qCall (arity 2 (g__law_same 12)) (aCons (qTup (aCons (qF (fCall (arity 1 r_number_bytes) (aCons (qV 3) aNil))) (aCons (qCall (arity 2 (okX r_read_number)) (aCons (q2 gAdd (q2 gAdd (qV 4) (qV 6)) (qV 5)) (aCons (q1 gLen (qV 4)) aNil))) aNil))) (aCons (qTup (aCons (qF (f1 gList (qV 6))) (aCons (qTup (aCons (qV 3) (aCons (q2 gAdd (q1 gLen (qV 4)) (q1 gLen (qV 6))) aNil))) aNil))) aNil))))) (mRet .mo (qC (.d (.bool false)))) mNx)
    (mSeq (mSetE 7 (e1 (gJoin "") (eLock (efLc (iRngE (eCall (arity 2 r__law_draw) (eCons (eQ (qVs 1)) (eCons (eQ (qC (.d (.int 9)))) eNil)))) [16] (bName 16) tTrue (enl (e2 gIx (eQ (qC (.d (.str "az09-")))) (eCall (arity 2 r__law_draw) (eCons (eQ (qVs 1)) (eCons (eQ (qC (.d (.int 5)))) eNil)))))))))
    (mSeq (mSet 8 (q2 gAdd (q2 gAdd (qVs 4) (qNl (q1 gTuple (qF (fCall (arity 1 r__law_text) (aCons (qV 7) aNil)))))) (qVs 5)))
    (mSeq (mIf (tNotF (tV (qCall (arity 2 (g__law_same 12)) (aCons (qTup (aCons (qF (fCall (arity 1 r_text_bytes) (aCons (qV 7) aNil))) (aCons (qCall (arity 2 (okX r_read_text)) (aCons (qV 8) (aCons (q1 gLen (qV 4)) aNil))) aNil))) (aCons (qTup (aCons (qF (fCall (arity 1 r__law_text) (aCons (qV 7) aNil))) (aCons (qTup (aCons (qV 7) (aCons (q2 gSub (q1 gLen (qV 8)) (q1 gLen (qV 5))) aNil))) aNil))) aNil))))) (mRet .mo (qC (.d (.bool false)))) mNx)
    (mSeq (mSetE 9 (eCall (arity 2 (g__law_plain 6)) (eCons (eQ (qVs 1)) (eCons (eQ (qC (.d (.int 3)))) eNil))))
    (mSeq (mSet 8 (q2 gAdd (q2 gAdd (qVs 4) (qNl (q1 gTuple (qF (fCall (arity 1 (g__law_plain_bytes 6)) (aCons (qV 9) aNil)))))) (qVs 5)))
    (mSeq (mIf (tNotF (tV (qCall (arity 2 (g__law_same 12)) (aCons (qTup (aCons (qF (fCall (arity 1 (g_plain_bytes 6)) (aCons (qV 9) aNil))) (aCons (qCall (arity 3 (okX (g_read_plain 14))) (aCons (qV 8) (aCons (q1 gLen (qV 4)) (aCons (qC (.d (.int 12))) aNil)))) aNil))) (aCons (qTup (aCons (qF (fCall (arity 1 (g__law_plain_bytes 6)) (aCons (qV 9) aNil))) (aCons (qTup (aCons (qV 9) (aCons (q2 gSub (q1 gLen (qV 8)) (q1 gLen (qV 5))) aNil))) aNil))) aNil))))) (mRet .mo (qC (.d (.bool false)))) mNx)
    (mSeq (mSetE 10 (e1 gTuple (eLock (efLc (iRngE (eCall (arity 2 r__law_draw) (eCons (eQ (qVs 1)) (eCons (eQ (qC (.d (.int 12)))) eNil)))) [16] (bName 16) tTrue (enl (e2 gIx (eTup (eCons (eCall (arity 2 r__law_draw) (eCons (eQ (qVs 1)) (eCons (eQ (qC (.d (.int 256)))) eNil))) (eCons (eCall (arity 2 r__law_draw) (eCons (eQ (qVs 1)) (eCons (eQ (qC (.d (.int 5)))) eNil))) eNil))) (eCall (arity 2 r__law_draw) (eCons (eQ (qVs 1)) (eCons (eQ (qC (.d (.int 2)))) eNil)))))))))
    (mSeq (mAsg (qNl (qCall (arity 2 r__law_number_at) (aCons (qV 10) (aCons (qC (.d (.int 0))) aNil)))) (bTup 2 (bCons (bName 11) (bCons (bName 12) bNil))))
    (mSeq (mIf (tOrF (tV (q2 gEq (q1 gIsN (qV 11)) (q1 gIsN (qV 12)))) (tOrF (tAndF (tV (q1 gNoN (qV 11))) (tV (q2 gNe (q1 gTuple (qF (fCall (arity 1 r__law_number) (aCons (q2 gIx (qV 11) (qC (.d (.int 0)))) aNil)))) (qSl (qV 10) oNone (oSome (q2 gIx (qV 11) (qC (.d (.int 1))))))))) (tAndF (tV (q1 gNoN (qV 12))) (tNotF (tV (qChain (fun i j => decide (i ≤ j)) (fun i j => decide (i ≤ j)) (qC (.d (.int 0))) (qV 12) (q1 gLen (qV 10)))))))) (mRet .mo (qC (.d (.bool false)))) mNx)
    (mSeq (mAsg (qNl (qCall (arity 2 r__law_plain_at) (aCons (qV 10) (aCons (qC (.d (.int 0))) aNil)))) (bTup 2 (bCons (bName 11) (bCons (bName 12) bNil))))
    (mSeq (mIf (tOrF (tV (q2 gNe (q1 gIsN (qV 12)) (q1 gNoN (qV 11)))) (tAndF (tV (q1 gNoN (qV 11))) (tV (q2 gNe (q1 gTuple (qF (fCall (arity 1 (g__law_plain_bytes 6)) (aCons (q2 gIx (qV 11) (qC (.d (.int 0)))) aNil)))) (qSl (qV 10) oNone (oSome (q2 gIx (qV 11) (qC (.d (.int 1)))))))))) (mRet .mo (qC (.d (.bool false)))) mNx)
    (mSeq (mFor (iSeqT (qTup (aCons (qSl (qVs 6) oNone (oSome (q1 gNeg (qC (.d (.int 1)))))) (aCons (q2 gAdd (q2 gMulX (qTup (aCons (qC (.d (.int 128))) aNil)) (qC (.d (.int 3)))) (qTup (aCons (qC (.d (.int 0))) aNil))) aNil)))) [13] (bName 13) b_law_1)
    (mSeq (mSetE 14 (e2 gIx (eTup (eCons (eCall (arity 2 r__law_draw) (eCons (eQ (qVs 1)) (eCons (eQ (qC (.d (.int 256)))) eNil))) (eCons (eQ (qC (.d (.int 0)))) (eCons (eQ (qC (.d (.int 255)))) eNil)))) (eCall (arity 2 r__law_draw) (eCons (eQ (qVs 1)) (eCons (eQ (qC (.d (.int 3)))) eNil)))))
    (mSeq (mSetE 15 (e1 gTuple (eLock (efLc (iRngE (e2 gAdd (eQ (qC (.d (.int 1)))) (eCall (arity 2 r__law_draw) (eCons (eQ (qVs 1)) (eCons (eQ (qC (.d (.int 30)))) eNil))))) [16] (bName 16) tTrue (enl (e2 gIx (eTup (eCons (eCall (arity 2 r__law_draw) (eCons (eQ (qVs 1)) (eCons (eQ (qC (.d (.int 256)))) eNil))) (eCons (eQ (qVs 14)) eNil))) (eCall (arity 2 r__law_draw) (eCons (eQ (qVs 1)) (eCons (eQ (qC (.d (.int 2)))) eNil)))))))))
    (mSeq (mPar2 16 17 (pV (eCall (arity 2 r__law_draw) (eCons (eQ (qVs 1)) (eCons (eQ (q1 gLen (qV 15))) eNil))) (pV (e2 gAdd (eQ (qC (.d (.int 1)))) (eCall (arity 2 r__law_draw) (eCons (eQ (qVs 1)) (eCons (eQ (qC (.d (.int 255)))) eNil)))) pNil)))
    (mSeq (mSet 18 (qIf (tV (q2 gLt (q2 gAdd (q2 gIx (qV 15) (qV 16)) (qV 17)) (qC (.d (.int 256))))) (q2 gAdd (qNl (q2 gIx (qV 15) (qV 16))) (qVs 17)) (q2 gSub (q2 gAdd (q2 gIx (qV 15) (qV 16)) (qV 17)) (qC (.d (.int 256))))))
    (mIf (tOrF (tNotF (tV (qCall (arity 2 (g__law_same 12)) (aCons (qCall (arity 1 r_check_of) (aCons (qV 15) aNil)) (aCons (qCall (arity 1 r__law_check) (aCons (qV 15) aNil)) aNil))))) (tV (q2 gEq (qCall (arity 1 r_check_of) (aCons (q2 gAdd (q2 gAdd (qSl (qV 15) oNone (oSome (qV 16))) (qTup (aCons (qV 18) aNil))) (qSl (qV 15) (oSome (q2 gAdd (qV 16) (qC (.d (.int 1))))) oNone)) aNil)) (qCall (arity 1 r_check_of) (aCons (qV 15) aNil))))) (mRet .mo (qC (.d (.bool false)))) mNx)))))))))))))))))))))
def b_law_3 : M1 := (mSeq (mAsg (qNl (qCall (arity 2 r__law_plain_to) (aCons (q1 gTuple (qV 20)) (aCons (qV 21) aNil)))) (bTup 2 (bCons (bName 11) (bCons (bName 12) bNil))))
    (mIf (tOrF (tNotF (tV (qCall (arity 2 (g__law_same 12)) (aCons (qV 11) (aCons (qIf (tV (q2 gGt (qV 21) (qV 16))) (qTup (aCons (qV 19) (aCons (q1 gLen (qV 20)) aNil))) (qC (.d .none))) aNil))))) (tV (q2 gNe (q1 gIsN (qV 12)) (q2 gGt (qV 21) (qV 16))))) (mRet .mo (qC (.d (.bool false)))) mNx))
def b_law_4 : M1 := (mSeq (mPar2 19 20 (pV (eQ (qTup (aCons (qVs 19) aNil))) (pL (eF (f2 gCat (qF (fLst (aCons (qC (.d (.int 3))) (aCons (qC (.d (.int 1))) aNil)))) (qV 20))) pNil)))
    (mFor (iSeqT (qTup (aCons (q2 gSub (qV 16) (qC (.d (.int 1)))) (aCons (qVs 16) (aCons (q2 gAdd (qVs 16) (qC (.d (.int 1)))) (aCons (q2 gAdd (qVs 16) (qC (.d (.int 2)))) aNil)))))) [21] (bName 21) b_law_3))
def b_law_5 : M1 := (mIf (tOrF (tNotF (tV (q1 (gIsi PyData.isInt) (qCall (arity 1 r__law_text_at) (aCons (qV 10) aNil))))) (tNotF (tV (qChain (fun i j => decide (i ≤ j)) (fun i j => decide (i ≤ j)) (qC (.d (.int 0))) (qCall (arity 1 r__law_text_at) (aCons (qV 10) aNil)) (q1 gLen (qV 10)))))) (mRet .mo (qC (.d (.bool false)))) mNx)
def m_law : M1 := (mSeq (mSetE 1 (eCall (arity 1 r__law_box) (eCons (eQ (qVs 0)) eNil)))
    (mSeq (mIf (tV (q2 gNe (qTup (aCons (qC (.d c_MOST_GROUPS)) (aCons (qC (.d c_MOST_NESTED)) aNil))) (qTup (aCons (qC (.d (.int 400))) (aCons (qC (.d (.int 12))) aNil))))) (mRet .mo (qC (.d (.bool false)))) mNx)
    (mSeq (mFor (iRng (qC (.d (.int 5)))) [2, 3, 4, 5, 6, 7, 8, 9, 13, 15, 17, 18] (bName 2) b_law_2)
    (mSeq (mPar2 19 20 (pV (eQ (qTup aNil)) (pL (eF (fLst (aCons (qC (.d (.int 3))) (aCons (qC (.d (.int 0))) aNil)))) pNil)))
    (mSeq (mFor (iRngB (qC (.d (.int 1))) (qC (.d (.int 7)))) [21] (bName 16) b_law_4)
    (mSeq (mFor (iSeqT (qTup (aCons (qTup aNil) (aCons (qTup (aCons (qC (.d (.int 1))) aNil)) (aCons (qTup (aCons (qC (.d (.int 2))) (aCons (qC (.d (.int 0))) aNil))) (aCons (qTup (aCons (qC (.d (.int 1))) (aCons (qC (.d (.int 37))) aNil))) (aCons (qTup (aCons (qC (.d (.int 3))) (aCons (qC (.d (.int 0))) (aCons (qC (.d (.int 255))) (aCons (qC (.d (.int 0))) aNil))))) (aCons (qTup (aCons (qC (.d (.int 128))) (aCons (qC (.d (.int 1))) (aCons (qC (.d (.int 0))) aNil)))) aNil)))))))) [] (bName 10) b_law_5)
    (mSeq (mSet 22 (q2 gSub (q2 gShl (qC (.d (.int 1))) (qC (.d (.int 2800)))) (qC (.d (.int 1)))))
    (mSeq (mIf (tNotF (tV (qCall (arity 2 (g__law_same 12)) (aCons (qTup (aCons (qF (fCall (arity 1 r_number_bytes) (aCons (qV 22) aNil))) (aCons (qCall (arity 2 r__law_number_at) (aCons (q2 gAdd (q2 gMulX (qTup (aCons (qC (.d (.int 255))) aNil)) (qC (.d (.int 399)))) (qTup (aCons (qC (.d (.int 127))) aNil))) (aCons (qC (.d (.int 0))) aNil))) aNil))) (aCons (qTup (aCons (qF (f2 gCat (qF (fRep (fLst (aCons (qC (.d (.int 255))) aNil)) (qC (.d (.int 399))))) (qF (fLst (aCons (qC (.d (.int 127))) aNil))))) (aCons (qTup (aCons (qTup (aCons (qV 22) (aCons (qC (.d (.int 400))) aNil))) (aCons (qC (.d .none)) aNil))) aNil))) aNil))))) (mRet .mo (qC (.d (.bool false)))) mNx)
    (mSeq (mIf (tOrF (tNotF (tV (q1 gAll (qF (fLc (iSeqX (qTup (aCons (qC (.d (.int 400))) (aCons (qC (.d (.int 401))) (aCons (qC (.d (.int 402))) aNil))))) [14] (bName 14) tTrue (q1 gIsN (q2 gIx (qCall (arity 2 r__law_number_at) (aCons (q2 gAdd (q2 gMulX (qTup (aCons (qC (.d (.int 128))) aNil)) (qV 14)) (qTup (aCons (qC (.d (.int 1))) aNil))) (aCons (qC (.d (.int 0))) aNil))) (qC (.d (.int 0)))))))))) (tV (q1 gIsN (q2 gIx (qCall (arity 2 r__law_number_at) (aCons (q2 gAdd (q2 gMulX (qTup (aCons (qC (.d (.int 128))) aNil)) (qC (.d (.int 399)))) (qTup (aCons (qC (.d (.int 1))) aNil))) (aCons (qC (.d (.int 0))) aNil))) (qC (.d (.int 0))))))) (mRet .mo (qC (.d (.bool false)))) mNx)
    (mRet .mo (qAnd (q2 gEq (qF (fCall (arity 1 r_number_bytes) (aCons (qC (.d (.int 1000))) aNil))) (qF (fLst (aCons (qC (.d (.int 232))) (aCons (qC (.d (.int 7))) aNil))))) (q2 gEq (qF (fCall (arity 1 (g_plain_bytes 6)) (aCons (qTup (aCons (qC (.d (.int 1))) (aCons (qC (.d .none)) (aCons (qC (.d (.str "a"))) aNil)))) aNil))) (qF (fLst (aCons (qC (.d (.int 3))) (aCons (qC (.d (.int 3))) (aCons (qC (.d (.int 1))) (aCons (qC (.d (.int 1))) (aCons (qC (.d (.int 0))) (aCons (qC (.d (.int 2))) (aCons (qC (.d (.int 1))) (aCons (qC (.d (.int 0))) aNil))))))))))))))))))))))
def r_law : List Val → Hs → Option (Val × Hs) := runE 22 m_law
end K18

set_option Elab.async false
set_option linter.all false
set_option maxRecDepth 100000
set_option maxHeartbeats 4000000
namespace K18
open PySem L2 Evl Sm
def top (i : Nat) : Stmt := PySem.Challenge.pw_treesheld_k18_whole_small_bytes.main.body.getD i (.Pass ⟨0, 0, 0, 0⟩)
abbrev s_number_bytes : Stmt := top 16
abbrev s_byte_at : Stmt := top 17
abbrev s_read_number : Stmt := top 18
abbrev s_text_bytes : Stmt := top 19
abbrev s_read_text : Stmt := top 20
abbrev s_plain_bytes : Stmt := top 21
abbrev s_read_plain : Stmt := top 22
abbrev s_check_of : Stmt := top 23
abbrev s__law_box : Stmt := top 25
abbrev s__law_load : Stmt := top 26
abbrev s__law_draw : Stmt := top 27
abbrev s__law_same : Stmt := top 28
abbrev s__law_number : Stmt := top 29
abbrev s__law_check : Stmt := top 30
abbrev s__law_text : Stmt := top 31
abbrev s__law_number_at : Stmt := top 32
abbrev s__law_plain_at : Stmt := top 33
abbrev s__law_plain : Stmt := top 34
abbrev s__law_plain_bytes : Stmt := top 35
abbrev s__law_plain_to : Stmt := top 36
abbrev s__law_text_at : Stmt := top 37
abbrev s_law : Stmt := top 38
structure Dn (K : PySem.W.Frag) (mg : Str → Option Value) (x : Str) (st : Stmt) (ps : List Str) (f : Addr) (fd : FuncData) : Prop where
  fn : Fun K x x st f fd
  mg : mg x = some (.ref f)
  bd : Binds K fd ps []
abbrev ed0 : Sx.ErrD := ⟨"BadBytes", "bad bytes at ", "BadBytes.__init__", ⟨⟨9, 17, 9, 21⟩, ⟨9, 23, 9, 28⟩, ⟨10, 8, 10, 13⟩, ⟨10, 8, 10, 15⟩, ⟨10, 8, 10, 24⟩, ⟨10, 25, 10, 40⟩, ⟨10, 43, 10, 46⟩, ⟨10, 47, 10, 52⟩, ⟨10, 43, 10, 53⟩, ⟨10, 25, 10, 53⟩, ⟨11, 8, 11, 12⟩, ⟨11, 8, 11, 18⟩, ⟨11, 21, 11, 26⟩, ⟨11, 8, 11, 26⟩, ⟨10, 8, 10, 54⟩, ⟨10, 8, 10, 54⟩, 0⟩⟩
abbrev xcs (K : PySem.W.Frag) : Nat → Addr := fun j => ([Sx.errC K ed0] : List Addr).getD j 0
structure Txt (P : Program) (K : PySem.W.Frag) (mg : Str → Option Value) (G : Glo) (f : Nat → Addr) (fd : Nat → FuncData) : Prop where
  gK : K = G.K
  e0 : ∀ (w : World) (base : Heap), Sx.ErrT P w K mg base "BadBytes" (Sx.errC K ed0) (Sx.errF K ed0)
  d0 : Dn K mg "number_bytes" s_number_bytes ["number"] (f 0) (fd 0)
  d1 : Dn K mg "byte_at" s_byte_at ["data", "place"] (f 1) (fd 1)
  d2 : Dn K mg "read_number" s_read_number ["data", "place"] (f 2) (fd 2)
  d3 : Dn K mg "text_bytes" s_text_bytes ["text"] (f 3) (fd 3)
  d4 : Dn K mg "read_text" s_read_text ["data", "place"] (f 4) (fd 4)
  d5 : Dn K mg "plain_bytes" s_plain_bytes ["value"] (f 5) (fd 5)
  d6 : Dn K mg "read_plain" s_read_plain ["data", "place", "nested"] (f 6) (fd 6)
  d7 : Dn K mg "check_of" s_check_of ["data"] (f 7) (fd 7)
  d8 : Dn K mg "_law_box" s__law_box ["script"] (f 8) (fd 8)
  d9 : Dn K mg "_law_load" s__law_load ["box"] (f 9) (fd 9)
  d10 : Dn K mg "_law_draw" s__law_draw ["box", "many"] (f 10) (fd 10)
  d11 : Dn K mg "_law_same" s__law_same ["a", "b"] (f 11) (fd 11)
  d12 : Dn K mg "_law_number" s__law_number ["number"] (f 12) (fd 12)
  d13 : Dn K mg "_law_check" s__law_check ["data"] (f 13) (fd 13)
  d14 : Dn K mg "_law_text" s__law_text ["text"] (f 14) (fd 14)
  d15 : Dn K mg "_law_number_at" s__law_number_at ["data", "place"] (f 15) (fd 15)
  d16 : Dn K mg "_law_plain_at" s__law_plain_at ["data", "place"] (f 16) (fd 16)
  d17 : Dn K mg "_law_plain" s__law_plain ["box", "deep"] (f 17) (fd 17)
  d18 : Dn K mg "_law_plain_bytes" s__law_plain_bytes ["value"] (f 18) (fd 18)
  d19 : Dn K mg "_law_plain_to" s__law_plain_to ["data", "nested"] (f 19) (fd 19)
  d20 : Dn K mg "_law_text_at" s__law_text_at ["data"] (f 20) (fd 20)
  d21 : Dn K mg "law" s_law ["script"] (f 21) (fd 21)
  z_all : mg "all" = none
  z_bool : mg "bool" = none
  z_int : mg "int" = none
  z_isinstance : mg "isinstance" = none
  z_len : mg "len" = none
  z_list : mg "list" = none
  z_range : mg "range" = none
  z_str : mg "str" = none
  z_tuple : mg "tuple" = none
  c_GROUP : GlobD K mg "GROUP" c_GROUP
  c_MOST_GROUPS : GlobD K mg "MOST_GROUPS" c_MOST_GROUPS
  c_SIGNS : GlobD K mg "SIGNS" c_SIGNS
  c_NOTHING : GlobD K mg "NOTHING" c_NOTHING
  c_TEXT : GlobD K mg "TEXT" c_TEXT
  c_TUPLE : GlobD K mg "TUPLE" c_TUPLE
  c_NUMBER : GlobD K mg "NUMBER" c_NUMBER
  c_STEP : GlobD K mg "STEP" c_STEP
  c_ROUND : GlobD K mg "ROUND" c_ROUND
  c_MOST_NESTED : GlobD K mg "MOST_NESTED" c_MOST_NESTED
section
variable {P : Program} {w : World} {K : PySem.W.Frag} {mg : Str → Option Value} {base : Heap} {G : Glo} {f : Nat → Addr} {fd : Nat → FuncData}
theorem sc_number_bytes : FnScope ["number", "found"] ["number"] (defScope s_number_bytes) := ⟨rfl, rfl, rfl, by decide +kernel, rfl, by decide +kernel, by decide +kernel⟩
theorem ok_number_bytes (T : Txt P K mg G f fd) : FnOk P w K mg base CX0 1 (f 0) (fd 0) ["number"] (spF G 1 r_number_bytes) :=
  fn_f T.d0.fn sc_number_bytes (by decide) fun cdv A outer s H E hr F hF => by
    have hK : K = F.G.K := by rw [hF]; exact T.gK
    have hu := hu4 hr
    have hu5 := hu65 hr
    have SC := sc_number_bytes
    exact (sb_cons (ss_setO (i := 1) SC.nd rfl (by first | exact Or.inl rfl | exact Or.inr rfl) (sf_lst sa_nil))
    (sb_cons (ss_while 1000 [] PassesOwn.never (st_cmp (ℓ₁ := .mo) (ℓ₂ := .mo) o_ge (sq_v 0) (sq_glob (ℓ := .mo) hK T.c_GROUP) (by rfl) gB0_b) (sb_cons (ss_app (i := 1) hK (se_q (sq_bin (ℓ := .st) (ℓ₁ := .st) (ℓ₂ := .st) (o_add hK) (sq_glob (ℓ := .st) hK T.c_GROUP) (sq_bin (ℓ := .st) (ℓ₁ := .mo) (ℓ₂ := .mo) o_mod (sq_v 0) (sq_glob (ℓ := .mo) hK T.c_GROUP)))))
    (sb_one (ss_set (i := 0) SC.nd rfl (by first | exact Or.inl rfl | exact Or.inr rfl) (sq_bin (ℓ := .fs) (ℓ₁ := .mo) (ℓ₂ := .mo) o_div (sq_v 0) (sq_glob (ℓ := .mo) hK T.c_GROUP))))))
    (sb_one (ss_retF (sf_cat hK (sq_v 1) (sq_f (sf_lst (sa_cons (sq_nl (ℓ := .st) (sq_v 0)) sa_nil))))))))
theorem sc_byte_at : FnScope ["data", "place"] ["data", "place"] (defScope s_byte_at) := ⟨rfl, rfl, rfl, by decide +kernel, rfl, by decide +kernel, by decide +kernel⟩
theorem ok_byte_at (T : Txt P K mg G f fd) : FnOk P w K mg base (L2.CX P w) 3 (f 1) (fd 1) ["data", "place"] (spX G (xcs K) 2 r_byte_at) :=
  fn_x T.d1.fn sc_byte_at (by decide) fun cdv A outer s H E hr F hF hxc hw => by
    have hK : K = F.G.K := by rw [hF]; exact T.gK
    have hu := hu4 hr
    have hu5 := hu65 hr
    have SC := sc_byte_at
    exact (sb_cons (ss_if (st_cmp (ℓ₁ := .mo) (ℓ₂ := .mo) o_ge (sq_v 1) (sq_len (ℓ := .mo) hK T.z_len (sq_v 0)) (by rfl) gB0_b) (sb_one (ss_raise (T.e0 _ _).xc (hr.mono (by decide)) rfl (by rw [hw]; exact takes_of rfl rfl rfl rfl) (by rw [hxc]; rfl) (sq_len (ℓ := .mo) hK T.z_len (sq_v 0)))) sb_nil)
    (sb_one (ss_ret (ℓ := .mo) (sq_sub hK (sq_v 0) (sq_v 1)))))
theorem sc_read_number : FnScope ["data", "place", "digits", "here", "found", "digit"] ["data", "place"] (defScope s_read_number) := ⟨rfl, rfl, rfl, by decide +kernel, rfl, by decide +kernel, by decide +kernel⟩
theorem ok_read_number (T : Txt P K mg G f fd) : FnOk P w K mg base (L2.CX P w) 4 (f 2) (fd 2) ["data", "place"] (spX G (xcs K) 2 r_read_number) :=
  fn_x T.d2.fn sc_read_number (by decide) fun cdv A outer s H E hr F hF hxc hw => by
    have hK : K = F.G.K := by rw [hF]; exact T.gK
    have hu := hu4 hr
    have hu5 := hu65 hr
    have SC := sc_read_number
    exact (sb_cons (ss_par2 (i := 2) (j := 3) rfl SC.nd rfl rfl (by decide) rfl rfl (sp_l (sef_f (sf_lst sa_nil)) (sp_v (se_q (sq_vs 1)) sp_nil)) (by rfl))
    (sb_cons (ss_whileX 1000 [] (passes_of rfl) (stx_cmp (ℓ₁ := .mo) (ℓ₂ := .mo) o_ge (sx_call (ok_byte_at T) hF hxc (by rw [hw]; exact takes_of rfl rfl rfl rfl) (hr.mono (by decide)) T.d1.mg T.d1.fn.kp T.d1.bd (sa_cons (sq_v 0) (sa_cons (sq_v 3) sa_nil))) (sq_glob (ℓ := .mo) hK T.c_GROUP) (by rfl) gB0_b) (sb_cons (ss_app (i := 2) hK (se_q (sq_bin (ℓ := .st) (ℓ₁ := .mo) (ℓ₂ := .mo) o_sub (sq_sub hK (sq_v 0) (sq_v 3)) (sq_glob (ℓ := .mo) hK T.c_GROUP))))
    (sb_cons (ss_augI (i := 3) SC.nd rfl (by first | exact Or.inl rfl | exact Or.inr rfl) ip_add (sq_int (ℓ := .mo)))
    (sb_one (ss_if (st_cmp (ℓ₁ := .mo) (ℓ₂ := .mo) o_ge (sq_len (ℓ := .mo) hK T.z_len (sq_v 2)) (sq_glob (ℓ := .mo) hK T.c_MOST_GROUPS) (by rfl) gB0_b) (sb_one (ss_raise (T.e0 _ _).xc (hr.mono (by decide)) rfl (by rw [hw]; exact takes_of rfl rfl rfl rfl) (by rw [hxc]; rfl) (sq_v 1))) sb_nil)))))
    (sb_cons (ss_if (PW.pt (sw_and (st_cmp (ℓ₁ := .mo) (ℓ₂ := .mo) (o_eq hK hu) (sq_sub hK (sq_v 0) (sq_v 3)) (sq_int (ℓ := .mo)) (by rfl) gEq_b) (sw_and1 (st_v hK (sq_v 2))))) (sb_one (ss_raise (T.e0 _ _).xc (hr.mono (by decide)) rfl (by rw [hw]; exact takes_of rfl rfl rfl rfl) (by rw [hxc]; rfl) (sq_v 3))) sb_nil)
    (sb_cons (ss_set (i := 4) SC.nd rfl (by first | exact Or.inl rfl | exact Or.inr rfl) (sq_nl (ℓ := .fs) (sq_sub hK (sq_v 0) (sq_v 3))))
    (sb_cons (ss_for [5] (passes_of rfl) rfl (si_seqT hK (sq_st (ℓ := .fs) (sq_lock (sf_rev hK (sq_v 2))))) (sg_name (i := 5) SC.nd rfl (by first | exact Or.inl rfl | exact Or.inr rfl)) (sb_one (ss_set (i := 4) SC.nd rfl (by first | exact Or.inl rfl | exact Or.inr rfl) (sq_bin (ℓ := .fs) (ℓ₁ := .fs) (ℓ₂ := .fs) (o_add hK) (sq_bin (ℓ := .fs) (ℓ₁ := .fs) (ℓ₂ := .mo) (o_mulX hK) (sq_vs 4) (sq_glob (ℓ := .mo) hK T.c_GROUP)) (sq_vs 5)))))
    (sb_one (ss_ret (ℓ := .mo) (sq_tup (sa_cons (sq_v 4) (sa_cons (sq_bin (ℓ := .mo) (ℓ₁ := .mo) (ℓ₂ := .mo) (o_add hK) (sq_v 3) (sq_int (ℓ := .mo))) sa_nil))))))))))
theorem sc_text_bytes : FnScope ["text", "sign"] ["text"] (defScope s_text_bytes) := ⟨rfl, rfl, rfl, by decide +kernel, rfl, by decide +kernel, by decide +kernel⟩
theorem ok_text_bytes (T : Txt P K mg G f fd) : FnOk P w K mg base CX0 2 (f 3) (fd 3) ["text"] (spF G 1 r_text_bytes) :=
  fn_f T.d3.fn sc_text_bytes (by decide) fun cdv A outer s H E hr F hF => by
    have hK : K = F.G.K := by rw [hF]; exact T.gK
    have hu := hu4 hr
    have hu5 := hu65 hr
    have SC := sc_text_bytes
    exact (sb_one (ss_retF (sf_cat hK (sq_f (sf_call (ok_number_bytes T) hF (hr.mono (by decide)) T.d0.mg T.d0.fn.kp T.d0.bd (sa_cons (sq_len (ℓ := .mo) hK T.z_len (sq_v 0)) sa_nil))) (sq_f (sf_lc (own := [("sign", 1)]) rfl SC.nd (si_seqX hK (sq_v 0)) (by kernel_rfl) (by decide) (fun _ _ _ _ _ => (sg_name (i := 1) SC.nd rfl (by first | exact Or.inl rfl | exact Or.inr rfl))) (fun _ _ _ _ _ => sts_nil) (fun _ _ _ _ _ => (sq_sindex (ℓ := .st) (sq_glob (ℓ := .mo) hK T.c_SIGNS) (sq_v 1))))))))
theorem sc_read_text : FnScope ["data", "place", "many", "first", "k", "byte"] ["data", "place"] (defScope s_read_text) := ⟨rfl, rfl, rfl, by decide +kernel, rfl, by decide +kernel, by decide +kernel⟩
theorem ok_read_text (T : Txt P K mg G f fd) : FnOk P w K mg base (L2.CX P w) 5 (f 4) (fd 4) ["data", "place"] (spX G (xcs K) 2 r_read_text) :=
  fn_x T.d4.fn sc_read_text (by decide) fun cdv A outer s H E hr F hF hxc hw => by
    have hK : K = F.G.K := by rw [hF]; exact T.gK
    have hu := hu4 hr
    have hu5 := hu65 hr
    have SC := sc_read_text
    exact (sb_cons (ss_asgX (sx_nl (ℓ := .fs) (sx_call (ok_read_number T) hF hxc (by rw [hw]; exact takes_of rfl rfl rfl rfl) (hr.mono (by decide)) T.d2.mg T.d2.fn.kp T.d2.bd (sa_cons (sq_v 0) (sa_cons (sq_v 1) sa_nil)))) (sg_tup hK rfl (sgs_cons (sg_name (i := 2) SC.nd rfl (by first | exact Or.inl rfl | exact Or.inr rfl)) (sgs_cons (sg_name (i := 3) SC.nd rfl (by first | exact Or.inl rfl | exact Or.inr rfl)) sgs_nil))))
    (sb_cons (ss_if (st_cmp (ℓ₁ := .mo) (ℓ₂ := .mo) o_gt (sq_bin (ℓ := .mo) (ℓ₁ := .mo) (ℓ₂ := .mo) (o_add hK) (sq_v 3) (sq_v 2)) (sq_len (ℓ := .mo) hK T.z_len (sq_v 0)) (by rfl) gB0_b) (sb_one (ss_raise (T.e0 _ _).xc (hr.mono (by decide)) rfl (by rw [hw]; exact takes_of rfl rfl rfl rfl) (by rw [hxc]; rfl) (sq_len (ℓ := .mo) hK T.z_len (sq_v 0)))) sb_nil)
    (sb_cons (ss_for [4] (passes_of rfl) rfl (si_rngB T.z_range (sq_v 3) (sq_bin (ℓ := .mo) (ℓ₁ := .mo) (ℓ₂ := .mo) (o_add hK) (sq_v 3) (sq_v 2))) (sg_name (i := 4) SC.nd rfl (by first | exact Or.inl rfl | exact Or.inr rfl)) (sb_one (ss_if (st_cmp (ℓ₁ := .mo) (ℓ₂ := .mo) o_ge (sq_sub hK (sq_v 0) (sq_v 4)) (sq_len (ℓ := .mo) hK T.z_len (sq_glob (ℓ := .mo) hK T.c_SIGNS)) (by rfl) gB0_b) (sb_one (ss_raise (T.e0 _ _).xc (hr.mono (by decide)) rfl (by rw [hw]; exact takes_of rfl rfl rfl rfl) (by rw [hxc]; rfl) (sq_v 4))) sb_nil)))
    (sb_one (ss_ret (ℓ := .mo) (sq_tup (sa_cons (sq_join (ℓ := .mo) hK (sq_f (sf_lc (own := [("byte", 5)]) rfl SC.nd (si_seqX hK (sq_slice hK (sq_v 0) (so_some (sq_v 3)) (so_some (sq_bin (ℓ := .mo) (ℓ₁ := .mo) (ℓ₂ := .mo) (o_add hK) (sq_v 3) (sq_v 2))))) (by kernel_rfl) (by decide) (fun _ _ _ _ _ => (sg_name (i := 5) SC.nd rfl (by first | exact Or.inl rfl | exact Or.inr rfl))) (fun _ _ _ _ _ => sts_nil) (fun _ _ _ _ _ => (sq_nl (ℓ := .st) (sq_sub hK (sq_glob (ℓ := .mo) hK T.c_SIGNS) (sq_v 5))))))) (sa_cons (sq_bin (ℓ := .mo) (ℓ₁ := .mo) (ℓ₂ := .mo) (o_add hK) (sq_v 3) (sq_v 2)) sa_nil))))))))
theorem sc_plain_bytes : FnScope ["value", "byte", "part"] ["value"] (defScope s_plain_bytes) := ⟨rfl, rfl, rfl, by decide +kernel, rfl, by decide +kernel, by decide +kernel⟩
theorem okg_plain_bytes (T : Txt P K mg G f fd) : ∀ n, FnOk P w K mg base CX0 (3 + n) (f 5) (fd 5) ["value"] (spF G 1 (g_plain_bytes n))
  | 0 => fn_f (m := fun _ _ => none) T.d5.fn sc_plain_bytes (by decide) fun cdv A outer s H E hr F hF => ⟨fun pins s σ H D I ⟨_, _, _, _, _, _, _, e, _⟩ => by cases e⟩
  | n + 1 => fn_f T.d5.fn sc_plain_bytes (by decide) fun cdv A outer s H E hr F hF => by
    have ih := okg_plain_bytes T n
    have hr : Room (3 + n) _ := hr
    have hK : K = F.G.K := by rw [hF]; exact T.gK
    have hu := hu4 hr
    have hu5 := hu65 hr
    have SC := sc_plain_bytes
    exact (sb_cons (ss_if (st_isN (sq_v 0)) (sb_one (ss_retF (sf_lst (sa_cons (sq_glob (ℓ := .st) hK T.c_NOTHING) sa_nil)))) sb_nil)
    (sb_cons (ss_if (st_v hK (sq_isi (ℓ := .mo) isi_str hK T.z_isinstance T.z_str (by decide +kernel) (sq_v 0))) (sb_one (ss_retF (sf_cat hK (sq_f (sf_lst (sa_cons (sq_glob (ℓ := .st) hK T.c_TEXT) sa_nil))) (sq_f (sf_call (ok_text_bytes T) hF (hr.mono (by omega)) T.d3.mg T.d3.fn.kp T.d3.bd (sa_cons (sq_v 0) sa_nil)))))) sb_nil)
    (sb_cons (ss_if (st_v hK (sq_isi (ℓ := .mo) isi_tuple hK T.z_isinstance T.z_tuple (by decide +kernel) (sq_v 0))) (sb_one (ss_retF (sf_cat hK (sq_f (sf_cat hK (sq_f (sf_lst (sa_cons (sq_glob (ℓ := .st) hK T.c_TUPLE) sa_nil))) (sq_f (sf_call (ok_number_bytes T) hF (hr.mono (by omega)) T.d0.mg T.d0.fn.kp T.d0.bd (sa_cons (sq_len (ℓ := .mo) hK T.z_len (sq_v 0)) sa_nil))))) (sq_f (sf_lc2 (own := [("part", 2), ("byte", 1)]) (vs1 := [1]) hK rfl SC.nd (si_seqX hK (sq_v 0)) (by kernel_rfl) (by decide) (by decide) (by decide) bok_name bok_name (fun _ _ _ _ _ => (sg_name (i := 2) SC.nd rfl (by first | exact Or.inl rfl | exact Or.inr rfl))) (fun _ _ _ _ _ => sts_nil) (fun _ _ _ _ _ => (sf_call ih hF (hr.mono (by omega)) T.d5.mg T.d5.fn.kp T.d5.bd (sa_cons (sq_v 2) sa_nil))) (fun _ _ _ _ _ => (sg_name (i := 1) SC.nd rfl (by first | exact Or.inl rfl | exact Or.inr rfl))) (fun _ _ _ _ _ => sts_nil) (fun _ _ _ _ _ => (sq_nl (ℓ := .st) (sq_v 1)))))))) sb_nil)
    (sb_one (ss_retF (sf_cat hK (sq_f (sf_lst (sa_cons (sq_glob (ℓ := .st) hK T.c_NUMBER) sa_nil))) (sq_f (sf_call (ok_number_bytes T) hF (hr.mono (by omega)) T.d0.mg T.d0.fn.kp T.d0.bd (sa_cons (sq_v 0) sa_nil)))))))))
theorem ok_plain_bytes (T : Txt P K mg G f fd) : FnOk P w K mg base CX0 9 (f 5) (fd 5) ["value"] (spF G 1 (g_plain_bytes 6)) := okg_plain_bytes T 6
theorem sc_read_plain : FnScope ["data", "place", "nested", "kind", "many", "here", "found", "part"] ["data", "place", "nested"] (defScope s_read_plain) := ⟨rfl, rfl, rfl, by decide +kernel, rfl, by decide +kernel, by decide +kernel⟩
theorem okg_read_plain (T : Txt P K mg G f fd) : ∀ n, FnOk P w K mg base (L2.CX P w) (6 + n) (f 6) (fd 6) ["data", "place", "nested"] (spX G (xcs K) 3 (g_read_plain n))
  | 0 => fn_x (m := fun _ _ => none) T.d6.fn sc_read_plain (by decide) fun cdv A outer s H E hr F hF hxc hw => ⟨fun pins s σ H D I ⟨_, _, _, _, _, _, _, e, _⟩ => by cases e⟩
  | n + 1 => fn_x T.d6.fn sc_read_plain (by decide) fun cdv A outer s H E hr F hF hxc hw => by
    have ih := okg_read_plain T n
    have hr : Room (6 + n) _ := hr
    have hK : K = F.G.K := by rw [hF]; exact T.gK
    have hu := hu4 hr
    have hu5 := hu65 hr
    have SC := sc_read_plain
    exact (sb_cons (ss_setX (i := 3) SC.nd rfl (by first | exact Or.inl rfl | exact Or.inr rfl) (sx_nl (ℓ := .fs) (sx_call (ok_byte_at T) hF hxc (by rw [hw]; exact takes_of rfl rfl rfl rfl) (hr.mono (by omega)) T.d1.mg T.d1.fn.kp T.d1.bd (sa_cons (sq_v 0) (sa_cons (sq_v 1) sa_nil)))))
    (sb_cons (ss_if (st_cmp (ℓ₁ := .mo) (ℓ₂ := .mo) (o_eq hK hu) (sq_v 3) (sq_glob (ℓ := .mo) hK T.c_NOTHING) (by rfl) gEq_b) (sb_one (ss_ret (ℓ := .mo) (sq_tup (sa_cons (sq_non (ℓ := .mo)) (sa_cons (sq_bin (ℓ := .mo) (ℓ₁ := .mo) (ℓ₂ := .mo) (o_add hK) (sq_v 1) (sq_int (ℓ := .mo))) sa_nil))))) sb_nil)
    (sb_cons (ss_if (st_cmp (ℓ₁ := .mo) (ℓ₂ := .mo) (o_eq hK hu) (sq_v 3) (sq_glob (ℓ := .mo) hK T.c_NUMBER) (by rfl) gEq_b) (sb_one (ss_retX (ℓ := .mo) (sx_call (ok_read_number T) hF hxc (by rw [hw]; exact takes_of rfl rfl rfl rfl) (hr.mono (by omega)) T.d2.mg T.d2.fn.kp T.d2.bd (sa_cons (sq_v 0) (sa_cons (sq_bin (ℓ := .mo) (ℓ₁ := .mo) (ℓ₂ := .mo) (o_add hK) (sq_v 1) (sq_int (ℓ := .mo))) sa_nil))))) sb_nil)
    (sb_cons (ss_if (st_cmp (ℓ₁ := .mo) (ℓ₂ := .mo) (o_eq hK hu) (sq_v 3) (sq_glob (ℓ := .mo) hK T.c_TEXT) (by rfl) gEq_b) (sb_one (ss_retX (ℓ := .mo) (sx_call (ok_read_text T) hF hxc (by rw [hw]; exact takes_of rfl rfl rfl rfl) (hr.mono (by omega)) T.d4.mg T.d4.fn.kp T.d4.bd (sa_cons (sq_v 0) (sa_cons (sq_bin (ℓ := .mo) (ℓ₁ := .mo) (ℓ₂ := .mo) (o_add hK) (sq_v 1) (sq_int (ℓ := .mo))) sa_nil))))) sb_nil)
    (sb_cons (ss_if (PW.pt (sw_or (st_cmp (ℓ₁ := .mo) (ℓ₂ := .mo) (o_ne hK hu) (sq_v 3) (sq_glob (ℓ := .mo) hK T.c_TUPLE) (by rfl) gNe_b) (sw_or1 (st_cmp (ℓ₁ := .mo) (ℓ₂ := .mo) (o_eq hK hu) (sq_v 2) (sq_int (ℓ := .mo)) (by rfl) gEq_b)))) (sb_one (ss_raise (T.e0 _ _).xc (hr.mono (by omega)) rfl (by rw [hw]; exact takes_of rfl rfl rfl rfl) (by rw [hxc]; rfl) (sq_v 1))) sb_nil)
    (sb_cons (ss_asgX (sx_nl (ℓ := .fs) (sx_call (ok_read_number T) hF hxc (by rw [hw]; exact takes_of rfl rfl rfl rfl) (hr.mono (by omega)) T.d2.mg T.d2.fn.kp T.d2.bd (sa_cons (sq_v 0) (sa_cons (sq_bin (ℓ := .mo) (ℓ₁ := .mo) (ℓ₂ := .mo) (o_add hK) (sq_v 1) (sq_int (ℓ := .mo))) sa_nil)))) (sg_tup hK rfl (sgs_cons (sg_name (i := 4) SC.nd rfl (by first | exact Or.inl rfl | exact Or.inr rfl)) (sgs_cons (sg_name (i := 5) SC.nd rfl (by first | exact Or.inl rfl | exact Or.inr rfl)) sgs_nil))))
    (sb_cons (ss_setO (i := 6) SC.nd rfl (by first | exact Or.inl rfl | exact Or.inr rfl) (sf_lst sa_nil))
    (sb_cons (ss_while 1000 [7] (passes_of rfl) (st_cmp (ℓ₁ := .mo) (ℓ₂ := .mo) o_lt (sq_len (ℓ := .mo) hK T.z_len (sq_v 6)) (sq_v 4) (by rfl) gB0_b) (sb_cons (ss_asgX (sx_nl (ℓ := .fs) (sx_call ih hF hxc (by rw [hw]; exact takes_of rfl rfl rfl rfl) (hr.mono (by omega)) T.d6.mg T.d6.fn.kp T.d6.bd (sa_cons (sq_v 0) (sa_cons (sq_v 5) (sa_cons (sq_bin (ℓ := .mo) (ℓ₁ := .mo) (ℓ₂ := .mo) o_sub (sq_v 2) (sq_int (ℓ := .mo))) sa_nil))))) (sg_tup hK rfl (sgs_cons (sg_name (i := 7) SC.nd rfl (by first | exact Or.inl rfl | exact Or.inr rfl)) (sgs_cons (sg_name (i := 5) SC.nd rfl (by first | exact Or.inl rfl | exact Or.inr rfl)) sgs_nil))))
    (sb_one (ss_app (i := 6) hK (se_q (sq_nl (ℓ := .st) (sq_v 7)))))))
    (sb_one (ss_ret (ℓ := .mo) (sq_tup (sa_cons (sq_totup hK T.z_tuple (sq_v 6)) (sa_cons (sq_v 5) sa_nil)))))))))))))
theorem ok_read_plain (T : Txt P K mg G f fd) : FnOk P w K mg base (L2.CX P w) 20 (f 6) (fd 6) ["data", "place", "nested"] (spX G (xcs K) 3 (g_read_plain 14)) := okg_read_plain T 14
theorem sc_check_of : FnScope ["data", "found", "byte"] ["data"] (defScope s_check_of) := ⟨rfl, rfl, rfl, by decide +kernel, rfl, by decide +kernel, by decide +kernel⟩
theorem ok_check_of (T : Txt P K mg G f fd) : FnOk P w K mg base CX0 1 (f 7) (fd 7) ["data"] (spQ G 1 r_check_of) :=
  fn_q T.d7.fn sc_check_of (by decide) fun cdv A outer s H E hr F hF => by
    have hK : K = F.G.K := by rw [hF]; exact T.gK
    have hu := hu4 hr
    have hu5 := hu65 hr
    have SC := sc_check_of
    exact (sb_cons (ss_set (i := 1) SC.nd rfl (by first | exact Or.inl rfl | exact Or.inr rfl) (sq_int (ℓ := .fs)))
    (sb_cons (ss_for [2] PassesOwn.never rfl (si_seqT hK (sq_vs 0)) (sg_name (i := 2) SC.nd rfl (by first | exact Or.inl rfl | exact Or.inr rfl)) (sb_one (ss_set (i := 1) SC.nd rfl (by first | exact Or.inl rfl | exact Or.inr rfl) (sq_bin (ℓ := .fs) (ℓ₁ := .mo) (ℓ₂ := .mo) o_mod (sq_bin (ℓ := .mo) (ℓ₁ := .mo) (ℓ₂ := .mo) (o_add hK) (sq_bin (ℓ := .mo) (ℓ₁ := .mo) (ℓ₂ := .mo) (o_add hK) (sq_bin (ℓ := .mo) (ℓ₁ := .mo) (ℓ₂ := .mo) (o_mulX hK) (sq_v 1) (sq_glob (ℓ := .mo) hK T.c_STEP)) (sq_v 2)) (sq_int (ℓ := .mo))) (sq_glob (ℓ := .mo) hK T.c_ROUND)))))
    (sb_one (ss_ret (ℓ := .mo) (sq_v 1)))))
theorem sc__law_box : FnScope ["script"] ["script"] (defScope s__law_box) := ⟨rfl, rfl, rfl, by decide +kernel, rfl, by decide +kernel, by decide +kernel⟩
theorem ok__law_box (T : Txt P K mg G f fd) : FnOk P w K mg base CX0 1 (f 8) (fd 8) ["script"] (spE G 1 r__law_box) :=
  fn_e T.d8.fn sc__law_box (by decide) fun cdv A outer s H E hr F hF hw => by
    have hK : K = F.G.K := by rw [hF]; exact T.gK
    have hu := hu4 hr
    have hu5 := hu65 hr
    have SC := sc__law_box
    exact (sb_one (ss_retE (ℓ := .st) (se_new hw (sas_cons (se_newF (ℓ := .st) (sf_tolist hK T.z_list (sq_f (sf_slice hK (sq_v 0) so_none (so_some (sq_int (ℓ := .mo))))))) (sas_cons (se_q (sq_int (ℓ := .st))) (sas_cons (se_q (sq_bin (ℓ := .st) (ℓ₁ := .st) (ℓ₂ := .st) (o_add hK) (sq_int (ℓ := .st)) (sq_len (ℓ := .st) hK T.z_len (sq_v 0)))) sas_nil))))))
theorem sc__law_load : FnScope ["box", "cells", "cell", "size", "first", "second"] ["box"] (defScope s__law_load) := ⟨rfl, rfl, rfl, by decide +kernel, rfl, by decide +kernel, by decide +kernel⟩
theorem ok__law_load (T : Txt P K mg G f fd) : FnOk P w K mg base CX0 1 (f 9) (fd 9) ["box"] (spE G 1 r__law_load) :=
  fn_e T.d9.fn sc__law_load (by decide) fun cdv A outer s H E hr F hF hw => by
    have hK : K = F.G.K := by rw [hF]; exact T.gK
    have hu := hu4 hr
    have hu5 := hu65 hr
    have SC := sc__law_load
    exact (sb_cons (ss_set (i := 1) SC.nd rfl (by first | exact Or.inl rfl | exact Or.inr rfl) (sq_nl (ℓ := .fs) (sq_sub hK (sq_v 0) (sq_int (ℓ := .mo)))))
    (sb_cons (ss_if (st_cmp (ℓ₁ := .mo) (ℓ₂ := .mo) o_gt (sq_len (ℓ := .mo) hK T.z_len (sq_v 1)) (sq_int (ℓ := .mo)) (by rfl) gB0_b) (sb_cons (ss_setE (i := 2) SC.nd rfl (by first | exact Or.inl rfl | exact Or.inr rfl) (se_toint (ℓ := .fs) T.z_int (se_fs (se_pop hw hK (sq_v 1) (sq_int (ℓ := .mo))))))
    (sb_cons (ss_set (i := 3) SC.nd rfl (by first | exact Or.inl rfl | exact Or.inr rfl) (sq_if (st_cmp (ℓ₁ := .mo) (ℓ₂ := .mo) o_ge (sq_v 2) (sq_int (ℓ := .mo)) (by rfl) gB0_b) (sq_bin (ℓ := .fs) (ℓ₁ := .fs) (ℓ₂ := .mo) (o_mulX hK) (sq_int (ℓ := .fs)) (sq_v 2)) (sq_bin (ℓ := .fs) (ℓ₁ := .mo) (ℓ₂ := .mo) o_sub (sq_bin (ℓ := .mo) (ℓ₁ := .mo) (ℓ₂ := .mo) (o_mulX hK) (sq_neg (ℓ := .mo) (sq_int (ℓ := .mo))) (sq_v 2)) (sq_int (ℓ := .mo)))))
    (sb_cons (ss_if (st_cmp (ℓ₁ := .mo) (ℓ₂ := .mo) o_ge (sq_v 3) (sq_int (ℓ := .mo)) (by rfl) gB0_b) (sb_one (ss_ret (ℓ := .mo) (sq_v 3))) sb_nil)
    (sb_one (ss_put hw (se_q (sq_bin (ℓ := .st) (ℓ₁ := .mo) (ℓ₂ := .mo) o_mod (sq_toint (ℓ := .mo) T.z_int (sq_bin (ℓ := .mo) (ℓ₁ := .mo) (ℓ₂ := .mo) (o_add hK) (sq_bin (ℓ := .mo) (ℓ₁ := .mo) (ℓ₂ := .mo) (o_add hK) (sq_bin (ℓ := .mo) (ℓ₁ := .mo) (ℓ₂ := .mo) (o_mulX hK) (sq_sub hK (sq_v 0) (sq_int (ℓ := .mo))) (sq_int (ℓ := .mo))) (sq_bin (ℓ := .mo) (ℓ₁ := .mo) (ℓ₂ := .mo) (o_mulX hK) (sq_v 3) (sq_int (ℓ := .mo)))) (sq_int (ℓ := .mo)))) (sq_int (ℓ := .mo)))) (sq_v 0) (sq_int (ℓ := .mo))))))) sb_nil)
    (sb_cons (ss_set (i := 4) SC.nd rfl (by first | exact Or.inl rfl | exact Or.inr rfl) (sq_bin (ℓ := .fs) (ℓ₁ := .mo) (ℓ₂ := .mo) o_mod (sq_toint (ℓ := .mo) T.z_int (sq_bin (ℓ := .mo) (ℓ₁ := .mo) (ℓ₂ := .mo) (o_add hK) (sq_bin (ℓ := .mo) (ℓ₁ := .mo) (ℓ₂ := .mo) (o_mulX hK) (sq_sub hK (sq_v 0) (sq_int (ℓ := .mo))) (sq_int (ℓ := .mo))) (sq_int (ℓ := .mo)))) (sq_int (ℓ := .mo))))
    (sb_cons (ss_set (i := 5) SC.nd rfl (by first | exact Or.inl rfl | exact Or.inr rfl) (sq_bin (ℓ := .fs) (ℓ₁ := .mo) (ℓ₂ := .mo) o_mod (sq_toint (ℓ := .mo) T.z_int (sq_bin (ℓ := .mo) (ℓ₁ := .mo) (ℓ₂ := .mo) (o_add hK) (sq_bin (ℓ := .mo) (ℓ₁ := .mo) (ℓ₂ := .mo) (o_mulX hK) (sq_v 4) (sq_int (ℓ := .mo))) (sq_int (ℓ := .mo)))) (sq_int (ℓ := .mo))))
    (sb_cons (ss_put hw (se_q (sq_bin (ℓ := .st) (ℓ₁ := .mo) (ℓ₂ := .mo) o_mod (sq_toint (ℓ := .mo) T.z_int (sq_bin (ℓ := .mo) (ℓ₁ := .mo) (ℓ₂ := .mo) (o_add hK) (sq_bin (ℓ := .mo) (ℓ₁ := .mo) (ℓ₂ := .mo) (o_mulX hK) (sq_v 5) (sq_int (ℓ := .mo))) (sq_int (ℓ := .mo)))) (sq_int (ℓ := .mo)))) (sq_v 0) (sq_int (ℓ := .mo)))
    (sb_one (ss_ret (ℓ := .mo) (sq_bin (ℓ := .mo) (ℓ₁ := .mo) (ℓ₂ := .mo) (o_add hK) (sq_bin (ℓ := .mo) (ℓ₁ := .mo) (ℓ₂ := .mo) (o_add hK) (sq_bin (ℓ := .mo) (ℓ₁ := .mo) (ℓ₂ := .mo) (o_mulX hK) (sq_v 4) (sq_int (ℓ := .mo))) (sq_bin (ℓ := .mo) (ℓ₁ := .mo) (ℓ₂ := .mo) (o_mulX hK) (sq_v 5) (sq_int (ℓ := .mo)))) (sq_sub hK (sq_v 0) (sq_int (ℓ := .mo)))))))))))
theorem sc__law_draw : FnScope ["box", "many", "digit"] ["box", "many"] (defScope s__law_draw) := ⟨rfl, rfl, rfl, by decide +kernel, rfl, by decide +kernel, by decide +kernel⟩
theorem ok__law_draw (T : Txt P K mg G f fd) : FnOk P w K mg base CX0 2 (f 10) (fd 10) ["box", "many"] (spE G 2 r__law_draw) :=
  fn_e T.d10.fn sc__law_draw (by decide) fun cdv A outer s H E hr F hF hw => by
    have hK : K = F.G.K := by rw [hF]; exact T.gK
    have hu := hu4 hr
    have hu5 := hu65 hr
    have SC := sc__law_draw
    exact (sb_cons (ss_if (st_cmp (ℓ₁ := .mo) (ℓ₂ := .mo) o_lt (sq_sub hK (sq_v 0) (sq_int (ℓ := .mo))) (sq_v 1) (by rfl) gB0_b) (sb_one (ss_put hw (se_call (ok__law_load T) hF hw (hr.mono (by decide)) T.d9.mg T.d9.fn.kp T.d9.bd (sea_cons (se_q (sq_vs 0)) sea_nil)) (sq_v 0) (sq_int (ℓ := .mo)))) sb_nil)
    (sb_cons (ss_set (i := 2) SC.nd rfl (by first | exact Or.inl rfl | exact Or.inr rfl) (sq_bin (ℓ := .fs) (ℓ₁ := .mo) (ℓ₂ := .mo) o_mod (sq_toint (ℓ := .mo) T.z_int (sq_sub hK (sq_v 0) (sq_int (ℓ := .mo)))) (sq_v 1)))
    (sb_cons (ss_put hw (se_q (sq_bin (ℓ := .st) (ℓ₁ := .mo) (ℓ₂ := .mo) o_div (sq_sub hK (sq_v 0) (sq_int (ℓ := .mo))) (sq_v 1))) (sq_v 0) (sq_int (ℓ := .mo)))
    (sb_one (ss_ret (ℓ := .mo) (sq_v 2))))))
theorem sc__law_same : FnScope ["a", "b", "k"] ["a", "b"] (defScope s__law_same) := ⟨rfl, rfl, rfl, by decide +kernel, rfl, by decide +kernel, by decide +kernel⟩
theorem okg__law_same (T : Txt P K mg G f fd) : ∀ n, FnOk P w K mg base CX0 (1 + n) (f 11) (fd 11) ["a", "b"] (spQ G 2 (g__law_same n))
  | 0 => fn_q (m := fun _ _ => none) T.d11.fn sc__law_same (by decide) fun cdv A outer s H E hr F hF => ⟨fun pins s σ H D I ⟨_, _, _, _, _, _, _, e, _⟩ => by cases e⟩
  | n + 1 => fn_q T.d11.fn sc__law_same (by decide) fun cdv A outer s H E hr F hF => by
    have ih := okg__law_same T n
    have hr : Room (1 + n) _ := hr
    have hK : K = F.G.K := by rw [hF]; exact T.gK
    have hu := hu4 hr
    have hu5 := hu65 hr
    have SC := sc__law_same
    exact (sb_cons (ss_if (PW.pt (sw_or (PW.pt (sw_and (st_v hK (sq_isi (ℓ := .mo) isi_tuple hK T.z_isinstance T.z_tuple (by decide +kernel) (sq_v 0))) (sw_and1 (st_v hK (sq_isi (ℓ := .mo) isi_tuple hK T.z_isinstance T.z_tuple (by decide +kernel) (sq_v 1)))))) (sw_or1 (PW.pt (sw_and (st_v hK (sq_isi (ℓ := .mo) isi_list hK T.z_isinstance T.z_list (by decide +kernel) (sq_v 0))) (sw_and1 (st_v hK (sq_isi (ℓ := .mo) isi_list hK T.z_isinstance T.z_list (by decide +kernel) (sq_v 1))))))))) (sb_one (ss_ret (ℓ := .mo) (sq_and (sq_cmp (ℓ := .mo) (ℓ₁ := .mo) (ℓ₂ := .mo) (o_eq hK hu) (sq_len (ℓ := .mo) hK T.z_len (sq_v 0)) (sq_len (ℓ := .mo) hK T.z_len (sq_v 1)) (by rfl)) (sq_one (sq_all (ℓ := .mo) hK rfl T.z_all (sq_f (sf_lc (own := [("k", 2)]) rfl SC.nd (si_rng T.z_range (sq_len (ℓ := .mo) hK T.z_len (sq_v 0))) (by kernel_rfl) (by decide) (fun _ _ _ _ _ => (sg_name (i := 2) SC.nd rfl (by first | exact Or.inl rfl | exact Or.inr rfl))) (fun _ _ _ _ _ => sts_nil) (fun _ _ _ _ _ => (sq_nl (ℓ := .st) (sq_call ih hF (hr.mono (by omega)) T.d11.mg T.d11.fn.kp T.d11.bd (sa_cons (sq_sub hK (sq_v 0) (sq_v 2)) (sa_cons (sq_sub hK (sq_v 1) (sq_v 2)) sa_nil)))))))))))) sb_nil)
    (sb_cons (ss_if (PW.pt (sw_or (st_v hK (sq_isi (ℓ := .mo) isi_bool hK T.z_isinstance T.z_bool (by decide +kernel) (sq_v 0))) (sw_or1 (st_v hK (sq_isi (ℓ := .mo) isi_bool hK T.z_isinstance T.z_bool (by decide +kernel) (sq_v 1)))))) (sb_one (ss_ret (ℓ := .mo) (sq_and (sq_isi (ℓ := .mo) isi_bool hK T.z_isinstance T.z_bool (by decide +kernel) (sq_v 0)) (sq_and (sq_isi (ℓ := .mo) isi_bool hK T.z_isinstance T.z_bool (by decide +kernel) (sq_v 1)) (sq_one (sq_cmp (ℓ := .mo) (ℓ₁ := .mo) (ℓ₂ := .mo) (o_eq hK hu) (sq_v 0) (sq_v 1) (by rfl))))))) sb_nil)
    (sb_cons (ss_if (PW.pt (sw_or (PW.pt (sw_and (st_v hK (sq_isi (ℓ := .mo) isi_int hK T.z_isinstance T.z_int (by decide +kernel) (sq_v 0))) (sw_and1 (st_v hK (sq_isi (ℓ := .mo) isi_int hK T.z_isinstance T.z_int (by decide +kernel) (sq_v 1)))))) (sw_or1 (PW.pt (sw_and (st_v hK (sq_isi (ℓ := .mo) isi_str hK T.z_isinstance T.z_str (by decide +kernel) (sq_v 0))) (sw_and1 (st_v hK (sq_isi (ℓ := .mo) isi_str hK T.z_isinstance T.z_str (by decide +kernel) (sq_v 1))))))))) (sb_one (ss_ret (ℓ := .mo) (sq_cmp (ℓ := .mo) (ℓ₁ := .mo) (ℓ₂ := .mo) (o_eq hK hu) (sq_v 0) (sq_v 1) (by rfl)))) sb_nil)
    (sb_one (ss_ret (ℓ := .mo) (sq_and (sq_isN (ℓ := .mo) (sq_v 0)) (sq_one (sq_isN (ℓ := .mo) (sq_v 1)))))))))
theorem ok__law_same (T : Txt P K mg G f fd) : FnOk P w K mg base CX0 13 (f 11) (fd 11) ["a", "b"] (spQ G 2 (g__law_same 12)) := okg__law_same T 12
theorem sc__law_number : FnScope ["number", "made"] ["number"] (defScope s__law_number) := ⟨rfl, rfl, rfl, by decide +kernel, rfl, by decide +kernel, by decide +kernel⟩
theorem ok__law_number (T : Txt P K mg G f fd) : FnOk P w K mg base CX0 1 (f 12) (fd 12) ["number"] (spF G 1 r__law_number) :=
  fn_f T.d12.fn sc__law_number (by decide) fun cdv A outer s H E hr F hF => by
    have hK : K = F.G.K := by rw [hF]; exact T.gK
    have hu := hu4 hr
    have hu5 := hu65 hr
    have SC := sc__law_number
    exact (sb_cons (ss_setO (i := 1) SC.nd rfl (by first | exact Or.inl rfl | exact Or.inr rfl) (sf_lst sa_nil))
    (sb_cons (ss_while 1000 [] PassesOwn.never (st_cmp (ℓ₁ := .mo) (ℓ₂ := .mo) o_ge (sq_v 0) (sq_int (ℓ := .mo)) (by rfl) gB0_b) (sb_one (ss_par2 (i := 1) (j := 0) rfl SC.nd rfl rfl (by decide) rfl rfl (sp_l (sef_f (sf_cat hK (sq_v 1) (sq_f (sf_lst (sa_cons (sq_bin (ℓ := .st) (ℓ₁ := .mo) (ℓ₂ := .mo) o_sub (sq_bin (ℓ := .mo) (ℓ₁ := .mo) (ℓ₂ := .mo) (o_add hK) (sq_int (ℓ := .mo)) (sq_v 0)) (sq_bin (ℓ := .mo) (ℓ₁ := .mo) (ℓ₂ := .mo) (o_mulX hK) (sq_bin (ℓ := .mo) (ℓ₁ := .mo) (ℓ₂ := .mo) o_div (sq_v 0) (sq_int (ℓ := .mo))) (sq_int (ℓ := .mo)))) sa_nil))))) (sp_v (se_q (sq_bin (ℓ := .fs) (ℓ₁ := .mo) (ℓ₂ := .mo) o_div (sq_v 0) (sq_int (ℓ := .mo)))) sp_nil)) (by rfl))))
    (sb_one (ss_retF (sf_cat hK (sq_v 1) (sq_f (sf_lst (sa_cons (sq_nl (ℓ := .st) (sq_v 0)) sa_nil))))))))
theorem sc__law_check : FnScope ["data", "made", "byte"] ["data"] (defScope s__law_check) := ⟨rfl, rfl, rfl, by decide +kernel, rfl, by decide +kernel, by decide +kernel⟩
theorem ok__law_check (T : Txt P K mg G f fd) : FnOk P w K mg base CX0 1 (f 13) (fd 13) ["data"] (spQ G 1 r__law_check) :=
  fn_q T.d13.fn sc__law_check (by decide) fun cdv A outer s H E hr F hF => by
    have hK : K = F.G.K := by rw [hF]; exact T.gK
    have hu := hu4 hr
    have hu5 := hu65 hr
    have SC := sc__law_check
    exact (sb_cons (ss_set (i := 1) SC.nd rfl (by first | exact Or.inl rfl | exact Or.inr rfl) (sq_int (ℓ := .fs)))
    (sb_cons (ss_for [2] PassesOwn.never rfl (si_seqT hK (sq_vs 0)) (sg_name (i := 2) SC.nd rfl (by first | exact Or.inl rfl | exact Or.inr rfl)) (sb_cons (ss_set (i := 1) SC.nd rfl (by first | exact Or.inl rfl | exact Or.inr rfl) (sq_bin (ℓ := .fs) (ℓ₁ := .fs) (ℓ₂ := .fs) (o_add hK) (sq_bin (ℓ := .fs) (ℓ₁ := .fs) (ℓ₂ := .fs) (o_add hK) (sq_bin (ℓ := .fs) (ℓ₁ := .fs) (ℓ₂ := .mo) (o_mulX hK) (sq_int (ℓ := .fs)) (sq_v 1)) (sq_vs 2)) (sq_int (ℓ := .fs))))
    (sb_one (ss_set (i := 1) SC.nd rfl (by first | exact Or.inl rfl | exact Or.inr rfl) (sq_bin (ℓ := .fs) (ℓ₁ := .mo) (ℓ₂ := .mo) o_sub (sq_v 1) (sq_bin (ℓ := .mo) (ℓ₁ := .mo) (ℓ₂ := .mo) (o_mulX hK) (sq_bin (ℓ := .mo) (ℓ₁ := .mo) (ℓ₂ := .mo) o_div (sq_v 1) (sq_int (ℓ := .mo))) (sq_int (ℓ := .mo))))))))
    (sb_one (ss_ret (ℓ := .mo) (sq_v 1)))))
theorem sc__law_text : FnScope ["text", "sign"] ["text"] (defScope s__law_text) := ⟨rfl, rfl, rfl, by decide +kernel, rfl, by decide +kernel, by decide +kernel⟩
theorem ok__law_text (T : Txt P K mg G f fd) : FnOk P w K mg base CX0 2 (f 14) (fd 14) ["text"] (spF G 1 r__law_text) :=
  fn_f T.d14.fn sc__law_text (by decide) fun cdv A outer s H E hr F hF => by
    have hK : K = F.G.K := by rw [hF]; exact T.gK
    have hu := hu4 hr
    have hu5 := hu65 hr
    have SC := sc__law_text
    exact (sb_one (ss_retF (sf_cat hK (sq_f (sf_call (ok__law_number T) hF (hr.mono (by decide)) T.d12.mg T.d12.fn.kp T.d12.bd (sa_cons (sq_len (ℓ := .mo) hK T.z_len (sq_v 0)) sa_nil))) (sq_f (sf_lc (own := [("sign", 1)]) rfl SC.nd (si_seqX hK (sq_v 0)) (by kernel_rfl) (by decide) (fun _ _ _ _ _ => (sg_name (i := 1) SC.nd rfl (by first | exact Or.inl rfl | exact Or.inr rfl))) (fun _ _ _ _ _ => sts_nil) (fun _ _ _ _ _ => (sq_sindex (ℓ := .st) (sq_str (ℓ := .mo)) (sq_v 1))))))))
theorem sc__law_number_at : FnScope ["data", "place", "told", "bad", "error"] ["data", "place"] (defScope s__law_number_at) := ⟨rfl, rfl, rfl, by decide +kernel, rfl, by decide +kernel, by decide +kernel⟩
theorem ok__law_number_at (T : Txt P K mg G f fd) : FnOk P w K mg base CX0 5 (f 15) (fd 15) ["data", "place"] (spQ G 2 r__law_number_at) :=
  fn_qt (xc := xcs K) T.d15.fn sc__law_number_at (by decide) fun cdv A outer s H E hr F hF hxc hw => by
    have hK : K = F.G.K := by rw [hF]; exact T.gK
    have hu := hu4 hr
    have hu5 := hu65 hr
    have SC := sc__law_number_at
    exact (sb_cons (ss_asg (sq_tup (sa_cons (sq_non (ℓ := .fs)) (sa_cons (sq_non (ℓ := .fs)) sa_nil))) (sg_tup hK rfl (sgs_cons (sg_name (i := 2) SC.nd rfl (by first | exact Or.inl rfl | exact Or.inr rfl)) (sgs_cons (sg_name (i := 3) SC.nd rfl (by first | exact Or.inl rfl | exact Or.inr rfl)) sgs_nil))))
    (sb_cons (ss_tryA (j := 0) (i := 4) (b := 3) (T.e0 _ _).xh rfl rfl SC.nd rfl rfl rfl (by first | exact Or.inl rfl | exact Or.inr rfl) (by rw [hxc]; rfl) (by rw [hw]; exact takes0) (fun W pn xe tk hp => (sb_one (ss_setX (i := 2) SC.nd rfl (by first | exact Or.inl rfl | exact Or.inr rfl) (sx_nl (ℓ := .fs) (sx_call (ok_read_number T) hF hxc tk (hr.mono (by decide)) T.d2.mg T.d2.fn.kp T.d2.bd (sa_cons (sq_v 0) (sa_cons (sq_v 1) sa_nil))))))))
    (sb_one (ss_ret (ℓ := .mo) (sq_tup (sa_cons (sq_v 2) (sa_cons (sq_v 3) sa_nil)))))))
theorem sc__law_plain_at : FnScope ["data", "place", "told", "bad", "error"] ["data", "place"] (defScope s__law_plain_at) := ⟨rfl, rfl, rfl, by decide +kernel, rfl, by decide +kernel, by decide +kernel⟩
theorem ok__law_plain_at (T : Txt P K mg G f fd) : FnOk P w K mg base CX0 21 (f 16) (fd 16) ["data", "place"] (spQ G 2 r__law_plain_at) :=
  fn_qt (xc := xcs K) T.d16.fn sc__law_plain_at (by decide) fun cdv A outer s H E hr F hF hxc hw => by
    have hK : K = F.G.K := by rw [hF]; exact T.gK
    have hu := hu4 hr
    have hu5 := hu65 hr
    have SC := sc__law_plain_at
    exact (sb_cons (ss_asg (sq_tup (sa_cons (sq_non (ℓ := .fs)) (sa_cons (sq_non (ℓ := .fs)) sa_nil))) (sg_tup hK rfl (sgs_cons (sg_name (i := 2) SC.nd rfl (by first | exact Or.inl rfl | exact Or.inr rfl)) (sgs_cons (sg_name (i := 3) SC.nd rfl (by first | exact Or.inl rfl | exact Or.inr rfl)) sgs_nil))))
    (sb_cons (ss_tryA (j := 0) (i := 4) (b := 3) (T.e0 _ _).xh rfl rfl SC.nd rfl rfl rfl (by first | exact Or.inl rfl | exact Or.inr rfl) (by rw [hxc]; rfl) (by rw [hw]; exact takes0) (fun W pn xe tk hp => (sb_one (ss_setX (i := 2) SC.nd rfl (by first | exact Or.inl rfl | exact Or.inr rfl) (sx_nl (ℓ := .fs) (sx_call (ok_read_plain T) hF hxc tk (hr.mono (by decide)) T.d6.mg T.d6.fn.kp T.d6.bd (sa_cons (sq_v 0) (sa_cons (sq_v 1) (sa_cons (sq_int (ℓ := .mo)) sa_nil)))))))))
    (sb_one (ss_ret (ℓ := .mo) (sq_tup (sa_cons (sq_v 2) (sa_cons (sq_v 3) sa_nil)))))))
theorem sc__law_plain : FnScope ["box", "deep", "which", "k"] ["box", "deep"] (defScope s__law_plain) := ⟨rfl, rfl, rfl, by decide +kernel, rfl, by decide +kernel, by decide +kernel⟩
theorem okg__law_plain (T : Txt P K mg G f fd) : ∀ n, FnOk P w K mg base CX0 (3 + n) (f 17) (fd 17) ["box", "deep"] (spE G 2 (g__law_plain n))
  | 0 => fn_e (m := fun _ _ => none) T.d17.fn sc__law_plain (by decide) fun cdv A outer s H E hr F hF hw => ⟨fun pins s σ H D I ⟨_, _, _, _, _, _, _, e, _⟩ => by cases e⟩
  | n + 1 => fn_e T.d17.fn sc__law_plain (by decide) fun cdv A outer s H E hr F hF hw => by
    have ih := okg__law_plain T n
    have hr : Room (3 + n) _ := hr
    have hK : K = F.G.K := by rw [hF]; exact T.gK
    have hu := hu4 hr
    have hu5 := hu65 hr
    have SC := sc__law_plain
    exact (sb_cons (ss_setE (i := 2) SC.nd rfl (by first | exact Or.inl rfl | exact Or.inr rfl) (se_fs (se_call (ok__law_draw T) hF hw (hr.mono (by omega)) T.d10.mg T.d10.fn.kp T.d10.bd (sea_cons (se_q (sq_vs 0)) (sea_cons (se_q (sq_if (st_cmp (ℓ₁ := .mo) (ℓ₂ := .mo) o_gt (sq_v 1) (sq_int (ℓ := .mo)) (by rfl) gB0_b) (sq_int (ℓ := .fs)) (sq_int (ℓ := .fs)))) sea_nil)))))
    (sb_cons (ss_if (st_cmp (ℓ₁ := .mo) (ℓ₂ := .mo) o_lt (sq_v 2) (sq_int (ℓ := .mo)) (by rfl) gB0_b) (sb_one (ss_retE (ℓ := .st) (se_nl (ℓ := .st) (se_sub hK (se_tup (sea_cons (se_q (sq_non (ℓ := .fs))) (sea_cons (se_bin (ℓ := .fs) o_mul (se_fs (se_call (ok__law_draw T) hF hw (hr.mono (by omega)) T.d10.mg T.d10.fn.kp T.d10.bd (sea_cons (se_q (sq_vs 0)) (sea_cons (se_q (sq_int (ℓ := .fs))) sea_nil)))) (se_fs (se_call (ok__law_draw T) hF hw (hr.mono (by omega)) T.d10.mg T.d10.fn.kp T.d10.bd (sea_cons (se_q (sq_vs 0)) (sea_cons (se_q (sq_int (ℓ := .fs))) sea_nil))))) (sea_cons (se_join (ℓ := .fs) hK (se_fs (se_lock (sef_lc (own := [("k", 3)]) hw rfl SC.nd (sie_rng T.z_range (se_fs (se_call (ok__law_draw T) hF hw (hr.mono (by omega)) T.d10.mg T.d10.fn.kp T.d10.bd (sea_cons (se_q (sq_vs 0)) (sea_cons (se_q (sq_int (ℓ := .fs))) sea_nil))))) (by kernel_rfl) (by decide) (fun _ _ _ _ _ => (sg_name (i := 3) SC.nd rfl (by first | exact Or.inl rfl | exact Or.inr rfl))) (fun _ _ _ _ _ => sts_nil) (fun _ _ _ _ _ => (se_nl (ℓ := .st) (se_sub hK (se_q (sq_str (ℓ := .fs))) (se_fs (se_call (ok__law_draw T) hF hw (hr.mono (by omega)) T.d10.mg T.d10.fn.kp T.d10.bd (sea_cons (se_q (sq_vs 0)) (sea_cons (se_q (sq_int (ℓ := .fs))) sea_nil))))))))))) sea_nil)))) (se_q (sq_vs 2)))))) sb_nil)
    (sb_one (ss_retE (ℓ := .st) (se_nl (ℓ := .st) (se_totup hK T.z_tuple (se_fs (se_lock (sef_lc (own := [("k", 3)]) hw rfl SC.nd (sie_rng T.z_range (se_fs (se_call (ok__law_draw T) hF hw (hr.mono (by omega)) T.d10.mg T.d10.fn.kp T.d10.bd (sea_cons (se_q (sq_vs 0)) (sea_cons (se_q (sq_int (ℓ := .fs))) sea_nil))))) (by kernel_rfl) (by decide) (fun _ _ _ _ _ => (sg_name (i := 3) SC.nd rfl (by first | exact Or.inl rfl | exact Or.inr rfl))) (fun _ _ _ _ _ => sts_nil) (fun _ _ _ _ _ => (se_call ih hF hw (hr.mono (by omega)) T.d17.mg T.d17.fn.kp T.d17.bd (sea_cons (se_q (sq_vs 0)) (sea_cons (se_q (sq_bin (ℓ := .fs) (ℓ₁ := .mo) (ℓ₂ := .mo) o_sub (sq_v 1) (sq_int (ℓ := .mo)))) sea_nil)))))))))))))
theorem ok__law_plain (T : Txt P K mg G f fd) : FnOk P w K mg base CX0 9 (f 17) (fd 17) ["box", "deep"] (spE G 2 (g__law_plain 6)) := okg__law_plain T 6
theorem sc__law_plain_bytes : FnScope ["value", "made", "part"] ["value"] (defScope s__law_plain_bytes) := ⟨rfl, rfl, rfl, by decide +kernel, rfl, by decide +kernel, by decide +kernel⟩
theorem okg__law_plain_bytes (T : Txt P K mg G f fd) : ∀ n, FnOk P w K mg base CX0 (3 + n) (f 18) (fd 18) ["value"] (spF G 1 (g__law_plain_bytes n))
  | 0 => fn_f (m := fun _ _ => none) T.d18.fn sc__law_plain_bytes (by decide) fun cdv A outer s H E hr F hF => ⟨fun pins s σ H D I ⟨_, _, _, _, _, _, _, e, _⟩ => by cases e⟩
  | n + 1 => fn_f T.d18.fn sc__law_plain_bytes (by decide) fun cdv A outer s H E hr F hF => by
    have ih := okg__law_plain_bytes T n
    have hr : Room (3 + n) _ := hr
    have hK : K = F.G.K := by rw [hF]; exact T.gK
    have hu := hu4 hr
    have hu5 := hu65 hr
    have SC := sc__law_plain_bytes
    exact (sb_cons (ss_if (st_isN (sq_v 0)) (sb_one (ss_retF (sf_lst (sa_cons (sq_int (ℓ := .st)) sa_nil)))) sb_nil)
    (sb_cons (ss_if (st_v hK (sq_isi (ℓ := .mo) isi_str hK T.z_isinstance T.z_str (by decide +kernel) (sq_v 0))) (sb_one (ss_retF (sf_cat hK (sq_f (sf_lst (sa_cons (sq_int (ℓ := .st)) sa_nil))) (sq_f (sf_call (ok__law_text T) hF (hr.mono (by omega)) T.d14.mg T.d14.fn.kp T.d14.bd (sa_cons (sq_v 0) sa_nil)))))) sb_nil)
    (sb_cons (ss_if (st_v hK (sq_isi (ℓ := .mo) isi_tuple hK T.z_isinstance T.z_tuple (by decide +kernel) (sq_v 0))) (sb_cons (ss_setO (i := 1) SC.nd rfl (by first | exact Or.inl rfl | exact Or.inr rfl) (sf_cat hK (sq_f (sf_lst (sa_cons (sq_int (ℓ := .st)) sa_nil))) (sq_f (sf_call (ok__law_number T) hF (hr.mono (by omega)) T.d12.mg T.d12.fn.kp T.d12.bd (sa_cons (sq_len (ℓ := .mo) hK T.z_len (sq_v 0)) sa_nil)))))
    (sb_cons (ss_for [2] PassesOwn.never rfl (si_seqT hK (sq_vs 0)) (sg_name (i := 2) SC.nd rfl (by first | exact Or.inl rfl | exact Or.inr rfl)) (sb_one (ss_setO (i := 1) SC.nd rfl (by first | exact Or.inl rfl | exact Or.inr rfl) (sf_cat hK (sq_v 1) (sq_f (sf_call ih hF (hr.mono (by omega)) T.d18.mg T.d18.fn.kp T.d18.bd (sa_cons (sq_v 2) sa_nil)))))))
    (sb_one (ss_retO 1)))) sb_nil)
    (sb_one (ss_retF (sf_cat hK (sq_f (sf_lst (sa_cons (sq_int (ℓ := .st)) sa_nil))) (sq_f (sf_call (ok__law_number T) hF (hr.mono (by omega)) T.d12.mg T.d12.fn.kp T.d12.bd (sa_cons (sq_v 0) sa_nil)))))))))
theorem ok__law_plain_bytes (T : Txt P K mg G f fd) : FnOk P w K mg base CX0 9 (f 18) (fd 18) ["value"] (spF G 1 (g__law_plain_bytes 6)) := okg__law_plain_bytes T 6
theorem sc__law_plain_to : FnScope ["data", "nested", "told", "bad", "error"] ["data", "nested"] (defScope s__law_plain_to) := ⟨rfl, rfl, rfl, by decide +kernel, rfl, by decide +kernel, by decide +kernel⟩
theorem ok__law_plain_to (T : Txt P K mg G f fd) : FnOk P w K mg base CX0 21 (f 19) (fd 19) ["data", "nested"] (spQ G 2 r__law_plain_to) :=
  fn_qt (xc := xcs K) T.d19.fn sc__law_plain_to (by decide) fun cdv A outer s H E hr F hF hxc hw => by
    have hK : K = F.G.K := by rw [hF]; exact T.gK
    have hu := hu4 hr
    have hu5 := hu65 hr
    have SC := sc__law_plain_to
    exact (sb_cons (ss_asg (sq_tup (sa_cons (sq_non (ℓ := .fs)) (sa_cons (sq_non (ℓ := .fs)) sa_nil))) (sg_tup hK rfl (sgs_cons (sg_name (i := 2) SC.nd rfl (by first | exact Or.inl rfl | exact Or.inr rfl)) (sgs_cons (sg_name (i := 3) SC.nd rfl (by first | exact Or.inl rfl | exact Or.inr rfl)) sgs_nil))))
    (sb_cons (ss_tryA (j := 0) (i := 4) (b := 3) (T.e0 _ _).xh rfl rfl SC.nd rfl rfl rfl (by first | exact Or.inl rfl | exact Or.inr rfl) (by rw [hxc]; rfl) (by rw [hw]; exact takes0) (fun W pn xe tk hp => (sb_one (ss_setX (i := 2) SC.nd rfl (by first | exact Or.inl rfl | exact Or.inr rfl) (sx_nl (ℓ := .fs) (sx_call (ok_read_plain T) hF hxc tk (hr.mono (by decide)) T.d6.mg T.d6.fn.kp T.d6.bd (sa_cons (sq_v 0) (sa_cons (sq_int (ℓ := .mo)) (sa_cons (sq_v 1) sa_nil)))))))))
    (sb_one (ss_ret (ℓ := .mo) (sq_tup (sa_cons (sq_v 2) (sa_cons (sq_v 3) sa_nil)))))))
theorem sc__law_text_at : FnScope ["data", "error"] ["data"] (defScope s__law_text_at) := ⟨rfl, rfl, rfl, by decide +kernel, rfl, by decide +kernel, by decide +kernel⟩
theorem ok__law_text_at (T : Txt P K mg G f fd) : FnOk P w K mg base CX0 6 (f 20) (fd 20) ["data"] (spQ G 1 r__law_text_at) :=
  fn_qt (xc := xcs K) T.d20.fn sc__law_text_at (by decide) fun cdv A outer s H E hr F hF hxc hw => by
    have hK : K = F.G.K := by rw [hF]; exact T.gK
    have hu := hu4 hr
    have hu5 := hu65 hr
    have SC := sc__law_text_at
    exact (sb_one (ss_tryR (j := 0) (i := 1) (T.e0 _ _).xh rfl rfl SC.nd rfl rfl (by rw [hxc]; rfl) (by rw [hw]; exact takes0) (fun W pn xe tk hp => (sb_cons (ss_exprX (sx_call (ok_read_text T) hF hxc tk (hr.mono (by decide)) T.d4.mg T.d4.fn.kp T.d4.bd (sa_cons (sq_v 0) (sa_cons (sq_int (ℓ := .mo)) sa_nil))))
    (sb_one (ss_ret (ℓ := .mo) (sq_non (ℓ := .mo))))))))
theorem sc_law : FnScope ["script", "box", "turn", "number", "head", "tail", "plain", "text", "data", "value", "some", "told", "bad", "short", "many", "inside", "k", "more", "byte", "deep", "bytes_of", "nested", "most"] ["script"] (defScope s_law) := ⟨rfl, rfl, rfl, by decide +kernel, rfl, by decide +kernel, by decide +kernel⟩
theorem ok_law (T : Txt P K mg G f fd) : FnOk P w K mg base CX0 22 (f 21) (fd 21) ["script"] (spE G 1 r_law) :=
  fn_e T.d21.fn sc_law (by decide) fun cdv A outer s H E hr F hF hw => by
    have hK : K = F.G.K := by rw [hF]; exact T.gK
    have hu := hu4 hr
    have hu5 := hu65 hr
    have SC := sc_law
    exact (sb_cons (ss_setE (i := 1) SC.nd rfl (by first | exact Or.inl rfl | exact Or.inr rfl) (se_fs (se_call (ok__law_box T) hF hw (hr.mono (by decide)) T.d8.mg T.d8.fn.kp T.d8.bd (sea_cons (se_q (sq_vs 0)) sea_nil))))
    (sb_cons (ss_if (st_cmp (ℓ₁ := .mo) (ℓ₂ := .mo) (o_ne hK hu) (sq_tup (sa_cons (sq_glob (ℓ := .mo) hK T.c_MOST_GROUPS) (sa_cons (sq_glob (ℓ := .mo) hK T.c_MOST_NESTED) sa_nil))) (sq_tup (sa_cons (sq_int (ℓ := .mo)) (sa_cons (sq_int (ℓ := .mo)) sa_nil))) (by rfl) gNe_b) (sb_one (ss_ret (ℓ := .mo) (sq_bl (ℓ := .mo)))) sb_nil)
    (sb_cons (ss_for [2, 3, 4, 5, 6, 7, 8, 9, 13, 15, 17, 18] PassesOwn.never rfl (si_rng T.z_range (sq_int (ℓ := .mo))) (sg_name (i := 2) SC.nd rfl (by first | exact Or.inl rfl | exact Or.inr rfl)) (sb_cons (ss_setE (i := 3) SC.nd rfl (by first | exact Or.inl rfl | exact Or.inr rfl) (se_bin (ℓ := .fs) o_mul (se_fs (se_call (ok__law_draw T) hF hw (hr.mono (by decide)) T.d10.mg T.d10.fn.kp T.d10.bd (sea_cons (se_q (sq_vs 1)) (sea_cons (se_sub hK (se_q (sq_tup (sa_cons (sq_int (ℓ := .fs)) (sa_cons (sq_int (ℓ := .fs)) (sa_cons (sq_int (ℓ := .fs)) (sa_cons (sq_int (ℓ := .fs)) sa_nil)))))) (se_fs (se_call (ok__law_draw T) hF hw (hr.mono (by decide)) T.d10.mg T.d10.fn.kp T.d10.bd (sea_cons (se_q (sq_vs 1)) (sea_cons (se_q (sq_int (ℓ := .fs))) sea_nil))))) sea_nil)))) (se_if (ste_cmp (BinS.fs (o_eq hK hu)) (se_fs (se_call (ok__law_draw T) hF hw (hr.mono (by decide)) T.d10.mg T.d10.fn.kp T.d10.bd (sea_cons (se_q (sq_vs 1)) (sea_cons (se_q (sq_int (ℓ := .fs))) sea_nil)))) (se_q (sq_int (ℓ := .fs))) (by rfl) gEq_b) (se_q (sq_int (ℓ := .fs))) (se_q (sq_int (ℓ := .fs))))))
    (sb_cons (ss_par2 (i := 4) (j := 5) rfl SC.nd rfl rfl (by decide) rfl rfl (sp_v (se_totup hK T.z_tuple (se_fs (se_lock (sef_lc (own := [("k", 16)]) hw rfl SC.nd (sie_rng T.z_range (se_fs (se_call (ok__law_draw T) hF hw (hr.mono (by decide)) T.d10.mg T.d10.fn.kp T.d10.bd (sea_cons (se_q (sq_vs 1)) (sea_cons (se_q (sq_int (ℓ := .fs))) sea_nil))))) (by kernel_rfl) (by decide) (fun _ _ _ _ _ => (sg_name (i := 16) SC.nd rfl (by first | exact Or.inl rfl | exact Or.inr rfl))) (fun _ _ _ _ _ => sts_nil) (fun _ _ _ _ _ => (se_call (ok__law_draw T) hF hw (hr.mono (by decide)) T.d10.mg T.d10.fn.kp T.d10.bd (sea_cons (se_q (sq_vs 1)) (sea_cons (se_q (sq_int (ℓ := .fs))) sea_nil)))))))) (sp_v (se_totup hK T.z_tuple (se_fs (se_lock (sef_lc (own := [("k", 16)]) hw rfl SC.nd (sie_rng T.z_range (se_fs (se_call (ok__law_draw T) hF hw (hr.mono (by decide)) T.d10.mg T.d10.fn.kp T.d10.bd (sea_cons (se_q (sq_vs 1)) (sea_cons (se_q (sq_int (ℓ := .fs))) sea_nil))))) (by kernel_rfl) (by decide) (fun _ _ _ _ _ => (sg_name (i := 16) SC.nd rfl (by first | exact Or.inl rfl | exact Or.inr rfl))) (fun _ _ _ _ _ => sts_nil) (fun _ _ _ _ _ => (se_call (ok__law_draw T) hF hw (hr.mono (by decide)) T.d10.mg T.d10.fn.kp T.d10.bd (sea_cons (se_q (sq_vs 1)) (sea_cons (se_q (sq_int (ℓ := .fs))) sea_nil)))))))) sp_nil)) (by rfl))
    (sb_cons (ss_set (i := 6) SC.nd rfl (by first | exact Or.inl rfl | exact Or.inr rfl) (sq_nl (ℓ := .fs) (sq_totup hK T.z_tuple (sq_f (sf_call (ok__law_number T) hF (hr.mono (by decide)) T.d12.mg T.d12.fn.kp T.d12.bd (sa_cons (sq_v 3) sa_nil))))))
    (sb_cons (ss_if (st_not (st_v hK (sq_call (ok__law_same T) hF (hr.mono (by decide)) T.d11.mg T.d11.fn.kp T.d11.bd (sa_cons (sq_tup (sa_cons (sq_f (sf_call (ok_number_bytes T) hF (hr.mono (by decide)) T.d0.mg T.d0.fn.kp T.d0.bd (sa_cons (sq_v 3) sa_nil))) (sa_cons (sq_callX (ok_read_number T) hF (hr.mono (by decide)) T.d2.mg T.d2.fn.kp T.d2.bd (sa_cons (sq_bin (ℓ := .mo) (ℓ₁ := .mo) (ℓ₂ := .mo) (o_add hK) (sq_bin (ℓ := .mo) (ℓ₁ := .mo) (ℓ₂ := .mo) (o_add hK) (sq_v 4) (sq_v 6)) (sq_v 5)) (sa_cons (sq_len (ℓ := .mo) hK T.z_len (sq_v 4)) sa_nil))) sa_nil))) (sa_cons (sq_tup (sa_cons (sq_f (sf_tolist hK T.z_list (sq_v 6))) (sa_cons (sq_tup (sa_cons (sq_v 3) (sa_cons (sq_bin (ℓ := .mo) (ℓ₁ := .mo) (ℓ₂ := .mo) (o_add hK) (sq_len (ℓ := .mo) hK T.z_len (sq_v 4)) (sq_len (ℓ := .mo) hK T.z_len (sq_v 6))) sa_nil))) sa_nil))) sa_nil))))) (sb_one (ss_ret (ℓ := .mo) (sq_bl (ℓ := .mo)))) sb_nil)
    (sb_cons (ss_setE (i := 7) SC.nd rfl (by first | exact Or.inl rfl | exact Or.inr rfl) (se_join (ℓ := .fs) hK (se_fs (se_lock (sef_lc (own := [("k", 16)]) hw rfl SC.nd (sie_rng T.z_range (se_fs (se_call (ok__law_draw T) hF hw (hr.mono (by decide)) T.d10.mg T.d10.fn.kp T.d10.bd (sea_cons (se_q (sq_vs 1)) (sea_cons (se_q (sq_int (ℓ := .fs))) sea_nil))))) (by kernel_rfl) (by decide) (fun _ _ _ _ _ => (sg_name (i := 16) SC.nd rfl (by first | exact Or.inl rfl | exact Or.inr rfl))) (fun _ _ _ _ _ => sts_nil) (fun _ _ _ _ _ => (se_nl (ℓ := .st) (se_sub hK (se_q (sq_str (ℓ := .fs))) (se_fs (se_call (ok__law_draw T) hF hw (hr.mono (by decide)) T.d10.mg T.d10.fn.kp T.d10.bd (sea_cons (se_q (sq_vs 1)) (sea_cons (se_q (sq_int (ℓ := .fs))) sea_nil))))))))))))
    (sb_cons (ss_set (i := 8) SC.nd rfl (by first | exact Or.inl rfl | exact Or.inr rfl) (sq_bin (ℓ := .fs) (ℓ₁ := .fs) (ℓ₂ := .fs) (o_add hK) (sq_bin (ℓ := .fs) (ℓ₁ := .fs) (ℓ₂ := .fs) (o_add hK) (sq_vs 4) (sq_nl (ℓ := .fs) (sq_totup hK T.z_tuple (sq_f (sf_call (ok__law_text T) hF (hr.mono (by decide)) T.d14.mg T.d14.fn.kp T.d14.bd (sa_cons (sq_v 7) sa_nil)))))) (sq_vs 5)))
    (sb_cons (ss_if (st_not (st_v hK (sq_call (ok__law_same T) hF (hr.mono (by decide)) T.d11.mg T.d11.fn.kp T.d11.bd (sa_cons (sq_tup (sa_cons (sq_f (sf_call (ok_text_bytes T) hF (hr.mono (by decide)) T.d3.mg T.d3.fn.kp T.d3.bd (sa_cons (sq_v 7) sa_nil))) (sa_cons (sq_callX (ok_read_text T) hF (hr.mono (by decide)) T.d4.mg T.d4.fn.kp T.d4.bd (sa_cons (sq_v 8) (sa_cons (sq_len (ℓ := .mo) hK T.z_len (sq_v 4)) sa_nil))) sa_nil))) (sa_cons (sq_tup (sa_cons (sq_f (sf_call (ok__law_text T) hF (hr.mono (by decide)) T.d14.mg T.d14.fn.kp T.d14.bd (sa_cons (sq_v 7) sa_nil))) (sa_cons (sq_tup (sa_cons (sq_v 7) (sa_cons (sq_bin (ℓ := .mo) (ℓ₁ := .mo) (ℓ₂ := .mo) o_sub (sq_len (ℓ := .mo) hK T.z_len (sq_v 8)) (sq_len (ℓ := .mo) hK T.z_len (sq_v 5))) sa_nil))) sa_nil))) sa_nil))))) (sb_one (ss_ret (ℓ := .mo) (sq_bl (ℓ := .mo)))) sb_nil)
    (sb_cons (ss_setE (i := 9) SC.nd rfl (by first | exact Or.inl rfl | exact Or.inr rfl) (se_fs (se_call (ok__law_plain T) hF hw (hr.mono (by decide)) T.d17.mg T.d17.fn.kp T.d17.bd (sea_cons (se_q (sq_vs 1)) (sea_cons (se_q (sq_int (ℓ := .fs))) sea_nil)))))
    (sb_cons (ss_set (i := 8) SC.nd rfl (by first | exact Or.inl rfl | exact Or.inr rfl) (sq_bin (ℓ := .fs) (ℓ₁ := .fs) (ℓ₂ := .fs) (o_add hK) (sq_bin (ℓ := .fs) (ℓ₁ := .fs) (ℓ₂ := .fs) (o_add hK) (sq_vs 4) (sq_nl (ℓ := .fs) (sq_totup hK T.z_tuple (sq_f (sf_call (ok__law_plain_bytes T) hF (hr.mono (by decide)) T.d18.mg T.d18.fn.kp T.d18.bd (sa_cons (sq_v 9) sa_nil)))))) (sq_vs 5)))
    (sb_cons (ss_if (st_not (st_v hK (sq_call (ok__law_same T) hF (hr.mono (by decide)) T.d11.mg T.d11.fn.kp T.d11.bd (sa_cons (sq_tup (sa_cons (sq_f (sf_call (ok_plain_bytes T) hF (hr.mono (by decide)) T.d5.mg T.d5.fn.kp T.d5.bd (sa_cons (sq_v 9) sa_nil))) (sa_cons (sq_callX (ok_read_plain T) hF (hr.mono (by decide)) T.d6.mg T.d6.fn.kp T.d6.bd (sa_cons (sq_v 8) (sa_cons (sq_len (ℓ := .mo) hK T.z_len (sq_v 4)) (sa_cons (sq_int (ℓ := .mo)) sa_nil)))) sa_nil))) (sa_cons (sq_tup (sa_cons (sq_f (sf_call (ok__law_plain_bytes T) hF (hr.mono (by decide)) T.d18.mg T.d18.fn.kp T.d18.bd (sa_cons (sq_v 9) sa_nil))) (sa_cons (sq_tup (sa_cons (sq_v 9) (sa_cons (sq_bin (ℓ := .mo) (ℓ₁ := .mo) (ℓ₂ := .mo) o_sub (sq_len (ℓ := .mo) hK T.z_len (sq_v 8)) (sq_len (ℓ := .mo) hK T.z_len (sq_v 5))) sa_nil))) sa_nil))) sa_nil))))) (sb_one (ss_ret (ℓ := .mo) (sq_bl (ℓ := .mo)))) sb_nil)
    (sb_cons (ss_setE (i := 10) SC.nd rfl (by first | exact Or.inl rfl | exact Or.inr rfl) (se_totup hK T.z_tuple (se_fs (se_lock (sef_lc (own := [("k", 16)]) hw rfl SC.nd (sie_rng T.z_range (se_fs (se_call (ok__law_draw T) hF hw (hr.mono (by decide)) T.d10.mg T.d10.fn.kp T.d10.bd (sea_cons (se_q (sq_vs 1)) (sea_cons (se_q (sq_int (ℓ := .fs))) sea_nil))))) (by kernel_rfl) (by decide) (fun _ _ _ _ _ => (sg_name (i := 16) SC.nd rfl (by first | exact Or.inl rfl | exact Or.inr rfl))) (fun _ _ _ _ _ => sts_nil) (fun _ _ _ _ _ => (se_nl (ℓ := .st) (se_sub hK (se_tup (sea_cons (se_fs (se_call (ok__law_draw T) hF hw (hr.mono (by decide)) T.d10.mg T.d10.fn.kp T.d10.bd (sea_cons (se_q (sq_vs 1)) (sea_cons (se_q (sq_int (ℓ := .fs))) sea_nil)))) (sea_cons (se_fs (se_call (ok__law_draw T) hF hw (hr.mono (by decide)) T.d10.mg T.d10.fn.kp T.d10.bd (sea_cons (se_q (sq_vs 1)) (sea_cons (se_q (sq_int (ℓ := .fs))) sea_nil)))) sea_nil))) (se_fs (se_call (ok__law_draw T) hF hw (hr.mono (by decide)) T.d10.mg T.d10.fn.kp T.d10.bd (sea_cons (se_q (sq_vs 1)) (sea_cons (se_q (sq_int (ℓ := .fs))) sea_nil))))))))))))
    (sb_cons (ss_asg (sq_nl (ℓ := .fs) (sq_call (ok__law_number_at T) hF (hr.mono (by decide)) T.d15.mg T.d15.fn.kp T.d15.bd (sa_cons (sq_v 10) (sa_cons (sq_int (ℓ := .mo)) sa_nil)))) (sg_tup hK rfl (sgs_cons (sg_name (i := 11) SC.nd rfl (by first | exact Or.inl rfl | exact Or.inr rfl)) (sgs_cons (sg_name (i := 12) SC.nd rfl (by first | exact Or.inl rfl | exact Or.inr rfl)) sgs_nil))))
    (sb_cons (ss_if (PW.pt (sw_or (st_cmp (ℓ₁ := .mo) (ℓ₂ := .mo) (o_eq hK hu) (sq_isN (ℓ := .mo) (sq_v 11)) (sq_isN (ℓ := .mo) (sq_v 12)) (by rfl) gEq_b) (sw_or (PW.pt (sw_and (st_noN (sq_v 11)) (sw_and1 (st_cmp (ℓ₁ := .mo) (ℓ₂ := .mo) (o_ne hK hu) (sq_totup hK T.z_tuple (sq_f (sf_call (ok__law_number T) hF (hr.mono (by decide)) T.d12.mg T.d12.fn.kp T.d12.bd (sa_cons (sq_sub hK (sq_v 11) (sq_int (ℓ := .mo))) sa_nil)))) (sq_slice hK (sq_v 10) so_none (so_some (sq_sub hK (sq_v 11) (sq_int (ℓ := .mo))))) (by rfl) gNe_b)))) (sw_or1 (PW.pt (sw_and (st_noN (sq_v 12)) (sw_and1 (st_not (st_le2 (sq_int (ℓ := .mo)) (sq_v 12) (sq_len (ℓ := .mo) hK T.z_len (sq_v 10))))))))))) (sb_one (ss_ret (ℓ := .mo) (sq_bl (ℓ := .mo)))) sb_nil)
    (sb_cons (ss_asg (sq_nl (ℓ := .fs) (sq_call (ok__law_plain_at T) hF (hr.mono (by decide)) T.d16.mg T.d16.fn.kp T.d16.bd (sa_cons (sq_v 10) (sa_cons (sq_int (ℓ := .mo)) sa_nil)))) (sg_tup hK rfl (sgs_cons (sg_name (i := 11) SC.nd rfl (by first | exact Or.inl rfl | exact Or.inr rfl)) (sgs_cons (sg_name (i := 12) SC.nd rfl (by first | exact Or.inl rfl | exact Or.inr rfl)) sgs_nil))))
    (sb_cons (ss_if (PW.pt (sw_or (st_cmp (ℓ₁ := .mo) (ℓ₂ := .mo) (o_ne hK hu) (sq_isN (ℓ := .mo) (sq_v 12)) (sq_noN (ℓ := .mo) (sq_v 11)) (by rfl) gNe_b) (sw_or1 (PW.pt (sw_and (st_noN (sq_v 11)) (sw_and1 (st_cmp (ℓ₁ := .mo) (ℓ₂ := .mo) (o_ne hK hu) (sq_totup hK T.z_tuple (sq_f (sf_call (ok__law_plain_bytes T) hF (hr.mono (by decide)) T.d18.mg T.d18.fn.kp T.d18.bd (sa_cons (sq_sub hK (sq_v 11) (sq_int (ℓ := .mo))) sa_nil)))) (sq_slice hK (sq_v 10) so_none (so_some (sq_sub hK (sq_v 11) (sq_int (ℓ := .mo))))) (by rfl) gNe_b))))))) (sb_one (ss_ret (ℓ := .mo) (sq_bl (ℓ := .mo)))) sb_nil)
    (sb_cons (ss_for [13] PassesOwn.never rfl (si_seqT hK (sq_tup (sa_cons (sq_slice hK (sq_vs 6) so_none (so_some (sq_neg (ℓ := .mo) (sq_int (ℓ := .mo))))) (sa_cons (sq_bin (ℓ := .fs) (ℓ₁ := .fs) (ℓ₂ := .fs) (o_add hK) (sq_bin (ℓ := .fs) (ℓ₁ := .fs) (ℓ₂ := .mo) (o_mulX hK) (sq_tup (sa_cons (sq_int (ℓ := .fs)) sa_nil)) (sq_int (ℓ := .mo))) (sq_tup (sa_cons (sq_int (ℓ := .fs)) sa_nil))) sa_nil)))) (sg_name (i := 13) SC.nd rfl (by first | exact Or.inl rfl | exact Or.inr rfl)) (sb_cons (ss_asg (sq_nl (ℓ := .fs) (sq_call (ok__law_number_at T) hF (hr.mono (by decide)) T.d15.mg T.d15.fn.kp T.d15.bd (sa_cons (sq_v 13) (sa_cons (sq_int (ℓ := .mo)) sa_nil)))) (sg_tup hK rfl (sgs_cons (sg_name (i := 11) SC.nd rfl (by first | exact Or.inl rfl | exact Or.inr rfl)) (sgs_cons (sg_name (i := 12) SC.nd rfl (by first | exact Or.inl rfl | exact Or.inr rfl)) sgs_nil))))
    (sb_one (ss_if (PW.pt (sw_or (st_noN (sq_v 11)) (sw_or (st_isN (sq_v 12)) (sw_or1 (st_not (st_le2 (sq_int (ℓ := .mo)) (sq_v 12) (sq_len (ℓ := .mo) hK T.z_len (sq_v 13)))))))) (sb_one (ss_ret (ℓ := .mo) (sq_bl (ℓ := .mo)))) sb_nil))))
    (sb_cons (ss_setE (i := 14) SC.nd rfl (by first | exact Or.inl rfl | exact Or.inr rfl) (se_sub hK (se_tup (sea_cons (se_fs (se_call (ok__law_draw T) hF hw (hr.mono (by decide)) T.d10.mg T.d10.fn.kp T.d10.bd (sea_cons (se_q (sq_vs 1)) (sea_cons (se_q (sq_int (ℓ := .fs))) sea_nil)))) (sea_cons (se_q (sq_int (ℓ := .fs))) (sea_cons (se_q (sq_int (ℓ := .fs))) sea_nil)))) (se_fs (se_call (ok__law_draw T) hF hw (hr.mono (by decide)) T.d10.mg T.d10.fn.kp T.d10.bd (sea_cons (se_q (sq_vs 1)) (sea_cons (se_q (sq_int (ℓ := .fs))) sea_nil))))))
    (sb_cons (ss_setE (i := 15) SC.nd rfl (by first | exact Or.inl rfl | exact Or.inr rfl) (se_totup hK T.z_tuple (se_fs (se_lock (sef_lc (own := [("k", 16)]) hw rfl SC.nd (sie_rng T.z_range (se_bin (ℓ := .fs) (o_add hK) (se_q (sq_int (ℓ := .fs))) (se_fs (se_call (ok__law_draw T) hF hw (hr.mono (by decide)) T.d10.mg T.d10.fn.kp T.d10.bd (sea_cons (se_q (sq_vs 1)) (sea_cons (se_q (sq_int (ℓ := .fs))) sea_nil)))))) (by kernel_rfl) (by decide) (fun _ _ _ _ _ => (sg_name (i := 16) SC.nd rfl (by first | exact Or.inl rfl | exact Or.inr rfl))) (fun _ _ _ _ _ => sts_nil) (fun _ _ _ _ _ => (se_nl (ℓ := .st) (se_sub hK (se_tup (sea_cons (se_fs (se_call (ok__law_draw T) hF hw (hr.mono (by decide)) T.d10.mg T.d10.fn.kp T.d10.bd (sea_cons (se_q (sq_vs 1)) (sea_cons (se_q (sq_int (ℓ := .fs))) sea_nil)))) (sea_cons (se_q (sq_vs 14)) sea_nil))) (se_fs (se_call (ok__law_draw T) hF hw (hr.mono (by decide)) T.d10.mg T.d10.fn.kp T.d10.bd (sea_cons (se_q (sq_vs 1)) (sea_cons (se_q (sq_int (ℓ := .fs))) sea_nil))))))))))))
    (sb_cons (ss_par2 (i := 16) (j := 17) rfl SC.nd rfl rfl (by decide) rfl rfl (sp_v (se_fs (se_call (ok__law_draw T) hF hw (hr.mono (by decide)) T.d10.mg T.d10.fn.kp T.d10.bd (sea_cons (se_q (sq_vs 1)) (sea_cons (se_q (sq_len (ℓ := .fs) hK T.z_len (sq_v 15))) sea_nil)))) (sp_v (se_bin (ℓ := .fs) (o_add hK) (se_q (sq_int (ℓ := .fs))) (se_fs (se_call (ok__law_draw T) hF hw (hr.mono (by decide)) T.d10.mg T.d10.fn.kp T.d10.bd (sea_cons (se_q (sq_vs 1)) (sea_cons (se_q (sq_int (ℓ := .fs))) sea_nil))))) sp_nil)) (by rfl))
    (sb_cons (ss_set (i := 18) SC.nd rfl (by first | exact Or.inl rfl | exact Or.inr rfl) (sq_if (st_cmp (ℓ₁ := .mo) (ℓ₂ := .mo) o_lt (sq_bin (ℓ := .mo) (ℓ₁ := .mo) (ℓ₂ := .mo) (o_add hK) (sq_sub hK (sq_v 15) (sq_v 16)) (sq_v 17)) (sq_int (ℓ := .mo)) (by rfl) gB0_b) (sq_bin (ℓ := .fs) (ℓ₁ := .fs) (ℓ₂ := .fs) (o_add hK) (sq_nl (ℓ := .fs) (sq_sub hK (sq_v 15) (sq_v 16))) (sq_vs 17)) (sq_bin (ℓ := .fs) (ℓ₁ := .mo) (ℓ₂ := .mo) o_sub (sq_bin (ℓ := .mo) (ℓ₁ := .mo) (ℓ₂ := .mo) (o_add hK) (sq_sub hK (sq_v 15) (sq_v 16)) (sq_v 17)) (sq_int (ℓ := .mo)))))
    (sb_one (ss_if (PW.pt (sw_or (st_not (st_v hK (sq_call (ok__law_same T) hF (hr.mono (by decide)) T.d11.mg T.d11.fn.kp T.d11.bd (sa_cons (sq_call (ok_check_of T) hF (hr.mono (by decide)) T.d7.mg T.d7.fn.kp T.d7.bd (sa_cons (sq_v 15) sa_nil)) (sa_cons (sq_call (ok__law_check T) hF (hr.mono (by decide)) T.d13.mg T.d13.fn.kp T.d13.bd (sa_cons (sq_v 15) sa_nil)) sa_nil))))) (sw_or1 (st_cmp (ℓ₁ := .mo) (ℓ₂ := .mo) (o_eq hK hu) (sq_call (ok_check_of T) hF (hr.mono (by decide)) T.d7.mg T.d7.fn.kp T.d7.bd (sa_cons (sq_bin (ℓ := .mo) (ℓ₁ := .mo) (ℓ₂ := .mo) (o_add hK) (sq_bin (ℓ := .mo) (ℓ₁ := .mo) (ℓ₂ := .mo) (o_add hK) (sq_slice hK (sq_v 15) so_none (so_some (sq_v 16))) (sq_tup (sa_cons (sq_v 18) sa_nil))) (sq_slice hK (sq_v 15) (so_some (sq_bin (ℓ := .mo) (ℓ₁ := .mo) (ℓ₂ := .mo) (o_add hK) (sq_v 16) (sq_int (ℓ := .mo)))) so_none)) sa_nil)) (sq_call (ok_check_of T) hF (hr.mono (by decide)) T.d7.mg T.d7.fn.kp T.d7.bd (sa_cons (sq_v 15) sa_nil)) (by rfl) gEq_b)))) (sb_one (ss_ret (ℓ := .mo) (sq_bl (ℓ := .mo)))) sb_nil)))))))))))))))))))))))
    (sb_cons (ss_par2 (i := 19) (j := 20) rfl SC.nd rfl rfl (by decide) rfl rfl (sp_v (se_q (sq_tup sa_nil)) (sp_l (sef_f (sf_lst (sa_cons (sq_int (ℓ := .st)) (sa_cons (sq_int (ℓ := .st)) sa_nil)))) sp_nil)) (by rfl))
    (sb_cons (ss_for [21] PassesOwn.never rfl (si_rngB T.z_range (sq_int (ℓ := .mo)) (sq_int (ℓ := .mo))) (sg_name (i := 16) SC.nd rfl (by first | exact Or.inl rfl | exact Or.inr rfl)) (sb_cons (ss_par2 (i := 19) (j := 20) rfl SC.nd rfl rfl (by decide) rfl rfl (sp_v (se_q (sq_tup (sa_cons (sq_vs 19) sa_nil))) (sp_l (sef_f (sf_cat hK (sq_f (sf_lst (sa_cons (sq_int (ℓ := .st)) (sa_cons (sq_int (ℓ := .st)) sa_nil)))) (sq_v 20))) sp_nil)) (by rfl))
    (sb_one (ss_for [21] PassesOwn.never rfl (si_seqT hK (sq_tup (sa_cons (sq_bin (ℓ := .fs) (ℓ₁ := .mo) (ℓ₂ := .mo) o_sub (sq_v 16) (sq_int (ℓ := .mo))) (sa_cons (sq_vs 16) (sa_cons (sq_bin (ℓ := .fs) (ℓ₁ := .fs) (ℓ₂ := .fs) (o_add hK) (sq_vs 16) (sq_int (ℓ := .fs))) (sa_cons (sq_bin (ℓ := .fs) (ℓ₁ := .fs) (ℓ₂ := .fs) (o_add hK) (sq_vs 16) (sq_int (ℓ := .fs))) sa_nil)))))) (sg_name (i := 21) SC.nd rfl (by first | exact Or.inl rfl | exact Or.inr rfl)) (sb_cons (ss_asg (sq_nl (ℓ := .fs) (sq_call (ok__law_plain_to T) hF (hr.mono (by decide)) T.d19.mg T.d19.fn.kp T.d19.bd (sa_cons (sq_totup hK T.z_tuple (sq_v 20)) (sa_cons (sq_v 21) sa_nil)))) (sg_tup hK rfl (sgs_cons (sg_name (i := 11) SC.nd rfl (by first | exact Or.inl rfl | exact Or.inr rfl)) (sgs_cons (sg_name (i := 12) SC.nd rfl (by first | exact Or.inl rfl | exact Or.inr rfl)) sgs_nil))))
    (sb_one (ss_if (PW.pt (sw_or (st_not (st_v hK (sq_call (ok__law_same T) hF (hr.mono (by decide)) T.d11.mg T.d11.fn.kp T.d11.bd (sa_cons (sq_v 11) (sa_cons (sq_if (st_cmp (ℓ₁ := .mo) (ℓ₂ := .mo) o_gt (sq_v 21) (sq_v 16) (by rfl) gB0_b) (sq_tup (sa_cons (sq_v 19) (sa_cons (sq_len (ℓ := .mo) hK T.z_len (sq_v 20)) sa_nil))) (sq_non (ℓ := .mo))) sa_nil))))) (sw_or1 (st_cmp (ℓ₁ := .mo) (ℓ₂ := .mo) (o_ne hK hu) (sq_isN (ℓ := .mo) (sq_v 12)) (sq_cmp (ℓ := .mo) (ℓ₁ := .mo) (ℓ₂ := .mo) o_gt (sq_v 21) (sq_v 16) (by rfl)) (by rfl) gNe_b)))) (sb_one (ss_ret (ℓ := .mo) (sq_bl (ℓ := .mo)))) sb_nil)))))))
    (sb_cons (ss_for [] PassesOwn.never rfl (si_seqT hK (sq_tup (sa_cons (sq_tup sa_nil) (sa_cons (sq_tup (sa_cons (sq_int (ℓ := .fs)) sa_nil)) (sa_cons (sq_tup (sa_cons (sq_int (ℓ := .fs)) (sa_cons (sq_int (ℓ := .fs)) sa_nil))) (sa_cons (sq_tup (sa_cons (sq_int (ℓ := .fs)) (sa_cons (sq_int (ℓ := .fs)) sa_nil))) (sa_cons (sq_tup (sa_cons (sq_int (ℓ := .fs)) (sa_cons (sq_int (ℓ := .fs)) (sa_cons (sq_int (ℓ := .fs)) (sa_cons (sq_int (ℓ := .fs)) sa_nil))))) (sa_cons (sq_tup (sa_cons (sq_int (ℓ := .fs)) (sa_cons (sq_int (ℓ := .fs)) (sa_cons (sq_int (ℓ := .fs)) sa_nil)))) sa_nil)))))))) (sg_name (i := 10) SC.nd rfl (by first | exact Or.inl rfl | exact Or.inr rfl)) (sb_one (ss_if (PW.pt (sw_or (st_not (st_v hK (sq_isi (ℓ := .mo) isi_int hK T.z_isinstance T.z_int (by decide +kernel) (sq_call (ok__law_text_at T) hF (hr.mono (by decide)) T.d20.mg T.d20.fn.kp T.d20.bd (sa_cons (sq_v 10) sa_nil))))) (sw_or1 (st_not (st_le2 (sq_int (ℓ := .mo)) (sq_call (ok__law_text_at T) hF (hr.mono (by decide)) T.d20.mg T.d20.fn.kp T.d20.bd (sa_cons (sq_v 10) sa_nil)) (sq_len (ℓ := .mo) hK T.z_len (sq_v 10))))))) (sb_one (ss_ret (ℓ := .mo) (sq_bl (ℓ := .mo)))) sb_nil)))
    (sb_cons (ss_set (i := 22) SC.nd rfl (by first | exact Or.inl rfl | exact Or.inr rfl) (sq_bin (ℓ := .fs) (ℓ₁ := .mo) (ℓ₂ := .mo) o_sub (sq_bin (ℓ := .mo) (ℓ₁ := .mo) (ℓ₂ := .mo) o_shl (sq_int (ℓ := .mo)) (sq_int (ℓ := .mo))) (sq_int (ℓ := .mo))))
    (sb_cons (ss_if (st_not (st_v hK (sq_call (ok__law_same T) hF (hr.mono (by decide)) T.d11.mg T.d11.fn.kp T.d11.bd (sa_cons (sq_tup (sa_cons (sq_f (sf_call (ok_number_bytes T) hF (hr.mono (by decide)) T.d0.mg T.d0.fn.kp T.d0.bd (sa_cons (sq_v 22) sa_nil))) (sa_cons (sq_call (ok__law_number_at T) hF (hr.mono (by decide)) T.d15.mg T.d15.fn.kp T.d15.bd (sa_cons (sq_bin (ℓ := .mo) (ℓ₁ := .mo) (ℓ₂ := .mo) (o_add hK) (sq_bin (ℓ := .mo) (ℓ₁ := .mo) (ℓ₂ := .mo) (o_mulX hK) (sq_tup (sa_cons (sq_int (ℓ := .mo)) sa_nil)) (sq_int (ℓ := .mo))) (sq_tup (sa_cons (sq_int (ℓ := .mo)) sa_nil))) (sa_cons (sq_int (ℓ := .mo)) sa_nil))) sa_nil))) (sa_cons (sq_tup (sa_cons (sq_f (sf_cat hK (sq_f (sf_rep (sf_lst (sa_cons (sq_int (ℓ := .st)) sa_nil)) (sq_int (ℓ := .mo)))) (sq_f (sf_lst (sa_cons (sq_int (ℓ := .st)) sa_nil))))) (sa_cons (sq_tup (sa_cons (sq_tup (sa_cons (sq_v 22) (sa_cons (sq_int (ℓ := .mo)) sa_nil))) (sa_cons (sq_non (ℓ := .mo)) sa_nil))) sa_nil))) sa_nil))))) (sb_one (ss_ret (ℓ := .mo) (sq_bl (ℓ := .mo)))) sb_nil)
    (sb_cons (ss_if (PW.pt (sw_or (st_not (st_v hK (sq_all (ℓ := .mo) hK rfl T.z_all (sq_f (sf_lc (own := [("many", 14)]) rfl SC.nd (si_seqX hK (sq_tup (sa_cons (sq_int (ℓ := .mo)) (sa_cons (sq_int (ℓ := .mo)) (sa_cons (sq_int (ℓ := .mo)) sa_nil))))) (by kernel_rfl) (by decide) (fun _ _ _ _ _ => (sg_name (i := 14) SC.nd rfl (by first | exact Or.inl rfl | exact Or.inr rfl))) (fun _ _ _ _ _ => sts_nil) (fun _ _ _ _ _ => (sq_isN (ℓ := .st) (sq_sub hK (sq_call (ok__law_number_at T) hF (hr.mono (by decide)) T.d15.mg T.d15.fn.kp T.d15.bd (sa_cons (sq_bin (ℓ := .mo) (ℓ₁ := .mo) (ℓ₂ := .mo) (o_add hK) (sq_bin (ℓ := .mo) (ℓ₁ := .mo) (ℓ₂ := .mo) (o_mulX hK) (sq_tup (sa_cons (sq_int (ℓ := .mo)) sa_nil)) (sq_v 14)) (sq_tup (sa_cons (sq_int (ℓ := .mo)) sa_nil))) (sa_cons (sq_int (ℓ := .mo)) sa_nil))) (sq_int (ℓ := .mo)))))))))) (sw_or1 (st_isN (sq_sub hK (sq_call (ok__law_number_at T) hF (hr.mono (by decide)) T.d15.mg T.d15.fn.kp T.d15.bd (sa_cons (sq_bin (ℓ := .mo) (ℓ₁ := .mo) (ℓ₂ := .mo) (o_add hK) (sq_bin (ℓ := .mo) (ℓ₁ := .mo) (ℓ₂ := .mo) (o_mulX hK) (sq_tup (sa_cons (sq_int (ℓ := .mo)) sa_nil)) (sq_int (ℓ := .mo))) (sq_tup (sa_cons (sq_int (ℓ := .mo)) sa_nil))) (sa_cons (sq_int (ℓ := .mo)) sa_nil))) (sq_int (ℓ := .mo))))))) (sb_one (ss_ret (ℓ := .mo) (sq_bl (ℓ := .mo)))) sb_nil)
    (sb_one (ss_ret (ℓ := .mo) (sq_and (sq_cmp (ℓ := .mo) (ℓ₁ := .mo) (ℓ₂ := .mo) (o_eq hK hu) (sq_f (sf_call (ok_number_bytes T) hF (hr.mono (by decide)) T.d0.mg T.d0.fn.kp T.d0.bd (sa_cons (sq_int (ℓ := .mo)) sa_nil))) (sq_f (sf_lst (sa_cons (sq_int (ℓ := .st)) (sa_cons (sq_int (ℓ := .st)) sa_nil)))) (by rfl)) (sq_one (sq_cmp (ℓ := .mo) (ℓ₁ := .mo) (ℓ₂ := .mo) (o_eq hK hu) (sq_f (sf_call (ok_plain_bytes T) hF (hr.mono (by decide)) T.d5.mg T.d5.fn.kp T.d5.bd (sa_cons (sq_tup (sa_cons (sq_int (ℓ := .mo)) (sa_cons (sq_non (ℓ := .mo)) (sa_cons (sq_str (ℓ := .mo)) sa_nil)))) sa_nil))) (sq_f (sf_lst (sa_cons (sq_int (ℓ := .st)) (sa_cons (sq_int (ℓ := .st)) (sa_cons (sq_int (ℓ := .st)) (sa_cons (sq_int (ℓ := .st)) (sa_cons (sq_int (ℓ := .st)) (sa_cons (sq_int (ℓ := .st)) (sa_cons (sq_int (ℓ := .st)) (sa_cons (sq_int (ℓ := .st)) sa_nil)))))))))) (by rfl)))))))))))))))
end
end K18

set_option Elab.async false
set_option linter.all false
set_option maxRecDepth 100000
set_option maxHeartbeats 0
namespace K18
open PySem PySem.Spec PyProof.Rows L2 Evl Sm
def dn : List He.DefD := [⟨("number_bytes", none), "number_bytes", "number_bytes", defArgs s_number_bytes, defBody s_number_bytes, defScope s_number_bytes, [], []⟩, ⟨("byte_at", none), "byte_at", "byte_at", defArgs s_byte_at, defBody s_byte_at, defScope s_byte_at, [], []⟩, ⟨("read_number", none), "read_number", "read_number", defArgs s_read_number, defBody s_read_number, defScope s_read_number, [], []⟩, ⟨("text_bytes", none), "text_bytes", "text_bytes", defArgs s_text_bytes, defBody s_text_bytes, defScope s_text_bytes, [], []⟩, ⟨("read_text", none), "read_text", "read_text", defArgs s_read_text, defBody s_read_text, defScope s_read_text, [], []⟩, ⟨("plain_bytes", none), "plain_bytes", "plain_bytes", defArgs s_plain_bytes, defBody s_plain_bytes, defScope s_plain_bytes, [], []⟩, ⟨("read_plain", none), "read_plain", "read_plain", defArgs s_read_plain, defBody s_read_plain, defScope s_read_plain, [], []⟩, ⟨("check_of", none), "check_of", "check_of", defArgs s_check_of, defBody s_check_of, defScope s_check_of, [], []⟩, ⟨("_law_box", none), "_law_box", "_law_box", defArgs s__law_box, defBody s__law_box, defScope s__law_box, [], []⟩, ⟨("_law_load", none), "_law_load", "_law_load", defArgs s__law_load, defBody s__law_load, defScope s__law_load, [], []⟩, ⟨("_law_draw", none), "_law_draw", "_law_draw", defArgs s__law_draw, defBody s__law_draw, defScope s__law_draw, [], []⟩, ⟨("_law_same", none), "_law_same", "_law_same", defArgs s__law_same, defBody s__law_same, defScope s__law_same, [], []⟩, ⟨("_law_number", none), "_law_number", "_law_number", defArgs s__law_number, defBody s__law_number, defScope s__law_number, [], []⟩, ⟨("_law_check", none), "_law_check", "_law_check", defArgs s__law_check, defBody s__law_check, defScope s__law_check, [], []⟩, ⟨("_law_text", none), "_law_text", "_law_text", defArgs s__law_text, defBody s__law_text, defScope s__law_text, [], []⟩, ⟨("_law_number_at", none), "_law_number_at", "_law_number_at", defArgs s__law_number_at, defBody s__law_number_at, defScope s__law_number_at, [], []⟩, ⟨("_law_plain_at", none), "_law_plain_at", "_law_plain_at", defArgs s__law_plain_at, defBody s__law_plain_at, defScope s__law_plain_at, [], []⟩, ⟨("_law_plain", none), "_law_plain", "_law_plain", defArgs s__law_plain, defBody s__law_plain, defScope s__law_plain, [], []⟩, ⟨("_law_plain_bytes", none), "_law_plain_bytes", "_law_plain_bytes", defArgs s__law_plain_bytes, defBody s__law_plain_bytes, defScope s__law_plain_bytes, [], []⟩, ⟨("_law_plain_to", none), "_law_plain_to", "_law_plain_to", defArgs s__law_plain_to, defBody s__law_plain_to, defScope s__law_plain_to, [], []⟩, ⟨("_law_text_at", none), "_law_text_at", "_law_text_at", defArgs s__law_text_at, defBody s__law_text_at, defScope s__law_text_at, [], []⟩, ⟨("law", none), "law", "law", defArgs s_law, defBody s_law, defScope s_law, [], []⟩]
def fa : List He.Fa := [.glo "number_bytes", .glo "byte_at", .glo "read_number", .glo "text_bytes", .glo "read_text", .glo "plain_bytes", .glo "read_plain", .glo "check_of", .glo "_law_box", .glo "_law_load", .glo "_law_draw", .glo "_law_same", .glo "_law_number", .glo "_law_check", .glo "_law_text", .glo "_law_number_at", .glo "_law_plain_at", .glo "_law_plain", .glo "_law_plain_bytes", .glo "_law_plain_to", .glo "_law_text_at", .glo "law", .free "all", .free "bool", .free "int", .free "isinstance", .free "len", .free "list", .free "range", .free "str", .free "tuple"]
abbrev R : PySem.W.OpenRow := PySem.W.OpenLaw.row PySem.Challenge.rw_treesheld_k18_whole_small_bytes
def cs : List (Str × PyData) := [("GROUP", c_GROUP), ("MOST_GROUPS", c_MOST_GROUPS), ("SIGNS", c_SIGNS), ("NOTHING", c_NOTHING), ("TEXT", c_TEXT), ("TUPLE", c_TUPLE), ("NUMBER", c_NUMBER), ("STEP", c_STEP), ("ROUND", c_ROUND), ("MOST_NESTED", c_MOST_NESTED)]
def es : List Sx.ErrD := [ed0]
abbrev hk : PySem.W.Hook := hookE 83 fa dn cs R.prog es
def ob (s : PySem.W.SharedT) : ObE := obsE 83 fa dn cs R.prog es (HandSHeadRun.getT s)
theorem ob_eq (s : PySem.W.SharedT) : ob s = hk.obs s.abs := obsE_eq (HandSHeadRun.getT_eq s)
def ls0 : List Str := ["number_bytes", "byte_at", "read_number", "text_bytes", "read_text", "plain_bytes", "read_plain", "check_of", "_law_box", "_law_load", "_law_draw", "_law_same", "_law_number", "_law_check", "_law_text", "_law_number_at", "_law_plain_at", "_law_plain", "_law_plain_bytes", "_law_plain_to"]
def ls1 : List Str := ["_law_text_at", "DIGITS", "GROUP", "MOST_GROUPS", "MOST_NESTED", "NOTHING", "NUMBER", "ROUND", "SIGNS", "SMALL", "STEP", "TEXT", "TUPLE", "PageError", "BadBytes"]
abbrev ls : List Str := ls0 ++ ls1
theorem run (w : World) : HandSHeadRun.RunEq R (PySem.W.view R.prog [38]) hk ob 100000 ls w := by
  intro os
  kernel_rfl
theorem hev0 : ∀ env : Env, ∃ pl : Sem Bool, eval (.Call (.Attribute (.Call (.Name "super" ed0.T.p0) [] [] ed0.T.p1) "__init__" ed0.T.p2) [Sx.iE ed0.T ed0.msg] [] ed0.T.pos) env = (do
      let ov ← attributeBase (.Call (.Name "super" ed0.T.p0) [] [] ed0.T.p1) "__init__" env (eval (.Call (.Name "super" ed0.T.p0) [] [] ed0.T.p1) env)
      standAt ed0.T.p2.atName
      let (f, first) ← holding [ov] (getMethod ov "__init__" pl)
      callWith ed0.T.pos f first (backTo ed0.T.pos (starEach [Sx.iE ed0.T ed0.msg] env)) []) := fun env => ⟨_, by rfl⟩
theorem txt {K : PySem.W.Frag} {h : Heap} {mg : Str → Option Value} {G : Glo} (gK : K = G.K) (X : K.In h) (N : h.Ns mainGlobals mg) (c : SaysE fa dn cs R.prog es K) : ∃ f fd, Txt R.prog K mg G f fd ∧ f 21 = He.ga K "law" := by
  obtain ⟨fd0, F0⟩ := c.1.1.def_ 0
  obtain ⟨fd1, F1⟩ := c.1.1.def_ 1
  obtain ⟨fd2, F2⟩ := c.1.1.def_ 2
  obtain ⟨fd3, F3⟩ := c.1.1.def_ 3
  obtain ⟨fd4, F4⟩ := c.1.1.def_ 4
  obtain ⟨fd5, F5⟩ := c.1.1.def_ 5
  obtain ⟨fd6, F6⟩ := c.1.1.def_ 6
  obtain ⟨fd7, F7⟩ := c.1.1.def_ 7
  obtain ⟨fd8, F8⟩ := c.1.1.def_ 8
  obtain ⟨fd9, F9⟩ := c.1.1.def_ 9
  obtain ⟨fd10, F10⟩ := c.1.1.def_ 10
  obtain ⟨fd11, F11⟩ := c.1.1.def_ 11
  obtain ⟨fd12, F12⟩ := c.1.1.def_ 12
  obtain ⟨fd13, F13⟩ := c.1.1.def_ 13
  obtain ⟨fd14, F14⟩ := c.1.1.def_ 14
  obtain ⟨fd15, F15⟩ := c.1.1.def_ 15
  obtain ⟨fd16, F16⟩ := c.1.1.def_ 16
  obtain ⟨fd17, F17⟩ := c.1.1.def_ 17
  obtain ⟨fd18, F18⟩ := c.1.1.def_ 18
  obtain ⟨fd19, F19⟩ := c.1.1.def_ 19
  obtain ⟨fd20, F20⟩ := c.1.1.def_ 20
  obtain ⟨fd21, F21⟩ := c.1.1.def_ 21
  refine ⟨fun i => ([He.ga K "number_bytes", He.ga K "byte_at", He.ga K "read_number", He.ga K "text_bytes", He.ga K "read_text", He.ga K "plain_bytes", He.ga K "read_plain", He.ga K "check_of", He.ga K "_law_box", He.ga K "_law_load", He.ga K "_law_draw", He.ga K "_law_same", He.ga K "_law_number", He.ga K "_law_check", He.ga K "_law_text", He.ga K "_law_number_at", He.ga K "_law_plain_at", He.ga K "_law_plain", He.ga K "_law_plain_bytes", He.ga K "_law_plain_to", He.ga K "_law_text_at", He.ga K "law"] : List Addr).getD i 0, fun i => ([fd0, fd1, fd2, fd3, fd4, fd5, fd6, fd7, fd8, fd9, fd10, fd11, fd12, fd13, fd14, fd15, fd16, fd17, fd18, fd19, fd20, fd21] : List FuncData).getD i fd0, ⟨gK, fun w base => Sx.err_ok X N (c.err 0).1 (c.err 0).2 hev0 w base, ⟨Fun.ofD F0, He.glo_ok X N (c.1.1.fact 0), FunD.bindsN F0 fun _ _ _ _ _ _ us hl => match us, hl with | [_], _ => rfl⟩, ⟨Fun.ofD F1, He.glo_ok X N (c.1.1.fact 1), FunD.bindsN F1 fun _ _ _ _ _ _ us hl => match us, hl with | [_, _], _ => rfl⟩, ⟨Fun.ofD F2, He.glo_ok X N (c.1.1.fact 2), FunD.bindsN F2 fun _ _ _ _ _ _ us hl => match us, hl with | [_, _], _ => rfl⟩, ⟨Fun.ofD F3, He.glo_ok X N (c.1.1.fact 3), FunD.bindsN F3 fun _ _ _ _ _ _ us hl => match us, hl with | [_], _ => rfl⟩, ⟨Fun.ofD F4, He.glo_ok X N (c.1.1.fact 4), FunD.bindsN F4 fun _ _ _ _ _ _ us hl => match us, hl with | [_, _], _ => rfl⟩, ⟨Fun.ofD F5, He.glo_ok X N (c.1.1.fact 5), FunD.bindsN F5 fun _ _ _ _ _ _ us hl => match us, hl with | [_], _ => rfl⟩, ⟨Fun.ofD F6, He.glo_ok X N (c.1.1.fact 6), FunD.bindsN F6 fun _ _ _ _ _ _ us hl => match us, hl with | [_, _, _], _ => rfl⟩, ⟨Fun.ofD F7, He.glo_ok X N (c.1.1.fact 7), FunD.bindsN F7 fun _ _ _ _ _ _ us hl => match us, hl with | [_], _ => rfl⟩, ⟨Fun.ofD F8, He.glo_ok X N (c.1.1.fact 8), FunD.bindsN F8 fun _ _ _ _ _ _ us hl => match us, hl with | [_], _ => rfl⟩, ⟨Fun.ofD F9, He.glo_ok X N (c.1.1.fact 9), FunD.bindsN F9 fun _ _ _ _ _ _ us hl => match us, hl with | [_], _ => rfl⟩, ⟨Fun.ofD F10, He.glo_ok X N (c.1.1.fact 10), FunD.bindsN F10 fun _ _ _ _ _ _ us hl => match us, hl with | [_, _], _ => rfl⟩, ⟨Fun.ofD F11, He.glo_ok X N (c.1.1.fact 11), FunD.bindsN F11 fun _ _ _ _ _ _ us hl => match us, hl with | [_, _], _ => rfl⟩, ⟨Fun.ofD F12, He.glo_ok X N (c.1.1.fact 12), FunD.bindsN F12 fun _ _ _ _ _ _ us hl => match us, hl with | [_], _ => rfl⟩, ⟨Fun.ofD F13, He.glo_ok X N (c.1.1.fact 13), FunD.bindsN F13 fun _ _ _ _ _ _ us hl => match us, hl with | [_], _ => rfl⟩, ⟨Fun.ofD F14, He.glo_ok X N (c.1.1.fact 14), FunD.bindsN F14 fun _ _ _ _ _ _ us hl => match us, hl with | [_], _ => rfl⟩, ⟨Fun.ofD F15, He.glo_ok X N (c.1.1.fact 15), FunD.bindsN F15 fun _ _ _ _ _ _ us hl => match us, hl with | [_, _], _ => rfl⟩, ⟨Fun.ofD F16, He.glo_ok X N (c.1.1.fact 16), FunD.bindsN F16 fun _ _ _ _ _ _ us hl => match us, hl with | [_, _], _ => rfl⟩, ⟨Fun.ofD F17, He.glo_ok X N (c.1.1.fact 17), FunD.bindsN F17 fun _ _ _ _ _ _ us hl => match us, hl with | [_, _], _ => rfl⟩, ⟨Fun.ofD F18, He.glo_ok X N (c.1.1.fact 18), FunD.bindsN F18 fun _ _ _ _ _ _ us hl => match us, hl with | [_], _ => rfl⟩, ⟨Fun.ofD F19, He.glo_ok X N (c.1.1.fact 19), FunD.bindsN F19 fun _ _ _ _ _ _ us hl => match us, hl with | [_, _], _ => rfl⟩, ⟨Fun.ofD F20, He.glo_ok X N (c.1.1.fact 20), FunD.bindsN F20 fun _ _ _ _ _ _ us hl => match us, hl with | [_], _ => rfl⟩, ⟨Fun.ofD F21, He.glo_ok X N (c.1.1.fact 21), FunD.bindsN F21 fun _ _ _ _ _ _ us hl => match us, hl with | [_], _ => rfl⟩, He.free_ok X N (c.1.1.fact 22), He.free_ok X N (c.1.1.fact 23), He.free_ok X N (c.1.1.fact 24), He.free_ok X N (c.1.1.fact 25), He.free_ok X N (c.1.1.fact 26), He.free_ok X N (c.1.1.fact 27), He.free_ok X N (c.1.1.fact 28), He.free_ok X N (c.1.1.fact 29), He.free_ok X N (c.1.1.fact 30), c.1.con X N 0, c.1.con X N 1, c.1.con X N 2, c.1.con X N 3, c.1.con X N 4, c.1.con X N 5, c.1.con X N 6, c.1.con X N 7, c.1.con X N 8, c.1.con X N 9⟩, rfl⟩
end K18

set_option Elab.async false
set_option linter.all false
set_option maxRecDepth 100000
set_option maxHeartbeats 4000000
namespace K18
open PySem L2 Evl Sm
/-! the box -/
def bx (cs : List Int) (p q : Int) : Hs := [.lst (cs.map .int), .vls [.ref 0, .d (.int p), .d (.int q)]]
def Bx (h : Hs) : Prop := ∃ cs p q, h = bx cs p q
theorem box_ (ns : List Int) : ∃ h', r__law_box [.d (.list (ns.map PyData.int))] [] = some (.ref 1, h') ∧ Bx h' := by
  refine ⟨bx (ns.take 63) 0 (4711 + ns.length), ?_, _, _, _, rfl⟩
  have e : List.take (min 63 ns.length) (List.map PyData.int ns) = List.take 63 (List.map PyData.int ns) := by
    have := take_min 63 (ns.map PyData.int)
    rw [List.length_map] at this
    rw [this]
  have e2 : nlAll (List.take 63 (List.map PyData.int ns)) = true := by
    rw [← List.map_take]
    exact nlAll_ints _
  simp [qV, qVs, qC, q1, q2, qNl, qIf, aNil, aCons, dOf, dsOf, qTup, fLst, qF, gTru, tV, tAndF, tOrF, tNotF, qT, qAnd, qOr, qNot, gI, gI0, gB0, cMul, cDiv, cPow, gNeg, gAdd, eqI, neI, lstAt, ixAt, lenAt, oPut, newOb, gLen, gInt, gTuple, f1, f2, gList, gIsi, gIx, gIsN, gNoN, gIsB, iRng, iRngB, seqOf, iSeqN, iSeq, bName, bNil, bCons, bTup, wipeE, tTrue, mNx, mSeq, mRet, mRetF, mRetN, mRetO, mIf, mSet, mSetO, mBk, mCt, mPre, mLock, mAsg, mFor, startE, resD, runQ, runF, qCall, fCall, arity, eQ, eF, eT, eNil, eCons, e1, e2, eTup, efLst, eLock, eIf, etV, eCall, efCall, enl, eNot, eAnd, eOr, resE, runE, runEF, mE, mSetE, mSetOE, mRetE, mRetFE, mIfE, mAsgE, oNone, oSome, gSl, qSl, fSl, gAll, gAny, qChain, gIn, pNil, pV, pL, mPar2, gCat, ef2, mAppE, mExtE, mPut, eNew, ePop, oPop, iE, iRngE, iSeqE, mForE, gRev, gRevL, iEnu, mHold, gTupR, nl, nlAll, ixN, PyData.isInt, PyData.isBool, PyData.isStr, PyData.isTuple, PyData.isList, PyData.isDict, eNewF, dsOf, r__law_box, m__law_box, cutD, HT.sIx, e, e2, nlAll_ints, sizeLine_eq, bx]
theorem load_ (cs : List Int) (p q : Int) : ∃ v cs' q', r__law_load [.ref 1] (bx cs p q) = some (.d (.int v), bx cs' p q') := by
  cases cs with
  | nil => exact ⟨_, [], _, by simp [qV, qVs, qC, q1, q2, qNl, qIf, aNil, aCons, dOf, dsOf, qTup, fLst, qF, gTru, tV, tAndF, tOrF, tNotF, qT, qAnd, qOr, qNot, gI, gI0, gB0, cMul, cDiv, cPow, gNeg, gAdd, eqI, neI, lstAt, ixAt, lenAt, oPut, newOb, gLen, gInt, gTuple, f1, f2, gList, gIsi, gIx, gIsN, gNoN, gIsB, iRng, iRngB, seqOf, iSeqN, iSeq, bName, bNil, bCons, bTup, wipeE, tTrue, mNx, mSeq, mRet, mRetF, mRetN, mRetO, mIf, mSet, mSetO, mBk, mCt, mPre, mLock, mAsg, mFor, startE, resD, runQ, runF, qCall, fCall, arity, eQ, eF, eT, eNil, eCons, e1, e2, eTup, efLst, eLock, eIf, etV, eCall, efCall, enl, eNot, eAnd, eOr, resE, runE, runEF, mE, mSetE, mSetOE, mRetE, mRetFE, mIfE, mAsgE, oNone, oSome, gSl, qSl, fSl, gAll, gAny, qChain, gIn, pNil, pV, pL, mPar2, gCat, ef2, mAppE, mExtE, mPut, eNew, ePop, oPop, iE, iRngE, iSeqE, mForE, gRev, gRevL, iEnu, mHold, gTupR, nl, nlAll, ixN, PyData.isInt, PyData.isBool, PyData.isStr, PyData.isTuple, PyData.isList, PyData.isDict, gMulX, gMul, r__law_load, m__law_load, bx]; exact ⟨rfl, rfl⟩⟩
  | cons c cs =>
    by_cases h3 : 0 ≤ c
    · by_cases h4 : 1000000000000000000 ≤ 2 * c
      · exact ⟨_, cs, q, by simp [qV, qVs, qC, q1, q2, qNl, qIf, aNil, aCons, dOf, dsOf, qTup, fLst, qF, gTru, tV, tAndF, tOrF, tNotF, qT, qAnd, qOr, qNot, gI, gI0, gB0, cMul, cDiv, cPow, gNeg, gAdd, eqI, neI, lstAt, ixAt, lenAt, oPut, newOb, gLen, gInt, gTuple, f1, f2, gList, gIsi, gIx, gIsN, gNoN, gIsB, iRng, iRngB, seqOf, iSeqN, iSeq, bName, bNil, bCons, bTup, wipeE, tTrue, mNx, mSeq, mRet, mRetF, mRetN, mRetO, mIf, mSet, mSetO, mBk, mCt, mPre, mLock, mAsg, mFor, startE, resD, runQ, runF, qCall, fCall, arity, eQ, eF, eT, eNil, eCons, e1, e2, eTup, efLst, eLock, eIf, etV, eCall, efCall, enl, eNot, eAnd, eOr, resE, runE, runEF, mE, mSetE, mSetOE, mRetE, mRetFE, mIfE, mAsgE, oNone, oSome, gSl, qSl, fSl, gAll, gAny, qChain, gIn, pNil, pV, pL, mPar2, gCat, ef2, mAppE, mExtE, mPut, eNew, ePop, oPop, iE, iRngE, iSeqE, mForE, gRev, gRevL, iEnu, mHold, gTupR, nl, nlAll, ixN, PyData.isInt, PyData.isBool, PyData.isStr, PyData.isTuple, PyData.isList, PyData.isDict, gMulX, gMul, r__law_load, m__law_load, bx, h3, h4]; rfl⟩
      · exact ⟨_, cs, _, by simp [qV, qVs, qC, q1, q2, qNl, qIf, aNil, aCons, dOf, dsOf, qTup, fLst, qF, gTru, tV, tAndF, tOrF, tNotF, qT, qAnd, qOr, qNot, gI, gI0, gB0, cMul, cDiv, cPow, gNeg, gAdd, eqI, neI, lstAt, ixAt, lenAt, oPut, newOb, gLen, gInt, gTuple, f1, f2, gList, gIsi, gIx, gIsN, gNoN, gIsB, iRng, iRngB, seqOf, iSeqN, iSeq, bName, bNil, bCons, bTup, wipeE, tTrue, mNx, mSeq, mRet, mRetF, mRetN, mRetO, mIf, mSet, mSetO, mBk, mCt, mPre, mLock, mAsg, mFor, startE, resD, runQ, runF, qCall, fCall, arity, eQ, eF, eT, eNil, eCons, e1, e2, eTup, efLst, eLock, eIf, etV, eCall, efCall, enl, eNot, eAnd, eOr, resE, runE, runEF, mE, mSetE, mSetOE, mRetE, mRetFE, mIfE, mAsgE, oNone, oSome, gSl, qSl, fSl, gAll, gAny, qChain, gIn, pNil, pV, pL, mPar2, gCat, ef2, mAppE, mExtE, mPut, eNew, ePop, oPop, iE, iRngE, iSeqE, mForE, gRev, gRevL, iEnu, mHold, gTupR, nl, nlAll, ixN, PyData.isInt, PyData.isBool, PyData.isStr, PyData.isTuple, PyData.isList, PyData.isDict, gMulX, gMul, r__law_load, m__law_load, bx, h3, h4]; exact ⟨rfl, rfl⟩⟩
    · by_cases h4 : 1000000000000000000 ≤ -2 * c - 1
      · exact ⟨_, cs, q, by simp [qV, qVs, qC, q1, q2, qNl, qIf, aNil, aCons, dOf, dsOf, qTup, fLst, qF, gTru, tV, tAndF, tOrF, tNotF, qT, qAnd, qOr, qNot, gI, gI0, gB0, cMul, cDiv, cPow, gNeg, gAdd, eqI, neI, lstAt, ixAt, lenAt, oPut, newOb, gLen, gInt, gTuple, f1, f2, gList, gIsi, gIx, gIsN, gNoN, gIsB, iRng, iRngB, seqOf, iSeqN, iSeq, bName, bNil, bCons, bTup, wipeE, tTrue, mNx, mSeq, mRet, mRetF, mRetN, mRetO, mIf, mSet, mSetO, mBk, mCt, mPre, mLock, mAsg, mFor, startE, resD, runQ, runF, qCall, fCall, arity, eQ, eF, eT, eNil, eCons, e1, e2, eTup, efLst, eLock, eIf, etV, eCall, efCall, enl, eNot, eAnd, eOr, resE, runE, runEF, mE, mSetE, mSetOE, mRetE, mRetFE, mIfE, mAsgE, oNone, oSome, gSl, qSl, fSl, gAll, gAny, qChain, gIn, pNil, pV, pL, mPar2, gCat, ef2, mAppE, mExtE, mPut, eNew, ePop, oPop, iE, iRngE, iSeqE, mForE, gRev, gRevL, iEnu, mHold, gTupR, nl, nlAll, ixN, PyData.isInt, PyData.isBool, PyData.isStr, PyData.isTuple, PyData.isList, PyData.isDict, gMulX, gMul, r__law_load, m__law_load, bx, h3, h4]; rfl⟩
      · exact ⟨_, cs, _, by simp [qV, qVs, qC, q1, q2, qNl, qIf, aNil, aCons, dOf, dsOf, qTup, fLst, qF, gTru, tV, tAndF, tOrF, tNotF, qT, qAnd, qOr, qNot, gI, gI0, gB0, cMul, cDiv, cPow, gNeg, gAdd, eqI, neI, lstAt, ixAt, lenAt, oPut, newOb, gLen, gInt, gTuple, f1, f2, gList, gIsi, gIx, gIsN, gNoN, gIsB, iRng, iRngB, seqOf, iSeqN, iSeq, bName, bNil, bCons, bTup, wipeE, tTrue, mNx, mSeq, mRet, mRetF, mRetN, mRetO, mIf, mSet, mSetO, mBk, mCt, mPre, mLock, mAsg, mFor, startE, resD, runQ, runF, qCall, fCall, arity, eQ, eF, eT, eNil, eCons, e1, e2, eTup, efLst, eLock, eIf, etV, eCall, efCall, enl, eNot, eAnd, eOr, resE, runE, runEF, mE, mSetE, mSetOE, mRetE, mRetFE, mIfE, mAsgE, oNone, oSome, gSl, qSl, fSl, gAll, gAny, qChain, gIn, pNil, pV, pL, mPar2, gCat, ef2, mAppE, mExtE, mPut, eNew, ePop, oPop, iE, iRngE, iSeqE, mForE, gRev, gRevL, iEnu, mHold, gTupR, nl, nlAll, ixN, PyData.isInt, PyData.isBool, PyData.isStr, PyData.isTuple, PyData.isList, PyData.isDict, gMulX, gMul, r__law_load, m__law_load, bx, h3, h4]; exact ⟨rfl, rfl⟩⟩
theorem draw1_ (cs : List Int) (p q : Int) (many : Int) (hm : 0 < many) (hm2 : many.natAbs.log2 < 9000) : ∃ d cs' p' q', r__law_draw [.ref 1, .d (.int many)] (bx cs p q) = some (.d (.int d), bx cs' p' q') ∧ 0 ≤ d ∧ d < many := by
  by_cases h1 : p < many
  · obtain ⟨v, cs', q', e⟩ := load_ cs p q
    refine ⟨v % many, cs', v / many, q', ?_, Int.emod_nonneg _ (by omega), Int.emod_lt_of_pos _ hm⟩
    unfold bx at e
    simp [qV, qVs, qC, q1, q2, qNl, qIf, aNil, aCons, dOf, dsOf, qTup, fLst, qF, gTru, tV, tAndF, tOrF, tNotF, qT, qAnd, qOr, qNot, gI, gI0, gB0, cMul, cDiv, cPow, gNeg, gAdd, eqI, neI, lstAt, ixAt, lenAt, oPut, newOb, gLen, gInt, gTuple, f1, f2, gList, gIsi, gIx, gIsN, gNoN, gIsB, iRng, iRngB, seqOf, iSeqN, iSeq, bName, bNil, bCons, bTup, wipeE, tTrue, mNx, mSeq, mRet, mRetF, mRetN, mRetO, mIf, mSet, mSetO, mBk, mCt, mPre, mLock, mAsg, mFor, startE, resD, runQ, runF, qCall, fCall, arity, eQ, eF, eT, eNil, eCons, e1, e2, eTup, efLst, eLock, eIf, etV, eCall, efCall, enl, eNot, eAnd, eOr, resE, runE, runEF, mE, mSetE, mSetOE, mRetE, mRetFE, mIfE, mAsgE, oNone, oSome, gSl, qSl, fSl, gAll, gAny, qChain, gIn, pNil, pV, pL, mPar2, gCat, ef2, mAppE, mExtE, mPut, eNew, ePop, oPop, iE, iRngE, iSeqE, mForE, gRev, gRevL, iEnu, mHold, gTupR, nl, nlAll, ixN, PyData.isInt, PyData.isBool, PyData.isStr, PyData.isTuple, PyData.isList, PyData.isDict, r__law_draw, m__law_draw, bx, h1, hm, hm2, e]
  · refine ⟨p % many, cs, p / many, q, ?_, Int.emod_nonneg _ (by omega), Int.emod_lt_of_pos _ hm⟩
    simp [qV, qVs, qC, q1, q2, qNl, qIf, aNil, aCons, dOf, dsOf, qTup, fLst, qF, gTru, tV, tAndF, tOrF, tNotF, qT, qAnd, qOr, qNot, gI, gI0, gB0, cMul, cDiv, cPow, gNeg, gAdd, eqI, neI, lstAt, ixAt, lenAt, oPut, newOb, gLen, gInt, gTuple, f1, f2, gList, gIsi, gIx, gIsN, gNoN, gIsB, iRng, iRngB, seqOf, iSeqN, iSeq, bName, bNil, bCons, bTup, wipeE, tTrue, mNx, mSeq, mRet, mRetF, mRetN, mRetO, mIf, mSet, mSetO, mBk, mCt, mPre, mLock, mAsg, mFor, startE, resD, runQ, runF, qCall, fCall, arity, eQ, eF, eT, eNil, eCons, e1, e2, eTup, efLst, eLock, eIf, etV, eCall, efCall, enl, eNot, eAnd, eOr, resE, runE, runEF, mE, mSetE, mSetOE, mRetE, mRetFE, mIfE, mAsgE, oNone, oSome, gSl, qSl, fSl, gAll, gAny, qChain, gIn, pNil, pV, pL, mPar2, gCat, ef2, mAppE, mExtE, mPut, eNew, ePop, oPop, iE, iRngE, iSeqE, mForE, gRev, gRevL, iEnu, mHold, gTupR, nl, nlAll, ixN, PyData.isInt, PyData.isBool, PyData.isStr, PyData.isTuple, PyData.isList, PyData.isDict, r__law_draw, m__law_draw, bx, h1, hm, hm2]
theorem draw_ (many : Int) (hm : 0 < many) (hm2 : many.natAbs.log2 < 9000) {h : Hs} (hb : Bx h) : ∃ d h', r__law_draw [.ref 1, .d (.int many)] h = some (.d (.int d), h') ∧ 0 ≤ d ∧ d < many ∧ Bx h' := by
  obtain ⟨cs, p, q, rfl⟩ := hb
  obtain ⟨d, cs', p', q', e, h1, h2⟩ := draw1_ cs p q many hm hm2
  exact ⟨d, _, e, h1, h2, _, _, _, rfl⟩
end K18

set_option Elab.async false
set_option linter.all false
set_option maxRecDepth 100000
set_option maxHeartbeats 4000000
namespace K18
open PySem L2 Evl Sm
/-! number bytes -/
def nbs : Nat → Nat → List Int
  | 0, n => [(n : Int)]
  | k + 1, n => if n < 128 then [(n : Int)] else (128 + ((n % 128 : Nat) : Int)) :: nbs k (n / 128)
theorem nbW (h : Hs) : ∀ (k f n : Nat) (acc : List PyData), n < 128 ^ (k + 1) → k < f → acc.length + k ≤ 1000 → ∃ bs m, nbs k n = bs ++ [m] ∧
    whGo [] (tV (q2 gGe (qV 0) (qC (.d c_GROUP)))) b_number_bytes_1 f [.v (.d (.int n)), .l acc] h = some (.nx, [.v (.d (.int m)), .l (acc ++ iL bs)], h) := by
  intro k
  induction k with
  | zero =>
    intro f n acc hn hf ha
    obtain ⟨f, rfl⟩ : ∃ g, f = g + 1 := ⟨f - 1, by omega⟩
    have : ¬ (128 : Int) ≤ n := by omega
    exact ⟨[], n, rfl, by simp [whGo, qV, qVs, qC, q1, q2, qNl, qIf, aNil, aCons, dOf, dsOf, qTup, fLst, qF, gTru, tV, tAndF, tOrF, tNotF, qT, qAnd, qOr, qNot, gI, gI0, gB0, cMul, cDiv, cPow, gNeg, gAdd, eqI, neI, lstAt, ixAt, lenAt, oPut, newOb, gLen, gInt, gTuple, f1, f2, gList, gIsi, gIx, gIsN, gNoN, gIsB, iRng, iRngB, seqOf, iSeqN, iSeq, bName, bNil, bCons, bTup, wipeE, tTrue, mNx, mSeq, mRet, mRetF, mRetN, mRetO, mIf, mSet, mSetO, mBk, mCt, mPre, mLock, mAsg, mFor, startE, resD, runQ, runF, qCall, fCall, arity, eQ, eF, eT, eNil, eCons, e1, e2, eTup, efLst, eLock, eIf, etV, eCall, efCall, enl, eNot, eAnd, eOr, resE, runE, runEF, mE, mSetE, mSetOE, mRetE, mRetFE, mIfE, mAsgE, oNone, oSome, gSl, qSl, fSl, gAll, gAny, qChain, gIn, pNil, pV, pL, mPar2, gCat, ef2, mAppE, mExtE, mPut, eNew, ePop, oPop, iE, iRngE, iSeqE, mForE, gRev, gRevL, iEnu, mHold, gTupR, nl, nlAll, ixN, PyData.isInt, PyData.isBool, PyData.isStr, PyData.isTuple, PyData.isList, PyData.isDict, c_GROUP, this]⟩
  | succ k ih =>
    intro f n acc hn hf ha
    obtain ⟨f, rfl⟩ : ∃ g, f = g + 1 := ⟨f - 1, by omega⟩
    by_cases hc : n < 128
    · have : ¬ (128 : Int) ≤ n := by omega
      exact ⟨[], n, by simp [nbs, hc], by simp [whGo, qV, qVs, qC, q1, q2, qNl, qIf, aNil, aCons, dOf, dsOf, qTup, fLst, qF, gTru, tV, tAndF, tOrF, tNotF, qT, qAnd, qOr, qNot, gI, gI0, gB0, cMul, cDiv, cPow, gNeg, gAdd, eqI, neI, lstAt, ixAt, lenAt, oPut, newOb, gLen, gInt, gTuple, f1, f2, gList, gIsi, gIx, gIsN, gNoN, gIsB, iRng, iRngB, seqOf, iSeqN, iSeq, bName, bNil, bCons, bTup, wipeE, tTrue, mNx, mSeq, mRet, mRetF, mRetN, mRetO, mIf, mSet, mSetO, mBk, mCt, mPre, mLock, mAsg, mFor, startE, resD, runQ, runF, qCall, fCall, arity, eQ, eF, eT, eNil, eCons, e1, e2, eTup, efLst, eLock, eIf, etV, eCall, efCall, enl, eNot, eAnd, eOr, resE, runE, runEF, mE, mSetE, mSetOE, mRetE, mRetFE, mIfE, mAsgE, oNone, oSome, gSl, qSl, fSl, gAll, gAny, qChain, gIn, pNil, pV, pL, mPar2, gCat, ef2, mAppE, mExtE, mPut, eNew, ePop, oPop, iE, iRngE, iSeqE, mForE, gRev, gRevL, iEnu, mHold, gTupR, nl, nlAll, ixN, PyData.isInt, PyData.isBool, PyData.isStr, PyData.isTuple, PyData.isList, PyData.isDict, c_GROUP, this]⟩
    · have h1 : (128 : Int) ≤ n := by omega
      obtain ⟨bs, m, e1, e2⟩ := ih f (n / 128) (acc ++ [.int (128 + ((n % 128 : Nat) : Int))]) (by rw [Nat.div_lt_iff_lt_mul (by decide)]; rw [Nat.pow_succ] at hn; exact hn) (by omega) (by simp; omega)
      refine ⟨(128 + ((n % 128 : Nat) : Int)) :: bs, m, by simp [nbs, hc, e1], ?_⟩
      have hz : acc.length < sizeLine := by rw [sizeLine_eq]; omega
      have l1 : (128 : Nat).log2 < 9000 := by decide
      have hq : tV (q2 gGe (qV 0) (qC (.d c_GROUP))) [.v (.d (.int n)), .l acc] h = some true := by simp [qV, qVs, qC, q1, q2, qNl, qIf, aNil, aCons, dOf, dsOf, qTup, fLst, qF, gTru, tV, tAndF, tOrF, tNotF, qT, qAnd, qOr, qNot, gI, gI0, gB0, cMul, cDiv, cPow, gNeg, gAdd, eqI, neI, lstAt, ixAt, lenAt, oPut, newOb, gLen, gInt, gTuple, f1, f2, gList, gIsi, gIx, gIsN, gNoN, gIsB, iRng, iRngB, seqOf, iSeqN, iSeq, bName, bNil, bCons, bTup, wipeE, tTrue, mNx, mSeq, mRet, mRetF, mRetN, mRetO, mIf, mSet, mSetO, mBk, mCt, mPre, mLock, mAsg, mFor, startE, resD, runQ, runF, qCall, fCall, arity, eQ, eF, eT, eNil, eCons, e1, e2, eTup, efLst, eLock, eIf, etV, eCall, efCall, enl, eNot, eAnd, eOr, resE, runE, runEF, mE, mSetE, mSetOE, mRetE, mRetFE, mIfE, mAsgE, oNone, oSome, gSl, qSl, fSl, gAll, gAny, qChain, gIn, pNil, pV, pL, mPar2, gCat, ef2, mAppE, mExtE, mPut, eNew, ePop, oPop, iE, iRngE, iSeqE, mForE, gRev, gRevL, iEnu, mHold, gTupR, nl, nlAll, ixN, PyData.isInt, PyData.isBool, PyData.isStr, PyData.isTuple, PyData.isList, PyData.isDict, c_GROUP, h1]
      have hb : b_number_bytes_1 [.v (.d (.int n)), .l acc] h = some (.nx, [.v (.d (.int ((n / 128 : Nat) : Int))), .l (acc ++ [.int (128 + ((n % 128 : Nat) : Int))])], h) := by simp [qV, qVs, qC, q1, q2, qNl, qIf, aNil, aCons, dOf, dsOf, qTup, fLst, qF, gTru, tV, tAndF, tOrF, tNotF, qT, qAnd, qOr, qNot, gI, gI0, gB0, cMul, cDiv, cPow, gNeg, gAdd, eqI, neI, lstAt, ixAt, lenAt, oPut, newOb, gLen, gInt, gTuple, f1, f2, gList, gIsi, gIx, gIsN, gNoN, gIsB, iRng, iRngB, seqOf, iSeqN, iSeq, bName, bNil, bCons, bTup, wipeE, tTrue, mNx, mSeq, mRet, mRetF, mRetN, mRetO, mIf, mSet, mSetO, mBk, mCt, mPre, mLock, mAsg, mFor, startE, resD, runQ, runF, qCall, fCall, arity, eQ, eF, eT, eNil, eCons, e1, e2, eTup, efLst, eLock, eIf, etV, eCall, efCall, enl, eNot, eAnd, eOr, resE, runE, runEF, mE, mSetE, mSetOE, mRetE, mRetFE, mIfE, mAsgE, oNone, oSome, gSl, qSl, fSl, gAll, gAny, qChain, gIn, pNil, pV, pL, mPar2, gCat, ef2, mAppE, mExtE, mPut, eNew, ePop, oPop, iE, iRngE, iSeqE, mForE, gRev, gRevL, iEnu, mHold, gTupR, nl, nlAll, ixN, PyData.isInt, PyData.isBool, PyData.isStr, PyData.isTuple, PyData.isList, PyData.isDict, c_GROUP, b_number_bytes_1, hz, l1]
      rw [whGo, hq, Option.bind_some, if_pos rfl, hb, Option.bind_some]
      refine e2.trans ?_
      rw [List.append_assoc]
      rfl
theorem nbs_len : ∀ k n, (nbs k n).length ≤ k + 1
  | 0, n => by simp [nbs]
  | k + 1, n => by
    unfold nbs
    split
    · simp
    · have := nbs_len k (n / 128)
      simp only [List.length_cons]
      omega
theorem number_bytes_ (k : Nat) (hk : k ≤ 400) (n : Nat) (hn : n < 128 ^ (k + 1)) (h : Hs) : r_number_bytes [.d (.int n)] h = some (iL (nbs k n)) := by
  obtain ⟨bs, m, e1, e2⟩ := nbW h k 1000 n [] hn (by omega) (by simp; omega)
  have hl : bs.length ≤ 400 := by
    have := nbs_len k n
    rw [e1] at this
    simp at this
    omega
  have hz : bs.length + 1 ≤ sizeLine := by rw [sizeLine_eq]; omega
  have e3 : mWhile 1000 [] (tV (q2 gGe (qV 0) (qC (.d c_GROUP)))) b_number_bytes_1 [.v (.d (.int n)), .l []] h = _ := e2
  simp [r_number_bytes, m_number_bytes, qV, qVs, qC, q1, q2, qNl, qIf, aNil, aCons, dOf, dsOf, qTup, fLst, qF, gTru, tV, tAndF, tOrF, tNotF, qT, qAnd, qOr, qNot, gI, gI0, gB0, cMul, cDiv, cPow, gNeg, gAdd, eqI, neI, lstAt, ixAt, lenAt, oPut, newOb, gLen, gInt, gTuple, f1, f2, gList, gIsi, gIx, gIsN, gNoN, gIsB, iRng, iRngB, seqOf, iSeqN, iSeq, bName, bNil, bCons, bTup, wipeE, tTrue, mNx, mSeq, mRet, mRetF, mRetN, mRetO, mIf, mSet, mSetO, mBk, mCt, mPre, mLock, mAsg, mFor, startE, resD, runQ, runF, qCall, fCall, arity, eQ, eF, eT, eNil, eCons, e1, e2, eTup, efLst, eLock, eIf, etV, eCall, efCall, enl, eNot, eAnd, eOr, resE, runE, runEF, mE, mSetE, mSetOE, mRetE, mRetFE, mIfE, mAsgE, oNone, oSome, gSl, qSl, fSl, gAll, gAny, qChain, gIn, pNil, pV, pL, mPar2, gCat, ef2, mAppE, mExtE, mPut, eNew, ePop, oPop, iE, iRngE, iSeqE, mForE, gRev, gRevL, iEnu, mHold, gTupR, nl, nlAll, ixN, PyData.isInt, PyData.isBool, PyData.isStr, PyData.isTuple, PyData.isList, PyData.isDict, e3, hz, e1, nlAll_ints, nlAll, one_sl]
/-- the law's own number bytes -/
theorem lnW (h : Hs) : ∀ (k f n : Nat) (acc : List Int), n < 128 ^ (k + 1) → k < f → acc.length + k ≤ 1000 → ∃ bs m, nbs k n = bs ++ [m] ∧
    whGo [] (tV (q2 gGe (qV 0) (qC (.d (.int 128))))) b__law_number_1 f [.v (.d (.int n)), .l (iL acc)] h = some (.nx, [.v (.d (.int m)), .l (iL (acc ++ bs))], h) := by
  intro k
  induction k with
  | zero =>
    intro f n acc hn hf ha
    obtain ⟨f, rfl⟩ : ∃ g, f = g + 1 := ⟨f - 1, by omega⟩
    have : ¬ (128 : Int) ≤ n := by omega
    exact ⟨[], n, rfl, by simp [whGo, qV, qVs, qC, q1, q2, qNl, qIf, aNil, aCons, dOf, dsOf, qTup, fLst, qF, gTru, tV, tAndF, tOrF, tNotF, qT, qAnd, qOr, qNot, gI, gI0, gB0, cMul, cDiv, cPow, gNeg, gAdd, eqI, neI, lstAt, ixAt, lenAt, oPut, newOb, gLen, gInt, gTuple, f1, f2, gList, gIsi, gIx, gIsN, gNoN, gIsB, iRng, iRngB, seqOf, iSeqN, iSeq, bName, bNil, bCons, bTup, wipeE, tTrue, mNx, mSeq, mRet, mRetF, mRetN, mRetO, mIf, mSet, mSetO, mBk, mCt, mPre, mLock, mAsg, mFor, startE, resD, runQ, runF, qCall, fCall, arity, eQ, eF, eT, eNil, eCons, e1, e2, eTup, efLst, eLock, eIf, etV, eCall, efCall, enl, eNot, eAnd, eOr, resE, runE, runEF, mE, mSetE, mSetOE, mRetE, mRetFE, mIfE, mAsgE, oNone, oSome, gSl, qSl, fSl, gAll, gAny, qChain, gIn, pNil, pV, pL, mPar2, gCat, ef2, mAppE, mExtE, mPut, eNew, ePop, oPop, iE, iRngE, iSeqE, mForE, gRev, gRevL, iEnu, mHold, gTupR, nl, nlAll, ixN, PyData.isInt, PyData.isBool, PyData.isStr, PyData.isTuple, PyData.isList, PyData.isDict, this]⟩
  | succ k ih =>
    intro f n acc hn hf ha
    obtain ⟨f, rfl⟩ : ∃ g, f = g + 1 := ⟨f - 1, by omega⟩
    by_cases hc : n < 128
    · have : ¬ (128 : Int) ≤ n := by omega
      exact ⟨[], n, by simp [nbs, hc], by simp [whGo, qV, qVs, qC, q1, q2, qNl, qIf, aNil, aCons, dOf, dsOf, qTup, fLst, qF, gTru, tV, tAndF, tOrF, tNotF, qT, qAnd, qOr, qNot, gI, gI0, gB0, cMul, cDiv, cPow, gNeg, gAdd, eqI, neI, lstAt, ixAt, lenAt, oPut, newOb, gLen, gInt, gTuple, f1, f2, gList, gIsi, gIx, gIsN, gNoN, gIsB, iRng, iRngB, seqOf, iSeqN, iSeq, bName, bNil, bCons, bTup, wipeE, tTrue, mNx, mSeq, mRet, mRetF, mRetN, mRetO, mIf, mSet, mSetO, mBk, mCt, mPre, mLock, mAsg, mFor, startE, resD, runQ, runF, qCall, fCall, arity, eQ, eF, eT, eNil, eCons, e1, e2, eTup, efLst, eLock, eIf, etV, eCall, efCall, enl, eNot, eAnd, eOr, resE, runE, runEF, mE, mSetE, mSetOE, mRetE, mRetFE, mIfE, mAsgE, oNone, oSome, gSl, qSl, fSl, gAll, gAny, qChain, gIn, pNil, pV, pL, mPar2, gCat, ef2, mAppE, mExtE, mPut, eNew, ePop, oPop, iE, iRngE, iSeqE, mForE, gRev, gRevL, iEnu, mHold, gTupR, nl, nlAll, ixN, PyData.isInt, PyData.isBool, PyData.isStr, PyData.isTuple, PyData.isList, PyData.isDict, this]⟩
    · have h1 : (128 : Int) ≤ n := by omega
      obtain ⟨bs, m, e1, e2⟩ := ih f (n / 128) (acc ++ [128 + ((n % 128 : Nat) : Int)]) (by rw [Nat.div_lt_iff_lt_mul (by decide)]; rw [Nat.pow_succ] at hn; exact hn) (by omega) (by simp; omega)
      refine ⟨(128 + ((n % 128 : Nat) : Int)) :: bs, m, by simp [nbs, hc, e1], ?_⟩
      have hz : acc.length + 1 ≤ sizeLine := by rw [sizeLine_eq]; omega
      have l1 : (128 : Nat).log2 < 9000 := by decide
      have w : (128 : Int) + n - n / 128 * 128 = 128 + ((n % 128 : Nat) : Int) := by omega
      have hq : tV (q2 gGe (qV 0) (qC (.d (.int 128)))) [.v (.d (.int n)), .l (iL acc)] h = some true := by simp [qV, qVs, qC, q1, q2, qNl, qIf, aNil, aCons, dOf, dsOf, qTup, fLst, qF, gTru, tV, tAndF, tOrF, tNotF, qT, qAnd, qOr, qNot, gI, gI0, gB0, cMul, cDiv, cPow, gNeg, gAdd, eqI, neI, lstAt, ixAt, lenAt, oPut, newOb, gLen, gInt, gTuple, f1, f2, gList, gIsi, gIx, gIsN, gNoN, gIsB, iRng, iRngB, seqOf, iSeqN, iSeq, bName, bNil, bCons, bTup, wipeE, tTrue, mNx, mSeq, mRet, mRetF, mRetN, mRetO, mIf, mSet, mSetO, mBk, mCt, mPre, mLock, mAsg, mFor, startE, resD, runQ, runF, qCall, fCall, arity, eQ, eF, eT, eNil, eCons, e1, e2, eTup, efLst, eLock, eIf, etV, eCall, efCall, enl, eNot, eAnd, eOr, resE, runE, runEF, mE, mSetE, mSetOE, mRetE, mRetFE, mIfE, mAsgE, oNone, oSome, gSl, qSl, fSl, gAll, gAny, qChain, gIn, pNil, pV, pL, mPar2, gCat, ef2, mAppE, mExtE, mPut, eNew, ePop, oPop, iE, iRngE, iSeqE, mForE, gRev, gRevL, iEnu, mHold, gTupR, nl, nlAll, ixN, PyData.isInt, PyData.isBool, PyData.isStr, PyData.isTuple, PyData.isList, PyData.isDict, h1]
      have na := nlAll_ints acc
      have hb : b__law_number_1 [.v (.d (.int n)), .l (iL acc)] h = some (.nx, [.v (.d (.int ((n / 128 : Nat) : Int))), .l (iL (acc ++ [128 + ((n % 128 : Nat) : Int)]))], h) := by
        simp [qV, qVs, qC, q1, q2, qNl, qIf, aNil, aCons, dOf, dsOf, qTup, fLst, qF, gTru, tV, tAndF, tOrF, tNotF, qT, qAnd, qOr, qNot, gI, gI0, gB0, cMul, cDiv, cPow, gNeg, gAdd, eqI, neI, lstAt, ixAt, lenAt, oPut, newOb, gLen, gInt, gTuple, f1, f2, gList, gIsi, gIx, gIsN, gNoN, gIsB, iRng, iRngB, seqOf, iSeqN, iSeq, bName, bNil, bCons, bTup, wipeE, tTrue, mNx, mSeq, mRet, mRetF, mRetN, mRetO, mIf, mSet, mSetO, mBk, mCt, mPre, mLock, mAsg, mFor, startE, resD, runQ, runF, qCall, fCall, arity, eQ, eF, eT, eNil, eCons, e1, e2, eTup, efLst, eLock, eIf, etV, eCall, efCall, enl, eNot, eAnd, eOr, resE, runE, runEF, mE, mSetE, mSetOE, mRetE, mRetFE, mIfE, mAsgE, oNone, oSome, gSl, qSl, fSl, gAll, gAny, qChain, gIn, pNil, pV, pL, mPar2, gCat, ef2, mAppE, mExtE, mPut, eNew, ePop, oPop, iE, iRngE, iSeqE, mForE, gRev, gRevL, iEnu, mHold, gTupR, nl, nlAll, ixN, PyData.isInt, PyData.isBool, PyData.isStr, PyData.isTuple, PyData.isList, PyData.isDict, gMulX, gMul, b__law_number_1, hz, l1, w, na, nlAll, nl, one_sl]
      rw [whGo, hq, Option.bind_some, if_pos rfl, hb, Option.bind_some]
      refine e2.trans ?_
      rw [List.append_assoc]
      rfl
theorem law_number_ (k : Nat) (hk : k ≤ 400) (n : Nat) (hn : n < 128 ^ (k + 1)) (h : Hs) : r__law_number [.d (.int n)] h = some (iL (nbs k n)) := by
  obtain ⟨bs, m, e1, e2⟩ := lnW h k 1000 n [] hn (by omega) (by simp; omega)
  have hl : bs.length ≤ 400 := by
    have := nbs_len k n
    rw [e1] at this
    simp at this
    omega
  have hz : bs.length + 1 ≤ sizeLine := by rw [sizeLine_eq]; omega
  have e3 : mWhile 1000 [] (tV (q2 gGe (qV 0) (qC (.d (.int 128))))) b__law_number_1 [.v (.d (.int n)), .l []] h = _ := e2
  simp [r__law_number, m__law_number, qV, qVs, qC, q1, q2, qNl, qIf, aNil, aCons, dOf, dsOf, qTup, fLst, qF, gTru, tV, tAndF, tOrF, tNotF, qT, qAnd, qOr, qNot, gI, gI0, gB0, cMul, cDiv, cPow, gNeg, gAdd, eqI, neI, lstAt, ixAt, lenAt, oPut, newOb, gLen, gInt, gTuple, f1, f2, gList, gIsi, gIx, gIsN, gNoN, gIsB, iRng, iRngB, seqOf, iSeqN, iSeq, bName, bNil, bCons, bTup, wipeE, tTrue, mNx, mSeq, mRet, mRetF, mRetN, mRetO, mIf, mSet, mSetO, mBk, mCt, mPre, mLock, mAsg, mFor, startE, resD, runQ, runF, qCall, fCall, arity, eQ, eF, eT, eNil, eCons, e1, e2, eTup, efLst, eLock, eIf, etV, eCall, efCall, enl, eNot, eAnd, eOr, resE, runE, runEF, mE, mSetE, mSetOE, mRetE, mRetFE, mIfE, mAsgE, oNone, oSome, gSl, qSl, fSl, gAll, gAny, qChain, gIn, pNil, pV, pL, mPar2, gCat, ef2, mAppE, mExtE, mPut, eNew, ePop, oPop, iE, iRngE, iSeqE, mForE, gRev, gRevL, iEnu, mHold, gTupR, nl, nlAll, ixN, PyData.isInt, PyData.isBool, PyData.isStr, PyData.isTuple, PyData.isList, PyData.isDict, e3, hz, e1, nlAll_ints, nlAll, one_sl]
end K18

set_option Elab.async false
set_option linter.all false
set_option maxRecDepth 100000
set_option maxHeartbeats 1000000
namespace K18
open PySem L2 Evl Sm
/-! ### bytes read -/
theorem byte_at_in {D : List Int} {p : Nat} {b : Int} (hb : D[p]? = some b) (h : Hs) : r_byte_at [.d (.tuple (iL D)), .d (.int p)] h = some (.ok (.d (.int b))) := by
  have hlt : p < D.length := (List.getElem?_eq_some_iff.mp hb).1
  have h1 : ¬ (D.length : Int) ≤ p := by omega
  have e : atI (iL D) (p : Int) = some (.int b) := atN (by rw [List.getElem?_map, hb]; rfl)
  simp [r_byte_at, m_byte_at, runX, qV, qVs, qC, q1, q2, qNl, qIf, aNil, aCons, dOf, dsOf, qTup, fLst, qF, gTru, tV, tAndF, tOrF, tNotF, qT, qAnd, qOr, qNot, gI, gI0, gB0, cMul, cDiv, cPow, gNeg, gAdd, eqI, neI, lstAt, ixAt, lenAt, oPut, newOb, gLen, gInt, gTuple, f1, f2, gList, gIsi, gIx, gIsN, gNoN, gIsB, iRng, iRngB, seqOf, iSeqN, iSeq, bName, bNil, bCons, bTup, wipeE, tTrue, mNx, mSeq, mRet, mRetF, mRetN, mRetO, mIf, mSet, mSetO, mBk, mCt, mPre, mLock, mAsg, mFor, startE, resD, runQ, runF, qCall, fCall, arity, eQ, eF, eT, eNil, eCons, e1, e2, eTup, efLst, eLock, eIf, etV, eCall, efCall, enl, eNot, eAnd, eOr, resE, runE, runEF, mE, mSetE, mSetOE, mRetE, mRetFE, mIfE, mAsgE, oNone, oSome, gSl, qSl, fSl, gAll, gAny, qChain, gIn, pNil, pV, pL, mPar2, gCat, ef2, mAppE, mExtE, mPut, eNew, ePop, oPop, iE, iRngE, iSeqE, mForE, gRev, gRevL, iEnu, mHold, gTupR, nl, nlAll, ixN, PyData.isInt, PyData.isBool, PyData.isStr, PyData.isTuple, PyData.isList, PyData.isDict, h1, e, resX]
theorem byte_at_out {D : List Int} {p : Nat} (hp : D.length ≤ p) (hl : D.length ≤ 1000000) (h : Hs) : r_byte_at [.d (.tuple (iL D)), .d (.int p)] h = some (.error (0, D.length)) := by
  have h1 : (D.length : Int) ≤ p := by omega
  have h2 : D.length.log2 < 1000 := log_small hl
  simp [r_byte_at, m_byte_at, runX, qV, qVs, qC, q1, q2, qNl, qIf, aNil, aCons, dOf, dsOf, qTup, fLst, qF, gTru, tV, tAndF, tOrF, tNotF, qT, qAnd, qOr, qNot, gI, gI0, gB0, cMul, cDiv, cPow, gNeg, gAdd, eqI, neI, lstAt, ixAt, lenAt, oPut, newOb, gLen, gInt, gTuple, f1, f2, gList, gIsi, gIx, gIsN, gNoN, gIsB, iRng, iRngB, seqOf, iSeqN, iSeq, bName, bNil, bCons, bTup, wipeE, tTrue, mNx, mSeq, mRet, mRetF, mRetN, mRetO, mIf, mSet, mSetO, mBk, mCt, mPre, mLock, mAsg, mFor, startE, resD, runQ, runF, qCall, fCall, arity, eQ, eF, eT, eNil, eCons, e1, e2, eTup, efLst, eLock, eIf, etV, eCall, efCall, enl, eNot, eAnd, eOr, resE, runE, runEF, mE, mSetE, mSetOE, mRetE, mRetFE, mIfE, mAsgE, oNone, oSome, gSl, qSl, fSl, gAll, gAny, qChain, gIn, pNil, pV, pL, mPar2, gCat, ef2, mAppE, mExtE, mPut, eNew, ePop, oPop, iE, iRngE, iSeqE, mForE, gRev, gRevL, iEnu, mHold, gTupR, nl, nlAll, ixN, PyData.isInt, PyData.isBool, PyData.isStr, PyData.isTuple, PyData.isList, PyData.isDict, mRaise, h1, h2, resX]
end K18

set_option Elab.async false
set_option linter.all false
set_option maxRecDepth 100000
set_option maxHeartbeats 1000000
namespace K18
open PySem L2 Evl Sm
/-! ### a number's groups, gone through -/
inductive Sc where
  | out | long | last (ds : List Int) (b : Int) (n : Nat)
def Sc.cons (d : Int) : Sc → Sc
  | .last ds b n => .last (d :: ds) b (n + 1)
  | e => e
def scn : List Int → Nat → Sc
  | [], _ => .out
  | b :: r, c => if 128 ≤ b then (if 400 ≤ c + 1 then .long else (scn r (c + 1)).cons (b - 128)) else .last [] b 0
abbrev tRd : XT := xV (x2 gGe (xCall (arity 2 r_byte_at) (aCons (qV 0) (aCons (qV 3) aNil))) (qC (.d c_GROUP)))
def EnN (D : List Int) (place : Int) (acc : List Int) (here : Nat) : En := [.v (.d (.tuple (iL D))), .v (.d (.int place)), .l (iL acc), .v (.d (.int here)), .un, .un]
theorem tRd_in {D acc : List Int} {place : Int} {p : Nat} {b : Int} (hb : D[p]? = some b) (h : Hs) : tRd (EnN D place acc p) h = some (.ok (decide (128 ≤ b))) := by
  have e := byte_at_in hb h
  by_cases c : 128 ≤ b <;> simp [tRd, xV, x2, xCall, arity, qV, qVs, qC, q1, q2, qNl, qIf, aNil, aCons, dOf, dsOf, qTup, fLst, qF, gTru, tV, tAndF, tOrF, tNotF, qT, qAnd, qOr, qNot, gI, gI0, gB0, cMul, cDiv, cPow, gNeg, gAdd, eqI, neI, lstAt, ixAt, lenAt, oPut, newOb, gLen, gInt, gTuple, f1, f2, gList, gIsi, gIx, gIsN, gNoN, gIsB, iRng, iRngB, seqOf, iSeqN, iSeq, bName, bNil, bCons, bTup, wipeE, tTrue, mNx, mSeq, mRet, mRetF, mRetN, mRetO, mIf, mSet, mSetO, mBk, mCt, mPre, mLock, mAsg, mFor, startE, resD, runQ, runF, qCall, fCall, arity, eQ, eF, eT, eNil, eCons, e1, e2, eTup, efLst, eLock, eIf, etV, eCall, efCall, enl, eNot, eAnd, eOr, resE, runE, runEF, mE, mSetE, mSetOE, mRetE, mRetFE, mIfE, mAsgE, oNone, oSome, gSl, qSl, fSl, gAll, gAny, qChain, gIn, pNil, pV, pL, mPar2, gCat, ef2, mAppE, mExtE, mPut, eNew, ePop, oPop, iE, iRngE, iSeqE, mForE, gRev, gRevL, iEnu, mHold, gTupR, nl, nlAll, ixN, PyData.isInt, PyData.isBool, PyData.isStr, PyData.isTuple, PyData.isList, PyData.isDict, EnN, e, c, c_GROUP]
theorem tRd_out {D acc : List Int} {place : Int} {p : Nat} (hp : D.length ≤ p) (hl : D.length ≤ 1000000) (h : Hs) : tRd (EnN D place acc p) h = some (.error (0, D.length)) := by
  have e := byte_at_out hp hl h
  simp [tRd, xV, x2, xCall, arity, qV, qVs, qC, q1, q2, qNl, qIf, aNil, aCons, dOf, dsOf, qTup, fLst, qF, gTru, tV, tAndF, tOrF, tNotF, qT, qAnd, qOr, qNot, gI, gI0, gB0, cMul, cDiv, cPow, gNeg, gAdd, eqI, neI, lstAt, ixAt, lenAt, oPut, newOb, gLen, gInt, gTuple, f1, f2, gList, gIsi, gIx, gIsN, gNoN, gIsB, iRng, iRngB, seqOf, iSeqN, iSeq, bName, bNil, bCons, bTup, wipeE, tTrue, mNx, mSeq, mRet, mRetF, mRetN, mRetO, mIf, mSet, mSetO, mBk, mCt, mPre, mLock, mAsg, mFor, startE, resD, runQ, runF, qCall, fCall, arity, eQ, eF, eT, eNil, eCons, e1, e2, eTup, efLst, eLock, eIf, etV, eCall, efCall, enl, eNot, eAnd, eOr, resE, runE, runEF, mE, mSetE, mSetOE, mRetE, mRetFE, mIfE, mAsgE, oNone, oSome, gSl, qSl, fSl, gAll, gAny, qChain, gIn, pNil, pV, pL, mPar2, gCat, ef2, mAppE, mExtE, mPut, eNew, ePop, oPop, iE, iRngE, iSeqE, mForE, gRev, gRevL, iEnu, mHold, gTupR, nl, nlAll, ixN, PyData.isInt, PyData.isBool, PyData.isStr, PyData.isTuple, PyData.isList, PyData.isDict, EnN, e]
theorem body_go {D acc : List Int} {place : Int} {p : Nat} {b : Int} (hb : D[p]? = some b) (ha : acc.length + 1 < 400) (h : Hs) : b_read_number_1 (EnN D place acc p) h = some (.nx, EnN D place (acc ++ [b - 128]) (p + 1), h) := by
  have e : atI (iL D) (p : Int) = some (.int b) := atN (by rw [List.getElem?_map, hb]; rfl)
  have hz : acc.length < sizeLine := by rw [sizeLine_eq]; omega
  have h1 : ¬ (400 : Int) ≤ (acc.length : Int) + 1 := by omega
  simp [b_read_number_1, qV, qVs, qC, q1, q2, qNl, qIf, aNil, aCons, dOf, dsOf, qTup, fLst, qF, gTru, tV, tAndF, tOrF, tNotF, qT, qAnd, qOr, qNot, gI, gI0, gB0, cMul, cDiv, cPow, gNeg, gAdd, eqI, neI, lstAt, ixAt, lenAt, oPut, newOb, gLen, gInt, gTuple, f1, f2, gList, gIsi, gIx, gIsN, gNoN, gIsB, iRng, iRngB, seqOf, iSeqN, iSeq, bName, bNil, bCons, bTup, wipeE, tTrue, mNx, mSeq, mRet, mRetF, mRetN, mRetO, mIf, mSet, mSetO, mBk, mCt, mPre, mLock, mAsg, mFor, startE, resD, runQ, runF, qCall, fCall, arity, eQ, eF, eT, eNil, eCons, e1, e2, eTup, efLst, eLock, eIf, etV, eCall, efCall, enl, eNot, eAnd, eOr, resE, runE, runEF, mE, mSetE, mSetOE, mRetE, mRetFE, mIfE, mAsgE, oNone, oSome, gSl, qSl, fSl, gAll, gAny, qChain, gIn, pNil, pV, pL, mPar2, gCat, ef2, mAppE, mExtE, mPut, eNew, ePop, oPop, iE, iRngE, iSeqE, mForE, gRev, gRevL, iEnu, mHold, gTupR, nl, nlAll, ixN, PyData.isInt, PyData.isBool, PyData.isStr, PyData.isTuple, PyData.isList, PyData.isDict, mAugI, mRaise, EnN, e, hz, h1, c_GROUP, c_MOST_GROUPS]
theorem body_long {D acc : List Int} {place : Int} {p : Nat} {b : Int} (hb : D[p]? = some b) (ha : 400 ≤ acc.length + 1) (hz : acc.length < 1000) (hp : place.natAbs.log2 < 1000) (h : Hs) : b_read_number_1 (EnN D place acc p) h = some (.ex 0 place, EnN D place (acc ++ [b - 128]) (p + 1), h) := by
  have e : atI (iL D) (p : Int) = some (.int b) := atN (by rw [List.getElem?_map, hb]; rfl)
  have hz : acc.length < sizeLine := by rw [sizeLine_eq]; omega
  have h1 : (400 : Int) ≤ (acc.length : Int) + 1 := by omega
  simp [b_read_number_1, qV, qVs, qC, q1, q2, qNl, qIf, aNil, aCons, dOf, dsOf, qTup, fLst, qF, gTru, tV, tAndF, tOrF, tNotF, qT, qAnd, qOr, qNot, gI, gI0, gB0, cMul, cDiv, cPow, gNeg, gAdd, eqI, neI, lstAt, ixAt, lenAt, oPut, newOb, gLen, gInt, gTuple, f1, f2, gList, gIsi, gIx, gIsN, gNoN, gIsB, iRng, iRngB, seqOf, iSeqN, iSeq, bName, bNil, bCons, bTup, wipeE, tTrue, mNx, mSeq, mRet, mRetF, mRetN, mRetO, mIf, mSet, mSetO, mBk, mCt, mPre, mLock, mAsg, mFor, startE, resD, runQ, runF, qCall, fCall, arity, eQ, eF, eT, eNil, eCons, e1, e2, eTup, efLst, eLock, eIf, etV, eCall, efCall, enl, eNot, eAnd, eOr, resE, runE, runEF, mE, mSetE, mSetOE, mRetE, mRetFE, mIfE, mAsgE, oNone, oSome, gSl, qSl, fSl, gAll, gAny, qChain, gIn, pNil, pV, pL, mPar2, gCat, ef2, mAppE, mExtE, mPut, eNew, ePop, oPop, iE, iRngE, iSeqE, mForE, gRev, gRevL, iEnu, mHold, gTupR, nl, nlAll, ixN, PyData.isInt, PyData.isBool, PyData.isStr, PyData.isTuple, PyData.isList, PyData.isDict, mAugI, mRaise, EnN, e, hz, h1, hp, c_GROUP, c_MOST_GROUPS]
/-- what the loop leaves -/
def ScP (D : List Int) (place : Int) (acc : List Int) (p : Nat) (h : Hs) (r : Option (Flo × En × Hs)) : Sc → Prop
  | .out => ∃ env, r = some (.ex 0 D.length, env, h)
  | .long => ∃ env, r = some (.ex 0 place, env, h)
  | .last ds _ n => r = some (.nx, EnN D place (acc ++ ds) (p + n), h)
theorem rdGo {D : List Int} {place : Int} (hl : D.length ≤ 1000000) (hp : place.natAbs.log2 < 1000) (h : Hs) : ∀ (r : List Int) (f p : Nat) (acc : List Int), D.drop p = r → acc.length < 400 → 400 < f + acc.length →
    ScP D place acc p h (whGoX [] tRd b_read_number_1 f (EnN D place acc p) h) (scn r acc.length) := by
  intro r
  induction r with
  | nil =>
    intro f p acc hd ha hf
    obtain ⟨f, rfl⟩ : ∃ g, f = g + 1 := ⟨f - 1, by omega⟩
    have hpl : D.length ≤ p := List.drop_eq_nil_iff.mp hd
    exact ⟨EnN D place acc p, by rw [whGoX, tRd_out hpl hl]; rfl⟩
  | cons b r ih =>
    intro f p acc hd ha hf
    obtain ⟨f, rfl⟩ : ∃ g, f = g + 1 := ⟨f - 1, by omega⟩
    have hb : D[p]? = some b := by
      have := congrArg (fun l : List Int => l[0]?) hd
      simpa using this
    have hr : D.drop (p + 1) = r := by
      have := congrArg List.tail hd
      simpa using this
    rw [whGoX, tRd_in hb, Option.bind_some]
    by_cases c : 128 ≤ b
    · by_cases c4 : 400 ≤ acc.length + 1
      · have e : scn (b :: r) acc.length = .long := by simp [scn, c, c4]
        rw [e]
        refine ⟨EnN D place (acc ++ [b - 128]) (p + 1), ?_⟩
        simp only [c, decide_true, if_true]
        rw [body_long hb c4 (by omega) hp]
        rfl
      · have e : scn (b :: r) acc.length = (scn r (acc.length + 1)).cons (b - 128) := by simp [scn, c, c4]
        rw [e]
        simp only [c, decide_true, if_true]
        rw [body_go hb (by omega)]
        have q := ih f (p + 1) (acc ++ [b - 128]) hr (by simp; omega) (by simp; omega)
        rw [List.length_append] at q
        show ScP D place acc p h (whGoX [] tRd b_read_number_1 f (wipeE (EnN D place (acc ++ [b - 128]) (p + 1)) []) h) _
        show ScP D place acc p h (whGoX [] tRd b_read_number_1 f (EnN D place (acc ++ [b - 128]) (p + 1)) h) _
        have e1 : ([b - 128] : List Int).length = 1 := rfl
        rw [e1] at q
        cases z : scn r (acc.length + 1) with
        | out => rw [z] at q; exact q
        | long => rw [z] at q; exact q
        | last ds b' n =>
          rw [z] at q
          show _ = some (Flo.nx, EnN D place (acc ++ ((b - 128) :: ds)) (p + (n + 1)), h)
          have q : _ = some (Flo.nx, EnN D place (acc ++ [b - 128] ++ ds) (p + 1 + n), h) := q
          rw [q, List.append_assoc, show p + 1 + n = p + (n + 1) by omega]
          rfl
    · have e : scn (b :: r) acc.length = .last [] b 0 := by simp [scn, c]
      rw [e]
      show _ = some (Flo.nx, EnN D place (acc ++ []) (p + 0), h)
      simp [c]
end K18

set_option Elab.async false
set_option linter.all false
set_option maxRecDepth 100000
set_option maxHeartbeats 1000000
namespace K18
open PySem L2 Evl Sm
theorem scn_last : ∀ {r : List Int} {c : Nat} {ds : List Int} {b : Int} {n : Nat}, scn r c = .last ds b n → r[n]? = some b ∧ b < 128 ∧ ds.length = n ∧ (n = 0 ∨ c + n < 400) ∧ ds = (r.take n).map (fun x => x - 128) ∧ ∀ x ∈ r.take n, 128 ≤ x
  | [], _, _, _, _, e => by cases e
  | x :: r, c, ds, b, n, e => by
    by_cases h1 : 128 ≤ x
    · by_cases h2 : 400 ≤ c + 1
      · simp [scn, h1, h2] at e
      · simp only [scn, h1, h2, if_true, if_false] at e
        cases z : scn r (c + 1) with
        | out => rw [z] at e; cases e
        | long => rw [z] at e; cases e
        | last ds' b' n' =>
          rw [z] at e
          cases e
          obtain ⟨i1, i2, i3, i4, i5, i6⟩ := scn_last z
          refine ⟨by simpa using i1, i2, by simp [i3], .inr (by omega), by simp [i5], fun y hy => ?_⟩
          rw [List.take_succ_cons] at hy
          rcases List.mem_cons.mp hy with rfl | hy
          · exact h1
          · exact i6 y hy
    · simp only [scn, h1, if_false] at e
      cases e
      exact ⟨rfl, by omega, rfl, .inl rfl, rfl, fun y hy => by simp at hy⟩
def valN (ds : List Int) (b : Int) : Int := ds.foldr (fun d a => a * 128 + d) b
theorem sumGo (D : List Int) (place : Int) (acc : List Int) (here : Nat) (h : Hs) : ∀ (ds : List Int) (v : Int), ∃ s, forGo [5] (fun d env h => (bName 5 d env).bind fun env1 => b_read_number_2 env1 h) (iL ds) [.v (.d (.tuple (iL D))), .v (.d (.int place)), .l (iL acc), .v (.d (.int here)), .v (.d (.int v)), .un] h = some (.nx, [.v (.d (.tuple (iL D))), .v (.d (.int place)), .l (iL acc), .v (.d (.int here)), .v (.d (.int (ds.foldl (fun a d => a * 128 + d) v))), s], h)
  | [], v => ⟨.un, rfl⟩
  | d :: ds, v => by
    obtain ⟨s, e⟩ := sumGo D place acc here h ds (v * 128 + d)
    refine ⟨s, ?_⟩
    refine for_nx (env1 := [.v (.d (.tuple (iL D))), .v (.d (.int place)), .l (iL acc), .v (.d (.int here)), .v (.d (.int (v * 128 + d))), .v (.d (.int d))]) (h1 := h) ?_ e
    simp [b_read_number_2, qV, qVs, qC, q1, q2, qNl, qIf, aNil, aCons, dOf, dsOf, qTup, fLst, qF, gTru, tV, tAndF, tOrF, tNotF, qT, qAnd, qOr, qNot, gI, gI0, gB0, cMul, cDiv, cPow, gNeg, gAdd, eqI, neI, lstAt, ixAt, lenAt, oPut, newOb, gLen, gInt, gTuple, f1, f2, gList, gIsi, gIx, gIsN, gNoN, gIsB, iRng, iRngB, seqOf, iSeqN, iSeq, bName, bNil, bCons, bTup, wipeE, tTrue, mNx, mSeq, mRet, mRetF, mRetN, mRetO, mIf, mSet, mSetO, mBk, mCt, mPre, mLock, mAsg, mFor, startE, resD, runQ, runF, qCall, fCall, arity, eQ, eF, eT, eNil, eCons, e1, e2, eTup, efLst, eLock, eIf, etV, eCall, efCall, enl, eNot, eAnd, eOr, resE, runE, runEF, mE, mSetE, mSetOE, mRetE, mRetFE, mIfE, mAsgE, oNone, oSome, gSl, qSl, fSl, gAll, gAny, qChain, gIn, pNil, pV, pL, mPar2, gCat, ef2, mAppE, mExtE, mPut, eNew, ePop, oPop, iE, iRngE, iSeqE, mForE, gRev, gRevL, iEnu, mHold, gTupR, nl, nlAll, ixN, PyData.isInt, PyData.isBool, PyData.isStr, PyData.isTuple, PyData.isList, PyData.isDict, gMulX, gMul, c_GROUP]
end K18

set_option Elab.async false
set_option linter.all false
set_option maxRecDepth 100000
set_option maxHeartbeats 1000000
namespace K18
open PySem L2 Evl Sm
def rdR (D : List Int) (p : Nat) : Sc → XR
  | .out => .error (0, D.length)
  | .long => .error (0, p)
  | .last ds b n => if b = 0 ∧ ds ≠ [] then .error (0, ((p + n : Nat) : Int)) else .ok (.d (.tuple [.int (valN ds b), .int ((p + n : Nat) + 1)]))
theorem read_number_ (D : List Int) (p : Nat) (hD : D.length ≤ 1000000) (hp : p ≤ 1000000) (h : Hs) : r_read_number [.d (.tuple (iL D)), .d (.int p)] h = some (rdR D p (scn (D.drop p) 0)) := by
  have lp : (p : Int).natAbs.log2 < 1000 := by show p.log2 < 1000; exact log_small hp
  have g := rdGo (place := p) hD lp h (D.drop p) 1000 p [] rfl (by decide) (by decide)
  have s2 : 2 ≤ sizeLine := by rw [sizeLine_eq]; omega
  show (m_read_number [.v (.d (.tuple (iL D))), .v (.d (.int p)), .un, .un, .un, .un] h).bind _ = _
  unfold m_read_number
  rw [seq_nx (env1 := EnN D p [] p) (h1 := h) (by simp [qV, qVs, qC, q1, q2, qNl, qIf, aNil, aCons, dOf, dsOf, qTup, fLst, qF, gTru, tV, tAndF, tOrF, tNotF, qT, qAnd, qOr, qNot, gI, gI0, gB0, cMul, cDiv, cPow, gNeg, gAdd, eqI, neI, lstAt, ixAt, lenAt, oPut, newOb, gLen, gInt, gTuple, f1, f2, gList, gIsi, gIx, gIsN, gNoN, gIsB, iRng, iRngB, seqOf, iSeqN, iSeq, bName, bNil, bCons, bTup, wipeE, tTrue, mNx, mSeq, mRet, mRetF, mRetN, mRetO, mIf, mSet, mSetO, mBk, mCt, mPre, mLock, mAsg, mFor, startE, resD, runQ, runF, qCall, fCall, arity, eQ, eF, eT, eNil, eCons, e1, e2, eTup, efLst, eLock, eIf, etV, eCall, efCall, enl, eNot, eAnd, eOr, resE, runE, runEF, mE, mSetE, mSetOE, mRetE, mRetFE, mIfE, mAsgE, oNone, oSome, gSl, qSl, fSl, gAll, gAny, qChain, gIn, pNil, pV, pL, mPar2, gCat, ef2, mAppE, mExtE, mPut, eNew, ePop, oPop, iE, iRngE, iSeqE, mForE, gRev, gRevL, iEnu, mHold, gTupR, nl, nlAll, ixN, PyData.isInt, PyData.isBool, PyData.isStr, PyData.isTuple, PyData.isList, PyData.isDict, EnN])]
  cases z : scn (D.drop p) 0 with
  | out =>
    have g : ScP D p [] p h _ (scn (D.drop p) 0) := g
    rw [z] at g
    obtain ⟨env, g⟩ := g
    unfold mSeq mWhileX
    show Option.bind (Option.bind (whGoX [] tRd b_read_number_1 1000 (EnN D p [] p) h) _) _ = _
    rw [g]
    rfl
  | long =>
    have g : ScP D p [] p h _ (scn (D.drop p) 0) := g
    rw [z] at g
    obtain ⟨env, g⟩ := g
    unfold mSeq mWhileX
    show Option.bind (Option.bind (whGoX [] tRd b_read_number_1 1000 (EnN D p [] p) h) _) _ = _
    rw [g]
    rfl
  | last ds b n =>
    have g : ScP D p [] p h _ (scn (D.drop p) 0) := g
    rw [z] at g
    obtain ⟨e1, e2, e3, e4, e5, e6⟩ := scn_last z
    have hb : D[p + n]? = some b := by rw [← e1, List.getElem?_drop]
    have hlt := (List.getElem?_eq_some_iff.mp hb).1
    have ea : atI (iL D) ((p + n : Nat) : Int) = some (.int b) := atN (by rw [List.getElem?_map, hb]; rfl)
    have lq : (((p + n : Nat) : Int)).natAbs.log2 < 1000 := by show (p + n).log2 < 1000; exact log_small (by omega)
    rw [seq_nx (env1 := EnN D p ds (p + n)) (h1 := h) (by exact g)]
    by_cases hc : b = 0 ∧ ds ≠ []
    · have hl : ¬ ds.length = 0 := fun z => hc.2 (List.length_eq_zero_iff.mp z)
      have hl2 : ¬ (ds.length : Int) = 0 := by omega
      have t : tAndF (tV (q2 gEq (q2 gIx (qV 0) (qV 3)) (qC (.d (.int 0))))) (tV (qV 2)) (EnN D p ds (p + n)) h = some true := by
        have ea' : atI (iL D) ((p : Int) + (n : Int)) = some (.int 0) := by rw [← hc.1]; exact_mod_cast ea
        simp [qV, qVs, qC, q1, q2, qNl, qIf, aNil, aCons, dOf, dsOf, qTup, fLst, qF, gTru, tV, tAndF, tOrF, tNotF, qT, qAnd, qOr, qNot, gI, gI0, gB0, cMul, cDiv, cPow, gNeg, gAdd, eqI, neI, lstAt, ixAt, lenAt, oPut, newOb, gLen, gInt, gTuple, f1, f2, gList, gIsi, gIx, gIsN, gNoN, gIsB, iRng, iRngB, seqOf, iSeqN, iSeq, bName, bNil, bCons, bTup, wipeE, tTrue, mNx, mSeq, mRet, mRetF, mRetN, mRetO, mIf, mSet, mSetO, mBk, mCt, mPre, mLock, mAsg, mFor, startE, resD, runQ, runF, qCall, fCall, arity, eQ, eF, eT, eNil, eCons, e1, e2, eTup, efLst, eLock, eIf, etV, eCall, efCall, enl, eNot, eAnd, eOr, resE, runE, runEF, mE, mSetE, mSetOE, mRetE, mRetFE, mIfE, mAsgE, oNone, oSome, gSl, qSl, fSl, gAll, gAny, qChain, gIn, pNil, pV, pL, mPar2, gCat, ef2, mAppE, mExtE, mPut, eNew, ePop, oPop, iE, iRngE, iSeqE, mForE, gRev, gRevL, iEnu, mHold, gTupR, nl, nlAll, ixN, PyData.isInt, PyData.isBool, PyData.isStr, PyData.isTuple, PyData.isList, PyData.isDict, EnN, ea', gTru, hc.2, hl]
      unfold mSeq mIf
      rw [t]
      have ra : mRaise 0 (qV 3) (EnN D p ds (p + n)) h = some (.ex 0 ((p + n : Nat) : Int), EnN D p ds (p + n), h) := by
        show (if _ then _ else _) = _
        rw [if_pos lq]
      rw [Option.bind_some, if_pos rfl, ra]
      exact congrArg some (if_pos hc).symm
    · have t : tAndF (tV (q2 gEq (q2 gIx (qV 0) (qV 3)) (qC (.d (.int 0))))) (tV (qV 2)) (EnN D p ds (p + n)) h = some false := by
        have ea' : atI (iL D) ((p : Int) + (n : Int)) = some (.int b) := by exact_mod_cast ea
        by_cases hb0 : b = 0
        · have hd : ds = [] := by
            cases ds with
            | nil => rfl
            | cons _ _ => exact absurd ⟨hb0, by simp⟩ hc
          subst hd
          simp [qV, qVs, qC, q1, q2, qNl, qIf, aNil, aCons, dOf, dsOf, qTup, fLst, qF, gTru, tV, tAndF, tOrF, tNotF, qT, qAnd, qOr, qNot, gI, gI0, gB0, cMul, cDiv, cPow, gNeg, gAdd, eqI, neI, lstAt, ixAt, lenAt, oPut, newOb, gLen, gInt, gTuple, f1, f2, gList, gIsi, gIx, gIsN, gNoN, gIsB, iRng, iRngB, seqOf, iSeqN, iSeq, bName, bNil, bCons, bTup, wipeE, tTrue, mNx, mSeq, mRet, mRetF, mRetN, mRetO, mIf, mSet, mSetO, mBk, mCt, mPre, mLock, mAsg, mFor, startE, resD, runQ, runF, qCall, fCall, arity, eQ, eF, eT, eNil, eCons, e1, e2, eTup, efLst, eLock, eIf, etV, eCall, efCall, enl, eNot, eAnd, eOr, resE, runE, runEF, mE, mSetE, mSetOE, mRetE, mRetFE, mIfE, mAsgE, oNone, oSome, gSl, qSl, fSl, gAll, gAny, qChain, gIn, pNil, pV, pL, mPar2, gCat, ef2, mAppE, mExtE, mPut, eNew, ePop, oPop, iE, iRngE, iSeqE, mForE, gRev, gRevL, iEnu, mHold, gTupR, nl, nlAll, ixN, PyData.isInt, PyData.isBool, PyData.isStr, PyData.isTuple, PyData.isList, PyData.isDict, EnN, ea', gTru, hb0]
        · simp [qV, qVs, qC, q1, q2, qNl, qIf, aNil, aCons, dOf, dsOf, qTup, fLst, qF, gTru, tV, tAndF, tOrF, tNotF, qT, qAnd, qOr, qNot, gI, gI0, gB0, cMul, cDiv, cPow, gNeg, gAdd, eqI, neI, lstAt, ixAt, lenAt, oPut, newOb, gLen, gInt, gTuple, f1, f2, gList, gIsi, gIx, gIsN, gNoN, gIsB, iRng, iRngB, seqOf, iSeqN, iSeq, bName, bNil, bCons, bTup, wipeE, tTrue, mNx, mSeq, mRet, mRetF, mRetN, mRetO, mIf, mSet, mSetO, mBk, mCt, mPre, mLock, mAsg, mFor, startE, resD, runQ, runF, qCall, fCall, arity, eQ, eF, eT, eNil, eCons, e1, e2, eTup, efLst, eLock, eIf, etV, eCall, efCall, enl, eNot, eAnd, eOr, resE, runE, runEF, mE, mSetE, mSetOE, mRetE, mRetFE, mIfE, mAsgE, oNone, oSome, gSl, qSl, fSl, gAll, gAny, qChain, gIn, pNil, pV, pL, mPar2, gCat, ef2, mAppE, mExtE, mPut, eNew, ePop, oPop, iE, iRngE, iSeqE, mForE, gRev, gRevL, iEnu, mHold, gTupR, nl, nlAll, ixN, PyData.isInt, PyData.isBool, PyData.isStr, PyData.isTuple, PyData.isList, PyData.isDict, EnN, ea', gTru, hb0]
      have na := nlAll_ints ds
      obtain ⟨s, fs⟩ := sumGo D p ds (p + n) h ds.reverse b
      rw [seq_nx (env1 := EnN D p ds (p + n)) (h1 := h) (if_f t rfl)]
      rw [seq_nx (env1 := (EnN D p ds (p + n)).set 4 (.v (.d (.int b)))) (h1 := h) (by
        have ea' : atI (iL D) ((p : Int) + (n : Int)) = some (.int b) := by exact_mod_cast ea
        simp [qV, qVs, qC, q1, q2, qNl, qIf, aNil, aCons, dOf, dsOf, qTup, fLst, qF, gTru, tV, tAndF, tOrF, tNotF, qT, qAnd, qOr, qNot, gI, gI0, gB0, cMul, cDiv, cPow, gNeg, gAdd, eqI, neI, lstAt, ixAt, lenAt, oPut, newOb, gLen, gInt, gTuple, f1, f2, gList, gIsi, gIx, gIsN, gNoN, gIsB, iRng, iRngB, seqOf, iSeqN, iSeq, bName, bNil, bCons, bTup, wipeE, tTrue, mNx, mSeq, mRet, mRetF, mRetN, mRetO, mIf, mSet, mSetO, mBk, mCt, mPre, mLock, mAsg, mFor, startE, resD, runQ, runF, qCall, fCall, arity, eQ, eF, eT, eNil, eCons, e1, e2, eTup, efLst, eLock, eIf, etV, eCall, efCall, enl, eNot, eAnd, eOr, resE, runE, runEF, mE, mSetE, mSetOE, mRetE, mRetFE, mIfE, mAsgE, oNone, oSome, gSl, qSl, fSl, gAll, gAny, qChain, gIn, pNil, pV, pL, mPar2, gCat, ef2, mAppE, mExtE, mPut, eNew, ePop, oPop, iE, iRngE, iSeqE, mForE, gRev, gRevL, iEnu, mHold, gTupR, nl, nlAll, ixN, PyData.isInt, PyData.isBool, PyData.isStr, PyData.isTuple, PyData.isList, PyData.isDict, EnN, ea', nl])]
      rw [seq_nx (env1 := [.v (.d (.tuple (iL D))), .v (.d (.int p)), .l (iL ds), .v (.d (.int ((p + n : Nat) : Int))), .v (.d (.int (ds.reverse.foldl (fun a d => a * 128 + d) b))), s]) (h1 := h) (by
        have hi : iSeqT (qF (f1 gRevL (qV 2))) ((EnN D p ds (p + n)).set 4 (.v (.d (.int b)))) h = some (iL ds.reverse) := by
          simp [iSeqT, qV, qVs, qC, q1, q2, qNl, qIf, aNil, aCons, dOf, dsOf, qTup, fLst, qF, gTru, tV, tAndF, tOrF, tNotF, qT, qAnd, qOr, qNot, gI, gI0, gB0, cMul, cDiv, cPow, gNeg, gAdd, eqI, neI, lstAt, ixAt, lenAt, oPut, newOb, gLen, gInt, gTuple, f1, f2, gList, gIsi, gIx, gIsN, gNoN, gIsB, iRng, iRngB, seqOf, iSeqN, iSeq, bName, bNil, bCons, bTup, wipeE, tTrue, mNx, mSeq, mRet, mRetF, mRetN, mRetO, mIf, mSet, mSetO, mBk, mCt, mPre, mLock, mAsg, mFor, startE, resD, runQ, runF, qCall, fCall, arity, eQ, eF, eT, eNil, eCons, e1, e2, eTup, efLst, eLock, eIf, etV, eCall, efCall, enl, eNot, eAnd, eOr, resE, runE, runEF, mE, mSetE, mSetOE, mRetE, mRetFE, mIfE, mAsgE, oNone, oSome, gSl, qSl, fSl, gAll, gAny, qChain, gIn, pNil, pV, pL, mPar2, gCat, ef2, mAppE, mExtE, mPut, eNew, ePop, oPop, iE, iRngE, iSeqE, mForE, gRev, gRevL, iEnu, mHold, gTupR, nl, nlAll, ixN, PyData.isInt, PyData.isBool, PyData.isStr, PyData.isTuple, PyData.isList, PyData.isDict, EnN, f1, gRevL, na]
        unfold mFor
        rw [hi]
        exact fs)]
      have ev : ds.reverse.foldl (fun a d => a * 128 + d) b = valN ds b := by rw [List.foldl_reverse]; rfl
      rw [ev]
      show _ = some (if b = 0 ∧ ds ≠ [] then _ else _)
      rw [if_neg hc]
      simp [qV, qVs, qC, q1, q2, qNl, qIf, aNil, aCons, dOf, dsOf, qTup, fLst, qF, gTru, tV, tAndF, tOrF, tNotF, qT, qAnd, qOr, qNot, gI, gI0, gB0, cMul, cDiv, cPow, gNeg, gAdd, eqI, neI, lstAt, ixAt, lenAt, oPut, newOb, gLen, gInt, gTuple, f1, f2, gList, gIsi, gIx, gIsN, gNoN, gIsB, iRng, iRngB, seqOf, iSeqN, iSeq, bName, bNil, bCons, bTup, wipeE, tTrue, mNx, mSeq, mRet, mRetF, mRetN, mRetO, mIf, mSet, mSetO, mBk, mCt, mPre, mLock, mAsg, mFor, startE, resD, runQ, runF, qCall, fCall, arity, eQ, eF, eT, eNil, eCons, e1, e2, eTup, efLst, eLock, eIf, etV, eCall, efCall, enl, eNot, eAnd, eOr, resE, runE, runEF, mE, mSetE, mSetOE, mRetE, mRetFE, mIfE, mAsgE, oNone, oSome, gSl, qSl, fSl, gAll, gAny, qChain, gIn, pNil, pV, pL, mPar2, gCat, ef2, mAppE, mExtE, mPut, eNew, ePop, oPop, iE, iRngE, iSeqE, mForE, gRev, gRevL, iEnu, mHold, gTupR, nl, nlAll, ixN, PyData.isInt, PyData.isBool, PyData.isStr, PyData.isTuple, PyData.isList, PyData.isDict, s2, resX, resD]
end K18

set_option Elab.async false
set_option linter.all false
set_option maxRecDepth 100000
set_option maxHeartbeats 1000000
namespace K18
open PySem L2 Evl Sm
/-! ### written, then read -/
theorem scn_nbs : ∀ (k n c : Nat) (tail : List Int), n < 128 ^ (k + 1) → c + k < 400 → ∃ ds b, scn (nbs k n ++ tail) c = .last ds b ((nbs k n).length - 1) ∧ valN ds b = n ∧ (b = 0 → ds = []) := by
  intro k
  induction k with
  | zero =>
    intro n c tail hn hc
    have h1 : ¬ (128 : Int) ≤ n := by omega
    exact ⟨[], n, by simp [nbs, scn, h1], rfl, fun _ => rfl⟩
  | succ k ih =>
    intro n c tail hn hc
    by_cases h0 : n < 128
    · have h1 : ¬ (128 : Int) ≤ n := by omega
      exact ⟨[], n, by simp [nbs, scn, h0, h1], rfl, fun _ => rfl⟩
    · obtain ⟨ds, b, e1, e2, e3⟩ := ih (n / 128) (c + 1) tail (by rw [Nat.div_lt_iff_lt_mul (by decide)]; rw [Nat.pow_succ] at hn; exact hn) (by omega)
      have hx : (128 : Int) ≤ 128 + ((n % 128 : Nat) : Int) := by omega
      have h4 : ¬ 400 ≤ c + 1 := by omega
      have hl : 1 ≤ (nbs k (n / 128)).length := by
        cases k with
        | zero => simp [nbs]
        | succ k => unfold nbs; split <;> simp
      refine ⟨((n % 128 : Nat) : Int) :: ds, b, ?_, ?_, fun hb => ?_⟩
      · have en : nbs (k + 1) n = (128 + ((n % 128 : Nat) : Int)) :: nbs k (n / 128) := by rw [nbs, if_neg h0]
        rw [en, List.cons_append, scn, if_pos hx, if_neg h4, e1]
        have w : (128 : Int) + ((n % 128 : Nat) : Int) - 128 = ((n % 128 : Nat) : Int) := by omega
        have w2 : (nbs k (n / 128)).length - 1 + 1 = ((128 + ((n % 128 : Nat) : Int)) :: nbs k (n / 128)).length - 1 := by
          rw [List.length_cons]; omega
        rw [w, Sc.cons, w2]
      · show valN ds b * 128 + ((n % 128 : Nat) : Int) = n
        rw [e2]
        omega
      · exfalso
        have hd := e3 hb
        subst hd
        have : valN [] b = b := rfl
        rw [this, hb] at e2
        omega
/-- a number is read back, at any place -/
theorem read_back (head tail : List Int) (k n : Nat) (hn : n < 128 ^ (k + 1)) (hk : k < 400) (hl : (head ++ nbs k n ++ tail).length ≤ 1000000) (h : Hs) :
    r_read_number [.d (.tuple (iL (head ++ nbs k n ++ tail))), .d (.int head.length)] h = some (.ok (.d (.tuple [.int n, .int ((head.length : Int) + (nbs k n).length)]))) := by
  obtain ⟨ds, b, e1, e2, e3⟩ := scn_nbs k n 0 tail hn (by omega)
  have hp : head.length ≤ 1000000 := by rw [List.append_assoc, List.length_append] at hl; omega
  rw [read_number_ _ _ hl hp]
  have hd : (head ++ nbs k n ++ tail).drop head.length = nbs k n ++ tail := by rw [List.append_assoc, List.drop_left]
  rw [hd, e1]
  have hc : ¬ (b = 0 ∧ ds ≠ []) := fun z => z.2 (e3 z.1)
  have hl1 : 1 ≤ (nbs k n).length := by
    cases k with
    | zero => simp [nbs]
    | succ k => unfold nbs; split <;> simp
  show some (if b = 0 ∧ ds ≠ [] then _ else _) = _
  rw [if_neg hc, e2]
  have w : ((head.length + ((nbs k n).length - 1) : Nat) : Int) + 1 = (head.length : Int) + (nbs k n).length := by omega
  rw [w]
end K18

set_option Elab.async false
set_option linter.all false
set_option maxRecDepth 100000
set_option maxHeartbeats 1000000
namespace K18
open PySem L2 Evl Sm
/-! ### read, then written: just these bytes -/
theorem nbs_scn : ∀ {r : List Int} {c : Nat} {ds : List Int} {b : Int} {n : Nat}, (∀ x ∈ r, 0 ≤ x ∧ x < 256) → scn r c = .last ds b n → (b = 0 → ds = []) → ∃ m : Nat, valN ds b = m ∧ (b ≠ 0 → 1 ≤ m) ∧ m < 128 ^ (n + 1) ∧ ∀ k, n ≤ k → nbs k m = r.take (n + 1)
  | [], _, _, _, _, _, e, _ => by cases e
  | x :: r, c, ds, b, n, hr, e, hb => by
    obtain ⟨x0, x1⟩ := hr x (by simp)
    by_cases h1 : 128 ≤ x
    · by_cases h2 : 400 ≤ c + 1
      · simp [scn, h1, h2] at e
      · simp only [scn, h1, h2, if_true, if_false] at e
        cases z : scn r (c + 1) with
        | out => rw [z] at e; cases e
        | long => rw [z] at e; cases e
        | last ds' b' n' =>
          rw [z] at e
          cases e
          have hb' : b ≠ 0 := fun q => by cases hb q
          obtain ⟨m, e1, e2, e3, e4⟩ := nbs_scn (fun y hy => hr y (by simp [hy])) z (fun q => absurd q hb')
          have m1 := e2 hb'
          obtain ⟨d, hd⟩ := Int.eq_ofNat_of_zero_le (show 0 ≤ x - 128 by omega)
          have d1 : d < 128 := by omega
          refine ⟨m * 128 + d, ?_, fun _ => by omega, ?_, fun k hk => ?_⟩
          · show valN ds' b * 128 + (x - 128) = _
            rw [e1, hd]
            simp
          · rw [Nat.pow_succ]
            omega
          · obtain ⟨k, rfl⟩ : ∃ j, k = j + 1 := ⟨k - 1, by omega⟩
            have q1 : (m * 128 + d) / 128 = m := by omega
            have q2 : (m * 128 + d) % 128 = d := by omega
            rw [nbs, if_neg (by omega), q1, q2, e4 k (by omega), List.take_succ_cons]
            have : (128 : Int) + (d : Int) = x := by omega
            rw [this]
    · simp only [scn, h1, if_false] at e
      cases e
      obtain ⟨m, rfl⟩ := Int.eq_ofNat_of_zero_le x0
      refine ⟨m, rfl, fun q => by omega, by omega, fun k _ => ?_⟩
      cases k with
      | zero => rfl
      | succ k => rw [nbs, if_pos (by omega)]; rfl
end K18

set_option Elab.async false
set_option linter.all false
set_option maxRecDepth 100000
set_option maxHeartbeats 1000000
namespace K18
open PySem L2 Evl Sm
/-! ### the law's own way to ask -/
def atD (x : XR) : PyData := match x with
  | .ok (.d d) => .tuple [d, .none]
  | .ok _ => .none
  | .error (_, n) => .tuple [.none, .int n]
theorem law_number_at_ (D : List Int) (p : Nat) (hD : D.length ≤ 1000000) (hp : p ≤ 1000000) (h : Hs) : r__law_number_at [.d (.tuple (iL D)), .d (.int p)] h = some (.d (atD (rdR D p (scn (D.drop p) 0)))) := by
  have e := read_number_ D p hD hp h
  have s2 : 2 ≤ sizeLine := by rw [sizeLine_eq]; omega
  generalize scn (D.drop p) 0 = z at e
  cases z with
  | out => 
    have e : r_read_number [.d (.tuple (iL D)), .d (.int p)] h = some (.error (0, D.length)) := e
    simp [r__law_number_at, m__law_number_at, qV, qVs, qC, q1, q2, qNl, qIf, aNil, aCons, dOf, dsOf, qTup, fLst, qF, gTru, tV, tAndF, tOrF, tNotF, qT, qAnd, qOr, qNot, gI, gI0, gB0, cMul, cDiv, cPow, gNeg, gAdd, eqI, neI, lstAt, ixAt, lenAt, oPut, newOb, gLen, gInt, gTuple, f1, f2, gList, gIsi, gIx, gIsN, gNoN, gIsB, iRng, iRngB, seqOf, iSeqN, iSeq, bName, bNil, bCons, bTup, wipeE, tTrue, mNx, mSeq, mRet, mRetF, mRetN, mRetO, mIf, mSet, mSetO, mBk, mCt, mPre, mLock, mAsg, mFor, startE, resD, runQ, runF, qCall, fCall, arity, eQ, eF, eT, eNil, eCons, e1, e2, eTup, efLst, eLock, eIf, etV, eCall, efCall, enl, eNot, eAnd, eOr, resE, runE, runEF, mE, mSetE, mSetOE, mRetE, mRetFE, mIfE, mAsgE, oNone, oSome, gSl, qSl, fSl, gAll, gAny, qChain, gIn, pNil, pV, pL, mPar2, gCat, ef2, mAppE, mExtE, mPut, eNew, ePop, oPop, iE, iRngE, iSeqE, mForE, gRev, gRevL, iEnu, mHold, gTupR, nl, nlAll, ixN, PyData.isInt, PyData.isBool, PyData.isStr, PyData.isTuple, PyData.isList, PyData.isDict, mTryA, mSetX, xNl, xCall, e, s2, rdR, atD]
  | long =>
    have e : r_read_number [.d (.tuple (iL D)), .d (.int p)] h = some (.error (0, p)) := e
    simp [r__law_number_at, m__law_number_at, qV, qVs, qC, q1, q2, qNl, qIf, aNil, aCons, dOf, dsOf, qTup, fLst, qF, gTru, tV, tAndF, tOrF, tNotF, qT, qAnd, qOr, qNot, gI, gI0, gB0, cMul, cDiv, cPow, gNeg, gAdd, eqI, neI, lstAt, ixAt, lenAt, oPut, newOb, gLen, gInt, gTuple, f1, f2, gList, gIsi, gIx, gIsN, gNoN, gIsB, iRng, iRngB, seqOf, iSeqN, iSeq, bName, bNil, bCons, bTup, wipeE, tTrue, mNx, mSeq, mRet, mRetF, mRetN, mRetO, mIf, mSet, mSetO, mBk, mCt, mPre, mLock, mAsg, mFor, startE, resD, runQ, runF, qCall, fCall, arity, eQ, eF, eT, eNil, eCons, e1, e2, eTup, efLst, eLock, eIf, etV, eCall, efCall, enl, eNot, eAnd, eOr, resE, runE, runEF, mE, mSetE, mSetOE, mRetE, mRetFE, mIfE, mAsgE, oNone, oSome, gSl, qSl, fSl, gAll, gAny, qChain, gIn, pNil, pV, pL, mPar2, gCat, ef2, mAppE, mExtE, mPut, eNew, ePop, oPop, iE, iRngE, iSeqE, mForE, gRev, gRevL, iEnu, mHold, gTupR, nl, nlAll, ixN, PyData.isInt, PyData.isBool, PyData.isStr, PyData.isTuple, PyData.isList, PyData.isDict, mTryA, mSetX, xNl, xCall, e, s2, rdR, atD]
  | last ds b n =>
    by_cases hc : b = 0 ∧ ds ≠ []
    · have e : r_read_number [.d (.tuple (iL D)), .d (.int p)] h = some (.error (0, ((p + n : Nat) : Int))) := by rw [e]; exact congrArg some (if_pos hc)
      have e2 : rdR D p (.last ds b n) = .error (0, ((p + n : Nat) : Int)) := if_pos hc
      rw [e2]
      simp [r__law_number_at, m__law_number_at, qV, qVs, qC, q1, q2, qNl, qIf, aNil, aCons, dOf, dsOf, qTup, fLst, qF, gTru, tV, tAndF, tOrF, tNotF, qT, qAnd, qOr, qNot, gI, gI0, gB0, cMul, cDiv, cPow, gNeg, gAdd, eqI, neI, lstAt, ixAt, lenAt, oPut, newOb, gLen, gInt, gTuple, f1, f2, gList, gIsi, gIx, gIsN, gNoN, gIsB, iRng, iRngB, seqOf, iSeqN, iSeq, bName, bNil, bCons, bTup, wipeE, tTrue, mNx, mSeq, mRet, mRetF, mRetN, mRetO, mIf, mSet, mSetO, mBk, mCt, mPre, mLock, mAsg, mFor, startE, resD, runQ, runF, qCall, fCall, arity, eQ, eF, eT, eNil, eCons, e1, e2, eTup, efLst, eLock, eIf, etV, eCall, efCall, enl, eNot, eAnd, eOr, resE, runE, runEF, mE, mSetE, mSetOE, mRetE, mRetFE, mIfE, mAsgE, oNone, oSome, gSl, qSl, fSl, gAll, gAny, qChain, gIn, pNil, pV, pL, mPar2, gCat, ef2, mAppE, mExtE, mPut, eNew, ePop, oPop, iE, iRngE, iSeqE, mForE, gRev, gRevL, iEnu, mHold, gTupR, nl, nlAll, ixN, PyData.isInt, PyData.isBool, PyData.isStr, PyData.isTuple, PyData.isList, PyData.isDict, mTryA, mSetX, xNl, xCall, e, s2, atD]
    · have e : r_read_number [.d (.tuple (iL D)), .d (.int p)] h = some (.ok (.d (.tuple [.int (valN ds b), .int ((p + n : Nat) + 1)]))) := by rw [e]; exact congrArg some (if_neg hc)
      have e2 : rdR D p (.last ds b n) = .ok (.d (.tuple [.int (valN ds b), .int ((p + n : Nat) + 1)])) := if_neg hc
      rw [e2]
      simp [r__law_number_at, m__law_number_at, qV, qVs, qC, q1, q2, qNl, qIf, aNil, aCons, dOf, dsOf, qTup, fLst, qF, gTru, tV, tAndF, tOrF, tNotF, qT, qAnd, qOr, qNot, gI, gI0, gB0, cMul, cDiv, cPow, gNeg, gAdd, eqI, neI, lstAt, ixAt, lenAt, oPut, newOb, gLen, gInt, gTuple, f1, f2, gList, gIsi, gIx, gIsN, gNoN, gIsB, iRng, iRngB, seqOf, iSeqN, iSeq, bName, bNil, bCons, bTup, wipeE, tTrue, mNx, mSeq, mRet, mRetF, mRetN, mRetO, mIf, mSet, mSetO, mBk, mCt, mPre, mLock, mAsg, mFor, startE, resD, runQ, runF, qCall, fCall, arity, eQ, eF, eT, eNil, eCons, e1, e2, eTup, efLst, eLock, eIf, etV, eCall, efCall, enl, eNot, eAnd, eOr, resE, runE, runEF, mE, mSetE, mSetOE, mRetE, mRetFE, mIfE, mAsgE, oNone, oSome, gSl, qSl, fSl, gAll, gAny, qChain, gIn, pNil, pV, pL, mPar2, gCat, ef2, mAppE, mExtE, mPut, eNew, ePop, oPop, iE, iRngE, iSeqE, mForE, gRev, gRevL, iEnu, mHold, gTupR, nl, nlAll, ixN, PyData.isInt, PyData.isBool, PyData.isStr, PyData.isTuple, PyData.isList, PyData.isDict, mTryA, mSetX, xNl, xCall, e, s2, atD]
end K18

set_option Elab.async false
set_option linter.all false
set_option maxRecDepth 100000
set_option maxHeartbeats 1000000
namespace K18
open PySem L2 Evl Sm
/-! ### checks -/
def ck (a : Int) (D : List Int) : Int := D.foldl (fun a b => (a * 1000003 + b + 1) % 4294967291) a
theorem ckGo (D : List Int) (h : Hs) : ∀ (r : List Int) (a : Int), ∃ s, forGo [2] (fun d env h => (bName 2 d env).bind fun env1 => b_check_of_1 env1 h) (iL r) [.v (.d (.tuple (iL D))), .v (.d (.int a)), .un] h = some (.nx, [.v (.d (.tuple (iL D))), .v (.d (.int (ck a r))), s], h)
  | [], a => ⟨.un, rfl⟩
  | b :: r, a => by
    obtain ⟨s, e⟩ := ckGo D h r ((a * 1000003 + b + 1) % 4294967291)
    refine ⟨s, for_nx (env1 := [.v (.d (.tuple (iL D))), .v (.d (.int ((a * 1000003 + b + 1) % 4294967291))), .v (.d (.int b))]) (h1 := h) ?_ e⟩
    simp [b_check_of_1, qV, qVs, qC, q1, q2, qNl, qIf, aNil, aCons, dOf, dsOf, qTup, fLst, qF, gTru, tV, tAndF, tOrF, tNotF, qT, qAnd, qOr, qNot, gI, gI0, gB0, cMul, cDiv, cPow, gNeg, gAdd, eqI, neI, lstAt, ixAt, lenAt, oPut, newOb, gLen, gInt, gTuple, f1, f2, gList, gIsi, gIx, gIsN, gNoN, gIsB, iRng, iRngB, seqOf, iSeqN, iSeq, bName, bNil, bCons, bTup, wipeE, tTrue, mNx, mSeq, mRet, mRetF, mRetN, mRetO, mIf, mSet, mSetO, mBk, mCt, mPre, mLock, mAsg, mFor, startE, resD, runQ, runF, qCall, fCall, arity, eQ, eF, eT, eNil, eCons, e1, e2, eTup, efLst, eLock, eIf, etV, eCall, efCall, enl, eNot, eAnd, eOr, resE, runE, runEF, mE, mSetE, mSetOE, mRetE, mRetFE, mIfE, mAsgE, oNone, oSome, gSl, qSl, fSl, gAll, gAny, qChain, gIn, pNil, pV, pL, mPar2, gCat, ef2, mAppE, mExtE, mPut, eNew, ePop, oPop, iE, iRngE, iSeqE, mForE, gRev, gRevL, iEnu, mHold, gTupR, nl, nlAll, ixN, PyData.isInt, PyData.isBool, PyData.isStr, PyData.isTuple, PyData.isList, PyData.isDict, gMulX, gMul, c_STEP, c_ROUND]
theorem lckGo (D : List Int) (h : Hs) : ∀ (r : List Int) (a : Int), ∃ s, forGo [2] (fun d env h => (bName 2 d env).bind fun env1 => b__law_check_1 env1 h) (iL r) [.v (.d (.tuple (iL D))), .v (.d (.int a)), .un] h = some (.nx, [.v (.d (.tuple (iL D))), .v (.d (.int (ck a r))), s], h)
  | [], a => ⟨.un, rfl⟩
  | b :: r, a => by
    obtain ⟨s, e⟩ := lckGo D h r ((a * 1000003 + b + 1) % 4294967291)
    refine ⟨s, for_nx (env1 := [.v (.d (.tuple (iL D))), .v (.d (.int ((a * 1000003 + b + 1) % 4294967291))), .v (.d (.int b))]) (h1 := h) ?_ e⟩
    have l1 : (4294967291 : Nat).log2 < 9000 := by decide
    have w : (1000003 * a + b + 1) - (1000003 * a + b + 1) / 4294967291 * 4294967291 = (a * 1000003 + b + 1) % 4294967291 := by omega
    simp [b__law_check_1, qV, qVs, qC, q1, q2, qNl, qIf, aNil, aCons, dOf, dsOf, qTup, fLst, qF, gTru, tV, tAndF, tOrF, tNotF, qT, qAnd, qOr, qNot, gI, gI0, gB0, cMul, cDiv, cPow, gNeg, gAdd, eqI, neI, lstAt, ixAt, lenAt, oPut, newOb, gLen, gInt, gTuple, f1, f2, gList, gIsi, gIx, gIsN, gNoN, gIsB, iRng, iRngB, seqOf, iSeqN, iSeq, bName, bNil, bCons, bTup, wipeE, tTrue, mNx, mSeq, mRet, mRetF, mRetN, mRetO, mIf, mSet, mSetO, mBk, mCt, mPre, mLock, mAsg, mFor, startE, resD, runQ, runF, qCall, fCall, arity, eQ, eF, eT, eNil, eCons, e1, e2, eTup, efLst, eLock, eIf, etV, eCall, efCall, enl, eNot, eAnd, eOr, resE, runE, runEF, mE, mSetE, mSetOE, mRetE, mRetFE, mIfE, mAsgE, oNone, oSome, gSl, qSl, fSl, gAll, gAny, qChain, gIn, pNil, pV, pL, mPar2, gCat, ef2, mAppE, mExtE, mPut, eNew, ePop, oPop, iE, iRngE, iSeqE, mForE, gRev, gRevL, iEnu, mHold, gTupR, nl, nlAll, ixN, PyData.isInt, PyData.isBool, PyData.isStr, PyData.isTuple, PyData.isList, PyData.isDict, gMulX, gMul, l1, w]
theorem check_of_ (D : List Int) (h : Hs) : r_check_of [.d (.tuple (iL D))] h = some (.d (.int (ck 1 D))) := by
  obtain ⟨s, e⟩ := ckGo D h D 1
  have n1 := nlAll_ints D
  have hf : mFor (iSeqT (qVs 0)) [2] (bName 2) b_check_of_1 [.v (.d (.tuple (iL D))), .v (.d (.int 1)), .un] h = some (.nx, [.v (.d (.tuple (iL D))), .v (.d (.int (ck 1 D))), s], h) := e
  simp [r_check_of, m_check_of, runQ, startE, mSeq, mSet, qC, hf, mRet, qV, resD]
theorem law_check_ (D : List Int) (h : Hs) : r__law_check [.d (.tuple (iL D))] h = some (.d (.int (ck 1 D))) := by
  obtain ⟨s, e⟩ := lckGo D h D 1
  have hf : mFor (iSeqT (qVs 0)) [2] (bName 2) b__law_check_1 [.v (.d (.tuple (iL D))), .v (.d (.int 1)), .un] h = some (.nx, [.v (.d (.tuple (iL D))), .v (.d (.int (ck 1 D))), s], h) := e
  simp [r__law_check, m__law_check, runQ, startE, mSeq, mSet, qC, hf, mRet, qV, resD]
end K18

set_option Elab.async false
set_option linter.all false
set_option maxRecDepth 100000
set_option maxHeartbeats 1000000
namespace K18
open PySem L2 Evl Sm
/-! ### a changed byte changes the check -/
theorem ck_step {x y b : Int} (x0 : 0 ≤ x) (x1 : x < 4294967291) (y0 : 0 ≤ y) (y1 : y < 4294967291) (h : x ≠ y) : (x * 1000003 + b + 1) % 4294967291 ≠ (y * 1000003 + b + 1) % 4294967291 := by
  omega
theorem ck_ne : ∀ (r : List Int) (x y : Int), 0 ≤ x → x < 4294967291 → 0 ≤ y → y < 4294967291 → x ≠ y → ck x r ≠ ck y r
  | [], x, y, _, _, _, _, h => h
  | b :: r, x, y, x0, x1, y0, y1, h => by
    show ck ((x * 1000003 + b + 1) % 4294967291) r ≠ ck ((y * 1000003 + b + 1) % 4294967291) r
    exact ck_ne r _ _ (by omega) (by omega) (by omega) (by omega) (ck_step x0 x1 y0 y1 h)
theorem ck_app (a : Int) (xs ys : List Int) : ck a (xs ++ ys) = ck (ck a xs) ys := List.foldl_append ..
theorem ck_change (pre post : List Int) {b c : Int} (h0 : 0 ≤ b) (h1 : b < 256) (h2 : 0 ≤ c) (h3 : c < 256) (h : b ≠ c) : ck 1 (pre ++ b :: post) ≠ ck 1 (pre ++ c :: post) := by
  rw [ck_app, ck_app]
  show ck ((ck 1 pre * 1000003 + b + 1) % 4294967291) post ≠ ck ((ck 1 pre * 1000003 + c + 1) % 4294967291) post
  exact ck_ne post _ _ (by omega) (by omega) (by omega) (by omega) (by omega)
/-! ### numbers, once more -/
theorem nbs_mono : ∀ (k j n : Nat), n < 128 ^ (k + 1) → nbs (k + j) n = nbs k n
  | 0, 0, n, _ => rfl
  | 0, j + 1, n, h => by
    have : n < 128 := by simpa using h
    rw [Nat.zero_add]
    show (if n < 128 then _ else _) = [(n : Int)]
    rw [if_pos this]
  | k + 1, j, n, h => by
    rw [show k + 1 + j = (k + j) + 1 by omega, nbs, nbs]
    by_cases c : n < 128
    · rw [if_pos c, if_pos c]
    · rw [if_neg c, if_neg c, nbs_mono k j (n / 128) (by rw [Nat.div_lt_iff_lt_mul (by decide)]; rw [Nat.pow_succ] at h; exact h)]
def nb (n : Nat) : List Int := nbs 399 n
theorem nb_of {k n : Nat} (hk : k ≤ 399) (h : n < 128 ^ (k + 1)) : nb n = nbs k n := by
  have := nbs_mono k (399 - k) n h
  rw [show k + (399 - k) = 399 by omega] at this
  exact this
theorem nb_len (n : Nat) : (nb n).length ≤ 400 := nbs_len 399 n
theorem nb_len1 (n : Nat) : 1 ≤ (nb n).length := by
  show 1 ≤ (nbs (398 + 1) n).length
  unfold nbs
  split <;> simp
theorem number_nb {n : Nat} (hn : n < 128 ^ 400) (h : Hs) : r_number_bytes [.d (.int n)] h = some (iL (nb n)) := number_bytes_ 399 (by decide) n hn h
theorem law_number_nb {n : Nat} (hn : n < 128 ^ 400) (h : Hs) : r__law_number [.d (.int n)] h = some (iL (nb n)) := law_number_ 399 (by decide) n hn h
/-- a number, read off some bytes: what it is, how many bytes -/
def rdn (r : List Int) : Option (Nat × Nat) := match scn r 0 with
  | .last ds b n => if b = 0 ∧ ds ≠ [] then none else some ((valN ds b).toNat, n + 1)
  | _ => none
def Byt (D : List Int) : Prop := ∀ x ∈ D, 0 ≤ x ∧ x < 256
theorem Byt.drop {D : List Int} (h : Byt D) (n : Nat) : Byt (D.drop n) := fun x hx => h x (List.mem_of_mem_drop hx)
theorem Byt.take {D : List Int} (h : Byt D) (n : Nat) : Byt (D.take n) := fun x hx => h x (List.mem_of_mem_take hx)
theorem Byt.app {D E : List Int} (h : Byt D) (h2 : Byt E) : Byt (D ++ E) := fun x hx => (List.mem_append.mp hx).elim (h x) (h2 x)
theorem nbs_byt : ∀ k n, n < 128 ^ (k + 1) → Byt (nbs k n)
  | 0, n, h, x, hx => by
    have : n < 128 := by simpa using h
    simp only [nbs, List.mem_singleton] at hx
    omega
  | k + 1, n, h, x, hx => by
    unfold nbs at hx
    split at hx
    · simp only [List.mem_singleton] at hx
      omega
    · rcases List.mem_cons.mp hx with rfl | hx
      · omega
      · exact nbs_byt k (n / 128) (by rw [Nat.div_lt_iff_lt_mul (by decide)]; rw [Nat.pow_succ] at h; exact h) x hx
theorem nb_byt {n : Nat} (h : n < 128 ^ 400) : Byt (nb n) := nbs_byt 399 n h
theorem scn_n : ∀ {r : List Int} {c : Nat} {ds : List Int} {b : Int} {n : Nat}, scn r c = .last ds b n → n < r.length ∧ (c < 400 → c + n < 400)
  | [], _, _, _, _, e => by cases e
  | x :: r, c, ds, b, n, e => by
    by_cases h1 : 128 ≤ x
    · by_cases h2 : 400 ≤ c + 1
      · simp [scn, h1, h2] at e
      · simp only [scn, h1, h2, if_true, if_false] at e
        cases z : scn r (c + 1) with
        | out => rw [z] at e; cases e
        | long => rw [z] at e; cases e
        | last ds' b' n' =>
          rw [z] at e
          cases e
          have := scn_n z
          rw [List.length_cons]
          omega
    · simp only [scn, h1, if_false] at e
      cases e
      rw [List.length_cons]
      omega
theorem rdn_bytes {r : List Int} {m n : Nat} (hr : Byt r) (e : rdn r = some (m, n)) : nb m = r.take n ∧ 1 ≤ n ∧ n ≤ r.length ∧ n ≤ 400 ∧ m < 128 ^ n := by
  unfold rdn at e
  cases z : scn r 0 with
  | out => rw [z] at e; cases e
  | long => rw [z] at e; cases e
  | last ds b k =>
    rw [z] at e
    by_cases c : b = 0 ∧ ds ≠ []
    · simp [c] at e
    · simp only [c, if_false] at e
      cases e
      obtain ⟨m', e1, e2, e3, e4⟩ := nbs_scn hr z (fun hb => by
        cases ds with
        | nil => rfl
        | cons _ _ => exact absurd ⟨hb, by simp⟩ c)
      obtain ⟨l1, l2⟩ := scn_n z
      have l2 := l2 (by decide)
      rw [e1]
      refine ⟨?_, by omega, by omega, by omega, by simpa using e3⟩
      have := e4 399 (by omega)
      rw [Int.toNat_natCast]
      exact this
theorem rdn_nb {n : Nat} (hn : n < 128 ^ 400) (tail : List Int) : rdn (nb n ++ tail) = some (n, (nb n).length) := by
  obtain ⟨ds, b, e1, e2, e3⟩ := scn_nbs 399 n 0 tail hn (by omega)
  unfold rdn nb
  rw [e1]
  have c : ¬ (b = 0 ∧ ds ≠ []) := fun z => z.2 (e3 z.1)
  simp only [c, if_false]
  have := nb_len1 n
  unfold nb at this
  rw [e2]
  simp
  omega
/-- the reader of numbers, told by rdn -/
theorem read_num (D : List Int) (p : Nat) (hB : Byt D) (hD : D.length ≤ 1000000) (hp : p ≤ D.length) (h : Hs) :
    (∃ m n, rdn (D.drop p) = some (m, n) ∧ r_read_number [.d (.tuple (iL D)), .d (.int p)] h = some (.ok (.d (.tuple [.int m, .int ((p + n : Nat) : Int)])))) ∨
    (rdn (D.drop p) = none ∧ ∃ e : Int, r_read_number [.d (.tuple (iL D)), .d (.int p)] h = some (.error (0, e)) ∧ 0 ≤ e ∧ e ≤ D.length) := by
  rw [read_number_ D p hD (by omega) h]
  unfold rdn
  cases z : scn (D.drop p) 0 with
  | out => exact .inr ⟨rfl, _, rfl, by omega, by omega⟩
  | long => exact .inr ⟨rfl, _, rfl, by omega, by omega⟩
  | last ds b k =>
    have l1 := (scn_n z).1
    rw [List.length_drop] at l1
    by_cases c : b = 0 ∧ ds ≠ []
    · refine .inr ⟨by simp [c], ((p + k : Nat) : Int), ?_, by omega, by omega⟩
      exact congrArg some (if_pos c)
    · refine .inl ⟨(valN ds b).toNat, k + 1, by simp [c], ?_⟩
      obtain ⟨m', e1, e2, e3, e4⟩ := nbs_scn (hB.drop p) z (fun hb => by
        cases ds with
        | nil => rfl
        | cons _ _ => exact absurd ⟨hb, by simp⟩ c)
      have e : rdR D p (.last ds b k) = .ok (.d (.tuple [.int (valN ds b), .int ((p + k : Nat) + 1)])) := if_neg c
      rw [e, e1]
      rfl
end K18

set_option Elab.async false
set_option linter.all false
set_option maxRecDepth 100000
set_option maxHeartbeats 1000000
namespace K18
open PySem L2 Evl Sm
/-! ### texts: by the places of their signs -/
def sgn : List Nat := ("abcdefghijklmnopqrstuvwxyz0123456789-" : Str).cps.toList
def sgc (i : Nat) : Nat := sgn.getD i 0
def tx (is : List Nat) : Str := ⟨(is.map sgc).toArray⟩
def Sg (is : List Nat) : Prop := ∀ i ∈ is, i < 37
theorem tx_len (is : List Nat) : (tx is).length = is.length := by simp [tx, Str.length]
theorem tx_sz (is : List Nat) : (tx is).cps.size = is.length := by simp [tx]
theorem tx_list (is : List Nat) : (tx is).cps.toList = is.map sgc := by simp [tx]
theorem six_all : ((List.range 37).all fun i => decide (Builtin.Str.occurrences "abcdefghijklmnopqrstuvwxyz0123456789-" ⟨#[sgc i]⟩ 0 37 1 = [i])) = true := by decide +kernel
theorem sgn_len : ("abcdefghijklmnopqrstuvwxyz0123456789-" : Str).length = 37 := by decide +kernel
theorem six_ {i : Nat} (hi : i < 37) (h : Hs) : gSIx h (.d (.str "abcdefghijklmnopqrstuvwxyz0123456789-")) (.d (.str ⟨#[sgc i]⟩)) = some (.d (.int i)) := by
  have := of_decide_eq_true (List.all_eq_true.mp six_all i (List.mem_range.mpr hi))
  unfold gSIx
  simp only [sgn_len, this]
abbrev iN (is : List Nat) : List Int := is.map fun i : Nat => (i : Int)
theorem ofN (is : List Nat) : (is.map fun i : Nat => PyData.int (i : Int)) = iL (iN is) := by simp
theorem iN_len (is : List Nat) : (iN is).length = is.length := by simp
theorem signs_tx (is : List Nat) : signs (tx is) = is.map fun i => PyData.str ⟨#[sgc i]⟩ := by
  unfold signs
  rw [tx_list, List.map_map]
  rfl
theorem sq_signs {q : Q1} {is : List Nat} {env : En} {h : Hs} (e : q env h = some (.d (.str (tx is)))) : iSeqX q env h = some (is.map fun i => PyData.str ⟨#[sgc i]⟩) := by
  unfold iSeqX
  rw [e, Option.bind_some]
  exact congrArg some (signs_tx is)
theorem text_bytes_ (is : List Nat) (hs : Sg is) (hl : is.length ≤ 1000) (h : Hs) : r_text_bytes [.d (.str (tx is))] h = some (iL (nb is.length ++ iN is)) := by
  have e1 := number_nb (n := is.length) (Nat.lt_of_le_of_lt hl (Nat.lt_of_lt_of_le (by decide : 1000 < 128 ^ 2) (Nat.pow_le_pow_right (by decide) (by decide)))) h
  have ez : is.length ≤ sizeLine := by rw [sizeLine_eq]; omega
  have e2 : fLc (iSeqX (qV 0)) [1] (bName 1) tTrue (q2 gSIx (qC (.d c_SIGNS)) (qV 1)) [.v (.d (.str (tx is))), .un] h = some (is.map fun i : Nat => PyData.int i) :=
    fLc_map (f := fun i => PyData.str ⟨#[sgc i]⟩) (sq_signs rfl) (fun i hi => step_of (env1 := [.v (.d (.str (tx is))), .v (.d (.str ⟨#[sgc i]⟩))]) rfl rfl (six_ (hs i hi) h)) ez
  have hb := nb_len is.length
  have n1 := nlAll_ints (nb is.length)
  have n2 := nlAll_ints (iN is)
  have hz : (nb is.length).length + (iN is).length ≤ sizeLine := by rw [sizeLine_eq, iN_len]; omega
  rw [ofN] at e2
  have tl := tx_len is
  generalize nb is.length = bs at e1 n1 hz ⊢
  generalize iN is = js at e2 n2 hz ⊢
  simp [r_text_bytes, m_text_bytes, qV, qVs, qC, q1, q2, qNl, qIf, aNil, aCons, dOf, dsOf, qTup, fLst, qF, gTru, tV, tAndF, tOrF, tNotF, qT, qAnd, qOr, qNot, gI, gI0, gB0, cMul, cDiv, cPow, gNeg, gAdd, eqI, neI, lstAt, ixAt, lenAt, oPut, newOb, gLen, gInt, gTuple, f1, f2, gList, gIsi, gIx, gIsN, gNoN, gIsB, iRng, iRngB, seqOf, iSeqN, iSeq, bName, bNil, bCons, bTup, wipeE, tTrue, mNx, mSeq, mRet, mRetF, mRetN, mRetO, mIf, mSet, mSetO, mBk, mCt, mPre, mLock, mAsg, mFor, startE, resD, runQ, runF, qCall, fCall, arity, eQ, eF, eT, eNil, eCons, e1, e2, eTup, efLst, eLock, eIf, etV, eCall, efCall, enl, eNot, eAnd, eOr, resE, runE, runEF, mE, mSetE, mSetOE, mRetE, mRetFE, mIfE, mAsgE, oNone, oSome, gSl, qSl, fSl, gAll, gAny, qChain, gIn, pNil, pV, pL, mPar2, gCat, ef2, mAppE, mExtE, mPut, eNew, ePop, oPop, iE, iRngE, iSeqE, mForE, gRev, gRevL, iEnu, mHold, gTupR, nl, nlAll, ixN, PyData.isInt, PyData.isBool, PyData.isStr, PyData.isTuple, PyData.isList, PyData.isDict, ez, e1, e2, n1, n2, hz, tl]
theorem law_text_ (is : List Nat) (hs : Sg is) (hl : is.length ≤ 1000) (h : Hs) : r__law_text [.d (.str (tx is))] h = some (iL (nb is.length ++ iN is)) := by
  have e1 := law_number_nb (n := is.length) (Nat.lt_of_le_of_lt hl (Nat.lt_of_lt_of_le (by decide : 1000 < 128 ^ 2) (Nat.pow_le_pow_right (by decide) (by decide)))) h
  have ez : is.length ≤ sizeLine := by rw [sizeLine_eq]; omega
  have e2 : fLc (iSeqX (qV 0)) [1] (bName 1) tTrue (q2 gSIx (qC (.d (.str "abcdefghijklmnopqrstuvwxyz0123456789-"))) (qV 1)) [.v (.d (.str (tx is))), .un] h = some (is.map fun i : Nat => PyData.int i) :=
    fLc_map (f := fun i => PyData.str ⟨#[sgc i]⟩) (sq_signs rfl) (fun i hi => step_of (env1 := [.v (.d (.str (tx is))), .v (.d (.str ⟨#[sgc i]⟩))]) rfl rfl (six_ (hs i hi) h)) ez
  have hb := nb_len is.length
  have n1 := nlAll_ints (nb is.length)
  have n2 := nlAll_ints (iN is)
  have hz : (nb is.length).length + (iN is).length ≤ sizeLine := by rw [sizeLine_eq, iN_len]; omega
  rw [ofN] at e2
  have tl := tx_len is
  generalize nb is.length = bs at e1 n1 hz ⊢
  generalize iN is = js at e2 n2 hz ⊢
  simp [r__law_text, m__law_text, qV, qVs, qC, q1, q2, qNl, qIf, aNil, aCons, dOf, dsOf, qTup, fLst, qF, gTru, tV, tAndF, tOrF, tNotF, qT, qAnd, qOr, qNot, gI, gI0, gB0, cMul, cDiv, cPow, gNeg, gAdd, eqI, neI, lstAt, ixAt, lenAt, oPut, newOb, gLen, gInt, gTuple, f1, f2, gList, gIsi, gIx, gIsN, gNoN, gIsB, iRng, iRngB, seqOf, iSeqN, iSeq, bName, bNil, bCons, bTup, wipeE, tTrue, mNx, mSeq, mRet, mRetF, mRetN, mRetO, mIf, mSet, mSetO, mBk, mCt, mPre, mLock, mAsg, mFor, startE, resD, runQ, runF, qCall, fCall, arity, eQ, eF, eT, eNil, eCons, e1, e2, eTup, efLst, eLock, eIf, etV, eCall, efCall, enl, eNot, eAnd, eOr, resE, runE, runEF, mE, mSetE, mSetOE, mRetE, mRetFE, mIfE, mAsgE, oNone, oSome, gSl, qSl, fSl, gAll, gAny, qChain, gIn, pNil, pV, pL, mPar2, gCat, ef2, mAppE, mExtE, mPut, eNew, ePop, oPop, iE, iRngE, iSeqE, mForE, gRev, gRevL, iEnu, mHold, gTupR, nl, nlAll, ixN, PyData.isInt, PyData.isBool, PyData.isStr, PyData.isTuple, PyData.isList, PyData.isDict, ez, e1, e2, n1, n2, hz, tl]
/-! ### texts read -/
def rdt (r : List Int) : Option (List Nat × Nat) := (rdn r).bind fun x => if r.length < x.2 + x.1 then none else if ((r.drop x.2).take x.1).all (fun b => decide (b < 37)) = true then some (((r.drop x.2).take x.1).map Int.toNat, x.2 + x.1) else none
theorem rdt_back (is : List Nat) (hs : Sg is) (hl : is.length ≤ 1000) (tail : List Int) : rdt ((nb is.length ++ iN is) ++ tail) = some (is, (nb is.length ++ iN is).length) := by
  unfold rdt
  rw [List.append_assoc, rdn_nb (Nat.lt_of_le_of_lt hl (Nat.lt_of_lt_of_le (by decide : 1000 < 128 ^ 2) (Nat.pow_le_pow_right (by decide) (by decide)))), Option.bind_some]
  have w : ¬ (nb is.length ++ (iN is ++ tail)).length < (nb is.length).length + is.length := by simp <;> omega
  have w2 : ((nb is.length ++ (iN is ++ tail)).drop (nb is.length).length).take is.length = iN is := by
    rw [List.drop_left, List.take_append_of_le_length (by simp), List.take_of_length_le (by simp)]
  rw [if_neg w, w2, if_pos]
  · have : (iN is).map Int.toNat = is := by simp [Function.comp_def]
    rw [this]
    simp
  · rw [List.all_eq_true]
    intro b hb
    obtain ⟨i, hi, rfl⟩ := List.mem_map.mp hb
    have := hs i hi
    simp
    omega
theorem rdt_bytes {r : List Int} {is : List Nat} {n : Nat} (hr : Byt r) (hl : r.length ≤ 1000) (e : rdt r = some (is, n)) : Sg is ∧ is.length ≤ 1000 ∧ nb is.length ++ iN is = r.take n ∧ 1 ≤ n ∧ n ≤ r.length := by
  unfold rdt at e
  cases z : rdn r with
  | none => rw [z] at e; cases e
  | some x =>
    obtain ⟨m, k⟩ := x
    rw [z, Option.bind_some] at e
    obtain ⟨q1, q2, q3, q4, q5⟩ := rdn_bytes hr z
    simp only at e
    split at e
    · cases e
    · rename_i h1
      split at e
      · rename_i h2
        cases e
        rw [List.all_eq_true] at h2
        have hlen : ((List.drop k r).take m).length = m := by simp; omega
        refine ⟨fun i hi => ?_, ?_, ?_, by omega, by omega⟩
        · obtain ⟨b, hb, rfl⟩ := List.mem_map.mp hi
          have := of_decide_eq_true (h2 b hb)
          omega
        · rw [List.length_map, hlen]; omega
        · rw [List.length_map, hlen, q1]
          have : iN (((List.drop k r).take m).map Int.toNat) = (List.drop k r).take m := by
            unfold iN
            rw [List.map_map]
            conv => rhs; rw [← List.map_id ((List.drop k r).take m)]
            refine List.map_congr_left fun b hb => ?_
            have := (hr.drop k).take m b hb
            simp only [Function.comp_apply, id]
            omega
          rw [this, List.take_add]
      · cases e
end K18

set_option Elab.async false
set_option linter.all false
set_option maxRecDepth 100000
set_option maxHeartbeats 1000000
namespace K18
open PySem L2 Evl Sm
/-! ### read_text -/
def EnT (D : List Int) (p m q : Int) : En := [.v (.d (.tuple (iL D))), .v (.d (.int p)), .v (.d (.int m)), .v (.d (.int q)), .un, .un]
theorem atDk {D : List Int} {k : Nat} (hk : k < D.length) : atI (iL D) (k : Int) = some (.int (D.getD k 0)) := atN (by rw [List.getElem?_map, List.getElem?_eq_getElem hk, List.getD_eq_getElem?_getD, List.getElem?_eq_getElem hk]; rfl)
theorem tx_step {D : List Int} {p m q : Int} {k : Nat} (hk : k < D.length) (hl : D.length ≤ 1000) (h : Hs) :
    (bName 4 (.int k) (EnT D p m q)).bind (fun env1 => b_read_text_1 env1 h) = some (if D.getD k 0 < 37 then .nx else .ex 0 k, (EnT D p m q).set 4 (.v (.d (.int k))), h) := by
  have e := atDk hk
  have l : k.log2 < 1000 := log_small (by omega)
  have s := sgn_len
  have z : 37 ≤ sizeLine := by rw [sizeLine_eq]; omega
  by_cases c : D.getD k 0 < 37
  · have c' : ¬ (37 : Int) ≤ D.getD k 0 := by omega
    generalize D.getD k 0 = x at e c c' ⊢
    simp [b_read_text_1, qV, qVs, qC, q1, q2, qNl, qIf, aNil, aCons, dOf, dsOf, qTup, fLst, qF, gTru, tV, tAndF, tOrF, tNotF, qT, qAnd, qOr, qNot, gI, gI0, gB0, cMul, cDiv, cPow, gNeg, gAdd, eqI, neI, lstAt, ixAt, lenAt, oPut, newOb, gLen, gInt, gTuple, f1, f2, gList, gIsi, gIx, gIsN, gNoN, gIsB, iRng, iRngB, seqOf, iSeqN, iSeq, bName, bNil, bCons, bTup, wipeE, tTrue, mNx, mSeq, mRet, mRetF, mRetN, mRetO, mIf, mSet, mSetO, mBk, mCt, mPre, mLock, mAsg, mFor, startE, resD, runQ, runF, qCall, fCall, arity, eQ, eF, eT, eNil, eCons, e1, e2, eTup, efLst, eLock, eIf, etV, eCall, efCall, enl, eNot, eAnd, eOr, resE, runE, runEF, mE, mSetE, mSetOE, mRetE, mRetFE, mIfE, mAsgE, oNone, oSome, gSl, qSl, fSl, gAll, gAny, qChain, gIn, pNil, pV, pL, mPar2, gCat, ef2, mAppE, mExtE, mPut, eNew, ePop, oPop, iE, iRngE, iSeqE, mForE, gRev, gRevL, iEnu, mHold, gTupR, nl, nlAll, ixN, PyData.isInt, PyData.isBool, PyData.isStr, PyData.isTuple, PyData.isList, PyData.isDict, c_SIGNS, EnT, e, s, z, c, c']
  · have c' : (37 : Int) ≤ D.getD k 0 := by omega
    generalize D.getD k 0 = x at e c c' ⊢
    simp [b_read_text_1, qV, qVs, qC, q1, q2, qNl, qIf, aNil, aCons, dOf, dsOf, qTup, fLst, qF, gTru, tV, tAndF, tOrF, tNotF, qT, qAnd, qOr, qNot, gI, gI0, gB0, cMul, cDiv, cPow, gNeg, gAdd, eqI, neI, lstAt, ixAt, lenAt, oPut, newOb, gLen, gInt, gTuple, f1, f2, gList, gIsi, gIx, gIsN, gNoN, gIsB, iRng, iRngB, seqOf, iSeqN, iSeq, bName, bNil, bCons, bTup, wipeE, tTrue, mNx, mSeq, mRet, mRetF, mRetN, mRetO, mIf, mSet, mSetO, mBk, mCt, mPre, mLock, mAsg, mFor, startE, resD, runQ, runF, qCall, fCall, arity, eQ, eF, eT, eNil, eCons, e1, e2, eTup, efLst, eLock, eIf, etV, eCall, efCall, enl, eNot, eAnd, eOr, resE, runE, runEF, mE, mSetE, mSetOE, mRetE, mRetFE, mIfE, mAsgE, oNone, oSome, gSl, qSl, fSl, gAll, gAny, qChain, gIn, pNil, pV, pL, mPar2, gCat, ef2, mAppE, mExtE, mPut, eNew, ePop, oPop, iE, iRngE, iSeqE, mForE, gRev, gRevL, iEnu, mHold, gTupR, nl, nlAll, ixN, PyData.isInt, PyData.isBool, PyData.isStr, PyData.isTuple, PyData.isList, PyData.isDict, mRaise, c_SIGNS, EnT, e, s, z, c, c', l]
theorem txGo {D : List Int} {p m q : Int} (hl : D.length ≤ 1000) (h : Hs) : ∀ ks : List Nat, (∀ k ∈ ks, k < D.length) →
    ((∀ k ∈ ks, D.getD k 0 < 37) ∧ forGo [4] (fun d env h => (bName 4 d env).bind fun env1 => b_read_text_1 env1 h) (ks.map fun k : Nat => PyData.int k) (EnT D p m q) h = some (.nx, EnT D p m q, h)) ∨
    ((¬ ∀ k ∈ ks, D.getD k 0 < 37) ∧ ∃ (k : Nat) (env : En), k < D.length ∧ forGo [4] (fun d env h => (bName 4 d env).bind fun env1 => b_read_text_1 env1 h) (ks.map fun k : Nat => PyData.int k) (EnT D p m q) h = some (.ex 0 k, env, h))
  | [], _ => .inl ⟨fun k hk => by simp at hk, rfl⟩
  | k :: ks, hk => by
    have k1 := hk k (by simp)
    have e := tx_step (p := p) (m := m) (q := q) k1 hl h
    by_cases c : D.getD k 0 < 37
    · rw [if_pos c] at e
      rcases txGo hl h ks fun j hj => hk j (by simp [hj]) with ⟨a, b⟩ | ⟨a, j, env, b1, b⟩
      · exact .inl ⟨fun j hj => by rcases List.mem_cons.mp hj with rfl | hj; exact c; exact a j hj, for_nx e b⟩
      · exact .inr ⟨fun z => a fun j hj => z j (by simp [hj]), j, env, b1, for_nx e b⟩
    · rw [if_neg c] at e
      refine .inr ⟨fun z => c (z k (by simp)), k, (EnT D p m q).set 4 (.v (.d (.int k))), k1, ?_⟩
      rw [List.map_cons]
      unfold forGo
      rw [e, Option.bind_some]
theorem join_eq' (y : Str) (parts : List Str) : Txt.join y parts = Str.join y parts := TL.join_eq y parts
theorem join_tx (is : List Nat) : Txt.join "" (is.map fun i => (⟨#[sgc i]⟩ : Str)) = tx is := by
  rw [join_eq']
  induction is with
  | nil => rfl
  | cons i is ih =>
    cases is with
    | nil => rfl
    | cons j is =>
      show (⟨#[sgc i]⟩ : Str) ++ "" ++ Str.join "" ((j :: is).map fun i => (⟨#[sgc i]⟩ : Str)) = _
      rw [ih]
      show (⟨(#[sgc i] ++ ("" : Str).cps) ++ ((j :: is).map sgc).toArray⟩ : Str) = ⟨((i :: j :: is).map sgc).toArray⟩
      have : ("" : Str).cps = #[] := by decide +kernel
      rw [this]
      simp
theorem strsOf_strs (ys : List Str) : strsOf (ys.map PyData.str) = some ys := by
  induction ys with
  | nil => rfl
  | cons y ys ih => rw [List.map_cons, strsOf, ih]; rfl
theorem sum_tx : ∀ is : List Nat, ((is.map fun i => (⟨#[sgc i]⟩ : Str)).map (·.length)).sum = is.length
  | [] => rfl
  | i :: is => by
    rw [List.map_cons, List.map_cons, List.sum_cons, sum_tx is, List.length_cons]
    show 1 + is.length = _
    omega
theorem join_q {q : Q1} {is : List Nat} {env : En} {h : Hs} (e : q env h = some (.d (.list (is.map fun i => PyData.str ⟨#[sgc i]⟩)))) (hl : is.length ≤ 100000) : q1 (gJoin "") q env h = some (.d (.str (tx is))) := by
  refine q1_of e ?_
  have e2 : (is.map fun i => PyData.str ⟨#[sgc i]⟩) = (is.map fun i => (⟨#[sgc i]⟩ : Str)).map PyData.str := by rw [List.map_map]; rfl
  show (strsOf _).bind _ = _
  rw [e2, strsOf_strs, Option.bind_some, if_pos, join_tx]
  have e3 := sum_tx is
  have e4 : ("" : Str).length = 0 := by decide +kernel
  rw [e3, e4]
  omega
end K18

set_option Elab.async false
set_option linter.all false
set_option maxRecDepth 100000
set_option maxHeartbeats 1000000
namespace K18
open PySem L2 Evl Sm
theorem sgn_at {b : Nat} (hb : b < 37) : atI (("abcdefghijklmnopqrstuvwxyz0123456789-" : Str).cps.toList) (b : Int) = some (sgc b) := atN (by
  have : b < sgn.length := by rw [show sgn.length = 37 by decide +kernel]; exact hb
  show sgn[b]? = _
  unfold sgc
  rw [List.getD_eq_getElem?_getD, List.getElem?_eq_getElem this]
  rfl)
theorem sIxN (n k : Nat) (hk : k ≤ n) (d : Nat) : HT.sIx n d (some (k : Int)) = k := by
  have : ¬ (k : Int) < 0 := by omega
  simp [HT.sIx, this]
  omega
theorem cut_nat {α : Type} (xs : List α) (a b : Nat) (ha : a ≤ b) (hb : b ≤ xs.length) : cutD xs (some (a : Int)) (some (b : Int)) = (xs.drop a).take (b - a) := by
  unfold cutD
  rw [sIxN _ _ (by omega), sIxN _ _ (by omega)]
theorem range_all {D : List Int} {q m : Nat} (hl : q + m ≤ D.length) : (∀ k ∈ (List.range m).map (q + ·), D.getD k 0 < 37) ↔ ((D.drop q).take m).all (fun b => decide (b < 37)) = true := by
  rw [List.all_eq_true]
  constructor
  · intro H b hb
    obtain ⟨i, hi, e⟩ := List.mem_iff_getElem.mp hb
    have hi' : i < m := by rw [List.length_take] at hi; omega
    have := H (q + i) (List.mem_map.mpr ⟨i, List.mem_range.mpr hi', rfl⟩)
    rw [List.getElem_take, List.getElem_drop] at e
    rw [List.getD_eq_getElem?_getD, List.getElem?_eq_getElem (by omega)] at this
    rw [← e]
    simpa using this
  · intro H k hk
    obtain ⟨i, hi, rfl⟩ := List.mem_map.mp hk
    have hi := List.mem_range.mp hi
    have := H (D[q + i]'(by omega)) (List.mem_iff_getElem.mpr ⟨i, by rw [List.length_take, List.length_drop]; omega, by rw [List.getElem_take, List.getElem_drop]⟩)
    rw [List.getD_eq_getElem?_getD, List.getElem?_eq_getElem (by omega)]
    simpa using this
def rt3 : M1 := (mRet .mo (qTup (aCons (q1 (gJoin "") (qF (fLc (iSeqX (qSl (qV 0) (oSome (qV 3)) (oSome (q2 gAdd (qV 3) (qV 2))))) [5] (bName 5) tTrue (qNl (q2 gIx (qC (.d c_SIGNS)) (qV 5)))))) (aCons (q2 gAdd (qV 3) (qV 2)) aNil))))
def rt2 : M1 := mSeq (mFor (iRngB (qV 3) (q2 gAdd (qV 3) (qV 2))) [4] (bName 4) b_read_text_1) rt3
def rt1 : M1 := mSeq (mIf (tV (q2 gGt (q2 gAdd (qV 3) (qV 2)) (q1 gLen (qV 0)))) (mRaise 0 (q1 gLen (qV 0))) mNx) rt2
theorem read_text_ (D : List Int) (p : Nat) (hB : Byt D) (hD : D.length ≤ 1000) (hp : p ≤ D.length) (h : Hs) :
    (∃ is n, rdt (D.drop p) = some (is, n) ∧ r_read_text [.d (.tuple (iL D)), .d (.int p)] h = some (.ok (.d (.tuple [.str (tx is), .int ((p + n : Nat) : Int)])))) ∨
    (rdt (D.drop p) = none ∧ ∃ e : Int, r_read_text [.d (.tuple (iL D)), .d (.int p)] h = some (.error (0, e)) ∧ 0 ≤ e ∧ e ≤ D.length) := by
  have s2 : 2 ≤ sizeLine := by rw [sizeLine_eq]; omega
  rcases read_num D p hB (by omega) hp h with ⟨m, n, e1, e2⟩ | ⟨e1, e, e2, b0, b1⟩
  · obtain ⟨w1, w2, w3, w4, w5⟩ := rdn_bytes (hB.drop p) e1
    rw [List.length_drop] at w3
    have st : r_read_text [.d (.tuple (iL D)), .d (.int p)] h = (rt1 (EnT D p m ((p + n : Nat) : Int)) h).bind fun r => resX r.1 := by
      show (m_read_text [.v (.d (.tuple (iL D))), .v (.d (.int p)), .un, .un, .un, .un] h).bind _ = _
      unfold m_read_text
      rw [seq_nx (env1 := EnT D p m ((p + n : Nat) : Int)) (h1 := h) (by simp [qV, qVs, qC, Sm.q1, Sm.q2, qNl, qIf, aNil, aCons, dOf, dsOf, qTup, fLst, qF, gTru, tV, tAndF, tOrF, tNotF, qT, qAnd, qOr, qNot, gI, gI0, gB0, cMul, cDiv, cPow, gNeg, gAdd, eqI, neI, lstAt, ixAt, lenAt, oPut, newOb, gLen, gInt, gTuple, Sm.f1, Sm.f2, gList, gIsi, gIx, gIsN, gNoN, gIsB, iRng, iRngB, seqOf, iSeqN, iSeq, bName, bNil, bCons, bTup, wipeE, tTrue, mNx, mSeq, mRet, mRetF, mRetN, mRetO, mIf, mSet, mSetO, mBk, mCt, mPre, mLock, mAsg, mFor, startE, resD, runQ, runF, qCall, fCall, arity, eQ, eF, eT, eNil, eCons, Sm.e1, Sm.e2, eTup, efLst, eLock, eIf, etV, eCall, efCall, enl, eNot, eAnd, eOr, resE, runE, runEF, mE, mSetE, mSetOE, mRetE, mRetFE, mIfE, mAsgE, oNone, oSome, gSl, qSl, fSl, gAll, gAny, qChain, gIn, pNil, pV, pL, mPar2, gCat, ef2, mAppE, mExtE, mPut, eNew, ePop, oPop, iE, iRngE, iSeqE, mForE, gRev, gRevL, iEnu, mHold, gTupR, nl, nlAll, ixN, PyData.isInt, PyData.isBool, PyData.isStr, PyData.isTuple, PyData.isList, PyData.isDict, mAsgX, xNl, xCall, arity, e2, EnT, nl, nlAll])]
      rfl
    by_cases c : D.length < p + n + m
    · refine .inr ⟨?_, D.length, ?_, by omega, by omega⟩
      · unfold rdt
        rw [e1, Option.bind_some, if_pos (by rw [List.length_drop]; simp only; omega)]
      · have c1 : (D.length : Int) < (p : Int) + n + m := by omega
        have l : D.length.log2 < 1000 := log_small (by omega)
        rw [st]
        simp [rt1, qV, qVs, qC, Sm.q1, Sm.q2, qNl, qIf, aNil, aCons, dOf, dsOf, qTup, fLst, qF, gTru, tV, tAndF, tOrF, tNotF, qT, qAnd, qOr, qNot, gI, gI0, gB0, cMul, cDiv, cPow, gNeg, gAdd, eqI, neI, lstAt, ixAt, lenAt, oPut, newOb, gLen, gInt, gTuple, Sm.f1, Sm.f2, gList, gIsi, gIx, gIsN, gNoN, gIsB, iRng, iRngB, seqOf, iSeqN, iSeq, bName, bNil, bCons, bTup, wipeE, tTrue, mNx, mSeq, mRet, mRetF, mRetN, mRetO, mIf, mSet, mSetO, mBk, mCt, mPre, mLock, mAsg, mFor, startE, resD, runQ, runF, qCall, fCall, arity, eQ, eF, eT, eNil, eCons, Sm.e1, Sm.e2, eTup, efLst, eLock, eIf, etV, eCall, efCall, enl, eNot, eAnd, eOr, resE, runE, runEF, mE, mSetE, mSetOE, mRetE, mRetFE, mIfE, mAsgE, oNone, oSome, gSl, qSl, fSl, gAll, gAny, qChain, gIn, pNil, pV, pL, mPar2, gCat, ef2, mAppE, mExtE, mPut, eNew, ePop, oPop, iE, iRngE, iSeqE, mForE, gRev, gRevL, iEnu, mHold, gTupR, nl, nlAll, ixN, PyData.isInt, PyData.isBool, PyData.isStr, PyData.isTuple, PyData.isList, PyData.isDict, EnT, mRaise, c1, l, resX]
    · unfold rt1 at st
      rw [seq_nx (env1 := EnT D p m ((p + n : Nat) : Int)) (h1 := h) (if_f (by
        have c1 : ¬ (D.length : Int) < (p : Int) + n + m := by omega
        simp [qV, qVs, qC, Sm.q1, Sm.q2, qNl, qIf, aNil, aCons, dOf, dsOf, qTup, fLst, qF, gTru, tV, tAndF, tOrF, tNotF, qT, qAnd, qOr, qNot, gI, gI0, gB0, cMul, cDiv, cPow, gNeg, gAdd, eqI, neI, lstAt, ixAt, lenAt, oPut, newOb, gLen, gInt, gTuple, Sm.f1, Sm.f2, gList, gIsi, gIx, gIsN, gNoN, gIsB, iRng, iRngB, seqOf, iSeqN, iSeq, bName, bNil, bCons, bTup, wipeE, tTrue, mNx, mSeq, mRet, mRetF, mRetN, mRetO, mIf, mSet, mSetO, mBk, mCt, mPre, mLock, mAsg, mFor, startE, resD, runQ, runF, qCall, fCall, arity, eQ, eF, eT, eNil, eCons, Sm.e1, Sm.e2, eTup, efLst, eLock, eIf, etV, eCall, efCall, enl, eNot, eAnd, eOr, resE, runE, runEF, mE, mSetE, mSetOE, mRetE, mRetFE, mIfE, mAsgE, oNone, oSome, gSl, qSl, fSl, gAll, gAny, qChain, gIn, pNil, pV, pL, mPar2, gCat, ef2, mAppE, mExtE, mPut, eNew, ePop, oPop, iE, iRngE, iSeqE, mForE, gRev, gRevL, iEnu, mHold, gTupR, nl, nlAll, ixN, PyData.isInt, PyData.isBool, PyData.isStr, PyData.isTuple, PyData.isList, PyData.isDict, EnT, c1]) rfl)] at st
      have hi : iRngB (qV 3) (q2 gAdd (qV 3) (qV 2)) (EnT D p m ((p + n : Nat) : Int)) h = some (((List.range m).map ((p + n) + ·)).map fun k : Nat => PyData.int (k : Int)) := by
        rw [iRngB_of (m := ((p + n : Nat) : Int)) (n := ((p + n : Nat) : Int) + m) rfl rfl (by omega) (by omega) (by omega) (by omega), List.map_map]
        have : (((p + n : Nat) : Int) + m - ((p + n : Nat) : Int)).toNat = m := by omega
        rw [this]
        refine congrArg some (List.map_congr_left fun k _ => ?_)
        simp
      have hk : ∀ k ∈ (List.range m).map ((p + n) + ·), k < D.length := fun k hk => by
        obtain ⟨i, hi, rfl⟩ := List.mem_map.mp hk
        have := List.mem_range.mp hi
        omega
      have ra := range_all (D := D) (q := p + n) (m := m) (by omega)
      have nc : ¬ (D.drop p).length < n + m := by rw [List.length_drop]; omega
      rcases txGo (p := p) (m := m) (q := ((p + n : Nat) : Int)) hD h _ hk with ⟨a, b⟩ | ⟨a, j, env, b1, b⟩
      · rw [ra] at a
        refine .inl ⟨((D.drop (p + n)).take m).map Int.toNat, n + m, ?_, ?_⟩
        · unfold rdt
          rw [e1, Option.bind_some]
          simp only
          rw [if_neg nc, List.drop_drop, if_pos a]
        · unfold rt2 at st
          rw [seq_nx (env1 := EnT D p m ((p + n : Nat) : Int)) (h1 := h) (mFor_ hi b)] at st
          have ec : cutD (iL D) (some ((p + n : Nat) : Int)) (some (((p + n : Nat) : Int) + m)) = iL ((D.drop (p + n)).take m) := by
            have := cut_nat (iL D) (p + n) (p + n + m) (by omega) (by simp; omega)
            rw [show ((p + n + m : Nat) : Int) = ((p + n : Nat) : Int) + m by omega, show p + n + m - (p + n) = m by omega] at this
            rw [this]
            simp
          have hs : (D.drop (p + n)).take m = iN (((D.drop (p + n)).take m).map Int.toNat) := by
            unfold iN
            rw [List.map_map]
            conv => lhs; rw [← List.map_id ((D.drop (p + n)).take m)]
            refine List.map_congr_left fun b hb => ?_
            have := (hB.drop (p + n)).take m b hb
            simp only [Function.comp_apply, id]
            omega
          have ha : ∀ i ∈ ((D.drop (p + n)).take m).map Int.toNat, i < 37 := fun i hi => by
            obtain ⟨b, hb, rfl⟩ := List.mem_map.mp hi
            have := of_decide_eq_true (List.all_eq_true.mp a b hb)
            omega
          have hlen : (((D.drop (p + n)).take m).map Int.toNat).length ≤ 1000 := by simp; omega
          rw [hs] at ec
          generalize ((D.drop (p + n)).take m).map Int.toNat = is at ec ha hlen ⊢
          have hz : is.length ≤ sizeLine := by rw [sizeLine_eq]; omega
          have hj : q1 (gJoin "") (qF (fLc (iSeqX (qSl (qV 0) (oSome (qV 3)) (oSome (q2 gAdd (qV 3) (qV 2))))) [5] (bName 5) tTrue (qNl (q2 gIx (qC (.d c_SIGNS)) (qV 5))))) (EnT D p m ((p + n : Nat) : Int)) h = some (.d (.str (tx is))) := by
            refine join_q ?_ (by omega)
            have z37 : 37 ≤ sizeLine := by rw [sizeLine_eq]; omega
            have f := fLc_map (it := iSeqX (qSl (qV 0) (oSome (qV 3)) (oSome (q2 gAdd (qV 3) (qV 2))))) (vs := [5]) (bn := bName 5) (tt := tTrue) (te := qNl (q2 gIx (qC (.d c_SIGNS)) (qV 5))) (env := EnT D p m ((p + n : Nat) : Int)) (h := h) (f := fun i : Nat => PyData.int i) (g := fun i => PyData.str ⟨#[sgc i]⟩) (xs := is) (by
                have nn := nlAll_ints (iN is)
                unfold iSeqX qSl oSome
                simp only [qV, EnT, List.getElem?_cons_zero, List.getElem?_cons_succ, Option.bind_some, q2, gAdd, gSl, ec, seqOf]
                rw [if_pos nn]
                exact congrArg some (ofN is).symm) (fun i hi => step_of (env1 := (EnT D p m ((p + n : Nat) : Int)).set 5 (.v (.d (.int i)))) rfl rfl (by
                have := sgn_at (ha i hi)
                have s := sgn_len
                simp [qV, qVs, qC, Sm.q1, Sm.q2, qNl, qIf, aNil, aCons, dOf, dsOf, qTup, fLst, qF, gTru, tV, tAndF, tOrF, tNotF, qT, qAnd, qOr, qNot, gI, gI0, gB0, cMul, cDiv, cPow, gNeg, gAdd, eqI, neI, lstAt, ixAt, lenAt, oPut, newOb, gLen, gInt, gTuple, Sm.f1, Sm.f2, gList, gIsi, gIx, gIsN, gNoN, gIsB, iRng, iRngB, seqOf, iSeqN, iSeq, bName, bNil, bCons, bTup, wipeE, tTrue, mNx, mSeq, mRet, mRetF, mRetN, mRetO, mIf, mSet, mSetO, mBk, mCt, mPre, mLock, mAsg, mFor, startE, resD, runQ, runF, qCall, fCall, arity, eQ, eF, eT, eNil, eCons, Sm.e1, Sm.e2, eTup, efLst, eLock, eIf, etV, eCall, efCall, enl, eNot, eAnd, eOr, resE, runE, runEF, mE, mSetE, mSetOE, mRetE, mRetFE, mIfE, mAsgE, oNone, oSome, gSl, qSl, fSl, gAll, gAny, qChain, gIn, pNil, pV, pL, mPar2, gCat, ef2, mAppE, mExtE, mPut, eNew, ePop, oPop, iE, iRngE, iSeqE, mForE, gRev, gRevL, iEnu, mHold, gTupR, nl, nlAll, ixN, PyData.isInt, PyData.isBool, PyData.isStr, PyData.isTuple, PyData.isList, PyData.isDict, EnT, c_SIGNS, this, s, z37, nl])) hz
            unfold qF
            rw [f]
            rfl
          rw [st]
          unfold rt3 mRet qTup aCons
          rw [hj]
          have w : (p : Int) + n + m = p + (n + m) := by omega
          simp [qV, qVs, qC, Sm.q1, Sm.q2, qNl, qIf, aNil, aCons, dOf, dsOf, qTup, fLst, qF, gTru, tV, tAndF, tOrF, tNotF, qT, qAnd, qOr, qNot, gI, gI0, gB0, cMul, cDiv, cPow, gNeg, gAdd, eqI, neI, lstAt, ixAt, lenAt, oPut, newOb, gLen, gInt, gTuple, Sm.f1, Sm.f2, gList, gIsi, gIx, gIsN, gNoN, gIsB, iRng, iRngB, seqOf, iSeqN, iSeq, bName, bNil, bCons, bTup, wipeE, tTrue, mNx, mSeq, mRet, mRetF, mRetN, mRetO, mIf, mSet, mSetO, mBk, mCt, mPre, mLock, mAsg, mFor, startE, resD, runQ, runF, qCall, fCall, arity, eQ, eF, eT, eNil, eCons, Sm.e1, Sm.e2, eTup, efLst, eLock, eIf, etV, eCall, efCall, enl, eNot, eAnd, eOr, resE, runE, runEF, mE, mSetE, mSetOE, mRetE, mRetFE, mIfE, mAsgE, oNone, oSome, gSl, qSl, fSl, gAll, gAny, qChain, gIn, pNil, pV, pL, mPar2, gCat, ef2, mAppE, mExtE, mPut, eNew, ePop, oPop, iE, iRngE, iSeqE, mForE, gRev, gRevL, iEnu, mHold, gTupR, nl, nlAll, ixN, PyData.isInt, PyData.isBool, PyData.isStr, PyData.isTuple, PyData.isList, PyData.isDict, EnT, s2, resX, resD, w]
      · rw [ra] at a
        refine .inr ⟨?_, j, ?_, by omega, by omega⟩
        · unfold rdt
          rw [e1, Option.bind_some]
          simp only
          rw [if_neg nc, List.drop_drop, if_neg a]
        · have hf := mFor_ hi b
          rw [st]
          unfold rt2 mSeq
          rw [hf]
          rfl
  · refine .inr ⟨by unfold rdt; rw [e1]; rfl, e, ?_, b0, b1⟩
    simp [r_read_text, m_read_text, runX, qV, qVs, qC, Sm.q1, Sm.q2, qNl, qIf, aNil, aCons, dOf, dsOf, qTup, fLst, qF, gTru, tV, tAndF, tOrF, tNotF, qT, qAnd, qOr, qNot, gI, gI0, gB0, cMul, cDiv, cPow, gNeg, gAdd, eqI, neI, lstAt, ixAt, lenAt, oPut, newOb, gLen, gInt, gTuple, Sm.f1, Sm.f2, gList, gIsi, gIx, gIsN, gNoN, gIsB, iRng, iRngB, seqOf, iSeqN, iSeq, bName, bNil, bCons, bTup, wipeE, tTrue, mNx, mSeq, mRet, mRetF, mRetN, mRetO, mIf, mSet, mSetO, mBk, mCt, mPre, mLock, mAsg, mFor, startE, resD, runQ, runF, qCall, fCall, arity, eQ, eF, eT, eNil, eCons, Sm.e1, Sm.e2, eTup, efLst, eLock, eIf, etV, eCall, efCall, enl, eNot, eAnd, eOr, resE, runE, runEF, mE, mSetE, mSetOE, mRetE, mRetFE, mIfE, mAsgE, oNone, oSome, gSl, qSl, fSl, gAll, gAny, qChain, gIn, pNil, pV, pL, mPar2, gCat, ef2, mAppE, mExtE, mPut, eNew, ePop, oPop, iE, iRngE, iSeqE, mForE, gRev, gRevL, iEnu, mHold, gTupR, nl, nlAll, ixN, PyData.isInt, PyData.isBool, PyData.isStr, PyData.isTuple, PyData.isList, PyData.isDict, mAsgX, xNl, xCall, arity, e2, resX]
end K18

set_option Elab.async false
set_option linter.all false
set_option maxRecDepth 100000
set_option maxHeartbeats 1000000
namespace K18
open PySem L2 Evl Sm
/-! ### plain values -/
inductive Pv where
  | non | num (n : Nat) | txt (is : List Nat) | tup (vs : List Pv)
mutual
def Pv.d : Pv → PyData
  | .non => .none
  | .num n => .int n
  | .txt is => .str (tx is)
  | .tup vs => .tuple (Pv.ds vs)
def Pv.ds : List Pv → List PyData
  | [] => []
  | v :: vs => v.d :: Pv.ds vs
end
mutual
def Pv.b : Pv → List Int
  | .non => [0]
  | .num n => 1 :: nb n
  | .txt is => 2 :: (nb is.length ++ iN is)
  | .tup vs => 3 :: (nb vs.length ++ Pv.bs vs)
def Pv.bs : List Pv → List Int
  | [] => []
  | v :: vs => v.b ++ Pv.bs vs
end
mutual
def Pv.dp : Pv → Nat
  | .non => 0
  | .num _ => 0
  | .txt _ => 0
  | .tup vs => Pv.dps vs + 1
def Pv.dps : List Pv → Nat
  | [] => 0
  | v :: vs => max v.dp (Pv.dps vs)
end
mutual
def Pv.ok : Pv → Prop
  | .non => True
  | .num n => n < 128 ^ 400
  | .txt is => Sg is ∧ is.length ≤ 1000
  | .tup vs => vs.length ≤ 1000 ∧ Pv.oks vs
def Pv.oks : List Pv → Prop
  | [] => True
  | v :: vs => v.ok ∧ Pv.oks vs
end
theorem Pv.ds_map (vs : List Pv) : Pv.ds vs = vs.map Pv.d := by
  induction vs with
  | nil => rfl
  | cons v vs ih => rw [Pv.ds, ih]; rfl
theorem Pv.bs_map (vs : List Pv) : Pv.bs vs = (vs.map Pv.b).flatten := by
  induction vs with
  | nil => rfl
  | cons v vs ih => rw [Pv.bs, ih]; rfl
theorem Pv.oks_mem {vs : List Pv} : Pv.oks vs ↔ ∀ v ∈ vs, v.ok := by
  induction vs with
  | nil => simp [Pv.oks]
  | cons v vs ih => simp [Pv.oks, ih]
theorem Pv.dps_mem {vs : List Pv} {k : Nat} : Pv.dps vs ≤ k ↔ ∀ v ∈ vs, v.dp ≤ k := by
  induction vs with
  | nil => simp [Pv.dps]
  | cons v vs ih => simp [Pv.dps, ih, Nat.max_le]
theorem Pv.oks_app {vs ws : List Pv} : Pv.oks (vs ++ ws) ↔ Pv.oks vs ∧ Pv.oks ws := by
  induction vs with
  | nil => simp [Pv.oks]
  | cons v vs ih => simp [Pv.oks, ih, and_assoc]
mutual
theorem Pv.nl_d : ∀ v : Pv, nl v.d = true
  | .non => rfl
  | .num _ => rfl
  | .txt _ => rfl
  | .tup vs => by rw [Pv.d, nl]; exact Pv.nl_ds vs
theorem Pv.nl_ds : ∀ vs : List Pv, nlAll (Pv.ds vs) = true
  | [] => rfl
  | v :: vs => by rw [Pv.ds, nlAll, Pv.nl_d v, Pv.nl_ds vs]; rfl
end
theorem lt400 {n k : Nat} (h : n ≤ 1000) : n < 128 ^ 400 := Nat.lt_of_le_of_lt h (Nat.lt_of_lt_of_le (by decide : 1000 < 128 ^ 2) (Nat.pow_le_pow_right (by decide) (by decide)))
mutual
theorem Pv.byt : ∀ v : Pv, v.ok → Byt v.b
  | .non, _, x, hx => by simp only [Pv.b, List.mem_singleton] at hx; omega
  | .num n, h, x, hx => by
    rw [Pv.b] at hx
    rcases List.mem_cons.mp hx with rfl | hx
    · omega
    · exact nb_byt h x hx
  | .txt is, h, x, hx => by
    rw [Pv.ok] at h
    rw [Pv.b] at hx
    rcases List.mem_cons.mp hx with rfl | hx
    · omega
    · rcases List.mem_append.mp hx with hx | hx
      · exact nb_byt (lt400 (k := 0) h.2) x hx
      · obtain ⟨i, hi, rfl⟩ := List.mem_map.mp hx
        have := h.1 i hi
        omega
  | .tup vs, h, x, hx => by
    rw [Pv.ok] at h
    rw [Pv.b] at hx
    rcases List.mem_cons.mp hx with rfl | hx
    · omega
    · rcases List.mem_append.mp hx with hx | hx
      · exact nb_byt (lt400 (k := 0) h.1) x hx
      · exact Pv.byts vs h.2 x hx
theorem Pv.byts : ∀ vs : List Pv, Pv.oks vs → Byt (Pv.bs vs)
  | [], _, x, hx => by simp [Pv.bs] at hx
  | v :: vs, h, x, hx => by
    rw [Pv.oks] at h
    rw [Pv.bs] at hx
    rcases List.mem_append.mp hx with hx | hx
    · exact Pv.byt v h.1 x hx
    · exact Pv.byts vs h.2 x hx
end
theorem mem_bs {vs : List Pv} {v : Pv} (h : v ∈ vs) : v.b.length ≤ (Pv.bs vs).length := by
  induction vs with
  | nil => simp at h
  | cons w vs ih =>
    rw [Pv.bs, List.length_append]
    rcases List.mem_cons.mp h with rfl | h
    · omega
    · have := ih h; omega
/-! ### the program's bytes of a plain value -/
theorem pb_leaf {rec : List Val → Hs → Option (List PyData)} (v : Pv) (hv : v.ok) (hn : v.dp = 0) (h : Hs) : runF 2 (m_plain_bytes rec) [.d v.d] h = some (iL v.b) := by
  cases v with
  | non => simp [m_plain_bytes, qV, qVs, qC, Sm.q1, Sm.q2, qNl, qIf, aNil, aCons, dOf, dsOf, qTup, fLst, qF, gTru, tV, tAndF, tOrF, tNotF, qT, qAnd, qOr, qNot, gI, gI0, gB0, cMul, cDiv, cPow, gNeg, gAdd, eqI, neI, lstAt, ixAt, lenAt, oPut, newOb, gLen, gInt, gTuple, Sm.f1, Sm.f2, gList, gIsi, gIx, gIsN, gNoN, gIsB, iRng, iRngB, seqOf, iSeqN, iSeq, bName, bNil, bCons, bTup, wipeE, tTrue, mNx, mSeq, mRet, mRetF, mRetN, mRetO, mIf, mSet, mSetO, mBk, mCt, mPre, mLock, mAsg, mFor, startE, resD, runQ, runF, qCall, fCall, arity, eQ, eF, eT, eNil, eCons, Sm.e1, Sm.e2, eTup, efLst, eLock, eIf, etV, eCall, efCall, enl, eNot, eAnd, eOr, resE, runE, runEF, mE, mSetE, mSetOE, mRetE, mRetFE, mIfE, mAsgE, oNone, oSome, gSl, qSl, fSl, gAll, gAny, qChain, gIn, pNil, pV, pL, mPar2, gCat, ef2, mAppE, mExtE, mPut, eNew, ePop, oPop, iE, iRngE, iSeqE, mForE, gRev, gRevL, iEnu, mHold, gTupR, nl, nlAll, ixN, PyData.isInt, PyData.isBool, PyData.isStr, PyData.isTuple, PyData.isList, PyData.isDict, Pv.d, Pv.b, c_NOTHING, one_sl]
  | num n =>
    have hv : n < 128 ^ 400 := hv
    have e := number_nb hv h
    have n1 := nlAll_ints (nb n)
    have ll := nb_len n
    have hz : 1 + (nb n).length ≤ sizeLine := by rw [sizeLine_eq]; omega
    rw [Pv.d, Pv.b]
    generalize nb n = bs at e n1 hz ⊢
    simp [m_plain_bytes, qV, qVs, qC, Sm.q1, Sm.q2, qNl, qIf, aNil, aCons, dOf, dsOf, qTup, fLst, qF, gTru, tV, tAndF, tOrF, tNotF, qT, qAnd, qOr, qNot, gI, gI0, gB0, cMul, cDiv, cPow, gNeg, gAdd, eqI, neI, lstAt, ixAt, lenAt, oPut, newOb, gLen, gInt, gTuple, Sm.f1, Sm.f2, gList, gIsi, gIx, gIsN, gNoN, gIsB, iRng, iRngB, seqOf, iSeqN, iSeq, bName, bNil, bCons, bTup, wipeE, tTrue, mNx, mSeq, mRet, mRetF, mRetN, mRetO, mIf, mSet, mSetO, mBk, mCt, mPre, mLock, mAsg, mFor, startE, resD, runQ, runF, qCall, fCall, arity, eQ, eF, eT, eNil, eCons, Sm.e1, Sm.e2, eTup, efLst, eLock, eIf, etV, eCall, efCall, enl, eNot, eAnd, eOr, resE, runE, runEF, mE, mSetE, mSetOE, mRetE, mRetFE, mIfE, mAsgE, oNone, oSome, gSl, qSl, fSl, gAll, gAny, qChain, gIn, pNil, pV, pL, mPar2, gCat, ef2, mAppE, mExtE, mPut, eNew, ePop, oPop, iE, iRngE, iSeqE, mForE, gRev, gRevL, iEnu, mHold, gTupR, nl, nlAll, ixN, PyData.isInt, PyData.isBool, PyData.isStr, PyData.isTuple, PyData.isList, PyData.isDict, c_NUMBER, one_sl, e, n1, hz, nlAll, nl]
  | txt is =>
    have hv : Sg is ∧ is.length ≤ 1000 := hv
    have e := text_bytes_ is hv.1 hv.2 h
    have n1 := nlAll_ints (nb is.length ++ iN is)
    have ll := nb_len is.length
    have hz : 1 + (nb is.length ++ iN is).length ≤ sizeLine := by rw [sizeLine_eq, List.length_append, List.length_map]; omega
    rw [Pv.d, Pv.b]
    generalize nb is.length ++ iN is = bs at e n1 hz ⊢
    simp [m_plain_bytes, qV, qVs, qC, Sm.q1, Sm.q2, qNl, qIf, aNil, aCons, dOf, dsOf, qTup, fLst, qF, gTru, tV, tAndF, tOrF, tNotF, qT, qAnd, qOr, qNot, gI, gI0, gB0, cMul, cDiv, cPow, gNeg, gAdd, eqI, neI, lstAt, ixAt, lenAt, oPut, newOb, gLen, gInt, gTuple, Sm.f1, Sm.f2, gList, gIsi, gIx, gIsN, gNoN, gIsB, iRng, iRngB, seqOf, iSeqN, iSeq, bName, bNil, bCons, bTup, wipeE, tTrue, mNx, mSeq, mRet, mRetF, mRetN, mRetO, mIf, mSet, mSetO, mBk, mCt, mPre, mLock, mAsg, mFor, startE, resD, runQ, runF, qCall, fCall, arity, eQ, eF, eT, eNil, eCons, Sm.e1, Sm.e2, eTup, efLst, eLock, eIf, etV, eCall, efCall, enl, eNot, eAnd, eOr, resE, runE, runEF, mE, mSetE, mSetOE, mRetE, mRetFE, mIfE, mAsgE, oNone, oSome, gSl, qSl, fSl, gAll, gAny, qChain, gIn, pNil, pV, pL, mPar2, gCat, ef2, mAppE, mExtE, mPut, eNew, ePop, oPop, iE, iRngE, iSeqE, mForE, gRev, gRevL, iEnu, mHold, gTupR, nl, nlAll, ixN, PyData.isInt, PyData.isBool, PyData.isStr, PyData.isTuple, PyData.isList, PyData.isDict, c_TEXT, one_sl, e, n1, hz, nlAll, nl]
  | tup vs => rw [Pv.dp] at hn; omega
theorem plain_bytes_ : ∀ (k : Nat) (v : Pv), v.ok → v.dp ≤ k → v.b.length ≤ 100000 → ∀ h : Hs, g_plain_bytes (k + 1) [.d v.d] h = some (iL v.b)
  | k, .non, hv, hk, hl, h => pb_leaf .non hv rfl h
  | k, .num n, hv, hk, hl, h => pb_leaf (.num n) hv rfl h
  | k, .txt is, hv, hk, hl, h => pb_leaf (.txt is) hv rfl h
  | 0, .tup vs, hv, hk, hl, h => by rw [Pv.dp] at hk; omega
  | k + 1, .tup vs, hv, hk, hl, h => by
    rw [Pv.ok] at hv
    rw [Pv.dp] at hk
    have hk' := Pv.dps_mem.mp (Nat.le_of_succ_le_succ hk)
    have hv' := Pv.oks_mem.mp hv.2
    rw [Pv.b, List.length_cons, List.length_append] at hl
    have e1 := number_nb (lt400 (k := 0) hv.1) h
    have n1 := nlAll_ints (nb vs.length)
    have n2 := nlAll_ints (Pv.bs vs)
    have n3 := Pv.nl_ds vs
    have lz : sizeLine = _ := sizeLine_eq
    have hz : 1 + (nb vs.length).length ≤ sizeLine := by rw [lz]; omega
    have hz2 : (nb vs.length).length + 1 + (Pv.bs vs).length ≤ sizeLine := by rw [lz]; omega
    have e2 : fLc2 (iSeqX (qV 0)) [2, 1] (bName 2) tTrue [1] (fCall (arity 1 (g_plain_bytes (k + 1))) (aCons (qV 2) aNil)) (bName 1) tTrue (qNl (qV 1)) [.v (.d (.tuple (Pv.ds vs))), .un, .un] h = some (iL (Pv.bs vs)) := by
      rw [Pv.bs_map, ← iL_flat]
      refine fLc2_map (f := Pv.d) (g := fun v => iL v.b) (by rw [Pv.ds_map] at n3 ⊢; simp [iSeqX, qV, qVs, qC, Sm.q1, Sm.q2, qNl, qIf, aNil, aCons, dOf, dsOf, qTup, fLst, qF, gTru, tV, tAndF, tOrF, tNotF, qT, qAnd, qOr, qNot, gI, gI0, gB0, cMul, cDiv, cPow, gNeg, gAdd, eqI, neI, lstAt, ixAt, lenAt, oPut, newOb, gLen, gInt, gTuple, Sm.f1, Sm.f2, gList, gIsi, gIx, gIsN, gNoN, gIsB, iRng, iRngB, seqOf, iSeqN, iSeq, bName, bNil, bCons, bTup, wipeE, tTrue, mNx, mSeq, mRet, mRetF, mRetN, mRetO, mIf, mSet, mSetO, mBk, mCt, mPre, mLock, mAsg, mFor, startE, resD, runQ, runF, qCall, fCall, arity, eQ, eF, eT, eNil, eCons, Sm.e1, Sm.e2, eTup, efLst, eLock, eIf, etV, eCall, efCall, enl, eNot, eAnd, eOr, resE, runE, runEF, mE, mSetE, mSetOE, mRetE, mRetFE, mIfE, mAsgE, oNone, oSome, gSl, qSl, fSl, gAll, gAny, qChain, gIn, pNil, pV, pL, mPar2, gCat, ef2, mAppE, mExtE, mPut, eNew, ePop, oPop, iE, iRngE, iSeqE, mForE, gRev, gRevL, iEnu, mHold, gTupR, nl, nlAll, ixN, PyData.isInt, PyData.isBool, PyData.isStr, PyData.isTuple, PyData.isList, PyData.isDict, n3]) (fun v hv0 => lcOut_of (env1 := [.v (.d (.tuple (Pv.ds vs))), .un, .v (.d v.d)]) (ws := iL v.b) rfl rfl ?_ ?_) ?_
      · have := plain_bytes_ k v (hv' v hv0) (hk' v hv0) (by have := mem_bs hv0; omega) h
        simp [qV, qVs, qC, Sm.q1, Sm.q2, qNl, qIf, aNil, aCons, dOf, dsOf, qTup, fLst, qF, gTru, tV, tAndF, tOrF, tNotF, qT, qAnd, qOr, qNot, gI, gI0, gB0, cMul, cDiv, cPow, gNeg, gAdd, eqI, neI, lstAt, ixAt, lenAt, oPut, newOb, gLen, gInt, gTuple, Sm.f1, Sm.f2, gList, gIsi, gIx, gIsN, gNoN, gIsB, iRng, iRngB, seqOf, iSeqN, iSeq, bName, bNil, bCons, bTup, wipeE, tTrue, mNx, mSeq, mRet, mRetF, mRetN, mRetO, mIf, mSet, mSetO, mBk, mCt, mPre, mLock, mAsg, mFor, startE, resD, runQ, runF, qCall, fCall, arity, eQ, eF, eT, eNil, eCons, Sm.e1, Sm.e2, eTup, efLst, eLock, eIf, etV, eCall, efCall, enl, eNot, eAnd, eOr, resE, runE, runEF, mE, mSetE, mSetOE, mRetE, mRetFE, mIfE, mAsgE, oNone, oSome, gSl, qSl, fSl, gAll, gAny, qChain, gIn, pNil, pV, pL, mPar2, gCat, ef2, mAppE, mExtE, mPut, eNew, ePop, oPop, iE, iRngE, iSeqE, mForE, gRev, gRevL, iEnu, mHold, gTupR, nl, nlAll, ixN, PyData.isInt, PyData.isBool, PyData.isStr, PyData.isTuple, PyData.isList, PyData.isDict, this]
      · exact lcGo_map (f := PyData.int) (g := PyData.int) fun m _ => step_of (env1 := [.v (.d (.tuple (Pv.ds vs))), .v (.d (.int m)), .v (.d v.d)]) rfl rfl rfl
      · rw [iL_flat, List.length_map, ← Pv.bs_map, lz]; omega
    show runF 2 (m_plain_bytes (g_plain_bytes (k + 1))) _ h = _
    rw [Pv.d, Pv.b]
    have ld : (Pv.ds vs).length = vs.length := by rw [Pv.ds_map, List.length_map]
    generalize Pv.bs vs = bs at *
    generalize nb vs.length = cs at *
    simp [m_plain_bytes, qV, qVs, qC, Sm.q1, Sm.q2, qNl, qIf, aNil, aCons, dOf, dsOf, qTup, fLst, qF, gTru, tV, tAndF, tOrF, tNotF, qT, qAnd, qOr, qNot, gI, gI0, gB0, cMul, cDiv, cPow, gNeg, gAdd, eqI, neI, lstAt, ixAt, lenAt, oPut, newOb, gLen, gInt, gTuple, Sm.f1, Sm.f2, gList, gIsi, gIx, gIsN, gNoN, gIsB, iRng, iRngB, seqOf, iSeqN, iSeq, bName, bNil, bCons, bTup, wipeE, tTrue, mNx, mSeq, mRet, mRetF, mRetN, mRetO, mIf, mSet, mSetO, mBk, mCt, mPre, mLock, mAsg, mFor, startE, resD, runQ, runF, qCall, fCall, arity, eQ, eF, eT, eNil, eCons, Sm.e1, Sm.e2, eTup, efLst, eLock, eIf, etV, eCall, efCall, enl, eNot, eAnd, eOr, resE, runE, runEF, mE, mSetE, mSetOE, mRetE, mRetFE, mIfE, mAsgE, oNone, oSome, gSl, qSl, fSl, gAll, gAny, qChain, gIn, pNil, pV, pL, mPar2, gCat, ef2, mAppE, mExtE, mPut, eNew, ePop, oPop, iE, iRngE, iSeqE, mForE, gRev, gRevL, iEnu, mHold, gTupR, nl, nlAll, ixN, PyData.isInt, PyData.isBool, PyData.isStr, PyData.isTuple, PyData.isList, PyData.isDict, c_TUPLE, one_sl, e1, e2, n1, n2, hz, hz2, ld, nlAll, nl]
/-! ### the law's -/
theorem lpb_leaf {rec : List Val → Hs → Option (List PyData)} (v : Pv) (hv : v.ok) (hn : v.dp = 0) (h : Hs) : runF 2 (m__law_plain_bytes rec) [.d v.d] h = some (iL v.b) := by
  cases v with
  | non => simp [m__law_plain_bytes, qV, qVs, qC, Sm.q1, Sm.q2, qNl, qIf, aNil, aCons, dOf, dsOf, qTup, fLst, qF, gTru, tV, tAndF, tOrF, tNotF, qT, qAnd, qOr, qNot, gI, gI0, gB0, cMul, cDiv, cPow, gNeg, gAdd, eqI, neI, lstAt, ixAt, lenAt, oPut, newOb, gLen, gInt, gTuple, Sm.f1, Sm.f2, gList, gIsi, gIx, gIsN, gNoN, gIsB, iRng, iRngB, seqOf, iSeqN, iSeq, bName, bNil, bCons, bTup, wipeE, tTrue, mNx, mSeq, mRet, mRetF, mRetN, mRetO, mIf, mSet, mSetO, mBk, mCt, mPre, mLock, mAsg, mFor, startE, resD, runQ, runF, qCall, fCall, arity, eQ, eF, eT, eNil, eCons, Sm.e1, Sm.e2, eTup, efLst, eLock, eIf, etV, eCall, efCall, enl, eNot, eAnd, eOr, resE, runE, runEF, mE, mSetE, mSetOE, mRetE, mRetFE, mIfE, mAsgE, oNone, oSome, gSl, qSl, fSl, gAll, gAny, qChain, gIn, pNil, pV, pL, mPar2, gCat, ef2, mAppE, mExtE, mPut, eNew, ePop, oPop, iE, iRngE, iSeqE, mForE, gRev, gRevL, iEnu, mHold, gTupR, nl, nlAll, ixN, PyData.isInt, PyData.isBool, PyData.isStr, PyData.isTuple, PyData.isList, PyData.isDict, Pv.d, Pv.b, one_sl]
  | num n =>
    have hv : n < 128 ^ 400 := hv
    have e := law_number_nb hv h
    have n1 := nlAll_ints (nb n)
    have ll := nb_len n
    have hz : 1 + (nb n).length ≤ sizeLine := by rw [sizeLine_eq]; omega
    rw [Pv.d, Pv.b]
    generalize nb n = bs at e n1 hz ⊢
    simp [m__law_plain_bytes, qV, qVs, qC, Sm.q1, Sm.q2, qNl, qIf, aNil, aCons, dOf, dsOf, qTup, fLst, qF, gTru, tV, tAndF, tOrF, tNotF, qT, qAnd, qOr, qNot, gI, gI0, gB0, cMul, cDiv, cPow, gNeg, gAdd, eqI, neI, lstAt, ixAt, lenAt, oPut, newOb, gLen, gInt, gTuple, Sm.f1, Sm.f2, gList, gIsi, gIx, gIsN, gNoN, gIsB, iRng, iRngB, seqOf, iSeqN, iSeq, bName, bNil, bCons, bTup, wipeE, tTrue, mNx, mSeq, mRet, mRetF, mRetN, mRetO, mIf, mSet, mSetO, mBk, mCt, mPre, mLock, mAsg, mFor, startE, resD, runQ, runF, qCall, fCall, arity, eQ, eF, eT, eNil, eCons, Sm.e1, Sm.e2, eTup, efLst, eLock, eIf, etV, eCall, efCall, enl, eNot, eAnd, eOr, resE, runE, runEF, mE, mSetE, mSetOE, mRetE, mRetFE, mIfE, mAsgE, oNone, oSome, gSl, qSl, fSl, gAll, gAny, qChain, gIn, pNil, pV, pL, mPar2, gCat, ef2, mAppE, mExtE, mPut, eNew, ePop, oPop, iE, iRngE, iSeqE, mForE, gRev, gRevL, iEnu, mHold, gTupR, nl, nlAll, ixN, PyData.isInt, PyData.isBool, PyData.isStr, PyData.isTuple, PyData.isList, PyData.isDict, one_sl, e, n1, hz, nlAll, nl]
  | txt is =>
    have hv : Sg is ∧ is.length ≤ 1000 := hv
    have e := law_text_ is hv.1 hv.2 h
    have n1 := nlAll_ints (nb is.length ++ iN is)
    have ll := nb_len is.length
    have hz : 1 + (nb is.length ++ iN is).length ≤ sizeLine := by rw [sizeLine_eq, List.length_append, List.length_map]; omega
    rw [Pv.d, Pv.b]
    generalize nb is.length ++ iN is = bs at e n1 hz ⊢
    simp [m__law_plain_bytes, qV, qVs, qC, Sm.q1, Sm.q2, qNl, qIf, aNil, aCons, dOf, dsOf, qTup, fLst, qF, gTru, tV, tAndF, tOrF, tNotF, qT, qAnd, qOr, qNot, gI, gI0, gB0, cMul, cDiv, cPow, gNeg, gAdd, eqI, neI, lstAt, ixAt, lenAt, oPut, newOb, gLen, gInt, gTuple, Sm.f1, Sm.f2, gList, gIsi, gIx, gIsN, gNoN, gIsB, iRng, iRngB, seqOf, iSeqN, iSeq, bName, bNil, bCons, bTup, wipeE, tTrue, mNx, mSeq, mRet, mRetF, mRetN, mRetO, mIf, mSet, mSetO, mBk, mCt, mPre, mLock, mAsg, mFor, startE, resD, runQ, runF, qCall, fCall, arity, eQ, eF, eT, eNil, eCons, Sm.e1, Sm.e2, eTup, efLst, eLock, eIf, etV, eCall, efCall, enl, eNot, eAnd, eOr, resE, runE, runEF, mE, mSetE, mSetOE, mRetE, mRetFE, mIfE, mAsgE, oNone, oSome, gSl, qSl, fSl, gAll, gAny, qChain, gIn, pNil, pV, pL, mPar2, gCat, ef2, mAppE, mExtE, mPut, eNew, ePop, oPop, iE, iRngE, iSeqE, mForE, gRev, gRevL, iEnu, mHold, gTupR, nl, nlAll, ixN, PyData.isInt, PyData.isBool, PyData.isStr, PyData.isTuple, PyData.isList, PyData.isDict, one_sl, e, n1, hz, nlAll, nl]
  | tup vs => rw [Pv.dp] at hn; omega
theorem lpGo {rec : List Val → Hs → Option (List PyData)} (x : Sl) (h : Hs) : ∀ (vs : List Pv) (acc : List Int), (∀ v ∈ vs, rec [.d v.d] h = some (iL v.b)) → acc.length + (Pv.bs vs).length ≤ 1000000 →
    forGo [2] (fun d env h => (bName 2 d env).bind fun env1 => b__law_plain_bytes_1 rec env1 h) (Pv.ds vs) [x, .l (iL acc), .un] h = some (.nx, [x, .l (iL (acc ++ Pv.bs vs)), .un], h)
  | [], acc, _, _ => by simp [Pv.bs, Pv.ds, forGo]
  | v :: vs, acc, hr, hl => by
    rw [Pv.bs, List.length_append] at hl
    have e := hr v (by simp)
    have n1 := nlAll_ints acc
    have n2 := nlAll_ints v.b
    have hz : acc.length + v.b.length ≤ sizeLine := by rw [sizeLine_eq]; omega
    have ih := lpGo x h vs (acc ++ v.b) (fun w hw => hr w (by simp [hw])) (by rw [List.length_append]; omega)
    rw [Pv.ds]
    refine for_nx (env1 := [x, .l (iL (acc ++ v.b)), .v (.d v.d)]) (h1 := h) ?_ ?_
    · generalize v.b = bs at *
      simp [b__law_plain_bytes_1, qV, qVs, qC, Sm.q1, Sm.q2, qNl, qIf, aNil, aCons, dOf, dsOf, qTup, fLst, qF, gTru, tV, tAndF, tOrF, tNotF, qT, qAnd, qOr, qNot, gI, gI0, gB0, cMul, cDiv, cPow, gNeg, gAdd, eqI, neI, lstAt, ixAt, lenAt, oPut, newOb, gLen, gInt, gTuple, Sm.f1, Sm.f2, gList, gIsi, gIx, gIsN, gNoN, gIsB, iRng, iRngB, seqOf, iSeqN, iSeq, bName, bNil, bCons, bTup, wipeE, tTrue, mNx, mSeq, mRet, mRetF, mRetN, mRetO, mIf, mSet, mSetO, mBk, mCt, mPre, mLock, mAsg, mFor, startE, resD, runQ, runF, qCall, fCall, arity, eQ, eF, eT, eNil, eCons, Sm.e1, Sm.e2, eTup, efLst, eLock, eIf, etV, eCall, efCall, enl, eNot, eAnd, eOr, resE, runE, runEF, mE, mSetE, mSetOE, mRetE, mRetFE, mIfE, mAsgE, oNone, oSome, gSl, qSl, fSl, gAll, gAny, qChain, gIn, pNil, pV, pL, mPar2, gCat, ef2, mAppE, mExtE, mPut, eNew, ePop, oPop, iE, iRngE, iSeqE, mForE, gRev, gRevL, iEnu, mHold, gTupR, nl, nlAll, ixN, PyData.isInt, PyData.isBool, PyData.isStr, PyData.isTuple, PyData.isList, PyData.isDict, e, n1, n2, hz]
    · rw [Pv.bs, ← List.append_assoc]
      exact ih
theorem law_plain_bytes_ : ∀ (k : Nat) (v : Pv), v.ok → v.dp ≤ k → v.b.length ≤ 100000 → ∀ h : Hs, g__law_plain_bytes (k + 1) [.d v.d] h = some (iL v.b)
  | k, .non, hv, hk, hl, h => lpb_leaf .non hv rfl h
  | k, .num n, hv, hk, hl, h => lpb_leaf (.num n) hv rfl h
  | k, .txt is, hv, hk, hl, h => lpb_leaf (.txt is) hv rfl h
  | 0, .tup vs, hv, hk, hl, h => by rw [Pv.dp] at hk; omega
  | k + 1, .tup vs, hv, hk, hl, h => by
    rw [Pv.ok] at hv
    rw [Pv.dp] at hk
    have hk' := Pv.dps_mem.mp (Nat.le_of_succ_le_succ hk)
    have hv' := Pv.oks_mem.mp hv.2
    rw [Pv.b, List.length_cons, List.length_append] at hl
    have e1 := law_number_nb (lt400 (k := 0) hv.1) h
    have n1 := nlAll_ints (nb vs.length)
    have n3 := Pv.nl_ds vs
    have lz : sizeLine = _ := sizeLine_eq
    have hz : 1 + (nb vs.length).length ≤ sizeLine := by rw [lz]; omega
    have go := lpGo (rec := g__law_plain_bytes (k + 1)) (.v (.d (.tuple (Pv.ds vs)))) h vs (3 :: nb vs.length) (fun v hv0 => law_plain_bytes_ k v (hv' v hv0) (hk' v hv0) (by have := mem_bs hv0; omega) h) (by rw [List.length_cons]; omega)
    show runF 2 (m__law_plain_bytes (g__law_plain_bytes (k + 1))) _ h = _
    rw [Pv.d, Pv.b]
    have ld : (Pv.ds vs).length = vs.length := by rw [Pv.ds_map, List.length_map]
    have hf : mFor (iSeqT (qVs 0)) [2] (bName 2) (b__law_plain_bytes_1 (g__law_plain_bytes (k + 1))) [.v (.d (.tuple (Pv.ds vs))), .l (iL (3 :: nb vs.length)), .un] h = _ := mFor_ (xs := Pv.ds vs) rfl go
    generalize Pv.bs vs = bs at *
    generalize nb vs.length = cs at *
    simp only [iL, List.map_cons] at hf
    simp [m__law_plain_bytes, qV, qVs, qC, Sm.q1, Sm.q2, qNl, qIf, aNil, aCons, dOf, dsOf, qTup, fLst, qF, gTru, tV, tAndF, tOrF, tNotF, qT, qAnd, qOr, qNot, gI, gI0, gB0, cMul, cDiv, cPow, gNeg, gAdd, eqI, neI, lstAt, ixAt, lenAt, oPut, newOb, gLen, gInt, gTuple, Sm.f1, Sm.f2, gList, gIsi, gIx, gIsN, gNoN, gIsB, iRng, iRngB, seqOf, iSeqN, iSeq, bName, bNil, bCons, bTup, wipeE, tTrue, mNx, mSeq, mRet, mRetF, mRetN, mRetO, mIf, mSet, mSetO, mBk, mCt, mPre, mLock, mAsg, startE, resD, runQ, runF, qCall, fCall, arity, eQ, eF, eT, eNil, eCons, Sm.e1, Sm.e2, eTup, efLst, eLock, eIf, etV, eCall, efCall, enl, eNot, eAnd, eOr, resE, runE, runEF, mE, mSetE, mSetOE, mRetE, mRetFE, mIfE, mAsgE, oNone, oSome, gSl, qSl, fSl, gAll, gAny, qChain, gIn, pNil, pV, pL, mPar2, gCat, ef2, mAppE, mExtE, mPut, eNew, ePop, oPop, iE, iRngE, iSeqE, gRev, gRevL, iEnu, mHold, gTupR, nl, nlAll, ixN, PyData.isInt, PyData.isBool, PyData.isStr, PyData.isTuple, PyData.isList, PyData.isDict, one_sl, e1, hf, n1, hz, ld, nlAll, nl]
end K18

set_option Elab.async false
set_option linter.all false
set_option maxRecDepth 100000
set_option maxHeartbeats 1000000
namespace K18
open PySem L2 Evl Sm
/-! ### plain values, read off some bytes -/
def rdMany (f : List Int → Option (Pv × Nat)) : Nat → List Int → Option (List Pv × Nat)
  | 0, _ => some ([], 0)
  | m + 1, r => (f r).bind fun x => (rdMany f m (r.drop x.2)).bind fun y => some (x.1 :: y.1, x.2 + y.2)
def rdBody (f : Option (List Int → Option (Pv × Nat))) : List Int → Option (Pv × Nat)
  | [] => none
  | b :: t => if b = 0 then some (.non, 1) else if b = 1 then (rdn t).bind fun x => some (.num x.1, x.2 + 1) else if b = 2 then (rdt t).bind fun x => some (.txt x.1, x.2 + 1)
    else if b = 3 then (match f with
      | none => none
      | some f => (rdn t).bind fun x => (rdMany f x.1 (t.drop x.2)).bind fun y => some (.tup y.1, 1 + x.2 + y.2)) else none
def rdp : Nat → List Int → Option (Pv × Nat)
  | 0, r => rdBody none r
  | k + 1, r => rdBody (some (rdp k)) r
def fOf : Nat → Option (List Int → Option (Pv × Nat))
  | 0 => none
  | k + 1 => some (rdp k)
theorem rdp_eq (k : Nat) (r : List Int) : rdp k r = rdBody (fOf k) r := by cases k <;> rfl
theorem rb1 (f : Option (List Int → Option (Pv × Nat))) (t : List Int) : rdBody f (1 :: t) = (rdn t).bind fun x => some (.num x.1, x.2 + 1) := rfl
theorem rb2 (f : Option (List Int → Option (Pv × Nat))) (t : List Int) : rdBody f (2 :: t) = (rdt t).bind fun x => some (.txt x.1, x.2 + 1) := rfl
theorem rb3 (f : List Int → Option (Pv × Nat)) (t : List Int) : rdBody (some f) (3 :: t) = (rdn t).bind fun x => (rdMany f x.1 (t.drop x.2)).bind fun y => some (.tup y.1, 1 + x.2 + y.2) := rfl
theorem rbc (f : Option (List Int → Option (Pv × Nat))) (b : Int) (t : List Int) : rdBody f (b :: t) = if b = 0 then some (.non, 1) else if b = 1 then (rdn t).bind fun x => some (.num x.1, x.2 + 1) else if b = 2 then (rdt t).bind fun x => some (.txt x.1, x.2 + 1)
    else if b = 3 then (match f with
      | none => none
      | some f => (rdn t).bind fun x => (rdMany f x.1 (t.drop x.2)).bind fun y => some (.tup y.1, 1 + x.2 + y.2)) else none := rfl
/-! written, then read -/
theorem rdp_back : ∀ (k : Nat) (v : Pv), v.ok → v.dp ≤ k → ∀ tail, rdp k (v.b ++ tail) = some (v, v.b.length)
  | k, .non, _, _, tail => by rw [rdp_eq]; rfl
  | k, .num n, hv, _, tail => by
    have hv : n < 128 ^ 400 := hv
    rw [rdp_eq, Pv.b, List.cons_append, rb1, rdn_nb hv]
    rfl
  | k, .txt is, hv, _, tail => by
    have hv : Sg is ∧ is.length ≤ 1000 := hv
    rw [rdp_eq, Pv.b, List.cons_append, rb2, rdt_back is hv.1 hv.2]
    rfl
  | 0, .tup vs, _, hk, _ => by rw [Pv.dp] at hk; omega
  | k + 1, .tup vs, hv, hk, tail => by
    rw [Pv.ok] at hv
    rw [Pv.dp] at hk
    have hk' := Pv.dps_mem.mp (Nat.le_of_succ_le_succ hk)
    have hv' := Pv.oks_mem.mp hv.2
    have many : ∀ (ws : List Pv), (∀ v ∈ ws, v.ok) → (∀ v ∈ ws, v.dp ≤ k) → ∀ tail, rdMany (rdp k) ws.length (Pv.bs ws ++ tail) = some (ws, (Pv.bs ws).length) := by
      intro ws
      induction ws with
      | nil => intro _ _ _; rfl
      | cons w ws ih =>
        intro h1 h2 tail
        rw [List.length_cons, rdMany, Pv.bs, List.append_assoc, rdp_back k w (h1 w (by simp)) (h2 w (by simp)), Option.bind_some, List.drop_left, ih (fun v hv => h1 v (by simp [hv])) (fun v hv => h2 v (by simp [hv]))]
        simp
    rw [rdp, Pv.b, List.cons_append, rb3, List.append_assoc, rdn_nb (lt400 (k := 0) hv.1), Option.bind_some, List.drop_left, many vs hv' hk' tail, Option.bind_some, List.length_cons, List.length_append]
    exact congrArg some (Prod.ext rfl (by show 1 + _ + _ = _; omega))
/-! read, then written -/
theorem rdp_bytes : ∀ (k : Nat) (r : List Int) (v : Pv) (n : Nat), Byt r → r.length ≤ 1000 → rdp k r = some (v, n) → v.ok ∧ v.dp ≤ k ∧ v.b = r.take n ∧ 1 ≤ n ∧ n ≤ r.length ∧ 2 * v.dp ≤ n := by
  have leaf : ∀ (k : Nat) (f : Option (List Int → Option (Pv × Nat))) (r : List Int) (v : Pv) (n : Nat), Byt r → r.length ≤ 1000 → rdBody f r = some (v, n) → (∀ t, r ≠ 3 :: t) → v.ok ∧ v.dp ≤ k ∧ v.b = r.take n ∧ 1 ≤ n ∧ n ≤ r.length ∧ 2 * v.dp ≤ n := by
    intro k f r v n hr hl e h3
    cases r with
    | nil => cases e
    | cons b t =>
      have ht : Byt t := fun x hx => hr x (by simp [hx])
      rw [List.length_cons] at hl ⊢
      rw [rbc] at e
      by_cases c0 : b = 0
      · rw [if_pos c0] at e
        cases e
        subst c0
        exact ⟨trivial, by rw [Pv.dp]; omega, rfl, by omega, by omega, by rw [Pv.dp]; omega⟩
      · rw [if_neg c0] at e
        by_cases c1 : b = 1
        · rw [if_pos c1] at e
          subst c1
          cases z : rdn t with
          | none => rw [z] at e; cases e
          | some x =>
            obtain ⟨m, j⟩ := x
            rw [z] at e
            cases e
            obtain ⟨w1, w2, w3, w4, w5⟩ := rdn_bytes ht z
            refine ⟨Nat.lt_of_lt_of_le w5 (Nat.pow_le_pow_right (by decide) w4), by rw [Pv.dp]; omega, ?_, by omega, by simp only; omega, by rw [Pv.dp]; simp only; omega⟩
            rw [Pv.b, w1, List.take_succ_cons]
        · rw [if_neg c1] at e
          by_cases c2 : b = 2
          · rw [if_pos c2] at e
            subst c2
            cases z : rdt t with
            | none => rw [z] at e; cases e
            | some x =>
              obtain ⟨is, j⟩ := x
              rw [z] at e
              cases e
              obtain ⟨w1, w2, w3, w4, w5⟩ := rdt_bytes ht (by omega) z
              refine ⟨⟨w1, w2⟩, by rw [Pv.dp]; omega, ?_, by omega, by simp only; omega, by rw [Pv.dp]; simp only; omega⟩
              rw [Pv.b, w3, List.take_succ_cons]
          · rw [if_neg c2] at e
            by_cases c3 : b = 3
            · exact absurd (by rw [c3]) (h3 t)
            · rw [if_neg c3] at e
              cases e
  intro k
  induction k with
  | zero =>
    intro r v n hr hl e
    refine leaf 0 none r v n hr hl e fun t ht => ?_
    subst ht
    have : rdp 0 (3 :: t) = none := rfl
    rw [this] at e
    cases e
  | succ k ih =>
    intro r v n hr hl e
    by_cases c : ∃ t, r = 3 :: t
    · obtain ⟨t, rfl⟩ := c
      have ht : Byt t := fun x hx => hr x (by simp [hx])
      rw [List.length_cons] at hl ⊢
      have many : ∀ (m : Nat) (r : List Int) (ws : List Pv) (n : Nat), Byt r → r.length ≤ 1000 → rdMany (rdp k) m r = some (ws, n) → ws.length = m ∧ Pv.oks ws ∧ Pv.dps ws ≤ k ∧ Pv.bs ws = r.take n ∧ m ≤ n ∧ n ≤ r.length ∧ 2 * Pv.dps ws ≤ n := by
        intro m
        induction m with
        | zero => intro r ws n _ _ e; cases e; exact ⟨rfl, trivial, Nat.zero_le _, by simp [Pv.bs], by omega, by omega, by simp [Pv.dps]⟩
        | succ m ihm =>
          intro r ws n hr hl e
          rw [rdMany] at e
          cases z : rdp k r with
          | none => rw [z] at e; cases e
          | some x =>
            obtain ⟨w, j⟩ := x
            rw [z, Option.bind_some] at e
            cases z2 : rdMany (rdp k) m (r.drop j) with
            | none => rw [z2] at e; cases e
            | some y =>
              obtain ⟨us, i⟩ := y
              rw [z2] at e
              cases e
              obtain ⟨a1, a2, a3, a4, a5, a6⟩ := ih r w j hr hl z
              obtain ⟨b1, b2, b3, b4, b5, b6, b7⟩ := ihm (r.drop j) us i (hr.drop j) (by rw [List.length_drop]; omega) z2
              rw [List.length_drop] at b6
              refine ⟨by simp [b1], ⟨a1, b2⟩, by rw [Pv.dps]; show max w.dp (Pv.dps us) ≤ k; omega, ?_, by simp only; omega, by simp only; omega, by rw [Pv.dps]; simp only; omega⟩
              rw [Pv.bs, a3, b4, List.take_add]
      have e : ((rdn t).bind fun x => (rdMany (rdp k) x.1 (t.drop x.2)).bind fun y => some (Pv.tup y.1, 1 + x.2 + y.2)) = some (v, n) := e
      cases z : rdn t with
      | none => rw [z] at e; cases e
      | some x =>
        obtain ⟨m, j⟩ := x
        rw [z, Option.bind_some] at e
        cases z2 : rdMany (rdp k) m (t.drop j) with
        | none => rw [z2] at e; cases e
        | some y =>
          obtain ⟨us, i⟩ := y
          rw [z2] at e
          cases e
          obtain ⟨w1, w2, w3, w4, w5⟩ := rdn_bytes ht z
          obtain ⟨b1, b2, b3, b4, b5, b6, b7⟩ := many m (t.drop j) us i (ht.drop j) (by rw [List.length_drop]; omega) z2
          rw [List.length_drop] at b6
          refine ⟨⟨by show us.length ≤ 1000; omega, b2⟩, by rw [Pv.dp]; show Pv.dps us + 1 ≤ k + 1; omega, ?_, by omega, by omega, by rw [Pv.dp]; show 2 * (Pv.dps us + 1) ≤ _; omega⟩
          rw [Pv.b, b1, w1, b4, ← List.take_add, show 1 + j + i = (j + i) + 1 by omega, List.take_succ_cons]
    · refine leaf (k + 1) _ r v n hr hl e fun t ht => c ⟨t, ht⟩
end K18

set_option Elab.async false
set_option linter.all false
set_option maxRecDepth 100000
set_option maxHeartbeats 1000000
namespace K18
open PySem L2 Evl Sm
/-! ### read_plain -/
def RpOk (D : List Int) (p k : Nat) (h : Hs) (g : List Val → Hs → Option XR) : Prop :=
  (∃ v n, rdp k (D.drop p) = some (v, n) ∧ g [.d (.tuple (iL D)), .d (.int p), .d (.int k)] h = some (.ok (.d (.tuple [v.d, .int ((p + n : Nat) : Int)])))) ∨
  (rdp k (D.drop p) = none ∧ ∃ e : Int, g [.d (.tuple (iL D)), .d (.int p), .d (.int k)] h = some (.error (0, e)))
def EnP (D : List Int) (p k kind : Int) (M here : Int) (acc : List Pv) : En := [.v (.d (.tuple (iL D))), .v (.d (.int p)), .v (.d (.int k)), .v (.d (.int kind)), .v (.d (.int M)), .v (.d (.int here)), .l (Pv.ds acc), .un]
theorem ds_app (vs ws : List Pv) : Pv.ds (vs ++ ws) = Pv.ds vs ++ Pv.ds ws := by rw [Pv.ds_map, Pv.ds_map, Pv.ds_map, List.map_append]
theorem ds_len (vs : List Pv) : (Pv.ds vs).length = vs.length := by rw [Pv.ds_map, List.length_map]
theorem rpGo {rec : List Val → Hs → Option XR} {D : List Int} {k : Nat} {p kind : Int} (hB : Byt D) (hD : D.length ≤ 1000) (h : Hs) (ih : ∀ p, p ≤ D.length → RpOk D p k h rec) : ∀ (f m here : Nat) (acc : List Pv) (M : Int), here ≤ D.length → D.length - here < f → M = acc.length + m → acc.length + (D.length - here) ≤ 1000 →
    (∃ vs n, rdMany (rdp k) m (D.drop here) = some (vs, n) ∧ whGo [7] (tV (q2 gLt (q1 gLen (qV 6)) (qV 4))) (b_read_plain_1 rec) f (EnP D p (k + 1 : Nat) kind M here acc) h = some (.nx, EnP D p (k + 1 : Nat) kind M ((here + n : Nat) : Int) (acc ++ vs), h)) ∨
    (rdMany (rdp k) m (D.drop here) = none ∧ ∃ (e : Int) (env : En), whGo [7] (tV (q2 gLt (q1 gLen (qV 6)) (qV 4))) (b_read_plain_1 rec) f (EnP D p (k + 1 : Nat) kind M here acc) h = some (.ex 0 e, env, h)) := by
  intro f
  induction f with
  | zero => intro m here acc M _ h2; omega
  | succ f ihf =>
    intro m here acc M hh hf hM hz
    have la := ds_len acc
    cases m with
    | zero =>
      refine .inl ⟨[], 0, rfl, ?_⟩
      have t : tV (q2 gLt (q1 gLen (qV 6)) (qV 4)) (EnP D p (k + 1 : Nat) kind M here acc) h = some false := by
        have c : ¬ (acc.length : Int) < M := by omega
        simp [qV, qVs, qC, Sm.q1, Sm.q2, qNl, qIf, aNil, aCons, dOf, dsOf, qTup, fLst, qF, gTru, tV, tAndF, tOrF, tNotF, qT, qAnd, qOr, qNot, gI, gI0, gB0, cMul, cDiv, cPow, gNeg, gAdd, eqI, neI, lstAt, ixAt, lenAt, oPut, newOb, gLen, gInt, gTuple, Sm.f1, Sm.f2, gList, gIsi, gIx, gIsN, gNoN, gIsB, iRng, iRngB, seqOf, iSeqN, iSeq, bName, bNil, bCons, bTup, wipeE, tTrue, mNx, mSeq, mRet, mRetF, mRetN, mRetO, mIf, mSet, mSetO, mBk, mCt, mPre, mLock, mAsg, mFor, startE, resD, runQ, runF, qCall, fCall, arity, eQ, eF, eT, eNil, eCons, Sm.e1, Sm.e2, eTup, efLst, eLock, eIf, etV, eCall, efCall, enl, eNot, eAnd, eOr, resE, runE, runEF, mE, mSetE, mSetOE, mRetE, mRetFE, mIfE, mAsgE, oNone, oSome, gSl, qSl, fSl, gAll, gAny, qChain, gIn, pNil, pV, pL, mPar2, gCat, ef2, mAppE, mExtE, mPut, eNew, ePop, oPop, iE, iRngE, iSeqE, mForE, gRev, gRevL, iEnu, mHold, gTupR, nl, nlAll, ixN, PyData.isInt, PyData.isBool, PyData.isStr, PyData.isTuple, PyData.isList, PyData.isDict, EnP, la, c]
      rw [whGo, t, Option.bind_some]
      simp [EnP]
    | succ m =>
      have t : tV (q2 gLt (q1 gLen (qV 6)) (qV 4)) (EnP D p (k + 1 : Nat) kind M here acc) h = some true := by
        have c : (acc.length : Int) < M := by omega
        simp [qV, qVs, qC, Sm.q1, Sm.q2, qNl, qIf, aNil, aCons, dOf, dsOf, qTup, fLst, qF, gTru, tV, tAndF, tOrF, tNotF, qT, qAnd, qOr, qNot, gI, gI0, gB0, cMul, cDiv, cPow, gNeg, gAdd, eqI, neI, lstAt, ixAt, lenAt, oPut, newOb, gLen, gInt, gTuple, Sm.f1, Sm.f2, gList, gIsi, gIx, gIsN, gNoN, gIsB, iRng, iRngB, seqOf, iSeqN, iSeq, bName, bNil, bCons, bTup, wipeE, tTrue, mNx, mSeq, mRet, mRetF, mRetN, mRetO, mIf, mSet, mSetO, mBk, mCt, mPre, mLock, mAsg, mFor, startE, resD, runQ, runF, qCall, fCall, arity, eQ, eF, eT, eNil, eCons, Sm.e1, Sm.e2, eTup, efLst, eLock, eIf, etV, eCall, efCall, enl, eNot, eAnd, eOr, resE, runE, runEF, mE, mSetE, mSetOE, mRetE, mRetFE, mIfE, mAsgE, oNone, oSome, gSl, qSl, fSl, gAll, gAny, qChain, gIn, pNil, pV, pL, mPar2, gCat, ef2, mAppE, mExtE, mPut, eNew, ePop, oPop, iE, iRngE, iSeqE, mForE, gRev, gRevL, iEnu, mHold, gTupR, nl, nlAll, ixN, PyData.isInt, PyData.isBool, PyData.isStr, PyData.isTuple, PyData.isList, PyData.isDict, EnP, la, c]
      rw [whGo, t, Option.bind_some, if_pos rfl, rdMany]
      have wk : ((k : Int) + 1 - 1) = k := by omega
      rcases ih here hh with ⟨v, n, e1, e2⟩ | ⟨e1, e, e2⟩
      · obtain ⟨a1, a2, a3, a4, a5, a6⟩ := rdp_bytes k _ v n (hB.drop here) (by rw [List.length_drop]; omega) e1
        rw [List.length_drop] at a5
        have nd := Pv.nl_d v
        have z : (Pv.ds acc).length < sizeLine := by rw [la, sizeLine_eq]; omega
        have b : b_read_plain_1 rec (EnP D p (k + 1 : Nat) kind M here acc) h = some (.nx, (EnP D p (k + 1 : Nat) kind M ((here + n : Nat) : Int) (acc ++ [v])).set 7 (.v (.d v.d)), h) := by
          have e2' : rec [.d (.tuple (iL D)), .d (.int here), .d (.int k)] h = _ := e2
          simp [b_read_plain_1, qV, qVs, qC, Sm.q1, Sm.q2, qNl, qIf, aNil, aCons, dOf, dsOf, qTup, fLst, qF, gTru, tV, tAndF, tOrF, tNotF, qT, qAnd, qOr, qNot, gI, gI0, gB0, cMul, cDiv, cPow, gNeg, gAdd, eqI, neI, lstAt, ixAt, lenAt, oPut, newOb, gLen, gInt, gTuple, Sm.f1, Sm.f2, gList, gIsi, gIx, gIsN, gNoN, gIsB, iRng, iRngB, seqOf, iSeqN, iSeq, bName, bNil, bCons, bTup, wipeE, tTrue, mNx, mSeq, mRet, mRetF, mRetN, mRetO, mIf, mSet, mSetO, mBk, mCt, mPre, mLock, mAsg, mFor, startE, resD, runQ, runF, qCall, fCall, arity, eQ, eF, eT, eNil, eCons, Sm.e1, Sm.e2, eTup, efLst, eLock, eIf, etV, eCall, efCall, enl, eNot, eAnd, eOr, resE, runE, runEF, mE, mSetE, mSetOE, mRetE, mRetFE, mIfE, mAsgE, oNone, oSome, gSl, qSl, fSl, gAll, gAny, qChain, gIn, pNil, pV, pL, mPar2, gCat, ef2, mAppE, mExtE, mPut, eNew, ePop, oPop, iE, iRngE, iSeqE, mForE, gRev, gRevL, iEnu, mHold, gTupR, nl, nlAll, ixN, PyData.isInt, PyData.isBool, PyData.isStr, PyData.isTuple, PyData.isList, PyData.isDict, mAsgX, xNl, xCall, EnP, wk, e2', nd, nl, nlAll, z, ds_app, Pv.ds]
        rw [b, Option.bind_some, e1, Option.bind_some, List.drop_drop]
        show (∃ vs n_1, _ ∧ whGo [7] _ _ f (EnP D p (k + 1 : Nat) kind M ((here + n : Nat) : Int) (acc ++ [v])) h = _) ∨ (_ ∧ ∃ e env, whGo [7] _ _ f (EnP D p (k + 1 : Nat) kind M ((here + n : Nat) : Int) (acc ++ [v])) h = _)
        rcases ihf m (here + n) (acc ++ [v]) M (by omega) (by omega) (by rw [List.length_append, List.length_singleton]; omega) (by rw [List.length_append, List.length_singleton]; omega) with ⟨vs, j, i1, i2⟩ | ⟨i1, e, env, i2⟩
        · refine .inl ⟨v :: vs, n + j, ?_, ?_⟩
          · rw [i1]; rfl
          · rw [i2, List.append_assoc, Nat.add_assoc]; rfl
        · exact .inr ⟨by rw [i1]; rfl, e, env, i2⟩
      · have e2' : rec [.d (.tuple (iL D)), .d (.int here), .d (.int k)] h = _ := e2
        refine .inr ⟨by rw [e1]; rfl, e, EnP D p (k + 1 : Nat) kind M here acc, ?_⟩
        have b : b_read_plain_1 rec (EnP D p (k + 1 : Nat) kind M here acc) h = some (.ex 0 e, EnP D p (k + 1 : Nat) kind M here acc, h) := by
          simp [b_read_plain_1, qV, qVs, qC, Sm.q1, Sm.q2, qNl, qIf, aNil, aCons, dOf, dsOf, qTup, fLst, qF, gTru, tV, tAndF, tOrF, tNotF, qT, qAnd, qOr, qNot, gI, gI0, gB0, cMul, cDiv, cPow, gNeg, gAdd, eqI, neI, lstAt, ixAt, lenAt, oPut, newOb, gLen, gInt, gTuple, Sm.f1, Sm.f2, gList, gIsi, gIx, gIsN, gNoN, gIsB, iRng, iRngB, seqOf, iSeqN, iSeq, bName, bNil, bCons, bTup, wipeE, tTrue, mNx, mSeq, mRet, mRetF, mRetN, mRetO, mIf, mSet, mSetO, mBk, mCt, mPre, mLock, mAsg, mFor, startE, resD, runQ, runF, qCall, fCall, arity, eQ, eF, eT, eNil, eCons, Sm.e1, Sm.e2, eTup, efLst, eLock, eIf, etV, eCall, efCall, enl, eNot, eAnd, eOr, resE, runE, runEF, mE, mSetE, mSetOE, mRetE, mRetFE, mIfE, mAsgE, oNone, oSome, gSl, qSl, fSl, gAll, gAny, qChain, gIn, pNil, pV, pL, mPar2, gCat, ef2, mAppE, mExtE, mPut, eNew, ePop, oPop, iE, iRngE, iSeqE, mForE, gRev, gRevL, iEnu, mHold, gTupR, nl, nlAll, ixN, PyData.isInt, PyData.isBool, PyData.isStr, PyData.isTuple, PyData.isList, PyData.isDict, mAsgX, xNl, xCall, EnP, wk, e2']
        rw [b]
        rfl
theorem eqI' (i j : Int) (h : Hs) : gEq h (.d (.int i)) (.d (.int j)) = some (.d (.bool (decide (i = j)))) := rfl
theorem rp_leaf {rec : List Val → Hs → Option XR} {D : List Int} (hB : Byt D) (hD : D.length ≤ 1000) {p k : Nat} (hp : p ≤ D.length) (h : Hs) (h3 : ∀ t, D.drop p ≠ 3 :: t) : RpOk D p k h (runX 5 (m_read_plain rec)) := by
  unfold RpOk
  rw [rdp_eq]
  have s2 : 2 ≤ sizeLine := by rw [sizeLine_eq]; omega
  have lp : p.log2 < 1000 := log_small (by omega)
  cases z : D.drop p with
  | nil =>
    have e := byte_at_out (List.drop_eq_nil_iff.mp z) (by omega) h
    refine .inr ⟨rfl, D.length, ?_⟩
    simp [m_read_plain, runX, qV, qVs, qC, Sm.q1, Sm.q2, qNl, qIf, aNil, aCons, dOf, dsOf, qTup, fLst, qF, gTru, tV, tAndF, tOrF, tNotF, qT, qAnd, qOr, qNot, gI, gI0, gB0, cMul, cDiv, cPow, gNeg, gAdd, eqI, neI, lstAt, ixAt, lenAt, oPut, newOb, gLen, gInt, gTuple, Sm.f1, Sm.f2, gList, gIsi, gIx, gIsN, gNoN, gIsB, iRng, iRngB, seqOf, iSeqN, iSeq, bName, bNil, bCons, bTup, wipeE, tTrue, mNx, mSeq, mRet, mRetF, mRetN, mRetO, mIf, mSet, mSetO, mBk, mCt, mPre, mLock, mAsg, mFor, startE, resD, runQ, runF, qCall, fCall, arity, eQ, eF, eT, eNil, eCons, Sm.e1, Sm.e2, eTup, efLst, eLock, eIf, etV, eCall, efCall, enl, eNot, eAnd, eOr, resE, runE, runEF, mE, mSetE, mSetOE, mRetE, mRetFE, mIfE, mAsgE, oNone, oSome, gSl, qSl, fSl, gAll, gAny, qChain, gIn, pNil, pV, pL, mPar2, gCat, ef2, mAppE, mExtE, mPut, eNew, ePop, oPop, iE, iRngE, iSeqE, mForE, gRev, gRevL, iEnu, mHold, gTupR, nl, nlAll, ixN, PyData.isInt, PyData.isBool, PyData.isStr, PyData.isTuple, PyData.isList, PyData.isDict, mSetX, xNl, xCall, e, resX]
  | cons b t =>
    have hb : D[p]? = some b := by
      have := congrArg (fun l : List Int => l[0]?) z
      simpa using this
    have hlt : p < D.length := (List.getElem?_eq_some_iff.mp hb).1
    have ht : D.drop (p + 1) = t := by
      have := congrArg List.tail z
      simpa using this
    have e := byte_at_in hb h
    rw [rbc]
    by_cases c0 : b = 0
    · refine .inl ⟨.non, 1, by rw [if_pos c0], ?_⟩
      subst c0
      simp [m_read_plain, runX, qV, qVs, qC, Sm.q1, Sm.q2, qNl, qIf, aNil, aCons, dOf, dsOf, qTup, fLst, qF, gTru, tV, tAndF, tOrF, tNotF, qT, qAnd, qOr, qNot, gI, gI0, gB0, cMul, cDiv, cPow, gNeg, gAdd, eqI, neI, lstAt, ixAt, lenAt, oPut, newOb, gLen, gInt, gTuple, Sm.f1, Sm.f2, gList, gIsi, gIx, gIsN, gNoN, gIsB, iRng, iRngB, seqOf, iSeqN, iSeq, bName, bNil, bCons, bTup, wipeE, tTrue, mNx, mSeq, mRet, mRetF, mRetN, mRetO, mIf, mSet, mSetO, mBk, mCt, mPre, mLock, mAsg, mFor, startE, resD, runQ, runF, qCall, fCall, arity, eQ, eF, eT, eNil, eCons, Sm.e1, Sm.e2, eTup, efLst, eLock, eIf, etV, eCall, efCall, enl, eNot, eAnd, eOr, resE, runE, runEF, mE, mSetE, mSetOE, mRetE, mRetFE, mIfE, mAsgE, oNone, oSome, gSl, qSl, fSl, gAll, gAny, qChain, gIn, pNil, pV, pL, mPar2, gCat, ef2, mAppE, mExtE, mPut, eNew, ePop, oPop, iE, iRngE, iSeqE, mForE, gRev, gRevL, iEnu, mHold, gTupR, nl, nlAll, ixN, PyData.isInt, PyData.isBool, PyData.isStr, PyData.isTuple, PyData.isList, PyData.isDict, mSetX, xNl, xCall, e, resX, resD, c_NOTHING, eqI', nl, s2, Pv.d]
    · rw [if_neg c0]
      by_cases c1 : b = 1
      · subst c1
        rw [if_pos rfl]
        have e' : r_byte_at [.d (.tuple (iL D)), .d (.int p)] h = _ := e
        rcases read_num D (p + 1) hB (by omega) (by omega) h with ⟨m, n, e1, e2⟩ | ⟨e1, er, e2, _, _⟩
        · rw [ht] at e1
          refine .inl ⟨.num m, n + 1, by rw [e1]; rfl, ?_⟩
          have e2 : r_read_number [.d (.tuple (iL D)), .d (.int ((p : Int) + 1))] h = _ := e2
          have w : (p : Int) + 1 + n = p + (n + 1) := by omega
          simp [m_read_plain, runX, qV, qVs, qC, Sm.q1, Sm.q2, qNl, qIf, aNil, aCons, dOf, dsOf, qTup, fLst, qF, gTru, tV, tAndF, tOrF, tNotF, qT, qAnd, qOr, qNot, gI, gI0, gB0, cMul, cDiv, cPow, gNeg, gAdd, eqI, neI, lstAt, ixAt, lenAt, oPut, newOb, gLen, gInt, gTuple, Sm.f1, Sm.f2, gList, gIsi, gIx, gIsN, gNoN, gIsB, iRng, iRngB, seqOf, iSeqN, iSeq, bName, bNil, bCons, bTup, wipeE, tTrue, mNx, mSeq, mRet, mRetF, mRetN, mRetO, mIf, mSet, mSetO, mBk, mCt, mPre, mLock, mAsg, mFor, startE, resD, runQ, runF, qCall, fCall, arity, eQ, eF, eT, eNil, eCons, Sm.e1, Sm.e2, eTup, efLst, eLock, eIf, etV, eCall, efCall, enl, eNot, eAnd, eOr, resE, runE, runEF, mE, mSetE, mSetOE, mRetE, mRetFE, mIfE, mAsgE, oNone, oSome, gSl, qSl, fSl, gAll, gAny, qChain, gIn, pNil, pV, pL, mPar2, gCat, ef2, mAppE, mExtE, mPut, eNew, ePop, oPop, iE, iRngE, iSeqE, mForE, gRev, gRevL, iEnu, mHold, gTupR, nl, nlAll, ixN, PyData.isInt, PyData.isBool, PyData.isStr, PyData.isTuple, PyData.isList, PyData.isDict, mSetX, mRetX, xNl, xCall, e, e2, resX, resD, c_NOTHING, c_NUMBER, eqI', nl, s2, Pv.d, w]
        · rw [ht] at e1
          have e2 : r_read_number [.d (.tuple (iL D)), .d (.int ((p : Int) + 1))] h = _ := e2
          refine .inr ⟨by rw [e1]; rfl, er, ?_⟩
          simp [m_read_plain, runX, qV, qVs, qC, Sm.q1, Sm.q2, qNl, qIf, aNil, aCons, dOf, dsOf, qTup, fLst, qF, gTru, tV, tAndF, tOrF, tNotF, qT, qAnd, qOr, qNot, gI, gI0, gB0, cMul, cDiv, cPow, gNeg, gAdd, eqI, neI, lstAt, ixAt, lenAt, oPut, newOb, gLen, gInt, gTuple, Sm.f1, Sm.f2, gList, gIsi, gIx, gIsN, gNoN, gIsB, iRng, iRngB, seqOf, iSeqN, iSeq, bName, bNil, bCons, bTup, wipeE, tTrue, mNx, mSeq, mRet, mRetF, mRetN, mRetO, mIf, mSet, mSetO, mBk, mCt, mPre, mLock, mAsg, mFor, startE, resD, runQ, runF, qCall, fCall, arity, eQ, eF, eT, eNil, eCons, Sm.e1, Sm.e2, eTup, efLst, eLock, eIf, etV, eCall, efCall, enl, eNot, eAnd, eOr, resE, runE, runEF, mE, mSetE, mSetOE, mRetE, mRetFE, mIfE, mAsgE, oNone, oSome, gSl, qSl, fSl, gAll, gAny, qChain, gIn, pNil, pV, pL, mPar2, gCat, ef2, mAppE, mExtE, mPut, eNew, ePop, oPop, iE, iRngE, iSeqE, mForE, gRev, gRevL, iEnu, mHold, gTupR, nl, nlAll, ixN, PyData.isInt, PyData.isBool, PyData.isStr, PyData.isTuple, PyData.isList, PyData.isDict, mSetX, mRetX, xNl, xCall, e, e2, resX, resD, c_NOTHING, c_NUMBER, eqI', nl, s2, Pv.d]
      · rw [if_neg c1]
        by_cases c2 : b = 2
        · subst c2
          rw [if_pos rfl]
          rcases read_text_ D (p + 1) hB (by omega) (by omega) h with ⟨is, n, e1, e2⟩ | ⟨e1, er, e2, _, _⟩
          · rw [ht] at e1
            refine .inl ⟨.txt is, n + 1, by rw [e1]; rfl, ?_⟩
            have e2 : r_read_text [.d (.tuple (iL D)), .d (.int ((p : Int) + 1))] h = _ := e2
            have w : (p : Int) + 1 + n = p + (n + 1) := by omega
            simp [m_read_plain, runX, qV, qVs, qC, Sm.q1, Sm.q2, qNl, qIf, aNil, aCons, dOf, dsOf, qTup, fLst, qF, gTru, tV, tAndF, tOrF, tNotF, qT, qAnd, qOr, qNot, gI, gI0, gB0, cMul, cDiv, cPow, gNeg, gAdd, eqI, neI, lstAt, ixAt, lenAt, oPut, newOb, gLen, gInt, gTuple, Sm.f1, Sm.f2, gList, gIsi, gIx, gIsN, gNoN, gIsB, iRng, iRngB, seqOf, iSeqN, iSeq, bName, bNil, bCons, bTup, wipeE, tTrue, mNx, mSeq, mRet, mRetF, mRetN, mRetO, mIf, mSet, mSetO, mBk, mCt, mPre, mLock, mAsg, mFor, startE, resD, runQ, runF, qCall, fCall, arity, eQ, eF, eT, eNil, eCons, Sm.e1, Sm.e2, eTup, efLst, eLock, eIf, etV, eCall, efCall, enl, eNot, eAnd, eOr, resE, runE, runEF, mE, mSetE, mSetOE, mRetE, mRetFE, mIfE, mAsgE, oNone, oSome, gSl, qSl, fSl, gAll, gAny, qChain, gIn, pNil, pV, pL, mPar2, gCat, ef2, mAppE, mExtE, mPut, eNew, ePop, oPop, iE, iRngE, iSeqE, mForE, gRev, gRevL, iEnu, mHold, gTupR, nl, nlAll, ixN, PyData.isInt, PyData.isBool, PyData.isStr, PyData.isTuple, PyData.isList, PyData.isDict, mSetX, mRetX, xNl, xCall, e, e2, resX, resD, c_NOTHING, c_NUMBER, c_TEXT, eqI', nl, s2, Pv.d, w]
          · rw [ht] at e1
            have e2 : r_read_text [.d (.tuple (iL D)), .d (.int ((p : Int) + 1))] h = _ := e2
            refine .inr ⟨by rw [e1]; rfl, er, ?_⟩
            simp [m_read_plain, runX, qV, qVs, qC, Sm.q1, Sm.q2, qNl, qIf, aNil, aCons, dOf, dsOf, qTup, fLst, qF, gTru, tV, tAndF, tOrF, tNotF, qT, qAnd, qOr, qNot, gI, gI0, gB0, cMul, cDiv, cPow, gNeg, gAdd, eqI, neI, lstAt, ixAt, lenAt, oPut, newOb, gLen, gInt, gTuple, Sm.f1, Sm.f2, gList, gIsi, gIx, gIsN, gNoN, gIsB, iRng, iRngB, seqOf, iSeqN, iSeq, bName, bNil, bCons, bTup, wipeE, tTrue, mNx, mSeq, mRet, mRetF, mRetN, mRetO, mIf, mSet, mSetO, mBk, mCt, mPre, mLock, mAsg, mFor, startE, resD, runQ, runF, qCall, fCall, arity, eQ, eF, eT, eNil, eCons, Sm.e1, Sm.e2, eTup, efLst, eLock, eIf, etV, eCall, efCall, enl, eNot, eAnd, eOr, resE, runE, runEF, mE, mSetE, mSetOE, mRetE, mRetFE, mIfE, mAsgE, oNone, oSome, gSl, qSl, fSl, gAll, gAny, qChain, gIn, pNil, pV, pL, mPar2, gCat, ef2, mAppE, mExtE, mPut, eNew, ePop, oPop, iE, iRngE, iSeqE, mForE, gRev, gRevL, iEnu, mHold, gTupR, nl, nlAll, ixN, PyData.isInt, PyData.isBool, PyData.isStr, PyData.isTuple, PyData.isList, PyData.isDict, mSetX, mRetX, xNl, xCall, e, e2, resX, resD, c_NOTHING, c_NUMBER, c_TEXT, eqI', nl, s2, Pv.d]
        · rw [if_neg c2]
          have c3 : b ≠ 3 := fun q => h3 t (by rw [z, q])
          rw [if_neg c3]
          refine .inr ⟨rfl, p, ?_⟩
          simp [m_read_plain, runX, qV, qVs, qC, Sm.q1, Sm.q2, qNl, qIf, aNil, aCons, dOf, dsOf, qTup, fLst, qF, gTru, tV, tAndF, tOrF, tNotF, qT, qAnd, qOr, qNot, gI, gI0, gB0, cMul, cDiv, cPow, gNeg, gAdd, eqI, neI, lstAt, ixAt, lenAt, oPut, newOb, gLen, gInt, gTuple, Sm.f1, Sm.f2, gList, gIsi, gIx, gIsN, gNoN, gIsB, iRng, iRngB, seqOf, iSeqN, iSeq, bName, bNil, bCons, bTup, wipeE, tTrue, mNx, mSeq, mRet, mRetF, mRetN, mRetO, mIf, mSet, mSetO, mBk, mCt, mPre, mLock, mAsg, mFor, startE, resD, runQ, runF, qCall, fCall, arity, eQ, eF, eT, eNil, eCons, Sm.e1, Sm.e2, eTup, efLst, eLock, eIf, etV, eCall, efCall, enl, eNot, eAnd, eOr, resE, runE, runEF, mE, mSetE, mSetOE, mRetE, mRetFE, mIfE, mAsgE, oNone, oSome, gSl, qSl, fSl, gAll, gAny, qChain, gIn, pNil, pV, pL, mPar2, gCat, ef2, mAppE, mExtE, mPut, eNew, ePop, oPop, iE, iRngE, iSeqE, mForE, gRev, gRevL, iEnu, mHold, gTupR, nl, nlAll, ixN, PyData.isInt, PyData.isBool, PyData.isStr, PyData.isTuple, PyData.isList, PyData.isDict, mSetX, mRetX, mRaise, xNl, xCall, e, resX, resD, c_NOTHING, c_NUMBER, c_TEXT, c_TUPLE, eqI', neI, nl, s2, Pv.d, c0, c1, c2, c3, lp]
theorem read_plain_ (D : List Int) (hB : Byt D) (hD : D.length ≤ 900) (h : Hs) : ∀ (k j p : Nat), p ≤ D.length → RpOk D p k h (g_read_plain (k + 1 + j)) := by
  intro k
  induction k with
  | zero =>
    intro j p hp
    rw [show 0 + 1 + j = j + 1 by omega]
    by_cases c : ∃ t, D.drop p = 3 :: t
    · obtain ⟨t, z⟩ := c
      have hb : D[p]? = some 3 := by
        have := congrArg (fun l : List Int => l[0]?) z
        simpa using this
      have e := byte_at_in hb h
      have lp : p.log2 < 1000 := log_small (by omega)
      refine .inr ⟨by rw [z]; rfl, p, ?_⟩
      show runX 5 (m_read_plain (g_read_plain j)) _ h = _
      simp [m_read_plain, runX, qV, qVs, qC, Sm.q1, Sm.q2, qNl, qIf, aNil, aCons, dOf, dsOf, qTup, fLst, qF, gTru, tV, tAndF, tOrF, tNotF, qT, qAnd, qOr, qNot, gI, gI0, gB0, cMul, cDiv, cPow, gNeg, gAdd, eqI, neI, lstAt, ixAt, lenAt, oPut, newOb, gLen, gInt, gTuple, Sm.f1, Sm.f2, gList, gIsi, gIx, gIsN, gNoN, gIsB, iRng, iRngB, seqOf, iSeqN, iSeq, bName, bNil, bCons, bTup, wipeE, tTrue, mNx, mSeq, mRet, mRetF, mRetN, mRetO, mIf, mSet, mSetO, mBk, mCt, mPre, mLock, mAsg, mFor, startE, resD, runQ, runF, qCall, fCall, arity, eQ, eF, eT, eNil, eCons, Sm.e1, Sm.e2, eTup, efLst, eLock, eIf, etV, eCall, efCall, enl, eNot, eAnd, eOr, resE, runE, runEF, mE, mSetE, mSetOE, mRetE, mRetFE, mIfE, mAsgE, oNone, oSome, gSl, qSl, fSl, gAll, gAny, qChain, gIn, pNil, pV, pL, mPar2, gCat, ef2, mAppE, mExtE, mPut, eNew, ePop, oPop, iE, iRngE, iSeqE, mForE, gRev, gRevL, iEnu, mHold, gTupR, nl, nlAll, ixN, PyData.isInt, PyData.isBool, PyData.isStr, PyData.isTuple, PyData.isList, PyData.isDict, mSetX, mRetX, mRaise, xNl, xCall, e, resX, resD, c_NOTHING, c_NUMBER, c_TEXT, c_TUPLE, eqI', neI, nl, lp]
    · exact rp_leaf hB (by omega) hp h fun t ht => c ⟨t, ht⟩
  | succ k ih =>
    intro j p hp
    rw [show k + 1 + 1 + j = (k + 1 + j) + 1 by omega]
    have ih := ih j
    by_cases c : ∃ t, D.drop p = 3 :: t
    · obtain ⟨t, z⟩ := c
      have hb : D[p]? = some 3 := by
        have := congrArg (fun l : List Int => l[0]?) z
        simpa using this
      have hlt : p < D.length := (List.getElem?_eq_some_iff.mp hb).1
      have ht : D.drop (p + 1) = t := by
        have := congrArg List.tail z
        simpa using this
      have e := byte_at_in hb h
      have s2 : 2 ≤ sizeLine := by rw [sizeLine_eq]; omega
      show RpOk D p (k + 1) h (runX 5 (m_read_plain (g_read_plain (k + 1 + j))))
      generalize g_read_plain (k + 1 + j) = rec at ih ⊢
      unfold RpOk
      have er : rdp (k + 1) (D.drop p) = (rdn t).bind fun x => (rdMany (rdp k) x.1 (t.drop x.2)).bind fun y => some (Pv.tup y.1, 1 + x.2 + y.2) := by rw [z]; rfl
      rw [er]
      have st : runX 5 (m_read_plain rec) [.d (.tuple (iL D)), .d (.int p), .d (.int (k + 1 : Nat))] h = (m_read_plain rec (startE 5 [.d (.tuple (iL D)), .d (.int p), .d (.int (k + 1 : Nat))]) h).bind fun r => resX r.1 := rfl
      have kn : ¬ ((k : Int) + 1 = 0) := by omega
      rcases read_num D (p + 1) hB (by omega) (by omega) h with ⟨m, n, e1, e2⟩ | ⟨e1, er2, e2, _, _⟩
      · obtain ⟨w1, w2, w3, w4, w5⟩ := rdn_bytes (hB.drop (p + 1)) e1
        rw [List.length_drop] at w3
        rw [ht] at e1
        have e2 : r_read_number [.d (.tuple (iL D)), .d (.int ((p : Int) + 1))] h = _ := e2
        have s0 : ∀ w, m_read_plain rec (startE 5 [.d (.tuple (iL D)), .d (.int p), .d (.int (k + 1 : Nat))]) h = w ↔ mSeq (mWhile 1000 [7] (tV (q2 gLt (q1 gLen (qV 6)) (qV 4))) (b_read_plain_1 rec)) (mRet .mo (qTup (aCons (q1 gTuple (qV 6)) (aCons (qV 5) aNil)))) (EnP D p (k + 1 : Nat) 3 m ((p + 1 + n : Nat) : Int) []) h = w := by
          intro w
          have : m_read_plain rec (startE 5 [.d (.tuple (iL D)), .d (.int p), .d (.int (k + 1 : Nat))]) h = mSeq (mWhile 1000 [7] (tV (q2 gLt (q1 gLen (qV 6)) (qV 4))) (b_read_plain_1 rec)) (mRet .mo (qTup (aCons (q1 gTuple (qV 6)) (aCons (qV 5) aNil)))) (EnP D p (k + 1 : Nat) 3 m ((p + 1 + n : Nat) : Int) []) h := by
            unfold m_read_plain
            rw [seq_nx (env1 := (startE 5 [.d (.tuple (iL D)), .d (.int p), .d (.int (k + 1 : Nat))]).set 3 (.v (.d (.int 3)))) (h1 := h) (by simp [qV, qVs, qC, Sm.q1, Sm.q2, qNl, qIf, aNil, aCons, dOf, dsOf, qTup, fLst, qF, gTru, tV, tAndF, tOrF, tNotF, qT, qAnd, qOr, qNot, gI, gI0, gB0, cMul, cDiv, cPow, gNeg, gAdd, eqI, neI, lstAt, ixAt, lenAt, oPut, newOb, gLen, gInt, gTuple, Sm.f1, Sm.f2, gList, gIsi, gIx, gIsN, gNoN, gIsB, iRng, iRngB, seqOf, iSeqN, iSeq, bName, bNil, bCons, bTup, wipeE, tTrue, mNx, mSeq, mRet, mRetF, mRetN, mRetO, mIf, mSet, mSetO, mBk, mCt, mPre, mLock, mAsg, mFor, startE, resD, runQ, runF, qCall, fCall, arity, eQ, eF, eT, eNil, eCons, Sm.e1, Sm.e2, eTup, efLst, eLock, eIf, etV, eCall, efCall, enl, eNot, eAnd, eOr, resE, runE, runEF, mE, mSetE, mSetOE, mRetE, mRetFE, mIfE, mAsgE, oNone, oSome, gSl, qSl, fSl, gAll, gAny, qChain, gIn, pNil, pV, pL, mPar2, gCat, ef2, mAppE, mExtE, mPut, eNew, ePop, oPop, iE, iRngE, iSeqE, mForE, gRev, gRevL, iEnu, mHold, gTupR, nl, nlAll, ixN, PyData.isInt, PyData.isBool, PyData.isStr, PyData.isTuple, PyData.isList, PyData.isDict, mSetX, xNl, xCall, e, nl])]
            rw [seq_nx (if_f (by simp [qV, qVs, qC, Sm.q1, Sm.q2, qNl, qIf, aNil, aCons, dOf, dsOf, qTup, fLst, qF, gTru, tV, tAndF, tOrF, tNotF, qT, qAnd, qOr, qNot, gI, gI0, gB0, cMul, cDiv, cPow, gNeg, gAdd, eqI, neI, lstAt, ixAt, lenAt, oPut, newOb, gLen, gInt, gTuple, Sm.f1, Sm.f2, gList, gIsi, gIx, gIsN, gNoN, gIsB, iRng, iRngB, seqOf, iSeqN, iSeq, bName, bNil, bCons, bTup, wipeE, tTrue, mNx, mSeq, mRet, mRetF, mRetN, mRetO, mIf, mSet, mSetO, mBk, mCt, mPre, mLock, mAsg, mFor, startE, resD, runQ, runF, qCall, fCall, arity, eQ, eF, eT, eNil, eCons, Sm.e1, Sm.e2, eTup, efLst, eLock, eIf, etV, eCall, efCall, enl, eNot, eAnd, eOr, resE, runE, runEF, mE, mSetE, mSetOE, mRetE, mRetFE, mIfE, mAsgE, oNone, oSome, gSl, qSl, fSl, gAll, gAny, qChain, gIn, pNil, pV, pL, mPar2, gCat, ef2, mAppE, mExtE, mPut, eNew, ePop, oPop, iE, iRngE, iSeqE, mForE, gRev, gRevL, iEnu, mHold, gTupR, nl, nlAll, ixN, PyData.isInt, PyData.isBool, PyData.isStr, PyData.isTuple, PyData.isList, PyData.isDict, c_NOTHING, eqI']) rfl), seq_nx (if_f (by simp [qV, qVs, qC, Sm.q1, Sm.q2, qNl, qIf, aNil, aCons, dOf, dsOf, qTup, fLst, qF, gTru, tV, tAndF, tOrF, tNotF, qT, qAnd, qOr, qNot, gI, gI0, gB0, cMul, cDiv, cPow, gNeg, gAdd, eqI, neI, lstAt, ixAt, lenAt, oPut, newOb, gLen, gInt, gTuple, Sm.f1, Sm.f2, gList, gIsi, gIx, gIsN, gNoN, gIsB, iRng, iRngB, seqOf, iSeqN, iSeq, bName, bNil, bCons, bTup, wipeE, tTrue, mNx, mSeq, mRet, mRetF, mRetN, mRetO, mIf, mSet, mSetO, mBk, mCt, mPre, mLock, mAsg, mFor, startE, resD, runQ, runF, qCall, fCall, arity, eQ, eF, eT, eNil, eCons, Sm.e1, Sm.e2, eTup, efLst, eLock, eIf, etV, eCall, efCall, enl, eNot, eAnd, eOr, resE, runE, runEF, mE, mSetE, mSetOE, mRetE, mRetFE, mIfE, mAsgE, oNone, oSome, gSl, qSl, fSl, gAll, gAny, qChain, gIn, pNil, pV, pL, mPar2, gCat, ef2, mAppE, mExtE, mPut, eNew, ePop, oPop, iE, iRngE, iSeqE, mForE, gRev, gRevL, iEnu, mHold, gTupR, nl, nlAll, ixN, PyData.isInt, PyData.isBool, PyData.isStr, PyData.isTuple, PyData.isList, PyData.isDict, c_NUMBER, eqI']) rfl), seq_nx (if_f (by simp [qV, qVs, qC, Sm.q1, Sm.q2, qNl, qIf, aNil, aCons, dOf, dsOf, qTup, fLst, qF, gTru, tV, tAndF, tOrF, tNotF, qT, qAnd, qOr, qNot, gI, gI0, gB0, cMul, cDiv, cPow, gNeg, gAdd, eqI, neI, lstAt, ixAt, lenAt, oPut, newOb, gLen, gInt, gTuple, Sm.f1, Sm.f2, gList, gIsi, gIx, gIsN, gNoN, gIsB, iRng, iRngB, seqOf, iSeqN, iSeq, bName, bNil, bCons, bTup, wipeE, tTrue, mNx, mSeq, mRet, mRetF, mRetN, mRetO, mIf, mSet, mSetO, mBk, mCt, mPre, mLock, mAsg, mFor, startE, resD, runQ, runF, qCall, fCall, arity, eQ, eF, eT, eNil, eCons, Sm.e1, Sm.e2, eTup, efLst, eLock, eIf, etV, eCall, efCall, enl, eNot, eAnd, eOr, resE, runE, runEF, mE, mSetE, mSetOE, mRetE, mRetFE, mIfE, mAsgE, oNone, oSome, gSl, qSl, fSl, gAll, gAny, qChain, gIn, pNil, pV, pL, mPar2, gCat, ef2, mAppE, mExtE, mPut, eNew, ePop, oPop, iE, iRngE, iSeqE, mForE, gRev, gRevL, iEnu, mHold, gTupR, nl, nlAll, ixN, PyData.isInt, PyData.isBool, PyData.isStr, PyData.isTuple, PyData.isList, PyData.isDict, c_TEXT, eqI']) rfl), seq_nx (if_f (by simp [qV, qVs, qC, Sm.q1, Sm.q2, qNl, qIf, aNil, aCons, dOf, dsOf, qTup, fLst, qF, gTru, tV, tAndF, tOrF, tNotF, qT, qAnd, qOr, qNot, gI, gI0, gB0, cMul, cDiv, cPow, gNeg, gAdd, eqI, neI, lstAt, ixAt, lenAt, oPut, newOb, gLen, gInt, gTuple, Sm.f1, Sm.f2, gList, gIsi, gIx, gIsN, gNoN, gIsB, iRng, iRngB, seqOf, iSeqN, iSeq, bName, bNil, bCons, bTup, wipeE, tTrue, mNx, mSeq, mRet, mRetF, mRetN, mRetO, mIf, mSet, mSetO, mBk, mCt, mPre, mLock, mAsg, mFor, startE, resD, runQ, runF, qCall, fCall, arity, eQ, eF, eT, eNil, eCons, Sm.e1, Sm.e2, eTup, efLst, eLock, eIf, etV, eCall, efCall, enl, eNot, eAnd, eOr, resE, runE, runEF, mE, mSetE, mSetOE, mRetE, mRetFE, mIfE, mAsgE, oNone, oSome, gSl, qSl, fSl, gAll, gAny, qChain, gIn, pNil, pV, pL, mPar2, gCat, ef2, mAppE, mExtE, mPut, eNew, ePop, oPop, iE, iRngE, iSeqE, mForE, gRev, gRevL, iEnu, mHold, gTupR, nl, nlAll, ixN, PyData.isInt, PyData.isBool, PyData.isStr, PyData.isTuple, PyData.isList, PyData.isDict, c_TUPLE, eqI', neI, kn]) rfl)]
            rw [seq_nx (env1 := [.v (.d (.tuple (iL D))), .v (.d (.int p)), .v (.d (.int (k + 1 : Nat))), .v (.d (.int 3)), .v (.d (.int m)), .v (.d (.int ((p + 1 + n : Nat) : Int))), .un, .un]) (h1 := h) (by simp [qV, qVs, qC, Sm.q1, Sm.q2, qNl, qIf, aNil, aCons, dOf, dsOf, qTup, fLst, qF, gTru, tV, tAndF, tOrF, tNotF, qT, qAnd, qOr, qNot, gI, gI0, gB0, cMul, cDiv, cPow, gNeg, gAdd, eqI, neI, lstAt, ixAt, lenAt, oPut, newOb, gLen, gInt, gTuple, Sm.f1, Sm.f2, gList, gIsi, gIx, gIsN, gNoN, gIsB, iRng, iRngB, seqOf, iSeqN, iSeq, bName, bNil, bCons, bTup, wipeE, tTrue, mNx, mSeq, mRet, mRetF, mRetN, mRetO, mIf, mSet, mSetO, mBk, mCt, mPre, mLock, mAsg, mFor, startE, resD, runQ, runF, qCall, fCall, arity, eQ, eF, eT, eNil, eCons, Sm.e1, Sm.e2, eTup, efLst, eLock, eIf, etV, eCall, efCall, enl, eNot, eAnd, eOr, resE, runE, runEF, mE, mSetE, mSetOE, mRetE, mRetFE, mIfE, mAsgE, oNone, oSome, gSl, qSl, fSl, gAll, gAny, qChain, gIn, pNil, pV, pL, mPar2, gCat, ef2, mAppE, mExtE, mPut, eNew, ePop, oPop, iE, iRngE, iSeqE, mForE, gRev, gRevL, iEnu, mHold, gTupR, nl, nlAll, ixN, PyData.isInt, PyData.isBool, PyData.isStr, PyData.isTuple, PyData.isList, PyData.isDict, mAsgX, xNl, xCall, e2, nl, nlAll])]
            rw [seq_nx (env1 := EnP D p (k + 1 : Nat) 3 m ((p + 1 + n : Nat) : Int) []) (h1 := h) (by simp [qV, qVs, qC, Sm.q1, Sm.q2, qNl, qIf, aNil, aCons, dOf, dsOf, qTup, fLst, qF, gTru, tV, tAndF, tOrF, tNotF, qT, qAnd, qOr, qNot, gI, gI0, gB0, cMul, cDiv, cPow, gNeg, gAdd, eqI, neI, lstAt, ixAt, lenAt, oPut, newOb, gLen, gInt, gTuple, Sm.f1, Sm.f2, gList, gIsi, gIx, gIsN, gNoN, gIsB, iRng, iRngB, seqOf, iSeqN, iSeq, bName, bNil, bCons, bTup, wipeE, tTrue, mNx, mSeq, mRet, mRetF, mRetN, mRetO, mIf, mSet, mSetO, mBk, mCt, mPre, mLock, mAsg, mFor, startE, resD, runQ, runF, qCall, fCall, arity, eQ, eF, eT, eNil, eCons, Sm.e1, Sm.e2, eTup, efLst, eLock, eIf, etV, eCall, efCall, enl, eNot, eAnd, eOr, resE, runE, runEF, mE, mSetE, mSetOE, mRetE, mRetFE, mIfE, mAsgE, oNone, oSome, gSl, qSl, fSl, gAll, gAny, qChain, gIn, pNil, pV, pL, mPar2, gCat, ef2, mAppE, mExtE, mPut, eNew, ePop, oPop, iE, iRngE, iSeqE, mForE, gRev, gRevL, iEnu, mHold, gTupR, nl, nlAll, ixN, PyData.isInt, PyData.isBool, PyData.isStr, PyData.isTuple, PyData.isList, PyData.isDict, EnP, Pv.ds])]
          rw [this]
        rw [e1, Option.bind_some]
        simp only
        rcases rpGo (p := p) (kind := 3) hB (by omega) h (fun p hp => ih p hp) 1000 m (p + 1 + n) [] m (by omega) (by omega) (by simp) (by simp; omega) with ⟨vs, i, g1, g2⟩ | ⟨g1, er3, env, g2⟩
        · rw [← List.drop_drop, ht] at g1
          refine .inl ⟨.tup vs, 1 + n + i, by rw [g1]; rfl, ?_⟩
          have g2 : mWhile 1000 [7] (tV (q2 gLt (q1 gLen (qV 6)) (qV 4))) (b_read_plain_1 rec) (EnP D p (k + 1 : Nat) 3 m ((p + 1 + n : Nat) : Int) []) h = _ := g2
          rw [st, (s0 _).mpr (seq_nx g2)]
          have w : (p : Int) + 1 + n + i = p + (1 + n + i) := by omega
          simp [qV, qVs, qC, Sm.q1, Sm.q2, qNl, qIf, aNil, aCons, dOf, dsOf, qTup, fLst, qF, gTru, tV, tAndF, tOrF, tNotF, qT, qAnd, qOr, qNot, gI, gI0, gB0, cMul, cDiv, cPow, gNeg, gAdd, eqI, neI, lstAt, ixAt, lenAt, oPut, newOb, gLen, gInt, gTuple, Sm.f1, Sm.f2, gList, gIsi, gIx, gIsN, gNoN, gIsB, iRng, iRngB, seqOf, iSeqN, iSeq, bName, bNil, bCons, bTup, wipeE, tTrue, mNx, mSeq, mRet, mRetF, mRetN, mRetO, mIf, mSet, mSetO, mBk, mCt, mPre, mLock, mAsg, mFor, startE, resD, runQ, runF, qCall, fCall, arity, eQ, eF, eT, eNil, eCons, Sm.e1, Sm.e2, eTup, efLst, eLock, eIf, etV, eCall, efCall, enl, eNot, eAnd, eOr, resE, runE, runEF, mE, mSetE, mSetOE, mRetE, mRetFE, mIfE, mAsgE, oNone, oSome, gSl, qSl, fSl, gAll, gAny, qChain, gIn, pNil, pV, pL, mPar2, gCat, ef2, mAppE, mExtE, mPut, eNew, ePop, oPop, iE, iRngE, iSeqE, mForE, gRev, gRevL, iEnu, mHold, gTupR, nl, nlAll, ixN, PyData.isInt, PyData.isBool, PyData.isStr, PyData.isTuple, PyData.isList, PyData.isDict, EnP, resX, resD, s2, Pv.d, w]
        · rw [← List.drop_drop, ht] at g1
          refine .inr ⟨by rw [g1]; rfl, er3, ?_⟩
          have g2 : mWhile 1000 [7] (tV (q2 gLt (q1 gLen (qV 6)) (qV 4))) (b_read_plain_1 rec) (EnP D p (k + 1 : Nat) 3 m ((p + 1 + n : Nat) : Int) []) h = _ := g2
          rw [st, (s0 (some (.ex 0 er3, env, h))).mpr (by unfold mSeq; rw [g2]; rfl)]
          rfl
      · rw [ht] at e1
        have e2 : r_read_number [.d (.tuple (iL D)), .d (.int ((p : Int) + 1))] h = _ := e2
        refine .inr ⟨by rw [e1]; rfl, er2, ?_⟩
        simp [m_read_plain, runX, qV, qVs, qC, Sm.q1, Sm.q2, qNl, qIf, aNil, aCons, dOf, dsOf, qTup, fLst, qF, gTru, tV, tAndF, tOrF, tNotF, qT, qAnd, qOr, qNot, gI, gI0, gB0, cMul, cDiv, cPow, gNeg, gAdd, eqI, neI, lstAt, ixAt, lenAt, oPut, newOb, gLen, gInt, gTuple, Sm.f1, Sm.f2, gList, gIsi, gIx, gIsN, gNoN, gIsB, iRng, iRngB, seqOf, iSeqN, iSeq, bName, bNil, bCons, bTup, wipeE, tTrue, mNx, mSeq, mRet, mRetF, mRetN, mRetO, mIf, mSet, mSetO, mBk, mCt, mPre, mLock, mAsg, mFor, startE, resD, runQ, runF, qCall, fCall, arity, eQ, eF, eT, eNil, eCons, Sm.e1, Sm.e2, eTup, efLst, eLock, eIf, etV, eCall, efCall, enl, eNot, eAnd, eOr, resE, runE, runEF, mE, mSetE, mSetOE, mRetE, mRetFE, mIfE, mAsgE, oNone, oSome, gSl, qSl, fSl, gAll, gAny, qChain, gIn, pNil, pV, pL, mPar2, gCat, ef2, mAppE, mExtE, mPut, eNew, ePop, oPop, iE, iRngE, iSeqE, mForE, gRev, gRevL, iEnu, mHold, gTupR, nl, nlAll, ixN, PyData.isInt, PyData.isBool, PyData.isStr, PyData.isTuple, PyData.isList, PyData.isDict, mSetX, mAsgX, mRetX, mRaise, xNl, xCall, e, e2, resX, resD, c_NOTHING, c_NUMBER, c_TEXT, c_TUPLE, eqI', neI, nl, kn]
    · exact rp_leaf hB (by omega) hp h fun t ht => c ⟨t, ht⟩
end K18

set_option Elab.async false
set_option linter.all false
set_option maxRecDepth 100000
set_option maxHeartbeats 1000000
namespace K18
open PySem L2 Evl Sm
/-! ### values that the law finds alike -/
def pln : Nat → PyData → Bool
  | 0, _ => false
  | n + 1, .tuple ds => decide (ds.length ≤ 1000000) && ds.all (pln n)
  | n + 1, .list ds => decide (ds.length ≤ 1000000) && ds.all (pln n)
  | _ + 1, .str s => SeqAt.shaped (.str s)
  | _ + 1, .dict _ => false
  | _ + 1, _ => true
theorem pln_ints (n : Nat) (ns : List Int) : (iL ns).all (pln (n + 1)) = true := by
  rw [List.all_eq_true]
  intro d hd
  obtain ⟨i, _, rfl⟩ := List.mem_map.mp hd
  rfl
theorem eq_str {s : Str} (hs : SeqAt.shaped (.str s) = true) (h : Hs) : gEq h (.d (.str s)) (.d (.str s)) = some (.d (.bool true)) := by
  show (if (SeqAt.shaped (.str s) && SeqAt.shaped (.str s)) = true then some (Val.d (.bool (s == s))) else none) = _
  rw [hs]
  simp
theorem eq_bool (b : Bool) (h : Hs) : gEq h (.d (.bool b)) (.d (.bool b)) = some (.d (.bool true)) := by cases b <;> rfl
theorem same_all {n : Nat} {ds : List PyData} (hl : ds.length ≤ 1000000) (ih : ∀ d ∈ ds, ∀ h, g__law_same n [.d d, .d d] h = some (.d (.bool true))) {x : Val} (hx : x = .d (.tuple ds) ∨ x = .d (.list ds)) (h : Hs) :
    q1 gAll (qF (fLc (iRng (q1 gLen (qV 0))) [2] (bName 2) tTrue (qNl (qCall (arity 2 (g__law_same n)) (aCons (q2 gIx (qV 0) (qV 2)) (aCons (q2 gIx (qV 1) (qV 2)) aNil)))))) [.v x, .v x, .un] h = some (.d (.bool true)) := by
  have hr : iRng (q1 gLen (qV 0)) [.v x, .v x, .un] h = some ((List.range ds.length).map fun k : Nat => PyData.int k) := by
    rcases hx with rfl | rfl
    · exact iRng_of (n := ds.length) rfl (by omega) (by omega)
    · exact iRng_of (n := ds.length) rfl (by omega) (by omega)
  have hz : (List.range ds.length).length ≤ sizeLine := by rw [List.length_range, sizeLine_eq]; omega
  have := all_lc (f := fun k : Nat => PyData.int k) (p := fun _ => true) (vs := [2]) (bn := bName 2) (tt := tTrue) (te := qNl (qCall (arity 2 (g__law_same n)) (aCons (q2 gIx (qV 0) (qV 2)) (aCons (q2 gIx (qV 1) (qV 2)) aNil)))) hr (fun k hk => step_of (env1 := [.v x, .v x, .v (.d (.int k))]) rfl rfl (by
    have hk := List.mem_range.mp hk
    have e := atN (List.getElem?_eq_getElem hk)
    have i := ih ds[k] (List.getElem_mem hk) h
    rcases hx with rfl | rfl <;> simp [qV, qVs, qC, Sm.q1, Sm.q2, qNl, qIf, aNil, aCons, dOf, dsOf, qTup, fLst, qF, gTru, tV, tAndF, tOrF, tNotF, qT, qAnd, qOr, qNot, gI, gI0, gB0, cMul, cDiv, cPow, gNeg, gAdd, eqI, neI, lstAt, ixAt, lenAt, oPut, newOb, gLen, gInt, gTuple, Sm.f1, Sm.f2, gList, gIsi, gIx, gIsN, gNoN, gIsB, iRng, iRngB, seqOf, iSeqN, iSeq, bName, bNil, bCons, bTup, wipeE, tTrue, mNx, mSeq, mRet, mRetF, mRetN, mRetO, mIf, mSet, mSetO, mBk, mCt, mPre, mLock, mAsg, mFor, startE, resD, runQ, runF, qCall, fCall, arity, eQ, eF, eT, eNil, eCons, Sm.e1, Sm.e2, eTup, efLst, eLock, eIf, etV, eCall, efCall, enl, eNot, eAnd, eOr, resE, runE, runEF, mE, mSetE, mSetOE, mRetE, mRetFE, mIfE, mAsgE, oNone, oSome, gSl, qSl, fSl, gAll, gAny, qChain, gIn, pNil, pV, pL, mPar2, gCat, ef2, mAppE, mExtE, mPut, eNew, ePop, oPop, iE, iRngE, iSeqE, mForE, gRev, gRevL, iEnu, mHold, gTupR, nl, nlAll, ixN, PyData.isInt, PyData.isBool, PyData.isStr, PyData.isTuple, PyData.isList, PyData.isDict, e, i, nl])) hz
  rw [this]
  simp
theorem same_ : ∀ (n : Nat) (d : PyData), pln n d = true → ∀ h : Hs, g__law_same n [.d d, .d d] h = some (.d (.bool true)) := by
  intro n
  induction n with
  | zero => intro d hd; cases hd
  | succ n ih =>
    intro d hd h
    show runQ 1 (m__law_same (g__law_same n)) [.d d, .d d] h = _
    cases d with
    | none => simp [m__law_same, qV, qVs, qC, Sm.q1, Sm.q2, qNl, qIf, aNil, aCons, dOf, dsOf, qTup, fLst, qF, gTru, tV, tAndF, tOrF, tNotF, qT, qAnd, qOr, qNot, gI, gI0, gB0, cMul, cDiv, cPow, gNeg, gAdd, eqI, neI, lstAt, ixAt, lenAt, oPut, newOb, gLen, gInt, gTuple, Sm.f1, Sm.f2, gList, gIsi, gIx, gIsN, gNoN, gIsB, iRng, iRngB, seqOf, iSeqN, iSeq, bName, bNil, bCons, bTup, wipeE, tTrue, mNx, mSeq, mRet, mRetF, mRetN, mRetO, mIf, mSet, mSetO, mBk, mCt, mPre, mLock, mAsg, mFor, startE, resD, runQ, runF, qCall, fCall, arity, eQ, eF, eT, eNil, eCons, Sm.e1, Sm.e2, eTup, efLst, eLock, eIf, etV, eCall, efCall, enl, eNot, eAnd, eOr, resE, runE, runEF, mE, mSetE, mSetOE, mRetE, mRetFE, mIfE, mAsgE, oNone, oSome, gSl, qSl, fSl, gAll, gAny, qChain, gIn, pNil, pV, pL, mPar2, gCat, ef2, mAppE, mExtE, mPut, eNew, ePop, oPop, iE, iRngE, iSeqE, mForE, gRev, gRevL, iEnu, mHold, gTupR, nl, nlAll, ixN, PyData.isInt, PyData.isBool, PyData.isStr, PyData.isTuple, PyData.isList, PyData.isDict]
    | bool b => 
      have := eq_bool b h
      simp [m__law_same, qV, qVs, qC, Sm.q1, Sm.q2, qNl, qIf, aNil, aCons, dOf, dsOf, qTup, fLst, qF, gTru, tV, tAndF, tOrF, tNotF, qT, qAnd, qOr, qNot, gI, gI0, gB0, cMul, cDiv, cPow, gNeg, gAdd, eqI, neI, lstAt, ixAt, lenAt, oPut, newOb, gLen, gInt, gTuple, Sm.f1, Sm.f2, gList, gIsi, gIx, gIsN, gNoN, gIsB, iRng, iRngB, seqOf, iSeqN, iSeq, bName, bNil, bCons, bTup, wipeE, tTrue, mNx, mSeq, mRet, mRetF, mRetN, mRetO, mIf, mSet, mSetO, mBk, mCt, mPre, mLock, mAsg, mFor, startE, resD, runQ, runF, qCall, fCall, arity, eQ, eF, eT, eNil, eCons, Sm.e1, Sm.e2, eTup, efLst, eLock, eIf, etV, eCall, efCall, enl, eNot, eAnd, eOr, resE, runE, runEF, mE, mSetE, mSetOE, mRetE, mRetFE, mIfE, mAsgE, oNone, oSome, gSl, qSl, fSl, gAll, gAny, qChain, gIn, pNil, pV, pL, mPar2, gCat, ef2, mAppE, mExtE, mPut, eNew, ePop, oPop, iE, iRngE, iSeqE, mForE, gRev, gRevL, iEnu, mHold, gTupR, nl, nlAll, ixN, PyData.isInt, PyData.isBool, PyData.isStr, PyData.isTuple, PyData.isList, PyData.isDict, this]
    | int i => simp [m__law_same, qV, qVs, qC, Sm.q1, Sm.q2, qNl, qIf, aNil, aCons, dOf, dsOf, qTup, fLst, qF, gTru, tV, tAndF, tOrF, tNotF, qT, qAnd, qOr, qNot, gI, gI0, gB0, cMul, cDiv, cPow, gNeg, gAdd, eqI, neI, lstAt, ixAt, lenAt, oPut, newOb, gLen, gInt, gTuple, Sm.f1, Sm.f2, gList, gIsi, gIx, gIsN, gNoN, gIsB, iRng, iRngB, seqOf, iSeqN, iSeq, bName, bNil, bCons, bTup, wipeE, tTrue, mNx, mSeq, mRet, mRetF, mRetN, mRetO, mIf, mSet, mSetO, mBk, mCt, mPre, mLock, mAsg, mFor, startE, resD, runQ, runF, qCall, fCall, arity, eQ, eF, eT, eNil, eCons, Sm.e1, Sm.e2, eTup, efLst, eLock, eIf, etV, eCall, efCall, enl, eNot, eAnd, eOr, resE, runE, runEF, mE, mSetE, mSetOE, mRetE, mRetFE, mIfE, mAsgE, oNone, oSome, gSl, qSl, fSl, gAll, gAny, qChain, gIn, pNil, pV, pL, mPar2, gCat, ef2, mAppE, mExtE, mPut, eNew, ePop, oPop, iE, iRngE, iSeqE, mForE, gRev, gRevL, iEnu, mHold, gTupR, nl, nlAll, ixN, PyData.isInt, PyData.isBool, PyData.isStr, PyData.isTuple, PyData.isList, PyData.isDict, eqI]
    | str s =>
      have hd : SeqAt.shaped (.str s) = true := hd
      simp [m__law_same, qV, qVs, qC, Sm.q1, Sm.q2, qNl, qIf, aNil, aCons, dOf, dsOf, qTup, fLst, qF, gTru, tV, tAndF, tOrF, tNotF, qT, qAnd, qOr, qNot, gI, gI0, gB0, cMul, cDiv, cPow, gNeg, gAdd, eqI, neI, lstAt, ixAt, lenAt, oPut, newOb, gLen, gInt, gTuple, Sm.f1, Sm.f2, gList, gIsi, gIx, gIsN, gNoN, gIsB, iRng, iRngB, seqOf, iSeqN, iSeq, bName, bNil, bCons, bTup, wipeE, tTrue, mNx, mSeq, mRet, mRetF, mRetN, mRetO, mIf, mSet, mSetO, mBk, mCt, mPre, mLock, mAsg, mFor, startE, resD, runQ, runF, qCall, fCall, arity, eQ, eF, eT, eNil, eCons, Sm.e1, Sm.e2, eTup, efLst, eLock, eIf, etV, eCall, efCall, enl, eNot, eAnd, eOr, resE, runE, runEF, mE, mSetE, mSetOE, mRetE, mRetFE, mIfE, mAsgE, oNone, oSome, gSl, qSl, fSl, gAll, gAny, qChain, gIn, pNil, pV, pL, mPar2, gCat, ef2, mAppE, mExtE, mPut, eNew, ePop, oPop, iE, iRngE, iSeqE, mForE, gRev, gRevL, iEnu, mHold, gTupR, nl, nlAll, ixN, PyData.isInt, PyData.isBool, PyData.isStr, PyData.isTuple, PyData.isList, PyData.isDict, eq_str hd h]
    | dict _ => cases hd
    | tuple ds =>
      have hd : (decide (ds.length ≤ 1000000) && ds.all (pln n)) = true := hd
      rw [Bool.and_eq_true, decide_eq_true_eq, List.all_eq_true] at hd
      have a := same_all hd.1 (fun d h1 h2 => ih d (hd.2 d h1) h2) (.inl rfl) h
      show (m__law_same _ [.v (.d (.tuple ds)), .v (.d (.tuple ds)), .un] h).bind _ = _
      unfold m__law_same
      rw [seq_rt (ℓ := .mo) (x := .d (.bool true)) (env1 := [.v (.d (.tuple ds)), .v (.d (.tuple ds)), .un]) (h1 := h) (if_t (by simp [qV, qVs, qC, Sm.q1, Sm.q2, qNl, qIf, aNil, aCons, dOf, dsOf, qTup, fLst, qF, gTru, tV, tAndF, tOrF, tNotF, qT, qAnd, qOr, qNot, gI, gI0, gB0, cMul, cDiv, cPow, gNeg, gAdd, eqI, neI, lstAt, ixAt, lenAt, oPut, newOb, gLen, gInt, gTuple, Sm.f1, Sm.f2, gList, gIsi, gIx, gIsN, gNoN, gIsB, iRng, iRngB, seqOf, iSeqN, iSeq, bName, bNil, bCons, bTup, wipeE, tTrue, mNx, mSeq, mRet, mRetF, mRetN, mRetO, mIf, mSet, mSetO, mBk, mCt, mPre, mLock, mAsg, mFor, startE, resD, runQ, runF, qCall, fCall, arity, eQ, eF, eT, eNil, eCons, Sm.e1, Sm.e2, eTup, efLst, eLock, eIf, etV, eCall, efCall, enl, eNot, eAnd, eOr, resE, runE, runEF, mE, mSetE, mSetOE, mRetE, mRetFE, mIfE, mAsgE, oNone, oSome, gSl, qSl, fSl, gAll, gAny, qChain, gIn, pNil, pV, pL, mPar2, gCat, ef2, mAppE, mExtE, mPut, eNew, ePop, oPop, iE, iRngE, iSeqE, mForE, gRev, gRevL, iEnu, mHold, gTupR, nl, nlAll, ixN, PyData.isInt, PyData.isBool, PyData.isStr, PyData.isTuple, PyData.isList, PyData.isDict]) (ret_q (by
        unfold qAnd
        rw [q2_of (x := .d (.int ds.length)) (y := .d (.int ds.length)) (z := some (.d (.bool true))) rfl rfl (by rw [eqI]; simp), Option.bind_some]
        exact a)))]
      rfl
    | list ds =>
      have hd : (decide (ds.length ≤ 1000000) && ds.all (pln n)) = true := hd
      rw [Bool.and_eq_true, decide_eq_true_eq, List.all_eq_true] at hd
      have a := same_all hd.1 (fun d h1 h2 => ih d (hd.2 d h1) h2) (.inr rfl) h
      show (m__law_same _ [.v (.d (.list ds)), .v (.d (.list ds)), .un] h).bind _ = _
      unfold m__law_same
      rw [seq_rt (ℓ := .mo) (x := .d (.bool true)) (env1 := [.v (.d (.list ds)), .v (.d (.list ds)), .un]) (h1 := h) (if_t (by simp [qV, qVs, qC, Sm.q1, Sm.q2, qNl, qIf, aNil, aCons, dOf, dsOf, qTup, fLst, qF, gTru, tV, tAndF, tOrF, tNotF, qT, qAnd, qOr, qNot, gI, gI0, gB0, cMul, cDiv, cPow, gNeg, gAdd, eqI, neI, lstAt, ixAt, lenAt, oPut, newOb, gLen, gInt, gTuple, Sm.f1, Sm.f2, gList, gIsi, gIx, gIsN, gNoN, gIsB, iRng, iRngB, seqOf, iSeqN, iSeq, bName, bNil, bCons, bTup, wipeE, tTrue, mNx, mSeq, mRet, mRetF, mRetN, mRetO, mIf, mSet, mSetO, mBk, mCt, mPre, mLock, mAsg, mFor, startE, resD, runQ, runF, qCall, fCall, arity, eQ, eF, eT, eNil, eCons, Sm.e1, Sm.e2, eTup, efLst, eLock, eIf, etV, eCall, efCall, enl, eNot, eAnd, eOr, resE, runE, runEF, mE, mSetE, mSetOE, mRetE, mRetFE, mIfE, mAsgE, oNone, oSome, gSl, qSl, fSl, gAll, gAny, qChain, gIn, pNil, pV, pL, mPar2, gCat, ef2, mAppE, mExtE, mPut, eNew, ePop, oPop, iE, iRngE, iSeqE, mForE, gRev, gRevL, iEnu, mHold, gTupR, nl, nlAll, ixN, PyData.isInt, PyData.isBool, PyData.isStr, PyData.isTuple, PyData.isList, PyData.isDict]) (ret_q (by
        unfold qAnd
        rw [q2_of (x := .d (.int ds.length)) (y := .d (.int ds.length)) (z := some (.d (.bool true))) rfl rfl (by rw [eqI]; simp), Option.bind_some]
        exact a)))]
      rfl
theorem same_t {n : Nat} {d : PyData} {qa qb : Q1} {env : En} {h : Hs} (ea : qa env h = some (.d d)) (eb : qb env h = some (.d d)) (hp : pln n d = true) : tNotF (tV (qCall (arity 2 (g__law_same n)) (aCons qa (aCons qb aNil)))) env h = some false := by
  have := same_ n d hp h
  simp [tNotF, tV, qCall, aCons, aNil, ea, eb, arity, this, gTru]
/-! ### drawing -/
section
variable {env : En} {h : Hs} {j : Nat} {q : Q1} {a : E1} {Q : Val → Hs → Prop}
abbrev dr (j : Nat) (a : E1) : E1 := eCall (arity 2 r__law_draw) (eCons (eQ (qVs j)) (eCons a eNil))
theorem log9 {m : Int} (h0 : 0 < m) (h1 : m ≤ 100000000) : m.natAbs.log2 < 9000 := by
  have h0' : m.natAbs ≠ 0 := by omega
  rw [Nat.log2_lt h0']
  exact Nat.lt_of_le_of_lt (by omega : m.natAbs ≤ 100000000) (Nat.lt_of_lt_of_le (by decide : 100000000 < 2 ^ 27) (Nat.pow_le_pow_right (by decide) (by decide)))
theorem dr_ (hj : env[j]? = some (.v (.ref 1))) (k : evE a env h fun x h1 => ∃ m : Int, x = .d (.int m) ∧ 0 < m ∧ m ≤ 100000000 ∧ Bx h1 ∧ ∀ (d : Nat) h2, (d : Int) < m → Bx h2 → Q (.d (.int d)) h2) : evE (dr j a) env h Q := by
  obtain ⟨x, h1, e, m, rfl, m0, m1, hb, k⟩ := k
  obtain ⟨d, h2, e2, d0, d1, b2⟩ := draw_ m m0 (log9 m0 m1) hb
  obtain ⟨d, rfl⟩ := Int.eq_ofNat_of_zero_le d0
  refine evE.call (evA.cons (evE.pq (x := .ref 1) (by unfold qVs; rw [hj]) (evA.cons ⟨_, _, e, evA.nil ⟨_, _, ?_, k d h2 d1 b2⟩⟩)))
  exact e2
theorem drq (hj : env[j]? = some (.v (.ref 1))) {m : Int} (e : q env h = some (.d (.int m))) (hb : Bx h) (m0 : 0 < m) (m1 : m ≤ 100000000) (k : ∀ (d : Nat) h2, (d : Int) < m → Bx h2 → Q (.d (.int d)) h2) : evE (dr j (eQ q)) env h Q :=
  dr_ hj (.pq e ⟨m, rfl, m0, m1, hb, k⟩)
end
end K18

set_option Elab.async false
set_option linter.all false
set_option maxRecDepth 100000
set_option maxHeartbeats 1000000
namespace K18
open PySem L2 Evl Sm
/-! ### drawn texts -/
def az : List Nat := [0, 25, 26, 35, 36]
theorem az_at : ∀ d : Nat, d < 5 → atI (("az09-" : Str).cps.toList) (d : Int) = some (sgc (az.getD d 0)) ∧ az.getD d 0 < 37 := by decide +kernel
theorem az_len : ("az09-" : Str).length = 5 := by decide +kernel
section
variable {env : En} {h : Hs} {j i : Nat} {Q : Val → Hs → Prop}
abbrev txE (j i : Nat) (m : Int) : E1 := e1 (gJoin "") (eLock (efLc (iRngE (dr j (eQ (qC (.d (.int m)))))) [i] (bName i) tTrue (enl (e2 gIx (eQ (qC (.d (.str "az09-")))) (dr j (eQ (qC (.d (.int 5)))))))))
theorem txE_ {m : Int} (hj : env[j]? = some (.v (.ref 1))) (hij : j ≠ i) (hb : Bx h) (m0 : 0 < m) (m1 : m ≤ 1000) (k : ∀ (is : List Nat) h', Sg is → (is.length : Int) < m → Bx h' → Q (.d (.str (tx is))) h') : evE (txE j i m) env h Q := by
  obtain ⟨x, h1, e, d, rfl, hd, hd1, b1⟩ : evE (dr j (eQ (qC (.d (.int m))))) env h fun x h1 => ∃ d : Nat, x = .d (.int d) ∧ (d : Int) < m ∧ d < 1000 ∧ Bx h1 :=
    drq hj rfl hb m0 (by omega) fun d h1 hd b => ⟨d, rfl, hd, by omega, b⟩
  refine evE.e1 (evE.lock (evF.lc (fun y => ∃ i : Nat, y = PyData.str ⟨#[sgc i]⟩ ∧ i < 37) Bx (rngE_of e (by omega) (by omega)) b1 (by simp; omega) (fun x hx h hb => ?_) fun ys h' hl hr hb => ?_))
  · refine ⟨(wipeE env [i]).set i (.v (.d x)), rfl, ?_⟩
    have hj' : ((wipeE env [i]).set i (.v (.d x)))[j]? = some (.v (.ref 1)) := by
      show ((env.set i .un).set i (.v (.d x)))[j]? = _
      rw [List.getElem?_set_ne (Ne.symm hij), List.getElem?_set_ne (Ne.symm hij), hj]
    refine evE.nl (evE.e2 (evE.pq rfl (drq hj' rfl hb (by decide) (by decide) fun c h1 hc b => ?_)))
    obtain ⟨a1, a2⟩ := az_at c (by omega)
    have : 5 ≤ sizeLine := by rw [sizeLine_eq]; omega
    refine ⟨.d (.str ⟨#[sgc (az.getD c 0)]⟩), ?_, ⟨_, rfl, rfl⟩, _, rfl, b, _, rfl, a2⟩
    show (if ("az09-" : Str).length ≤ sizeLine then _ else none) = _
    rw [az_len, if_pos this, a1]
    rfl
  · obtain ⟨is, rfl, hs⟩ := map_of hr
    rw [List.length_map] at hl
    have hl' : is.length = d := by simpa using hl
    have := join_q (q := qF (fun _ _ => some (is.map fun i => PyData.str ⟨#[sgc i]⟩))) (is := is) (env := env) (h := h') rfl (by omega)
    exact ⟨_, this, k is h' hs (by omega) hb⟩
end
/-! ### drawn plain values -/
def bd : Nat → Nat
  | 0 => 6
  | d + 1 => 2 + 3 * bd d
theorem bd6 : ∀ d, 6 ≤ bd d
  | 0 => Nat.le_refl _
  | d + 1 => by have := bd6 d; rw [bd]; omega
theorem nb_small {k n : Nat} (hk : k ≤ 399) (h : n < 128 ^ (k + 1)) : (nb n).length ≤ k + 1 := by
  rw [nb_of hk h]
  exact nbs_len k n
theorem bs_len {vs : List Pv} {b : Nat} (h : ∀ v ∈ vs, v.b.length ≤ b) : (Pv.bs vs).length ≤ vs.length * b := by
  induction vs with
  | nil => simp [Pv.bs]
  | cons v vs ih =>
    rw [Pv.bs, List.length_append, List.length_cons, Nat.succ_mul]
    have := h v (by simp)
    have := ih fun w hw => h w (by simp [hw])
    omega
theorem law_plain_ : ∀ (n deep : Nat), deep < n → ∀ h, Bx h → ∃ (v : Pv) (h' : Hs), g__law_plain n [.ref 1, .d (.int deep)] h = some (.d v.d, h') ∧ v.ok ∧ v.dp ≤ deep ∧ v.b.length ≤ bd deep ∧ Bx h'
  | 0, _, hn, _, _ => by omega
  | n + 1, deep, hn, h, hb => by
    have w : wp (m__law_plain (g__law_plain n)) [.v (.ref 1), .v (.d (.int deep)), .un, .un] h (fun r e h' => ∃ v : Pv, r = .rt .st (.d v.d) ∧ v.ok ∧ v.dp ≤ deep ∧ v.b.length ≤ bd deep ∧ Bx h') := by
      have b6 := bd6 deep
      refine wp.sq (wp.setE (drq (m := if 0 < deep then 6 else 3) rfl (by by_cases c : 0 < deep <;> simp [qV, qVs, qC, Sm.q1, Sm.q2, qNl, qIf, aNil, aCons, dOf, dsOf, qTup, fLst, qF, gTru, tV, tAndF, tOrF, tNotF, qT, qAnd, qOr, qNot, gI, gI0, gB0, cMul, cDiv, cPow, gNeg, gAdd, eqI, neI, lstAt, ixAt, lenAt, oPut, newOb, gLen, gInt, gTuple, Sm.f1, Sm.f2, gList, gIsi, gIx, gIsN, gNoN, gIsB, iRng, iRngB, seqOf, iSeqN, iSeq, bName, bNil, bCons, bTup, wipeE, tTrue, mNx, mSeq, mRet, mRetF, mRetN, mRetO, mIf, mSet, mSetO, mBk, mCt, mPre, mLock, mAsg, mFor, startE, resD, runQ, runF, qCall, fCall, arity, eQ, eF, eT, eNil, eCons, Sm.e1, Sm.e2, eTup, efLst, eLock, eIf, etV, eCall, efCall, enl, eNot, eAnd, eOr, resE, runE, runEF, mE, mSetE, mSetOE, mRetE, mRetFE, mIfE, mAsgE, oNone, oSome, gSl, qSl, fSl, gAll, gAny, qChain, gIn, pNil, pV, pL, mPar2, gCat, ef2, mAppE, mExtE, mPut, eNew, ePop, oPop, iE, iRngE, iSeqE, mForE, gRev, gRevL, iEnu, mHold, gTupR, nl, nlAll, ixN, PyData.isInt, PyData.isBool, PyData.isStr, PyData.isTuple, PyData.isList, PyData.isDict, c]) hb (by split <;> decide) (by split <;> decide) fun d h1 hd b1 => ⟨rfl, ?_⟩))
      by_cases c : d < 3
      · refine wp.seq (wp.yes (by simp [qV, qVs, qC, Sm.q1, Sm.q2, qNl, qIf, aNil, aCons, dOf, dsOf, qTup, fLst, qF, gTru, tV, tAndF, tOrF, tNotF, qT, qAnd, qOr, qNot, gI, gI0, gB0, cMul, cDiv, cPow, gNeg, gAdd, eqI, neI, lstAt, ixAt, lenAt, oPut, newOb, gLen, gInt, gTuple, Sm.f1, Sm.f2, gList, gIsi, gIx, gIsN, gNoN, gIsB, iRng, iRngB, seqOf, iSeqN, iSeq, bName, bNil, bCons, bTup, wipeE, tTrue, mNx, mSeq, mRet, mRetF, mRetN, mRetO, mIf, mSet, mSetO, mBk, mCt, mPre, mLock, mAsg, mFor, startE, resD, runQ, runF, qCall, fCall, arity, eQ, eF, eT, eNil, eCons, Sm.e1, Sm.e2, eTup, efLst, eLock, eIf, etV, eCall, efCall, enl, eNot, eAnd, eOr, resE, runE, runEF, mE, mSetE, mSetOE, mRetE, mRetFE, mIfE, mAsgE, oNone, oSome, gSl, qSl, fSl, gAll, gAny, qChain, gIn, pNil, pV, pL, mPar2, gCat, ef2, mAppE, mExtE, mPut, eNew, ePop, oPop, iE, iRngE, iSeqE, mForE, gRev, gRevL, iEnu, mHold, gTupR, nl, nlAll, ixN, PyData.isInt, PyData.isBool, PyData.isStr, PyData.isTuple, PyData.isList, PyData.isDict]; omega) (wp.retE (evE.nl (evE.e2 (evE.tup (evA.cons (evE.pq (x := .d .none) rfl (evA.cons (evE.e2 (drq (m := 300) rfl rfl b1 (by decide) (by decide) fun x h2 hx b2 => ?_))))))))))
        refine drq (m := 70000) rfl rfl b2 (by decide) (by decide) fun y h3 hy b3 => ⟨.d (.int ((x * y : Nat) : Int)), ?_, evA.cons (txE_ (j := 0) (i := 3) (m := 5) rfl (by decide) b3 (by decide) (by decide) fun is h4 hs hl b4 => evA.nil ⟨_, rfl, (by decide : 3 ≤ 1000000), ?_⟩)⟩
        · have cm : cMul x y = true := by
            have : x < 2 ^ 64 := by omega
            simp [cMul, this]
          show (if cMul x y = true then _ else _) = _
          rw [if_pos cm]
          simp
        · have hd3 : d = 0 ∨ d = 1 ∨ d = 2 := by omega
          rcases hd3 with rfl | rfl | rfl
          · exact evE.pq (x := .d (.int 0)) rfl ⟨.d .none, rfl, ⟨_, rfl, rfl⟩, fun z => (by cases z), fun _ => ⟨.non, rfl, trivial, Nat.zero_le _, by rw [Pv.b]; show 1 ≤ _; omega, b4⟩⟩
          · have hxy : x * y < 128 ^ 4 := by
              have : x * y ≤ 300 * 70000 := Nat.mul_le_mul (by omega) (by omega)
              omega
            refine evE.pq (x := .d (.int 1)) rfl ⟨.d (.int ((x * y : Nat) : Int)), rfl, ⟨_, rfl, rfl⟩, fun z => (by cases z), fun _ => ⟨.num (x * y), rfl, Nat.lt_of_lt_of_le hxy (Nat.pow_le_pow_right (by decide) (by decide)), Nat.zero_le _, ?_, b4⟩⟩
            have := nb_small (k := 3) (by decide) hxy
            rw [Pv.b, List.length_cons]
            omega
          · have hi : is.length < 5 := by omega
            refine evE.pq (x := .d (.int 2)) rfl ⟨.d (.str (tx is)), rfl, ⟨_, rfl, rfl⟩, fun z => (by cases z), fun _ => ⟨.txt is, rfl, ⟨hs, by omega⟩, Nat.zero_le _, ?_, b4⟩⟩
            have := nb_small (k := 0) (by decide) (show is.length < 128 ^ (0 + 1) by omega)
            rw [Pv.b, List.length_cons, List.length_append, iN_len]
            omega
      · have h3 : 0 < deep := by
          by_cases z : 0 < deep
          · exact z
          · rw [if_neg z] at hd; omega
        obtain ⟨dp, rfl⟩ : ∃ k, deep = k + 1 := ⟨deep - 1, by omega⟩
        refine wp.sq (wp.no (by simp [qV, qVs, qC, Sm.q1, Sm.q2, qNl, qIf, aNil, aCons, dOf, dsOf, qTup, fLst, qF, gTru, tV, tAndF, tOrF, tNotF, qT, qAnd, qOr, qNot, gI, gI0, gB0, cMul, cDiv, cPow, gNeg, gAdd, eqI, neI, lstAt, ixAt, lenAt, oPut, newOb, gLen, gInt, gTuple, Sm.f1, Sm.f2, gList, gIsi, gIx, gIsN, gNoN, gIsB, iRng, iRngB, seqOf, iSeqN, iSeq, bName, bNil, bCons, bTup, wipeE, tTrue, mNx, mSeq, mRet, mRetF, mRetN, mRetO, mIf, mSet, mSetO, mBk, mCt, mPre, mLock, mAsg, mFor, startE, resD, runQ, runF, qCall, fCall, arity, eQ, eF, eT, eNil, eCons, Sm.e1, Sm.e2, eTup, efLst, eLock, eIf, etV, eCall, efCall, enl, eNot, eAnd, eOr, resE, runE, runEF, mE, mSetE, mSetOE, mRetE, mRetFE, mIfE, mAsgE, oNone, oSome, gSl, qSl, fSl, gAll, gAny, qChain, gIn, pNil, pV, pL, mPar2, gCat, ef2, mAppE, mExtE, mPut, eNew, ePop, oPop, iE, iRngE, iSeqE, mForE, gRev, gRevL, iEnu, mHold, gTupR, nl, nlAll, ixN, PyData.isInt, PyData.isBool, PyData.isStr, PyData.isTuple, PyData.isList, PyData.isDict]; omega) (wp.nx ⟨rfl, ?_⟩))
        obtain ⟨x, h2, e, m, rfl, hm, b2⟩ : evE (dr 0 (eQ (qC (.d (.int 4))))) [.v (.ref 1), .v (.d (.int (dp + 1 : Nat))), .v (.d (.int d)), .un] h1 fun x h1 => ∃ d : Nat, x = .d (.int d) ∧ d < 4 ∧ Bx h1 :=
          drq rfl rfl b1 (by decide) (by decide) fun d h1 hd b => ⟨d, rfl, by omega, b⟩
        refine wp.retE (evE.nl (evE.e1 (evE.lock (evF.lc (fun y => ∃ v : Pv, y = v.d ∧ v.ok ∧ v.dp ≤ dp ∧ v.b.length ≤ bd dp) Bx (rngE_of e (by omega) (by omega)) b2 (by simp; omega) (fun x hx h hb => ?_) fun ys h' hl hr hb => ?_))))
        · refine ⟨[.v (.ref 1), .v (.d (.int (dp + 1 : Nat))), .v (.d (.int d)), .v (.d x)], rfl, ?_⟩
          obtain ⟨v, h', e, v1, v2, v3, v4⟩ := law_plain_ n dp (by omega) h hb
          refine evE.call (evA.cons (evE.pq (x := .ref 1) rfl (evA.cons (evE.pq (x := .d (.int dp)) (by simp [qV, qVs, qC, Sm.q1, Sm.q2, qNl, qIf, aNil, aCons, dOf, dsOf, qTup, fLst, qF, gTru, tV, tAndF, tOrF, tNotF, qT, qAnd, qOr, qNot, gI, gI0, gB0, cMul, cDiv, cPow, gNeg, gAdd, eqI, neI, lstAt, ixAt, lenAt, oPut, newOb, gLen, gInt, gTuple, Sm.f1, Sm.f2, gList, gIsi, gIx, gIsN, gNoN, gIsB, iRng, iRngB, seqOf, iSeqN, iSeq, bName, bNil, bCons, bTup, wipeE, tTrue, mNx, mSeq, mRet, mRetF, mRetN, mRetO, mIf, mSet, mSetO, mBk, mCt, mPre, mLock, mAsg, mFor, startE, resD, runQ, runF, qCall, fCall, arity, eQ, eF, eT, eNil, eCons, Sm.e1, Sm.e2, eTup, efLst, eLock, eIf, etV, eCall, efCall, enl, eNot, eAnd, eOr, resE, runE, runEF, mE, mSetE, mSetOE, mRetE, mRetFE, mIfE, mAsgE, oNone, oSome, gSl, qSl, fSl, gAll, gAny, qChain, gIn, pNil, pV, pL, mPar2, gCat, ef2, mAppE, mExtE, mPut, eNew, ePop, oPop, iE, iRngE, iSeqE, mForE, gRev, gRevL, iEnu, mHold, gTupR, nl, nlAll, ixN, PyData.isInt, PyData.isBool, PyData.isStr, PyData.isTuple, PyData.isList, PyData.isDict]) (evA.nil ⟨_, _, e, _, rfl, v4, v, rfl, v1, v2, v3⟩)))))
        · obtain ⟨vs, rfl, hs⟩ := map_of hr
          rw [List.length_map] at hl
          have hl' : vs.length = m := by simpa using hl
          refine ⟨.d (.tuple (vs.map Pv.d)), rfl, ⟨_, rfl, ?_⟩, .tup vs, ?_, ⟨by omega, Pv.oks_mem.mpr fun v hv => (hs v hv).1⟩, ?_, ?_, hb⟩
          · have := Pv.nl_ds vs
            rw [Pv.ds_map] at this
            exact this
          · rw [Pv.d, Pv.ds_map]
          · rw [Pv.dp]
            exact Nat.succ_le_succ (Pv.dps_mem.mpr fun v hv => (hs v hv).2.1)
          · have q := bs_len fun v hv => (hs v hv).2.2
            have := nb_small (k := 0) (by decide) (show vs.length < 128 ^ (0 + 1) by omega)
            have : vs.length * bd dp ≤ 3 * bd dp := Nat.mul_le_mul_right _ (by omega)
            rw [Pv.b, List.length_cons, List.length_append, bd]
            omega
    obtain ⟨r, e, h', e1, v, rfl, rest⟩ := w
    exact ⟨v, h', by show (m__law_plain (g__law_plain n) _ h).bind resE = _; rw [show startE 2 [.ref 1, .d (.int deep)] = [.v (.ref 1), .v (.d (.int deep)), .un, .un] from rfl, e1]; rfl, rest⟩
end K18

set_option Elab.async false
set_option linter.all false
set_option maxRecDepth 100000
set_option maxHeartbeats 1000000
namespace K18
open PySem L2 Evl Sm
section
variable {env : En} {h : Hs} {j i : Nat} {Q : Val → Hs → Prop}
/-- drawn bytes -/
theorem byE_ {a te : E1} {lo hi : Nat} (hh : hi ≤ 1000) (ha : evE a env h fun x h1 => ∃ d : Nat, x = .d (.int d) ∧ lo ≤ d ∧ d ≤ hi ∧ Bx h1)
    (ht : ∀ (x : PyData) (h : Hs), Bx h → evE te ((wipeE env [i]).set i (.v (.d x))) h fun y h' => ∃ b : Int, y = .d (.int b) ∧ 0 ≤ b ∧ b < 256 ∧ Bx h')
    (k : ∀ (D : List Int) h', Byt D → lo ≤ D.length → D.length ≤ hi → Bx h' → Q (.d (.tuple (iL D))) h') : evE (e1 gTuple (eLock (efLc (iRngE a) [i] (bName i) tTrue te))) env h Q := by
  obtain ⟨x, h1, e, d, rfl, d0, d1, b1⟩ := ha
  refine evE.e1 (evE.lock (evF.lc (fun y => ∃ b : Int, y = PyData.int b ∧ (0 ≤ b ∧ b < 256)) Bx (rngE_of e (by omega) (by omega)) b1 (by simp; omega) (fun x hx h hb => ⟨_, rfl, ?_⟩) fun ys h' hl hr hb => ?_))
  · obtain ⟨y, h', e, b, rfl, b0, b1, b2⟩ := ht x h hb
    exact ⟨_, _, e, _, rfl, b2, b, rfl, b0, b1⟩
  · obtain ⟨D, rfl, hD⟩ := map_of hr
    rw [List.length_map] at hl
    have hl' : D.length = d := by simpa using hl
    exact ⟨_, rfl, k D h' hD (by omega) (by omega) hb⟩
theorem set_at {s : Sl} (hij : j ≠ i) (hj : env[j]? = some s) (x : Sl) : ((wipeE env [i]).set i x)[j]? = some s := by
  show ((env.set i .un).set i x)[j]? = _
  rw [List.getElem?_set_ne (Ne.symm hij), List.getElem?_set_ne (Ne.symm hij), hj]
/-- the drawn number -/
abbrev nuE : E1 := (e2 gMul (eCall (arity 2 r__law_draw) (eCons (eQ (qVs 1)) (eCons (e2 gIx (eQ (qTup (aCons (qC (.d (.int 3))) (aCons (qC (.d (.int 300))) (aCons (qC (.d (.int 70000))) (aCons (qC (.d (.int 9999999))) aNil)))))) (eCall (arity 2 r__law_draw) (eCons (eQ (qVs 1)) (eCons (eQ (qC (.d (.int 4)))) eNil)))) eNil))) (eIf (etV (e2 gEq (eCall (arity 2 r__law_draw) (eCons (eQ (qVs 1)) (eCons (eQ (qC (.d (.int 6)))) eNil))) (eQ (qC (.d (.int 0)))))) (eQ (qC (.d (.int 1237940039285380274899124224)))) (eQ (qC (.d (.int 1))))))
theorem four_at : ∀ c : Nat, c < 4 → ∃ m : Nat, atI [PyData.int 3, PyData.int 300, PyData.int 70000, PyData.int 9999999] (c : Int) = some (.int m) ∧ 0 < m ∧ m ≤ 9999999 := by
  intro c hc
  have : c = 0 ∨ c = 1 ∨ c = 2 ∨ c = 3 := by omega
  rcases this with rfl | rfl | rfl | rfl
  · exact ⟨3, rfl, by decide, by decide⟩
  · exact ⟨300, rfl, by decide, by decide⟩
  · exact ⟨70000, rfl, by decide, by decide⟩
  · exact ⟨9999999, rfl, by decide, by decide⟩
theorem nuE_ (hj : env[1]? = some (.v (.ref 1))) (hb : Bx h) (k : ∀ (n : Nat) h', n < 128 ^ 17 → Bx h' → Q (.d (.int n)) h') : evE nuE env h Q := by
  refine evE.e2 (dr_ hj (evE.e2 (evE.pq (x := .d (.tuple [.int 3, .int 300, .int 70000, .int 9999999])) ?_ (drq hj rfl hb (by decide) (by decide) fun c h1 hc b1 => ?_))))
  · have : 4 ≤ sizeLine := by rw [sizeLine_eq]; omega
    simp [qV, qVs, qC, Sm.q1, Sm.q2, qNl, qIf, aNil, aCons, dOf, dsOf, qTup, fLst, qF, gTru, tV, tAndF, tOrF, tNotF, qT, qAnd, qOr, qNot, gI, gI0, gB0, cMul, cDiv, cPow, gNeg, gAdd, eqI, neI, lstAt, ixAt, lenAt, oPut, newOb, gLen, gInt, gTuple, Sm.f1, Sm.f2, gList, gIsi, gIx, gIsN, gNoN, gIsB, iRng, iRngB, seqOf, iSeqN, iSeq, bName, bNil, bCons, bTup, wipeE, tTrue, mNx, mSeq, mRet, mRetF, mRetN, mRetO, mIf, mSet, mSetO, mBk, mCt, mPre, mLock, mAsg, mFor, startE, resD, runQ, runF, qCall, fCall, arity, eQ, eF, eT, eNil, eCons, Sm.e1, Sm.e2, eTup, efLst, eLock, eIf, etV, eCall, efCall, enl, eNot, eAnd, eOr, resE, runE, runEF, mE, mSetE, mSetOE, mRetE, mRetFE, mIfE, mAsgE, oNone, oSome, gSl, qSl, fSl, gAll, gAny, qChain, gIn, pNil, pV, pL, mPar2, gCat, ef2, mAppE, mExtE, mPut, eNew, ePop, oPop, iE, iRngE, iSeqE, mForE, gRev, gRevL, iEnu, mHold, gTupR, nl, nlAll, ixN, PyData.isInt, PyData.isBool, PyData.isStr, PyData.isTuple, PyData.isList, PyData.isDict, this]
  · obtain ⟨m, e, m0, m1⟩ := four_at c (by omega)
    refine ⟨.d (.int m), ?_, m, rfl, by omega, by omega, b1, fun d h2 hd b2 => evE.ite (evT.v (evE.e2 (drq hj rfl b2 (by decide) (by decide) fun c6 h3 hc b3 => evE.pq (x := .d (.int 0)) rfl ⟨.d (.bool (decide ((c6 : Int) = 0))), rfl, _, _, rfl, rfl, ?_⟩)))⟩
    · show (atI _ _).map _ = _
      rw [e]; rfl
    · by_cases z : (c6 : Int) = 0
      · rw [if_pos (by simp [z])]
        refine evE.pq (x := .d (.int 1237940039285380274899124224)) rfl ⟨.d (.int ((d * 1237940039285380274899124224 : Nat) : Int)), ?_, k _ _ ?_ b3⟩
        · have cm : cMul d 1237940039285380274899124224 = true := by
            have : d < 2 ^ 64 := by omega
            simp [cMul, this]
          show (if cMul _ _ = true then _ else _) = _
          rw [if_pos cm]
          simp
        · have : d < 9999999 := by omega
          omega
      · rw [if_neg (by simpa using z)]
        refine evE.pq (x := .d (.int 1)) rfl ⟨.d (.int d), ?_, k _ _ ?_ b3⟩
        · have cm : cMul d 1 = true := by
            have : d < 2 ^ 64 := by omega
            simp [cMul, this]
          show (if cMul _ _ = true then _ else _) = _
          rw [if_pos cm]
          simp
        · omega
end
/-! ### read back, as the law says it -/
theorem plus_iL (a b c : List Int) : iL a ++ iL b ++ iL c = iL (a ++ b ++ c) := by simp
theorem readn_ok {head cs tail D : List Int} {n : Nat} (hn : n < 128 ^ 400) (hc : cs = nb n) (hD : D = head ++ cs ++ tail) (hl : D.length ≤ 1000) (h : Hs) :
    r_read_number [.d (.tuple (iL D)), .d (.int head.length)] h = some (.ok (.d (.tuple [.int n, .int ((head.length + cs.length : Nat) : Int)]))) := by
  subst hc hD
  exact read_back head tail 399 n hn (by decide) (Nat.le_trans hl (by decide)) h
theorem readt_ok {head cs tail D : List Int} {is : List Nat} (hs : Sg is) (hi : is.length ≤ 1000) (hc : cs = nb is.length ++ iN is) (hD : D = head ++ cs ++ tail) (hB : Byt D) (hl : D.length ≤ 1000) (h : Hs) :
    r_read_text [.d (.tuple (iL D)), .d (.int head.length)] h = some (.ok (.d (.tuple [.str (tx is), .int ((head.length + cs.length : Nat) : Int)]))) := by
  have e : D.drop head.length = (nb is.length ++ iN is) ++ tail := by rw [hD, List.append_assoc, List.drop_left, hc]
  have r := rdt_back is hs hi tail
  rcases read_text_ D head.length hB hl (by rw [hD]; simp) h with ⟨is', n, e1, e2⟩ | ⟨e1, _⟩
  · rw [e, r] at e1
    cases e1
    rw [e2, hc]
  · rw [e, r] at e1
    cases e1
theorem readp_ok {head tail D : List Int} {v : Pv} {k : Nat} (hv : v.ok) (hk : v.dp ≤ k) (hD : D = head ++ v.b ++ tail) (hB : Byt D) (hl : D.length ≤ 900) (j : Nat) (h : Hs) :
    g_read_plain (k + 1 + j) [.d (.tuple (iL D)), .d (.int head.length), .d (.int k)] h = some (.ok (.d (.tuple [v.d, .int ((head.length + v.b.length : Nat) : Int)]))) := by
  have e : D.drop head.length = v.b ++ tail := by rw [hD, List.append_assoc, List.drop_left]
  have r := rdp_back k v hv hk tail
  rcases read_plain_ D hB hl h k j head.length (by rw [hD]; simp) with ⟨v', n, e1, e2⟩ | ⟨e1, _⟩
  · rw [e, r] at e1
    cases e1
    exact e2
  · rw [e, r] at e1
    cases e1
/-! ### what the law finds when it asks -/
theorem lna_ok {D : List Int} {p : Int} {d : PyData} {h : Hs} (e : r_read_number [.d (.tuple (iL D)), .d (.int p)] h = some (.ok (.d d))) (hn : nl d = true) : r__law_number_at [.d (.tuple (iL D)), .d (.int p)] h = some (.d (.tuple [d, .none])) := by
  have s2 : 2 ≤ sizeLine := by rw [sizeLine_eq]; omega
  simp [r__law_number_at, m__law_number_at, qV, qVs, qC, Sm.q1, Sm.q2, qNl, qIf, aNil, aCons, dOf, dsOf, qTup, fLst, qF, gTru, tV, tAndF, tOrF, tNotF, qT, qAnd, qOr, qNot, gI, gI0, gB0, cMul, cDiv, cPow, gNeg, gAdd, eqI, neI, lstAt, ixAt, lenAt, oPut, newOb, gLen, gInt, gTuple, Sm.f1, Sm.f2, gList, gIsi, gIx, gIsN, gNoN, gIsB, iRng, iRngB, seqOf, iSeqN, iSeq, bName, bNil, bCons, bTup, wipeE, tTrue, mNx, mSeq, mRet, mRetF, mRetN, mRetO, mIf, mSet, mSetO, mBk, mCt, mPre, mLock, mAsg, mFor, startE, resD, runQ, runF, qCall, fCall, arity, eQ, eF, eT, eNil, eCons, Sm.e1, Sm.e2, eTup, efLst, eLock, eIf, etV, eCall, efCall, enl, eNot, eAnd, eOr, resE, runE, runEF, mE, mSetE, mSetOE, mRetE, mRetFE, mIfE, mAsgE, oNone, oSome, gSl, qSl, fSl, gAll, gAny, qChain, gIn, pNil, pV, pL, mPar2, gCat, ef2, mAppE, mExtE, mPut, eNew, ePop, oPop, iE, iRngE, iSeqE, mForE, gRev, gRevL, iEnu, mHold, gTupR, nl, nlAll, ixN, PyData.isInt, PyData.isBool, PyData.isStr, PyData.isTuple, PyData.isList, PyData.isDict, mTryA, mSetX, xNl, xCall, e, s2, hn]
theorem lna_er {D : List Int} {p n : Int} {h : Hs} (e : r_read_number [.d (.tuple (iL D)), .d (.int p)] h = some (.error (0, n))) : r__law_number_at [.d (.tuple (iL D)), .d (.int p)] h = some (.d (.tuple [.none, .int n])) := by
  have s2 : 2 ≤ sizeLine := by rw [sizeLine_eq]; omega
  simp [r__law_number_at, m__law_number_at, qV, qVs, qC, Sm.q1, Sm.q2, qNl, qIf, aNil, aCons, dOf, dsOf, qTup, fLst, qF, gTru, tV, tAndF, tOrF, tNotF, qT, qAnd, qOr, qNot, gI, gI0, gB0, cMul, cDiv, cPow, gNeg, gAdd, eqI, neI, lstAt, ixAt, lenAt, oPut, newOb, gLen, gInt, gTuple, Sm.f1, Sm.f2, gList, gIsi, gIx, gIsN, gNoN, gIsB, iRng, iRngB, seqOf, iSeqN, iSeq, bName, bNil, bCons, bTup, wipeE, tTrue, mNx, mSeq, mRet, mRetF, mRetN, mRetO, mIf, mSet, mSetO, mBk, mCt, mPre, mLock, mAsg, mFor, startE, resD, runQ, runF, qCall, fCall, arity, eQ, eF, eT, eNil, eCons, Sm.e1, Sm.e2, eTup, efLst, eLock, eIf, etV, eCall, efCall, enl, eNot, eAnd, eOr, resE, runE, runEF, mE, mSetE, mSetOE, mRetE, mRetFE, mIfE, mAsgE, oNone, oSome, gSl, qSl, fSl, gAll, gAny, qChain, gIn, pNil, pV, pL, mPar2, gCat, ef2, mAppE, mExtE, mPut, eNew, ePop, oPop, iE, iRngE, iSeqE, mForE, gRev, gRevL, iEnu, mHold, gTupR, nl, nlAll, ixN, PyData.isInt, PyData.isBool, PyData.isStr, PyData.isTuple, PyData.isList, PyData.isDict, mTryA, mSetX, xNl, xCall, e, s2]
theorem lpa_ok {D : List Int} {p : Int} {d : PyData} {h : Hs} (e : g_read_plain 14 [.d (.tuple (iL D)), .d (.int p), .d (.int 12)] h = some (.ok (.d d))) (hn : nl d = true) : r__law_plain_at [.d (.tuple (iL D)), .d (.int p)] h = some (.d (.tuple [d, .none])) := by
  have s2 : 2 ≤ sizeLine := by rw [sizeLine_eq]; omega
  simp [r__law_plain_at, m__law_plain_at, qV, qVs, qC, Sm.q1, Sm.q2, qNl, qIf, aNil, aCons, dOf, dsOf, qTup, fLst, qF, gTru, tV, tAndF, tOrF, tNotF, qT, qAnd, qOr, qNot, gI, gI0, gB0, cMul, cDiv, cPow, gNeg, gAdd, eqI, neI, lstAt, ixAt, lenAt, oPut, newOb, gLen, gInt, gTuple, Sm.f1, Sm.f2, gList, gIsi, gIx, gIsN, gNoN, gIsB, iRng, iRngB, seqOf, iSeqN, iSeq, bName, bNil, bCons, bTup, wipeE, tTrue, mNx, mSeq, mRet, mRetF, mRetN, mRetO, mIf, mSet, mSetO, mBk, mCt, mPre, mLock, mAsg, mFor, startE, resD, runQ, runF, qCall, fCall, arity, eQ, eF, eT, eNil, eCons, Sm.e1, Sm.e2, eTup, efLst, eLock, eIf, etV, eCall, efCall, enl, eNot, eAnd, eOr, resE, runE, runEF, mE, mSetE, mSetOE, mRetE, mRetFE, mIfE, mAsgE, oNone, oSome, gSl, qSl, fSl, gAll, gAny, qChain, gIn, pNil, pV, pL, mPar2, gCat, ef2, mAppE, mExtE, mPut, eNew, ePop, oPop, iE, iRngE, iSeqE, mForE, gRev, gRevL, iEnu, mHold, gTupR, nl, nlAll, ixN, PyData.isInt, PyData.isBool, PyData.isStr, PyData.isTuple, PyData.isList, PyData.isDict, mTryA, mSetX, xNl, xCall, e, s2, hn]
theorem lpa_er {D : List Int} {p n : Int} {h : Hs} (e : g_read_plain 14 [.d (.tuple (iL D)), .d (.int p), .d (.int 12)] h = some (.error (0, n))) : r__law_plain_at [.d (.tuple (iL D)), .d (.int p)] h = some (.d (.tuple [.none, .int n])) := by
  have s2 : 2 ≤ sizeLine := by rw [sizeLine_eq]; omega
  simp [r__law_plain_at, m__law_plain_at, qV, qVs, qC, Sm.q1, Sm.q2, qNl, qIf, aNil, aCons, dOf, dsOf, qTup, fLst, qF, gTru, tV, tAndF, tOrF, tNotF, qT, qAnd, qOr, qNot, gI, gI0, gB0, cMul, cDiv, cPow, gNeg, gAdd, eqI, neI, lstAt, ixAt, lenAt, oPut, newOb, gLen, gInt, gTuple, Sm.f1, Sm.f2, gList, gIsi, gIx, gIsN, gNoN, gIsB, iRng, iRngB, seqOf, iSeqN, iSeq, bName, bNil, bCons, bTup, wipeE, tTrue, mNx, mSeq, mRet, mRetF, mRetN, mRetO, mIf, mSet, mSetO, mBk, mCt, mPre, mLock, mAsg, mFor, startE, resD, runQ, runF, qCall, fCall, arity, eQ, eF, eT, eNil, eCons, Sm.e1, Sm.e2, eTup, efLst, eLock, eIf, etV, eCall, efCall, enl, eNot, eAnd, eOr, resE, runE, runEF, mE, mSetE, mSetOE, mRetE, mRetFE, mIfE, mAsgE, oNone, oSome, gSl, qSl, fSl, gAll, gAny, qChain, gIn, pNil, pV, pL, mPar2, gCat, ef2, mAppE, mExtE, mPut, eNew, ePop, oPop, iE, iRngE, iSeqE, mForE, gRev, gRevL, iEnu, mHold, gTupR, nl, nlAll, ixN, PyData.isInt, PyData.isBool, PyData.isStr, PyData.isTuple, PyData.isList, PyData.isDict, mTryA, mSetX, xNl, xCall, e, s2]
theorem lpt_ok {D : List Int} {p : Int} {d : PyData} {h : Hs} (e : g_read_plain 14 [.d (.tuple (iL D)), .d (.int 0), .d (.int p)] h = some (.ok (.d d))) (hn : nl d = true) : r__law_plain_to [.d (.tuple (iL D)), .d (.int p)] h = some (.d (.tuple [d, .none])) := by
  have s2 : 2 ≤ sizeLine := by rw [sizeLine_eq]; omega
  simp [r__law_plain_to, m__law_plain_to, qV, qVs, qC, Sm.q1, Sm.q2, qNl, qIf, aNil, aCons, dOf, dsOf, qTup, fLst, qF, gTru, tV, tAndF, tOrF, tNotF, qT, qAnd, qOr, qNot, gI, gI0, gB0, cMul, cDiv, cPow, gNeg, gAdd, eqI, neI, lstAt, ixAt, lenAt, oPut, newOb, gLen, gInt, gTuple, Sm.f1, Sm.f2, gList, gIsi, gIx, gIsN, gNoN, gIsB, iRng, iRngB, seqOf, iSeqN, iSeq, bName, bNil, bCons, bTup, wipeE, tTrue, mNx, mSeq, mRet, mRetF, mRetN, mRetO, mIf, mSet, mSetO, mBk, mCt, mPre, mLock, mAsg, mFor, startE, resD, runQ, runF, qCall, fCall, arity, eQ, eF, eT, eNil, eCons, Sm.e1, Sm.e2, eTup, efLst, eLock, eIf, etV, eCall, efCall, enl, eNot, eAnd, eOr, resE, runE, runEF, mE, mSetE, mSetOE, mRetE, mRetFE, mIfE, mAsgE, oNone, oSome, gSl, qSl, fSl, gAll, gAny, qChain, gIn, pNil, pV, pL, mPar2, gCat, ef2, mAppE, mExtE, mPut, eNew, ePop, oPop, iE, iRngE, iSeqE, mForE, gRev, gRevL, iEnu, mHold, gTupR, nl, nlAll, ixN, PyData.isInt, PyData.isBool, PyData.isStr, PyData.isTuple, PyData.isList, PyData.isDict, mTryA, mSetX, xNl, xCall, e, s2, hn]
theorem lpt_er {D : List Int} {p n : Int} {h : Hs} (e : g_read_plain 14 [.d (.tuple (iL D)), .d (.int 0), .d (.int p)] h = some (.error (0, n))) : r__law_plain_to [.d (.tuple (iL D)), .d (.int p)] h = some (.d (.tuple [.none, .int n])) := by
  have s2 : 2 ≤ sizeLine := by rw [sizeLine_eq]; omega
  simp [r__law_plain_to, m__law_plain_to, qV, qVs, qC, Sm.q1, Sm.q2, qNl, qIf, aNil, aCons, dOf, dsOf, qTup, fLst, qF, gTru, tV, tAndF, tOrF, tNotF, qT, qAnd, qOr, qNot, gI, gI0, gB0, cMul, cDiv, cPow, gNeg, gAdd, eqI, neI, lstAt, ixAt, lenAt, oPut, newOb, gLen, gInt, gTuple, Sm.f1, Sm.f2, gList, gIsi, gIx, gIsN, gNoN, gIsB, iRng, iRngB, seqOf, iSeqN, iSeq, bName, bNil, bCons, bTup, wipeE, tTrue, mNx, mSeq, mRet, mRetF, mRetN, mRetO, mIf, mSet, mSetO, mBk, mCt, mPre, mLock, mAsg, mFor, startE, resD, runQ, runF, qCall, fCall, arity, eQ, eF, eT, eNil, eCons, Sm.e1, Sm.e2, eTup, efLst, eLock, eIf, etV, eCall, efCall, enl, eNot, eAnd, eOr, resE, runE, runEF, mE, mSetE, mSetOE, mRetE, mRetFE, mIfE, mAsgE, oNone, oSome, gSl, qSl, fSl, gAll, gAny, qChain, gIn, pNil, pV, pL, mPar2, gCat, ef2, mAppE, mExtE, mPut, eNew, ePop, oPop, iE, iRngE, iSeqE, mForE, gRev, gRevL, iEnu, mHold, gTupR, nl, nlAll, ixN, PyData.isInt, PyData.isBool, PyData.isStr, PyData.isTuple, PyData.isList, PyData.isDict, mTryA, mSetX, xNl, xCall, e, s2]
theorem lna_ (D : List Int) (hB : Byt D) (hD : D.length ≤ 1000) (h : Hs) :
    (∃ m n : Nat, nb m = D.take n ∧ m < 128 ^ 400 ∧ n ≤ D.length ∧ r__law_number_at [.d (.tuple (iL D)), .d (.int 0)] h = some (.d (.tuple [.tuple [.int m, .int n], .none]))) ∨
    (∃ e : Int, 0 ≤ e ∧ e ≤ D.length ∧ r__law_number_at [.d (.tuple (iL D)), .d (.int 0)] h = some (.d (.tuple [.none, .int e]))) := by
  rcases read_num D 0 hB (by omega) (by omega) h with ⟨m, n, e1, e2⟩ | ⟨e1, e, e2, b0, b1⟩
  · obtain ⟨w1, w2, w3, w4, w5⟩ := rdn_bytes (hB.drop 0) e1
    rw [List.drop_zero] at w1 w3
    rw [Nat.zero_add] at e2
    exact .inl ⟨m, n, w1, Nat.lt_of_lt_of_le w5 (Nat.pow_le_pow_right (by decide) w4), w3, lna_ok e2 rfl⟩
  · exact .inr ⟨e, b0, b1, lna_er e2⟩
theorem lna_no (D : List Int) (hB : Byt D) (hD : D.length ≤ 1000) (hr : rdn D = none) (h : Hs) : ∃ e : Int, 0 ≤ e ∧ e ≤ D.length ∧ r__law_number_at [.d (.tuple (iL D)), .d (.int 0)] h = some (.d (.tuple [.none, .int e])) := by
  rcases read_num D 0 hB (by omega) (by omega) h with ⟨m, n, e1, e2⟩ | ⟨e1, e, e2, b0, b1⟩
  · rw [List.drop_zero, hr] at e1; cases e1
  · exact ⟨e, b0, b1, lna_er e2⟩
theorem lpa_ (D : List Int) (hB : Byt D) (hD : D.length ≤ 900) (h : Hs) :
    (∃ (v : Pv) (n : Nat), v.ok ∧ v.b = D.take n ∧ n ≤ D.length ∧ 2 * v.dp ≤ n ∧ r__law_plain_at [.d (.tuple (iL D)), .d (.int 0)] h = some (.d (.tuple [.tuple [v.d, .int n], .none]))) ∨
    (∃ e : Int, r__law_plain_at [.d (.tuple (iL D)), .d (.int 0)] h = some (.d (.tuple [.none, .int e]))) := by
  rcases read_plain_ D hB hD h 12 1 0 (by omega) with ⟨v, n, e1, e2⟩ | ⟨e1, e, e2⟩
  · obtain ⟨a1, a2, a3, a4, a5, a6⟩ := rdp_bytes 12 _ v n (hB.drop 0) (by simp; omega) e1
    rw [List.drop_zero] at a3 a5
    rw [Nat.zero_add] at e2
    exact .inl ⟨v, n, a1, a3, a5, a6, lpa_ok e2 (by simp [nl, nlAll, Pv.nl_d])⟩
  · exact .inr ⟨e, lpa_er e2⟩
theorem scn_hi : ∀ (r : List Int) (c : Nat), (∀ x ∈ r, 128 ≤ x) → scn r c = .out ∨ scn r c = .long
  | [], _, _ => .inl rfl
  | x :: r, c, h => by
    have h1 := h x (by simp)
    by_cases h2 : 400 ≤ c + 1
    · simp [scn, h1, h2]
    · rcases scn_hi r (c + 1) fun y hy => h y (by simp [hy]) with e | e <;> simp [scn, h1, h2, e, Sc.cons]
theorem rdn_hi {r : List Int} (h : ∀ x ∈ r, 128 ≤ x) : rdn r = none := by
  unfold rdn
  rcases scn_hi r 0 h with e | e <;> rw [e]
theorem nbs_hi : ∀ (k n : Nat), ∀ x ∈ (nbs k n).dropLast, 128 ≤ x
  | 0, n, x, hx => by simp [nbs] at hx
  | k + 1, n, x, hx => by
    unfold nbs at hx
    split at hx
    · simp at hx
    · have : nbs k (n / 128) ≠ [] := by
        have := nb_len1
        intro e
        cases k with
        | zero => simp [nbs] at e
        | succ k => unfold nbs at e; split at e <;> simp at e
      rw [List.dropLast_cons_of_ne_nil this] at hx
      rcases List.mem_cons.mp hx with rfl | hx
      · omega
      · exact nbs_hi k _ x hx
theorem shaped_tx {is : List Nat} (hs : Sg is) : SeqAt.shaped (.str (tx is)) = true := by
  have a : ((List.range 37).all fun i => decide (sgc i < 1114112)) = true := by decide +kernel
  have b : PyData.strOk (tx is) = true := by
    unfold PyData.strOk
    rw [← Array.all_toList, tx_list, List.all_eq_true]
    intro c hc
    obtain ⟨i, hi, rfl⟩ := List.mem_map.mp hc
    exact List.all_eq_true.mp a i (List.mem_range.mpr (hs i hi))
  show (PyData.strOk (tx is) && decide (PyData.depth (.str (tx is)) ≤ 64)) = true
  rw [b]
  rfl
theorem pln_pv : ∀ (n : Nat) (v : Pv), v.ok → v.dp < n → pln n v.d = true
  | 0, _, _, h => by omega
  | n + 1, .non, _, _ => rfl
  | n + 1, .num _, _, _ => rfl
  | n + 1, .txt is, hv, _ => by
    have hv : Sg is ∧ is.length ≤ 1000 := hv
    exact shaped_tx hv.1
  | n + 1, .tup vs, hv, hd => by
    rw [Pv.ok] at hv
    rw [Pv.dp] at hd
    have hd' := Pv.dps_mem.mp (Nat.le_refl (Pv.dps vs))
    have hv' := Pv.oks_mem.mp hv.2
    rw [Pv.d, Pv.ds_map, pln, Bool.and_eq_true, decide_eq_true_eq, List.length_map, List.all_eq_true]
    refine ⟨by omega, fun d hd2 => ?_⟩
    obtain ⟨v, hv0, rfl⟩ := List.mem_map.mp hd2
    exact pln_pv n v (hv' v hv0) (by have := hd' v hv0; omega)
end K18

set_option Elab.async false
set_option linter.all false
set_option maxRecDepth 100000
set_option maxHeartbeats 2000000
namespace K18
open PySem L2 Evl Sm
theorem cutTo (D : List Int) (n : Nat) (hn : n ≤ D.length) : cutD (iL D) none (some (n : Int)) = iL (D.take n) := by
  unfold cutD
  have a : HT.sIx (iL D).length 0 none = 0 := rfl
  rw [a, sIxN _ _ (by simpa using hn)]
  simp
theorem cutFrom (D : List Int) (n : Nat) (hn : n ≤ D.length) : cutD (iL D) (some (n : Int)) none = iL (D.drop n) := by
  unfold cutD
  have a : HT.sIx (iL D).length (iL D).length none = (iL D).length := rfl
  rw [a, sIxN _ _ (by simpa using hn), List.take_of_length_le (by simp)]
  simp
def Qt (Q : En → Hs → Prop) : Flo → En → Hs → Prop := fun r e h => r = .nx ∧ Q e h
section
variable {a0 a2 a3 a4 a5 a6 a7 a8 a9 a10 a11 a12 a13 a14 a15 a16 a17 a18 a19 a20 a21 a22 : Sl} {h : Hs}
abbrev E23 (a0 a2 a3 a4 a5 a6 a7 a8 a9 a10 a11 a12 a13 a14 a15 a16 a17 a18 a19 a20 a21 a22 : Sl) : En := [a0, .v (.ref 1), a2, a3, a4, a5, a6, a7, a8, a9, a10, a11, a12, a13, a14, a15, a16, a17, a18, a19, a20, a21, a22]
abbrev tShort : T1 := (tOrF (tV (q1 gNoN (qV 11))) (tOrF (tV (q1 gIsN (qV 12))) (tNotF (tV (qChain (fun i j => decide (i ≤ j)) (fun i j => decide (i ≤ j)) (qC (.d (.int 0))) (qV 12) (q1 gLen (qV 13)))))))
/-- bytes that are too short -/
theorem short_ {S : List Int} (hB : Byt S) (hl : S.length ≤ 1000) (hr : rdn S = none) : ∃ e : Sl, b_law_1 (E23 a0 a2 a3 a4 a5 a6 a7 a8 a9 a10 a11 a12 (.v (.d (.tuple (iL S)))) a14 a15 a16 a17 a18 a19 a20 a21 a22) h = some (.nx, E23 a0 a2 a3 a4 a5 a6 a7 a8 a9 a10 (.v (.d .none)) e (.v (.d (.tuple (iL S)))) a14 a15 a16 a17 a18 a19 a20 a21 a22, h) := by
  obtain ⟨e, e0, e1, e2⟩ := lna_no S hB hl hr h
  refine ⟨.v (.d (.int e)), ?_⟩
  simp [b_law_1, qV, qVs, qC, Sm.q1, Sm.q2, qNl, qIf, aNil, aCons, dOf, dsOf, qTup, fLst, qF, gTru, tV, tAndF, tOrF, tNotF, qT, qAnd, qOr, qNot, gI, gI0, gB0, cMul, cDiv, cPow, gNeg, gAdd, eqI, neI, lstAt, ixAt, lenAt, oPut, newOb, gLen, gInt, gTuple, Sm.f1, Sm.f2, gList, gIsi, gIx, gIsN, gNoN, gIsB, iRng, iRngB, seqOf, iSeqN, iSeq, bName, bNil, bCons, bTup, wipeE, tTrue, mNx, mSeq, mRet, mRetF, mRetN, mRetO, mIf, mSet, mSetO, mBk, mCt, mPre, mLock, mAsg, mFor, startE, resD, runQ, runF, qCall, fCall, arity, eQ, eF, eT, eNil, eCons, Sm.e1, Sm.e2, eTup, efLst, eLock, eIf, etV, eCall, efCall, enl, eNot, eAnd, eOr, resE, runE, runEF, mE, mSetE, mSetOE, mRetE, mRetFE, mIfE, mAsgE, oNone, oSome, gSl, qSl, fSl, gAll, gAny, qChain, gIn, pNil, pV, pL, mPar2, gCat, ef2, mAppE, mExtE, mPut, eNew, ePop, oPop, iE, iRngE, iSeqE, mForE, gRev, gRevL, iEnu, mHold, gTupR, nl, nlAll, ixN, PyData.isInt, PyData.isBool, PyData.isStr, PyData.isTuple, PyData.isList, PyData.isDict, e2, nl, nlAll, e0, e1]
theorem tests_ {D : List Int} (hB : Byt D) (hl : D.length ≤ 11) {Q : En → Hs → Prop} {B : M1}
    (k : ∀ x y : Sl, wp B (E23 a0 a2 a3 a4 a5 a6 a7 a8 a9 (.v (.d (.tuple (iL D)))) x y a13 a14 a15 a16 a17 a18 a19 a20 a21 a22) h (Qt Q)) :
    wp (mSeq (mAsg (qNl (qCall (arity 2 r__law_number_at) (aCons (qV 10) (aCons (qC (.d (.int 0))) aNil)))) (bTup 2 (bCons (bName 11) (bCons (bName 12) bNil))))
    (mSeq (mIf (tOrF (tV (q2 gEq (q1 gIsN (qV 11)) (q1 gIsN (qV 12)))) (tOrF (tAndF (tV (q1 gNoN (qV 11))) (tV (q2 gNe (q1 gTuple (qF (fCall (arity 1 r__law_number) (aCons (q2 gIx (qV 11) (qC (.d (.int 0)))) aNil)))) (qSl (qV 10) oNone (oSome (q2 gIx (qV 11) (qC (.d (.int 1))))))))) (tAndF (tV (q1 gNoN (qV 12))) (tNotF (tV (qChain (fun i j => decide (i ≤ j)) (fun i j => decide (i ≤ j)) (qC (.d (.int 0))) (qV 12) (q1 gLen (qV 10)))))))) (mRet .mo (qC (.d (.bool false)))) mNx)
    (mSeq (mAsg (qNl (qCall (arity 2 r__law_plain_at) (aCons (qV 10) (aCons (qC (.d (.int 0))) aNil)))) (bTup 2 (bCons (bName 11) (bCons (bName 12) bNil))))
    (mSeq (mIf (tOrF (tV (q2 gNe (q1 gIsN (qV 12)) (q1 gNoN (qV 11)))) (tAndF (tV (q1 gNoN (qV 11))) (tV (q2 gNe (q1 gTuple (qF (fCall (arity 1 (g__law_plain_bytes 6)) (aCons (q2 gIx (qV 11) (qC (.d (.int 0)))) aNil)))) (qSl (qV 10) oNone (oSome (q2 gIx (qV 11) (qC (.d (.int 1)))))))))) (mRet .mo (qC (.d (.bool false)))) mNx) B))))
    (E23 a0 a2 a3 a4 a5 a6 a7 a8 a9 (.v (.d (.tuple (iL D)))) a11 a12 a13 a14 a15 a16 a17 a18 a19 a20 a21 a22) h (Qt Q) := by
  have b1 : ∀ h : Hs, gEq h (.d (.bool true)) (.d (.bool false)) = some (.d (.bool false)) := fun _ => rfl
  have b2 : ∀ h : Hs, gEq h (.d (.bool false)) (.d (.bool true)) = some (.d (.bool false)) := fun _ => rfl
  have b3 : ∀ h : Hs, gNe h (.d (.bool true)) (.d (.bool true)) = some (.d (.bool false)) := fun _ => rfl
  have b4 : ∀ h : Hs, gNe h (.d (.bool false)) (.d (.bool false)) = some (.d (.bool false)) := fun _ => rfl
  have second : ∀ x y : Sl, wp (mSeq (mAsg (qNl (qCall (arity 2 r__law_plain_at) (aCons (qV 10) (aCons (qC (.d (.int 0))) aNil)))) (bTup 2 (bCons (bName 11) (bCons (bName 12) bNil))))
    (mSeq (mIf (tOrF (tV (q2 gNe (q1 gIsN (qV 12)) (q1 gNoN (qV 11)))) (tAndF (tV (q1 gNoN (qV 11))) (tV (q2 gNe (q1 gTuple (qF (fCall (arity 1 (g__law_plain_bytes 6)) (aCons (q2 gIx (qV 11) (qC (.d (.int 0)))) aNil)))) (qSl (qV 10) oNone (oSome (q2 gIx (qV 11) (qC (.d (.int 1)))))))))) (mRet .mo (qC (.d (.bool false)))) mNx) B))
    (E23 a0 a2 a3 a4 a5 a6 a7 a8 a9 (.v (.d (.tuple (iL D)))) x y a13 a14 a15 a16 a17 a18 a19 a20 a21 a22) h (Qt Q) := by
    intro x y
    rcases lpa_ D hB (by omega) h with ⟨v, n, v1, v2, v3, v4, e⟩ | ⟨e', e⟩
    · have nv := Pv.nl_d v
      refine wp.sq (wp.asg (d := .tuple [.tuple [v.d, .int n], .none]) (by simp [qV, qVs, qC, Sm.q1, Sm.q2, qNl, qIf, aNil, aCons, dOf, dsOf, qTup, fLst, qF, gTru, tV, tAndF, tOrF, tNotF, qT, qAnd, qOr, qNot, gI, gI0, gB0, cMul, cDiv, cPow, gNeg, gAdd, eqI, neI, lstAt, ixAt, lenAt, oPut, newOb, gLen, gInt, gTuple, Sm.f1, Sm.f2, gList, gIsi, gIx, gIsN, gNoN, gIsB, iRng, iRngB, seqOf, iSeqN, iSeq, bName, bNil, bCons, bTup, wipeE, tTrue, mNx, mSeq, mRet, mRetF, mRetN, mRetO, mIf, mSet, mSetO, mBk, mCt, mPre, mLock, mAsg, mFor, startE, resD, runQ, runF, qCall, fCall, arity, eQ, eF, eT, eNil, eCons, Sm.e1, Sm.e2, eTup, efLst, eLock, eIf, etV, eCall, efCall, enl, eNot, eAnd, eOr, resE, runE, runEF, mE, mSetE, mSetOE, mRetE, mRetFE, mIfE, mAsgE, oNone, oSome, gSl, qSl, fSl, gAll, gAny, qChain, gIn, pNil, pV, pL, mPar2, gCat, ef2, mAppE, mExtE, mPut, eNew, ePop, oPop, iE, iRngE, iSeqE, mForE, gRev, gRevL, iEnu, mHold, gTupR, nl, nlAll, ixN, PyData.isInt, PyData.isBool, PyData.isStr, PyData.isTuple, PyData.isList, PyData.isDict, e, nl, nlAll, nv]) rfl ⟨rfl, ?_⟩)
      refine wp.sq (wp.no ?_ (wp.nx ⟨rfl, k _ _⟩))
      have f := law_plain_bytes_ 5 v v1 (by omega) (by rw [v2, List.length_take]; omega) h
      have c := cutTo D n v3
      have nn := nlAll_ints (D.take n)
      have i := ne_intsT v.b (D.take n) h
      rw [v2] at i f
      generalize D.take n = E at i f c nn
      simp only [iL] at f c nn
      have v0 : ∀ h, gIsN h (.d (.tuple [v.d, .int n])) = some (.d (.bool false)) := fun _ => rfl
      simp [qV, qVs, qC, Sm.q1, Sm.q2, qNl, qIf, aNil, aCons, dOf, dsOf, qTup, fLst, qF, gTru, tV, tAndF, tOrF, tNotF, qT, qAnd, qOr, qNot, gI, gI0, gB0, cMul, cDiv, cPow, gNeg, gAdd, eqI, neI, lstAt, ixAt, lenAt, oPut, newOb, gLen, gInt, gTuple, Sm.f1, Sm.f2, gList, gIsi, gIx, gIsN, gNoN, gIsB, iRng, iRngB, seqOf, iSeqN, iSeq, bName, bNil, bCons, bTup, wipeE, tTrue, mNx, mSeq, mRet, mRetF, mRetN, mRetO, mIf, mSet, mSetO, mBk, mCt, mPre, mLock, mAsg, mFor, startE, resD, runQ, runF, qCall, fCall, arity, eQ, eF, eT, eNil, eCons, Sm.e1, Sm.e2, eTup, efLst, eLock, eIf, etV, eCall, efCall, enl, eNot, eAnd, eOr, resE, runE, runEF, mE, mSetE, mSetOE, mRetE, mRetFE, mIfE, mAsgE, oNone, oSome, gSl, qSl, fSl, gAll, gAny, qChain, gIn, pNil, pV, pL, mPar2, gCat, ef2, mAppE, mExtE, mPut, eNew, ePop, oPop, iE, iRngE, iSeqE, mForE, gRev, gRevL, iEnu, mHold, gTupR, nl, nlAll, ixN, PyData.isInt, PyData.isBool, PyData.isStr, PyData.isTuple, PyData.isList, PyData.isDict, b3, b4, f, c, nn, i]
    · refine wp.sq (wp.asg (d := .tuple [.none, .int e']) (by simp [qV, qVs, qC, Sm.q1, Sm.q2, qNl, qIf, aNil, aCons, dOf, dsOf, qTup, fLst, qF, gTru, tV, tAndF, tOrF, tNotF, qT, qAnd, qOr, qNot, gI, gI0, gB0, cMul, cDiv, cPow, gNeg, gAdd, eqI, neI, lstAt, ixAt, lenAt, oPut, newOb, gLen, gInt, gTuple, Sm.f1, Sm.f2, gList, gIsi, gIx, gIsN, gNoN, gIsB, iRng, iRngB, seqOf, iSeqN, iSeq, bName, bNil, bCons, bTup, wipeE, tTrue, mNx, mSeq, mRet, mRetF, mRetN, mRetO, mIf, mSet, mSetO, mBk, mCt, mPre, mLock, mAsg, mFor, startE, resD, runQ, runF, qCall, fCall, arity, eQ, eF, eT, eNil, eCons, Sm.e1, Sm.e2, eTup, efLst, eLock, eIf, etV, eCall, efCall, enl, eNot, eAnd, eOr, resE, runE, runEF, mE, mSetE, mSetOE, mRetE, mRetFE, mIfE, mAsgE, oNone, oSome, gSl, qSl, fSl, gAll, gAny, qChain, gIn, pNil, pV, pL, mPar2, gCat, ef2, mAppE, mExtE, mPut, eNew, ePop, oPop, iE, iRngE, iSeqE, mForE, gRev, gRevL, iEnu, mHold, gTupR, nl, nlAll, ixN, PyData.isInt, PyData.isBool, PyData.isStr, PyData.isTuple, PyData.isList, PyData.isDict, e, nl, nlAll]) rfl ⟨rfl, ?_⟩)
      refine wp.sq (wp.no ?_ (wp.nx ⟨rfl, k _ _⟩))
      simp [qV, qVs, qC, Sm.q1, Sm.q2, qNl, qIf, aNil, aCons, dOf, dsOf, qTup, fLst, qF, gTru, tV, tAndF, tOrF, tNotF, qT, qAnd, qOr, qNot, gI, gI0, gB0, cMul, cDiv, cPow, gNeg, gAdd, eqI, neI, lstAt, ixAt, lenAt, oPut, newOb, gLen, gInt, gTuple, Sm.f1, Sm.f2, gList, gIsi, gIx, gIsN, gNoN, gIsB, iRng, iRngB, seqOf, iSeqN, iSeq, bName, bNil, bCons, bTup, wipeE, tTrue, mNx, mSeq, mRet, mRetF, mRetN, mRetO, mIf, mSet, mSetO, mBk, mCt, mPre, mLock, mAsg, mFor, startE, resD, runQ, runF, qCall, fCall, arity, eQ, eF, eT, eNil, eCons, Sm.e1, Sm.e2, eTup, efLst, eLock, eIf, etV, eCall, efCall, enl, eNot, eAnd, eOr, resE, runE, runEF, mE, mSetE, mSetOE, mRetE, mRetFE, mIfE, mAsgE, oNone, oSome, gSl, qSl, fSl, gAll, gAny, qChain, gIn, pNil, pV, pL, mPar2, gCat, ef2, mAppE, mExtE, mPut, eNew, ePop, oPop, iE, iRngE, iSeqE, mForE, gRev, gRevL, iEnu, mHold, gTupR, nl, nlAll, ixN, PyData.isInt, PyData.isBool, PyData.isStr, PyData.isTuple, PyData.isList, PyData.isDict, b3, b4]
  rcases lna_ D hB (by omega) h with ⟨m, n, v1, v2, v3, e⟩ | ⟨e', e0, e1, e⟩
  · refine wp.sq (wp.asg (d := .tuple [.tuple [.int m, .int n], .none]) (by simp [qV, qVs, qC, Sm.q1, Sm.q2, qNl, qIf, aNil, aCons, dOf, dsOf, qTup, fLst, qF, gTru, tV, tAndF, tOrF, tNotF, qT, qAnd, qOr, qNot, gI, gI0, gB0, cMul, cDiv, cPow, gNeg, gAdd, eqI, neI, lstAt, ixAt, lenAt, oPut, newOb, gLen, gInt, gTuple, Sm.f1, Sm.f2, gList, gIsi, gIx, gIsN, gNoN, gIsB, iRng, iRngB, seqOf, iSeqN, iSeq, bName, bNil, bCons, bTup, wipeE, tTrue, mNx, mSeq, mRet, mRetF, mRetN, mRetO, mIf, mSet, mSetO, mBk, mCt, mPre, mLock, mAsg, mFor, startE, resD, runQ, runF, qCall, fCall, arity, eQ, eF, eT, eNil, eCons, Sm.e1, Sm.e2, eTup, efLst, eLock, eIf, etV, eCall, efCall, enl, eNot, eAnd, eOr, resE, runE, runEF, mE, mSetE, mSetOE, mRetE, mRetFE, mIfE, mAsgE, oNone, oSome, gSl, qSl, fSl, gAll, gAny, qChain, gIn, pNil, pV, pL, mPar2, gCat, ef2, mAppE, mExtE, mPut, eNew, ePop, oPop, iE, iRngE, iSeqE, mForE, gRev, gRevL, iEnu, mHold, gTupR, nl, nlAll, ixN, PyData.isInt, PyData.isBool, PyData.isStr, PyData.isTuple, PyData.isList, PyData.isDict, e, nl, nlAll]) rfl ⟨rfl, ?_⟩)
    refine wp.sq (wp.no ?_ (wp.nx ⟨rfl, second _ _⟩))
    have f := law_number_nb v2 h
    have c := cutTo D n v3
    have i := ne_intsT (nb m) (D.take n) h
    rw [v1] at i f
    generalize D.take n = E at i f c
    simp only [iL] at f c
    simp [qV, qVs, qC, Sm.q1, Sm.q2, qNl, qIf, aNil, aCons, dOf, dsOf, qTup, fLst, qF, gTru, tV, tAndF, tOrF, tNotF, qT, qAnd, qOr, qNot, gI, gI0, gB0, cMul, cDiv, cPow, gNeg, gAdd, eqI, neI, lstAt, ixAt, lenAt, oPut, newOb, gLen, gInt, gTuple, Sm.f1, Sm.f2, gList, gIsi, gIx, gIsN, gNoN, gIsB, iRng, iRngB, seqOf, iSeqN, iSeq, bName, bNil, bCons, bTup, wipeE, tTrue, mNx, mSeq, mRet, mRetF, mRetN, mRetO, mIf, mSet, mSetO, mBk, mCt, mPre, mLock, mAsg, mFor, startE, resD, runQ, runF, qCall, fCall, arity, eQ, eF, eT, eNil, eCons, Sm.e1, Sm.e2, eTup, efLst, eLock, eIf, etV, eCall, efCall, enl, eNot, eAnd, eOr, resE, runE, runEF, mE, mSetE, mSetOE, mRetE, mRetFE, mIfE, mAsgE, oNone, oSome, gSl, qSl, fSl, gAll, gAny, qChain, gIn, pNil, pV, pL, mPar2, gCat, ef2, mAppE, mExtE, mPut, eNew, ePop, oPop, iE, iRngE, iSeqE, mForE, gRev, gRevL, iEnu, mHold, gTupR, nl, nlAll, ixN, PyData.isInt, PyData.isBool, PyData.isStr, PyData.isTuple, PyData.isList, PyData.isDict, b1, b2, f, c, i]
  · refine wp.sq (wp.asg (d := .tuple [.none, .int e']) (by simp [qV, qVs, qC, Sm.q1, Sm.q2, qNl, qIf, aNil, aCons, dOf, dsOf, qTup, fLst, qF, gTru, tV, tAndF, tOrF, tNotF, qT, qAnd, qOr, qNot, gI, gI0, gB0, cMul, cDiv, cPow, gNeg, gAdd, eqI, neI, lstAt, ixAt, lenAt, oPut, newOb, gLen, gInt, gTuple, Sm.f1, Sm.f2, gList, gIsi, gIx, gIsN, gNoN, gIsB, iRng, iRngB, seqOf, iSeqN, iSeq, bName, bNil, bCons, bTup, wipeE, tTrue, mNx, mSeq, mRet, mRetF, mRetN, mRetO, mIf, mSet, mSetO, mBk, mCt, mPre, mLock, mAsg, mFor, startE, resD, runQ, runF, qCall, fCall, arity, eQ, eF, eT, eNil, eCons, Sm.e1, Sm.e2, eTup, efLst, eLock, eIf, etV, eCall, efCall, enl, eNot, eAnd, eOr, resE, runE, runEF, mE, mSetE, mSetOE, mRetE, mRetFE, mIfE, mAsgE, oNone, oSome, gSl, qSl, fSl, gAll, gAny, qChain, gIn, pNil, pV, pL, mPar2, gCat, ef2, mAppE, mExtE, mPut, eNew, ePop, oPop, iE, iRngE, iSeqE, mForE, gRev, gRevL, iEnu, mHold, gTupR, nl, nlAll, ixN, PyData.isInt, PyData.isBool, PyData.isStr, PyData.isTuple, PyData.isList, PyData.isDict, e, nl, nlAll]) rfl ⟨rfl, ?_⟩)
    refine wp.sq (wp.no ?_ (wp.nx ⟨rfl, second _ _⟩))
    simp [qV, qVs, qC, Sm.q1, Sm.q2, qNl, qIf, aNil, aCons, dOf, dsOf, qTup, fLst, qF, gTru, tV, tAndF, tOrF, tNotF, qT, qAnd, qOr, qNot, gI, gI0, gB0, cMul, cDiv, cPow, gNeg, gAdd, eqI, neI, lstAt, ixAt, lenAt, oPut, newOb, gLen, gInt, gTuple, Sm.f1, Sm.f2, gList, gIsi, gIx, gIsN, gNoN, gIsB, iRng, iRngB, seqOf, iSeqN, iSeq, bName, bNil, bCons, bTup, wipeE, tTrue, mNx, mSeq, mRet, mRetF, mRetN, mRetO, mIf, mSet, mSetO, mBk, mCt, mPre, mLock, mAsg, mFor, startE, resD, runQ, runF, qCall, fCall, arity, eQ, eF, eT, eNil, eCons, Sm.e1, Sm.e2, eTup, efLst, eLock, eIf, etV, eCall, efCall, enl, eNot, eAnd, eOr, resE, runE, runEF, mE, mSetE, mSetOE, mRetE, mRetFE, mIfE, mAsgE, oNone, oSome, gSl, qSl, fSl, gAll, gAny, qChain, gIn, pNil, pV, pL, mPar2, gCat, ef2, mAppE, mExtE, mPut, eNew, ePop, oPop, iE, iRngE, iSeqE, mForE, gRev, gRevL, iEnu, mHold, gTupR, nl, nlAll, ixN, PyData.isInt, PyData.isBool, PyData.isStr, PyData.isTuple, PyData.isList, PyData.isDict, b1, b2, e0, e1]
end
end K18

set_option Elab.async false
set_option linter.all false
set_option maxRecDepth 100000
set_option maxHeartbeats 4000000
namespace K18
open PySem L2 Evl Sm
theorem lit23 {env : En} (hl : env.length = 23) (h1 : env[1]? = some (.v (.ref 1))) : ∃ a0 a2 a3 a4 a5 a6 a7 a8 a9 a10 a11 a12 a13 a14 a15 a16 a17 a18 a19 a20 a21 a22 : Sl, env = E23 a0 a2 a3 a4 a5 a6 a7 a8 a9 a10 a11 a12 a13 a14 a15 a16 a17 a18 a19 a20 a21 a22 := by
  match env, hl with
  | [a0, a1, a2, a3, a4, a5, a6, a7, a8, a9, a10, a11, a12, a13, a14, a15, a16, a17, a18, a19, a20, a21, a22], _ =>
    simp only [List.getElem?_cons_succ, List.getElem?_cons_zero, Option.some.injEq] at h1
    subst h1
    exact ⟨_, _, _, _, _, _, _, _, _, _, _, _, _, _, _, _, _, _, _, _, _, _, rfl⟩
def QT : Flo → En → Hs → Prop := fun r e h => r = .nx ∧ (e.length = 23 ∧ e[1]? = some (.v (.ref 1)) ∧ Bx h)
theorem s2_ : 2 ≤ sizeLine := by rw [sizeLine_eq]; omega
theorem s1_ : 1 ≤ sizeLine := by rw [sizeLine_eq]; omega
theorem pln_sz {n : Nat} {ns : List Int} {a b : PyData} (hl : ns.length ≤ 1000) (ha : pln (n + 1) a = true) (hb : pln (n + 1) b = true) : pln (n + 3) (.tuple [.list (iL ns), .tuple [a, b]]) = true := by
  have := pln_ints n ns
  simp [pln, this, ha, hb]
  omega
theorem qvs_at {env : En} {h : Hs} {i : Nat} {x : Val} (e : env[i]? = some (.v x)) : qVs i env h = some x := by
  unfold qVs
  rw [e]
theorem cutNeg (D : List Int) (h : 1 ≤ D.length) : cutD (iL D) none (some (-1)) = iL (D.take (D.length - 1)) := by
  have a : HT.sIx (iL D).length 0 none = 0 := rfl
  have b : HT.sIx (iL D).length (iL D).length (some (-1)) = D.length - 1 := by
    simp [HT.sIx]
    omega
  unfold cutD
  rw [a, b]
  simp
theorem turn_ {env : En} {h : Hs} (hl : env.length = 23) (hr : env[1]? = some (.v (.ref 1))) (hb : Bx h) : wp b_law_2 env h QT := by
  obtain ⟨a0, a2, a3, a4, a5, a6, a7, a8, a9, a10, a11, a12, a13, a14, a15, a16, a17, a18, a19, a20, a21, a22, rfl⟩ := lit23 hl hr
  have sz := sizeLine_eq
  have s2 := s2_
  unfold b_law_2
  refine wp.sq (wp.setE (nuE_ rfl hb fun n h1 hn b1 => ⟨rfl, ?_⟩))
  have hn4 : n < 128 ^ 400 := Nat.lt_of_lt_of_le hn (Nat.pow_le_pow_right (by decide) (by decide))
  have dc : ∀ {env : En} {h : Hs} {m : Int}, env[1]? = some (.v (.ref 1)) → 0 < m → m ≤ 1000 → Bx h → evE (dr 1 (eQ (qC (.d (.int m))))) env h fun x h1 => ∃ d : Nat, x = .d (.int d) ∧ 0 ≤ d ∧ d ≤ m.toNat - 1 ∧ Bx h1 := fun hj m0 m1 hb =>
    drq hj rfl hb m0 (by omega) fun d h1 hd b => ⟨d, rfl, by omega, by omega, b⟩
  have db : ∀ {env : En} {h : Hs}, env[1]? = some (.v (.ref 1)) → Bx h → evE (dr 1 (eQ (qC (.d (.int 256))))) env h fun y h' => ∃ b : Int, y = .d (.int b) ∧ 0 ≤ b ∧ b < 256 ∧ Bx h' := fun hj hb =>
    drq hj rfl hb (by decide) (by decide) fun d h1 hd b => ⟨d, rfl, by omega, by omega, b⟩
  refine wp.sq (wp.par2 (evP.v (byE_ (lo := 0) (hi := 2) (by decide) (dc rfl (by decide) (by decide) b1) (fun x h hb => db (set_at (by decide) rfl _) hb) fun head h2 hB1 _ hl1 b2 => ?_)))
  refine evP.v (byE_ (lo := 0) (hi := 2) (by decide) (dc rfl (by decide) (by decide) b2) (fun x h hb => db (set_at (by decide) rfl _) hb) fun tail h3 hB2 _ hl2 b3 => evP.nil ⟨_, _, rfl, rfl, ?_⟩)
  -- the number's bytes
  have ll := nb_len n
  have ll1 := nb_len1 n
  have hBn := nb_byt hn4
  have nn := nlAll_ints (nb n)
  have fn := law_number_nb hn4
  have fp := number_nb hn4
  have rb : ∀ h, r_read_number [.d (.tuple (iL (head ++ nb n ++ tail))), .d (.int head.length)] h = _ := fun h => readn_ok (head := head) (tail := tail) hn4 rfl rfl (by simp; omega) h
  have hcut : rdn ((nb n).take ((nb n).length - 1)) = none := by
    rw [← List.dropLast_eq_take]
    exact rdn_hi (nbs_hi 399 n)
  generalize hcs : nb n = cs at ll ll1 hBn nn fn fp rb hcut
  have fn : ∀ h : Hs, r__law_number [.d (.int n)] h = some (iL cs) := fn
  have fp : ∀ h : Hs, r_number_bytes [.d (.int n)] h = some (iL cs) := fp
  refine wp.sq (wp.set (x := .d (.tuple (iL cs))) (by simp [qV, qVs, qC, Sm.q1, Sm.q2, qNl, qIf, aNil, aCons, dOf, dsOf, qTup, fLst, qF, gTru, tV, tAndF, tOrF, tNotF, qT, qAnd, qOr, qNot, gI, gI0, gB0, cMul, cDiv, cPow, gNeg, gAdd, eqI, neI, lstAt, ixAt, lenAt, oPut, newOb, gLen, gInt, gTuple, Sm.f1, Sm.f2, gList, gIsi, gIx, gIsN, gNoN, gIsB, iRng, iRngB, seqOf, iSeqN, iSeq, bName, bNil, bCons, bTup, wipeE, tTrue, mNx, mSeq, mRet, mRetF, mRetN, mRetO, mIf, mSet, mSetO, mBk, mCt, mPre, mLock, mAsg, mFor, startE, resD, runQ, runF, qCall, fCall, arity, eQ, eF, eT, eNil, eCons, Sm.e1, Sm.e2, eTup, efLst, eLock, eIf, etV, eCall, efCall, enl, eNot, eAnd, eOr, resE, runE, runEF, mE, mSetE, mSetOE, mRetE, mRetFE, mIfE, mAsgE, oNone, oSome, gSl, qSl, fSl, gAll, gAny, qChain, gIn, pNil, pV, pL, mPar2, gCat, ef2, mAppE, mExtE, mPut, eNew, ePop, oPop, iE, iRngE, iSeqE, mForE, gRev, gRevL, iEnu, mHold, gTupR, nl, nlAll, ixN, PyData.isInt, PyData.isBool, PyData.isStr, PyData.isTuple, PyData.isList, PyData.isDict, fn, nn]) ⟨rfl, ?_⟩)
  refine wp.sq (wp.no (same_t (d := .tuple [.list (iL cs), .tuple [.int n, .int ((head.length + cs.length : Nat) : Int)]]) ?_ ?_ (pln_sz (n := 9) (by omega) rfl rfl)) (wp.nx ⟨rfl, ?_⟩))
  · have z1 : head.length + cs.length ≤ sizeLine := by omega
    have z2 : head.length + (cs.length + tail.length) ≤ sizeLine := by omega
    have z3 : head.length + cs.length + tail.length ≤ sizeLine := by omega
    have rb' := rb h3
    simp only [iL, List.map_append] at rb'
    rw [List.append_assoc] at rb'
    simp [qV, qVs, qC, Sm.q1, Sm.q2, qNl, qIf, aNil, aCons, dOf, dsOf, qTup, fLst, qF, gTru, tV, tAndF, tOrF, tNotF, qT, qAnd, qOr, qNot, gI, gI0, gB0, cMul, cDiv, cPow, gNeg, gAdd, eqI, neI, lstAt, ixAt, lenAt, oPut, newOb, gLen, gInt, gTuple, Sm.f1, Sm.f2, gList, gIsi, gIx, gIsN, gNoN, gIsB, iRng, iRngB, seqOf, iSeqN, iSeq, bName, bNil, bCons, bTup, wipeE, tTrue, mNx, mSeq, mRet, mRetF, mRetN, mRetO, mIf, mSet, mSetO, mBk, mCt, mPre, mLock, mAsg, mFor, startE, resD, runQ, runF, qCall, fCall, arity, eQ, eF, eT, eNil, eCons, Sm.e1, Sm.e2, eTup, efLst, eLock, eIf, etV, eCall, efCall, enl, eNot, eAnd, eOr, resE, runE, runEF, mE, mSetE, mSetOE, mRetE, mRetFE, mIfE, mAsgE, oNone, oSome, gSl, qSl, fSl, gAll, gAny, qChain, gIn, pNil, pV, pL, mPar2, gCat, ef2, mAppE, mExtE, mPut, eNew, ePop, oPop, iE, iRngE, iSeqE, mForE, gRev, gRevL, iEnu, mHold, gTupR, nl, nlAll, ixN, PyData.isInt, PyData.isBool, PyData.isStr, PyData.isTuple, PyData.isList, PyData.isDict, fp, okX, z1, z2, z3, s2, rb']
  · simp [qV, qVs, qC, Sm.q1, Sm.q2, qNl, qIf, aNil, aCons, dOf, dsOf, qTup, fLst, qF, gTru, tV, tAndF, tOrF, tNotF, qT, qAnd, qOr, qNot, gI, gI0, gB0, cMul, cDiv, cPow, gNeg, gAdd, eqI, neI, lstAt, ixAt, lenAt, oPut, newOb, gLen, gInt, gTuple, Sm.f1, Sm.f2, gList, gIsi, gIx, gIsN, gNoN, gIsB, iRng, iRngB, seqOf, iSeqN, iSeq, bName, bNil, bCons, bTup, wipeE, tTrue, mNx, mSeq, mRet, mRetF, mRetN, mRetO, mIf, mSet, mSetO, mBk, mCt, mPre, mLock, mAsg, mFor, startE, resD, runQ, runF, qCall, fCall, arity, eQ, eF, eT, eNil, eCons, Sm.e1, Sm.e2, eTup, efLst, eLock, eIf, etV, eCall, efCall, enl, eNot, eAnd, eOr, resE, runE, runEF, mE, mSetE, mSetOE, mRetE, mRetFE, mIfE, mAsgE, oNone, oSome, gSl, qSl, fSl, gAll, gAny, qChain, gIn, pNil, pV, pL, mPar2, gCat, ef2, mAppE, mExtE, mPut, eNew, ePop, oPop, iE, iRngE, iSeqE, mForE, gRev, gRevL, iEnu, mHold, gTupR, nl, nlAll, ixN, PyData.isInt, PyData.isBool, PyData.isStr, PyData.isTuple, PyData.isList, PyData.isDict, s2, nn]
  refine wp.sq (wp.setE (txE_ (j := 1) (i := 16) (m := 9) rfl (by decide) b3 (by decide) (by decide) fun is h4 hs hi b4 => ⟨rfl, ?_⟩))
  have fn2 := law_text_ is hs (by omega)
  have fp2 := text_bytes_ is hs (by omega)
  have lt := nb_len is.length
  have nt : (nb is.length ++ iN is).length ≤ 500 := by rw [List.length_append, iN_len]; omega
  have hBt : Byt (nb is.length ++ iN is) := (nb_byt (lt400 (k := 0) (by omega))).app fun b hb => by
    obtain ⟨i, hi, rfl⟩ := List.mem_map.mp hb
    have := hs i hi
    omega
  have rt : ∀ h, r_read_text [.d (.tuple (iL (head ++ (nb is.length ++ iN is) ++ tail))), .d (.int head.length)] h = _ := fun h => readt_ok (head := head) (tail := tail) hs (by omega) rfl rfl ((hB1.app hBt).app hB2) (by rw [List.length_append, List.length_append]; omega) h
  generalize hts : nb is.length ++ iN is = ts at fn2 fp2 nt hBt rt
  have n2 := nlAll_ints ts
  have z1 : head.length + ts.length ≤ sizeLine := by omega
  have z2 : head.length + (ts.length + tail.length) ≤ sizeLine := by omega
  have z3 : head.length + ts.length + tail.length ≤ sizeLine := by omega
  refine wp.sq (wp.set (x := .d (.tuple (iL (head ++ ts ++ tail)))) (by simp [qV, qVs, qC, Sm.q1, Sm.q2, qNl, qIf, aNil, aCons, dOf, dsOf, qTup, fLst, qF, gTru, tV, tAndF, tOrF, tNotF, qT, qAnd, qOr, qNot, gI, gI0, gB0, cMul, cDiv, cPow, gNeg, gAdd, eqI, neI, lstAt, ixAt, lenAt, oPut, newOb, gLen, gInt, gTuple, Sm.f1, Sm.f2, gList, gIsi, gIx, gIsN, gNoN, gIsB, iRng, iRngB, seqOf, iSeqN, iSeq, bName, bNil, bCons, bTup, wipeE, tTrue, mNx, mSeq, mRet, mRetF, mRetN, mRetO, mIf, mSet, mSetO, mBk, mCt, mPre, mLock, mAsg, mFor, startE, resD, runQ, runF, qCall, fCall, arity, eQ, eF, eT, eNil, eCons, Sm.e1, Sm.e2, eTup, efLst, eLock, eIf, etV, eCall, efCall, enl, eNot, eAnd, eOr, resE, runE, runEF, mE, mSetE, mSetOE, mRetE, mRetFE, mIfE, mAsgE, oNone, oSome, gSl, qSl, fSl, gAll, gAny, qChain, gIn, pNil, pV, pL, mPar2, gCat, ef2, mAppE, mExtE, mPut, eNew, ePop, oPop, iE, iRngE, iSeqE, mForE, gRev, gRevL, iEnu, mHold, gTupR, nl, nlAll, ixN, PyData.isInt, PyData.isBool, PyData.isStr, PyData.isTuple, PyData.isList, PyData.isDict, fn2, n2, z1, z2, z3]) ⟨rfl, ?_⟩)
  refine wp.sq (wp.no (same_t (d := .tuple [.list (iL ts), .tuple [.str (tx is), .int ((head.length + ts.length : Nat) : Int)]]) ?_ ?_ (pln_sz (n := 9) (by omega) (shaped_tx hs) rfl)) (wp.nx ⟨rfl, ?_⟩))
  · have rt' := rt h4
    generalize hD : head ++ ts ++ tail = D at rt' ⊢
    simp [qV, qVs, qC, Sm.q1, Sm.q2, qNl, qIf, aNil, aCons, dOf, dsOf, qTup, fLst, qF, gTru, tV, tAndF, tOrF, tNotF, qT, qAnd, qOr, qNot, gI, gI0, gB0, cMul, cDiv, cPow, gNeg, gAdd, eqI, neI, lstAt, ixAt, lenAt, oPut, newOb, gLen, gInt, gTuple, Sm.f1, Sm.f2, gList, gIsi, gIx, gIsN, gNoN, gIsB, iRng, iRngB, seqOf, iSeqN, iSeq, bName, bNil, bCons, bTup, wipeE, tTrue, mNx, mSeq, mRet, mRetF, mRetN, mRetO, mIf, mSet, mSetO, mBk, mCt, mPre, mLock, mAsg, mFor, startE, resD, runQ, runF, qCall, fCall, arity, eQ, eF, eT, eNil, eCons, Sm.e1, Sm.e2, eTup, efLst, eLock, eIf, etV, eCall, efCall, enl, eNot, eAnd, eOr, resE, runE, runEF, mE, mSetE, mSetOE, mRetE, mRetFE, mIfE, mAsgE, oNone, oSome, gSl, qSl, fSl, gAll, gAny, qChain, gIn, pNil, pV, pL, mPar2, gCat, ef2, mAppE, mExtE, mPut, eNew, ePop, oPop, iE, iRngE, iSeqE, mForE, gRev, gRevL, iEnu, mHold, gTupR, nl, nlAll, ixN, PyData.isInt, PyData.isBool, PyData.isStr, PyData.isTuple, PyData.isList, PyData.isDict, fp2, okX, s2, rt']
  · have w : (head.length : Int) + (ts.length + tail.length) - tail.length = head.length + ts.length := by omega
    simp [qV, qVs, qC, Sm.q1, Sm.q2, qNl, qIf, aNil, aCons, dOf, dsOf, qTup, fLst, qF, gTru, tV, tAndF, tOrF, tNotF, qT, qAnd, qOr, qNot, gI, gI0, gB0, cMul, cDiv, cPow, gNeg, gAdd, eqI, neI, lstAt, ixAt, lenAt, oPut, newOb, gLen, gInt, gTuple, Sm.f1, Sm.f2, gList, gIsi, gIx, gIsN, gNoN, gIsB, iRng, iRngB, seqOf, iSeqN, iSeq, bName, bNil, bCons, bTup, wipeE, tTrue, mNx, mSeq, mRet, mRetF, mRetN, mRetO, mIf, mSet, mSetO, mBk, mCt, mPre, mLock, mAsg, mFor, startE, resD, runQ, runF, qCall, fCall, arity, eQ, eF, eT, eNil, eCons, Sm.e1, Sm.e2, eTup, efLst, eLock, eIf, etV, eCall, efCall, enl, eNot, eAnd, eOr, resE, runE, runEF, mE, mSetE, mSetOE, mRetE, mRetFE, mIfE, mAsgE, oNone, oSome, gSl, qSl, fSl, gAll, gAny, qChain, gIn, pNil, pV, pL, mPar2, gCat, ef2, mAppE, mExtE, mPut, eNew, ePop, oPop, iE, iRngE, iSeqE, mForE, gRev, gRevL, iEnu, mHold, gTupR, nl, nlAll, ixN, PyData.isInt, PyData.isBool, PyData.isStr, PyData.isTuple, PyData.isList, PyData.isDict, s2, fn2, w]
  obtain ⟨v, h5, ev, v1, v2, v3, b5⟩ := law_plain_ 6 3 (by decide) h4 b4
  have v3 : v.b.length ≤ 188 := v3
  have ev : g__law_plain 6 [.ref 1, .d (.int 3)] h4 = some (.d v.d, h5) := ev
  refine wp.sq (wp.setE (evE.call (evA.cons (evE.pq (x := .ref 1) rfl (evA.cons (evE.pq (x := .d (.int 3)) rfl (evA.nil ⟨_, _, ev, rfl, ?_⟩)))))))
  have hBv := Pv.byt v v1
  have fn3 : ∀ h : Hs, g__law_plain_bytes 6 [.d v.d] h = some (iL v.b) := fun h => law_plain_bytes_ 5 v v1 (by omega) (by omega) h
  have fp3 : ∀ h : Hs, g_plain_bytes 6 [.d v.d] h = some (iL v.b) := fun h => plain_bytes_ 5 v v1 (by omega) (by omega) h
  have rp : ∀ h, g_read_plain 14 [.d (.tuple (iL (head ++ v.b ++ tail))), .d (.int head.length), .d (.int 12)] h = some (.ok (.d (.tuple [v.d, .int ((head.length + v.b.length : Nat) : Int)]))) := fun h => readp_ok (head := head) (tail := tail) (k := 12) v1 (by omega) rfl ((hB1.app hBv).app hB2) (by rw [List.length_append, List.length_append]; omega) 1 h
  have pv : pln 10 v.d = true := pln_pv 10 v v1 (by omega)
  have nv := Pv.nl_d v
  generalize hvs : v.b = vs at fn3 fp3 v3 hBv rp
  have n3 := nlAll_ints vs
  have z1 : head.length + vs.length ≤ sizeLine := by omega
  have z2 : head.length + (vs.length + tail.length) ≤ sizeLine := by omega
  have z3 : head.length + vs.length + tail.length ≤ sizeLine := by omega
  refine wp.sq (wp.set (x := .d (.tuple (iL (head ++ vs ++ tail)))) (by simp [qV, qVs, qC, Sm.q1, Sm.q2, qNl, qIf, aNil, aCons, dOf, dsOf, qTup, fLst, qF, gTru, tV, tAndF, tOrF, tNotF, qT, qAnd, qOr, qNot, gI, gI0, gB0, cMul, cDiv, cPow, gNeg, gAdd, eqI, neI, lstAt, ixAt, lenAt, oPut, newOb, gLen, gInt, gTuple, Sm.f1, Sm.f2, gList, gIsi, gIx, gIsN, gNoN, gIsB, iRng, iRngB, seqOf, iSeqN, iSeq, bName, bNil, bCons, bTup, wipeE, tTrue, mNx, mSeq, mRet, mRetF, mRetN, mRetO, mIf, mSet, mSetO, mBk, mCt, mPre, mLock, mAsg, mFor, startE, resD, runQ, runF, qCall, fCall, arity, eQ, eF, eT, eNil, eCons, Sm.e1, Sm.e2, eTup, efLst, eLock, eIf, etV, eCall, efCall, enl, eNot, eAnd, eOr, resE, runE, runEF, mE, mSetE, mSetOE, mRetE, mRetFE, mIfE, mAsgE, oNone, oSome, gSl, qSl, fSl, gAll, gAny, qChain, gIn, pNil, pV, pL, mPar2, gCat, ef2, mAppE, mExtE, mPut, eNew, ePop, oPop, iE, iRngE, iSeqE, mForE, gRev, gRevL, iEnu, mHold, gTupR, nl, nlAll, ixN, PyData.isInt, PyData.isBool, PyData.isStr, PyData.isTuple, PyData.isList, PyData.isDict, fn3, n3, z1, z2, z3]) ⟨rfl, ?_⟩)
  refine wp.sq (wp.no (same_t (d := .tuple [.list (iL vs), .tuple [v.d, .int ((head.length + vs.length : Nat) : Int)]]) ?_ ?_ (pln_sz (n := 9) (by omega) pv rfl)) (wp.nx ⟨rfl, ?_⟩))
  · have rp' := rp h5
    generalize hD : head ++ vs ++ tail = D at rp' ⊢
    simp [qV, qVs, qC, Sm.q1, Sm.q2, qNl, qIf, aNil, aCons, dOf, dsOf, qTup, fLst, qF, gTru, tV, tAndF, tOrF, tNotF, qT, qAnd, qOr, qNot, gI, gI0, gB0, cMul, cDiv, cPow, gNeg, gAdd, eqI, neI, lstAt, ixAt, lenAt, oPut, newOb, gLen, gInt, gTuple, Sm.f1, Sm.f2, gList, gIsi, gIx, gIsN, gNoN, gIsB, iRng, iRngB, seqOf, iSeqN, iSeq, bName, bNil, bCons, bTup, wipeE, tTrue, mNx, mSeq, mRet, mRetF, mRetN, mRetO, mIf, mSet, mSetO, mBk, mCt, mPre, mLock, mAsg, mFor, startE, resD, runQ, runF, qCall, fCall, arity, eQ, eF, eT, eNil, eCons, Sm.e1, Sm.e2, eTup, efLst, eLock, eIf, etV, eCall, efCall, enl, eNot, eAnd, eOr, resE, runE, runEF, mE, mSetE, mSetOE, mRetE, mRetFE, mIfE, mAsgE, oNone, oSome, gSl, qSl, fSl, gAll, gAny, qChain, gIn, pNil, pV, pL, mPar2, gCat, ef2, mAppE, mExtE, mPut, eNew, ePop, oPop, iE, iRngE, iSeqE, mForE, gRev, gRevL, iEnu, mHold, gTupR, nl, nlAll, ixN, PyData.isInt, PyData.isBool, PyData.isStr, PyData.isTuple, PyData.isList, PyData.isDict, fp3, okX, s2, rp']
  · have w : (head.length : Int) + (vs.length + tail.length) - tail.length = head.length + vs.length := by omega
    simp [qV, qVs, qC, Sm.q1, Sm.q2, qNl, qIf, aNil, aCons, dOf, dsOf, qTup, fLst, qF, gTru, tV, tAndF, tOrF, tNotF, qT, qAnd, qOr, qNot, gI, gI0, gB0, cMul, cDiv, cPow, gNeg, gAdd, eqI, neI, lstAt, ixAt, lenAt, oPut, newOb, gLen, gInt, gTuple, Sm.f1, Sm.f2, gList, gIsi, gIx, gIsN, gNoN, gIsB, iRng, iRngB, seqOf, iSeqN, iSeq, bName, bNil, bCons, bTup, wipeE, tTrue, mNx, mSeq, mRet, mRetF, mRetN, mRetO, mIf, mSet, mSetO, mBk, mCt, mPre, mLock, mAsg, mFor, startE, resD, runQ, runF, qCall, fCall, arity, eQ, eF, eT, eNil, eCons, Sm.e1, Sm.e2, eTup, efLst, eLock, eIf, etV, eCall, efCall, enl, eNot, eAnd, eOr, resE, runE, runEF, mE, mSetE, mSetOE, mRetE, mRetFE, mIfE, mAsgE, oNone, oSome, gSl, qSl, fSl, gAll, gAny, qChain, gIn, pNil, pV, pL, mPar2, gCat, ef2, mAppE, mExtE, mPut, eNew, ePop, oPop, iE, iRngE, iSeqE, mForE, gRev, gRevL, iEnu, mHold, gTupR, nl, nlAll, ixN, PyData.isInt, PyData.isBool, PyData.isStr, PyData.isTuple, PyData.isList, PyData.isDict, s2, fn3, w]
  -- drawn bytes
  refine wp.sq (wp.setE (byE_ (lo := 0) (hi := 11) (by decide) (dc rfl (by decide) (by decide) b5) (fun x h hb => ?_) fun D h6 hBD _ hlD b6 => ⟨rfl, ?_⟩))
  · refine evE.nl (evE.e2 (evE.tup (evA.cons (drq (set_at (by decide) rfl _) rfl hb (by decide) (by decide) fun c1 g1 hc1 u1 => evA.cons (drq (set_at (by decide) rfl _) rfl u1 (by decide) (by decide) fun c2 g2 hc2 u2 => evA.nil ⟨_, rfl, (by decide : 2 ≤ 1000000), drq (set_at (by decide) rfl _) rfl u2 (by decide) (by decide) fun c3 g3 hc3 u3 => ?_⟩)))))
    have : c3 = 0 ∨ c3 = 1 := by omega
    rcases this with rfl | rfl
    · exact ⟨.d (.int c1), rfl, ⟨_, rfl, rfl⟩, c1, rfl, by omega, by omega, u3⟩
    · exact ⟨.d (.int c2), rfl, ⟨_, rfl, rfl⟩, c2, rfl, by omega, by omega, u3⟩
  refine tests_ hBD hlD fun x y => ?_
  -- bytes that are too short
  have ci := cutNeg cs ll1
  have hi : ∀ (e : En) (h : Hs), e[6]? = some (.v (.d (.tuple (iL cs)))) → iSeqT (qTup (aCons (qSl (qVs 6) oNone (oSome (q1 gNeg (qC (.d (.int 1)))))) (aCons (q2 gAdd (q2 gMulX (qTup (aCons (qC (.d (.int 128))) aNil)) (qC (.d (.int 3)))) (qTup (aCons (qC (.d (.int 0))) aNil))) aNil))) e h = some [.tuple (iL (cs.take (cs.length - 1))), .tuple (iL [128, 128, 128, 0])] := by
    intro e h he
    have s4 : 3 + 1 ≤ sizeLine := by omega
    have s1 := one_sl
    have m3 : gMulX h (.d (.tuple [.int 128])) (.d (.int 3)) = some (.d (.tuple [.int 128, .int 128, .int 128])) := rfl
    simp only [iL] at ci
    simp [iSeqT, qV, qVs, qC, Sm.q1, Sm.q2, qNl, qIf, aNil, aCons, dOf, dsOf, qTup, fLst, qF, gTru, tV, tAndF, tOrF, tNotF, qT, qAnd, qOr, qNot, gI, gI0, gB0, cMul, cDiv, cPow, gNeg, gAdd, eqI, neI, lstAt, ixAt, lenAt, oPut, newOb, gLen, gInt, gTuple, Sm.f1, Sm.f2, gList, gIsi, gIx, gIsN, gNoN, gIsB, iRng, iRngB, seqOf, iSeqN, iSeq, bName, bNil, bCons, bTup, wipeE, tTrue, mNx, mSeq, mRet, mRetF, mRetN, mRetO, mIf, mSet, mSetO, mBk, mCt, mPre, mLock, mAsg, mFor, startE, resD, runQ, runF, qCall, fCall, arity, eQ, eF, eT, eNil, eCons, Sm.e1, Sm.e2, eTup, efLst, eLock, eIf, etV, eCall, efCall, enl, eNot, eAnd, eOr, resE, runE, runEF, mE, mSetE, mSetOE, mRetE, mRetFE, mIfE, mAsgE, oNone, oSome, gSl, qSl, fSl, gAll, gAny, qChain, gIn, pNil, pV, pL, mPar2, gCat, ef2, mAppE, mExtE, mPut, eNew, ePop, oPop, iE, iRngE, iSeqE, mForE, gRev, gRevL, iEnu, mHold, gTupR, nl, nlAll, ixN, PyData.isInt, PyData.isBool, PyData.isStr, PyData.isTuple, PyData.isList, PyData.isDict, he, ci, m3, s1, s2, s4]
  refine wp.sq (wp.for (fun _ e h => (∃ x y : Sl, e = E23 a0 a2 (.v (.d (.int n))) (.v (.d (.tuple (iL head)))) (.v (.d (.tuple (iL tail)))) (.v (.d (.tuple (iL cs)))) (.v (.d (.str (tx is)))) (.v (.d (.tuple (iL (head ++ vs ++ tail))))) (.v (.d v.d)) (.v (.d (.tuple (iL D)))) x y .un a14 a15 a16 a17 a18 a19 a20 a21 a22) ∧ h = h6) (hi _ _ rfl) ⟨⟨x, y, rfl⟩, rfl⟩ (fun j S e h hx ⟨⟨x, y, he⟩, hh⟩ => ?_) fun e h ⟨⟨x, y, he⟩, hh⟩ => ⟨rfl, ?_⟩)
  · subst he hh
    obtain ⟨T, rfl, T1, T2, T3⟩ : ∃ T : List Int, S = .tuple (iL T) ∧ Byt T ∧ T.length ≤ 1000 ∧ rdn T = none := by
      match j, hx with
      | 0, hx => cases hx; exact ⟨_, rfl, hBn.take _, by rw [List.length_take]; omega, hcut⟩
      | 1, hx => cases hx; exact ⟨_, rfl, by intro x hx; simp at hx; omega, by decide, by decide⟩
    refine ⟨_, rfl, ?_⟩
    obtain ⟨e', e2⟩ := short_ (a0 := a0) (a2 := a2) (a3 := .v (.d (.int n))) (a4 := .v (.d (.tuple (iL head)))) (a5 := .v (.d (.tuple (iL tail)))) (a6 := .v (.d (.tuple (iL cs)))) (a7 := .v (.d (.str (tx is)))) (a8 := .v (.d (.tuple (iL (head ++ vs ++ tail))))) (a9 := .v (.d v.d)) (a10 := .v (.d (.tuple (iL D)))) (a11 := x) (a12 := y) (a14 := a14) (a15 := a15) (a16 := a16) (a17 := a17) (a18 := a18) (a19 := a19) (a20 := a20) (a21 := a21) (a22 := a22) (h := h) T1 T2 T3
    exact wp.of e2 ⟨.inl rfl, ⟨_, _, rfl⟩, rfl⟩
  subst he hh
  -- checks
  refine wp.sq (wp.setE (evE.e2 (evE.tup (evA.cons (drq rfl rfl b6 (by decide) (by decide) fun c1 h7 hc1 b7 => evA.cons (evE.pq (x := .d (.int 0)) rfl (evA.cons (evE.pq (x := .d (.int 255)) rfl (evA.nil ⟨_, rfl, (by decide : 3 ≤ 1000000), drq rfl rfl b7 (by decide) (by decide) fun c2 h8 hc2 b8 => ?_⟩)))))))))
  obtain ⟨many, em, m0, m1⟩ : ∃ m : Int, gIx h8 (.d (.tuple [.int c1, .int 0, .int 255])) (.d (.int c2)) = some (.d (.int m)) ∧ 0 ≤ m ∧ m < 256 := by
    have : c2 = 0 ∨ c2 = 1 ∨ c2 = 2 := by omega
    rcases this with rfl | rfl | rfl
    · exact ⟨c1, rfl, by omega, by omega⟩
    · exact ⟨0, rfl, by omega, by omega⟩
    · exact ⟨255, rfl, by omega, by omega⟩
  refine ⟨_, em, rfl, ?_⟩
  refine wp.sq (wp.setE (byE_ (lo := 1) (hi := 30) (by decide) (evE.e2 (evE.pq (x := .d (.int 1)) rfl (drq rfl rfl b8 (by decide) (by decide) fun c h hc u => ⟨.d (.int ((1 + c : Nat) : Int)), by simp [qV, qVs, qC, Sm.q1, Sm.q2, qNl, qIf, aNil, aCons, dOf, dsOf, qTup, fLst, qF, gTru, tV, tAndF, tOrF, tNotF, qT, qAnd, qOr, qNot, gI, gI0, gB0, cMul, cDiv, cPow, gNeg, gAdd, eqI, neI, lstAt, ixAt, lenAt, oPut, newOb, gLen, gInt, gTuple, Sm.f1, Sm.f2, gList, gIsi, gIx, gIsN, gNoN, gIsB, iRng, iRngB, seqOf, iSeqN, iSeq, bName, bNil, bCons, bTup, wipeE, tTrue, mNx, mSeq, mRet, mRetF, mRetN, mRetO, mIf, mSet, mSetO, mBk, mCt, mPre, mLock, mAsg, mFor, startE, resD, runQ, runF, qCall, fCall, arity, eQ, eF, eT, eNil, eCons, Sm.e1, Sm.e2, eTup, efLst, eLock, eIf, etV, eCall, efCall, enl, eNot, eAnd, eOr, resE, runE, runEF, mE, mSetE, mSetOE, mRetE, mRetFE, mIfE, mAsgE, oNone, oSome, gSl, qSl, fSl, gAll, gAny, qChain, gIn, pNil, pV, pL, mPar2, gCat, ef2, mAppE, mExtE, mPut, eNew, ePop, oPop, iE, iRngE, iSeqE, mForE, gRev, gRevL, iEnu, mHold, gTupR, nl, nlAll, ixN, PyData.isInt, PyData.isBool, PyData.isStr, PyData.isTuple, PyData.isList, PyData.isDict], 1 + c, rfl, by omega, by omega, u⟩))) (fun x h hb => ?_) fun I h9 hBI hl9 hl10 b9 => ⟨rfl, ?_⟩))
  · refine evE.nl (evE.e2 (evE.tup (evA.cons (drq (set_at (by decide) rfl _) rfl hb (by decide) (by decide) fun c1 g1 hc1 u1 => evA.cons (evE.pq (x := .d (.int many)) (qvs_at (set_at (by decide) rfl _)) (evA.nil ⟨_, rfl, (by decide : 2 ≤ 1000000), drq (set_at (by decide) rfl _) rfl u1 (by decide) (by decide) fun c3 g3 hc3 u3 => ?_⟩))))))
    have : c3 = 0 ∨ c3 = 1 := by omega
    rcases this with rfl | rfl
    · exact ⟨.d (.int c1), rfl, ⟨_, rfl, rfl⟩, c1, rfl, by omega, by omega, u3⟩
    · exact ⟨.d (.int many), rfl, ⟨_, rfl, rfl⟩, many, rfl, by omega, by omega, u3⟩
  refine wp.sq (wp.par2 (evP.v (drq (m := (I.length : Int)) rfl (by simp [qV, qVs, qC, Sm.q1, Sm.q2, qNl, qIf, aNil, aCons, dOf, dsOf, qTup, fLst, qF, gTru, tV, tAndF, tOrF, tNotF, qT, qAnd, qOr, qNot, gI, gI0, gB0, cMul, cDiv, cPow, gNeg, gAdd, eqI, neI, lstAt, ixAt, lenAt, oPut, newOb, gLen, gInt, gTuple, Sm.f1, Sm.f2, gList, gIsi, gIx, gIsN, gNoN, gIsB, iRng, iRngB, seqOf, iSeqN, iSeq, bName, bNil, bCons, bTup, wipeE, tTrue, mNx, mSeq, mRet, mRetF, mRetN, mRetO, mIf, mSet, mSetO, mBk, mCt, mPre, mLock, mAsg, mFor, startE, resD, runQ, runF, qCall, fCall, arity, eQ, eF, eT, eNil, eCons, Sm.e1, Sm.e2, eTup, efLst, eLock, eIf, etV, eCall, efCall, enl, eNot, eAnd, eOr, resE, runE, runEF, mE, mSetE, mSetOE, mRetE, mRetFE, mIfE, mAsgE, oNone, oSome, gSl, qSl, fSl, gAll, gAny, qChain, gIn, pNil, pV, pL, mPar2, gCat, ef2, mAppE, mExtE, mPut, eNew, ePop, oPop, iE, iRngE, iSeqE, mForE, gRev, gRevL, iEnu, mHold, gTupR, nl, nlAll, ixN, PyData.isInt, PyData.isBool, PyData.isStr, PyData.isTuple, PyData.isList, PyData.isDict]) b9 (by omega) (by omega) fun k g1 hk u1 => evP.v (evE.e2 (evE.pq (x := .d (.int 1)) rfl (drq rfl rfl u1 (by decide) (by decide) fun c h10 hc b10 => ⟨.d (.int ((1 + c : Nat) : Int)), by simp [qV, qVs, qC, Sm.q1, Sm.q2, qNl, qIf, aNil, aCons, dOf, dsOf, qTup, fLst, qF, gTru, tV, tAndF, tOrF, tNotF, qT, qAnd, qOr, qNot, gI, gI0, gB0, cMul, cDiv, cPow, gNeg, gAdd, eqI, neI, lstAt, ixAt, lenAt, oPut, newOb, gLen, gInt, gTuple, Sm.f1, Sm.f2, gList, gIsi, gIx, gIsN, gNoN, gIsB, iRng, iRngB, seqOf, iSeqN, iSeq, bName, bNil, bCons, bTup, wipeE, tTrue, mNx, mSeq, mRet, mRetF, mRetN, mRetO, mIf, mSet, mSetO, mBk, mCt, mPre, mLock, mAsg, mFor, startE, resD, runQ, runF, qCall, fCall, arity, eQ, eF, eT, eNil, eCons, Sm.e1, Sm.e2, eTup, efLst, eLock, eIf, etV, eCall, efCall, enl, eNot, eAnd, eOr, resE, runE, runEF, mE, mSetE, mSetOE, mRetE, mRetFE, mIfE, mAsgE, oNone, oSome, gSl, qSl, fSl, gAll, gAny, qChain, gIn, pNil, pV, pL, mPar2, gCat, ef2, mAppE, mExtE, mPut, eNew, ePop, oPop, iE, iRngE, iSeqE, mForE, gRev, gRevL, iEnu, mHold, gTupR, nl, nlAll, ixN, PyData.isInt, PyData.isBool, PyData.isStr, PyData.isTuple, PyData.isList, PyData.isDict], evP.nil ⟨_, _, rfl, rfl, ?_⟩⟩))))))
  obtain ⟨pre, b, post, hI, hkl⟩ : ∃ (pre : List Int) (b : Int) (post : List Int), I = pre ++ b :: post ∧ pre.length = k := ⟨I.take k, I[k]'(by omega), I.drop (k + 1), by simp, by simp; omega⟩
  have hb0 := hBI b (by rw [hI]; simp)
  have ea : atI (iL I) (k : Int) = some (.int b) := atN (by rw [List.getElem?_map, hI, ← hkl]; simp)
  have ct := cutTo I k (by omega)
  have cf : cutD (iL I) (some ((k : Int) + 1)) none = iL (I.drop (k + 1)) := cutFrom I (k + 1) (by omega)
  have tk : I.take k = pre := by rw [hI, ← hkl]; simp
  have dk : I.drop (k + 1) = post := by rw [hI, ← hkl]; simp
  rw [tk] at ct
  rw [dk] at cf
  obtain ⟨byte, hby, y0, y1, y2⟩ : ∃ y : Int, (if b + ((1 + c : Nat) : Int) < 256 then b + ((1 + c : Nat) : Int) else b + ((1 + c : Nat) : Int) - 256) = y ∧ 0 ≤ y ∧ y < 256 ∧ b ≠ y := ⟨_, rfl, by split <;> omega, by split <;> omega, by split <;> omega⟩
  have lI : I.length = pre.length + (post.length + 1) := by rw [hI]; simp
  simp only [iL] at ea ct cf
  refine wp.sq (wp.set (x := .d (.int byte)) (by
    by_cases z : b + ((1 + c : Nat) : Int) < 256
    · rw [if_pos z] at hby
      simp at z hby
      simp [qV, qVs, qC, Sm.q1, Sm.q2, qNl, qIf, aNil, aCons, dOf, dsOf, qTup, fLst, qF, gTru, tV, tAndF, tOrF, tNotF, qT, qAnd, qOr, qNot, gI, gI0, gB0, cMul, cDiv, cPow, gNeg, gAdd, eqI, neI, lstAt, ixAt, lenAt, oPut, newOb, gLen, gInt, gTuple, Sm.f1, Sm.f2, gList, gIsi, gIx, gIsN, gNoN, gIsB, iRng, iRngB, seqOf, iSeqN, iSeq, bName, bNil, bCons, bTup, wipeE, tTrue, mNx, mSeq, mRet, mRetF, mRetN, mRetO, mIf, mSet, mSetO, mBk, mCt, mPre, mLock, mAsg, mFor, startE, resD, runQ, runF, qCall, fCall, arity, eQ, eF, eT, eNil, eCons, Sm.e1, Sm.e2, eTup, efLst, eLock, eIf, etV, eCall, efCall, enl, eNot, eAnd, eOr, resE, runE, runEF, mE, mSetE, mSetOE, mRetE, mRetFE, mIfE, mAsgE, oNone, oSome, gSl, qSl, fSl, gAll, gAny, qChain, gIn, pNil, pV, pL, mPar2, gCat, ef2, mAppE, mExtE, mPut, eNew, ePop, oPop, iE, iRngE, iSeqE, mForE, gRev, gRevL, iEnu, mHold, gTupR, nl, nlAll, ixN, PyData.isInt, PyData.isBool, PyData.isStr, PyData.isTuple, PyData.isList, PyData.isDict, ea, z, hby]
      omega
    · rw [if_neg z] at hby
      simp at z hby
      have z' : ¬ b + (1 + (c : Int)) < 256 := by omega
      simp [qV, qVs, qC, Sm.q1, Sm.q2, qNl, qIf, aNil, aCons, dOf, dsOf, qTup, fLst, qF, gTru, tV, tAndF, tOrF, tNotF, qT, qAnd, qOr, qNot, gI, gI0, gB0, cMul, cDiv, cPow, gNeg, gAdd, eqI, neI, lstAt, ixAt, lenAt, oPut, newOb, gLen, gInt, gTuple, Sm.f1, Sm.f2, gList, gIsi, gIx, gIsN, gNoN, gIsB, iRng, iRngB, seqOf, iSeqN, iSeq, bName, bNil, bCons, bTup, wipeE, tTrue, mNx, mSeq, mRet, mRetF, mRetN, mRetO, mIf, mSet, mSetO, mBk, mCt, mPre, mLock, mAsg, mFor, startE, resD, runQ, runF, qCall, fCall, arity, eQ, eF, eT, eNil, eCons, Sm.e1, Sm.e2, eTup, efLst, eLock, eIf, etV, eCall, efCall, enl, eNot, eAnd, eOr, resE, runE, runEF, mE, mSetE, mSetOE, mRetE, mRetFE, mIfE, mAsgE, oNone, oSome, gSl, qSl, fSl, gAll, gAny, qChain, gIn, pNil, pV, pL, mPar2, gCat, ef2, mAppE, mExtE, mPut, eNew, ePop, oPop, iE, iRngE, iSeqE, mForE, gRev, gRevL, iEnu, mHold, gTupR, nl, nlAll, ixN, PyData.isInt, PyData.isBool, PyData.isStr, PyData.isTuple, PyData.isList, PyData.isDict, ea, z', hby]) ⟨rfl, ?_⟩)
  refine wp.no ?_ (wp.nx ⟨rfl, rfl, rfl, b10⟩)
  have k1 := check_of_ I h10
  have k2 := law_check_ I h10
  have k3 := check_of_ (pre ++ byte :: post) h10
  have k4 := ck_change pre post hb0.1 hb0.2 y0 y1 y2
  rw [← hI] at k4
  have k5 : ¬ ck 1 (pre ++ byte :: post) = ck 1 I := fun z => k4 z.symm
  have q1' := same_ 12 (.int (ck 1 I)) rfl h10
  have z1 : pre.length + 1 ≤ sizeLine := by omega
  have z2 : pre.length + (1 + post.length) ≤ sizeLine := by omega
  have z3 : pre.length + 1 + post.length ≤ sizeLine := by omega
  have z4 : pre.length + (post.length + 1) ≤ sizeLine := by omega
  have s1 := one_sl
  generalize ck 1 I = x1 at *
  generalize ck 1 (pre ++ byte :: post) = x2 at *
  simp at k3
  simp [qV, qVs, qC, Sm.q1, Sm.q2, qNl, qIf, aNil, aCons, dOf, dsOf, qTup, fLst, qF, gTru, tV, tAndF, tOrF, tNotF, qT, qAnd, qOr, qNot, gI, gI0, gB0, cMul, cDiv, cPow, gNeg, gAdd, eqI, neI, lstAt, ixAt, lenAt, oPut, newOb, gLen, gInt, gTuple, Sm.f1, Sm.f2, gList, gIsi, gIx, gIsN, gNoN, gIsB, iRng, iRngB, seqOf, iSeqN, iSeq, bName, bNil, bCons, bTup, wipeE, tTrue, mNx, mSeq, mRet, mRetF, mRetN, mRetO, mIf, mSet, mSetO, mBk, mCt, mPre, mLock, mAsg, mFor, startE, resD, runQ, runF, qCall, fCall, arity, eQ, eF, eT, eNil, eCons, Sm.e1, Sm.e2, eTup, efLst, eLock, eIf, etV, eCall, efCall, enl, eNot, eAnd, eOr, resE, runE, runEF, mE, mSetE, mSetOE, mRetE, mRetFE, mIfE, mAsgE, oNone, oSome, gSl, qSl, fSl, gAll, gAny, qChain, gIn, pNil, pV, pL, mPar2, gCat, ef2, mAppE, mExtE, mPut, eNew, ePop, oPop, iE, iRngE, iSeqE, mForE, gRev, gRevL, iEnu, mHold, gTupR, nl, nlAll, ixN, PyData.isInt, PyData.isBool, PyData.isStr, PyData.isTuple, PyData.isList, PyData.isDict, k1, k2, k3, q1', ct, cf, z1, z2, z3, z4, s1, eqI, k5]
end K18

set_option Elab.async false
set_option linter.all false
set_option maxRecDepth 100000
set_option maxHeartbeats 4000000
set_option exponentiation.threshold 5000
namespace K18
open PySem L2 Evl Sm
/-! ### the end of the law -/
abbrev fin5 : M1 := (mRet .mo (qAnd (q2 gEq (qF (fCall (arity 1 r_number_bytes) (aCons (qC (.d (.int 1000))) aNil))) (qF (fLst (aCons (qC (.d (.int 232))) (aCons (qC (.d (.int 7))) aNil))))) (q2 gEq (qF (fCall (arity 1 (g_plain_bytes 6)) (aCons (qTup (aCons (qC (.d (.int 1))) (aCons (qC (.d .none)) (aCons (qC (.d (.str "a"))) aNil)))) aNil))) (qF (fLst (aCons (qC (.d (.int 3))) (aCons (qC (.d (.int 3))) (aCons (qC (.d (.int 1))) (aCons (qC (.d (.int 1))) (aCons (qC (.d (.int 0))) (aCons (qC (.d (.int 2))) (aCons (qC (.d (.int 1))) (aCons (qC (.d (.int 0))) aNil)))))))))))))
theorem fin5_ (env : En) (h : Hs) : fin5 env h = some (.rt .mo (.d (.bool true)), env, h) := by kernel_rfl
section
variable (a0 a2 a3 a4 a5 a6 a7 a8 a9 a10 a11 a12 a13 a14 a15 a16 a17 a18 a19 a20 a21 a22 : Sl) (h : Hs)
def dv : Nat → PyData
  | 0 => .tuple []
  | k + 1 => .tuple [dv k]
def db : Nat → List Int
  | 0 => [3, 0]
  | k + 1 => 3 :: 1 :: db k
theorem deep_ : mFor (iRngB (qC (.d (.int 1))) (qC (.d (.int 7)))) [21] (bName 16) b_law_4 (E23 a0 a2 a3 a4 a5 a6 a7 a8 a9 a10 a11 a12 a13 a14 a15 a16 a17 a18 (.v (.d (dv 0))) (.l (iL (db 0))) a21 a22) h
    = some (.nx, E23 a0 a2 a3 a4 a5 a6 a7 a8 a9 a10 (.v (.d (.tuple [dv 6, .int 14]))) (.v (.d .none)) a13 a14 a15 (.v (.d (.int 6))) a17 a18 (.v (.d (dv 6))) (.l (iL (db 6))) .un a22, h) := by kernel_rfl
abbrev itT : I1 := (iSeqT (qTup (aCons (qTup aNil) (aCons (qTup (aCons (qC (.d (.int 1))) aNil)) (aCons (qTup (aCons (qC (.d (.int 2))) (aCons (qC (.d (.int 0))) aNil))) (aCons (qTup (aCons (qC (.d (.int 1))) (aCons (qC (.d (.int 37))) aNil))) (aCons (qTup (aCons (qC (.d (.int 3))) (aCons (qC (.d (.int 0))) (aCons (qC (.d (.int 255))) (aCons (qC (.d (.int 0))) aNil))))) (aCons (qTup (aCons (qC (.d (.int 128))) (aCons (qC (.d (.int 1))) (aCons (qC (.d (.int 0))) aNil)))) aNil))))))))
theorem texts_ : mFor itT [] (bName 10) b_law_5 (E23 a0 a2 a3 a4 a5 a6 a7 a8 a9 a10 a11 a12 a13 a14 a15 a16 a17 a18 a19 a20 a21 a22) h
    = some (.nx, E23 a0 a2 a3 a4 a5 a6 a7 a8 a9 (.v (.d (.tuple (iL [128, 1, 0])))) a11 a12 a13 a14 a15 a16 a17 a18 a19 a20 a21 a22, h) := by kernel_rfl
abbrev most : Int := 1 * 2 ^ (2800 : Int).toNat - 1
abbrev ifMost : M1 := (mIf (tNotF (tV (qCall (arity 2 (g__law_same 12)) (aCons (qTup (aCons (qF (fCall (arity 1 r_number_bytes) (aCons (qV 22) aNil))) (aCons (qCall (arity 2 r__law_number_at) (aCons (q2 gAdd (q2 gMulX (qTup (aCons (qC (.d (.int 255))) aNil)) (qC (.d (.int 399)))) (qTup (aCons (qC (.d (.int 127))) aNil))) (aCons (qC (.d (.int 0))) aNil))) aNil))) (aCons (qTup (aCons (qF (f2 gCat (qF (fRep (fLst (aCons (qC (.d (.int 255))) aNil)) (qC (.d (.int 399))))) (qF (fLst (aCons (qC (.d (.int 127))) aNil))))) (aCons (qTup (aCons (qTup (aCons (qV 22) (aCons (qC (.d (.int 400))) aNil))) (aCons (qC (.d .none)) aNil))) aNil))) aNil))))) (mRet .mo (qC (.d (.bool false)))) mNx)
abbrev ifMore : M1 := (mIf (tOrF (tNotF (tV (q1 gAll (qF (fLc (iSeqX (qTup (aCons (qC (.d (.int 400))) (aCons (qC (.d (.int 401))) (aCons (qC (.d (.int 402))) aNil))))) [14] (bName 14) tTrue (q1 gIsN (q2 gIx (qCall (arity 2 r__law_number_at) (aCons (q2 gAdd (q2 gMulX (qTup (aCons (qC (.d (.int 128))) aNil)) (qV 14)) (qTup (aCons (qC (.d (.int 1))) aNil))) (aCons (qC (.d (.int 0))) aNil))) (qC (.d (.int 0)))))))))) (tV (q1 gIsN (q2 gIx (qCall (arity 2 r__law_number_at) (aCons (q2 gAdd (q2 gMulX (qTup (aCons (qC (.d (.int 128))) aNil)) (qC (.d (.int 399)))) (qTup (aCons (qC (.d (.int 1))) aNil))) (aCons (qC (.d (.int 0))) aNil))) (qC (.d (.int 0))))))) (mRet .mo (qC (.d (.bool false)))) mNx)
theorem more_ : ifMore (E23 a0 a2 a3 a4 a5 a6 a7 a8 a9 a10 a11 a12 a13 a14 a15 a16 a17 a18 a19 a20 a21 (.v (.d (.int most)))) h = some (.nx, E23 a0 a2 a3 a4 a5 a6 a7 a8 a9 a10 a11 a12 a13 a14 a15 a16 a17 a18 a19 a20 a21 (.v (.d (.int most))), h) := by kernel_rfl
theorem most_ : ifMost (E23 a0 a2 a3 a4 a5 a6 a7 a8 a9 a10 a11 a12 a13 a14 a15 a16 a17 a18 a19 a20 a21 (.v (.d (.int most)))) h = some (.nx, E23 a0 a2 a3 a4 a5 a6 a7 a8 a9 a10 a11 a12 a13 a14 a15 a16 a17 a18 a19 a20 a21 (.v (.d (.int most))), h) := by kernel_rfl
end
theorem law_true (ns : List Int) (hl : ns.length ≤ 63) : ∃ h', r_law [.d (.list (ns.map .int))] [] = some (.d (.bool true), h') := by
  obtain ⟨h0, eb, b0⟩ := box_ ns
  have w : wp m_law (startE 22 [.d (.list (ns.map .int))]) [] (fun r e h => ∃ ℓ, r = .rt ℓ (.d (.bool true))) := by
    unfold m_law
    refine wp.sq (wp.setE (evE.call (evA.cons (evE.pq (x := .d (.list (ns.map .int))) rfl (evA.nil ⟨_, _, eb, rfl, ?_⟩)))))
    refine wp.sq (wp.no (by kernel_rfl) (wp.nx ⟨rfl, ?_⟩))
    refine wp.sq (wp.for (fun _ e h => e.length = 23 ∧ e[1]? = some (.v (.ref 1)) ∧ Bx h) (xs := (List.range 5).map fun k : Nat => PyData.int (k : Int)) (iRng_of (n := 5) rfl (by decide) (by decide)) ⟨rfl, rfl, b0⟩ (fun j x e h hx ⟨e1, e2, hb⟩ => ⟨e.set 2 (.d x), rfl, ?_⟩) fun e h ⟨e1, e2, hb⟩ => ⟨rfl, ?_⟩)
    · obtain ⟨r, e', h', er, rfl, l1, l2, b'⟩ := turn_ (env := e.set 2 (.d x)) (h := h) (by rw [List.length_set]; exact e1) (by rw [List.getElem?_set_ne (by decide)]; exact e2) hb
      refine ⟨_, e', h', er, .inl rfl, ?_, ?_, b'⟩
      · simp [wipeE, l1]
      · obtain ⟨a0, a2, a3, a4, a5, a6, a7, a8, a9, a10, a11, a12, a13, a14, a15, a16, a17, a18, a19, a20, a21, a22, rfl⟩ := lit23 l1 l2
        rfl
    · obtain ⟨a0, a2, a3, a4, a5, a6, a7, a8, a9, a10, a11, a12, a13, a14, a15, a16, a17, a18, a19, a20, a21, a22, rfl⟩ := lit23 e1 e2
      refine wp.sq (wp.par2 (evP.v (evE.pq (x := .d (dv 0)) (by kernel_rfl) (evP.l (evF.pf (xs := iL (db 0)) (by kernel_rfl) (evP.nil ⟨_, _, rfl, rfl, ?_⟩))))))
      refine wp.sq (wp.of (deep_ a0 a2 a3 a4 a5 a6 a7 a8 a9 a10 a11 a12 a13 a14 a15 a16 a17 a18 a21 a22 h) ⟨rfl, ?_⟩)
      refine wp.sq (wp.of (texts_ _ _ _ _ _ _ _ _ _ _ _ _ _ _ _ _ _ _ _ _ _ _ h) ⟨rfl, ?_⟩)
      refine wp.sq (wp.set (x := .d (.int most)) (by kernel_rfl) ⟨rfl, ?_⟩)
      refine wp.sq (wp.of (most_ _ _ _ _ _ _ _ _ _ _ _ _ _ _ _ _ _ _ _ _ _ h) ⟨rfl, ?_⟩)
      refine wp.sq (wp.of (more_ _ _ _ _ _ _ _ _ _ _ _ _ _ _ _ _ _ _ _ _ _ h) ⟨rfl, ?_⟩)
      exact wp.of (fin5_ _ h) ⟨_, rfl⟩
  obtain ⟨r, e, h', er, ℓ, rfl⟩ := w
  exact ⟨h', run_e er rfl⟩
end K18

set_option Elab.async false
set_option linter.all false
set_option maxRecDepth 100000
set_option maxHeartbeats 0
namespace K18
open PySem PySem.Spec PyProof.Rows L2 Evl Sm
def g0 (K : PySem.W.Frag) : Glo := ⟨K, fun _ => 0, fun _ => [], fun _ => 0, fun _ => List.nodup_nil, fun _ => (by show 0 < 900; decide)⟩
theorem facts {w : World} {K : PySem.W.Frag} {h : Heap} {mg : Str → Option Value} {f : Addr} (X : K.In h) (N : h.Ns mainGlobals mg) (hfa : mg ("law" : Str) = some (.ref f)) (c : SaysE fa dn cs R.prog es K) :
    ∃ (fd : FuncData) (G : Glo), G.K = K ∧ (∀ (s : Shared) (v : Value), BindsTo s fd ⟨[v], []⟩ [("script", v)]) ∧ ∀ base : Heap, K.In base → base.Ns mainGlobals mg → FnOk R.prog w K mg base CX0 22 f fd ["script"] (spE G 1 r_law) := by
  obtain ⟨ff, fd, T, hf⟩ := txt (G := g0 K) rfl X N c
  obtain ⟨fdL, FL⟩ := c.1.1.def_ 21
  have e := hfa.symm.trans (He.glo_ok X N (c.1.1.fact 21))
  cases e
  have b := FunD.bindsA (ps := ["script"]) FL fun _ _ _ _ _ _ us hl => match us, hl with | [_], _ => rfl
  have same : fd 21 = fdL := by
    obtain ⟨⟨_, _, _, _, _, _, _, _, _, e1, l1, _⟩, _⟩ := T.d21.fn
    obtain ⟨⟨_, _, _, _, _, _, _, _, _, _, e2, l2, _⟩, _⟩ := FL
    rw [hf] at l1
    have q := l1.symm.trans l2
    simp only [Option.some.injEq, Obj.mk.injEq, Data.func.injEq] at q
    exact q.2.2.1
  refine ⟨fdL, g0 K, rfl, fun s v => b s [v] rfl, fun base _ _ => ?_⟩
  rw [← same]
  have z := ok_law (P := R.prog) (w := w) (base := base) T
  rw [hf] at z
  exact z
end K18
open PySem PySem.W PySem.Calls PyProof.Rows
theorem PySem.Challenge.cw_treesheld_k18_whole_small_bytes_holds : PySem.Challenge.rw_treesheld_k18_whole_small_bytes.Holds := by
  w_on; o_law
  refine HandSHeadRun.head_any (r := OpenLaw.row PySem.Challenge.rw_treesheld_k18_whole_small_bytes) (q := view (OpenLaw.row PySem.Challenge.rw_treesheld_k18_whole_small_bytes).prog [38]) (H := K18.hk) (ob := K18.ob) (M := 100000) (loose := K18.ls) (d := HandSHeadRun.topDef (OpenLaw.row PySem.Challenge.rw_treesheld_k18_whole_small_bytes).prog 38) (kwd := []) K18.ob_eq
    (by kernel_rfl) (fun s => by kernel_rfl) K18.run (by kernel_rfl) (by kernel_rfl) (by kernel_rfl) (by rfl) (by first | assumption | decide +kernel) (by decide +kernel) ⟨rfl, rfl, rfl, rfl, rfl, by decide +kernel⟩ ?hw ?hc
  case hw => w_witness2
  case hc =>
    refine L2.walk_ofE (l := PySem.Challenge.rw_treesheld_k18_whole_small_bytes) (n := 63) (k := 22) (x := "script") (CX := L2.CX0) rfl (by decide) (by kernel_rfl) ⟨rfl, by decide, by decide⟩ ?F (fun _ _ _ _ z => z)
    intro w mg fa h Y N hmg0
    obtain ⟨K, KX, c⟩ := Y
    have hmg : mg ("law" : PySem.Str) = some (.ref fa) := by
      have e : (HandSHeadRun.topDef (OpenLaw.row PySem.Challenge.rw_treesheld_k18_whole_small_bytes).prog 38).name = ("law" : PySem.Str) := by kernel_rfl
      rw [← e]
      exact hmg0
    obtain ⟨fd, G, gK, hb, hF⟩ := K18.facts (w := w) KX N hmg c
    refine ⟨K, fd, Sm.spE G 1 K18.r_law, KX, hb, fun H a ns hl _ hS => ?_, hF⟩
    obtain ⟨h', e⟩ := K18.law_true ns hl
    subst gK
    exact Sm.enter e hS _
#print axioms PySem.Challenge.cw_treesheld_k18_whole_small_bytes_holds

